import PyProof.Rows.All
import Wide.All
import OpenK.AllK
import Wide.FinOn
import PyProof.EqAt
import PyProof.EqKinds
import PyProof.TupleCall
import HandS.Base
import HandS.Call
import HandS.List
import HandS.Comp
import HandS.Ends
import HandS.Dict
import HandS.Iter
import HandS.Text
import HandS.Words
import HandS.WordsList
import HandS.WordsDict
import HandS.WordsExc
import HandS.Exc
import HandS.TryOnly
import HandS.ExcOwn
import HandS.IsInst
import HandS.Deep
import HandS.Zip
import HandS.Style
import HandS.TupAny
import HandS.TupLe
import HandS.Flow
import HandS.Defaults
import HandS.Evl
import HandS.TupLen
import HandS.Conv
import HandS.HotCalls
import HandS.ExcIs
import HandS.Head0
import HandS.Head1
import HandS.Head2
import HandS.HeadEnd
import HandS.HeadHook1
import HandS.HeadHook2
import KE.GoesMore
import KE.GoesEnum
import HandS.TupMul
import HandS.SetFor
import HandS.Strs
import KE.KDictZip
import KE.KDictPairs
import PySem.Challenge.RW_farclocks_k21_whole_worlds
set_option Elab.async false
set_option linter.all false
set_option maxRecDepth 100000
set_option maxHeartbeats 2000000
namespace Fc
open PySem L2 Evl
abbrev D := PyData

/-! ### results -/
inductive R (α : Type) where
  | ok (a : α) | er (c : Str) | bad
def R.bind {α β : Type} : R α → (α → R β) → R β
  | .ok a, f => f a
  | .er c, _ => .er c
  | .bad, _ => .bad
instance : Monad R := { pure := R.ok, bind := R.bind }
@[simp] theorem R.bind_ok {α β : Type} (a : α) (f : α → R β) : (R.ok a).bind f = f a := rfl
@[simp] theorem R.bind_er {α β : Type} (c : Str) (f : α → R β) : (R.er c : R α).bind f = .er c := rfl
@[simp] theorem R.bind_bad {α β : Type} (f : α → R β) : (R.bad : R α).bind f = .bad := rfl

inductive Slot where
  | un | fz (d : D) | ow (d : D) | ot (d : D) | lk (d : D)
abbrev En := List Slot
abbrev DE := En → R D

/-! ### what a value stands for -/
def kD : Key → D
  | .inl i => .int i
  | .inr x => .str x
def keyD (k : List Key) : D := .tuple (k.map kD)
mutual
inductive Rp (K : PySem.W.Frag) (H : Hp) : V → D → Prop
  | non : Rp K H .non .none
  | bl (b : Bool) : Rp K H (.bl b) (.bool b)
  | int (i : Int) : Rp K H (.int i) (.int i)
  | str (x : Str) : Rp K H (.str x) (.str x)
  | lst {a : Addr} {xs : List V} {ds : List D} : H a = some (.lst xs) → RpA K H xs ds → Rp K H (.ref a) (.list ds)
  | scr {a : Addr} {ns : List Int} : SqL K H a (ns.map V.int) → Rp K H (.ref a) (.dict [(.none, .list (ns.map PyData.int))])
  | ex (a : Addr) : Rp K H (.ref a) (.dict [(.bool true, .int (a : Nat))])
  | tup {a : Addr} {xs : List V} {ds : List D} : H a = some (.tup xs) → RpA K H xs ds → Rp K H (.ref a) (.tuple ds)
  | dct {a : Addr} {kvs : List (List Key × V)} {es : List (D × D)} : Rd H a (.dT kvs) → RpE K H kvs es → Rp K H (.ref a) (.dict es)
inductive RpA (K : PySem.W.Frag) (H : Hp) : List V → List D → Prop
  | nil : RpA K H [] []
  | cons {v : V} {vs : List V} {d : D} {ds : List D} : Rp K H v d → RpA K H vs ds → RpA K H (v :: vs) (d :: ds)
inductive RpE (K : PySem.W.Frag) (H : Hp) : List (List Key × V) → List (D × D) → Prop
  | nil : RpE K H [] []
  | cons {k : List Key} {v : V} {kvs : List (List Key × V)} {d : D} {es : List (D × D)} : Rp K H v d → RpE K H kvs es → RpE K H ((k, v) :: kvs) ((keyD k, d) :: es)
end
section
variable {K : PySem.W.Frag} {H H' : Hp}
mutual
theorem Rp.mono (e : Ex H H') : ∀ {v : V} {d : D}, Rp K H v d → Rp K H' v d
  | _, _, .non => .non
  | _, _, .bl b => .bl b
  | _, _, .int i => .int i
  | _, _, .str x => .str x
  | _, _, .lst h r => .lst (e _ _ h) (RpA.mono e r)
  | _, _, .scr h => .scr (ex_l e h)
  | _, _, .ex a => .ex a
  | _, _, .tup h r => .tup (e _ _ h) (RpA.mono e r)
  | _, _, .dct h r => .dct (h.imp (e _ _) fun ⟨o, h⟩ => ⟨o, e _ _ h⟩) (RpE.mono e r)
theorem RpA.mono (e : Ex H H') : ∀ {vs : List V} {ds : List D}, RpA K H vs ds → RpA K H' vs ds
  | _, _, .nil => .nil
  | _, _, .cons h r => .cons (Rp.mono e h) (RpA.mono e r)
theorem RpE.mono (e : Ex H H') : ∀ {vs : List (List Key × V)} {ds : List (D × D)}, RpE K H vs ds → RpE K H' vs ds
  | _, _, .nil => .nil
  | _, _, .cons h r => .cons (Rp.mono e h) (RpE.mono e r)
end
theorem RpA.length : ∀ {vs : List V} {ds : List D}, RpA K H vs ds → vs.length = ds.length
  | _, _, .nil => rfl
  | _, _, .cons _ r => congrArg (· + 1) (RpA.length r)
theorem RpA.get : ∀ {vs : List V} {ds : List D} {i : Nat} {v : V}, RpA K H vs ds → vs[i]? = some v → ∃ d, ds[i]? = some d ∧ Rp K H v d
  | _, _, _, _, .nil, e => by simp at e
  | _, _, 0, _, .cons h _, e => by simp at e; subst e; exact ⟨_, rfl, h⟩
  | _, _, i + 1, v, .cons _ r, e => by
    obtain ⟨d, h1, h2⟩ := RpA.get (i := i) (v := v) r (by simpa using e)
    exact ⟨d, by simpa using h1, h2⟩
theorem RpA.getD : ∀ {vs : List V} {ds : List D} {i : Nat} {d : D}, RpA K H vs ds → ds[i]? = some d → ∃ v, vs[i]? = some v ∧ Rp K H v d
  | _, _, _, _, .nil, e => by simp at e
  | _, _, 0, _, .cons h _, e => by simp at e; subst e; exact ⟨_, rfl, h⟩
  | _, _, i + 1, d, .cons _ r, e => by
    obtain ⟨v, h1, h2⟩ := RpA.getD (i := i) (d := d) r (by simpa using e)
    exact ⟨v, by simpa using h1, h2⟩
theorem RpA.append : ∀ {vs ws : List V} {ds es : List D}, RpA K H vs ds → RpA K H ws es → RpA K H (vs ++ ws) (ds ++ es)
  | _, _, _, _, .nil, s => s
  | _, _, _, _, .cons h r, s => .cons h (RpA.append r s)
theorem RpA.take : ∀ {vs : List V} {ds : List D} (n : Nat), RpA K H vs ds → RpA K H (vs.take n) (ds.take n)
  | _, _, 0, _ => by simp; exact .nil
  | _, _, n + 1, .nil => by simp; exact .nil
  | _, _, n + 1, .cons h r => by simp; exact .cons h (RpA.take n r)
theorem RpA.drop : ∀ {vs : List V} {ds : List D} (n : Nat), RpA K H vs ds → RpA K H (vs.drop n) (ds.drop n)
  | _, _, 0, r => by simpa using r
  | _, _, n + 1, .nil => by simp; exact .nil
  | _, _, n + 1, .cons h r => by simp; exact RpA.drop n r
theorem RpA.set : ∀ {vs : List V} {ds : List D} {v : V} {d : D} (n : Nat), RpA K H vs ds → Rp K H v d → RpA K H (vs.set n v) (ds.set n d)
  | _, _, _, _, _, .nil, _ => .nil
  | _, _, _, _, 0, .cons h r, s => .cons s r
  | _, _, _, _, n + 1, .cons h r, s => .cons h (RpA.set n r s)
theorem RpA.reverse : ∀ {vs : List V} {ds : List D}, RpA K H vs ds → RpA K H vs.reverse ds.reverse
  | _, _, .nil => .nil
  | _, _, .cons h r => by
    rw [List.reverse_cons, List.reverse_cons]
    exact RpA.append (RpA.reverse r) (.cons h .nil)
theorem RpA.ints : ∀ {ns : List Int}, RpA K H (ns.map V.int) (ns.map PyData.int)
  | [] => .nil
  | n :: r => .cons (.int n) RpA.ints
end

/-! ### growth: (H0, H) to (H0', H'): H0 what is frozen, H all -/
/-- something that is no tuple -/
def NT (o : Option HO) : Prop := ∃ u, o = some u ∧ ∀ xs, u ≠ .tup xs
theorem NT.ne {o : Option HO} (h : NT o) : o ≠ none := by
  obtain ⟨u, rfl, _⟩ := h
  exact fun z => nomatch z
theorem NT.mono {H H' : Hp} {p : Addr} (e : Ex H H') (h : NT (H p)) : NT (H' p) := by
  obtain ⟨u, h1, h2⟩ := h
  exact ⟨u, e _ _ h1, h2⟩
structure Gr (H0 H H0' H' : Hp) : Prop where
  e0 : Ex H0 H0'
  e : Ex H H'
  s : Ex H0' H'
  n : ∀ p, NT (H p) → H0 p = none → H0' p = none
section
variable {H0 H H1 H2 H3 H4 : Hp}
theorem Gr.refl (h : Ex H0 H) : Gr H0 H H0 H := ⟨Ex.refl _, Ex.refl _, h, fun _ _ h => h⟩
theorem Ex.ne {H H' : Hp} (e : Ex H H') {p : Addr} (h : H p ≠ none) : H' p ≠ none := by
  cases q : H p with
  | none => exact absurd q h
  | some o => rw [e p o q]; exact fun z => nomatch z
theorem Gr.trans (a : Gr H0 H H1 H2) (b : Gr H1 H2 H3 H4) : Gr H0 H H3 H4 :=
  ⟨a.e0.trans b.e0, a.e.trans b.e, b.s, fun p h h0 => b.n p (h.mono a.e) (a.n p h h0)⟩
/-- a new object, known to both -/
theorem Gr.new {p : Addr} {o : HO} (h : Ex H0 H) (hp : H p = none) : Gr H0 H (upd H0 p o) (upd H p o) := by
  have h0 : H0 p = none := fresh_back h hp
  refine ⟨Ex.new h0, Ex.new hp, fun a u e => ?_, fun q hq hq0 => ?_⟩
  · by_cases ha : a = p
    · subst ha; rw [upd_same] at e ⊢; exact e
    · rw [upd_ne ha] at e ⊢; exact h a u e
  · have : q ≠ p := fun z => hq.ne (z ▸ hp)
    rw [upd_ne this]; exact hq0
/-- the rest of the heap grows -/
theorem Gr.side {H' : Hp} (h : Ex H0 H) (e : Ex H H') : Gr H0 H H0 H' := ⟨Ex.refl _, e, h.trans e, fun _ _ h => h⟩
/-- an object that is young is frozen -/
theorem Gr.freeze {p : Addr} {o : HO} (g : Gr H0 H H1 H2) (hp : H2 p = some o) (hn : H p = none) (h1 : H1 p = none) : Gr H0 H (upd H1 p o) H2 :=
  ⟨g.e0.trans (Ex.new h1), g.e, fun a u e => by
    by_cases ha : a = p
    · subst ha; rw [upd_same] at e; rw [hp]; exact e
    · rw [upd_ne ha] at e; exact g.s a u e, fun q hq hq0 => by
    have : q ≠ p := fun z => hq.ne (z ▸ hn)
    rw [upd_ne this]; exact g.n q hq hq0⟩
/-- a young object that is not frozen is changed -/
theorem Gr.mut {p : Addr} {o : HO} (g : Gr H0 H H1 H2) (hn : H p = none) (h1 : H1 p = none) : Gr H0 H H1 (upd H2 p o) :=
  ⟨g.e0, fun a u e => by rw [upd_ne (ne_of_none e hn)]; exact g.e a u e, fun a u e => by rw [upd_ne (ne_of_none e h1)]; exact g.s a u e, g.n⟩
end

/-! ### environments -/
/-- an owned object's content -/
def OwnO (K : PySem.W.Frag) (H0 : Hp) (o : HO) (d : D) : Prop :=
  (∃ xs ds, o = .lst xs ∧ d = .list ds ∧ RpA K H0 xs ds) ∨ ∃ kvs es, o = .dT kvs ∧ d = .dict es ∧ RpE K H0 kvs es
theorem OwnO.mono {K : PySem.W.Frag} {H H' : Hp} {o : HO} {d : D} (e : Ex H H') (h : OwnO K H o d) : OwnO K H' o d := by
  rcases h with ⟨xs, ds, h1, h2, h3⟩ | ⟨kvs, es, h1, h2, h3⟩
  · exact .inl ⟨xs, ds, h1, h2, h3.mono e⟩
  · exact .inr ⟨kvs, es, h1, h2, h3.mono e⟩
theorem OwnO.rp {K : PySem.W.Frag} {H : Hp} {p : Addr} {o : HO} {d : D} (hp : H p = none) (h : OwnO K H o d) : Rp K (upd H p o) (.ref p) d := by
  have e : Ex H (upd H p o) := Ex.new hp
  rcases h with ⟨xs, ds, rfl, rfl, h3⟩ | ⟨kvs, es, rfl, rfl, h3⟩
  · exact .lst upd_same (h3.mono e)
  · exact .dct (.inl upd_same) (h3.mono e)
abbrev Bs := Hp × Hp
/-- a table: a dict of dicts, all of them young -/
inductive RpN (K : PySem.W.Frag) (H0 H : Hp) : List (List Key × V) → List (D × D) → Prop
  | nil : RpN K H0 H [] []
  | cons {k : List Key} {q : Addr} {kvs' kvs : List (List Key × V)} {es' es : List (D × D)} : H q = some (.dT kvs') → RpE K H0 kvs' es' → RpN K H0 H kvs es → RpN K H0 H ((k, .ref q) :: kvs) ((keyD k, .dict es') :: es)
def refV : V → Addr
  | .ref q => q
  | _ => 0
def fpT (p : Addr) (kvs : List (List Key × V)) : List Addr := p :: kvs.map fun kv => refV kv.2
def TabAt (K : PySem.W.Frag) (B : Bs) (ρ : En) (σ : L2.St) (H0 H : Hp) (i : Nat) (d : D) : Prop := ∃ (p : Addr) (kvs : List (List Key × V)) (es : List (D × D)), σ[i]? = some (some (.ref p)) ∧ d = .dict es ∧ H p = some (.dT kvs) ∧ RpN K H0 H kvs es ∧ (fpT p kvs).Nodup ∧
  (∀ q ∈ fpT p kvs, B.2 q = none ∧ H0 q = none) ∧ (∀ (j : Nat) (e : D) (p' : Addr), ρ[j]? = some (Slot.ow e) → σ[j]? = some (some (.ref p')) → p' ∉ fpT p kvs) ∧ ∀ (j : Nat) (e : D), ρ[j]? = some (Slot.ot e) → j = i
/-- a dict that is walked: locked -/
def LkAt (K : PySem.W.Frag) (B : Bs) (σ : L2.St) (H0 H : Hp) (i : Nat) (d : D) : Prop := ∃ (p : Addr) (od : Obj) (kvs : List (List Key × V)) (es : List (D × D)), σ[i]? = some (some (.ref p)) ∧ d = .dict es ∧ H p = some (.frz od (.dT kvs)) ∧ RpE K H0 kvs es ∧ B.2 p = none ∧ H0 p = none
structure Rl (K : PySem.W.Frag) (B : Bs) (ρ : En) (σ : L2.St) (H0 H : Hp) : Prop where
  gr : Gr B.1 B.2 H0 H
  len : σ.length = ρ.length
  fz : ∀ (i : Nat) (d : D), ρ[i]? = some (Slot.fz d) → ∃ v, σ[i]? = some (some v) ∧ Rp K H0 v d
  ow : ∀ (i : Nat) (d : D), ρ[i]? = some (Slot.ow d) → ∃ p o, σ[i]? = some (some (.ref p)) ∧ B.2 p = none ∧ H0 p = none ∧ H p = some o ∧ OwnO K H0 o d
  uq : ∀ (i j : Nat) (d e : D) (p : Addr), ρ[i]? = some (Slot.ow d) → ρ[j]? = some (Slot.ow e) → σ[i]? = some (some (.ref p)) → σ[j]? = some (some (.ref p)) → i = j
  ot : ∀ (i : Nat) (d : D), ρ[i]? = some (Slot.ot d) → TabAt K B ρ σ H0 H i d
  lk : ∀ (i : Nat) (d : D), ρ[i]? = some (Slot.lk d) → LkAt K B σ H0 H i d
section
variable {K : PySem.W.Frag} {B : Bs} {ρ : En} {σ : L2.St} {H0 H H0' H' : Hp}
theorem RpN.mono {kvs : List (List Key × V)} {es : List (D × D)} (e0 : Ex H0 H0') (e : ∀ q ∈ kvs.map (fun kv => refV kv.2), ∀ o, H q = some o → H' q = some o) (r : RpN K H0 H kvs es) : RpN K H0' H' kvs es := by
  induction r with
  | nil => exact .nil
  | cons h r1 r2 ih => exact .cons (e _ (by simp [refV]) _ h) (r1.mono e0) (ih fun q hq => e q (by simp at hq ⊢; exact .inr hq))
theorem RpN.there {kvs : List (List Key × V)} {es : List (D × D)} (r : RpN K H0 H kvs es) : ∀ q ∈ kvs.map (fun kv => refV kv.2), ∃ l, H q = some (.dT l) := by
  induction r with
  | nil => intro q hq; cases hq
  | cons h r1 r2 ih =>
    intro q hq
    rw [List.map_cons, List.mem_cons] at hq
    rcases hq with z | hq
    · rw [z]; exact ⟨_, h⟩
    · exact ih q hq
/-- a table stands: all its dicts are there -/
theorem TabAt.there {p : Addr} {kvs : List (List Key × V)} {es : List (D × D)} (hp : H p = some (.dT kvs)) (r : RpN K H0 H kvs es) : ∀ q ∈ fpT p kvs, ∃ l, H q = some (.dT l) := fun q hq => by
  rcases List.mem_cons.mp hq with z | z
  · rw [z]; exact ⟨_, hp⟩
  · exact r.there q z
/-- a table seen from another environment, heap -/
theorem TabAt.to {ρ' : En} {σ' : L2.St} {B' : Bs} {i : Nat} {d : D} (t : TabAt K B ρ σ H0 H i d) (hs : σ'[i]? = σ[i]?) (e0 : Ex H0 H0') (e : ∀ q, (∃ l, H q = some (.dT l)) → (B.2 q = none ∧ H0 q = none) → (∀ (j : Nat) (f : D), ρ[j]? = some (Slot.ow f) → σ[j]? ≠ some (some (.ref q))) → H' q = H q ∧ B'.2 q = none ∧ H0' q = none ∧ ∀ (j : Nat) (f : D), ρ'[j]? = some (Slot.ow f) → σ'[j]? ≠ some (some (.ref q)))
    (hu : ∀ (j : Nat) (f : D), ρ'[j]? = some (Slot.ot f) → ρ[j]? = some (Slot.ot f)) : TabAt K B' ρ' σ' H0' H' i d := by
  obtain ⟨p, kvs, es, h1, h2, h3, h4, h5, h6, h7, h8⟩ := t
  have k : ∀ q ∈ fpT p kvs, H' q = H q ∧ B'.2 q = none ∧ H0' q = none ∧ ∀ (j : Nat) (f : D), ρ'[j]? = some (Slot.ow f) → σ'[j]? ≠ some (some (.ref q)) := fun q hq =>
    e q (TabAt.there h3 h4 q hq) (h6 q hq) fun j f hj hs => h7 j f q hj hs hq
  refine ⟨p, kvs, es, hs.trans h1, h2, (k p List.mem_cons_self).1.trans h3, h4.mono e0 fun q hq o ho => (k q (List.mem_cons_of_mem _ hq)).1.trans ho, h5, fun q hq => ⟨(k q hq).2.1, (k q hq).2.2.1⟩, fun j f p' hj hs hm => (k p' hm).2.2.2 j f hj hs, fun j f hj => h8 j f (hu j f hj)⟩
/-- slots that are no tables, no walked dicts, set -/
theorem Rl.otSet {i : Nat} {s : Slot} {x : Option V} (r : Rl K B ρ σ H0 H) (hs : ∀ d, s ≠ .ot d) (hw : ∀ d, s ≠ .ow d) : ∀ (j : Nat) (d : D), (ρ.set i s)[j]? = some (Slot.ot d) → TabAt K B (ρ.set i s) (σ.set i x) H0 H j d := fun j d hj => by
  have gs : ∀ (k : Nat) (t : Slot), (ρ.set i s)[k]? = some t → t ≠ s → i ≠ k ∧ ρ[k]? = some t := fun k t hk ht => by
    by_cases hik : i = k
    · subst hik
      rw [List.getElem?_set_self'] at hk
      cases q : ρ[i]? with
      | none => rw [q] at hk; cases hk
      | some u => rw [q] at hk; simp at hk; exact absurd hk.symm ht
    · rw [List.getElem?_set_ne hik] at hk
      exact ⟨hik, hk⟩
  obtain ⟨hij, hj'⟩ := gs j _ hj (fun z => hs d z.symm)
  refine (r.ot j d hj').to (List.getElem?_set_ne hij) (Ex.refl _) (fun q _ hf hn => ⟨rfl, hf.1, hf.2, fun k f hk => ?_⟩) fun k f hk => (gs k _ hk (fun z => hs f z.symm)).2
  obtain ⟨hik, hk'⟩ := gs k _ hk (fun z => hw f z.symm)
  rw [List.getElem?_set_ne hik]
  exact hn k f hk'
theorem Rl.lkSet {i : Nat} {s : Slot} {x : Option V} (r : Rl K B ρ σ H0 H) (hs : ∀ d, s ≠ .lk d) : ∀ (j : Nat) (d : D), (ρ.set i s)[j]? = some (Slot.lk d) → LkAt K B (σ.set i x) H0 H j d := fun j d hj => by
  by_cases hij : i = j
  · subst hij
    rw [List.getElem?_set_self'] at hj
    cases q : ρ[i]? with
    | none => rw [q] at hj; cases hj
    | some u => rw [q] at hj; simp at hj; exact absurd hj (hs d)
  · rw [List.getElem?_set_ne hij] at hj
    obtain ⟨p, od, kvs, es, h1, h2⟩ := r.lk j d hj
    exact ⟨p, od, kvs, es, by rw [List.getElem?_set_ne hij]; exact h1, h2⟩
theorem OwnO.no_tup {o : HO} {d : D} (h : OwnO K H0 o d) : ∀ xs, o ≠ .tup xs := by
  rcases h with ⟨xs, ds, rfl, _⟩ | ⟨kvs, es, rfl, _⟩ <;> intro _ z <;> cases z
theorem OwnO.no_frz {o o' : HO} {od : Obj} {d : D} (h : OwnO K H0 o d) : o ≠ .frz od o' := by
  rcases h with ⟨xs, ds, rfl, _⟩ | ⟨kvs, es, rfl, _⟩ <;> intro z <;> cases z
theorem Rl.s (r : Rl K B ρ σ H0 H) : Ex H0 H := r.gr.s
theorem Rl.grow (r : Rl K B ρ σ H0 H) (g : Gr H0 H H0' H') : Rl K B ρ σ H0' H' where
  gr := r.gr.trans g
  len := r.len
  fz := fun i d h => by
    obtain ⟨v, h1, h2⟩ := r.fz i d h
    exact ⟨v, h1, h2.mono g.e0⟩
  ow := fun i d h => by
    obtain ⟨p, o, h1, h2, h3, h4, h5⟩ := r.ow i d h
    exact ⟨p, o, h1, h2, g.n p ⟨o, h4, h5.no_tup⟩ h3, g.e _ _ h4, h5.mono g.e0⟩
  uq := r.uq
  ot := fun i d h => (r.ot i d h).to rfl g.e0 (fun q ⟨l, hl⟩ hf hn => ⟨by rw [hl, g.e _ _ hl], hf.1, g.n q ⟨_, hl, fun _ z => nomatch z⟩ hf.2, hn⟩) fun _ _ z => z
  lk := fun i d h => by
    obtain ⟨p, od, kvs, es, h1, h2, h3, h4, h5, h6⟩ := r.lk i d h
    exact ⟨p, od, kvs, es, h1, h2, g.e _ _ h3, h4.mono g.e0, h5, g.n p ⟨_, h3, fun _ z => nomatch z⟩ h6⟩
theorem get_set {α : Type} {l : List α} {i j : Nat} {x : α} : (l.set i x)[j]? = if i = j then (if j < l.length then some x else none) else l[j]? := by
  by_cases h : i = j
  · subst h
    by_cases hl : i < l.length
    · simp [hl]
    · simp [hl]
  · simp [h]
/-- a slot gets a frozen value -/
theorem Rl.setF (r : Rl K B ρ σ H0 H) {i : Nat} {v : V} {d : D} (h : Rp K H0 v d) : Rl K B (ρ.set i (.fz d)) (σ.set i (some v)) H0 H where
  gr := r.gr
  len := by simp [r.len]
  fz := fun j e hj => by
    rw [get_set] at hj
    rw [get_set]
    by_cases hij : i = j
    · subst hij
      rw [if_pos rfl] at hj ⊢
      by_cases hl : i < ρ.length
      · rw [if_pos hl] at hj
        rw [if_pos (by rw [r.len]; exact hl)]
        simp at hj; subst hj
        exact ⟨v, rfl, h⟩
      · rw [if_neg hl] at hj; cases hj
    · rw [if_neg hij] at hj ⊢
      exact r.fz j e hj
  ow := fun j e hj => by
    rw [get_set] at hj
    by_cases hij : i = j
    · subst hij
      rw [if_pos rfl] at hj
      by_cases hl : i < ρ.length
      · rw [if_pos hl] at hj; simp at hj
      · rw [if_neg hl] at hj; cases hj
    · rw [if_neg hij] at hj
      rw [get_set, if_neg hij]
      exact r.ow j e hj
  uq := fun j k e f p hj hk sj sk => by
    rw [get_set] at hj hk sj sk
    by_cases hij : i = j
    · rw [if_pos hij] at hj
      split at hj <;> simp at hj
    · by_cases hik : i = k
      · rw [if_pos hik] at hk
        split at hk <;> simp at hk
      · rw [if_neg hij] at hj sj
        rw [if_neg hik] at hk sk
        exact r.uq j k e f p hj hk sj sk
  ot := r.otSet (fun d z => by cases z) fun d z => by cases z
  lk := r.lkSet fun d z => by cases z
/-- a slot gets a young object of its own -/
theorem Rl.setO (r : Rl K B ρ σ H0 H) {i : Nat} {p : Addr} {o : HO} {d : D} (hb : B.2 p = none) (h0 : H0 p = none) (hp : H p = some o) (h : OwnO K H0 o d)
    (hn : ∀ (j : Nat) (e : D), ρ[j]? = some (.ow e) → σ[j]? ≠ some (some (.ref p))) (ht : ∀ (j : Nat) (e : D), ρ[j]? = some (.ot e) → i ≠ j → TabAt K B (ρ.set i (.ow d)) (σ.set i (some (.ref p))) H0 H j e) : Rl K B (ρ.set i (.ow d)) (σ.set i (some (.ref p))) H0 H where
  gr := r.gr
  len := by simp [r.len]
  fz := fun j e hj => by
    rw [get_set] at hj
    by_cases hij : i = j
    · rw [if_pos hij] at hj
      split at hj <;> simp at hj
    · rw [if_neg hij] at hj
      rw [get_set, if_neg hij]
      exact r.fz j e hj
  ow := fun j e hj => by
    rw [get_set] at hj
    rw [get_set]
    by_cases hij : i = j
    · subst hij
      rw [if_pos rfl] at hj ⊢
      by_cases hl : i < ρ.length
      · rw [if_pos hl] at hj
        rw [if_pos (by rw [r.len]; exact hl)]
        simp at hj; subst hj
        exact ⟨p, o, rfl, hb, h0, hp, h⟩
      · rw [if_neg hl] at hj; cases hj
    · rw [if_neg hij] at hj ⊢
      exact r.ow j e hj
  uq := fun j k e f q hj hk sj sk => by
    rw [get_set] at hj hk sj sk
    by_cases hij : i = j
    · by_cases hik : i = k
      · exact hij.symm.trans hik
      · rw [if_pos hij] at sj
        rw [if_neg hik] at hk sk
        split at sj
        · simp at sj
          subst sj
          exact absurd sk (hn k f hk)
        · cases sj
    · by_cases hik : i = k
      · rw [if_neg hij] at hj sj
        rw [if_pos hik] at sk
        split at sk
        · simp at sk
          subst sk
          exact absurd sj (hn j e hj)
        · cases sk
      · rw [if_neg hij] at hj sj
        rw [if_neg hik] at hk sk
        exact r.uq j k e f q hj hk sj sk
  ot := fun j e hj => by
    by_cases hij : i = j
    · subst hij
      rw [get_set, if_pos rfl] at hj
      split at hj <;> simp at hj
    · rw [get_set, if_neg hij] at hj
      exact ht j e hj hij
  lk := r.lkSet fun d z => by cases z
/-- an owned object is changed -/
theorem Rl.mutO (r : Rl K B ρ σ H0 H) {i : Nat} {p : Addr} {o : HO} {d d' : D} (hi : ρ[i]? = some (.ow d)) (hs : σ[i]? = some (some (.ref p))) (h : OwnO K H0 o d') : Rl K B (ρ.set i (.ow d')) σ H0 (upd H p o) := by
  obtain ⟨p', o', q1, q2, q3, q4, q5⟩ := r.ow i d hi
  rw [hs] at q1
  simp at q1
  subst q1
  refine ⟨r.gr.mut q2 q3, by simp [r.len], fun j e hj => ?_, fun j e hj => ?_, fun j k e f q hj hk sj sk => ?_, fun j e hj => ?_, fun j e hj => ?_⟩
  · rw [get_set] at hj
    by_cases hij : i = j
    · rw [if_pos hij] at hj
      split at hj <;> simp at hj
    · rw [if_neg hij] at hj
      exact r.fz j e hj
  · rw [get_set] at hj
    by_cases hij : i = j
    · subst hij
      rw [if_pos rfl] at hj
      split at hj
      · simp at hj
        subst hj
        exact ⟨p, o, hs, q2, q3, upd_same, h⟩
      · cases hj
    · rw [if_neg hij] at hj
      obtain ⟨p2, o2, t1, t2, t3, t4, t5⟩ := r.ow j e hj
      have ne : p2 ≠ p := fun z => by
        subst z
        exact hij (r.uq i j d e p2 hi hj hs t1)
      exact ⟨p2, o2, t1, t2, t3, by rw [upd_ne ne]; exact t4, t5⟩
  · have hj' : ∃ e', ρ[j]? = some (.ow e') := by
      rw [get_set] at hj
      by_cases hij : i = j
      · exact ⟨d, hij ▸ hi⟩
      · rw [if_neg hij] at hj; exact ⟨e, hj⟩
    have hk' : ∃ e', ρ[k]? = some (.ow e') := by
      rw [get_set] at hk
      by_cases hik : i = k
      · exact ⟨d, hik ▸ hi⟩
      · rw [if_neg hik] at hk; exact ⟨f, hk⟩
    obtain ⟨e', he⟩ := hj'
    obtain ⟨f', hf⟩ := hk'
    exact r.uq j k e' f' q he hf sj sk
  · have hi' : ∀ (k : Nat) (f : D), (ρ.set i (.ow d'))[k]? = some (Slot.ow f) → ∃ f', ρ[k]? = some (Slot.ow f') := fun k f hk => by
      rw [get_set] at hk
      by_cases hik : i = k
      · exact ⟨d, hik ▸ hi⟩
      · rw [if_neg hik] at hk; exact ⟨f, hk⟩
    have ho : ∀ (k : Nat) (f : D), (ρ.set i (.ow d'))[k]? = some (Slot.ot f) → ρ[k]? = some (Slot.ot f) := fun k f hk => by
      rw [get_set] at hk
      by_cases hik : i = k
      · rw [if_pos hik] at hk
        split at hk <;> simp at hk
      · rw [if_neg hik] at hk; exact hk
    refine (r.ot j e (ho j e hj)).to rfl (Ex.refl _) (fun q _ hf hn => ⟨upd_ne fun z => hn i d hi (by rw [z]; exact hs), hf.1, hf.2, fun k f hk => ?_⟩) ho
    obtain ⟨f', hf'⟩ := hi' k f hk
    exact hn k f' hf'
  · rw [get_set] at hj
    by_cases hij : i = j
    · rw [if_pos hij] at hj
      split at hj <;> simp at hj
    · rw [if_neg hij] at hj
      obtain ⟨pl, od, kvs, es, t1, t2, t3, t4, t5, t6⟩ := r.lk j e hj
      have ne : pl ≠ p := fun z => by
        rw [z, q4] at t3
        cases t3
        exact q5.no_frz rfl
      exact ⟨pl, od, kvs, es, t1, t2, by rw [upd_ne ne]; exact t3, t4, t5, t6⟩
/-- an owned object is frozen -/
theorem Rl.frz (r : Rl K B ρ σ H0 H) {i : Nat} {d : D} (hi : ρ[i]? = some (.ow d)) : ∃ p o, σ[i]? = some (some (.ref p)) ∧ H p = some o ∧ H0 p = none ∧ Rl K B (ρ.set i (.fz d)) σ (upd H0 p o) H ∧ Rp K (upd H0 p o) (.ref p) d := by
  obtain ⟨p, o, q1, q2, q3, q4, q5⟩ := r.ow i d hi
  have rp := OwnO.rp q3 q5
  have e : Ex H0 (upd H0 p o) := Ex.new q3
  refine ⟨p, o, q1, q4, q3, ⟨r.gr.freeze q4 q2 q3, by simp [r.len], fun j f hj => ?_, fun j f hj => ?_, fun j k f g q hj hk sj sk => ?_, fun j f hj => ?_, fun j f hj => ?_⟩, rp⟩
  · rw [get_set] at hj
    by_cases hij : i = j
    · subst hij
      rw [if_pos rfl] at hj
      split at hj
      · simp at hj
        subst hj
        exact ⟨.ref p, q1, rp⟩
      · cases hj
    · rw [if_neg hij] at hj
      obtain ⟨v, h1, h2⟩ := r.fz j f hj
      exact ⟨v, h1, h2.mono e⟩
  · rw [get_set] at hj
    by_cases hij : i = j
    · rw [if_pos hij] at hj
      split at hj <;> simp at hj
    · rw [if_neg hij] at hj
      obtain ⟨p2, o2, t1, t2, t3, t4, t5⟩ := r.ow j f hj
      have ne : p2 ≠ p := fun z => by
        subst z
        exact hij (r.uq i j d f p2 hi hj q1 t1)
      exact ⟨p2, o2, t1, t2, by rw [upd_ne ne]; exact t3, t4, t5.mono e⟩
  · rw [get_set] at hj hk
    by_cases hij : i = j
    · rw [if_pos hij] at hj
      split at hj <;> simp at hj
    · by_cases hik : i = k
      · rw [if_pos hik] at hk
        split at hk <;> simp at hk
      · rw [if_neg hij] at hj
        rw [if_neg hik] at hk
        exact r.uq j k f g q hj hk sj sk
  · have hi' : ∀ (k : Nat) (t : Slot), (ρ.set i (.fz d))[k]? = some t → t ≠ .fz d → ρ[k]? = some t := fun k t hk ht => by
      rw [get_set] at hk
      by_cases hik : i = k
      · rw [if_pos hik] at hk
        split at hk
        · simp at hk; exact absurd hk.symm ht
        · cases hk
      · rw [if_neg hik] at hk; exact hk
    refine (r.ot j f (hi' j _ hj (by simp))).to rfl e (fun q _ hf hn => ⟨rfl, hf.1, ?_, fun k g hk => hn k g (hi' k _ hk (by simp))⟩) fun k g hk => hi' k _ hk (by simp)
    rw [upd_ne fun z => hn i d hi (by rw [z]; exact q1)]
    exact hf.2
  · rw [get_set] at hj
    by_cases hij : i = j
    · rw [if_pos hij] at hj
      split at hj <;> simp at hj
    · rw [if_neg hij] at hj
      obtain ⟨pl, od, kvs, es, t1, t2, t3, t4, t5, t6⟩ := r.lk j f hj
      have ne : pl ≠ p := fun z => by
        rw [z, q4] at t3
        cases t3
        exact q5.no_frz rfl
      exact ⟨pl, od, kvs, es, t1, t2, t3, t4.mono e, t5, by rw [upd_ne ne]; exact t6⟩
/-- slots forgotten -/
theorem Rl.setU (r : Rl K B ρ σ H0 H) {i : Nat} {x : Option V} : Rl K B (ρ.set i .un) (σ.set i x) H0 H where
  gr := r.gr
  len := by simp [r.len]
  fz := fun j e hj => by
    rw [get_set] at hj
    by_cases hij : i = j
    · rw [if_pos hij] at hj
      split at hj <;> simp at hj
    · rw [if_neg hij] at hj
      rw [get_set, if_neg hij]
      exact r.fz j e hj
  ow := fun j e hj => by
    rw [get_set] at hj
    by_cases hij : i = j
    · rw [if_pos hij] at hj
      split at hj <;> simp at hj
    · rw [if_neg hij] at hj
      rw [get_set, if_neg hij]
      exact r.ow j e hj
  uq := fun j k e f q hj hk sj sk => by
    rw [get_set] at hj hk sj sk
    by_cases hij : i = j
    · rw [if_pos hij] at hj
      split at hj <;> simp at hj
    · by_cases hik : i = k
      · rw [if_pos hik] at hk
        split at hk <;> simp at hk
      · rw [if_neg hij] at hj sj
        rw [if_neg hik] at hk sk
        exact r.uq j k e f q hj hk sj sk
  ot := r.otSet (fun d z => by cases z) fun d z => by cases z
  lk := r.lkSet fun d z => by cases z
end
end Fc
set_option Elab.async false
set_option linter.all false
set_option maxRecDepth 100000
set_option maxHeartbeats 2000000
namespace Fc
open PySem L2 Evl
abbrev Fr := PySem.W.Frag
/-! ### readings -/
def WC (mg : Str → Option Value) (W : WX) (c : Str) (σ : L2.St) (H : Hp) : Prop := ∀ C, mg c = some (Value.ref C) → W (.ref C) none σ H
def Out {α : Type} (r : R α) (k : α → Prop) (e : Str → Prop) : Prop := match r with
  | .ok a => k a
  | .er c => e c
  | .bad => False
/-- what follows a value: it is frozen (false), or a young list, dict (true) -/
def Kq (k : Bool) (K : Fr) (H0 H : Hp) (d : D) (Q : VK) : Prop := match k with
  | false => ∀ v H0' H', Gr H0 H H0' H' → Rp K H0' v d → Q v H'
  | true => ∀ p o H0' H', Gr H0 H H0' H' → H' p = some o → H p = none → H0' p = none → OwnO K H0' o d → Q (.ref p) H'
theorem Kq.own {K : Fr} {H0 H : Hp} {d : D} {Q : VK} (h : Kq false K H0 H d Q) : Kq true K H0 H d Q := fun p o H0' H' g hp hn h0 ho =>
  h (.ref p) (upd H0' p o) H' (g.freeze hp hn h0) (OwnO.rp h0 ho)
theorem Kq.down {k : Bool} {K : Fr} {H0 H : Hp} {d : D} {Q : VK} (h : Kq k K H0 H d Q) : Kq true K H0 H d Q := by
  cases k with
  | false => exact h.own
  | true => exact h
theorem Kq.grow {k : Bool} {K : Fr} {H0 H H1 H2 : Hp} {d : D} {Q : VK} (h : Kq k K H0 H d Q) (g : Gr H0 H H1 H2) : Kq k K H1 H2 d Q := by
  cases k with
  | false => exact fun v H0' H' g' r => h v H0' H' (g.trans g') r
  | true => exact fun p o H0' H' g' h1 h2 h3 h4 => h p o H0' H' (g.trans g') h1 (fresh_back g.e h2) h3 h4
def tE (k : Bool) (K : Fr) (mg : Str → Option Value) (W : WX) (m : DE) : TE := fun σ H Q => ∃ B ρ H0, Rl K B ρ σ H0 H ∧
  Out (m ρ) (fun d => Kq k K H0 H d Q) (fun c => ∀ H', Ex H H' → WC mg W c σ H')
/-- a value that is frozen, or stands in an owned slot -/
def Vw (K : Fr) (ρ : En) (σ : L2.St) (H0 : Hp) (v : V) (d : D) : Prop := Rp K H0 v d ∨ ∃ (i : Nat) (p : Addr), ρ[i]? = some (Slot.ow d) ∧ σ[i]? = some (some (.ref p)) ∧ v = .ref p
def tW (K : Fr) (mg : Str → Option Value) (W : WX) (m : DE) : TE := fun σ H Q => ∃ B ρ H0, Rl K B ρ σ H0 H ∧
  Out (m ρ) (fun d => ∀ v H0' H', Gr H0 H H0' H' → Vw K ρ σ H0' v d → Q v H') (fun c => ∀ H', Ex H H' → WC mg W c σ H')
/-- a value, as it may be read now -/
def Vx (K : Fr) (H0 H : Hp) (v : V) (d : D) : Prop := Rp K H0 v d ∨ ∃ p o, v = .ref p ∧ H p = some o ∧ OwnO K H0 o d
theorem Vw.vx {K : Fr} {B : Bs} {ρ : En} {σ : L2.St} {H0 H : Hp} {v : V} {d : D} (r : Rl K B ρ σ H0 H) (h : Vw K ρ σ H0 v d) : Vx K H0 H v d := by
  rcases h with h | ⟨i, p, h1, h2, rfl⟩
  · exact .inl h
  · obtain ⟨q, o, q1, q2, q3, q4, q5⟩ := r.ow i d h1
    rw [h2] at q1
    simp at q1
    subst q1
    exact .inr ⟨p, o, rfl, q4, q5⟩
theorem Vw.mono {K : Fr} {ρ : En} {σ : L2.St} {H0 H1 : Hp} {v : V} {d : D} (e : Ex H0 H1) (h : Vw K ρ σ H0 v d) : Vw K ρ σ H1 v d := by
  rcases h with h | h
  · exact .inl (h.mono e)
  · exact .inr h
section
variable {K : Fr} {H0 H : Hp} {v : V}
theorem Rp.int_ {i : Int} (h : Rp K H0 v (.int i)) : v = .int i := by cases h; rfl
theorem Vx.non (h : Vx K H0 H v .none) : v = .non := by
  rcases h with h | ⟨p, o, _, _, h⟩
  · cases h; rfl
  · rcases h with ⟨_, _, _, q, _⟩ | ⟨_, _, _, q, _⟩ <;> cases q
theorem Vx.bl {b : Bool} (h : Vx K H0 H v (.bool b)) : v = .bl b := by
  rcases h with h | ⟨p, o, _, _, h⟩
  · cases h; rfl
  · rcases h with ⟨_, _, _, q, _⟩ | ⟨_, _, _, q, _⟩ <;> cases q
theorem Vx.int {i : Int} (h : Vx K H0 H v (.int i)) : v = .int i := by
  rcases h with h | ⟨p, o, _, _, h⟩
  · cases h; rfl
  · rcases h with ⟨_, _, _, q, _⟩ | ⟨_, _, _, q, _⟩ <;> cases q
theorem Vx.str {x : Str} (h : Vx K H0 H v (.str x)) : v = .str x := by
  rcases h with h | ⟨p, o, _, _, h⟩
  · cases h; rfl
  · rcases h with ⟨_, _, _, q, _⟩ | ⟨_, _, _, q, _⟩ <;> cases q
theorem Vx.lst {ds : List D} (s : Ex H0 H) (h : Vx K H0 H v (.list ds)) : ∃ a xs, v = .ref a ∧ H a = some (.lst xs) ∧ RpA K H0 xs ds := by
  rcases h with h | ⟨p, o, rfl, hp, h⟩
  · cases h with
    | lst h r => exact ⟨_, _, rfl, s _ _ h, r⟩
  · rcases h with ⟨xs, ds', rfl, q, r⟩ | ⟨_, _, _, q, _⟩
    · cases q
      exact ⟨p, xs, rfl, hp, r⟩
    · cases q
theorem Vx.tup {ds : List D} (s : Ex H0 H) (h : Vx K H0 H v (.tuple ds)) : ∃ a xs, v = .ref a ∧ H0 a = some (.tup xs) ∧ H a = some (.tup xs) ∧ RpA K H0 xs ds := by
  rcases h with h | ⟨p, o, rfl, hp, h⟩
  · cases h with
    | tup h r => exact ⟨_, _, rfl, h, s _ _ h, r⟩
  · rcases h with ⟨xs, ds', rfl, q, r⟩ | ⟨_, _, _, q, _⟩ <;> cases q
/-- the script: unwrapped -/
def unS : D → D
  | .dict [(.none, l)] => l
  | d => d
theorem RpE.no_none {kvs : List (List Key × V)} {l : D} {es : List (D × D)} : ¬ RpE K H0 kvs ((.none, l) :: es) := fun h => by
  generalize q : ((PyData.none, l) :: es) = zs at h
  cases h with
  | nil => cases q
  | cons h r => cases q
theorem Vx.dct {es : List (D × D)} (s : Ex H0 H) (h : Vx K H0 H v (.dict es)) (hx : ∀ a : Addr, es ≠ [(.bool true, .int (a : Nat))] := by intro a z; cases z) : (∃ a kvs, v = .ref a ∧ Rd H a (.dT kvs) ∧ RpE K H0 kvs es) ∨ ∃ (a : Addr) (ns : List Int), v = .ref a ∧ es = [(.none, .list (ns.map PyData.int))] ∧ SqL K H a (ns.map V.int) := by
  rcases h with h | ⟨p, o, rfl, hp, h⟩
  · cases h with
    | dct h r => exact .inl ⟨_, _, rfl, h.imp (s _ _) fun ⟨o, h⟩ => ⟨o, s _ _ h⟩, r⟩
    | scr h => exact .inr ⟨_, _, rfl, rfl, ex_l s h⟩
    | ex a => exact (hx a rfl).elim
  · rcases h with ⟨xs, ds', rfl, q, r⟩ | ⟨kvs, es', rfl, q, r⟩
    · cases q
    · cases q
      exact .inl ⟨p, kvs, rfl, .inl hp, r⟩
mutual
theorem Rp.dp (s : Ex H0 H) : ∀ {v : V} {d : D}, Rp K H0 v d → d.canLay0 = true → Dp K H v d
  | _, _, .non, _ => .non
  | _, _, .bl b, _ => .bl b
  | _, _, .int i, _ => .int i
  | _, _, .str x, _ => .str x
  | _, _, .lst h r, c => .lst (SqL.of (s _ _ h)) (RpA.dp s r (by simpa [PyData.canLay0] using c))
  | _, _, .tup h r, c => .tup (SqT.of (s _ _ h)) (RpA.dp s r (by simpa [PyData.canLay0] using c))
  | _, _, .dct h r, c => by simp [PyData.canLay0] at c
  | _, _, .scr h, c => by simp [PyData.canLay0] at c
  | _, _, .ex a, c => by simp [PyData.canLay0] at c
theorem RpA.dp (s : Ex H0 H) : ∀ {vs : List V} {ds : List D}, RpA K H0 vs ds → PyData.canLayAll0 ds = true → DpAll K H vs ds
  | _, _, .nil, _ => .nil
  | _, _, .cons h r, c => by
    have c' := Bool.and_eq_true_iff.mp (by simpa [PyData.canLayAll0] using c)
    exact .cons (Rp.dp s h c'.1) (RpA.dp s r c'.2)
end
theorem DpAll.ints {ns : List Int} : DpAll K H (ns.map V.int) (ns.map PyData.int) := by
  induction ns with
  | nil => exact .nil
  | cons n r ih => exact .cons (.int n) ih
theorem Vx.dp {d : D} (s : Ex H0 H) (h : Vx K H0 H v d) (c : (unS d).canLay0 = true) : Dp K H v (unS d) := by
  rcases h with h | ⟨p, o, rfl, hp, h⟩
  · cases h with
    | scr h => exact .lst (ex_l s h) DpAll.ints
    | dct h r =>
      exfalso
      unfold unS at c
      split at c
      · rename_i z
        cases z
        exact RpE.no_none r
      · simp [PyData.canLay0] at c
    | ex a => simp [unS, PyData.canLay0] at c
    | _ => exact Rp.dp s (by first | assumption | (constructor <;> assumption)) c
  · rcases h with ⟨xs, ds, rfl, rfl, r⟩ | ⟨kvs, es, rfl, rfl, r⟩
    · exact .lst (SqL.of hp) (r.dp s (by simpa [unS, PyData.canLay0] using c))
    · exfalso
      unfold unS at c
      split at c
      · rename_i z
        cases z
        exact RpE.no_none r
      · simp [PyData.canLay0] at c
end
/-! ### weakening -/
theorem _root_.L2.PE.wk {X : Cx} {e : Expr} {t t' : TE} (h : PE X e t) (k : ∀ σ H Q, t' σ H Q → t σ H Q) : PE X e t' := ⟨fun pins s σ H Q I q => h.run pins s σ H Q I (k σ H Q q)⟩
theorem _root_.L2.PT.wk {X : Cx} {e : Expr} {t t' : TT} (h : PT X e t) (k : ∀ σ H Q, t' σ H Q → t σ H Q) : PT X e t' := ⟨fun pins s σ H Q I q => h.run pins s σ H Q I (k σ H Q q)⟩
theorem _root_.L2.PA.wk {X : Cx} {e : List Expr} {t t' : TA} (h : PA X e t) (k : ∀ σ H Q, t' σ H Q → t σ H Q) : PA X e t' := ⟨fun ps pins s σ H Q I q => h.run ps pins s σ H Q I (k σ H Q q)⟩
abbrev PD (X : Cx) (W : WX) (e : Expr) (m : DE) : Prop := PE X e (tE false X.K X.mg W m)
abbrev PF (X : Cx) (W : WX) (e : Expr) (m : DE) : Prop := PE X e (tE true X.K X.mg W m)
abbrev PB (X : Cx) (W : WX) (e : Expr) (m : DE) : Prop := PE X e (tW X.K X.mg W m)
theorem Out.imp {α : Type} {r : R α} {k k' : α → Prop} {e e' : Str → Prop} (h : Out r k e) (hk : ∀ a, k a → k' a) (he : ∀ c, e c → e' c) : Out r k' e' := by
  cases r with
  | ok a => exact hk a h
  | er c => exact he c h
  | bad => exact h
section
variable {X : Cx} {W : WX} {e a b c : Expr} {m ma mb mc : DE} {pos : Pos}
theorem fd (h : PF X W e m) : PD X W e m := h.wk fun σ H Q ⟨B, ρ, H0, r, o⟩ => ⟨B, ρ, H0, r, o.imp (fun _ k => Kq.own k) fun _ k => k⟩
theorem db (h : PD X W e m) : PB X W e m := h.wk fun σ H Q ⟨B, ρ, H0, r, o⟩ => ⟨B, ρ, H0, r, o.imp (fun _ k v H0' H' g rp => k v H0' H' g (.inl rp)) fun _ k => k⟩
theorem fb (h : PF X W e m) : PB X W e m := db (fd h)
/-! ### names, constants -/
def eC (d : D) : DE := fun _ => .ok d
def eV (i : Nat) : DE := fun ρ => match ρ[i]? with
  | some (.fz d) => .ok d
  | _ => .bad
def eW (i : Nat) : DE := fun ρ => match ρ[i]? with
  | some (.fz d) => .ok d
  | some (.ow d) => .ok d
  | _ => .bad
theorem pd_const {v : V} {d : D} (h : PE X e (tC v)) (hr : ∀ H, Rp X.K H v d) : PD X W e (eC d) := h.wk fun σ H Q ⟨B, ρ, H0, r, o⟩ => o v H0 H (Gr.refl r.s) (hr H0)
theorem pd_int {i : Int} {j : Nat} : PD X W (.Constant (.int i) j pos) (eC (.int i)) := pd_const pe_int fun _ => .int i
theorem pd_bl {i : Bool} {j : Nat} : PD X W (.Constant (.bool i) j pos) (eC (.bool i)) := pd_const pe_bl fun _ => .bl i
theorem pd_non {j : Nat} : PD X W (.Constant .none j pos) (eC .none) := pd_const pe_non fun _ => .non
theorem pd_str {x : Str} {j : Nat} : PD X W (.Constant (.str x) j pos) (eC (.str x)) := pd_const pe_str fun _ => .str x
theorem pd_gint {x : Str} {i : Int} (hg : Gl X x) (hm : ∃ t, X.mg x = some (.int i t)) (hd : (x == ("__debug__" : Str)) = false := by decide) : PD X W (.Name x pos) (eC (.int i)) := by
  obtain ⟨t, hm⟩ := hm
  exact pd_const (pe_glob hg hm (v := .int i) ⟨t, rfl⟩ hd) fun _ => .int i
theorem pd_gstr {x z : Str} (hg : Gl X x) (hm : ∃ t, X.mg x = some (.str z t)) (hd : (x == ("__debug__" : Str)) = false := by decide) : PD X W (.Name x pos) (eC (.str z)) := by
  obtain ⟨t, hm⟩ := hm
  exact pd_const (pe_glob hg hm (v := .str z) ⟨t, rfl⟩ hd) fun _ => .str z
theorem dv (i : Nat) {x : Str} (hN : X.N[i]? = some x := by rfl) (hv : Vis X.env.scope x := by first | exact Or.inl rfl | exact Or.inr (Or.inl rfl) | exact Or.inr (Or.inr rfl)) (hd : (x == ("__debug__" : Str)) = false := by decide)
    (hcd : (x == ("__classdict__" : Str)) = false := by decide) : PD X W (.Name x pos) (eV i) := (pe_var hN hv hd hcd).wk fun σ H Q ⟨B, ρ, H0, r, o⟩ => by
  unfold eV at o
  split at o
  · rename_i d h
    obtain ⟨v, h1, h2⟩ := r.fz i d h
    exact ⟨v, h1, o v H0 H (Gr.refl r.s) h2⟩
  · exact o.elim
theorem bv (i : Nat) {x : Str} (hN : X.N[i]? = some x := by rfl) (hv : Vis X.env.scope x := by first | exact Or.inl rfl | exact Or.inr (Or.inl rfl) | exact Or.inr (Or.inr rfl)) (hd : (x == ("__debug__" : Str)) = false := by decide)
    (hcd : (x == ("__classdict__" : Str)) = false := by decide) : PB X W (.Name x pos) (eW i) := (pe_var hN hv hd hcd).wk fun σ H Q ⟨B, ρ, H0, r, o⟩ => by
  unfold eW at o
  split at o
  · rename_i d h
    obtain ⟨v, h1, h2⟩ := r.fz i d h
    exact ⟨v, h1, o v H0 H (Gr.refl r.s) (.inl h2)⟩
  · rename_i d h
    obtain ⟨p, q, h1, _⟩ := r.ow i d h
    exact ⟨.ref p, h1, o _ H0 H (Gr.refl r.s) (.inr ⟨i, p, h, h1, rfl⟩)⟩
  · exact o.elim
/-! ### operators -/
def OpD (k : Bool) (X : Cx) (f : Value → Value → Sem Value) (op : D → D → R D) : Prop := ∃ r : R2, OpR X f r ∧ ∀ H0 H x y dx dy d, Ex H0 H → Vx X.K H0 H x dx → Vx X.K H0 H y dy → op dx dy = .ok d → ∀ Q, Kq k X.K H0 H d Q → r x y H Q
def IxD (k : Bool) (X : Cx) (op : D → D → R D) : Prop := ∃ r : R2, IxR X r ∧ ∀ H0 H x y dx dy d, Ex H0 H → Vx X.K H0 H x dx → Vx X.K H0 H y dy → op dx dy = .ok d → ∀ Q, Kq k X.K H0 H d Q → r x y H Q
/-- never an error of its own -/
def Calm2 (op : D → D → R D) : Prop := ∀ x y c, op x y ≠ .er c
def eBin (op : D → D → R D) (ma mb : DE) : DE := fun ρ => (ma ρ).bind fun x => (mb ρ).bind fun y => op x y
theorem t_bin {k : Bool} {K : Fr} {mg : Str → Option Value} {op : D → D → R D} {r : R2} (cm : Calm2 op)
    (hr : ∀ H0 H x y dx dy d, Ex H0 H → Vx K H0 H x dx → Vx K H0 H y dy → op dx dy = .ok d → ∀ Q, Kq k K H0 H d Q → r x y H Q) {σ : L2.St} {H : Hp} {Q : VK}
    (h : tE k K mg W (eBin op ma mb) σ H Q) : tOp r (tW K mg W ma) (tW K mg W mb) σ H Q := by
  obtain ⟨B, ρ, H0, rl, o⟩ := h
  refine ⟨B, ρ, H0, rl, ?_⟩
  unfold eBin at o
  cases ha : ma ρ with
  | bad => rw [ha] at o; exact o
  | er c => rw [ha] at o; exact o
  | ok da =>
    rw [ha] at o
    intro x H1 H2 g1 vx
    have rl2 := rl.grow g1
    refine ⟨B, ρ, H1, rl2, ?_⟩
    cases hb : mb ρ with
    | bad => rw [R.bind_ok, hb] at o; exact o
    | er c => rw [R.bind_ok, hb] at o; exact fun H' e => o H' (g1.e.trans e)
    | ok db =>
      rw [R.bind_ok, hb, R.bind_ok] at o
      intro y H3 H4 g2 vy
      have rl3 := rl2.grow g2
      cases hc : op da db with
      | bad => rw [hc] at o; exact o.elim
      | er c => exact absurd hc (cm _ _ _)
      | ok d =>
        rw [hc] at o
        exact hr H3 H4 x y da db d rl3.s (Vw.vx rl3 (vx.mono g2.e0)) (Vw.vx rl3 vy) hc Q (Kq.grow o (g1.trans g2))
theorem pd_bin {k : Bool} {op : Operator} {f : D → D → R D} (ho : OpD k X (binaryOp op) f) (cm : Calm2 f) (ha : PB X W a ma) (hb : PB X W b mb) : PE X (.BinOp a op b pos) (tE k X.K X.mg W (eBin f ma mb)) := by
  obtain ⟨r, h1, h2⟩ := ho
  exact (pe_op h1 ha hb).wk fun σ H Q h => t_bin cm h2 h
theorem pd_cmp {op : CmpOp} {f : D → D → R D} (ho : OpD false X (compareOp op) f) (cm : Calm2 f) (hm : behindInMarks op b = false) (ha : PB X W a ma) (hb : PB X W b mb) : PD X W (.Compare a [op] [b] pos) (eBin f ma mb) := by
  obtain ⟨r, h1, h2⟩ := ho
  exact (pe_cmpR h1 ha hb hm).wk fun σ H Q h => t_bin cm h2 h
theorem pd_ix {f : D → D → R D} (ho : IxD false X f) (cm : Calm2 f) (hs : PlainIx b) (ha : PB X W a ma) (hb : PB X W b mb) : PD X W (.Subscript a b pos) (eBin f ma mb) := by
  obtain ⟨r, h1, h2⟩ := ho
  exact (pe_ix h1 ha hb hs).wk fun σ H Q h => t_bin cm h2 h
theorem OpD.or {k : Bool} {f : Value → Value → Sem Value} {p q pq : D → D → R D} (h : OpD k X f p) (h' : OpD k X f q) (hpq : ∀ x y d, pq x y = .ok d → p x y = .ok d ∨ q x y = .ok d) : OpD k X f pq := by
  obtain ⟨r, h1, h2⟩ := h
  obtain ⟨r', h1', h2'⟩ := h'
  refine ⟨_, h1.or h1', fun H0 H x y dx dy d s vx vy e Q kq => ?_⟩
  rcases hpq dx dy d e with e | e
  · exact .inl (h2 H0 H x y dx dy d s vx vy e Q kq)
  · exact .inr (h2' H0 H x y dx dy d s vx vy e Q kq)
theorem IxD.or {k : Bool} {p q pq : D → D → R D} (h : IxD k X p) (h' : IxD k X q) (hpq : ∀ x y d, pq x y = .ok d → p x y = .ok d ∨ q x y = .ok d) : IxD k X pq := by
  obtain ⟨r, h1, h2⟩ := h
  obtain ⟨r', h1', h2'⟩ := h'
  refine ⟨_, h1.or h1', fun H0 H x y dx dy d s vx vy e Q kq => ?_⟩
  rcases hpq dx dy d e with e | e
  · exact .inl (h2 H0 H x y dx dy d s vx vy e Q kq)
  · exact .inr (h2' H0 H x y dx dy d s vx vy e Q kq)
theorem OpD.dn {f : Value → Value → Sem Value} {p : D → D → R D} (h : OpD true X f p) : OpD false X f p := by
  obtain ⟨r, h1, h2⟩ := h
  exact ⟨r, h1, fun H0 H x y dx dy d s vx vy e Q kq => h2 H0 H x y dx dy d s vx vy e Q kq.own⟩
/-- ints to an int, a truth -/
def dI (C : Int → Int → Bool) (g : Int → Int → D) : D → D → R D
  | .int i, .int j => if C i j = true then .ok (g i j) else .bad
  | _, _ => .bad
theorem dI_ok {C : Int → Int → Bool} {g : Int → Int → D} {x y d : D} (h : dI C g x y = .ok d) : ∃ i j, x = .int i ∧ y = .int j ∧ C i j = true ∧ d = g i j := by
  unfold dI at h
  split at h
  · rename_i i j
    by_cases hc : C i j = true
    · rw [if_pos hc] at h
      cases h
      exact ⟨i, j, rfl, rfl, hc, rfl⟩
    · rw [if_neg hc] at h; cases h
  · cases h
theorem dI_calm {C : Int → Int → Bool} {g : Int → Int → D} : Calm2 (dI C g) := fun x y c h => by
  unfold dI at h
  split at h
  · split at h <;> cases h
  · cases h
theorem opD_I {f : Value → Value → Sem Value} {C : Int → Int → Prop} {Cb : Int → Int → Bool} {g : Int → Int → V} {gd : Int → Int → D} (ho : OpR X f (rI C g)) (hC : ∀ i j, Cb i j = true → C i j) (hg : ∀ i j H, Rp X.K H (g i j) (gd i j)) : OpD false X f (dI Cb gd) :=
  ⟨_, ho, fun H0 H x y dx dy d s vx vy e Q kq => by
    obtain ⟨i, j, rfl, rfl, hc, rfl⟩ := dI_ok e
    exact ⟨i, j, vx.int, vy.int, hC i j hc, kq _ H0 H (Gr.refl s) (hg i j H0)⟩⟩
theorem opD_I0 {f : Value → Value → Sem Value} {g : Int → Int → V} {gd : Int → Int → D} (ho : OpR X f (rI0 g)) (hg : ∀ i j H, Rp X.K H (g i j) (gd i j)) : OpD false X f (dI (fun _ _ => true) gd) :=
  ⟨_, ho, fun H0 H x y dx dy d s vx vy e Q kq => by
    obtain ⟨i, j, rfl, rfl, hc, rfl⟩ := dI_ok e
    exact ⟨i, j, vx.int, vy.int, kq _ H0 H (Gr.refl s) (hg i j H0)⟩⟩
end
end Fc
set_option Elab.async false
set_option linter.all false
set_option maxRecDepth 100000
set_option maxHeartbeats 2000000
namespace Fc
open PySem L2 Evl PySem.Spec PyProof.Rows
section
variable {X : Cx} {W : WX} {e a b c : Expr} {m ma mb mc : DE} {pos : Pos}
def orD (p q : D → D → R D) : D → D → R D := fun x y => match p x y with
  | .ok d => .ok d
  | _ => q x y
theorem OpD.orD {k : Bool} {f : Value → Value → Sem Value} {p q : D → D → R D} (h : OpD k X f p) (h' : OpD k X f q) : OpD k X f (Fc.orD p q) := h.or h' fun x y d e => by
  unfold Fc.orD at e
  split at e
  · rename_i z hz
    cases e
    exact .inl hz
  · exact .inr e
theorem IxD.orD {k : Bool} {p q : D → D → R D} (h : IxD k X p) (h' : IxD k X q) : IxD k X (Fc.orD p q) := h.or h' fun x y d e => by
  unfold Fc.orD at e
  split at e
  · rename_i z hz
    cases e
    exact .inl hz
  · exact .inr e
theorem OpD.imp {k : Bool} {f : Value → Value → Sem Value} {p q : D → D → R D} (h : OpD k X f q) (hp : ∀ x y d, p x y = .ok d → q x y = .ok d) : OpD k X f p := by
  obtain ⟨r, h1, h2⟩ := h
  exact ⟨r, h1, fun H0 H x y dx dy d s vx vy e Q kq => h2 H0 H x y dx dy d s vx vy (hp _ _ _ e) Q kq⟩
theorem IxD.imp {k : Bool} {p q : D → D → R D} (h : IxD k X q) (hp : ∀ x y d, p x y = .ok d → q x y = .ok d) : IxD k X p := by
  obtain ⟨r, h1, h2⟩ := h
  exact ⟨r, h1, fun H0 H x y dx dy d s vx vy e Q kq => h2 H0 H x y dx dy d s vx vy (hp _ _ _ e) Q kq⟩
/-! ### sums, products -/
def dAddI : D → D → R D := dI (fun _ _ => true) fun i j => .int (i + j)
def dSub : D → D → R D := dI (fun _ _ => true) fun i j => .int (i - j)
def dMulI : D → D → R D := dI (fun i j => decide (-(2 ^ 64) < i ∧ i < 2 ^ 64) || decide (-(2 ^ 64) < j ∧ j < 2 ^ 64)) fun i j => .int (i * j)
def dMod : D → D → R D := dI (fun _ j => decide (0 < j)) fun i j => .int (i % j)
def dFdiv : D → D → R D := dI (fun _ j => decide (0 < j ∧ j < 1073741824)) fun i j => .int (i / j)
theorem od_addI : OpD false X (binaryOp .Add) dAddI := opD_I0 op_add fun i j _ => .int _
theorem od_sub : OpD false X (binaryOp .Sub) dSub := opD_I0 op_sub fun i j _ => .int _
theorem od_mulI : OpD false X (binaryOp .Mult) dMulI := opD_I op_mul (fun i j h => by simp only [Bool.or_eq_true, decide_eq_true_eq] at h; exact h) fun i j _ => .int _
theorem od_mod : OpD false X (binaryOp .Mod) dMod := opD_I op_mod (fun i j h => of_decide_eq_true h) fun i j _ => .int _
theorem od_fdiv : OpD false X (binaryOp .FloorDiv) dFdiv := opD_I op_fdiv (fun i j h => (of_decide_eq_true h : 0 < j ∧ j < 1073741824)) fun i j _ => .int _
def szB (n : Nat) : Bool := decide (n ≤ 100000)
theorem szB_ok {n : Nat} (h : szB n = true) : n ≤ sizeLine := sz_of (of_decide_eq_true h)
theorem szB_lt {n : Nat} (h : szB n = true) : n < sizeLine := Nat.lt_of_le_of_lt (of_decide_eq_true h) (by decide)
def dAddS : D → D → R D
  | .str x, .str y => if szB (x.length + y.length) = true then .ok (.str (x ++ y)) else .bad
  | _, _ => .bad
theorem od_addS : OpD false X (binaryOp .Add) dAddS := ⟨_, op_add_str, fun H0 H x y dx dy d s vx vy e Q kq => by
  unfold dAddS at e
  split at e
  · split at e
    · rename_i h
      cases e
      exact ⟨_, _, vx.str, vy.str, szB_ok h, kq _ H0 H (Gr.refl s) (.str _)⟩
    · cases e
  · cases e⟩
/-- lists: a new one -/
def dCat : D → D → R D
  | .list x, .list y => if szB (x.length + y.length) = true then .ok (.list (x ++ y)) else .bad
  | _, _ => .bad
theorem Kq.newL {K : Fr} {H0 H : Hp} {Q : VK} {xs : List V} {ds : List D} (s : Ex H0 H) (kq : Kq true K H0 H (.list ds) Q) (r : RpA K H0 xs ds) {p : Addr} (hp : H p = none) : Q (.ref p) (upd H p (.lst xs)) :=
  kq p _ H0 (upd H p (.lst xs)) (Gr.side s (Ex.new hp)) upd_same hp (fresh_back s hp) (.inl ⟨xs, ds, rfl, rfl, r⟩)
theorem Kq.newT {K : Fr} {H0 H : Hp} {Q : VK} {xs : List V} {ds : List D} (s : Ex H0 H) (kq : Kq false K H0 H (.tuple ds) Q) (r : RpA K H0 xs ds) {p : Addr} (hp : H p = none) : Q (.ref p) (upd H p (.tup xs)) :=
  kq _ (upd H0 p (.tup xs)) (upd H p (.tup xs)) (Gr.new s hp) (.tup upd_same (r.mono (Ex.new (fresh_back s hp))))
theorem od_cat : OpD true X (binaryOp .Add) dCat := ⟨_, op_cat, fun H0 H x y dx dy d s vx vy e Q kq => by
  unfold dCat at e
  split at e
  · split at e
    · rename_i h
      cases e
      obtain ⟨p, xs, rfl, hp, rp⟩ := vx.lst s
      obtain ⟨q, ys, rfl, hq, rq⟩ := vy.lst s
      exact ⟨p, q, xs, ys, rfl, rfl, hp, hq, szB_ok (by rw [rp.length, rq.length]; exact h), fun l hl => kq.newL s (rp.append rq) hl⟩
    · cases e
  · cases e⟩
def dCatT : D → D → R D
  | .tuple x, .tuple y => if szB (x.length + y.length) = true then .ok (.tuple (x ++ y)) else .bad
  | _, _ => .bad
theorem od_catT : OpD false X (binaryOp .Add) dCatT := ⟨_, op_catA, fun H0 H x y dx dy d s vx vy e Q kq => by
  unfold dCatT at e
  split at e
  · split at e
    · rename_i h
      cases e
      obtain ⟨p, xs, rfl, hp0, hp, rp⟩ := vx.tup s
      obtain ⟨q, ys, rfl, hq0, hq, rq⟩ := vy.tup s
      refine ⟨p, q, xs, ys, rfl, rfl, SqT.of hp, SqT.of hq, szB_ok (by rw [rp.length, rq.length]; exact h), fun z => ?_, fun _ z => ?_, fun _ _ l hl => kq.newT s (rp.append rq) hl⟩
      · subst z
        cases rp
        exact kq _ H0 H (Gr.refl s) (.tup hq0 rq)
      · subst z
        cases rq
        rw [List.append_nil] at kq
        exact kq _ H0 H (Gr.refl s) (.tup hp0 rp)
    · cases e
  · cases e⟩
def dAdd (x y : D) : R D := match x, y with
  | .int i, .int j => .ok (.int (i + j))
  | .str x, .str y => if szB (x.length + y.length) = true then .ok (.str (x ++ y)) else .bad
  | .list x, .list y => if szB (x.length + y.length) = true then .ok (.list (x ++ y)) else .bad
  | .tuple x, .tuple y => if szB (x.length + y.length) = true then .ok (.tuple (x ++ y)) else .bad
  | _, _ => .bad
theorem od_add : OpD false X (binaryOp .Add) dAdd :=
  ((od_addI.orD od_addS).orD (od_cat.dn.orD od_catT)).imp fun x y d h => by
    unfold dAdd at h
    split at h
    · cases h; rfl
    · split at h
      · rename_i hz
        cases h
        simp [orD, dAddI, dI, dAddS, hz]
      · cases h
    · split at h
      · rename_i hz
        cases h
        simp [orD, dAddI, dI, dAddS, dCat, hz]
      · cases h
    · split at h
      · rename_i hz
        cases h
        simp [orD, dAddI, dI, dAddS, dCat, dCatT, hz]
      · cases h
    · cases h
theorem cm_add : Calm2 dAdd := fun x y c h => by
  unfold dAdd at h
  split at h <;> first | cases h | (split at h <;> cases h)
theorem cm_cat : Calm2 dCat := fun x y c h => by
  unfold dCat at h
  split at h <;> first | cases h | (split at h <;> cases h)
/-- lists, tuples times a number -/
def dRep : D → D → R D
  | .list x, .int k => if decide (-1000 ≤ k ∧ k ≤ 1000 ∧ x.length ≤ 100) = true then .ok (.list (List.replicate k.toNat x).flatten) else .bad
  | _, _ => .bad
theorem RpA.rep {K : Fr} {H : Hp} {xs : List V} {ds : List D} (r : RpA K H xs ds) : ∀ k : Nat, RpA K H (List.replicate k xs).flatten (List.replicate k ds).flatten
  | 0 => .nil
  | k + 1 => by
    rw [List.replicate_succ, List.replicate_succ, List.flatten_cons, List.flatten_cons]
    exact r.append (RpA.rep r k)
theorem od_rep : OpD true X (binaryOp .Mult) dRep := ⟨_, op_rep, fun H0 H x y dx dy d s vx vy e Q kq => by
  unfold dRep at e
  split at e
  · split at e
    · rename_i xs k h
      cases e
      have h := of_decide_eq_true h
      obtain ⟨p, xs, rfl, hp, rp⟩ := vx.lst s
      have hl := rp.length
      refine ⟨p, _, xs, rfl, vy.int, hp, by omega, by omega, sz_of ?_, fun l hl => kq.newL s (rp.rep _) hl⟩
      exact Nat.le_trans (Nat.mul_le_mul (by omega : xs.length ≤ 100) (by omega : k.toNat ≤ 1000)) (by decide)
    · cases e
  · cases e⟩
def dMul (x y : D) : R D := match x, y with
  | .list xs, y => dRep (.list xs) y
  | x, y => dMulI x y
theorem od_mul : OpD false X (binaryOp .Mult) dMul := OpD.or od_rep.dn od_mulI fun x y d h => by
  unfold dMul at h
  split at h
  · exact .inl h
  · exact .inr h
theorem cm_rep : Calm2 dRep := fun x y c h => by
  unfold dRep at h
  split at h <;> first | cases h | (split at h <;> cases h)
theorem cm_mul : Calm2 dMul := fun x y c h => by
  unfold dMul at h
  split at h
  · exact cm_rep _ _ _ h
  · exact dI_calm _ _ _ h
/-! ### comparisons -/
def dLt : D → D → R D := dI (fun _ _ => true) fun i j => .bool (decide (i < j))
def dLe : D → D → R D := dI (fun _ _ => true) fun i j => .bool (decide (i ≤ j))
def dGt : D → D → R D := dI (fun _ _ => true) fun i j => .bool (decide (j < i))
def dGe : D → D → R D := dI (fun _ _ => true) fun i j => .bool (decide (j ≤ i))
theorem od_lt : OpD false X (compareOp .Lt) dLt := opD_I0 op_lt fun i j _ => .bl _
theorem od_le : OpD false X (compareOp .LtE) dLe := opD_I0 op_le fun i j _ => .bl _
theorem od_gt : OpD false X (compareOp .Gt) dGt := opD_I0 op_gt fun i j _ => .bl _
theorem od_ge : OpD false X (compareOp .GtE) dGe := opD_I0 op_ge fun i j _ => .bl _
def dEq (x y : D) : R D := if (SeqAt.shaped (unS x) && SeqAt.shaped (unS y)) = true then .ok (.bool (PyData.eqv (unS x) (unS y))) else .bad
def dNe (x y : D) : R D := if (SeqAt.shaped (unS x) && SeqAt.shaped (unS y)) = true then .ok (.bool (!PyData.eqv (unS x) (unS y))) else .bad
theorem od_eq (hu : X.A.units + 100 < cLine) : OpD false X (compareOp .Eq) dEq := ⟨_, op_eqD (by omega), fun H0 H x y dx dy d s vx vy e Q kq => by
  unfold dEq at e
  split at e
  · rename_i h
    cases e
    obtain ⟨h1, h2⟩ := Bool.and_eq_true_iff.mp h
    exact ⟨_, _, vx.dp s (SeqAt.canLay_of_shaped h1), vy.dp s (SeqAt.canLay_of_shaped h2), h1, h2, kq _ H0 H (Gr.refl s) (.bl _)⟩
  · cases e⟩
theorem od_ne (hu : X.A.units + 100 < cLine) : OpD false X (compareOp .NotEq) dNe := ⟨_, op_neD (by omega), fun H0 H x y dx dy d s vx vy e Q kq => by
  unfold dNe at e
  split at e
  · rename_i h
    cases e
    obtain ⟨h1, h2⟩ := Bool.and_eq_true_iff.mp h
    exact ⟨_, _, vx.dp s (SeqAt.canLay_of_shaped h1), vy.dp s (SeqAt.canLay_of_shaped h2), h1, h2, kq _ H0 H (Gr.refl s) (.bl _)⟩
  · cases e⟩
theorem cm_eq : Calm2 dEq := fun x y c h => by
  unfold dEq at h
  split at h <;> cases h
theorem cm_ne : Calm2 dNe := fun x y c h => by
  unfold dNe at h
  split at h <;> cases h
/-! ### keys of dicts -/
def keyI : D → Option Key
  | .int i => some (.inl i)
  | .str x => some (.inr x)
  | _ => none
def keyL : List D → Option (List Key)
  | [] => some []
  | d :: ds => match keyI d, keyL ds with
    | some k, some r => some (k :: r)
    | _, _ => none
def keyOf : D → Option (List Key)
  | .tuple ds => keyL ds
  | _ => none
theorem keyI_rp {K : Fr} {H : Hp} {v : V} {d : D} {k : Key} (r : Rp K H v d) (h : keyI d = some k) : v = kV k ∧ d = kD k := by
  cases r with
  | int i => cases h; exact ⟨rfl, rfl⟩
  | str x => cases h; exact ⟨rfl, rfl⟩
  | _ => cases h
theorem keyL_rp {K : Fr} {H : Hp} : ∀ {vs : List V} {ds : List D} {k : List Key}, RpA K H vs ds → keyL ds = some k → vs = k.map kV ∧ PyData.tuple ds = keyD k
  | _, _, k, .nil, h => by
    unfold keyL at h
    cases h
    exact ⟨rfl, rfl⟩
  | _, _, k, .cons (v := v) (vs := vs) (d := d) (ds := ds) r rs, h => by
    unfold keyL at h
    cases h1 : keyI d with
    | none => rw [h1] at h; cases h
    | some q =>
      cases h2 : keyL ds with
      | none => rw [h1, h2] at h; cases h
      | some t =>
        rw [h1, h2] at h
        cases h
        obtain ⟨a1, a2⟩ := keyI_rp r h1
        obtain ⟨b1, b2⟩ := keyL_rp rs h2
        have b3 : ds = t.map kD := PyData.tuple.inj b2
        exact ⟨by rw [a1, b1]; rfl, by rw [a2, b3]; rfl⟩
    
/-- what a dict's entries tell of a key -/
def lkE (es : List (D × D)) (k : List Key) : Option D := (es.find? fun e => decide (keyOf e.1 = some k)).map (·.2)
theorem keyOf_keyD : ∀ k : List Key, keyOf (keyD k) = some k
  | [] => rfl
  | q :: k => by
    have ih : keyL (k.map kD) = some k := keyOf_keyD k
    show keyL (kD q :: k.map kD) = some (q :: k)
    unfold keyL
    rw [ih]
    cases q <;> rfl
theorem RpE.lk {K : Fr} {H : Hp} (k : List Key) : ∀ {kvs : List (List Key × V)} {es : List (D × D)}, RpE K H kvs es → (∃ v d, valV kvs k = some v ∧ lkE es k = some d ∧ Rp K H v d) ∨ (valV kvs k = none ∧ lkE es k = none)
  | _, _, .nil => .inr ⟨rfl, rfl⟩
  | _, _, .cons (k := q) (v := v) (d := d) (kvs := kvs) (es := es) h r => by
    by_cases e : q = k
    · subst e
      refine .inl ⟨v, d, valV_pos rfl, ?_, h⟩
      unfold lkE
      rw [List.find?_cons, keyOf_keyD]
      simp
    · have e2 : lkE ((keyD q, d) :: es) k = lkE es k := by
        unfold lkE
        rw [List.find?_cons, keyOf_keyD]
        have : decide (some q = some k) = false := decide_eq_false fun z => e (Option.some.inj z)
        simp only [this]
      rw [valV_neg (p := (q, v)) (show ¬ (q, v).1 = k from e), e2]
      exact RpE.lk k r
/-- an entry stored -/
def putE (es : List (D × D)) (k : List Key) (d : D) : List (D × D) :=
  if (es.any fun e => decide (keyOf e.1 = some k)) = true then es.map (fun e => if keyOf e.1 = some k then (e.1, d) else e) else es ++ [(keyD k, d)]
theorem RpE.any {K : Fr} {H : Hp} (k : List Key) : ∀ {kvs : List (List Key × V)} {es : List (D × D)}, RpE K H kvs es → (kvs.any fun kv => decide (kv.1 = k)) = es.any fun e => decide (keyOf e.1 = some k)
  | _, _, .nil => rfl
  | _, _, .cons (k := q) h r => by
    rw [List.any_cons, List.any_cons, RpE.any k r]
    show (decide (q = k) || _) = (decide (keyOf (keyD q) = some k) || _)
    rw [keyOf_keyD]
    congr 1
    exact decide_eq_decide.mpr ⟨fun e => by rw [e], fun e => Option.some.inj e⟩
theorem RpE.mapP {K : Fr} {H : Hp} {k : List Key} {v : V} {d : D} (hv : Rp K H v d) : ∀ {kvs : List (List Key × V)} {es : List (D × D)}, RpE K H kvs es →
    RpE K H (kvs.map fun kv => if kv.1 = k then (kv.1, v) else kv) (es.map fun e => if keyOf e.1 = some k then (e.1, d) else e)
  | _, _, .nil => .nil
  | _, _, .cons (k := q) (v := w) (d := f) h r => by
    rw [List.map_cons, List.map_cons]
    by_cases e : q = k
    · have e2 : keyOf (keyD q, f).1 = some k := by rw [← e]; exact keyOf_keyD q
      rw [if_pos e2, if_pos (show (q, w).1 = k from e)]
      exact .cons hv (RpE.mapP hv r)
    · have e2 : ¬ keyOf (keyD q, f).1 = some k := by
        show ¬ keyOf (keyD q) = some k
        rw [keyOf_keyD]
        exact fun z => e (Option.some.inj z)
      rw [if_neg e2, if_neg (show ¬ (q, w).1 = k from e)]
      exact .cons h (RpE.mapP hv r)
theorem RpE.append {K : Fr} {H : Hp} : ∀ {kvs kws : List (List Key × V)} {es fs : List (D × D)}, RpE K H kvs es → RpE K H kws fs → RpE K H (kvs ++ kws) (es ++ fs)
  | _, _, _, _, .nil, s => s
  | _, _, _, _, .cons h r, s => .cons h (RpE.append r s)
theorem RpE.length {K : Fr} {H : Hp} : ∀ {kvs : List (List Key × V)} {es : List (D × D)}, RpE K H kvs es → kvs.length = es.length
  | _, _, .nil => rfl
  | _, _, .cons _ r => congrArg (· + 1) (RpE.length r)
theorem RpE.put {K : Fr} {H : Hp} {k : List Key} {v : V} {d : D} {kvs : List (List Key × V)} {es : List (D × D)} (r : RpE K H kvs es) (hv : Rp K H v d) : RpE K H (putK kvs k v) (putE es k d) := by
  unfold putK putE
  rw [RpE.any k r]
  split
  · exact r.mapP hv
  · exact r.append (.cons hv .nil)
/-- a key as it stands -/
theorem Vx.key {K : Fr} {H0 H : Hp} {v : V} {d : D} {k : List Key} (s : Ex H0 H) (h : Vx K H0 H v d) (hk : keyOf d = some k) : ∃ b, v = .ref b ∧ H b = some (.tup (k.map kV)) ∧ d = keyD k := by
  cases d with
  | tuple ds =>
    obtain ⟨a, xs, rfl, h0, h1, r⟩ := h.tup s
    obtain ⟨e1, e2⟩ := keyL_rp r hk
    subst e1
    exact ⟨a, rfl, h1, e2⟩
  | _ => cases hk
/-- all keys are tuples (no script) -/
def okE (es : List (D × D)) : Bool := es.all fun e => (keyOf e.1).isSome
theorem Vx.dctO {K : Fr} {H0 H : Hp} {v : V} {es : List (D × D)} (s : Ex H0 H) (h : Vx K H0 H v (.dict es)) (ho : okE es = true) : ∃ a kvs, v = .ref a ∧ Rd H a (.dT kvs) ∧ RpE K H0 kvs es := by
  rcases h.dct s (fun a z => by subst z; cases ho) with h | ⟨a, ns, rfl, rfl, hs⟩
  · exact h
  · cases ho
theorem _root_.L2.DGet.rd {H : Hp} {a b : Addr} {kvs : List (List Key × V)} {k : List Key} (e : Rd H a (.dT kvs)) (eb : H b = some (.tup (k.map kV))) : DGet H a (.ref b) (valV kvs k) := .inr ⟨kvs, k, b, e, rfl, eb, rfl⟩
/-! ### x in y -/
def inD (x y : D) : Option Bool := match y with
  | .list ds => if (SeqAt.shaped x && SeqAt.shaped (.list ds)) = true then some (ds.any fun z => PyData.eqv z x) else none
  | .tuple ds => if (SeqAt.shaped x && SeqAt.shaped (.list ds)) = true then some (ds.any fun z => PyData.eqv z x) else none
  | .dict es => match keyOf x with
    | some k => if okE es = true then some (lkE es k).isSome else none
    | none => none
  | .str z => match x with
    | .str y => match y.cps.toList with
      | [c] => some (decide (c ∈ z.cps.toList))
      | _ => none
    | _ => none
  | _ => none
def dIn (x y : D) : R D := match inD x y with
  | some b => .ok (.bool b)
  | none => .bad
def dNotIn (x y : D) : R D := match inD x y with
  | some b => .ok (.bool (!b))
  | none => .bad
def rInB (X : Cx) (neg : Bool) : R2 := fun x y H Q => (∃ d ds, Dp X.K H x d ∧ (Dp X.K H y (.list ds) ∨ Dp X.K H y (.tuple ds)) ∧ SeqAt.shaped d = true ∧ SeqAt.shaped (.list ds) = true ∧ Q (.bl (xor neg (ds.any fun z => PyData.eqv z d))) H) ∨
  (∃ a o, y = .ref a ∧ DGet H a x o ∧ Q (.bl (xor neg o.isSome)) H) ∨ (∃ (c : Nat) (z : Str), x = .str ⟨#[c]⟩ ∧ y = .str z ∧ Q (.bl (xor neg (decide (c ∈ z.cps.toList)))) H)
theorem shaped_tup {ds : List D} (h : SeqAt.shaped (.list ds) = true) : PyData.canLayAll0 ds = true := SeqAt.canLay_of_shaped (d := .list ds) h
theorem op_inB (hu : X.A.units + 65 < cLine) : OpR X (compareOp .In) (rInB X false) := by
  intro pins s σ H x y v u Q I rx ry h
  rcases h with ⟨d, ds, hd, he, sd, se, q⟩ | ⟨a, o, rfl, g, q⟩ | ⟨c, z, rfl, rfl, q⟩
  · simp only [Bool.false_xor] at q
    obtain ⟨as, r1⟩ := Dp.reads I d x v hd rx
    rcases he with he | he
    · obtain ⟨bs, r2⟩ := Dp.reads I (.list ds) y u he ry
      exact SeqAt.in_list_reads r2 r1 (SeqAt.canLay_of_shaped se) (SeqAt.canLay_of_shaped sd) (room_in_shaped sd hu) ⟨.bl _, H, I, rfl, q⟩
    · obtain ⟨bs, r2⟩ := Dp.reads I (.tuple ds) y u he ry
      exact SeqAt.in_tuple_reads r2 r1 (SeqAt.canLay_of_shaped se) (SeqAt.canLay_of_shaped sd) (room_in_shaped sd hu) ⟨.bl _, H, I, rfl, q⟩
  · simp only [Bool.false_xor] at q
    obtain rfl : u = Value.ref a := ry
    exact d_in (by omega) I g rx fun s3 I3 => ⟨.bl o.isSome, H, I3, rfl, q⟩
  · simp only [Bool.false_xor] at q
    exact op_in_sign pins s σ H _ _ v u Q I rx ry ⟨c, z, rfl, rfl, q⟩
theorem op_notInB (hu : X.A.units + 65 < cLine) : OpR X (compareOp .NotIn) (rInB X true) := by
  intro pins s σ H x y v u Q I rx ry h
  rcases h with ⟨d, ds, hd, he, sd, se, q⟩ | ⟨a, o, rfl, g, q⟩ | ⟨c, z, rfl, rfl, q⟩
  · simp only [Bool.true_xor] at q
    obtain ⟨as, r1⟩ := Dp.reads I d x v hd rx
    rcases he with he | he
    · obtain ⟨bs, r2⟩ := Dp.reads I (.list ds) y u he ry
      exact SeqAt.notIn_list_reads r2 r1 (SeqAt.canLay_of_shaped se) (SeqAt.canLay_of_shaped sd) (room_in_shaped sd hu) ⟨.bl _, H, I, rfl, q⟩
    · obtain ⟨bs, r2⟩ := Dp.reads I (.tuple ds) y u he ry
      exact SeqAt.notIn_tuple_reads r2 r1 (SeqAt.canLay_of_shaped se) (SeqAt.canLay_of_shaped sd) (room_in_shaped sd hu) ⟨.bl _, H, I, rfl, q⟩
  · simp only [Bool.true_xor] at q
    obtain rfl : u = Value.ref a := ry
    exact d_notIn (by omega) I g rx fun s3 I3 => ⟨.bl (!o.isSome), H, I3, rfl, q⟩
  · simp only [Bool.true_xor] at q
    exact op_notIn_sign pins s σ H _ _ v u Q I rx ry ⟨c, z, rfl, rfl, q⟩
theorem str_one {y : Str} {c : Nat} (h : y.cps.toList = [c]) : y = ⟨#[c]⟩ := by
  cases y with
  | mk cps =>
    have : cps = #[c] := by
      apply Array.toList_inj.mp
      exact h
    rw [this]
theorem inB_of {neg bb : Bool} {H0 H : Hp} {x y : V} {dx dy : D} (s : Ex H0 H) (vx : Vx X.K H0 H x dx) (vy : Vx X.K H0 H y dy) (e : inD dx dy = some bb) {Q : VK} (kq : Kq false X.K H0 H (.bool (xor neg bb)) Q) : rInB X neg x y H Q := by
  unfold inD at e
  split at e
  · split at e
    · rename_i h
      cases e
      obtain ⟨h1, h2⟩ := Bool.and_eq_true_iff.mp h
      have hx : (unS dx).canLay0 = true := by
        unfold unS
        split
        · simp [SeqAt.shaped, PyData.canLay0] at h1
        · exact SeqAt.canLay_of_shaped h1
      have ex : unS dx = dx := by
        unfold unS
        split
        · simp [SeqAt.shaped, PyData.canLay0] at h1
        · rfl
      refine .inl ⟨dx, _, ex ▸ vx.dp s hx, .inl (vy.dp s (SeqAt.canLay_of_shaped h2)), h1, h2, kq _ H0 H (Gr.refl s) (.bl _)⟩
    · cases e
  · split at e
    · rename_i h
      cases e
      obtain ⟨h1, h2⟩ := Bool.and_eq_true_iff.mp h
      have hx : (unS dx).canLay0 = true := by
        unfold unS
        split
        · simp [SeqAt.shaped, PyData.canLay0] at h1
        · exact SeqAt.canLay_of_shaped h1
      have ex : unS dx = dx := by
        unfold unS
        split
        · simp [SeqAt.shaped, PyData.canLay0] at h1
        · rfl
      refine .inl ⟨dx, _, ex ▸ vx.dp s hx, .inr (vy.dp s (by show PyData.canLay0 (.tuple _) = true; unfold PyData.canLay0; exact shaped_tup h2)), h1, h2, kq _ H0 H (Gr.refl s) (.bl _)⟩
    · cases e
  · split at e
    · split at e
      · rename_i es _ k hk ho
        cases e
        obtain ⟨b, rfl, hb, rfl⟩ := vx.key s hk
        obtain ⟨a, kvs, rfl, ha, r⟩ := vy.dctO s ho
        refine .inr (.inl ⟨a, _, rfl, DGet.rd ha hb, ?_⟩)
        have : (valV kvs k).isSome = (lkE es k).isSome := by
          rcases RpE.lk _ r with ⟨v, d, h1, h2, _⟩ | ⟨h1, h2⟩ <;> rw [h1, h2] <;> rfl
        rw [this]
        exact kq _ H0 H (Gr.refl s) (.bl _)
      · cases e
    · cases e
  · split at e
    · split at e
      · rename_i hc
        cases e
        have := str_one hc
        subst this
        exact .inr (.inr ⟨_, _, vx.str, vy.str, kq _ H0 H (Gr.refl s) (.bl _)⟩)
      · cases e
    · cases e
  · cases e
end
end Fc
set_option Elab.async false
set_option linter.all false
set_option maxRecDepth 100000
set_option maxHeartbeats 2000000
namespace Fc
open PySem L2 Evl PySem.Spec PyProof.Rows
theorem _root_.L2.Room.u {k : Nat} {A : Around} (r : Room k A) : A.units + 100 < cLine := by have := r.un; omega
section
variable {X : Cx} {W : WX} {e a b c : Expr} {es : List Expr} {m ma mb mc : DE} {pos : Pos}
/-! ### in -/
theorem od_in (hu : X.A.units + 100 < cLine) : OpD false X (compareOp .In) dIn := ⟨_, op_inB (by omega), fun H0 H x y dx dy d s vx vy e Q kq => by
  unfold dIn at e
  split at e
  · rename_i bb h
    cases e
    exact inB_of (neg := false) s vx vy h (by rw [Bool.false_xor]; exact kq)
  · cases e⟩
theorem od_notIn (hu : X.A.units + 100 < cLine) : OpD false X (compareOp .NotIn) dNotIn := ⟨_, op_notInB (by omega), fun H0 H x y dx dy d s vx vy e Q kq => by
  unfold dNotIn at e
  split at e
  · rename_i bb h
    cases e
    exact inB_of (neg := true) s vx vy h (by rw [Bool.true_xor]; exact kq)
  · cases e⟩
theorem cm_in : Calm2 dIn := fun x y c h => by
  unfold dIn at h
  split at h <;> cases h
theorem cm_notIn : Calm2 dNotIn := fun x y c h => by
  unfold dNotIn at h
  split at h <;> cases h
/-! ### subscripts -/
def dIx (x y : D) : R D := match x, y with
  | .list ds, .int i => match atI ds i with
    | some d => .ok d
    | none => .bad
  | .tuple ds, .int i => match atI ds i with
    | some d => .ok d
    | none => .bad
  | .str z, .int i => if szB z.length = true then (match atI z.cps.toList i with
    | some c => .ok (.str ⟨#[c]⟩)
    | none => .bad) else .bad
  | .dict [(.none, .list ds)], .int i => match atI ds i with
    | some d => .ok d
    | none => .bad
  | .dict es, .tuple ks => match keyL ks with
    | some k => match lkE es k with
      | some d => .ok d
      | none => .bad
    | none => .bad
  | _, _ => .bad
theorem cm_ix : Calm2 dIx := fun x y c h => by
  unfold dIx at h
  repeat' first
    | cases h
    | split at h
theorem RpA.at_ {K : Fr} {H : Hp} {vs : List V} {ds : List D} {i : Int} {d : D} (r : RpA K H vs ds) (h : atI ds i = some d) : ∃ v, atI vs i = some v ∧ Rp K H v d := by
  unfold atI at h ⊢
  rw [r.length]
  cases q : ixN ds.length i with
  | none => rw [q] at h; cases h
  | some j =>
    rw [q] at h
    exact r.getD h
def rIxB (X : Cx) : R2 := fun x y H Q => rIx X.K x y H Q ∨ ∃ a v, x = .ref a ∧ DGet H a y (some v) ∧ Q v H
theorem ix_dT (hu : X.A.units + 1 < cLine) : IxR X (fun x y H Q => ∃ a v, x = .ref a ∧ DGet H a y (some v) ∧ Q v H) := by
  intro value slice pins s σ H x y v u Q I rx ry h hs
  obtain ⟨a, z, rfl, g, q⟩ := h
  obtain rfl : v = Value.ref a := rx
  exact tail_any (dict_typeIs I g) PySem.F.slot_dict_getitem.lookup (d_getItem hu I g ry fun w' s3 I3 rw' => ⟨z, H, I3, rw', q⟩) hs
theorem od_ix (hu : X.A.units + 100 < cLine) : IxD false X dIx := ⟨rIxB X, ix_seq.or (ix_dT (by omega)), fun H0 H x y dx dy d s vx vy e Q kq => by
  unfold dIx at e
  split at e
  · split at e
    · rename_i z hz
      cases e
      obtain ⟨p, xs, rfl, hp, rp⟩ := vx.lst s
      obtain ⟨v, h1, h2⟩ := rp.at_ hz
      exact .inl (.inl ⟨p, xs, _, v, rfl, vy.int, SqL.of hp, h1, kq v H0 H (Gr.refl s) h2⟩)
    · cases e
  · split at e
    · rename_i z hz
      cases e
      obtain ⟨p, xs, rfl, hp0, hp, rp⟩ := vx.tup s
      obtain ⟨v, h1, h2⟩ := rp.at_ hz
      exact .inl (.inr (.inl ⟨p, xs, _, v, rfl, vy.int, SqT.of hp, h1, kq v H0 H (Gr.refl s) h2⟩))
    · cases e
  · split at e
    · split at e
      · rename_i hz _ c hc
        cases e
        exact .inl (.inr (.inr ⟨_, _, c, vx.str, vy.int, szB_ok hz, hc, kq _ H0 H (Gr.refl s) (.str _)⟩))
      · cases e
    · cases e
  · split at e
    · rename_i ds i z hz
      cases e
      rcases vx.dct s with ⟨a, kvs, rfl, ha, r⟩ | ⟨a, ns, rfl, e2, hs⟩
      · exact (RpE.no_none r).elim
      · simp at e2
        subst e2
        obtain ⟨v, h1, h2⟩ := (RpA.ints (K := X.K) (H := H0) (ns := ns)).at_ hz
        exact .inl (.inl ⟨a, _, _, v, rfl, vy.int, hs, h1, kq v H0 H (Gr.refl s) h2⟩)
    · cases e
  · split at e
    · split at e
      · rename_i _ k hk _ z hz
        cases e
        obtain ⟨b, rfl, hb, _⟩ := vy.key s (k := k) hk
        rcases vx.dct s (fun a q => by subst q; simp [lkE, keyOf] at hz) with ⟨a, kvs, rfl, ha, r⟩ | ⟨a, ns, rfl, rfl, hs⟩
        · rcases RpE.lk k r with ⟨v, d, h1, h2, h3⟩ | ⟨h1, h2⟩
          · rw [h2] at hz
            cases hz
            exact .inr ⟨a, v, rfl, by rw [← h1]; exact DGet.rd ha hb, kq v H0 H (Gr.refl s) h3⟩
          · rw [h2] at hz; cases hz
        · exfalso
          unfold lkE at hz
          simp [keyOf] at hz
      · cases e
    · cases e
  · cases e⟩
/-! ### is None, minus -/
def isN : D → Bool
  | .none => true
  | _ => false
theorem Vx.isN {K : Fr} {H0 H : Hp} {v : V} {d : D} (h : Vx K H0 H v d) : decide (v = .non) = Fc.isN d := by
  rcases h with h | ⟨p, o, rfl, _, h⟩
  · cases h <;> rfl
  · rcases h with ⟨_, _, _, rfl, _⟩ | ⟨_, _, _, rfl, _⟩ <;> rfl
def eU (f : D → R D) (ma : DE) : DE := fun ρ => (ma ρ).bind f
def dIsN (d : D) : R D := .ok (.bool (isN d))
def dNotN (d : D) : R D := .ok (.bool (!isN d))
theorem t_un {k : Bool} {K : Fr} {mg : Str → Option Value} {f : D → R D} {t : V → Hp → VK → Prop} (cm : ∀ d c, f d ≠ .er c)
    (hr : ∀ H0 H x dx d, Ex H0 H → Vx K H0 H x dx → f dx = .ok d → ∀ Q, Kq k K H0 H d Q → t x H Q) {σ : L2.St} {H : Hp} {Q : VK} (h : tE k K mg W (eU f ma) σ H Q) : tW K mg W ma σ H fun x H1 => t x H1 Q := by
  obtain ⟨B, ρ, H0, rl, o⟩ := h
  refine ⟨B, ρ, H0, rl, ?_⟩
  unfold eU at o
  cases ha : ma ρ with
  | bad => rw [ha] at o; exact o
  | er c => rw [ha] at o; exact o
  | ok da =>
    rw [ha] at o
    intro x H1 H2 g1 vx
    have rl2 := rl.grow g1
    cases hc : f da with
    | bad => rw [R.bind_ok, hc] at o; exact o.elim
    | er c => exact absurd hc (cm _ _)
    | ok d =>
      rw [R.bind_ok, hc] at o
      exact hr H1 H2 x da d rl2.s (Vw.vx rl2 vx) hc Q (Kq.grow o g1)
theorem pd_isN {j : Nat} {pos' : Pos} (ha : PB X W a ma) : PD X W (.Compare a [.Is] [.Constant .none j pos'] pos) (eU dIsN ma) := (pe_cmp (pc_isN ha) rfl).wk fun σ H Q h =>
  t_un (t := fun x H1 Q => Q (.bl (decide (x = .non))) H1) (fun d c z => by cases (show R.ok _ = R.er c from z)) (fun H0 H x dx d s vx e Q kq => by cases e; rw [vx.isN]; exact kq _ H0 H (Gr.refl s) (.bl _)) h
theorem pd_notN {j : Nat} {pos' : Pos} (ha : PB X W a ma) : PD X W (.Compare a [.IsNot] [.Constant .none j pos'] pos) (eU dNotN ma) := (pe_cmp (pc_notN ha) rfl).wk fun σ H Q h =>
  t_un (t := fun x H1 Q => Q (.bl (!decide (x = .non))) H1) (fun d c z => by cases (show R.ok _ = R.er c from z)) (fun H0 H x dx d s vx e Q kq => by cases e; rw [vx.isN]; exact kq _ H0 H (Gr.refl s) (.bl _)) h
def dNeg : D → R D
  | .int i => .ok (.int (-i))
  | _ => .bad
theorem pd_neg (ha : PB X W a ma) : PD X W (.UnaryOp .USub a pos) (eU dNeg ma) := (pe_un un_neg ha).wk fun σ H Q h =>
  t_un (t := fun x H1 Q => ∃ i, x = .int i ∧ Q (.int (-i)) H1) (fun d c z => by unfold dNeg at z; split at z <;> cases z) (fun H0 H x dx d s vx e Q kq => by
    unfold dNeg at e
    split at e
    · cases e; exact ⟨_, vx.int, kq _ H0 H (Gr.refl s) (.int _)⟩
    · cases e) h
/-! ### tests -/
def tT (K : Fr) (mg : Str → Option Value) (W : WX) (m : DE) : TT := fun σ H Q => ∃ B ρ H0, Rl K B ρ σ H0 H ∧
  Out (m ρ) (fun d => ∃ b, d = .bool b ∧ ∀ H0' H', Gr H0 H H0' H' → Q b H') (fun c => ∀ H', Ex H H' → WC mg W c σ H')
abbrev PTd (X : Cx) (W : WX) (e : Expr) (m : DE) : Prop := PT X e (tT X.K X.mg W m)
theorem td (h : PD X W e m) (he : ∀ whole, isTrue e X.env whole = (do let v ← whole; standAt e.pos; holding [v] (truthy v)) := by intro _; rfl) : PTd X W e m := (pt_val h he).wk fun σ H Q ⟨B, ρ, H0, r, o⟩ =>
  ⟨B, ρ, H0, r, o.imp (fun d ⟨b, e, k⟩ v H0' H' g rp => by subst e; cases rp; exact ⟨b, rfl, k H0' H' g⟩) fun _ k => k⟩
theorem td_cmp {op : CmpOp} {f : D → D → R D} (ho : OpD false X (compareOp op) f) (cm : Calm2 f) (hm : behindInMarks op b = false) (ha : PB X W a ma) (hb : PB X W b mb) : PTd X W (.Compare a [op] [b] pos) (eBin f ma mb) := by
  obtain ⟨r, h1, h2⟩ := ho
  refine (pt_cmpR h1 ha hb hm).wk fun σ H Q h => ?_
  show tOp r (tW X.K X.mg W ma) (tW X.K X.mg W mb) σ H fun x H1 => ∃ k, x = .bl k ∧ Q k H1
  refine t_bin (k := false) cm h2 ?_
  obtain ⟨B, ρ, H0, r, o⟩ := h
  exact ⟨B, ρ, H0, r, o.imp (fun d ⟨b, e, k⟩ v H0' H' g rp => by subst e; cases rp; exact ⟨b, rfl, k H0' H' g⟩) fun _ k => k⟩
theorem td_isN {j : Nat} {pos' : Pos} (ha : PB X W a ma) : PTd X W (.Compare a [.Is] [.Constant .none j pos'] pos) (eU dIsN ma) := (pt_cmp (pc_isN ha) rfl).wk fun σ H Q h => by
  show tIsN (tW X.K X.mg W ma) σ H fun x H1 => ∃ c, x = .bl c ∧ Q c H1
  refine t_un (k := false) (K := X.K) (mg := X.mg) (Q := fun x H1 => ∃ c, x = V.bl c ∧ Q c H1) (f := dIsN) (t := fun x H1 Q => Q (.bl (decide (x = .non))) H1) (fun d c z => by cases (show R.ok _ = R.er c from z)) (fun H0 H x dx d s vx e Q kq => by cases e; rw [vx.isN]; exact kq _ H0 H (Gr.refl s) (.bl _)) ?_
  obtain ⟨B, ρ, H0, r, o⟩ := h
  exact ⟨B, ρ, H0, r, o.imp (fun d ⟨b, e, k⟩ v H0' H' g rp => by subst e; cases rp; exact ⟨b, rfl, k H0' H' g⟩) fun _ k => k⟩
theorem td_notN {j : Nat} {pos' : Pos} (ha : PB X W a ma) : PTd X W (.Compare a [.IsNot] [.Constant .none j pos'] pos) (eU dNotN ma) := (pt_cmp (pc_notN ha) rfl).wk fun σ H Q h => by
  show tNotN (tW X.K X.mg W ma) σ H fun x H1 => ∃ c, x = .bl c ∧ Q c H1
  refine t_un (k := false) (K := X.K) (mg := X.mg) (Q := fun x H1 => ∃ c, x = V.bl c ∧ Q c H1) (f := dNotN) (t := fun x H1 Q => Q (.bl (!decide (x = .non))) H1) (fun d c z => by cases (show R.ok _ = R.er c from z)) (fun H0 H x dx d s vx e Q kq => by cases e; rw [vx.isN]; exact kq _ H0 H (Gr.refl s) (.bl _)) ?_
  obtain ⟨B, ρ, H0, r, o⟩ := h
  exact ⟨B, ρ, H0, r, o.imp (fun d ⟨b, e, k⟩ v H0' H' g rp => by subst e; cases rp; exact ⟨b, rfl, k H0' H' g⟩) fun _ k => k⟩
/-- and, or, not, if -/
def dNot : D → R D
  | .bool b => .ok (.bool (!b))
  | _ => .bad
def eAnd (ma mb : DE) : DE := fun ρ => (ma ρ).bind fun d => match d with
  | .bool true => mb ρ
  | .bool false => .ok (.bool false)
  | _ => .bad
def eOr (ma mb : DE) : DE := fun ρ => (ma ρ).bind fun d => match d with
  | .bool true => .ok (.bool true)
  | .bool false => mb ρ
  | _ => .bad
def eIf (mc ma mb : DE) : DE := fun ρ => (mc ρ).bind fun d => match d with
  | .bool true => ma ρ
  | .bool false => mb ρ
  | _ => .bad
theorem td_not (ha : PTd X W a ma) : PTd X W (.UnaryOp .Not a pos) (eU dNot ma) := (pt_not ha).wk fun σ H Q ⟨B, ρ, H0, r, o⟩ => by
  refine ⟨B, ρ, H0, r, ?_⟩
  unfold eU at o
  cases h : ma ρ with
  | bad => rw [h] at o; exact o
  | er c => rw [h] at o; exact o
  | ok d =>
    rw [h, R.bind_ok] at o
    unfold dNot at o
    split at o
    · obtain ⟨b, e, k⟩ := o
      cases e
      exact ⟨_, rfl, k⟩
    · exact o.elim
abbrev PWd (X : Cx) (W : WX) (e : Expr) (m : DE) : Prop := PW X e (tT X.K X.mg W m)
theorem _root_.L2.PW.wk {X : Cx} {e : Expr} {t t' : TT} (h : PW X e t) (k : ∀ σ H Q, t' σ H Q → t σ H Q) : PW X e t' := ⟨fun wh pins s σ H Q I q => h.run wh pins s σ H Q I (k σ H Q q)⟩
theorem t_and {σ : L2.St} {H : Hp} {Q : Bool → Hp → Prop} {K : Fr} {mg : Str → Option Value} (h : tT K mg W (eAnd ma mb) σ H Q) : tAnd (tT K mg W ma) (tT K mg W mb) σ H Q := by
  obtain ⟨B, ρ, H0, r, o⟩ := h
  refine ⟨B, ρ, H0, r, ?_⟩
  unfold eAnd at o
  cases ha : ma ρ with
  | bad => rw [ha] at o; exact o
  | er c => rw [ha] at o; exact o
  | ok d =>
    rw [ha, R.bind_ok] at o
    split at o
    · refine ⟨true, rfl, fun H1 H2 g => ?_⟩
      refine iteT ?_
      exact ⟨B, ρ, H1, r.grow g, o.imp (fun d ⟨b, e, k⟩ => ⟨b, e, fun H3 H4 g2 => k H3 H4 (g.trans g2)⟩) fun c k H' e => k H' (g.e.trans e)⟩
    · obtain ⟨b, e, k⟩ := o
      cases e
      refine ⟨false, rfl, fun H1 H2 g => ?_⟩
      refine iteF ?_
      exact k H1 H2 g
    · exact o.elim
theorem t_or {σ : L2.St} {H : Hp} {Q : Bool → Hp → Prop} {K : Fr} {mg : Str → Option Value} (h : tT K mg W (eOr ma mb) σ H Q) : tOr (tT K mg W ma) (tT K mg W mb) σ H Q := by
  obtain ⟨B, ρ, H0, r, o⟩ := h
  refine ⟨B, ρ, H0, r, ?_⟩
  unfold eOr at o
  cases ha : ma ρ with
  | bad => rw [ha] at o; exact o
  | er c => rw [ha] at o; exact o
  | ok d =>
    rw [ha, R.bind_ok] at o
    split at o
    · obtain ⟨b, e, k⟩ := o
      cases e
      refine ⟨true, rfl, fun H1 H2 g => ?_⟩
      refine iteT ?_
      exact k H1 H2 g
    · refine ⟨false, rfl, fun H1 H2 g => ?_⟩
      refine iteF ?_
      exact ⟨B, ρ, H1, r.grow g, o.imp (fun d ⟨b, e, k⟩ => ⟨b, e, fun H3 H4 g2 => k H3 H4 (g.trans g2)⟩) fun c k H' e => k H' (g.e.trans e)⟩
    · exact o.elim
theorem wd_and1 (ha : PTd X W a ma) : PWd X W (.BoolOp .And [a] pos) ma := pw_and1 ha
theorem wd_or1 (ha : PTd X W a ma) : PWd X W (.BoolOp .Or [a] pos) ma := pw_or1 ha
theorem wd_and (ha : PTd X W a ma) (hb : PWd X W (.BoolOp .And (b :: es) pos) mb) : PWd X W (.BoolOp .And (a :: b :: es) pos) (eAnd ma mb) := (pw_and ha hb).wk fun _ _ _ h => t_and h
theorem wd_or (ha : PTd X W a ma) (hb : PWd X W (.BoolOp .Or (b :: es) pos) mb) : PWd X W (.BoolOp .Or (a :: b :: es) pos) (eOr ma mb) := (pw_or ha hb).wk fun _ _ _ h => t_or h
/-- as values -/
theorem pd_not (ha : PD X W a ma) : PD X W (.UnaryOp .Not a pos) (eU dNot ma) := (pe_not (db ha)).wk fun σ H Q h =>
  t_un (t := fun x H1 Q => ∃ c, x = .bl c ∧ Q (.bl (!c)) H1) (fun d c z => by unfold dNot at z; split at z <;> cases z) (fun H0 H x dx d s vx e Q kq => by
    unfold dNot at e
    split at e
    · cases e; exact ⟨_, vx.bl, kq _ H0 H (Gr.refl s) (.bl _)⟩
    · cases e) h
theorem pd_one {op : BoolOp} (h : PD X W a ma) : PD X W (.BoolOp op [a] pos) ma := pe_one h
theorem pd_and (ha : PD X W a ma) (hb : PD X W (.BoolOp .And (b :: es) pos) mb) : PD X W (.BoolOp .And (a :: b :: es) pos) (eAnd ma mb) := (pe_and ha hb).wk fun σ H Q ⟨B, ρ, H0, r, o⟩ => by
  refine ⟨B, ρ, H0, r, ?_⟩
  unfold eAnd at o
  cases h : ma ρ with
  | bad => rw [h] at o; exact o
  | er c => rw [h] at o; exact o
  | ok d =>
    rw [h, R.bind_ok] at o
    intro v H1 H2 g rp
    split at o
    · cases rp
      refine ⟨true, rfl, ?_⟩
      refine iteT ?_
      exact ⟨B, ρ, H1, r.grow g, o.imp (fun d k => Kq.grow (k := false) k g) fun c k H' e => k H' (g.e.trans e)⟩
    · cases rp
      refine ⟨false, rfl, ?_⟩
      refine iteF ?_
      exact o _ H1 H2 g (.bl _)
    · exact o.elim
theorem pd_or (ha : PD X W a ma) (hb : PD X W (.BoolOp .Or (b :: es) pos) mb) : PD X W (.BoolOp .Or (a :: b :: es) pos) (eOr ma mb) := (pe_or ha hb).wk fun σ H Q ⟨B, ρ, H0, r, o⟩ => by
  refine ⟨B, ρ, H0, r, ?_⟩
  unfold eOr at o
  cases h : ma ρ with
  | bad => rw [h] at o; exact o
  | er c => rw [h] at o; exact o
  | ok d =>
    rw [h, R.bind_ok] at o
    intro v H1 H2 g rp
    split at o
    · cases rp
      refine ⟨true, rfl, ?_⟩
      refine iteT ?_
      exact o _ H1 H2 g (.bl _)
    · cases rp
      refine ⟨false, rfl, ?_⟩
      refine iteF ?_
      exact ⟨B, ρ, H1, r.grow g, o.imp (fun d k => Kq.grow (k := false) k g) fun c k H' e => k H' (g.e.trans e)⟩
    · exact o.elim
theorem pd_if {k : Bool} (hc : PTd X W c mc) (ha : PE X a (tE k X.K X.mg W ma)) (hb : PE X b (tE k X.K X.mg W mb)) : PE X (.IfExp c a b pos) (tE k X.K X.mg W (eIf mc ma mb)) := (pe_ifExp hc ha hb).wk fun σ H Q ⟨B, ρ, H0, r, o⟩ => by
  refine ⟨B, ρ, H0, r, ?_⟩
  unfold eIf at o
  cases h : mc ρ with
  | bad => rw [h] at o; exact o
  | er c => rw [h] at o; exact o
  | ok d =>
    rw [h, R.bind_ok] at o
    split at o
    · refine ⟨true, rfl, fun H1 H2 g => ?_⟩
      refine iteT ?_
      exact ⟨B, ρ, H1, r.grow g, o.imp (fun d k => Kq.grow k g) fun c k H' e => k H' (g.e.trans e)⟩
    · refine ⟨false, rfl, fun H1 H2 g => ?_⟩
      refine iteF ?_
      exact ⟨B, ρ, H1, r.grow g, o.imp (fun d k => Kq.grow k g) fun c k H' e => k H' (g.e.trans e)⟩
    · exact o.elim
/-- a < b <= c -/
def eChain (f g : D → D → R D) (ma mb mc : DE) : DE := fun ρ => (ma ρ).bind fun x => (mb ρ).bind fun y => (f x y).bind fun d => match d with
  | .bool true => (mc ρ).bind fun z => g y z
  | .bool false => .ok (.bool false)
  | _ => .bad
theorem t_chain {K : Fr} {mg : Str → Option Value} {f g : D → D → R D} {r r' : R2} (cm : Calm2 f) (cm' : Calm2 g)
    (hr : ∀ H0 H x y dx dy d, Ex H0 H → Vx K H0 H x dx → Vx K H0 H y dy → f dx dy = .ok d → ∀ Q, Kq false K H0 H d Q → r x y H Q)
    (hr' : ∀ H0 H x y dx dy d, Ex H0 H → Vx K H0 H x dx → Vx K H0 H y dy → g dx dy = .ok d → ∀ Q, Kq false K H0 H d Q → r' x y H Q) {σ : L2.St} {H : Hp} {Q : VK}
    (h : tE false K mg W (eChain f g ma mb mc) σ H Q) : tChain r r' (tW K mg W ma) (tW K mg W mb) (tW K mg W mc) σ H Q := by
  obtain ⟨B, ρ, H0, rl, o⟩ := h
  refine ⟨B, ρ, H0, rl, ?_⟩
  unfold eChain at o
  cases ha : ma ρ with
  | bad => rw [ha] at o; exact o
  | er c => rw [ha] at o; exact o
  | ok da =>
    rw [ha] at o
    intro x H1 H2 g1 vx
    have rl2 := rl.grow g1
    refine ⟨B, ρ, H1, rl2, ?_⟩
    cases hb : mb ρ with
    | bad => rw [R.bind_ok, hb] at o; exact o
    | er c => rw [R.bind_ok, hb] at o; exact fun H' e => o H' (g1.e.trans e)
    | ok db =>
      rw [R.bind_ok, hb, R.bind_ok] at o
      intro y H3 H4 g2 vy
      have rl3 := rl2.grow g2
      cases hc : f da db with
      | bad => rw [hc] at o; exact o.elim
      | er c => exact absurd hc (cm _ _ _)
      | ok d =>
        rw [hc, R.bind_ok] at o
        refine hr H3 H4 x y da db d rl3.s (Vw.vx rl3 (vx.mono g2.e0)) (Vw.vx rl3 vy) hc _ fun v H5 H6 g3 rp => ?_
        have rl4 := rl3.grow g3
        split at o
        · cases rp
          refine ⟨true, rfl, ?_⟩
          refine iteT ?_
          refine ⟨B, ρ, H5, rl4, ?_⟩
          cases hd : mc ρ with
          | bad => rw [hd] at o; exact o
          | er c => rw [hd] at o; exact fun H' e => o H' (((g1.trans g2).trans g3).e.trans e)
          | ok dc =>
            rw [hd, R.bind_ok] at o
            intro z H7 H8 g4 vz
            have rl5 := rl4.grow g4
            cases he : g db dc with
            | bad => rw [he] at o; exact o.elim
            | er c => exact absurd he (cm' _ _ _)
            | ok d =>
              rw [he] at o
              exact hr' H7 H8 y z db dc d rl5.s (Vw.vx rl5 (vy.mono (g3.trans g4).e0)) (Vw.vx rl5 vz) he Q (Kq.grow (k := false) o (((g1.trans g2).trans g3).trans g4))
        · cases rp
          refine ⟨false, rfl, ?_⟩
          refine iteF ?_
          exact o _ H5 H6 ((g1.trans g2).trans g3) (.bl _)
        · exact o.elim
theorem pd_chain {op op' : CmpOp} {f g : D → D → R D} (ho : OpD false X (compareOp op) f) (ho' : OpD false X (compareOp op') g) (cm : Calm2 f) (cm' : Calm2 g) (ha : PB X W a ma) (hb : PB X W b mb) (hc : PB X W c mc)
    (hm : lastMarks [op, op'] [b, c] = false := by with_unfolding_all rfl) : PD X W (.Compare a [op, op'] [b, c] pos) (eChain f g ma mb mc) := by
  obtain ⟨r, h1, h2⟩ := ho
  obtain ⟨r', h1', h2'⟩ := ho'
  exact (pe_chain h1 h1' ha hb hc hm).wk fun σ H Q h => t_chain cm cm' h2 h2' h
theorem td_chain {op op' : CmpOp} {f g : D → D → R D} (ho : OpD false X (compareOp op) f) (ho' : OpD false X (compareOp op') g) (cm : Calm2 f) (cm' : Calm2 g) (ha : PB X W a ma) (hb : PB X W b mb) (hc : PB X W c mc)
    (hm : lastMarks [op, op'] [b, c] = false := by with_unfolding_all rfl) : PTd X W (.Compare a [op, op'] [b, c] pos) (eChain f g ma mb mc) := by
  obtain ⟨r, h1, h2⟩ := ho
  obtain ⟨r', h1', h2'⟩ := ho'
  refine (pt_chain h1 h1' ha hb hc hm).wk fun σ H Q h => ?_
  show tChain r r' _ _ _ σ H fun x H1 => ∃ k, x = .bl k ∧ Q k H1
  refine t_chain cm cm' h2 h2' ?_
  obtain ⟨B, ρ, H0, r, o⟩ := h
  exact ⟨B, ρ, H0, r, o.imp (fun d ⟨b, e, k⟩ v H0' H' g rp => by subst e; cases rp; exact ⟨b, rfl, k H0' H' g⟩) fun _ k => k⟩
/-! ### arguments, displays -/
abbrev DA := En → R (List D)
def tAf (K : Fr) (mg : Str → Option Value) (W : WX) (m : DA) : TA := fun σ H Q => ∃ B ρ H0, Rl K B ρ σ H0 H ∧
  Out (m ρ) (fun ds => ∀ vs H0' H', Gr H0 H H0' H' → RpA K H0' vs ds → Q vs H') (fun c => ∀ H', Ex H H' → WC mg W c σ H')
inductive VwA (K : Fr) (ρ : En) (σ : L2.St) (H0 : Hp) : List V → List D → Prop
  | nil : VwA K ρ σ H0 [] []
  | cons {v : V} {vs : List V} {d : D} {ds : List D} : Vw K ρ σ H0 v d → VwA K ρ σ H0 vs ds → VwA K ρ σ H0 (v :: vs) (d :: ds)
inductive VxA (K : Fr) (H0 H : Hp) : List V → List D → Prop
  | nil : VxA K H0 H [] []
  | cons {v : V} {vs : List V} {d : D} {ds : List D} : Vx K H0 H v d → VxA K H0 H vs ds → VxA K H0 H (v :: vs) (d :: ds)
theorem VwA.mono {K : Fr} {ρ : En} {σ : L2.St} {H0 H1 : Hp} (e : Ex H0 H1) : ∀ {vs : List V} {ds : List D}, VwA K ρ σ H0 vs ds → VwA K ρ σ H1 vs ds
  | _, _, .nil => .nil
  | _, _, .cons h r => .cons (h.mono e) (VwA.mono e r)
theorem VwA.vx {K : Fr} {B : Bs} {ρ : En} {σ : L2.St} {H0 H : Hp} (rl : Rl K B ρ σ H0 H) : ∀ {vs : List V} {ds : List D}, VwA K ρ σ H0 vs ds → VxA K H0 H vs ds
  | _, _, .nil => .nil
  | _, _, .cons h r => .cons (Vw.vx rl h) (VwA.vx rl r)
def tAw (K : Fr) (mg : Str → Option Value) (W : WX) (m : DA) : TA := fun σ H Q => ∃ B ρ H0, Rl K B ρ σ H0 H ∧
  Out (m ρ) (fun ds => ∀ vs H0' H', Gr H0 H H0' H' → VwA K ρ σ H0' vs ds → Q vs H') (fun c => ∀ H', Ex H H' → WC mg W c σ H')
abbrev PAf (X : Cx) (W : WX) (es : List Expr) (m : DA) : Prop := PA X es (tAf X.K X.mg W m)
abbrev PAw (X : Cx) (W : WX) (es : List Expr) (m : DA) : Prop := PA X es (tAw X.K X.mg W m)
def aNil : DA := fun _ => .ok []
def aCons (ma : DE) (mr : DA) : DA := fun ρ => (ma ρ).bind fun d => (mr ρ).bind fun ds => .ok (d :: ds)
theorem af_nil : PAf X W [] aNil := pa_nil.wk fun σ H Q ⟨B, ρ, H0, r, o⟩ => o [] H0 H (Gr.refl r.s) .nil
theorem aw_nil : PAw X W [] aNil := pa_nil.wk fun σ H Q ⟨B, ρ, H0, r, o⟩ => o [] H0 H (Gr.refl r.s) .nil
theorem af_cons {mr : DA} (ha : PD X W e ma) (hr : PAf X W es mr) (hs : starEach (e :: es) X.env = (false, eval e X.env) :: starEach es X.env := by rfl) : PAf X W (e :: es) (aCons ma mr) := (pa_cons ha hr hs).wk fun σ H Q ⟨B, ρ, H0, r, o⟩ => by
  refine ⟨B, ρ, H0, r, ?_⟩
  unfold aCons at o
  cases h : ma ρ with
  | bad => rw [h] at o; exact o
  | er c => rw [h] at o; exact o
  | ok d =>
    rw [h, R.bind_ok] at o
    intro v H1 H2 g rp
    refine ⟨B, ρ, H1, r.grow g, ?_⟩
    cases h2 : mr ρ with
    | bad => rw [h2] at o; exact o
    | er c => rw [h2] at o; exact fun H' e => o H' (g.e.trans e)
    | ok ds =>
      rw [h2, R.bind_ok] at o
      exact fun vs H3 H4 g2 rs => o (v :: vs) H3 H4 (g.trans g2) (.cons (rp.mono g2.e0) rs)
theorem aw_cons {mr : DA} (ha : PB X W e ma) (hr : PAw X W es mr) (hs : starEach (e :: es) X.env = (false, eval e X.env) :: starEach es X.env := by rfl) : PAw X W (e :: es) (aCons ma mr) := (pa_cons ha hr hs).wk fun σ H Q ⟨B, ρ, H0, r, o⟩ => by
  refine ⟨B, ρ, H0, r, ?_⟩
  unfold aCons at o
  cases h : ma ρ with
  | bad => rw [h] at o; exact o
  | er c => rw [h] at o; exact o
  | ok d =>
    rw [h, R.bind_ok] at o
    intro v H1 H2 g rp
    refine ⟨B, ρ, H1, r.grow g, ?_⟩
    cases h2 : mr ρ with
    | bad => rw [h2] at o; exact o
    | er c => rw [h2] at o; exact fun H' e => o H' (g.e.trans e)
    | ok ds =>
      rw [h2, R.bind_ok] at o
      exact fun vs H3 H4 g2 rs => o (v :: vs) H3 H4 (g.trans g2) (.cons (rp.mono g2.e0) rs)
def eTup (ms : DA) : DE := fun ρ => (ms ρ).bind fun ds => if szB ds.length = true then .ok (.tuple ds) else .bad
def eLst (ms : DA) : DE := fun ρ => (ms ρ).bind fun ds => if szB ds.length = true then .ok (.list ds) else .bad
theorem pd_tup {ms : DA} {j : Nat} (h : PAf X W es ms) : PD X W (.Tuple es j pos) (eTup ms) := (pe_tup h).wk fun σ H Q ⟨B, ρ, H0, r, o⟩ => by
  refine ⟨B, ρ, H0, r, ?_⟩
  unfold eTup at o
  cases h : ms ρ with
  | bad => rw [h] at o; exact o
  | er c => rw [h] at o; exact o
  | ok ds =>
    rw [h, R.bind_ok] at o
    intro vs H1 H2 g rs
    split at o
    · rename_i hz
      exact ⟨szB_ok (by rw [rs.length]; exact hz), fun p hp => (Kq.grow (k := false) o g).newT g.s rs hp⟩
    · exact o.elim
theorem pf_lst {ms : DA} (h : PAf X W es ms) : PF X W (.List es pos) (eLst ms) := (pe_lst h).wk fun σ H Q ⟨B, ρ, H0, r, o⟩ => by
  refine ⟨B, ρ, H0, r, ?_⟩
  unfold eLst at o
  cases h : ms ρ with
  | bad => rw [h] at o; exact o
  | er c => rw [h] at o; exact o
  | ok ds =>
    rw [h, R.bind_ok] at o
    intro vs H1 H2 g rs
    split at o
    · rename_i hz
      exact ⟨szB_ok (by rw [rs.length]; exact hz), fun p hp => (Kq.grow (k := true) o g).newL g.s rs hp⟩
    · exact o.elim
/-! ### calls of built-ins -/
def CalD (k : Bool) (X : Cx) (f : Value) (op : List D → R D) : Prop := ∃ r : List V → Hp → VK → Prop, CallR X f r ∧ ∀ H0 H xs ds d, Ex H0 H → VxA X.K H0 H xs ds → op ds = .ok d → ∀ Q, Kq k X.K H0 H d Q → r xs H Q
def Calm1 (op : List D → R D) : Prop := ∀ ds c, op ds ≠ .er c
def eCall (op : List D → R D) (ms : DA) : DE := fun ρ => (ms ρ).bind op
theorem t_call {k : Bool} {K : Fr} {mg : Str → Option Value} {op : List D → R D} {ms : DA} {r : List V → Hp → VK → Prop} (cm : Calm1 op)
    (hr : ∀ H0 H xs ds d, Ex H0 H → VxA K H0 H xs ds → op ds = .ok d → ∀ Q, Kq k K H0 H d Q → r xs H Q) {σ : L2.St} {H : Hp} {Q : VK} (h : tE k K mg W (eCall op ms) σ H Q) : tAw K mg W ms σ H fun xs H1 => r xs H1 Q := by
  obtain ⟨B, ρ, H0, rl, o⟩ := h
  refine ⟨B, ρ, H0, rl, ?_⟩
  unfold eCall at o
  cases ha : ms ρ with
  | bad => rw [ha] at o; exact o
  | er c => rw [ha] at o; exact o
  | ok ds =>
    rw [ha, R.bind_ok] at o
    intro xs H1 H2 g1 vx
    have rl2 := rl.grow g1
    cases hc : op ds with
    | bad => rw [hc] at o; exact o.elim
    | er c => exact absurd hc (cm _ _)
    | ok d =>
      rw [hc] at o
      exact hr H1 H2 xs ds d rl2.s (VwA.vx rl2 vx) hc Q (Kq.grow o g1)
theorem pd_callB {k : Bool} {x : Str} {p : Pos} {id : String} {op : List D → R D} {ms : DA} (hc : CalD k X (.builtin id) op) (cm : Calm1 op) (hg : Gl X x) (hm : X.mg x = none) (hv : bootBuiltins x = some (.builtin id)) (ha : PAw X W (e :: es) ms) (hn : x ≠ "__name__" := by decide) (hdb : (x == ("__debug__" : Str)) = false := by decide)
    (he : starEach (e :: es) X.env = (false, eval e X.env) :: starEach es X.env := by rfl) (hpl : (backTo pos (starEach es X.env)).any (·.1) = false := by rfl) : PE X (.Call (.Name x p) (e :: es) [] pos) (tE k X.K X.mg W (eCall op ms)) := by
  obtain ⟨r, h1, h2⟩ := hc
  exact (pe_callB h1 hg hm hv ha hn hdb he hpl).wk fun σ H Q h => t_call cm h2 h
theorem pd_callTy {k : Bool} {x : Str} {p : Pos} {T : String} {op : List D → R D} {ms : DA} (hc : CalD k X (.type T) op) (cm : Calm1 op) (hg : Gl X x) (hm : X.mg x = none) (hv : bootBuiltins x = some (.type T)) (ha : PAw X W (e :: es) ms) (hn : x ≠ "__name__" := by decide) (hdb : (x == ("__debug__" : Str)) = false := by decide)
    (he : starEach (e :: es) X.env = (false, eval e X.env) :: starEach es X.env := by rfl) (hpl : (backTo pos (starEach es X.env)).any (·.1) = false := by rfl) : PE X (.Call (.Name x p) (e :: es) [] pos) (tE k X.K X.mg W (eCall op ms)) := by
  obtain ⟨r, h1, h2⟩ := hc
  exact (pe_callTy h1 hg hm hv ha hn hdb he hpl).wk fun σ H Q h => t_call cm h2 h
end
end Fc
set_option Elab.async false
set_option linter.all false
set_option maxRecDepth 100000
set_option maxHeartbeats 2000000
namespace Fc
open PySem L2 Evl PySem.Spec PyProof.Rows
/-! ### statements: results -/
inductive RS where
  | nx (ρ : En) | rt (d : D) | bk (ρ : En) | ct (ρ : En) | er (c : Str) (ρ : En) | bad
abbrev DS := En → RS
def EndS (K : Fr) (mg : Str → Option Value) (W : WX) (B : Bs) (E : Ends) : RS → Prop
  | .nx ρ => ∀ σ H0 H, Rl K B ρ σ H0 H → E.nx σ H
  | .bk ρ => ∀ σ H0 H, Rl K B ρ σ H0 H → E.bk σ H
  | .ct ρ => ∀ σ H0 H, Rl K B ρ σ H0 H → E.ct σ H
  | .rt d => ∀ v H0 H, Gr B.1 B.2 H0 H → Rp K H0 v d → E.rt v H
  | .er c ρ => ∀ σ H0 H, Rl K B ρ σ H0 H → WC mg W c σ H
  | .bad => False
def tS (K : Fr) (mg : Str → Option Value) (W : WX) (M : DS) : TS := fun E σ H => ∃ B ρ H0, Rl K B ρ σ H0 H ∧ EndS K mg W B E (M ρ)
abbrev SD (X : Cx) (W : WX) (st : Stmt) (M : DS) : Prop := PS X st (tS X.K X.mg W M)
abbrev SsD (X : Cx) (W : WX) (st : List Stmt) (M : DS) : Prop := PSs X st (tS X.K X.mg W M)
theorem _root_.L2.PS.wk {X : Cx} {st : Stmt} {t t' : TS} (h : PS X st t) (k : ∀ E σ H, t' E σ H → t E σ H) : PS X st t' := ⟨fun pins s σ H E I q => h.run pins s σ H E I (k E σ H q)⟩
theorem _root_.L2.PSs.wk {X : Cx} {st : List Stmt} {t t' : TS} (h : PSs X st t) (k : ∀ E σ H, t' E σ H → t E σ H) : PSs X st t' := ⟨fun pins s σ H E I q => h.run pins s σ H E I (k E σ H q)⟩
section
variable {X : Cx} {W : WX} {e a b c o tg it : Expr} {es : List Expr} {m ma mb mc : DE} {pos : Pos} {st : Stmt} {rest body els : List Stmt} {M N : DS}
variable {K : Fr} {mg : Str → Option Value} {B : Bs} {ρ : En} {σ : L2.St} {H0 H : Hp} {E : Ends}
def sNext : DS := fun ρ => .nx ρ
def sSeq (M N : DS) : DS := fun ρ => match M ρ with
  | .nx ρ' => N ρ'
  | r => r
theorem sd_nil : SsD X W [] sNext := pss_nil.wk fun E σ H ⟨B, ρ, H0, r, o⟩ => o σ H0 H r
theorem ends_seq {r : RS} (h : EndS K mg W B E (match r with | .nx ρ' => N ρ' | r => r)) : EndS K mg W B { E with nx := tS K mg W N E } r := by
  cases r with
  | nx ρ => exact fun σ H0 H rl => ⟨B, ρ, H0, rl, h⟩
  | _ => exact h
theorem sd_cons (h1 : SD X W st M) (h2 : SsD X W rest N) : SsD X W (st :: rest) (sSeq M N) := (pss_cons h1 h2).wk fun E σ H ⟨B, ρ, H0, r, o⟩ => ⟨B, ρ, H0, r, ends_seq o⟩
theorem sd_one (h1 : SD X W st M) : SsD X W [st] M := pss_one h1
theorem sd_pass : SD X W (.Pass pos) sNext := ps_pass.wk fun E σ H ⟨B, ρ, H0, r, o⟩ => o σ H0 H r
theorem sd_brk : SD X W (.Break pos) (fun ρ => .bk ρ) := ps_break.wk fun E σ H ⟨B, ρ, H0, r, o⟩ => o σ H0 H r
theorem sd_cnt : SD X W (.Continue pos) (fun ρ => .ct ρ) := ps_continue.wk fun E σ H ⟨B, ρ, H0, r, o⟩ => o σ H0 H r
theorem sd_doc {x : Str} {j : Nat} {pos' : Pos} : SD X W (.Expr (.Constant (.str x) j pos) pos') sNext := ps_doc.wk fun E σ H ⟨B, ρ, H0, r, o⟩ => o σ H0 H r
/-- an expression, then what is made of its value -/
def sE (m : DE) (k : D → DS) : DS := fun ρ => match m ρ with
  | .ok d => k d ρ
  | .er c => .er c ρ
  | .bad => .bad
theorem ends_er {c : Str} {ρ : En} (r : Rl K B ρ σ H0 H) (h : EndS K mg W B E (.er c ρ)) : ∀ H', Ex H H' → WC mg W c σ H' := fun H' e => h σ H0 H' (r.grow (Gr.side r.s e))
theorem t_sE {k : D → DS} {kd : Bool} {Q : VK} (h : tS K mg W (sE m k) E σ H) (hq : ∀ B ρ H0 H d, Rl K B ρ σ H0 H → EndS K mg W B E (k d ρ) → Kq kd K H0 H d Q) : tE kd K mg W m σ H Q := by
  obtain ⟨B, ρ, H0, r, o⟩ := h
  refine ⟨B, ρ, H0, r, ?_⟩
  unfold sE at o
  cases h : m ρ with
  | bad => rw [h] at o; exact o
  | er c => rw [h] at o; exact ends_er r o
  | ok d => rw [h] at o; exact hq B ρ H0 H d r o
def sRet (m : DE) : DS := sE m fun d _ => .rt d
theorem sd_ret (h : PD X W e m) : SD X W (.Return (some e) pos) (sRet m) := (ps_ret h).wk fun E σ H q => t_sE (kd := false) q fun B ρ H0 H d r k v H0' H' g rp => k v H0' H' (r.gr.trans g) rp
theorem sd_retN : SD X W (.Return none pos) (fun _ => .rt .none) := ps_retN.wk fun E σ H ⟨B, ρ, H0, r, o⟩ => o .non H0 H r.gr .non
def sDrop (m : DE) : DS := sE m fun _ ρ => .nx ρ
theorem sd_drop (h : PD X W e m) (hs : swapsWith e none pos.line X.env = pure false := by rfl) : SD X W (.Expr e pos) (sDrop m) := (ps_expr h hs).wk fun E σ H q =>
  t_sE (kd := false) q fun B ρ H0 H d r k v H0' H' g rp => k σ H0' H' (r.grow g)
def sAsg (i : Nat) (m : DE) : DS := sE m fun d ρ => .nx (ρ.set i (.fz d))
def sOwn (i : Nat) (m : DE) : DS := sE m fun d ρ => .nx (ρ.set i (.ow d))
theorem sd_set {i : Nat} {x : Str} {pos' : Pos} (hN : X.N.Nodup) (hi : X.N[i]? = some x) (hx : Loc X.env.scope x) (he : PD X W e m) (hs : swapsWith e (some (.Name x pos')) pos.line X.env = pure false := by rfl)
    (hf : X.fn x = true ∨ X.env.scope.names.lookup x = some .local := by first | exact .inl rfl | exact .inr rfl | assumption) : SD X W (.Assign [.Name x pos'] e pos) (sAsg i m) := (ps_set hN hi hx he hs hf).wk fun E σ H q =>
  t_sE (kd := false) q fun B ρ H0 H d r k v H0' H' g rp => k _ H0' H' ((r.grow g).setF rp)
theorem own_new {B : Bs} {p : Addr} {H0' H' : Hp} {ob : HO} (r : Rl K B ρ σ H0 H) (g : Gr H0 H H0' H') (hn : H p = none) (hp : H' p = some ob) (h0 : H0' p = none) {d : D} (ho : OwnO K H0' ob d) (i : Nat) : Rl K B (ρ.set i (.ow d)) (σ.set i (some (.ref p))) H0' H' :=
  (r.grow g).setO (fresh_back r.gr.e hn) h0 hp ho (fun j e hj hs => by
    obtain ⟨q, o, q1, q2, q3, q4, q5⟩ := r.ow j e hj
    rw [hs] at q1
    simp at q1
    subst q1
    rw [hn] at q4
    cases q4) fun j e hj hij => (r.ot j e hj).to (List.getElem?_set_ne hij) g.e0 (fun q ⟨l, hl⟩ hf hq => ⟨by rw [hl, g.e _ _ hl], hf.1, g.n q ⟨_, hl, fun _ z => nomatch z⟩ hf.2, fun k f hk hs => by
      rw [get_set] at hk hs
      by_cases hik : i = k
      · rw [if_pos hik] at hs
        split at hs
        · simp at hs
          rw [hs] at hn
          rw [hn] at hl
          cases hl
        · cases hs
      · rw [if_neg hik] at hk hs
        exact hq k f hk hs⟩) fun k f hk => by
      rw [get_set] at hk
      by_cases hik : i = k
      · rw [if_pos hik] at hk
        split at hk <;> simp at hk
      · rw [if_neg hik] at hk; exact hk
theorem sd_own {i : Nat} {x : Str} {pos' : Pos} (hN : X.N.Nodup) (hi : X.N[i]? = some x) (hx : Loc X.env.scope x) (he : PF X W e m) (hs : swapsWith e (some (.Name x pos')) pos.line X.env = pure false := by rfl)
    (hf : X.fn x = true ∨ X.env.scope.names.lookup x = some .local := by first | exact .inl rfl | exact .inr rfl | assumption) : SD X W (.Assign [.Name x pos'] e pos) (sOwn i m) := (ps_set hN hi hx he hs hf).wk fun E σ H q =>
  t_sE (kd := true) q fun B ρ H0 H d r k p ob H0' H' g hp hn h0 ho => k _ H0' H' (own_new r g hn hp h0 ho i)
def sIf (mc : DE) (M N : DS) : DS := sE mc fun d => match d with
  | .bool true => M
  | .bool false => N
  | _ => fun _ => .bad
theorem sd_if {c : Expr} {a b : List Stmt} (hc : PTd X W c mc) (ha : SsD X W a M) (hb : SsD X W b N) : SD X W (.If c a b pos) (sIf mc M N) := (ps_if hc ha hb).wk fun E σ H ⟨B, ρ, H0, r, o⟩ => by
  refine ⟨B, ρ, H0, r, ?_⟩
  unfold sIf sE at o
  cases h : mc ρ with
  | bad => rw [h] at o; exact o
  | er c => rw [h] at o; exact ends_er r o
  | ok d =>
    rw [h] at o
    simp only at o
    split at o
    · exact ⟨true, rfl, fun H0' H' g => iteT ⟨B, ρ, H0', r.grow g, o⟩⟩
    · exact ⟨false, rfl, fun H0' H' g => iteF ⟨B, ρ, H0', r.grow g, o⟩⟩
    · exact o.elim
/-- an owned slot is frozen from here on -/
def frz (i : Nat) (ρ : En) : En := match ρ[i]? with
  | some (.ow d) => ρ.set i (.fz d)
  | some (.ot d) => ρ.set i (.fz d)
  | _ => ρ
/-- a table is frozen -/
theorem Rl.frzT (r : Rl K B ρ σ H0 H) {i : Nat} {d : D} (hi : ρ[i]? = some (.ot d)) : ∃ H0', Rl K B (ρ.set i (.fz d)) σ H0' H := by
  classical
  obtain ⟨p, kvs, es, h1, h2, h3, h4, h5, h6, h7, h8⟩ := r.ot i d hi
  have th := TabAt.there h3 h4
  let H0' : Hp := fun a => if a ∈ fpT p kvs then H a else H0 a
  have in_ : ∀ a, a ∈ fpT p kvs → H0' a = H a := fun a ha => if_pos ha
  have out_ : ∀ a, a ∉ fpT p kvs → H0' a = H0 a := fun a ha => if_neg ha
  have e0 : Ex H0 H0' := fun a u e => by
    rw [out_ a fun ha => by rw [(h6 a ha).2] at e; cases e]
    exact e
  have rn : RpE K H0' kvs es := by
    have go : ∀ {l : List (List Key × V)} {m : List (D × D)}, RpN K H0 H l m → (∀ q ∈ l.map (fun kv => refV kv.2), q ∈ fpT p kvs) → RpE K H0' l m := by
      intro l m rr
      induction rr with
      | nil => intro _; exact .nil
      | cons hq re _ ih =>
        intro hm
        refine .cons (.dct (.inl ((in_ _ (hm _ (by simp [refV]))).trans hq)) (re.mono e0)) (ih fun q hq => hm q ?_)
        rw [List.map_cons]
        exact List.mem_cons_of_mem _ hq
    exact go h4 fun q hq => List.mem_cons_of_mem _ hq
  refine ⟨H0', ⟨⟨r.gr.e0.trans e0, r.gr.e, fun a u e => ?_, fun q hq hq0 => ?_⟩, by simp [r.len], fun j f hj => ?_, fun j f hj => ?_, fun j k f g q hj hk sj sk => ?_, fun j f hj => ?_, fun j f hj => ?_⟩⟩
  · by_cases ha : a ∈ fpT p kvs
    · rw [in_ a ha] at e; exact e
    · rw [out_ a ha] at e; exact r.gr.s a u e
  · rw [out_ q fun ha => hq.ne (h6 q ha).1]
    exact r.gr.n q hq hq0
  · rw [get_set] at hj
    by_cases hij : i = j
    · subst hij
      rw [if_pos rfl] at hj
      split at hj
      · simp at hj
        subst hj
        rw [h2]
        exact ⟨.ref p, h1, .dct (.inl ((in_ p List.mem_cons_self).trans h3)) rn⟩
      · cases hj
    · rw [if_neg hij] at hj
      obtain ⟨v, z1, z2⟩ := r.fz j f hj
      exact ⟨v, z1, z2.mono e0⟩
  · rw [get_set] at hj
    by_cases hij : i = j
    · rw [if_pos hij] at hj
      split at hj <;> simp at hj
    · rw [if_neg hij] at hj
      obtain ⟨p2, o2, t1, t2, t3, t4, t5⟩ := r.ow j f hj
      exact ⟨p2, o2, t1, t2, (out_ p2 (h7 j f p2 hj t1)).trans t3, t4, t5.mono e0⟩
  · rw [get_set] at hj hk
    by_cases hij : i = j
    · rw [if_pos hij] at hj
      split at hj <;> simp at hj
    · by_cases hik : i = k
      · rw [if_pos hik] at hk
        split at hk <;> simp at hk
      · rw [if_neg hij] at hj
        rw [if_neg hik] at hk
        exact r.uq j k f g q hj hk sj sk
  · rw [get_set] at hj
    by_cases hij : i = j
    · rw [if_pos hij] at hj
      split at hj <;> simp at hj
    · rw [if_neg hij] at hj
      exact absurd (h8 j f hj).symm hij
  · rw [get_set] at hj
    by_cases hij : i = j
    · rw [if_pos hij] at hj
      split at hj <;> simp at hj
    · rw [if_neg hij] at hj
      obtain ⟨pl, od, l, m, t1, t2, t3, t4, t5, t6⟩ := r.lk j f hj
      have ne : pl ∉ fpT p kvs := fun z => by
        obtain ⟨l', hl⟩ := th pl z
        rw [t3] at hl
        cases hl
      exact ⟨pl, od, l, m, t1, t2, t3, t4.mono e0, t5, (out_ pl ne).trans t6⟩
theorem frzE (r : Rl K B ρ σ H0 H) (i : Nat) : ∃ H0', Rl K B (frz i ρ) σ H0' H := by
  unfold frz
  split
  · rename_i d h
    obtain ⟨p, o, _, _, _, r', _⟩ := r.frz h
    exact ⟨_, r'⟩
  · rename_i d h
    exact r.frzT h
  · exact ⟨H0, r⟩
def sFrz (i : Nat) (M : DS) : DS := fun ρ => M (frz i ρ)
theorem sd_frz (i : Nat) (h : SD X W st M) : SD X W st (sFrz i M) := h.wk fun E σ H ⟨B, ρ, H0, r, o⟩ => by
  obtain ⟨H0', r'⟩ := frzE r i
  exact ⟨B, _, H0', r', o⟩
/-! ### targets -/
abbrev DG := D → En → Option En
abbrev DGs := List D → En → Option En
/-- the slots that are stored: is -/
def tG (K : Fr) (is : List Nat) (g : DG) : TG := fun v σ H Q => ∃ B ρ H0 d, Rl K B ρ σ H0 H ∧ Rp K H0 v d ∧ match g d ρ with
  | some ρ' => ∀ σ', Rl K B ρ' σ' H0 H → σ'.length = σ.length → (∀ j, j ∉ is → σ'[j]? = σ[j]?) → Q σ' H
  | none => False
def tGs (K : Fr) (is : List Nat) (g : DGs) : TGs := fun vs σ H Q => ∃ B ρ H0 ds, Rl K B ρ σ H0 H ∧ RpA K H0 vs ds ∧ match g ds ρ with
  | some ρ' => ∀ σ', Rl K B ρ' σ' H0 H → σ'.length = σ.length → (∀ j, j ∉ is → σ'[j]? = σ[j]?) → Q σ' H
  | none => False
abbrev GD (X : Cx) (tg : Expr) (is : List Nat) (g : DG) : Prop := PG X tg (tG X.K is g)
abbrev GsD (X : Cx) (tg : List Expr) (is : List Nat) (g : DGs) : Prop := PGs X tg (tGs X.K is g)
theorem _root_.L2.PG.wk {X : Cx} {tg : Expr} {t t' : TG} (h : PG X tg t) (k : ∀ v σ H Q, t' v σ H Q → t v σ H Q) : PG X tg t' := ⟨fun pins s σ H v u Q I r q => h.run pins s σ H v u Q I r (k v σ H Q q)⟩
theorem _root_.L2.PGs.wk {X : Cx} {tg : List Expr} {t t' : TGs} (h : PGs X tg t) (k : ∀ v σ H Q, t' v σ H Q → t v σ H Q) : PGs X tg t' := ⟨by
  intro pins s σ H vs us Q I r q
  exact h.run pins s σ H vs us Q I r (k vs σ H Q q)⟩
def gN (i : Nat) : DG := fun d ρ => some (ρ.set i (.fz d))
def gNilD : DGs := fun ds ρ => match ds with
  | [] => some ρ
  | _ => none
def gConsD (g : DG) (gs : DGs) : DGs := fun ds ρ => match ds with
  | d :: ds => (g d ρ).bind fun ρ' => gs ds ρ'
  | [] => none
def gTupD (n : Nat) (gs : DGs) : DG := fun d ρ => match d with
  | .tuple ds => if ds.length = n then gs ds ρ else none
  | _ => none
def gLstD (n : Nat) (gs : DGs) : DG := fun d ρ => match d with
  | .list ds => if ds.length = n then gs ds ρ else none
  | _ => none
theorem gd_name {i : Nat} {x : Str} (hN : X.N.Nodup) (hi : X.N[i]? = some x) (hx : Loc X.env.scope x) (hf : X.fn x = true ∨ X.env.scope.names.lookup x = some .local := by first | exact .inl rfl | exact .inr rfl | assumption) : GD X (.Name x pos) [i] (gN i) :=
  (pg_name hN hi hx hf).wk fun v σ H Q ⟨B, ρ, H0, d, r, rp, k⟩ => k _ (r.setF rp) (by simp) fun j hj => by
    rw [get_set, if_neg]
    exact fun z => hj (by simp [z])
theorem gds_nil : GsD X [] [] gNilD := pgs_nil.wk fun vs σ H Q ⟨B, ρ, H0, ds, r, rp, k⟩ => by
  unfold gNilD at k
  split at k
  · rename_i h
    split at h
    · cases h
      cases rp
      exact ⟨rfl, k _ r rfl fun _ _ => rfl⟩
    · cases h
  · exact k.elim
theorem gds_cons {g : DG} {gs : DGs} {i1 i2 : List Nat} (h1 : GD X e i1 g) (h2 : GsD X es i2 gs) (hs : ((assignEach (e :: es) X.env).map (·.2)) = assign e X.env :: (assignEach es X.env).map (·.2) := by rfl) : GsD X (e :: es) (i1 ++ i2) (gConsD g gs) := (pgs_cons h1 h2 hs).wk fun vs σ H Q ⟨B, ρ, H0, ds, r, rp, k⟩ => by
  unfold gConsD at k
  cases rp with
  | nil => exact k.elim
  | @cons v vs d ds h rs =>
    refine ⟨v, vs, rfl, ?_⟩
    simp only at k
    cases h1 : g d ρ with
    | none => rw [h1] at k; exact k.elim
    | some ρ1 =>
      rw [h1] at k
      refine ⟨B, ρ, H0, d, r, h, ?_⟩
      rw [h1]
      intro σ' r' l' n'
      refine ⟨B, ρ1, H0, ds, r', rs, ?_⟩
      replace k : match gs ds ρ1 with
        | some ρ' => ∀ σ', Rl X.K B ρ' σ' H0 H → σ'.length = σ.length → (∀ j, j ∉ i1 ++ i2 → σ'[j]? = σ[j]?) → Q σ' H
        | none => False := k
      cases h2 : gs ds ρ1 with
      | none => rw [h2] at k; exact k.elim
      | some ρ2 =>
        rw [h2] at k
        exact fun σ2 r2 l2 n2 => k σ2 r2 (l2.trans l') fun j hj => by
          simp only [List.mem_append, not_or] at hj
          exact (n2 j hj.2).trans (n' j hj.1)
theorem gd_tup {gs : DGs} {is : List Nat} {j n : Nat} (hc : X.calm = true) (h : GsD X es is gs) (hn : (assignEach es X.env).length = n := by rfl) (hst : (assignEach es X.env).findIdx? (·.1) = none := by rfl) : GD X (.Tuple es j pos) is (gTupD n gs) :=
  (pg_tup hc h hn hst).wk fun v σ H Q ⟨B, ρ, H0, d, r, rp, k⟩ => by
  unfold gTupD at k
  cases rp with
  | tup h rs =>
    simp only at k
    split at k
    · rename_i ρ' hg
      split at hg
      · rename_i hl
        refine ⟨_, _, rfl, SqT.of (r.s _ _ h), rs.length.trans hl, B, ρ, H0, _, r, rs, ?_⟩
        rw [hg]
        exact k
      · cases hg
    · exact k.elim
  | _ => exact k.elim
theorem gd_lst {gs : DGs} {is : List Nat} {j n : Nat} (hc : X.calm = true) (h : GsD X es is gs) (hn : (assignEach es X.env).length = n := by rfl) (hst : (assignEach es X.env).findIdx? (·.1) = none := by rfl) : GD X (.Tuple es j pos) is (gLstD n gs) :=
  (pg_lst hc h hn hst).wk fun v σ H Q ⟨B, ρ, H0, d, r, rp, k⟩ => by
  unfold gLstD at k
  cases rp with
  | lst h rs =>
    simp only at k
    split at k
    · rename_i ρ' hg
      split at hg
      · rename_i hl
        refine ⟨_, _, rfl, SqL.of (r.s _ _ h), rs.length.trans hl, B, ρ, H0, _, r, rs, ?_⟩
        rw [hg]
        exact k
      · cases hg
    · exact k.elim
  | _ => exact k.elim
def sAsgG (g : DG) (m : DE) : DS := sE m fun d ρ => match g d ρ with
  | some ρ' => .nx ρ'
  | none => .bad
theorem sd_asg {g : DG} {is : List Nat} (he : PD X W e m) (hg : GD X tg is g) (hs : swapsWithSole [tg] e pos.line X.env = pure false := by rfl) (hw : swappedStores [tg] e X.env = pure none := by rfl) (h1 : (assignEach [tg] X.env).map (·.2) = [assign tg X.env] := by rfl) : SD X W (.Assign [tg] e pos) (sAsgG g m) :=
  (ps_asg he hg hs hw h1).wk fun E σ H q => t_sE (kd := false) q fun B ρ H0 H d r k v H0' H' gr rp => by
    refine ⟨B, ρ, H0', d, r.grow gr, rp, ?_⟩
    cases h : g d ρ with
    | none => rw [h] at k; exact k.elim
    | some ρ' => rw [h] at k; exact fun σ' r' _ _ => k σ' H0' H' r'
/-- a, b = e1, e2 -/
def sPar (i j : Nat) (ma mb : DE) : DS := fun ρ => match (aCons ma (aCons mb aNil)) ρ with
  | .ok [x, y] => .nx ((ρ.set i (.fz x)).set j (.fz y))
  | .er c => .er c ρ
  | _ => .bad
/-! ### what is walked -/
def ItOk (K : Fr) (J : It) (H0 : Hp) (ds : List D) : Prop := ∀ i, (∀ H, Ex H0 H → ds.length ≤ i → J.stop i H) ∧
  ∀ H d, Ex H0 H → ds[i]? = some d → J.go i H ∧ ∀ x H', J.yld i H x H' → (H' = H ∧ Rp K H0 x d) ∨ (∃ p vs es, H p = none ∧ H' = upd H p (.tup vs) ∧ x = .ref p ∧ d = .tuple es ∧ RpA K H0 vs es) ∨ ∀ Hc, Ex H0 Hc → Ex Hc H → ∃ Hc', Gr Hc H Hc' H' ∧ Rp K Hc' x d
abbrev DI := En → R (List D)
def tIt (K : Fr) (mg : Str → Option Value) (W : WX) (m : DI) : TI := fun σ H Rc => ∃ B ρ H0, Rl K B ρ σ H0 H ∧ Out (m ρ) (fun ds => ∀ J H0' H', Gr H0 H H0' H' → ItOk K J H0' ds → Rc J H') (fun c => ∀ H', Ex H H' → WC mg W c σ H')
abbrev ID (X : Cx) (W : WX) (tg it : Expr) (m : DI) : Prop := PI X tg it (tIt X.K X.mg W m)
theorem _root_.L2.PI.wk {X : Cx} {tg it : Expr} {t t' : TI} (h : PI X tg it t) (k : ∀ σ H R, t' σ H R → t σ H R) : PI X tg it t' := ⟨fun pins s σ H R I q => h.run pins s σ H R I (k σ H R q)⟩
theorem _root_.L2.PI.or {X : Cx} {tg it : Expr} {t t' : TI} (h : PI X tg it t) (h' : PI X tg it t') : PI X tg it (fun σ H R => t σ H R ∨ t' σ H R) := ⟨fun pins s σ H R I q => by
  rcases q with q | q
  · exact h.run pins s σ H R I q
  · exact h'.run pins s σ H R I q⟩
def dSeq : D → R (List D)
  | .list ds => .ok ds
  | .tuple ds => .ok ds
  | .str x => .ok (x.cps.toList.map fun c => .str ⟨#[c]⟩)
  | _ => .bad
def iSeq (m : DE) : DI := fun ρ => (m ρ).bind dSeq
theorem itok_list {a : Addr} {xs : List V} {ds : List D} (h : H0 a = some (.lst xs)) (rs : RpA K H0 xs ds) : ItOk K (Itl K a) H0 ds := fun i => ⟨fun H e hi => ⟨xs, SqL.of (e _ _ h), by rw [rs.length]; exact hi⟩, fun H d e hd => by
  obtain ⟨v, h1, h2⟩ := rs.getD hd
  refine ⟨⟨xs, v, SqL.of (e _ _ h), h1⟩, fun x H' y => .inl ?_⟩
  obtain ⟨y1, y2⟩ := y
  refine ⟨y1, ?_⟩
  have := y2 xs (SqL.of (e _ _ h))
  rw [h1] at this
  cases this
  exact h2⟩
theorem itok_tup {a : Addr} {xs : List V} {ds : List D} (h : H0 a = some (.tup xs)) (rs : RpA K H0 xs ds) : ItOk K (Itt K a) H0 ds := fun i => ⟨fun H e hi => ⟨xs, SqT.of (e _ _ h), by rw [rs.length]; exact hi⟩, fun H d e hd => by
  obtain ⟨v, h1, h2⟩ := rs.getD hd
  refine ⟨⟨xs, v, SqT.of (e _ _ h), h1⟩, fun x H' y => .inl ?_⟩
  obtain ⟨y1, y2⟩ := y
  refine ⟨y1, ?_⟩
  have := y2 xs (SqT.of (e _ _ h))
  rw [h1] at this
  cases this
  exact h2⟩
theorem itok_str {x : Str} : ItOk K (Its x) H0 (x.cps.toList.map fun c => .str ⟨#[c]⟩) := fun i => ⟨fun H e hi => by
  show x.cps.size ≤ i
  simpa using hi, fun H d e hd => by
  rw [List.getElem?_map] at hd
  obtain ⟨c, h1, h2⟩ := Option.map_eq_some_iff.mp hd
  have hi : i < x.cps.size := by
    have := (List.getElem?_eq_some_iff.mp h1).1
    simpa using this
  refine ⟨hi, fun v H' y => .inl ?_⟩
  obtain ⟨y1, c', y2, y3⟩ := y
  refine ⟨y1, ?_⟩
  have : x.cps[i]? = some c := by rw [← h1]; simp
  rw [this] at y2
  cases y2
  rw [y3, ← h2]
  exact .str _⟩
theorem id_seq (h : PD X W e m) : ID X W tg e (iSeq m) := ((pi_list h).or ((pi_tup h).or (pi_str h))).wk fun σ H Rc ⟨B, ρ, H0, r, o⟩ => by
  unfold iSeq at o
  cases hm : m ρ with
  | bad => rw [hm] at o; exact o.elim
  | er c => rw [hm] at o; exact .inl ⟨B, ρ, H0, r, by rw [hm]; exact o⟩
  | ok d =>
    rw [hm, R.bind_ok] at o
    unfold dSeq at o
    split at o
    · refine .inl ⟨B, ρ, H0, r, ?_⟩
      rw [hm]
      intro v H1 H2 g rp
      cases rp with
      | lst h rs => exact ⟨_, rfl, ⟨_, SqL.of (g.s _ _ h)⟩, o _ H1 H2 g (itok_list h rs)⟩
    · refine .inr (.inl ⟨B, ρ, H0, r, ?_⟩)
      rw [hm]
      intro v H1 H2 g rp
      cases rp with
      | tup h rs => exact ⟨_, rfl, ⟨_, SqT.of (g.s _ _ h)⟩, o _ H1 H2 g (itok_tup h rs)⟩
    · refine .inr (.inr ⟨B, ρ, H0, r, ?_⟩)
      rw [hm]
      intro v H1 H2 g rp
      cases rp with
      | str x => exact ⟨_, rfl, o _ H1 H2 g itok_str⟩
    · exact o.elim
def rngD (lo : Int) (n : Nat) : List D := (List.range n).map fun i => .int (lo + (i : Nat))
theorem itok_rng {lo : Int} {n : Nat} : ItOk K (Itr lo n) H0 (rngD lo n) := fun i => ⟨fun H e hi => by unfold rngD at hi; rw [List.length_map, List.length_range] at hi; exact hi, fun H d e hd => by
  unfold rngD at hd
  rw [List.getElem?_map] at hd
  obtain ⟨j, h1, h2⟩ := Option.map_eq_some_iff.mp hd
  have hi : i < n := by
    have := (List.getElem?_eq_some_iff.mp h1).1
    rw [List.length_range] at this
    exact this
  rw [List.getElem?_range hi] at h1
  cases h1
  refine ⟨hi, fun x H' y => .inl ⟨y.1, ?_⟩⟩
  rw [y.2, ← h2]
  exact .int _⟩
def dRng1 : List D → R (List D)
  | [.int n] => if decide (-100000 ≤ n ∧ n ≤ 100000) = true then .ok (rngD 0 n.toNat) else .bad
  | _ => .bad
def dRng2 : List D → R (List D)
  | [.int a, .int b] => if decide (-100000 ≤ a ∧ a ≤ 100000 ∧ -100000 ≤ b ∧ b ≤ 100000) = true then .ok (rngD a (b - a).toNat) else .bad
  | _ => .bad
def iArgs (f : List D → R (List D)) (ms : DA) : DI := fun ρ => (ms ρ).bind f
theorem VwA.one {K : Fr} {B : Bs} {ρ : En} {σ : L2.St} {H0 H : Hp} {vs : List V} {d : D} (r : Rl K B ρ σ H0 H) (h : VwA K ρ σ H0 vs [d]) : ∃ v, vs = [v] ∧ Vx K H0 H v d := by
  cases h with
  | cons h t => cases t; exact ⟨_, rfl, Vw.vx r h⟩
theorem id_rng1 {ms : DA} {p : Pos} (hg : Gl X "range") (hm : X.mg "range" = none) (ha : PAw X W [a] ms) (hs : starEach [a] X.env = [(false, eval a X.env)] := by rfl) : ID X W tg (.Call (.Name "range" p) [a] [] pos) (iArgs dRng1 ms) := (pi_range1 hg hm ha hs).wk fun σ H Rc ⟨B, ρ, H0, r, o⟩ => by
  refine ⟨B, ρ, H0, r, ?_⟩
  unfold iArgs at o
  cases h : ms ρ with
  | bad => rw [h] at o; exact o
  | er c => rw [h] at o; exact o
  | ok ds =>
    rw [h, R.bind_ok] at o
    intro vs H1 H2 g va
    unfold dRng1 at o
    split at o
    · split at o
      · rename_i n hn
        obtain ⟨v, rfl, vx⟩ := va.one (r.grow g)
        have hn := of_decide_eq_true hn
        exact ⟨n, by rw [vx.int], by omega, by omega, o _ H1 H2 g itok_rng⟩
      · exact o.elim
    · exact o.elim
theorem id_rng2 {ms : DA} {p : Pos} (hg : Gl X "range") (hm : X.mg "range" = none) (ha : PAw X W [a, b] ms) (hs : starEach [a, b] X.env = [(false, eval a X.env), (false, eval b X.env)] := by rfl) (hs2 : starEach [b] X.env = [(false, eval b X.env)] := by rfl) :
    ID X W tg (.Call (.Name "range" p) [a, b] [] pos) (iArgs dRng2 ms) := (pi_range2 hg hm ha hs hs2).wk fun σ H Rc ⟨B, ρ, H0, r, o⟩ => by
  refine ⟨B, ρ, H0, r, ?_⟩
  unfold iArgs at o
  cases h : ms ρ with
  | bad => rw [h] at o; exact o
  | er c => rw [h] at o; exact o
  | ok ds =>
    rw [h, R.bind_ok] at o
    intro vs H1 H2 g va
    unfold dRng2 at o
    split at o
    · split at o
      · rename_i n m hn
        have rl := r.grow g
        cases va with
        | cons h1 t =>
          cases t with
          | cons h2 t =>
            cases t
            have hn := of_decide_eq_true hn
            exact ⟨_, _, by rw [(Vw.vx rl h1).int, (Vw.vx rl h2).int], ⟨by omega, by omega, by omega, by omega⟩, o _ H1 H2 g itok_rng⟩
      · exact o.elim
    · exact o.elim
/-! ### loops -/
def forL (g : DG) (M : DS) : List D → DS
  | [], ρ => .nx ρ
  | d :: ds, ρ => match g d ρ with
    | none => .bad
    | some ρ1 => match M ρ1 with
      | .nx ρ2 => forL g M ds ρ2
      | .ct ρ2 => forL g M ds ρ2
      | .bk ρ2 => .nx ρ2
      | r => r
def sFor (it : DI) (g : DG) (M : DS) : DS := fun ρ => match it ρ with
  | .ok ds => forL g M ds ρ
  | .er c => .er c ρ
  | .bad => .bad
theorem getElem?_drop {α : Type} {l : List α} {i : Nat} {x : α} (h : l[i]? = some x) : l.drop i = x :: l.drop (i + 1) := by
  obtain ⟨h1, h2⟩ := List.getElem?_eq_some_iff.mp h
  rw [List.drop_eq_getElem_cons h1, h2]
/-- what is frozen by now stays so: the base taken anew -/
theorem rebase {H1 H2 : Hp} (hb : Gr B.1 B.2 H1 H2) (r : Rl K B ρ σ H0 H) (e : Ex H1 H0) : Rl K (H1, B.2) ρ σ H0 H :=
  ⟨⟨e, r.gr.e, r.gr.s, fun p h h1 => r.gr.n p h (by
    cases q : B.1 p with
    | none => rfl
    | some o =>
      have z : H1 p = none := h1
      rw [hb.e0 p o q] at z; cases z)⟩, r.len, r.fz, r.ow, r.uq, r.ot, r.lk⟩
theorem grbase {H1 H2 : Hp} (hb : Gr B.1 B.2 H1 H2) (g : Gr H1 B.2 H0 H) : Gr B.1 B.2 H0 H := ⟨hb.e0.trans g.e0, g.e, g.s, fun p h h1 => g.n p h (hb.n p h h1)⟩
theorem unbase {H1 H2 : Hp} (hb : Gr B.1 B.2 H1 H2) (r : Rl K (H1, B.2) ρ σ H0 H) : Rl K B ρ σ H0 H := ⟨grbase hb r.gr, r.len, r.fz, r.ow, r.uq, r.ot, r.lk⟩
theorem ends_base {H1 H2 : Hp} (hb : Gr B.1 B.2 H1 H2) {r : RS} (h : EndS K mg W B E r) : EndS K mg W (H1, B.2) E r := by
  cases r with
  | nx ρ => exact fun σ H0 H rl => h σ H0 H (unbase hb rl)
  | bk ρ => exact fun σ H0 H rl => h σ H0 H (unbase hb rl)
  | ct ρ => exact fun σ H0 H rl => h σ H0 H (unbase hb rl)
  | er c ρ => exact fun σ H0 H rl => h σ H0 H (unbase hb rl)
  | rt d => exact fun v H0 H g rp => h v H0 H (grbase hb g) rp
  | bad => exact h
/-- a walk over data: the loop's word -/
theorem for_data {J : It} {ds : List D} {is : List Nat} {g : DG} {H1 : Hp} (hJ : ItOk K J H1 ds) (rl : Rl K B ρ σ H1 H) (h : EndS K mg W B E (forL g M ds ρ)) :
    ∃ Wd : Nat → Nat → L2.St → Hp → Prop, (∃ m, Wd 0 m σ H) ∧ ∀ i m σ H, Wd i m σ H →
      (J.stop i H ∧ E.nx σ H) ∨ (J.go i H ∧ ∃ Nx : L2.St → Hp → Prop, (∀ σ' H', Nx σ' H' → ∃ m', m' < m ∧ Wd (i + 1) m' σ' H') ∧ ∀ x H', J.yld i H x H' → tG K is g x σ H' fun σ2 H2 => tS K mg W M { E with nx := Nx, ct := Nx, bk := E.nx } σ2 H2) := by
  have hb := rl.gr
  replace h := ends_base hb h
  refine ⟨fun i m σ H => m = ds.length - i ∧ i ≤ ds.length ∧ ∃ ρ H0, Rl K (H1, B.2) ρ σ H0 H ∧ EndS K mg W (H1, B.2) E (forL g M (ds.drop i) ρ), ⟨_, rfl, Nat.zero_le _, ρ, H1, rebase hb rl (Ex.refl _), by rw [List.drop_zero]; exact h⟩, ?_⟩
  rintro i m σ H ⟨rfl, hi, ρ, H0, r, k⟩
  have e : Ex H1 H0 := r.gr.e0
  by_cases hlt : i < ds.length
  · have hd : ds[i]? = some ds[i] := List.getElem?_eq_getElem hlt
    obtain ⟨hgo, hy⟩ := (hJ i).2 H _ (e.trans r.s) hd
    rw [getElem?_drop hd] at k
    unfold forL at k
    refine .inr ⟨hgo, fun σ' H' => ∃ ρ H0, Rl K (H1, B.2) ρ σ' H0 H' ∧ EndS K mg W (H1, B.2) E (forL g M (ds.drop (i + 1)) ρ), fun σ' H' z => ⟨ds.length - (i + 1), by omega, rfl, by omega, z⟩, fun x H' y => ?_⟩
    have go : ∀ H0', Rl K (H1, B.2) ρ σ H0' H' → Rp K H0' x ds[i] → tG K is g x σ H' fun σ2 H2 => tS K mg W M { E with nx := fun σ' H' => ∃ ρ H0, Rl K (H1, B.2) ρ σ' H0 H' ∧ EndS K mg W (H1, B.2) E (forL g M (ds.drop (i + 1)) ρ), ct := fun σ' H' => ∃ ρ H0, Rl K (H1, B.2) ρ σ' H0 H' ∧ EndS K mg W (H1, B.2) E (forL g M (ds.drop (i + 1)) ρ), bk := E.nx } σ2 H2 := by
      intro H0' r' rp
      refine ⟨(H1, B.2), ρ, H0', _, r', rp, ?_⟩
      cases hg : g ds[i] ρ with
      | none => rw [hg] at k; exact k.elim
      | some ρ1 =>
        rw [hg] at k
        intro σ2 r2 _ _
        refine ⟨(H1, B.2), ρ1, H0', r2, ?_⟩
        simp only at k
        cases hM : M ρ1 with
        | nx ρ2 => rw [hM] at k; exact fun σ3 H3 H4 r3 => ⟨ρ2, H3, r3, k⟩
        | ct ρ2 => rw [hM] at k; exact fun σ3 H3 H4 r3 => ⟨ρ2, H3, r3, k⟩
        | bk ρ2 => rw [hM] at k; exact k
        | rt d => rw [hM] at k; exact k
        | er c ρ2 => rw [hM] at k; exact k
        | bad => rw [hM] at k; exact k
    rcases hy x H' y with ⟨rfl, rp⟩ | ⟨p, vs, es, hp, rfl, rfl, hd', rs⟩ | hg
    · exact go H0 r (rp.mono e)
    · refine go (upd H0 p (.tup vs)) (r.grow (Gr.new r.s hp)) ?_
      rw [hd']
      exact .tup upd_same ((rs.mono e).mono (Ex.new (fresh_back r.s hp)))
    · obtain ⟨Hc, g1, rp⟩ := hg H0 e r.s
      exact go Hc (r.grow g1) rp
  · have : i = ds.length := by omega
    subst this
    rw [List.drop_length] at k
    exact .inl ⟨(hJ _).1 H (e.trans r.s) (Nat.le_refl _), k σ H0 H r⟩
theorem sd_for {g : DG} {is : List Nat} {mi : DI} (hp : PassesOwn (model X.prog X.w) X.A X.env X.xe) (hc : X.calm = true) (hi : ID X W tg it mi) (hg : GD X tg is g) (hb : SsD X W body M)
    (hs : ∀ x, foldedSetIterable it X.env x = pure x := by intro _; rfl) : SD X W (.For tg it body [] pos) (sFor mi g M) := (ps_for hp hc hi hg hb hs).wk fun E σ H ⟨B, ρ, H0, r, o⟩ => by
  refine ⟨B, ρ, H0, r, ?_⟩
  unfold sFor at o
  cases h : mi ρ with
  | bad => rw [h] at o; exact o
  | er c => rw [h] at o; exact ends_er r o
  | ok ds =>
    rw [h] at o
    intro J H1 H2 g1 hJ
    exact for_data hJ (r.grow g1) o
def whileN (mc : DE) (M : DS) : Nat → DS
  | 0, _ => .bad
  | n + 1, ρ => match mc ρ with
    | .ok (.bool true) => (match M ρ with
      | .nx ρ2 => whileN mc M n ρ2
      | .ct ρ2 => whileN mc M n ρ2
      | .bk ρ2 => .nx ρ2
      | r => r)
    | .ok (.bool false) => .nx ρ
    | .er c => .er c ρ
    | _ => .bad
theorem sd_while (n : Nat) {c : Expr} (hp : PassesOwn (model X.prog X.w) X.A X.env X.xe) (hc : PTd X W c mc) (hb : SsD X W body M) : SD X W (.While c body [] pos) (whileN mc M n) := (ps_while hp hc hb).wk fun E σ H ⟨B, ρ, H0, r, o⟩ => by
  refine ⟨fun n σ H => ∃ ρ H0, Rl X.K B ρ σ H0 H ∧ EndS X.K X.mg W B E (whileN mc M n ρ), ⟨n, ρ, H0, r, o⟩, ?_⟩
  rintro m σ H ⟨ρ, H0, r, k⟩
  cases m with
  | zero => exact k.elim
  | succ n =>
    unfold whileN at k
    refine ⟨B, ρ, H0, r, ?_⟩
    split at k
    · rename_i hm
      rw [hm]
      refine ⟨true, rfl, fun H1 H2 g => iteT ?_⟩
      refine ⟨fun σ' H' => ∃ ρ H0, Rl X.K B ρ σ' H0 H' ∧ EndS X.K X.mg W B E (whileN mc M n ρ), fun σ' H' z => ⟨n, Nat.lt_succ_self _, z⟩, B, ρ, H1, r.grow g, ?_⟩
      cases hM : M ρ with
      | nx ρ2 => rw [hM] at k; exact fun σ3 H3 H4 r3 => ⟨ρ2, H3, r3, k⟩
      | ct ρ2 => rw [hM] at k; exact fun σ3 H3 H4 r3 => ⟨ρ2, H3, r3, k⟩
      | bk ρ2 => rw [hM] at k; exact k
      | rt d => rw [hM] at k; exact k
      | er c ρ2 => rw [hM] at k; exact k
      | bad => rw [hM] at k; exact k
    · rename_i hm
      rw [hm]
      exact ⟨false, rfl, fun H1 H2 g => iteF (k σ H1 H2 (r.grow g))⟩
    · rename_i c hm
      rw [hm]
      exact ends_er r k
    · exact k.elim
end
end Fc
set_option Elab.async false
set_option linter.all false
set_option maxRecDepth 100000
set_option maxHeartbeats 2000000
namespace Fc
open PySem L2 Evl PySem.Spec PyProof.Rows
section
variable {X : Cx} {W : WX} {e a b c o tg it elt : Expr} {es : List Expr} {m ma mb mc mt : DE} {pos : Pos} {st : Stmt} {rest body els : List Stmt} {M N : DS}
variable {K : Fr} {mg : Str → Option Value} {B : Bs} {ρ : En} {σ : L2.St} {H0 H : Hp} {E : Ends}
/-! ### comprehensions -/
def wipeE (ρ : En) : List Nat → En
  | [] => ρ
  | v :: vs => (wipeE ρ vs).set v .un
theorem Rl.wipe (r : Rl K B ρ σ H0 H) : ∀ vs : List Nat, Rl K B (wipeE ρ vs) (L2.wipe σ vs) H0 H
  | [] => r
  | v :: vs => (Rl.wipe r vs).setU
theorem wipe_get (σ : L2.St) (j : Nat) : ∀ vs : List Nat, (L2.wipe σ vs)[j]? = if j ∈ vs then (if j < σ.length then some none else none) else σ[j]?
  | [] => by simp [L2.wipe]
  | v :: vs => by
    unfold L2.wipe
    rw [get_set, wipe_length, wipe_get σ j vs]
    by_cases h : v = j
    · subst h; simp
    · have : ¬ j = v := fun z => h z.symm
      simp [h, this]
theorem wipe_eq {σ σ2 : L2.St} {is vs : List Nat} (hl : σ2.length = (L2.wipe σ vs).length) (h : ∀ j, j ∉ is → σ2[j]? = (L2.wipe σ vs)[j]?) (hs : ∀ i ∈ is, i ∈ vs) : L2.wipe σ2 vs = L2.wipe σ vs := by
  apply List.ext_getElem?
  intro j
  rw [wipe_length] at hl
  rw [wipe_get σ2, wipe_get σ, hl]
  by_cases hj : j ∈ vs
  · simp [hj]
  · have : j ∉ is := fun z => hj (hs j z)
    have q := h j this
    rw [wipe_get] at q
    simp only [hj, if_false] at q ⊢
    exact q
def lcStep (g : DG) (t m : DE) (vs : List Nat) (ρ : En) (d : D) : Option (Option D) := match g d (wipeE ρ vs) with
  | none => none
  | some ρ1 => match t ρ1 with
    | .ok (.bool true) => (match m ρ1 with
      | .ok x => some (some x)
      | _ => none)
    | .ok (.bool false) => some none
    | _ => none
def lcL (g : DG) (t m : DE) (vs : List Nat) (ρ : En) : List D → Option (List D)
  | [] => some []
  | d :: ds => match lcStep g t m vs ρ d with
    | none => none
    | some o => match lcL g t m vs ρ ds with
      | none => none
      | some r => some (o.toList ++ r)
def eLc (it : DI) (g : DG) (t m : DE) (vs : List Nat) : DE := fun ρ => match it ρ with
  | .ok ds => (match lcL g t m vs ρ ds with
    | some rs => if szB rs.length = true then .ok (.list rs) else .bad
    | none => .bad)
  | .er c => .er c
  | .bad => .bad
def W0 : WX := fun _ _ _ _ => False
theorem wc0 {c : Str} {σ : L2.St} {H : Hp} : WC mg W0 c σ H → ∀ C, mg c = some (Value.ref C) → False := fun h C hC => h C hC
/-- the new list at Dl is kept from the block -/
theorem Rl.guard {Dl : Addr} {xs : List V} (r : Rl K B ρ σ H0 H) (h : H Dl = some (.lst xs)) (h0 : H0 Dl = none) (hn : ∀ (j : Nat) (e : D), ρ[j]? = some (Slot.ow e) → σ[j]? ≠ some (some (V.ref Dl))) : Rl K (B.1, upd B.2 Dl (.lst xs)) ρ σ H0 H := by
  refine ⟨⟨r.gr.e0, fun q u z => ?_, r.gr.s, fun q z z1 => ?_⟩, r.len, r.fz, fun i d hi => ?_, r.uq, fun i d hi => ?_, fun i d hi => ?_⟩
  · have z' : upd B.2 Dl (.lst xs) q = some u := z
    by_cases hq : q = Dl
    · subst hq; rw [upd_same] at z'; rw [h]; exact z'
    · rw [upd_ne hq] at z'; exact r.gr.e q u z'
  · by_cases hq : q = Dl
    · subst hq; exact h0
    · have z' : NT (upd B.2 Dl (.lst xs) q) := z
      rw [upd_ne hq] at z'
      exact r.gr.n q z' z1
  · obtain ⟨p, ob, q1, q2, q3, q4, q5⟩ := r.ow i d hi
    have ne : p ≠ Dl := fun z => hn i d hi (z ▸ q1)
    exact ⟨p, ob, q1, by show upd B.2 Dl _ p = none; rw [upd_ne ne]; exact q2, q3, q4, q5⟩
  · refine (r.ot i d hi).to rfl (Ex.refl _) (fun q ⟨l, hl⟩ hf hq => ⟨rfl, ?_, hf.2, hq⟩) fun _ _ z => z
    show upd B.2 Dl _ q = none
    rw [upd_ne fun z => by rw [z, h] at hl; cases hl]
    exact hf.1
  · obtain ⟨p, od, kvs, es, h1, h2, h3, h4, h5, h6⟩ := r.lk i d hi
    refine ⟨p, od, kvs, es, h1, h2, h3, h4, ?_, h6⟩
    show upd B.2 Dl _ p = none
    rw [upd_ne fun z => by rw [z, h] at h3; cases h3]
    exact h5
theorem Rl.guarded {Dl : Addr} {xs : List V} (r : Rl K (B.1, upd B.2 Dl (.lst xs)) ρ σ H0 H) (hB : B.1 Dl = none) : H Dl = some (.lst xs) ∧ H0 Dl = none ∧ ∀ (j : Nat) (e : D), ρ[j]? = some (Slot.ow e) → σ[j]? ≠ some (some (V.ref Dl)) := by
  refine ⟨r.gr.e Dl _ upd_same, r.gr.n Dl (by show NT (upd B.2 Dl _ Dl); rw [upd_same]; exact ⟨_, rfl, fun _ z => nomatch z⟩) hB, fun j e hj hs => ?_⟩
  obtain ⟨p, ob, q1, q2, q3, q4, q5⟩ := r.ow j e hj
  rw [hs] at q1
  simp at q1
  subst q1
  have : upd B.2 Dl (.lst xs) Dl = none := q2
  rw [upd_same] at this
  cases this
theorem Rl.unguard {Dl : Addr} {xs : List V} (r : Rl K (B.1, upd B.2 Dl (.lst xs)) ρ σ H0 H) (hB : B.2 Dl = none) : Rl K B ρ σ H0 H := by
  refine ⟨⟨r.gr.e0, fun q u z => ?_, r.gr.s, fun q z z1 => ?_⟩, r.len, r.fz, fun i d hi => ?_, r.uq, fun i d hi => ?_, fun i d hi => ?_⟩
  · have hq : q ≠ Dl := fun y => by rw [y, hB] at z; cases z
    exact r.gr.e q u (by show upd B.2 Dl _ q = some u; rw [upd_ne hq]; exact z)
  · have hq : q ≠ Dl := fun y => z.ne (by rw [y]; exact hB)
    exact r.gr.n q (by show NT (upd B.2 Dl _ q); rw [upd_ne hq]; exact z) z1
  · obtain ⟨p, ob, q1, q2, q3, q4, q5⟩ := r.ow i d hi
    have q2' : upd B.2 Dl (.lst xs) p = none := q2
    have ne : p ≠ Dl := fun z => by rw [z, upd_same] at q2'; cases q2'
    rw [upd_ne ne] at q2'
    exact ⟨p, ob, q1, q2', q3, q4, q5⟩
  · refine (r.ot i d hi).to rfl (Ex.refl _) (fun q _ hf hq => ⟨rfl, ?_, hf.2, hq⟩) fun _ _ z => z
    have h1 : upd B.2 Dl (.lst xs) q = none := hf.1
    have ne : q ≠ Dl := fun z => by rw [z, upd_same] at h1; cases h1
    rw [upd_ne ne] at h1
    exact h1
  · obtain ⟨p, od, kvs, es, h1, h2, h3, h4, h5, h6⟩ := r.lk i d hi
    have h5' : upd B.2 Dl (.lst xs) p = none := h5
    have ne : p ≠ Dl := fun z => by rw [z, upd_same] at h5'; cases h5'
    rw [upd_ne ne] at h5'
    exact ⟨p, od, kvs, es, h1, h2, h3, h4, h5', h6⟩
theorem Rl.grown {Dl : Addr} {xs ys : List V} (r : Rl K B ρ σ H0 H) (h : H Dl = some (.lst xs)) (hB : B.2 Dl = none) (h0 : H0 Dl = none) (hn : ∀ (j : Nat) (e : D), ρ[j]? = some (Slot.ow e) → σ[j]? ≠ some (some (V.ref Dl))) : Rl K B ρ σ H0 (upd H Dl (.lst ys)) :=
  ⟨r.gr.mut hB h0, r.len, r.fz, fun i d hi => by
    obtain ⟨p, ob, q1, q2, q3, q4, q5⟩ := r.ow i d hi
    have ne : p ≠ Dl := fun z => hn i d hi (z ▸ q1)
    exact ⟨p, ob, q1, q2, q3, by rw [upd_ne ne]; exact q4, q5⟩, r.uq, fun i d hi => (r.ot i d hi).to rfl (Ex.refl _) (fun q ⟨l, hl⟩ hf hq => ⟨upd_ne (fun z => by rw [z, h] at hl; cases hl), hf.1, hf.2, hq⟩) fun _ _ z => z, fun i d hi => by
    obtain ⟨p, od, kvs, es, h1, h2, h3, h4, h5, h6⟩ := r.lk i d hi
    exact ⟨p, od, kvs, es, h1, h2, by rw [upd_ne fun z => by rw [z, h] at h3; cases h3]; exact h3, h4, h5, h6⟩⟩
theorem lc_data {J : It} {ds rs : List D} {is vs : List Nat} {g : DG} {Hs0 Hs H1 H2 : Hp} {Q : VK} (hJ : ItOk K J H1 ds) (rl : Rl K B ρ σ H1 H2) (gr : Gr Hs0 Hs H1 H2) (hrs : lcL g mt m vs ρ ds = some rs) (hz : szB rs.length = true) (hsub : ∀ i ∈ is, i ∈ vs)
    (hq : Kq true K Hs0 Hs (.list rs) Q) (Dl : Addr) (hD : H2 Dl = none) :
    ∃ Wd : Nat → Nat → Hp → Prop, (∃ m, Wd 0 m (upd H2 Dl (.lst []))) ∧ ∀ i k H, Wd i k H →
      (J.stop i H ∧ Q (.ref Dl) H) ∨ (J.go i H ∧ ∃ Nx : Hp → Prop, (∀ H', Nx H' → ∃ m', m' < k ∧ Wd (i + 1) m' H') ∧ ∀ x H', J.yld i H x H' → tG K is g x (L2.wipe σ vs) H' fun σ2 H2 => L2.wipe σ2 vs = L2.wipe σ vs ∧ tT K mg W0 mt σ2 H2 fun b H3 =>
        if b = true then tE false K mg W0 m σ2 H3 fun y H4 => ∃ acc, H4 Dl = some (.lst acc) ∧ acc.length < sizeLine ∧ Nx (upd H4 Dl (.lst (acc ++ [y]))) else Nx H3) := by
  have hB2 : B.2 Dl = none := fresh_back rl.gr.e hD
  have hH1 : H1 Dl = none := fresh_back rl.s hD
  have hB1 : B.1 Dl = none := fresh_back rl.gr.e0 hH1
  have hHs : Hs Dl = none := fresh_back gr.e hD
  have hb := rl.gr
  let Bd : List V → Bs := fun acc => (H1, upd B.2 Dl (.lst acc))
  let Inv' : Nat → Hp → Prop := fun i H => ∃ H0 acc done rest, Rl K (Bd acc) ρ σ H0 H ∧ Gr Hs0 Hs H0 H ∧ RpA K H0 acc done ∧ lcL g mt m vs ρ (ds.drop i) = some rest ∧ done ++ rest = rs
  have own_ne : ∀ (j : Nat) (e : D), ρ[j]? = some (Slot.ow e) → σ[j]? ≠ some (some (V.ref Dl)) := fun j e hj hs => by
    obtain ⟨p, ob, q1, q2, q3, q4, q5⟩ := rl.ow j e hj
    rw [hs] at q1
    simp at q1
    subst q1
    rw [hD] at q4
    cases q4
  have start : Inv' 0 (upd H2 Dl (.lst [])) := by
    have r1 : Rl K (H1, B.2) ρ σ H1 (upd H2 Dl (.lst [])) := (rebase hb rl (Ex.refl _)).grow (Gr.side rl.s (Ex.new hD))
    exact ⟨H1, [], [], rs, r1.guard upd_same hH1 own_ne, gr.trans (Gr.side rl.s (Ex.new hD)), .nil, by rw [List.drop_zero]; exact hrs, rfl⟩
  refine ⟨fun i k H => k = ds.length - i ∧ i ≤ ds.length ∧ Inv' i H, ⟨_, rfl, Nat.zero_le _, start⟩, ?_⟩
  rintro i k H ⟨rfl, hi, H0, acc, done, rst, r, g0, ra, hl, hd⟩
  obtain ⟨gD, gD0, gN⟩ := r.guarded (B := (H1, B.2)) hH1
  have e : Ex H1 H0 := r.gr.e0
  by_cases hlt : i < ds.length
  · have hdi : ds[i]? = some ds[i] := List.getElem?_eq_getElem hlt
    obtain ⟨hgo, hy⟩ := (hJ i).2 H _ (e.trans r.s) hdi
    rw [getElem?_drop hdi] at hl
    unfold lcL at hl
    refine .inr ⟨hgo, Inv' (i + 1), fun H' z => ⟨ds.length - (i + 1), by omega, rfl, by omega, z⟩, fun x H' y => ?_⟩
    cases hst : lcStep g mt m vs ρ ds[i] with
    | none => rw [hst] at hl; cases hl
    | some oo =>
      rw [hst] at hl
      cases hlr : lcL g mt m vs ρ (ds.drop (i + 1)) with
      | none => rw [hlr] at hl; cases hl
      | some r2 =>
        rw [hlr] at hl
        simp only [Option.some.injEq] at hl
        subst hl
        have go : ∀ H0', Gr H0 H H0' H' → Rp K H0' x ds[i] → tG K is g x (L2.wipe σ vs) H' fun σ2 H2 => L2.wipe σ2 vs = L2.wipe σ vs ∧ tT K mg W0 mt σ2 H2 fun b H3 =>
            if b = true then tE false K mg W0 m σ2 H3 fun y H4 => ∃ acc, H4 Dl = some (.lst acc) ∧ acc.length < sizeLine ∧ Inv' (i + 1) (upd H4 Dl (.lst (acc ++ [y]))) else Inv' (i + 1) H3 := by
          intro H0' gg rp
          have r' := r.grow gg
          refine ⟨Bd acc, wipeE ρ vs, H0', _, r'.wipe vs, rp, ?_⟩
          unfold lcStep at hst
          cases hg : g ds[i] (wipeE ρ vs) with
          | none => rw [hg] at hst; cases hst
          | some ρ1 =>
            rw [hg] at hst
            intro σ2 rr2 l2 n2
            refine ⟨wipe_eq l2 n2 hsub, Bd acc, ρ1, H0', rr2, ?_⟩
            simp only at hst
            split at hst
            · rename_i ht
              rw [ht]
              refine ⟨true, rfl, fun H3 H4 g3 => iteT ?_⟩
              split at hst
              · rename_i xd hm
                simp only [Option.some.injEq] at hst
                subst hst
                refine ⟨Bd acc, ρ1, H3, rr2.grow g3, ?_⟩
                rw [hm]
                intro v H5 H6 g5 rv
                have rB := (r'.grow g3).grow g5
                obtain ⟨gD5, gD05, gN5⟩ := rB.guarded (B := (H1, B.2)) hH1
                have hlen : acc.length = done.length := ra.length
                have hlen2 : done.length ≤ rs.length := by rw [← hd, List.length_append]; omega
                have hz' := of_decide_eq_true hz
                refine ⟨acc, gD5, sz_lt (by
                  have : (done ++ ((some xd).toList ++ r2)).length = rs.length := by rw [hd]
                  simp at this
                  omega), H5, acc ++ [v], done ++ [xd], r2, ?_, ?_, ((ra.mono gg.e0).mono (g3.e0.trans g5.e0)).append (.cons rv .nil), hlr, by rw [← hd]; simp⟩
                · exact ((rB.unguard (B := (H1, B.2)) hB2).grown gD5 hB2 gD05 gN5).guard upd_same gD05 gN5
                · exact (((g0.trans gg).trans g3).trans g5).mut hHs gD05
              · cases hst
            · rename_i ht
              rw [ht]
              refine ⟨false, rfl, fun H3 H4 g3 => iteF ?_⟩
              simp only [Option.some.injEq] at hst
              subst hst
              exact ⟨H3, acc, done, r2, r'.grow g3, (g0.trans gg).trans g3, (ra.mono gg.e0).mono g3.e0, hlr, by rw [← hd]; simp⟩
            · cases hst
        rcases hy x H' y with ⟨rfl, rp⟩ | ⟨p, vs', es, hp, rfl, rfl, hd', rs'⟩ | hg
        · exact go H0 (Gr.refl r.s) (rp.mono e)
        · refine go (upd H0 p (.tup vs')) (Gr.new r.s hp) ?_
          rw [hd']
          exact .tup upd_same ((rs'.mono e).mono (Ex.new (fresh_back r.s hp)))
        · obtain ⟨Hc, g1, rp⟩ := hg H0 e r.s
          exact go Hc g1 rp
  · have : i = ds.length := by omega
    subst this
    rw [List.drop_length] at hl
    unfold lcL at hl
    cases hl
    rw [List.append_nil] at hd
    subst hd
    exact .inl ⟨(hJ _).1 H (e.trans r.s) (Nat.le_refl _), hq Dl _ H0 H g0 gD hHs gD0 (.inl ⟨acc, done, rfl, rfl, ra⟩)⟩
abbrev PTsD (X : Cx) (ifs : List Expr) (m : DE) : Prop := PTs X ifs (tT X.K X.mg W0 m)
def eT : DE := fun _ => .ok (.bool true)
theorem tds_nil : PTsD X [] eT := ⟨fun pins s σ H Q I ⟨B, ρ, H0, r, b, eb, k⟩ => pts_nil.run pins s σ H Q I (by
  cases eb
  exact k H0 H (Gr.refl r.s))⟩
theorem tds_one (h : PTd X W0 c mc) : PTsD X [c] mc := pts_one h
theorem t_lc {mi : DI} {is vs : List Nat} {g : DG} (hsub : ∀ i ∈ is, i ∈ vs) {Q : VK} (h : tE true K mg W (eLc mi g mt m vs) σ H Q) : tLc (tIt K mg W mi) (tG K is g) (tT K mg W0 mt) (tE false K mg W0 m) vs σ H Q := by
  obtain ⟨B, ρ, H0, rl, o⟩ := h
  refine ⟨B, ρ, H0, rl, ?_⟩
  unfold eLc at o
  cases hi : mi ρ with
  | bad => rw [hi] at o; exact o
  | er c => rw [hi] at o; exact o
  | ok ds =>
    rw [hi] at o
    simp only at o
    cases hrs : lcL g mt m vs ρ ds with
    | none => rw [hrs] at o; exact o.elim
    | some rs =>
      rw [hrs] at o
      simp only at o
      split at o
      · rename_i hz
        intro J H1 H2 g1 hJ Dl hD
        exact lc_data hJ (rl.grow g1) g1 hrs hz hsub o Dl hD
      · exact o.elim
theorem pf_lc {ifs : List Expr} {scope : Scope} {own : List (Str × Nat)} {mi : DI} {is : List Nat} {g : DG} (hc : X.calm = true) (hN : X.N.Nodup) (hi : ID X W tg it mi) (ok : BlkOk X.N X.env.scope scope own)
    (hg : ∀ (s : Shared) (H : Hp) (C : Addr) (cl : List (Str × Addr)) (fp : List Addr), GD (X.blk s H scope (compEnvC scope cl C X.env) fp) tg is g) (ht : ∀ (s : Shared) (H : Hp) (C : Addr) (cl : List (Str × Addr)) (fp : List Addr), PTsD (X.blk s H scope (compEnvC scope cl C X.env) fp) ifs mt)
    (he : ∀ (s : Shared) (H : Hp) (C : Addr) (cl : List (Str × Addr)) (fp : List Addr), PD (X.blk s H scope (compEnvC scope cl C X.env) fp) W0 elt m) (hsub : ∀ i ∈ is, i ∈ own.map (·.2) := by decide) (hs : ∀ x, foldedSetIterable it X.env x = pure x := by intro _; rfl) :
    PF X W (.ListComp elt [⟨tg, it, ifs, 0⟩] scope pos) (eLc mi g mt m (own.map (·.2))) := (pe_lc hc hN hi ok hg ht he hs).wk fun σ H Q h => t_lc hsub h
theorem sd_setLc {i : Nat} {y : Str} {py spos : Pos} {ifs : List Expr} {scope : Scope} {own : List (Str × Nat)} {mi : DI} {is : List Nat} {g : DG} (hc : X.calm = true) (hN : X.N.Nodup) (hy : X.N[i]? = some y) (hyl : X.env.scope.names.lookup y = some .local)
    (hsw : swapsWith (.ListComp elt [⟨tg, it, ifs, 0⟩] scope pos) (some (.Name y py)) spos.line X.env = pure true) (hi : ID X W tg it mi) (ok : BlkOk X.N X.env.scope scope own)
    (hg : ∀ (s : Shared) (H : Hp) (C : Addr) (cl : List (Str × Addr)) (fp : List Addr), GD (X.blk s H scope (compEnvC scope cl C X.env) fp) tg is g) (ht : ∀ (s : Shared) (H : Hp) (C : Addr) (cl : List (Str × Addr)) (fp : List Addr), PTsD (X.blk s H scope (compEnvC scope cl C X.env) fp) ifs mt)
    (he : ∀ (s : Shared) (H : Hp) (C : Addr) (cl : List (Str × Addr)) (fp : List Addr), PD (X.blk s H scope (compEnvC scope cl C X.env) fp) W0 elt m) (hsub : ∀ i ∈ is, i ∈ own.map (·.2) := by decide) (hs : ∀ x, foldedSetIterable it X.env x = pure x := by intro _; rfl) :
    SD X W (.Assign [.Name y py] (.ListComp elt [⟨tg, it, ifs, 0⟩] scope pos) spos) (sOwn i (eLc mi g mt m (own.map (·.2)))) := (ps_setLc hc hN hy hyl hsw hi ok hg ht he hs).wk fun E σ H q =>
  t_lc hsub (t_sE (kd := true) q fun B ρ H0 H d r k p ob H0' H' g hp hn h0 ho => k _ H0' H' (own_new r g hn hp h0 ho i))
/-- .. whose list is frozen at once -/
theorem sd_setLcF {i : Nat} {y : Str} {py spos : Pos} {ifs : List Expr} {scope : Scope} {own : List (Str × Nat)} {mi : DI} {is : List Nat} {g : DG} (hc : X.calm = true) (hN : X.N.Nodup) (hy : X.N[i]? = some y) (hyl : X.env.scope.names.lookup y = some .local)
    (hsw : swapsWith (.ListComp elt [⟨tg, it, ifs, 0⟩] scope pos) (some (.Name y py)) spos.line X.env = pure true) (hi : ID X W tg it mi) (ok : BlkOk X.N X.env.scope scope own)
    (hg : ∀ (s : Shared) (H : Hp) (C : Addr) (cl : List (Str × Addr)) (fp : List Addr), GD (X.blk s H scope (compEnvC scope cl C X.env) fp) tg is g) (ht : ∀ (s : Shared) (H : Hp) (C : Addr) (cl : List (Str × Addr)) (fp : List Addr), PTsD (X.blk s H scope (compEnvC scope cl C X.env) fp) ifs mt)
    (he : ∀ (s : Shared) (H : Hp) (C : Addr) (cl : List (Str × Addr)) (fp : List Addr), PD (X.blk s H scope (compEnvC scope cl C X.env) fp) W0 elt m) (hsub : ∀ i ∈ is, i ∈ own.map (·.2) := by decide) (hs : ∀ x, foldedSetIterable it X.env x = pure x := by intro _; rfl) :
    SD X W (.Assign [.Name y py] (.ListComp elt [⟨tg, it, ifs, 0⟩] scope pos) spos) (sAsg i (eLc mi g mt m (own.map (·.2)))) := (ps_setLc hc hN hy hyl hsw hi ok hg ht he hs).wk fun E σ H q =>
  t_lc hsub (t_sE (kd := true) q fun B ρ H0 H d r k => Kq.own (Q := fun x H1 => gName i x σ H1 E.nx) fun v H0' H' g rp => k _ H0' H' ((r.grow g).setF rp))
/-! ### defs -/
/-- what a def promises: on data ds it comes to f ds -/
def spD (K : Fr) (mg : Str → Option Value) (n : Nat) (f : List D → R D) : Sp := fun vs H Q E => vs.length = n ∧ ∃ ds H0, Ex H0 H ∧ RpA K H0 vs ds ∧ Out (f ds) (fun d => Kq false K H0 H d Q) (fun c => ∀ H', Ex H H' → ∀ C, mg c = some (Value.ref C) → E (.ref C) none H')
abbrev FnD (P : Program) (w : World) (K : Fr) (mg : Str → Option Value) (base : Heap) (k : Nat) (f : Addr) (fd : FuncData) (ps : List Str) (g : List D → R D) : Prop := FnOk P w K mg base (L2.CX P w) k f fd ps (spD K mg ps.length g)
def eDef (g : List D → R D) (ms : DA) : DE := fun ρ => (ms ρ).bind g
theorem t_def {k : Nat} {n : Nat} {g : List D → R D} {ms : DA} (hlen : ∀ ρ ds, ms ρ = .ok ds → ds.length = n) {Q : VK} (h : tE false K mg W (eDef g ms) σ H Q) : tAf K mg W ms σ H fun vs H1 => spD K mg n g vs H1 Q (WE W σ) := by
  obtain ⟨B, ρ, H0, rl, o⟩ := h
  refine ⟨B, ρ, H0, rl, ?_⟩
  unfold eDef at o
  cases ha : ms ρ with
  | bad => rw [ha] at o; exact o
  | er c => rw [ha] at o; exact o
  | ok ds =>
    rw [ha, R.bind_ok] at o
    intro vs H1 H2 g1 ra
    exact ⟨ra.length.trans (hlen ρ ds ha), ds, H1, g1.s, ra, o.imp (fun d k => Kq.grow (k := false) k g1) fun c k H' e => k H' (g1.e.trans e)⟩
theorem aNil_len : ∀ ρ ds, aNil ρ = .ok ds → ds.length = 0 := fun ρ ds h => by cases h; rfl
theorem aCons_len {ma : DE} {mr : DA} {n : Nat} (h : ∀ ρ ds, mr ρ = .ok ds → ds.length = n) : ∀ ρ ds, aCons ma mr ρ = .ok ds → ds.length = n + 1 := fun ρ ds q => by
  unfold aCons at q
  cases h1 : ma ρ with
  | bad => rw [h1] at q; cases q
  | er c => rw [h1] at q; cases q
  | ok d =>
    rw [h1, R.bind_ok] at q
    cases h2 : mr ρ with
    | bad => rw [h2] at q; cases q
    | er c => rw [h2] at q; cases q
    | ok ds' =>
      rw [h2, R.bind_ok] at q
      cases q
      rw [List.length_cons, h ρ ds' h2]
theorem pd_def {x : Str} {p : Pos} {k : Nat} {f : Addr} {fd : FuncData} {ps : List Str} {g : List D → R D} {ms : DA} (F : FnD X.prog X.w X.K X.mg X.base k f fd ps g) (tk : Takes X W) (hr : Room k X.A) (hg : Gl X x) (hm : X.mg x = some (.ref f)) (hk : PySem.W.keepIn X.K (.ref f) = true) (hb : Binds X.K fd ps [])
    (hlen : ∀ ρ ds, ms ρ = .ok ds → ds.length = ps.length) (ha : PAf X W (e :: es) ms) (hdb : (x == ("__debug__" : Str)) = false := by decide) (he : starEach (e :: es) X.env = (false, eval e X.env) :: starEach es X.env := by rfl) (hpl : (backTo pos (starEach es X.env)).any (·.1) = false := by rfl) :
    PD X W (.Call (.Name x p) (e :: es) [] pos) (eDef g ms) := (pe_callS F hr hg hm hk hb (fun σ => passAt tk σ) ha hdb he hpl).wk fun σ H Q h => t_def (k := k) hlen h
theorem pd_def0 {x : Str} {p : Pos} {k : Nat} {f : Addr} {fd : FuncData} {ps : List Str} {g : List D → R D} (F : FnD X.prog X.w X.K X.mg X.base k f fd ps g) (tk : Takes X W) (hr : Room k X.A) (hg : Gl X x) (hm : X.mg x = some (.ref f)) (hk : PySem.W.keepIn X.K (.ref f) = true) (hb : Binds X.K fd ps [])
    (hlen : ps.length = 0) (hdb : (x == ("__debug__" : Str)) = false := by decide) : PD X W (.Call (.Name x p) [] [] pos) (eDef g aNil) := by
  refine ⟨fun pins s σ H Q I h => ?_⟩
  have q := t_def (k := k) (n := ps.length) (fun ρ ds z => by rw [hlen]; exact aNil_len ρ ds z) h
  obtain ⟨B, ρ, H0, rl, o⟩ := q
  refine wpAny_Call_Name_kw (ld_glob I hg hm ?_ hdb)
  exact PySem.W.callWith_K0 I.kIn hk (run_fnS (us := []) F hr hb (passAt tk σ) I .nil (o [] H0 H (Gr.refl rl.s) .nil))
/-! ### a def's body -/
/-- a body run on data: N names, the first of them parameters -/
def runF (N n : Nat) (M : DS) (ds : List D) : R D := if ds.length = n then (match M (ds.map Slot.fz ++ List.replicate (N - n) Slot.un) with
  | .nx _ => .ok .none
  | .rt d => .ok d
  | .er c _ => .er c
  | _ => .bad) else .bad
theorem rl_start {N : List Str} {n : Nat} {vs : List V} {ds : List D} (s : Ex H0 H) (ra : RpA K H0 vs ds) (hl : vs.length = n) : Rl K (H0, H) (ds.map Slot.fz ++ List.replicate (N.length - n) Slot.un) (L2.start N vs) H0 H where
  gr := Gr.refl s
  len := by
    unfold L2.start
    have := ra.length
    simp [this]
    omega
  fz := fun i d h => by
    unfold L2.start
    rw [List.getElem?_append] at h ⊢
    split at h
    · rename_i hi
      rw [List.getElem?_map] at h
      obtain ⟨d', h1, h2⟩ := Option.map_eq_some_iff.mp h
      cases h2
      obtain ⟨v, h3, h4⟩ := ra.getD h1
      refine ⟨v, ?_, h4⟩
      rw [if_pos (by simpa [ra.length] using hi), List.getElem?_map, h3]
      rfl
    · rw [List.getElem?_replicate] at h
      split at h <;> cases h
  ow := fun i d h => by
    rw [List.getElem?_append] at h
    split at h
    · rw [List.getElem?_map] at h
      obtain ⟨d', h1, h2⟩ := Option.map_eq_some_iff.mp h
      cases h2
    · rw [List.getElem?_replicate] at h
      split at h <;> cases h
  uq := fun i j d e p h => by
    rw [List.getElem?_append] at h
    split at h
    · rw [List.getElem?_map] at h
      obtain ⟨d', h1, h2⟩ := Option.map_eq_some_iff.mp h
      cases h2
    · rw [List.getElem?_replicate] at h
      split at h <;> cases h
  ot := fun i d h => by
    rw [List.getElem?_append] at h
    split at h
    · rw [List.getElem?_map] at h
      obtain ⟨d', h1, h2⟩ := Option.map_eq_some_iff.mp h
      cases h2
    · rw [List.getElem?_replicate] at h
      split at h <;> cases h
  lk := fun i d h => by
    rw [List.getElem?_append] at h
    split at h
    · rw [List.getElem?_map] at h
      obtain ⟨d', h1, h2⟩ := Option.map_eq_some_iff.mp h
      cases h2
    · rw [List.getElem?_replicate] at h
      split at h <;> cases h
theorem fn_d {P : Program} {w : World} {base : Heap} {x qual : Str} {params : Arguments} {scope : Scope} {f : Addr} {fd : FuncData} {N ps : List Str} {k : Nat} {dvs : List V} {kws : List (Str × V)} (F : FunD K x qual params body scope dvs kws f fd) (S : FnScope N ps scope)
    (hb : ∀ (cdv : Value) (A : Around) (outer : List Env) (s : Shared) (H : Hp) (E : XK), Room k (A.deeper (envOfC qual scope s.heap.objs.size f cdv)) →
      SsD (cxOf (L2.CX P w) P w K mg base N qual scope f cdv A outer s H E) (fun cls d _ H => E cls d H) body M) : FnD P w K mg base (k + 1) f fd ps (runF N.length ps.length M) := by
  refine F.ok S (fun vs H Q E h => h.1) fun cdv A outer s H vs Q E hr h => ⟨_, hb cdv A outer s H E hr, ?_⟩
  obtain ⟨hl, ds, H0, s0, ra, o⟩ := h
  refine ⟨(H0, H), _, H0, rl_start s0 ra hl, ?_⟩
  unfold runF at o
  rw [if_pos (ra.length.symm.trans hl)] at o
  show EndS K mg _ (H0, H) _ (M (ds.map Slot.fz ++ List.replicate (N.length - ps.length) Slot.un))
  cases hM : M (ds.map Slot.fz ++ List.replicate (N.length - ps.length) Slot.un) with
  | nx ρ => rw [hM] at o; exact fun σ H1 H2 rl => o .non H1 H2 rl.gr .non
  | rt d => rw [hM] at o; exact fun v H1 H2 g rp => o v H1 H2 g rp
  | er c ρ => rw [hM] at o; exact fun σ H1 H2 rl C hC => o H2 rl.gr.e C hC
  | bk ρ => rw [hM] at o; exact o.elim
  | ct ρ => rw [hM] at o; exact o.elim
  | bad => rw [hM] at o; exact o.elim
/-- nothing is promised -/
theorem fn_bad {P : Program} {w : World} {base : Heap} {f : Addr} {fd : FuncData} {ps : List Str} {k : Nat} : FnD P w K mg base k f fd ps (fun _ => .bad) := ⟨fun vs H Q E h => h.1, fun _ _ _ _ _ _ _ _ _ _ _ _ _ h => by
  obtain ⟨_, _, _, _, _, o⟩ := h
  exact o.elim⟩
/-! ### raise X('..') -/
def sRaise (c : Str) : DS := fun ρ => .er c ρ
structure ExcF (K : Fr) (mg : Str → Option Value) (x : Str) (C : Addr) : Prop where
  g : mg x = some (.ref C)
  q : ∃ bm, (∃ B newId initId, ExcBaseFacts B newId initId bm ∧ PySem.W.excIn K C bm newId = true)
  k : PySem.W.keepIn K (.ref C) = true
  s : PySem.W.subIn K (.ref C) (.type "BaseException") = some true
  t : PySem.W.typeIn K (.ref C) = some (.type "type")
theorem sd_raise {x z : Str} {C : Addr} {j : Nat} {p p2 pos' : Pos} (F : ExcF X.K X.mg x C) (hc : X.calm = true) (tk : Takes X W) (hg : Gl X x) (hdb : (x == ("__debug__" : Str)) = false := by decide) :
    SD X W (.Raise (some (.Call (.Name x p) [.Constant (.str z) j p2] [] pos)) none pos') (sRaise x) := by
  obtain ⟨bm, B, n1, n2, q1, q2⟩ := F.q
  exact (ps_raise hc tk (pmk_own q1 q2 F.g F.k (raises_own F.s F.t) hg hdb)).wk fun E σ H ⟨B, ρ, H0, r, o⟩ => o σ H0 H r C F.g
/-! ### an owned list grows -/
def sApp (i : Nat) (m : DE) : DS := fun ρ => match ρ[i]? with
  | some (.ow (.list ds)) => sE m (fun d ρ => if szB (ds.length + 1) = true then .nx (ρ.set i (.ow (.list (ds ++ [d])))) else .bad) ρ
  | _ => .bad
theorem own_at {i : Nat} {d : D} (r : Rl K B ρ σ H0 H) (h : ρ[i]? = some (Slot.ow d)) : ∃ p o, σ[i]? = some (some (.ref p)) ∧ H p = some o ∧ OwnO K H0 o d := by
  obtain ⟨p, ob, q1, _, _, q4, q5⟩ := r.ow i d h
  exact ⟨p, ob, q1, q4, q5⟩
theorem sd_app {i : Nat} {x : Str} {p1 apos cpos : Pos} (hx : PE X (.Name x p1) (tVar i)) (he : PD X W e m) (hsw : swapsWith (.Call (.Attribute (.Name x p1) "append" apos) [e] [] cpos) none pos.line X.env = pure false := by rfl)
    (hbase : attributeBase (.Name x p1) "append" X.env (eval (.Name x p1) X.env) = eval (.Name x p1) X.env := by rfl)
    (hfew : ((backTo cpos (starEach [e] X.env)).all (fun x => !x.1) && (backToKw cpos (keywordEach [] X.env)).all (fun x => x.1.isSome)
      && decide ([e].length + ([] : List Keyword).length + (if ([] : List Keyword).isEmpty then 0 else 1) < 30)) = true := by rfl)
    (hline : (apos.endLine == cpos.line) = true := by rfl) (hs : starEach [e] X.env = (false, eval e X.env) :: starEach [] X.env := by rfl) :
    SD X W (.Expr (.Call (.Attribute (.Name x p1) "append" apos) [e] [] cpos) pos) (sApp i m) :=
  (ps_expr (pe_bm PySem.F.plainAttrs_list PySem.F.slot_list_append PySem.F.type_list_append mt_append hx (pa_cons he pa_nil hs) hbase hfew hline hs rfl) hsw).wk fun E σ H q => by
    obtain ⟨B, ρ, H0, r, o⟩ := q
    unfold sApp at o
    split at o
    · rename_i l hi
      obtain ⟨p, ob, q1, q4, q5⟩ := own_at r hi
      rcases q5 with ⟨xs, ds, rfl, e2, rs⟩ | ⟨_, _, _, e2, _⟩
      · cases e2
        refine ⟨.ref p, q1, .inl ⟨rfl, xs, SqL.of q4⟩, B, ρ, H0, r, ?_⟩
        unfold sE at o
        cases hm : m ρ with
        | bad => rw [hm] at o; exact o.elim
        | er c => rw [hm] at o; exact ends_er r o
        | ok d =>
          rw [hm] at o
          simp only at o
          split at o
          · rename_i hz
            intro v H1 H2 g rp
            have r2 := r.grow g
            refine ⟨p, xs, v, rfl, rfl, g.e _ _ q4, ?_, ?_⟩
            · have := of_decide_eq_true hz
              rw [rs.length]
              exact sz_lt (by omega)
            · exact o _ H1 _ (r2.mutO hi q1 (.inl ⟨_, _, rfl, rfl, (rs.mono g.e0).append (.cons rp .nil)⟩))
          · exact o.elim
      · cases e2
    · exact o.elim
end
end Fc
set_option Elab.async false
set_option linter.all false
set_option maxRecDepth 100000
set_option maxHeartbeats 2000000
namespace Fc
open PySem L2 Evl PySem.Spec PyProof.Rows
section
variable {X : Cx} {W : WX} {e a b c o tg it elt : Expr} {es : List Expr} {m ma mb mc mt : DE} {pos : Pos} {st : Stmt} {rest body els : List Stmt} {M N : DS}
variable {K : Fr} {mg : Str → Option Value} {B : Bs} {ρ : En} {σ : L2.St} {H0 H : Hp} {E : Ends}
theorem VxA.one' {vs : List V} {d : D} (h : VxA K H0 H vs [d]) : ∃ v, vs = [v] ∧ Vx K H0 H v d := by
  cases h with
  | cons h t => cases t; exact ⟨_, rfl, h⟩
theorem VxA.two {vs : List V} {d f : D} (h : VxA K H0 H vs [d, f]) : ∃ v w, vs = [v, w] ∧ Vx K H0 H v d ∧ Vx K H0 H w f := by
  cases h with
  | cons h t =>
    cases t with
    | cons h2 t => cases t; exact ⟨_, _, rfl, h, h2⟩
/-! ### len -/
def dLen : List D → R D
  | [.list ds] => .ok (.int ds.length)
  | [.tuple ds] => .ok (.int ds.length)
  | [.str x] => if szB x.length = true then .ok (.int x.length) else .bad
  | [.dict [(.none, .list ds)]] => .ok (.int ds.length)
  | [.dict es] => if okE es = true then .ok (.int es.length) else .bad
  | _ => .bad
def rLenR : List V → Hp → VK → Prop := fun xs H Q => ∃ (p : Addr) (kvs : List (List Key × V)), xs = [.ref p] ∧ Rd H p (.dT kvs) ∧ Q (.int ((kvs.length : Nat) : Int)) H
theorem call_len_dR {X : Cx} : CallR X (.builtin "len") rLenR := by
  intro pins s σ H xs us Q I r h
  obtain ⟨p, kvs, rfl, hp, q⟩ := h
  obtain ⟨u, rfl, rx⟩ := vals1 r
  obtain rfl : u = .ref p := rx
  obtain ⟨z, hd, ys, rel, dd⟩ := dt_rd I.hok hp
  have hl : kvs.length = ys.length := Paired.length rel
  refine call_len_dictH hd dd (by rw [← hl]; rw [sizeLine_eq] at z; omega) ?_
  rw [← hl]
  exact ⟨.int ((kvs.length : Nat) : Int), H, I.tok _, ⟨_, rfl⟩, q⟩
theorem cd_len : CalD false X (.builtin "len") dLen := ⟨_, call_len.or call_len_dR, fun H0 H xs ds d s va e Q kq => by
  unfold dLen at e
  split at e
  · cases e
    obtain ⟨v, rfl, vx⟩ := va.one'
    obtain ⟨a, ys, rfl, ha, r⟩ := vx.lst s
    exact .inl ⟨_, _, rfl, .inl ⟨ys, SqL.of ha, rfl⟩, by rw [r.length]; exact kq _ H0 H (Gr.refl s) (.int _)⟩
  · cases e
    obtain ⟨v, rfl, vx⟩ := va.one'
    obtain ⟨a, ys, rfl, h0, ha, r⟩ := vx.tup s
    exact .inl ⟨_, _, rfl, .inr ⟨ys, SqT.of ha, rfl⟩, by rw [r.length]; exact kq _ H0 H (Gr.refl s) (.int _)⟩
  · split at e
    · rename_i hz
      cases e
      obtain ⟨v, rfl, vx⟩ := va.one'
      exact .inl ⟨_, _, rfl, by rw [vx.str]; exact ⟨szB_ok hz, rfl⟩, kq _ H0 H (Gr.refl s) (.int _)⟩
    · cases e
  · cases e
    obtain ⟨v, rfl, vx⟩ := va.one'
    rcases vx.dct s with ⟨a, kvs, rfl, ha, r⟩ | ⟨a, ns, rfl, e2, hs⟩
    · exact (RpE.no_none r).elim
    · simp at e2
      subst e2
      exact .inl ⟨_, _, rfl, .inl ⟨_, hs, rfl⟩, by
        have : (ns.map V.int).length = (ns.map PyData.int).length := by simp
        rw [this]; exact kq _ H0 H (Gr.refl s) (.int _)⟩
  · split at e
    · rename_i ho
      cases e
      obtain ⟨v, rfl, vx⟩ := va.one'
      obtain ⟨a, kvs, rfl, ha, r⟩ := vx.dctO s ho
      exact .inr ⟨a, kvs, rfl, ha, by rw [r.length]; exact kq _ H0 H (Gr.refl s) (.int _)⟩
    · cases e
  · cases e⟩
theorem cm_len : Calm1 dLen := fun ds c h => by
  unfold dLen at h
  repeat' first
    | cases h
    | split at h
/-! ### isinstance with a built-in class -/
def tyN : D → String
  | .none => "NoneType"
  | .bool _ => "bool"
  | .int _ => "int"
  | .str _ => "str"
  | .list _ => "list"
  | .tuple _ => "tuple"
  | .dict [(.none, _)] => "list"
  | .dict _ => "dict"
def isT (T : String) (d : D) : Bool := tyN d == T || (T == "int" && tyN d == "bool")
def dIsI (T : String) (d : D) : R D := match d with
  | .dict _ => .bad
  | _ => .ok (.bool (isT T d))
def okT : List String := ["int", "bool", "str", "list", "tuple"]
theorem kit_tab : ∀ t ∈ ["NoneType", "bool", "int", "str", "list", "tuple"], ∀ T ∈ okT, kitB t T = some (t == T || (T == "int" && t == "bool")) := by decide +kernel
theorem tyX_of {v : V} {d : D} (s : Ex H0 H) (h : Vx K H0 H v d) (hd : ∀ es, d ≠ .dict es) : TyX K H v (.type (tyN d)) ∧ tyN d ∈ ["NoneType", "bool", "int", "str", "list", "tuple"] := by
  cases d with
  | none => rw [h.non]; exact ⟨.base .non, by decide⟩
  | bool b => rw [h.bl]; exact ⟨.base (.bl b), by simp [tyN]⟩
  | int i => rw [h.int]; exact ⟨.base (.int i), by simp [tyN]⟩
  | str x => rw [h.str]; exact ⟨.base (.str x), by simp [tyN]⟩
  | list ds => obtain ⟨a, xs, rfl, ha, _⟩ := h.lst s; exact ⟨.base (.lst ha), by simp [tyN]⟩
  | tuple ds => obtain ⟨a, xs, rfl, _, ha, _⟩ := h.tup s; exact ⟨.base (.tup ha), by simp [tyN]⟩
  | dict es => exact (hd es rfl).elim
theorem pd_isI {T : Str} {p p2 : Pos} (ma : DE) {Ts : String} (hT : Ts ∈ okT) (hg : Gl X "isinstance") (hm : X.mg "isinstance" = none) (hgT : Gl X T) (hmT : X.mg T = none) (hbT : bootBuiltins T = some (.type Ts)) (ha : PB X W a ma) (hn : T ≠ "__name__" := by decide) (hd : (T == ("__debug__" : Str)) = false := by decide)
    (he : starEach (a :: [.Name T p2]) X.env = (false, eval a X.env) :: starEach [.Name T p2] X.env := by rfl) (he2 : starEach [.Name T p2] X.env = (false, eval (.Name T p2) X.env) :: starEach [] X.env := by rfl) (hpl : (backTo pos (starEach [.Name T p2] X.env)).any (·.1) = false := by rfl) :
    PD X W (.Call (.Name "isinstance" p) [a, .Name T p2] [] pos) (eU (dIsI Ts) ma) :=
  (pe_callB call_isi hg hm PyProof.Rows.boot_isinstance (pa_cons ha (pa_cons (pe_bltn hgT hmT hbT (v := .ty Ts) rfl hn hd) pa_nil he2) he) (by decide) (by decide) he hpl).wk fun σ H Q h => by
    show tW X.K X.mg W ma σ H fun x H1 => rIsi X.K [x, .ty Ts] H1 Q
    refine t_un (k := false) (f := dIsI Ts) (t := fun x H1 Q => rIsi X.K [x, .ty Ts] H1 Q) (fun d c z => by unfold dIsI at z; split at z <;> cases z) (fun H0 H x dx d s vx e Q kq => ?_) h
    have hd : ∀ es, dx ≠ .dict es := fun es z => by subst z; cases e
    have e2 : d = .bool (isT Ts dx) := by
      unfold dIsI at e
      split at e
      · cases e
      · cases e; rfl
    subst e2
    obtain ⟨ty, mem⟩ := tyX_of s vx hd
    exact ⟨x, .ty Ts, _, _, _, rfl, .ty Ts, ty, kit_ty (kit_tab _ mem _ hT), kq _ H0 H (Gr.refl s) (.bl _)⟩
/-! ### lists of truths, of numbers -/
def boolsOf : List D → Option (List Bool)
  | [] => some []
  | .bool b :: ds => (boolsOf ds).map (b :: ·)
  | _ :: _ => none
def intsOf : List D → Option (List Int)
  | [] => some []
  | .int b :: ds => (intsOf ds).map (b :: ·)
  | _ :: _ => none
theorem boolsOf_rp : ∀ {vs : List V} {ds : List D} {bs : List Bool}, RpA K H vs ds → boolsOf ds = some bs → vs = bs.map V.bl
  | _, _, _, .nil, h => by cases h; rfl
  | _, _, _, .cons (d := d) h r, q => by
    cases d with
    | bool b =>
      unfold boolsOf at q
      obtain ⟨r2, h1, h2⟩ := Option.map_eq_some_iff.mp q
      cases h
      rw [← h2, boolsOf_rp r h1]
      rfl
    | _ => cases q
theorem intsOf_rp : ∀ {vs : List V} {ds : List D} {bs : List Int}, RpA K H vs ds → intsOf ds = some bs → vs = bs.map V.int
  | _, _, _, .nil, h => by cases h; rfl
  | _, _, _, .cons (d := d) h r, q => by
    cases d with
    | int b =>
      unfold intsOf at q
      obtain ⟨r2, h1, h2⟩ := Option.map_eq_some_iff.mp q
      cases h
      rw [← h2, intsOf_rp r h1]
      rfl
    | _ => cases q
@[simp] theorem boolsOf_map (bs : List Bool) : boolsOf (bs.map PyData.bool) = some bs := by
  induction bs with
  | nil => rfl
  | cons b bs ih => simp [boolsOf, ih]
@[simp] theorem intsOf_map (bs : List Int) : intsOf (bs.map PyData.int) = some bs := by
  induction bs with
  | nil => rfl
  | cons b bs ih => simp [intsOf, ih]
def dAll : List D → R D
  | [.list ds] => match boolsOf ds with
    | some bs => .ok (.bool (bs.all id))
    | none => .bad
  | _ => .bad
theorem cd_all (hc : X.calm = true) : CalD false X (.builtin "all") dAll := ⟨_, cr_all hc, fun H0 H xs ds d s va e Q kq => by
  unfold dAll at e
  split at e
  · split at e
    · rename_i bs hb
      cases e
      obtain ⟨v, rfl, vx⟩ := va.one'
      obtain ⟨a, ys, rfl, ha, r⟩ := vx.lst s
      have := boolsOf_rp r hb
      subst this
      exact ⟨a, bs, rfl, SqL.of ha, kq _ H0 H (Gr.refl s) (.bl _)⟩
    · cases e
  · cases e⟩
theorem cm_all : Calm1 dAll := fun ds c h => by
  unfold dAll at h
  repeat' first
    | cases h
    | split at h
def dSum : List D → R D
  | [.list ds] => match intsOf ds with
    | some bs => .ok (.int bs.sum)
    | none => .bad
  | _ => .bad
theorem cd_sum (hc : X.calm = true) : CalD false X (.builtin "sum") dSum := ⟨_, cr_sum hc, fun H0 H xs ds d s va e Q kq => by
  unfold dSum at e
  split at e
  · split at e
    · rename_i bs hb
      cases e
      obtain ⟨v, rfl, vx⟩ := va.one'
      obtain ⟨a, ys, rfl, ha, r⟩ := vx.lst s
      have := intsOf_rp r hb
      subst this
      exact ⟨a, bs, rfl, SqL.of ha, kq _ H0 H (Gr.refl s) (.int _)⟩
    · cases e
  · cases e⟩
theorem cm_sum : Calm1 dSum := fun ds c h => by
  unfold dSum at h
  repeat' first
    | cases h
    | split at h
def maxL : List Int → Option Int
  | [] => none
  | x :: xs => some (xs.foldl (fun a b => if a < b then b else a) x)
def minL : List Int → Option Int
  | [] => none
  | x :: xs => some (xs.foldl (fun a b => if b < a then b else a) x)
theorem maxL_of : ∀ (xs : List Int) (x m : Int), m ∈ x :: xs → (∀ y ∈ x :: xs, y ≤ m) → xs.foldl (fun a b => if a < b then b else a) x = m
  | [], x, m, h, _ => by simp at h; exact h.symm
  | y :: xs, x, m, h, k => by
    show xs.foldl _ (if x < y then y else x) = m
    have k1 := k x (by simp)
    have k2 := k y (by simp)
    refine maxL_of xs _ m ?_ fun z hz => ?_
    · simp only [List.mem_cons] at h ⊢
      rcases h with h | h | h
      · left; split <;> omega
      · left; split <;> omega
      · exact .inr h
    · simp only [List.mem_cons] at hz
      rcases hz with hz | hz
      · rw [hz]; split <;> omega
      · exact k z (by simp [hz])
theorem minL_of : ∀ (xs : List Int) (x m : Int), m ∈ x :: xs → (∀ y ∈ x :: xs, m ≤ y) → xs.foldl (fun a b => if b < a then b else a) x = m
  | [], x, m, h, _ => by simp at h; exact h.symm
  | y :: xs, x, m, h, k => by
    show xs.foldl _ (if y < x then y else x) = m
    have k1 := k x (by simp)
    have k2 := k y (by simp)
    refine minL_of xs _ m ?_ fun z hz => ?_
    · simp only [List.mem_cons] at h ⊢
      rcases h with h | h | h
      · left; split <;> omega
      · left; split <;> omega
      · exact .inr h
    · simp only [List.mem_cons] at hz
      rcases hz with hz | hz
      · rw [hz]; split <;> omega
      · exact k z (by simp [hz])
def dMin : List D → R D
  | [.list ds] => match (intsOf ds).bind minL with
    | some m => .ok (.int m)
    | none => .bad
  | [.int i, .int j] => .ok (.int (if j < i then j else i))
  | _ => .bad
def dMax : List D → R D
  | [.list ds] => match (intsOf ds).bind maxL with
    | some m => .ok (.int m)
    | none => .bad
  | [.int i, .int j] => .ok (.int (if j > i then j else i))
  | _ => .bad
theorem cd_min (hc : X.calm = true) : CalD false X (.builtin "min") dMin := ⟨_, (cr_min hc).or (call_min2 hc), fun H0 H xs ds d s va e Q kq => by
  unfold dMin at e
  split at e
  · split at e
    · rename_i m hb
      cases e
      obtain ⟨v, rfl, vx⟩ := va.one'
      obtain ⟨a, ys, rfl, ha, r⟩ := vx.lst s
      obtain ⟨ns, h1, h2⟩ := Option.bind_eq_some_iff.mp hb
      have := intsOf_rp r h1
      subst this
      refine .inl ⟨a, ns, rfl, SqL.of ha, ?_, fun m' h3 h4 => ?_⟩
      · cases ns with
        | nil => cases h2
        | cons x xs => simp
      · cases ns with
        | nil => cases h2
        | cons x xs =>
          have := minL_of xs x m' h3 h4
          have h2' : some _ = some m := h2
          rw [this] at h2'
          cases h2'
          exact kq _ H0 H (Gr.refl s) (.int _)
    · cases e
  · cases e
    obtain ⟨v, w, rfl, vx, vy⟩ := va.two
    exact .inr ⟨_, _, by rw [vx.int, vy.int], kq _ H0 H (Gr.refl s) (.int _)⟩
  · cases e⟩
theorem cd_max (hc : X.calm = true) : CalD false X (.builtin "max") dMax := ⟨_, (cr_max hc).or (call_max2 hc), fun H0 H xs ds d s va e Q kq => by
  unfold dMax at e
  split at e
  · split at e
    · rename_i m hb
      cases e
      obtain ⟨v, rfl, vx⟩ := va.one'
      obtain ⟨a, ys, rfl, ha, r⟩ := vx.lst s
      obtain ⟨ns, h1, h2⟩ := Option.bind_eq_some_iff.mp hb
      have := intsOf_rp r h1
      subst this
      refine .inl ⟨a, ns, rfl, SqL.of ha, ?_, fun m' h3 h4 => ?_⟩
      · cases ns with
        | nil => cases h2
        | cons x xs => simp
      · cases ns with
        | nil => cases h2
        | cons x xs =>
          have := maxL_of xs x m' h3 h4
          have h2' : some _ = some m := h2
          rw [this] at h2'
          cases h2'
          exact kq _ H0 H (Gr.refl s) (.int _)
    · cases e
  · cases e
    obtain ⟨v, w, rfl, vx, vy⟩ := va.two
    exact .inr ⟨_, _, by rw [vx.int, vy.int], kq _ H0 H (Gr.refl s) (.int _)⟩
  · cases e⟩
theorem cm_min : Calm1 dMin := fun ds c h => by
  unfold dMin at h
  repeat' first
    | cases h
    | split at h
theorem cm_max : Calm1 dMax := fun ds c h => by
  unfold dMax at h
  repeat' first
    | cases h
    | split at h
/-! ### tuple(..), list(..), int(..), abs, str -/
def dTupOf : List D → R D
  | [.list ds] => .ok (.tuple ds)
  | [.tuple ds] => .ok (.tuple ds)
  | _ => .bad
theorem cd_tup : CalD false X (.type "tuple") dTupOf := ⟨_, call_tuple_of, fun H0 H xs ds d s va e Q kq => by
  unfold dTupOf at e
  split at e
  · cases e
    obtain ⟨v, rfl, vx⟩ := va.one'
    obtain ⟨a, ys, rfl, ha, r⟩ := vx.lst s
    exact ⟨a, ys, rfl, .inl ⟨SqL.of ha, fun l hl => kq.newT s r hl⟩⟩
  · cases e
    obtain ⟨v, rfl, vx⟩ := va.one'
    obtain ⟨a, ys, rfl, h0, ha, r⟩ := vx.tup s
    exact ⟨a, ys, rfl, .inr ⟨SqT.of ha, kq _ H0 H (Gr.refl s) (.tup h0 r)⟩⟩
  · cases e⟩
theorem cm_tup : Calm1 dTupOf := fun ds c h => by
  unfold dTupOf at h
  repeat' first
    | cases h
    | split at h
def dLstOf : List D → R D
  | [.list ds] => .ok (.list ds)
  | [.tuple ds] => .ok (.list ds)
  | _ => .bad
theorem cd_lst : CalD true X (.type "list") dLstOf := ⟨_, call_list_of, fun H0 H xs ds d s va e Q kq => by
  unfold dLstOf at e
  split at e
  · cases e
    obtain ⟨v, rfl, vx⟩ := va.one'
    obtain ⟨a, ys, rfl, ha, r⟩ := vx.lst s
    exact ⟨a, ys, rfl, .inl (SqL.of ha), fun l hl => kq.newL s r hl⟩
  · cases e
    obtain ⟨v, rfl, vx⟩ := va.one'
    obtain ⟨a, ys, rfl, h0, ha, r⟩ := vx.tup s
    exact ⟨a, ys, rfl, .inr (SqT.of ha), fun l hl => kq.newL s r hl⟩
  · cases e⟩
theorem cm_lst : Calm1 dLstOf := fun ds c h => by
  unfold dLstOf at h
  repeat' first
    | cases h
    | split at h
def dInt : List D → R D
  | [.int i] => .ok (.int i)
  | [.bool b] => .ok (.int (if b then 1 else 0))
  | [.str x] => match PySem.intText? x with
    | some n => if decide (x.length ≤ 640) = true then .ok (.int n) else .bad
    | none => .bad
  | _ => .bad
theorem cd_int : CalD false X (.type "int") dInt := ⟨_, call_int1.or call_int_str, fun H0 H xs ds d s va e Q kq => by
  unfold dInt at e
  split at e
  · cases e
    obtain ⟨v, rfl, vx⟩ := va.one'
    exact .inl (.inl ⟨_, by rw [vx.int], kq _ H0 H (Gr.refl s) (.int _)⟩)
  · cases e
    obtain ⟨v, rfl, vx⟩ := va.one'
    exact .inl (.inr ⟨_, by rw [vx.bl], kq _ H0 H (Gr.refl s) (.int _)⟩)
  · split at e
    · rename_i n hn
      split at e
      · rename_i hl
        cases e
        obtain ⟨v, rfl, vx⟩ := va.one'
        exact .inr ⟨_, n, by rw [vx.str], hn, of_decide_eq_true hl, kq _ H0 H (Gr.refl s) (.int _)⟩
      · cases e
    · cases e
  · cases e⟩
theorem cm_int : Calm1 dInt := fun ds c h => by
  unfold dInt at h
  repeat' first
    | cases h
    | split at h
def dAbs : List D → R D
  | [.int i] => .ok (.int (if i < 0 then -i else i))
  | _ => .bad
theorem cd_abs : CalD false X (.builtin "abs") dAbs := ⟨_, call_abs, fun H0 H xs ds d s va e Q kq => by
  unfold dAbs at e
  split at e
  · cases e
    obtain ⟨v, rfl, vx⟩ := va.one'
    exact ⟨_, by rw [vx.int], kq _ H0 H (Gr.refl s) (.int _)⟩
  · cases e⟩
theorem cm_abs : Calm1 dAbs := fun ds c h => by
  unfold dAbs at h
  repeat' first
    | cases h
    | split at h
def dStr : List D → R D
  | [.int i] => if decide (i.natAbs.log2 < 1920) = true then .ok (.str (toString i)) else .bad
  | _ => .bad
theorem cd_str : CalD false X (.type "str") dStr := ⟨_, call_str_int, fun H0 H xs ds d s va e Q kq => by
  unfold dStr at e
  split at e
  · split at e
    · rename_i h
      cases e
      obtain ⟨v, rfl, vx⟩ := va.one'
      exact ⟨_, by rw [vx.int], of_decide_eq_true h, kq _ H0 H (Gr.refl s) (.str _)⟩
    · cases e
  · cases e⟩
theorem cm_str : Calm1 dStr := fun ds c h => by
  unfold dStr at h
  repeat' first
    | cases h
    | split at h
/-! ### slices -/
def cutL {α : Type} (xs : List α) (lo hi : Option Int) : List α := (xs.drop (HT.sIx xs.length 0 lo)).take (HT.sIx xs.length xs.length hi - HT.sIx xs.length 0 lo)
def dSl (d : D) (lo hi : Option Int) : R D := match d with
  | .list ds => .ok (.list (cutL ds lo hi))
  | .tuple ds => .ok (.tuple (cutL ds lo hi))
  | .str z => if szB z.length = true then .ok (.str (cutS z lo hi)) else .bad
  | _ => .bad
def dSlL (d : D) (lo hi : Option Int) : R D := match d with
  | .list ds => .ok (.list (cutL ds lo hi))
  | _ => .bad
theorem RpA.cut {vs : List V} {ds : List D} (r : RpA K H vs ds) (lo hi : Option Int) : RpA K H (cutV vs lo hi) (cutL ds lo hi) := by
  unfold cutV cutL
  rw [r.length]
  exact (r.drop _).take _
def SlD (k : Bool) (X : Cx) (f : D → Option Int → Option Int → R D) : Prop := ∃ r, SlR X r ∧ ∀ H0 H x dx lo hi d, Ex H0 H → Vx X.K H0 H x dx → f dx lo hi = .ok d → ∀ Q, Kq k X.K H0 H d Q → r x lo hi H Q
theorem sl_any : SlD false X dSl := ⟨_, sl_list.or (sl_tupA.or sl_str), fun H0 H x dx lo hi d s vx e Q kq => by
  unfold dSl at e
  split at e
  · cases e
    obtain ⟨a, ys, rfl, ha, r⟩ := vx.lst s
    exact .inl ⟨a, ys, rfl, SqL.of ha, fun p hp => (Kq.own kq).newL s (r.cut lo hi) hp⟩
  · cases e
    obtain ⟨a, ys, rfl, h0, ha, r⟩ := vx.tup s
    refine .inr (.inl ⟨a, ys, rfl, SqT.of ha, fun z => ?_, fun _ p hp => kq.newT s (r.cut lo hi) hp⟩)
    refine kq _ H0 H (Gr.refl s) (.tup h0 ?_)
    have q := r.cut lo hi
    unfold cutV at q
    rw [z.1, z.2] at q
    simpa using q
  · split at e
    · rename_i hz
      cases e
      exact .inr (.inr ⟨_, vx.str, szB_ok hz, kq _ H0 H (Gr.refl s) (.str _)⟩)
    · cases e
  · cases e⟩
theorem sl_lst : SlD true X dSlL := ⟨_, sl_list, fun H0 H x dx lo hi d s vx e Q kq => by
  unfold dSlL at e
  split at e
  · cases e
    obtain ⟨a, ys, rfl, ha, r⟩ := vx.lst s
    exact ⟨a, ys, rfl, SqL.of ha, fun p hp => kq.newL s (r.cut lo hi) hp⟩
  · cases e⟩
abbrev DO := En → R (Option Int)
def tOi (K : Fr) (mg : Str → Option Value) (W : WX) (m : DO) : TO := fun σ H Q => ∃ B ρ H0, Rl K B ρ σ H0 H ∧ Out (m ρ) (fun i => ∀ H0' H', Gr H0 H H0' H' → Q i H') (fun c => ∀ H', Ex H H' → WC mg W c σ H')
abbrev POd (X : Cx) (W : WX) (e : Option Expr) (m : DO) : Prop := PO X e (tOi X.K X.mg W m)
theorem _root_.L2.PO.wk {X : Cx} {e : Option Expr} {t t' : TO} (h : PO X e t) (k : ∀ σ H Q, t' σ H Q → t σ H Q) : PO X e t' := ⟨fun pins s σ H Q I q => h.run pins s σ H Q I (k σ H Q q)⟩
def oNone : DO := fun _ => .ok none
def oSome (m : DE) : DO := fun ρ => (m ρ).bind fun d => match d with
  | .int i => .ok (some i)
  | _ => .bad
theorem pod_none : POd X W none oNone := po_none.wk fun σ H Q ⟨B, ρ, H0, r, o⟩ => o H0 H (Gr.refl r.s)
theorem pod_some (h : PD X W e m) : POd X W (some e) (oSome m) := (po_some h).wk fun σ H Q ⟨B, ρ, H0, r, o⟩ => by
  refine ⟨B, ρ, H0, r, ?_⟩
  unfold oSome at o
  cases hm : m ρ with
  | bad => rw [hm] at o; exact o
  | er c => rw [hm] at o; exact o
  | ok d =>
    rw [hm, R.bind_ok] at o
    split at o
    · intro v H1 H2 g rp
      cases rp
      exact ⟨_, rfl, o H1 H2 g⟩
    · exact o.elim
def eSl (f : D → Option Int → Option Int → R D) (ma : DE) (ml mh : DO) : DE := fun ρ => (ma ρ).bind fun x => (ml ρ).bind fun lo => (mh ρ).bind fun hi => f x lo hi
theorem pd_sl {k : Bool} {f : D → Option Int → Option Int → R D} {lo hi : Option Expr} {ml mh : DO} {p2 : Pos} (hs : SlD k X f) (cm : ∀ d l h c, f d l h ≠ .er c) (ha : PB X W a ma) (hl : POd X W lo ml) (hh : POd X W hi mh) : PE X (.Subscript a (.Slice lo hi none p2) pos) (tE k X.K X.mg W (eSl f ma ml mh)) := by
  obtain ⟨r, h1, h2⟩ := hs
  refine (pe_slice h1 ha hl hh).wk fun σ H Q ⟨B, ρ, H0, rl, o⟩ => ?_
  refine ⟨B, ρ, H0, rl, ?_⟩
  unfold eSl at o
  cases hm : ma ρ with
  | bad => rw [hm] at o; exact o
  | er c => rw [hm] at o; exact o
  | ok da =>
    rw [hm, R.bind_ok] at o
    intro x H1 H2 g1 vx
    refine ⟨B, ρ, H1, rl.grow g1, ?_⟩
    cases hm2 : ml ρ with
    | bad => rw [hm2] at o; exact o
    | er c => rw [hm2] at o; exact fun H' e => o H' (g1.e.trans e)
    | ok l =>
      rw [hm2, R.bind_ok] at o
      intro H3 H4 g2
      refine ⟨B, ρ, H3, (rl.grow g1).grow g2, ?_⟩
      cases hm3 : mh ρ with
      | bad => rw [hm3] at o; exact o
      | er c => rw [hm3] at o; exact fun H' e => o H' ((g1.trans g2).e.trans e)
      | ok h =>
        rw [hm3, R.bind_ok] at o
        intro H5 H6 g3
        have rl3 := ((rl.grow g1).grow g2).grow g3
        cases hf : f da l h with
        | bad => rw [hf] at o; exact o.elim
        | er c => exact absurd hf (cm _ _ _ _)
        | ok d =>
          rw [hf] at o
          exact h2 H5 H6 x da l h d rl3.s (Vw.vx rl3 (vx.mono (g2.trans g3).e0)) hf Q (Kq.grow o ((g1.trans g2).trans g3))
theorem cm_sl : ∀ d l h c, dSl d l h ≠ .er c := fun d l h c z => by
  unfold dSl at z
  repeat' first
    | cases z
    | split at z
theorem cm_slL : ∀ d l h c, dSlL d l h ≠ .er c := fun d l h c z => by
  unfold dSlL at z
  repeat' first
    | cases z
    | split at z
end
end Fc
set_option Elab.async false
set_option linter.all false
set_option maxRecDepth 100000
set_option maxHeartbeats 2000000
namespace Fc
open PySem L2 Evl PySem.Spec PyProof.Rows
/-- facts of exception classes -/
inductive Fx where
  | exc (x : Str)
  | kit (x y : Str) (b : Bool)
  | kitT (x : Str) (T : String) (b : Bool)
def Fx.ok (K : Fr) : Fx → Bool
  | .exc x => He.eqO (PySem.W.findIn K (.ref (He.ga K x)) "__getattribute__") (some (some (.builtin "BaseException.__getattribute__"))) && (He.eqO (PySem.W.findIn K (.ref (He.ga K x)) "__getattr__") (some none) && (decide (PySem.W.subIn K (.ref (He.ga K x)) (.type "BaseException") = some true) &&
    (PySem.W.hasDictIn K (He.ga K x) && (He.eqO (PySem.W.findIn K (.ref (He.ga K x)) "__class__") (some (some (.builtin "object.__class__"))) && (He.eqO (PySem.W.specialIn K (.builtin "object.__class__") "__get__") (some (some (.builtin "getset_descriptor.__get__"))) &&
    (decide (PySem.W.takesIn K (.builtin "object.__class__") = some true) && decide (PySem.W.mroIn K (He.ga K x) (.type "object") = some true)))))))
  | .kit x y b => decide (PySem.W.kitOne K (.ref (He.ga K x)) (.ref (He.ga K y)) = some b)
  | .kitT x T b => decide (PySem.W.kitOne K (.ref (He.ga K x)) (.type T) = some b)
theorem Fx.exc_ok {K : Fr} {x : Str} (h : (Fx.exc x).ok K = true) : ExcC K (He.ga K x) := by
  obtain ⟨h1, h⟩ := He.ba h
  obtain ⟨h2, h⟩ := He.ba h
  obtain ⟨h3, h⟩ := He.ba h
  obtain ⟨h4, h⟩ := He.ba h
  obtain ⟨h5, h⟩ := He.ba h
  obtain ⟨h6, h⟩ := He.ba h
  obtain ⟨h7, h8⟩ := He.ba h
  exact ⟨He.eqO_ok h1, He.eqO_ok h2, of_decide_eq_true h3, h4, He.eqO_ok h5, He.eqO_ok h6, of_decide_eq_true h7, of_decide_eq_true h8⟩
def obsX (fa : List He.Fa) (fn : List He.DefD) (fx : List Fx) (K : Fr) : He.AlD × Bool := (He.obsD fa fn K, fx.all fun p => p.ok K)
def obsXG (n : Nat) (fa : List He.Fa) (fn : List He.DefD) (fx : List Fx) (g : Addr → Option Obj) : He.AlD × Bool := obsX fa fn fx (He.frG g (He.asD g n))
def hookX (n : Nat) (fa : List He.Fa) (fn : List He.DefD) (fx : List Fx) : PySem.W.Hook where
  α := He.AlD × Bool
  obs := fun s => obsXG n fa fn fx s.heap.get?
  val := fun _ => (He.valD fn, true)
  says := fun _ h => ∃ K : Fr, K.In h ∧ He.SaysD fa fn K ∧ (fx.all fun p => p.ok K) = true
  of := fun _ _ e => ⟨_, He.frG_in, congrArg (fun z : He.AlD × Bool => z.1) e, congrArg (fun z : He.AlD × Bool => z.2) e⟩
  keeps := fun _ _ _ ⟨K, hK, c⟩ k => ⟨K, PySem.W.Frag.In.keeps hK k, c⟩
theorem obsXG_eq {n : Nat} {fa : List He.Fa} {fn : List He.DefD} {fx : List Fx} {g : Addr → Option Obj} {s : Shared} (h : ∀ a, g a = s.heap.get? a) : obsXG n fa fn fx g = (hookX n fa fn fx).obs s := by
  have e : g = s.heap.get? := funext h
  rw [e] <;> rfl
/-- what the head tells -/
def Cc (fa : List He.Fa) (fn : List He.DefD) (fx : List Fx) (K : Fr) (mg : Str → Option Value) : Prop := ∃ h : Heap, K.In h ∧ h.Ns mainGlobals mg ∧ He.SaysD fa fn K ∧ (fx.all fun p => p.ok K) = true
section
variable {fa : List He.Fa} {fn : List He.DefD} {fx : List Fx} {K : Fr} {mg : Str → Option Value}
theorem Cc.glo (c : Cc fa fn fx K mg) (i : Nat) {x : Str} (h : fa[i]? = some (.glo x) := by rfl) : mg x = some (.ref (He.ga K x)) := by
  obtain ⟨hp, X, G, s, _⟩ := c
  exact He.glo_ok X G (s.fact i h)
theorem Cc.free (c : Cc fa fn fx K mg) (i : Nat) {x : Str} (h : fa[i]? = some (.free x) := by rfl) : mg x = none := by
  obtain ⟨hp, X, G, s, _⟩ := c
  exact He.free_ok X G (s.fact i h)
theorem Cc.int (c : Cc fa fn fx K mg) (i : Nat) {x : Str} {n : Int} (h : fa[i]? = some (.int x n) := by rfl) : ∃ t, mg x = some (.int n t) := by
  obtain ⟨hp, X, G, s, _⟩ := c
  exact He.int_ok X G (s.fact i h)
theorem Cc.str (c : Cc fa fn fx K mg) (i : Nat) {x z : Str} (h : fa[i]? = some (.str x z) := by rfl) : ∃ t, mg x = some (.str z t) := by
  obtain ⟨hp, X, G, s, _⟩ := c
  exact He.str_ok X G (s.fact i h)
theorem Cc.exc (c : Cc fa fn fx K mg) (i j : Nat) {x : Str} (h : fa[i]? = some (.exc x) := by rfl) (hj : fa[j]? = some (.glo x) := by rfl) : ExcF K mg x (He.ga K x) := by
  have g := c.glo j hj
  obtain ⟨hp, X, G, s, _⟩ := c
  obtain ⟨q, k, s1, t⟩ := He.exc_ok (s.fact i h)
  exact ⟨g, ⟨_, _, _, _, PySem.F.excBase_ValueError, q⟩, k, s1, t⟩
theorem Cc.exm (c : Cc fa fn fx K mg) (i : Nat) {x y : Str} {b : Bool} (h : fa[i]? = some (.exm x y b) := by rfl) : PySem.W.exmOne K (.ref (He.ga K x)) (.ref (He.ga K y)) = some b := by
  obtain ⟨hp, X, G, s, _⟩ := c
  exact He.exm_ok (s.fact i h)
theorem Cc.def_ (c : Cc fa fn fx K mg) (i : Nat) {d : He.DefD} (h : fn[i]? = some d := by rfl) : ∃ fd, FunD K d.name d.qual d.params d.body d.scope (d.dvs K) (d.kws K) (He.fAd K d.at_) fd := by
  obtain ⟨hp, X, G, s, _⟩ := c
  exact s.def_ i h
theorem Cc.fxo (c : Cc fa fn fx K mg) (i : Nat) {p : Fx} (h : fx[i]? = some p := by rfl) : p.ok K = true := by
  obtain ⟨hp, X, G, s, q⟩ := c
  exact List.all_eq_true.mp q p (List.mem_of_getElem? h)
theorem Cc.kit (c : Cc fa fn fx K mg) (i : Nat) {x y : Str} {b : Bool} (h : fx[i]? = some (.kit x y b) := by rfl) : PySem.W.kitOne K (.ref (He.ga K x)) (.ref (He.ga K y)) = some b := of_decide_eq_true (c.fxo i h)
theorem Cc.kitT (c : Cc fa fn fx K mg) (i : Nat) {x : Str} {T : String} {b : Bool} (h : fx[i]? = some (.kitT x T b) := by rfl) : PySem.W.kitOne K (.ref (He.ga K x)) (.type T) = some b := of_decide_eq_true (c.fxo i h)
theorem Cc.excC (c : Cc fa fn fx K mg) (i : Nat) {x : Str} (h : fx[i]? = some (.exc x) := by rfl) : ExcC K (He.ga K x) := Fx.exc_ok (c.fxo i h)
/-- a def that keeps its promise, as callers take it -/
def OkF (P : Program) (w : World) (K : Fr) (mg : Str → Option Value) (base : Heap) (k : Nat) (x : Str) (ps : List Str) (g : List D → R D) : Prop :=
  ∃ fd, FnD P w K mg base k (He.ga K x) fd ps g ∧ Binds K fd ps [] ∧ mg x = some (.ref (He.ga K x)) ∧ PySem.W.keepIn K (.ref (He.ga K x)) = true
end
section
variable {X : Cx} {W : WX} {e : Expr} {es : List Expr} {pos p : Pos} {k : Nat} {x : Str} {ps : List Str} {g : List D → R D} {ms : DA}
theorem pd_ok (G : OkF X.prog X.w X.K X.mg X.base k x ps g) (tk : Takes X W) (hr : Room k X.A) (hg : Gl X x) (hlen : ∀ ρ ds, ms ρ = .ok ds → ds.length = ps.length) (ha : PAf X W (e :: es) ms) (hdb : (x == ("__debug__" : Str)) = false := by decide)
    (he : starEach (e :: es) X.env = (false, eval e X.env) :: starEach es X.env := by rfl) (hpl : (backTo pos (starEach es X.env)).any (·.1) = false := by rfl) : PD X W (.Call (.Name x p) (e :: es) [] pos) (eDef g ms) := by
  obtain ⟨fd, F, b, m, kp⟩ := G
  exact pd_def F tk hr hg m kp b hlen ha hdb he hpl
theorem pd_ok0 (G : OkF X.prog X.w X.K X.mg X.base k x [] g) (tk : Takes X W) (hr : Room k X.A) (hg : Gl X x) (hdb : (x == ("__debug__" : Str)) = false := by decide) : PD X W (.Call (.Name x p) [] [] pos) (eDef g aNil) := by
  obtain ⟨fd, F, b, m, kp⟩ := G
  exact pd_def0 F tk hr hg m kp b rfl hdb
end
end Fc
set_option Elab.async false
set_option linter.all false
set_option maxRecDepth 100000
set_option maxHeartbeats 2000000
namespace Fc
open PySem L2 Evl PySem.Spec PyProof.Rows
/-! ### enumerate(tuple) -/
theorem meets_enum1 {v : Value} {o : Obj} {H : Heap → Prop} (B : Begins v o H) :
    Meets (Builtin.«enumerate.__new__» ⟨[.type "enumerate", v], []⟩) (fun _ R s => H s.heap ∧
      R (.ok (.ret (.ref (s.heap.push o).objs.size))) { s with heap := (s.heap.push o).push { cls := .type "enumerate", data := .fields #[.none, .bool false, .ref s.heap.objs.size, rawInt 0, .none, .none] } }) :=
  .of_wp fun prog w A R s h => by
    obtain ⟨hp, g, d, tk, os⟩ := s
    obtain ⟨h1, h⟩ := h
    have hsub := sub_enumerate
    have q1 : ∀ {A' : Around} {E : Value → Shared → Prop} {Q : Value → Shared → Prop}, Q (.ref hp.objs.size) ⟨hp.push o, g, d, tk, os⟩ → wpAny (model prog w) A' (pyIter v) Q E ⟨hp, g, d, tk, os⟩ :=
      fun q => B.iter prog w _ _ ⟨hp, g, d, tk, os⟩ _ h1 q
    wp_walk using q1
    refine wpAny_stack_any fun st => wpAny_pure ?_
    split
    · rename_i c _ _ _ _ _
      cases (c == Value.type "enumerate")
      · wp_walk using q1
        exact ⟨_, rfl, h⟩
      · wp_walk using q1
        exact ⟨_, rfl, h⟩
    · wp_walk using q1
      exact ⟨_, rfl, h⟩
section
variable {prog : Program} {w : World} {A : Around} {E : Value → Shared → Prop} {s : Shared}
theorem call_enumT {l : Addr} {items : Array Value} {Q : Value → Shared → Prop} (hL : s.heap.IsTuple l items)
    (h : ∀ h', IsEnum h' (s.heap.objs.size + 1) s.heap.objs.size 0 .none → h'.IsTupleIter s.heap.objs.size l 0 → h'.objs.size = s.heap.objs.size + 2 →
      (∀ b o, s.heap.get? b = some o → h'.get? b = some o) → Q (.ref (s.heap.objs.size + 1)) { s with heap := h' }) :
    wpAny (model prog w) A (call (.type "enumerate") [.ref l]) Q E s := by
  refine callType_new F.called_enumerate (by decide) (F.typeCall_enumerate_1 _) (F.newCall_enumerate_1 _) (fun obj => F.args_object_init_2 obj _) F.entry_enumerate_new
    (meets_enum1 (begins_tuple l items)) ⟨hL, ?_⟩
  have hz : (s.heap.push { cls := .type "tuple_iterator", data := .fields #[.ref l, .int 0 0] }).objs.size = s.heap.objs.size + 1 := Heap.size_push ..
  show _ ∧ _
  rw [hz]
  have he : IsEnum ((s.heap.push { cls := .type "tuple_iterator", data := .fields #[.ref l, .int 0 0] }).push
      { cls := .type "enumerate", data := .fields #[.none, .bool false, .ref s.heap.objs.size, rawInt 0, .none, .none] }) (s.heap.objs.size + 1) s.heap.objs.size 0 .none := by
    have := Heap.get?_push_size (s.heap.push { cls := .type "tuple_iterator", data := .fields #[.ref l, .int 0 0] })
      (o := { cls := .type "enumerate", data := .fields #[.none, .bool false, .ref s.heap.objs.size, rawInt 0, .none, .none] }) rfl
    rw [hz] at this
    exact this
  exact ⟨⟨_, he, rfl⟩, h _ he ⟨_, Heap.get?_push_of_some _ (Heap.get?_push_size _ rfl), rfl, rfl⟩ (by rw [Heap.size_push, hz]) fun b o x => Heap.get?_push_of_some _ (Heap.get?_push_of_some _ x)⟩
end
def IteT (K : Fr) (a : Addr) : It :=
  ⟨fun i H => ∃ (xs : List V) (x : V), SqT K H a xs ∧ xs[i]? = some x, fun i H v H' => ∃ T x, v = .ref T ∧ H T = none ∧ H' = upd H T (.tup [.int (i : Nat), x]) ∧ ∀ xs, SqT K H a xs → xs[i]? = some x, fun i H => ∃ xs : List V, SqT K H a xs ∧ xs.length ≤ i⟩
theorem turn_enumT {P : Program} {w : World} {K : Fr} {elts : List Expr} {kk : Nat} {tpos : Pos} (a e it : Addr) (hae : a ≠ e) (hai : a ≠ it) :
    Turn P w K (.Tuple elts kk tpos) (IteT K a) [e, it] e (fun i h => (∃ old, IsEnum h e it ((i : Nat) : Int) old) ∧ h.IsTupleIter it a i ∧ e ≠ it) where
  mem := by simp
  obj := fun i h st b hb => by
    obtain ⟨⟨old, he⟩, ⟨o, ho, hc, hd⟩, _⟩ := st
    have e' : b = e ∨ b = it := by simpa using hb
    rcases e' with z | z
    · rw [z]; exact ⟨_, he, fun v q => nomatch q⟩
    · rw [z]; exact ⟨o, ho, fun v q => by rw [hd] at q; cases q⟩
  keep := fun i h h' st k => let ⟨⟨old, he⟩, hi, hne⟩ := st; ⟨⟨old, k e (by simp) _ he⟩, hi.at fun o q => k it (by simp) o q, hne⟩
  item := by
    intro X hP hw hK hc i pins s σ H E I hf st hg
    subst hP hw hK
    obtain ⟨⟨old, he⟩, hit, hne⟩ := st
    obtain ⟨xs, x, hq, hx⟩ := hg
    obtain ⟨its, rv, p, hz⟩ := I.tuple hq
    obtain ⟨u, hu, ru⟩ := rv.get hx
    have hel : e < s.heap.objs.size := Heap.lt_size he
    have hil : it < s.heap.objs.size := by obtain ⟨_, q, _⟩ := hit; exact Heap.lt_size q
    have hi : i < its.toArray.size := by
      have := (List.getElem?_eq_some_iff.mp hu).1
      simpa using this
    have hef : e ∉ [it, a] := by simp [hne, Ne.symm hae]
    have hd : X.A.in1.handled = none := I.ok.hd hc
    refine wpAny_pyNext_enum_itemD (Draws.tuple (prog := X.prog) (w := X.w) (A := X.A.in1) hd it a hai its.toArray) he ⟨hit, p⟩ hi hne hef fun v h' tk hv ho hst hT hsz hk => ?_
    have hv : its.toArray[i]? = some v := hv
    have hvu : v = u := by
      have h1 : its[i]? = some v := by simpa using hv
      rw [h1] at hu
      exact Option.some.inj hu
    subst hvu
    refine ⟨_, rfl, wpAny_letOwnedTupleGo_enum (s := { s with heap := h', toks := tk + 1 }) ho fun h'' he' sb => ?_⟩
    have hT2 : h''.get? s.heap.objs.size = some { cls := .type "tuple", data := .seq #[.int i tk, v] } := (sb.2 _ (Nat.ne_of_gt hel)).trans hT
    have new : ObjOk X.prog X.w (upd H s.heap.objs.size (.tup [.int (i : Nat), x])) h'' s.heap.objs.size (.tup [.int (i : Nat), x]) :=
      ⟨by show 2 ≤ sizeLine; decide, [.int i tk, v], .cons ⟨_, rfl⟩ (.cons ru .nil), ⟨_, hT2, rfl, _, rfl⟩⟩
    have I1 : Inv X pins σ (upd H s.heap.objs.size (.tup [.int (i : Nat), x])) { s with heap := h'', toks := tk + 1 } :=
      I.turnedNew (ch := [e, it]) (fun b ob hb q => (sb.2 b (fun z => hb (by simp [z]))).trans (hk b ob (fun z => hb (by simp [z])) (fun z => hb (by simp [z])) q)) hf (Nat.le_refl _) new
    refine ⟨.ref s.heap.objs.size, _, I1, rfl, ⟨_, x, rfl, I.hok.fresh (Nat.le_refl _), rfl, fun ys hy => by rw [I.tuple_inj hy hq]; exact hx⟩, ⟨⟨v, ?_⟩, hst.1.at fun o q => (sb.2 it (Ne.symm hne)).trans q, hne⟩, fun b hb => ?_⟩
    · have e1 : ((i + 1 : Nat) : Int) = (i : Int) + 1 := by omega
      rw [e1]; exact he'
    · have hb' : b < s.heap.objs.size := by
        have e' : b = e ∨ b = it := by simpa using hb
        rcases e' with z | z
        · rw [z]; exact hel
        · rw [z]; exact hil
      rw [upd_ne (Nat.ne_of_lt hb')]
      exact (hf b hb).1
  done := by
    intro X hP hw hK hc i pins s σ H E I hf st hg
    subst hP hw hK
    obtain ⟨⟨old, he⟩, hit, hne⟩ := st
    obtain ⟨xs, hq, hx⟩ := hg
    obtain ⟨its, rv, p, hz⟩ := I.tuple hq
    obtain ⟨f0, f1, f2, f3, f4, f5⟩ := hf it (by simp)
    have hl := rv.length
    have hT : s.TypeIs (.ref e) "enumerate" := ⟨_, he, rfl⟩
    unfold pyNext
    refine wpAny_bind (wpAny_attempt (wpAny_callSpecial?_slot (name := Str.ofString "__next__") hT F.slot_enumerate_next
      (wpAny_call_entry F.slot_enumerate_next hT F.entry_enumerate_next ?_ (F.args_enumerate_next_1 _))))
    show wpAny _ _ (field (.ref e) 2 >>= _) _ _ _
    refine wpAny_bind (wpAny_field he rfl (x := .ref it) rfl ?_)
    refine wpAny_bind (wpAny_nextOf_tuple_end (items := its.toArray) (i := i) (I.ok.hd hc) hit p (by simp; omega) fun h' x he' hx' => ?_)
    obtain ⟨o, ho, hc'⟩ := hx'
    refine wpAny_bind (wpAny_isInstance (T := "StopIteration") (b := true) ⟨o, ho, hc'⟩ isSubtype_stop ?_)
    exact wpAny_pure ⟨rfl, I.turned (t' := s.toks) (fun b o hb q => he' b o hb q) f0 f1 f3 f4 f5⟩
  self := fun A i s Q E st h => let ⟨⟨_, he⟩, _⟩ := st; wpAny_pyIter_enum he h
def iEnumT (K : Fr) (ta : TA) : TI := fun σ H R => ta σ H fun vs H1 => ∃ a xs, vs = [.ref a] ∧ SqT K H1 a xs ∧ R (IteT K a) H1
theorem pi_enumT {X : Cx} {e : Expr} {ta : TA} {p pos tpos : Pos} {elts : List Expr} {kk : Nat} (hg : Gl X "enumerate") (hm : X.mg "enumerate" = none) (ha : PA X [e] ta) (hs : starEach [e] X.env = [(false, eval e X.env)] := by rfl) :
    PI X (.Tuple elts kk tpos) (.Call (.Name "enumerate" p) [e] [] pos) (iEnumT X.K ta) := by
  refine ⟨fun pins s σ H R I h => ?_⟩
  refine Call_ (ld_blt I hg hm boot_enumerate (PyProof.Rows.callWith_type1 (thn (ha.run pos pins s σ H _ I h) fun us s1 ⟨vs, H1, I1, r1, q1⟩ => ?_) hs rfl))
  obtain ⟨a, xs, ex, hq, q⟩ := q1
  subst ex
  cases r1 with
  | cons r rr =>
    cases rr
    cases r
    obtain ⟨its, rv, p', hz⟩ := I1.tuple hq
    have hla : a < s1.heap.objs.size := by obtain ⟨o, ho, _⟩ := id p'; exact Heap.lt_size ho
    refine call_enumT (show s1.heap.IsTuple a its.toArray from p') fun h' he hit hsz hk => wpAny_pyIter_enum he ?_
    have I2 : Inv X pins σ H1 { s1 with heap := h' } := I1.kept (t' := s1.toks) hk
    refine ⟨s1.heap.objs.size + 1, [s1.heap.objs.size + 1, s1.heap.objs.size], _, _, H1, rfl, I2, turn_enumT a (s1.heap.objs.size + 1) s1.heap.objs.size (Nat.ne_of_lt (Nat.lt_succ_of_lt hla)) (Nat.ne_of_lt hla), ⟨⟨.none, he⟩, hit, Nat.succ_ne_self _⟩, fun b hb => ?_, q⟩
    have e' : b = s1.heap.objs.size + 1 ∨ b = s1.heap.objs.size := by simpa using hb
    have hle : s1.heap.objs.size ≤ b := by
      rcases e' with z | z
      · rw [z]; exact Nat.le_add_right _ _
      · rw [z]; exact Nat.le_refl _
    exact I1.fpOk hle (I1.hok.fresh hle)
/-! ### the iterators as data -/
section
variable {X : Cx} {W : WX} {e a b c o tg it elt : Expr} {es : List Expr} {m ma mb mc mt : DE} {pos : Pos}
variable {K : Fr} {mg : Str → Option Value} {B : Bs} {ρ : En} {σ : L2.St} {H0 H : Hp}
def enumD (i : Nat) : List D → List D
  | [] => []
  | d :: ds => .tuple [.int (i : Nat), d] :: enumD (i + 1) ds
theorem enumD_length : ∀ (ds : List D) (i : Nat), (enumD i ds).length = ds.length
  | [], _ => rfl
  | _ :: ds, i => congrArg (· + 1) (enumD_length ds (i + 1))
theorem enumD_get : ∀ (ds : List D) (i j : Nat) {d : D}, (enumD i ds)[j]? = some d → ∃ x, ds[j]? = some x ∧ d = .tuple [.int ((i + j : Nat) : Int), x]
  | [], _, _, _, h => by simp [enumD] at h
  | d :: ds, i, 0, _, h => by simp [enumD] at h; exact ⟨d, rfl, h.symm⟩
  | d :: ds, i, j + 1, _, h => by
    obtain ⟨x, h1, h2⟩ := enumD_get ds (i + 1) j (by simpa [enumD] using h)
    refine ⟨x, by simpa using h1, ?_⟩
    rw [h2, show i + 1 + j = i + (j + 1) by omega]
theorem itok_enum {a : Addr} {xs : List V} {ds : List D} (h : H0 a = some (.lst xs)) (rs : RpA K H0 xs ds) : ItOk K (Ite K a) H0 (enumD 0 ds) := fun i => ⟨fun H e hi => ⟨xs, SqL.of (e _ _ h), by rw [rs.length]; rw [enumD_length] at hi; exact hi⟩, fun H d e hd => by
  obtain ⟨x, h1, h2⟩ := enumD_get ds 0 i hd
  obtain ⟨v, h3, h4⟩ := rs.getD h1
  refine ⟨⟨xs, v, SqL.of (e _ _ h), h3⟩, fun x' H' y => .inr (.inl ?_)⟩
  obtain ⟨T, x2, y1, y2, y3, y4⟩ := y
  have := y4 xs (SqL.of (e _ _ h))
  rw [h3] at this
  cases this
  rw [Nat.zero_add] at h2
  exact ⟨T, _, _, y2, y3, y1, h2, .cons (.int _) (.cons h4 .nil)⟩⟩
theorem itok_enumT {a : Addr} {xs : List V} {ds : List D} (h : H0 a = some (.tup xs)) (rs : RpA K H0 xs ds) : ItOk K (IteT K a) H0 (enumD 0 ds) := fun i => ⟨fun H e hi => ⟨xs, SqT.of (e _ _ h), by rw [rs.length]; rw [enumD_length] at hi; exact hi⟩, fun H d e hd => by
  obtain ⟨x, h1, h2⟩ := enumD_get ds 0 i hd
  obtain ⟨v, h3, h4⟩ := rs.getD h1
  refine ⟨⟨xs, v, SqT.of (e _ _ h), h3⟩, fun x' H' y => .inr (.inl ?_)⟩
  obtain ⟨T, x2, y1, y2, y3, y4⟩ := y
  have := y4 xs (SqT.of (e _ _ h))
  rw [h3] at this
  cases this
  rw [Nat.zero_add] at h2
  exact ⟨T, _, _, y2, y3, y1, h2, .cons (.int _) (.cons h4 .nil)⟩⟩
def dEnum : List D → R (List D)
  | [.list ds] => .ok (enumD 0 ds)
  | [.tuple ds] => .ok (enumD 0 ds)
  | _ => .bad
theorem id_enum {ms : DA} {p tpos : Pos} {elts : List Expr} {kk : Nat} (hg : Gl X "enumerate") (hm : X.mg "enumerate" = none) (ha : PAf X W [a] ms) (hs : starEach [a] X.env = [(false, eval a X.env)] := by rfl) :
    ID X W (.Tuple elts kk tpos) (.Call (.Name "enumerate" p) [a] [] pos) (iArgs dEnum ms) := ((pi_enum hg hm ha hs).or (pi_enumT hg hm ha hs)).wk fun σ H Rc ⟨B, ρ, H0, r, o⟩ => by
  unfold iArgs at o
  cases h : ms ρ with
  | bad => rw [h] at o; exact o.elim
  | er c => rw [h] at o; exact .inl ⟨B, ρ, H0, r, by rw [h]; exact o⟩
  | ok ds =>
    rw [h, R.bind_ok] at o
    unfold dEnum at o
    split at o
    · refine .inl ⟨B, ρ, H0, r, ?_⟩
      rw [h]
      intro vs H1 H2 g va
      cases va with
      | cons rp t =>
        cases t
        cases rp with
        | lst h1 h2 => exact ⟨_, _, rfl, SqL.of (g.s _ _ h1), o _ H1 H2 g (itok_enum h1 h2)⟩
    · refine .inr ⟨B, ρ, H0, r, ?_⟩
      rw [h]
      intro vs H1 H2 g va
      cases va with
      | cons rp t =>
        cases t
        cases rp with
        | tup h1 h2 => exact ⟨_, _, rfl, SqT.of (g.s _ _ h1), o _ H1 H2 g (itok_enumT h1 h2)⟩
    · exact o.elim
def zipD : List D → List D → List D
  | x :: xs, y :: ys => .tuple [x, y] :: zipD xs ys
  | _, _ => []
theorem zipD_get : ∀ (xs ys : List D) (j : Nat) {d : D}, (zipD xs ys)[j]? = some d → ∃ x y, xs[j]? = some x ∧ ys[j]? = some y ∧ d = .tuple [x, y]
  | [], _, _, _, h => by simp [zipD] at h
  | _ :: _, [], _, _, h => by simp [zipD] at h
  | x :: xs, y :: ys, 0, _, h => by simp [zipD] at h; exact ⟨x, y, rfl, rfl, h.symm⟩
  | x :: xs, y :: ys, j + 1, _, h => by
    obtain ⟨a, b, h1, h2, h3⟩ := zipD_get xs ys j (by simpa [zipD] using h)
    exact ⟨a, b, by simpa using h1, by simpa using h2, h3⟩
theorem zipD_end : ∀ (xs ys : List D) (j : Nat), (zipD xs ys).length ≤ j → xs.length ≤ j ∨ ys.length ≤ j
  | [], _, _, _ => .inl (Nat.zero_le _)
  | _ :: _, [], _, _ => .inr (Nat.zero_le _)
  | x :: xs, y :: ys, 0, h => by simp [zipD] at h
  | x :: xs, y :: ys, j + 1, h => by
    rcases zipD_end xs ys j (by simpa [zipD] using h) with q | q
    · exact .inl (by simpa using q)
    · exact .inr (by simpa using q)
theorem itok_zip {a b : Addr} {xs ys : List V} {ds fs : List D} (h : H0 a = some (.lst xs)) (rs : RpA K H0 xs ds) (h' : H0 b = some (.lst ys)) (rs' : RpA K H0 ys fs) : ItOk K (Itz K a b) H0 (zipD ds fs) := fun i => ⟨fun H e hi => ⟨xs, ys, SqL.of (e _ _ h), SqL.of (e _ _ h'), by rw [rs.length, rs'.length]; exact zipD_end _ _ _ hi⟩, fun H d e hd => by
  obtain ⟨x, y, h1, h2, h3⟩ := zipD_get ds fs i hd
  obtain ⟨v, h4, h5⟩ := rs.getD h1
  obtain ⟨w, h6, h7⟩ := rs'.getD h2
  refine ⟨⟨xs, ys, v, w, SqL.of (e _ _ h), SqL.of (e _ _ h'), h4, h6⟩, fun x' H' q => .inr (.inl ?_)⟩
  obtain ⟨T, x2, y2, q1, q2, q3, q4, q5⟩ := q
  have e1 := q4 xs (SqL.of (e _ _ h))
  have e2 := q5 ys (SqL.of (e _ _ h'))
  rw [h4] at e1
  rw [h6] at e2
  cases e1
  cases e2
  exact ⟨T, _, _, q2, q3, q1, h3, .cons h5 (.cons h7 .nil)⟩⟩
theorem itok_zipT {a b : Addr} {xs ys : List V} {ds fs : List D} (h : H0 a = some (.tup xs)) (rs : RpA K H0 xs ds) (h' : H0 b = some (.tup ys)) (rs' : RpA K H0 ys fs) : ItOk K (RZ.ItzT K a b) H0 (zipD ds fs) := fun i => ⟨fun H e hi => ⟨xs, ys, SqT.of (e _ _ h), SqT.of (e _ _ h'), by rw [rs.length, rs'.length]; exact zipD_end _ _ _ hi⟩, fun H d e hd => by
  obtain ⟨x, y, h1, h2, h3⟩ := zipD_get ds fs i hd
  obtain ⟨v, h4, h5⟩ := rs.getD h1
  obtain ⟨w, h6, h7⟩ := rs'.getD h2
  refine ⟨⟨xs, ys, v, w, SqT.of (e _ _ h), SqT.of (e _ _ h'), h4, h6⟩, fun x' H' q => .inr (.inl ?_)⟩
  obtain ⟨T, x2, y2, q1, q2, q3, q4, q5⟩ := q
  have e1 := q4 xs (SqT.of (e _ _ h))
  have e2 := q5 ys (SqT.of (e _ _ h'))
  rw [h4] at e1
  rw [h6] at e2
  cases e1
  cases e2
  exact ⟨T, _, _, q2, q3, q1, h3, .cons h5 (.cons h7 .nil)⟩⟩
def dZip : List D → R (List D)
  | [.list ds, .list es] => .ok (zipD ds es)
  | [.tuple ds, .tuple es] => .ok (zipD ds es)
  | _ => .bad
theorem id_zip {ms : DA} {p tpos : Pos} {elts : List Expr} {kk : Nat} (hg : Gl X "zip") (hm : X.mg "zip" = none) (ha : PAf X W [a, b] ms)
    (hs : starEach [a, b] X.env = (false, eval a X.env) :: starEach [b] X.env := by rfl) (hpl : (backTo pos (starEach [b] X.env)).any (·.1) = false := by rfl) :
    ID X W (.Tuple elts kk tpos) (.Call (.Name "zip" p) [a, b] [] pos) (iArgs dZip ms) := (RZ.pi_zipA hg hm ha hs hpl).wk fun σ H Rc ⟨B, ρ, H0, r, o⟩ => by
  unfold iArgs at o
  refine ⟨B, ρ, H0, r, ?_⟩
  cases h : ms ρ with
  | bad => rw [h] at o; exact o.elim
  | er c => rw [h] at o; exact o
  | ok ds =>
    rw [h, R.bind_ok] at o
    intro vs H1 H2 g va
    unfold dZip at o
    split at o
    · cases va with
      | cons rp t =>
        cases t with
        | cons rp' t =>
          cases t
          cases rp with
          | lst h1 h2 =>
            cases rp' with
            | lst h3 h4 => exact ⟨_, _, _, _, rfl, .inl ⟨SqL.of (g.s _ _ h1), SqL.of (g.s _ _ h3), o _ H1 H2 g (itok_zip h1 h2 h3 h4)⟩⟩
    · cases va with
      | cons rp t =>
        cases t with
        | cons rp' t =>
          cases t
          cases rp with
          | tup h1 h2 =>
            cases rp' with
            | tup h3 h4 => exact ⟨_, _, _, _, rfl, .inr ⟨SqT.of (g.s _ _ h1), SqT.of (g.s _ _ h3), o _ H1 H2 g (itok_zipT h1 h2 h3 h4)⟩⟩
    · exact o.elim
end
end Fc
set_option Elab.async false
set_option linter.all false
set_option maxRecDepth 100000
set_option maxHeartbeats 2000000
namespace Fc
open PySem L2 Evl PySem.Spec PyProof.Rows HT
/-! ### t[::-1] -/
theorem rev_adjust (n : Nat) : Builtin.Slice.sliceAdjust none none (-1) (n : Int) = ((n : Int) - 1, -1) := by
  unfold Builtin.Slice.sliceAdjust
  rfl
theorem rev_places (n : Nat) : Builtin.Slice.slicePlaces ((n : Int) - 1) (-1) (-1) = n := by
  unfold Builtin.Slice.slicePlaces
  rw [if_neg (by decide)]
  by_cases h : (n : Int) - 1 > -1
  · rw [if_pos h, show (-(-1 : Int)) = 1 by decide, Int.ediv_one]
    omega
  · rw [if_neg h]
    show (0 : Nat) = n
    omega
theorem rev_pick (xs : Array Value) : ((List.range xs.size).filterMap fun (m : Nat) => xs[(((xs.size : Int) - 1) + (m : Int) * (-1)).toNat]?).toArray = xs.toList.reverse.toArray := by
  have e : (List.range xs.size).filterMap (fun (m : Nat) => xs[(((xs.size : Int) - 1) + (m : Int) * (-1)).toNat]?) = ((List.range xs.size).map fun k => xs.size - 1 - k).filterMap (xs[·]?) := by
    rw [List.filterMap_map]
    have ext : ∀ (l : List Nat), (∀ m ∈ l, m < xs.size) → l.filterMap (fun (m : Nat) => xs[(((xs.size : Int) - 1) + (m : Int) * (-1)).toNat]?) = l.filterMap ((xs[·]?) ∘ fun k => xs.size - 1 - k) := by
      intro l
      induction l with
      | nil => intro _; rfl
      | cons a l ih =>
        intro h
        have hm := h a (by simp)
        have e2 : (((xs.size : Int) - 1) + (a : Int) * (-1)).toNat = xs.size - 1 - a := by omega
        rw [List.filterMap_cons, List.filterMap_cons, ih fun m hm => h m (List.mem_cons_of_mem _ hm), e2] <;> rfl
    exact ext _ fun m hm => List.mem_range.mp hm
  rw [e, PySem.W.krv_range, List.filterMap_reverse, PySem.W.krv_all]
section
variable {prog : Program} {w : World} {A : Around} {E : Value → Shared → Prop} {s : Shared}
theorem getItem_tuple_rev {t sl : Addr} {items : Array Value} {vl vu vs : Value} {Q : Value → Shared → Prop} (ht : IsTup s.heap t items) (hs : s.heap.IsSliceOf sl vl vu vs) (pl : IsPart vl none) (pu : IsPart vu none) (ps : IsPart vs (some (-1)))
    (h : Q (.ref s.heap.objs.size) { s with heap := s.heap.push { cls := .type "tuple", data := .seq items.toList.reverse.toArray } })
    (hsz : items.size ≤ sizeLine) : wpAny (model prog w) A (getItem (.ref t) (.ref sl)) Q E s := by
  have htake : sizeOk (.seq items.toList.reverse.toArray) := by
    show items.toList.reverse.toArray.size ≤ sizeLine
    rw [List.size_toArray, List.length_reverse, Array.length_toList]
    omega
  obtain ⟨os, hos, hcs, hds⟩ := id hs
  have hTs : s.TypeIs (.ref sl) "slice" := ⟨os, hos, hcs⟩
  unfold getItem
  try with_reducible refine wpAny_holding ?_
  first | refine wpAny_bind (wpAny_pure ?_) | skip
  refine wpAny_bind (wpAny_sequenceKey ht.typeIs (by decide) ?_)
  refine wpAny_bind (wpAny_callSpecial?_slot (name := Str.ofString "__getitem__") ht.typeIs PyProof.Rows.slot_tuple_getitem
    (wpAny_call_entry PyProof.Rows.slot_tuple_getitem ht.typeIs entry_tuple_getitem ?_ (args_tuple_getitem _ _)))
  show wpAny _ _ (Builtin.Tuple.tupleItemsOf (.ref t) >>= _) _ _ s
  refine wpAny_bind (tupleItemsOf_ ht ?_)
  refine wpAny_bind (wpAny_typeOf hTs ?_)
  rw [if_pos (by decide)]
  refine wpAny_bind ?_
  unfold Builtin.Slice.sliceApplied Builtin.Slice.sliceFields
  refine wpAny_bind (wpAny_bind (wpAny_field hos hds (x := vl) rfl (wpAny_bind (wpAny_field hos hds (x := vu) rfl (wpAny_bind (wpAny_field hos hds (x := vs) rfl (wpAny_pure ?_)))))))
  refine wpAny_bind (slicePart_ ps ?_)
  show wpAny _ _ (if ((-1 : Int) == 0) = true then _ else _) _ _ s
  rw [if_neg (by decide)]
  refine wpAny_bind (slicePart_ pl (wpAny_bind (slicePart_ pu (wpAny_bind (wpAny_pure ?_)))))
  show wpAny _ _ (match Builtin.Slice.sliceAdjust none none (-1) (items.size : Int) with | (lo, hi) => pure (lo, (-1 : Int), Builtin.Slice.slicePlaces lo hi (-1))) _ _ s
  rw [rev_adjust]
  show wpAny _ _ (pure (((items.size : Int) - 1), (-1 : Int), Builtin.Slice.slicePlaces ((items.size : Int) - 1) (-1) (-1))) _ _ s
  rw [rev_places]
  refine wpAny_pure ?_
  have hno : ¬ ((((items.size : Int) - 1) == 0 && (-1 : Int) == 1 && items.size == items.size) = true) := by
    intro q
    rw [Bool.and_eq_true, Bool.and_eq_true] at q
    have := eq_of_beq q.1.2
    omega
  show wpAny _ _ (if (((items.size : Int) - 1) == 0 && (-1 : Int) == 1 && items.size == items.size) = true then _ else _) _ _ s
  rw [if_neg hno, rev_pick]
  first
    | exact wpAny_bind (m := Builtin.Tuple.tupleExact _) (wpAny_newObj_type (wpAny_pure ⟨_, rfl, wpAny_pure h⟩) htake)
    | exact wpAny_bind (m := Builtin.Tuple.tupleExact _) (wpAny_newObj_type (wpAny_bind (wpAny_pure (wpAny_pure ⟨_, rfl, wpAny_pure h⟩))) htake)
    | exact wpAny_bind (wpAny_bind (m := Builtin.Tuple.tupleExact _) (wpAny_newObj_type (wpAny_pure (wpAny_pure ⟨_, rfl, wpAny_pure h⟩)) htake))
    | exact wpAny_bind (wpAny_bind (m := Builtin.Tuple.tupleExact _) (wpAny_newObj_type (wpAny_pure ⟨_, rfl, wpAny_pure h⟩) htake))
end
def tRevT (K : Fr) (te : TE) : TE := fun σ H Q => te σ H fun x H1 => ∃ a xs, x = .ref a ∧ SqT K H1 a xs ∧ ∀ p, H1 p = none → Q (.ref p) (upd H1 p (.tup xs.reverse))
theorem pe_revT {X : Cx} {e : Expr} {te : TE} {k : Nat} {p1 p2 p3 pos : Pos} (he : PE X e te) : PE X (.Subscript e (.Slice none none (some (.UnaryOp .USub (.Constant (.int 1) k p1) p2)) p3) pos) (tRevT X.K te) := by
  refine ⟨fun pins s σ H Q I h => ?_⟩
  refine Subscript_ (thn (he.run pins s σ H _ I h) fun v s1 ⟨x, H1, I1, r1, q1⟩ => ?_)
  obtain ⟨a, xs, ex, hx, q⟩ := q1
  subst ex
  cases r1
  have hst : PO X (some (.UnaryOp .USub (.Constant (.int 1) k p1) p2)) (tPart (tUn (rU fun i => .int (-i)) (tC (.int 1)))) := po_some (pe_un un_neg pe_int)
  refine wpAny_Slice (thn (po_none.run pins s1 σ H1 (fun o H2 => o = none ∧ H2 = H1) I1 ⟨rfl, rfl⟩) fun vl s2 ⟨l, H2, I2, pl, el, e2⟩ => ?_)
  subst el e2
  refine thn (po_none.run pins s2 σ H2 (fun o H3 => o = none ∧ H3 = H2) I2 ⟨rfl, rfl⟩) fun vu s3 ⟨u, H3, I3, pu, eu, e3⟩ => ?_
  subst eu e3
  refine thn (hst.run pins s3 σ H3 (fun o H4 => o = some (-1) ∧ H4 = H3) I3 ⟨1, rfl, -1, rfl, rfl, rfl⟩) fun vs s4 ⟨o, H4, I4, ps, eo, e4⟩ => ?_
  subst eo e4
  have I5 : Inv X pins σ H4 { s4 with heap := s4.heap.push { cls := .type "slice", data := .fields #[vl, vu, vs] } } := I4.kept (t' := s4.toks) fun b ob q => Heap.get?_push_of_some _ q
  obtain ⟨its, r, ht, hz⟩ := I5.tuple hx
  have hlen := r.length
  show wpAny (model X.prog X.w) X.A (subscriptTail e (.Slice none none (some (.UnaryOp .USub (.Constant (.int 1) k p1) p2)) p3) (.ref a) (.ref s4.heap.objs.size)) (EP X pins σ Q) X.xe { s4 with heap := s4.heap.push { cls := .type "slice", data := .fields #[vl, vu, vs] } }
  refine tail_any (ops := [.ref a, .ref s4.heap.objs.size]) (show IsTup _ a its.toArray from ht).typeIs (PyProof.Rows.slot_tuple_getitem.lookup) ?_ (by with_unfolding_all rfl)
  refine getItem_tuple_rev (show IsTup _ a its.toArray from ht) (Heap.IsSliceOf.new _ vl vu vs) pl pu ps ?_ (by rw [List.size_toArray]; omega)
  refine ⟨.ref _, _, I5.laid (t' := s4.toks) (o := .tup xs.reverse) (fun b ob q => Heap.get?_push_of_some _ q) (Nat.le_refl _) ?_, rfl, q _ (I5.hok.fresh (Nat.le_refl _))⟩
  exact ⟨by rw [List.length_reverse]; exact hz, _, r.reverse, IsTup.new _ _⟩
section
variable {X : Cx} {W : WX} {e a b c o tg it elt : Expr} {es : List Expr} {m ma mb mc mt : DE} {pos p1 p2 p3 p q : Pos}
variable {K : Fr} {mg : Str → Option Value} {B : Bs} {ρ : En} {σ : L2.St} {H0 H : Hp}
def dRevT : D → R D
  | .tuple ds => .ok (.tuple ds.reverse)
  | _ => .bad
def dRevL : D → R D
  | .list ds => .ok (.list ds.reverse)
  | _ => .bad
def dRev : D → R D
  | .tuple ds => .ok (.tuple ds.reverse)
  | .list ds => .ok (.list ds.reverse)
  | _ => .bad
theorem _root_.L2.PE.or {X : Cx} {e : Expr} {t t' : TE} (h : PE X e t) (h' : PE X e t') : PE X e (fun σ H R => t σ H R ∨ t' σ H R) := ⟨fun pins s σ H R I q => by
  rcases q with q | q
  · exact h.run pins s σ H R I q
  · exact h'.run pins s σ H R I q⟩
theorem eU_or {f g h : D → R D} (H : ∀ d, (∀ y, h d = .ok y → f d = .ok y ∨ g d = .ok y)) (hc : ∀ d c, h d ≠ .er c) {k : Bool} {K : Fr} {mg : Str → Option Value} {σ : L2.St} {H1 : Hp} {Q : VK} (q : tE k K mg W (eU h ma) σ H1 Q) : tE k K mg W (eU f ma) σ H1 Q ∨ tE k K mg W (eU g ma) σ H1 Q := by
  obtain ⟨B, ρ, H0, r, o⟩ := q
  unfold eU at o
  cases hm : ma ρ with
  | bad => rw [hm] at o; exact o.elim
  | er c => rw [hm] at o; exact .inl ⟨B, ρ, H0, r, by unfold eU; rw [hm]; exact o⟩
  | ok d =>
    rw [hm, R.bind_ok] at o
    cases hd : h d with
    | bad => rw [hd] at o; exact o.elim
    | er c => exact absurd hd (hc d c)
    | ok y =>
      rw [hd] at o
      rcases H d y hd with z | z
      · exact .inl ⟨B, ρ, H0, r, by unfold eU; rw [hm, R.bind_ok, z]; exact o⟩
      · exact .inr ⟨B, ρ, H0, r, by unfold eU; rw [hm, R.bind_ok, z]; exact o⟩
theorem pf_rev {k : Nat} (ha : PB X W a ma) : PF X W (.Subscript a (.Slice none none (some (.UnaryOp .USub (.Constant (.int 1) k p1) p2)) p3) pos) (eU dRevL ma) := (pe_revL ha).wk fun σ H Q h =>
  t_un (t := fun x H1 Q => ∃ a xs, x = .ref a ∧ SqL X.K H1 a xs ∧ ∀ p, H1 p = none → Q (.ref p) (upd H1 p (.lst xs.reverse))) (fun d c z => by unfold dRevL at z; split at z <;> cases z) (fun H0 H x dx d s vx e Q kq => by
    unfold dRevL at e
    split at e
    · cases e
      obtain ⟨p, xs, rfl, hp, rp⟩ := vx.lst s
      exact ⟨p, xs, rfl, SqL.of hp, fun l hl => kq.newL s rp.reverse hl⟩
    · cases e) h
theorem pd_revT {k : Nat} (ha : PB X W a ma) : PD X W (.Subscript a (.Slice none none (some (.UnaryOp .USub (.Constant (.int 1) k p1) p2)) p3) pos) (eU dRevT ma) := (pe_revT ha).wk fun σ H Q h =>
  t_un (t := fun x H1 Q => ∃ a xs, x = .ref a ∧ SqT X.K H1 a xs ∧ ∀ p, H1 p = none → Q (.ref p) (upd H1 p (.tup xs.reverse))) (fun d c z => by unfold dRevT at z; split at z <;> cases z) (fun H0 H x dx d s vx e Q kq => by
    unfold dRevT at e
    split at e
    · cases e
      obtain ⟨p, xs, rfl, _, hp, rp⟩ := vx.tup s
      exact ⟨p, xs, rfl, SqT.of hp, fun l hl => kq.newT s rp.reverse hl⟩
    · cases e) h
theorem pd_rev {k : Nat} (ha : PB X W a ma) : PD X W (.Subscript a (.Slice none none (some (.UnaryOp .USub (.Constant (.int 1) k p1) p2)) p3) pos) (eU dRev ma) := ((fd (pf_rev (W := W) ha)).or (pd_revT ha)).wk fun σ H Q h =>
  eU_or (f := dRevL) (g := dRevT) (h := dRev) (fun d y z => by
    unfold dRev at z
    split at z
    · exact .inr z
    · exact .inl z
    · cases z) (fun d c z => by unfold dRev at z; split at z <;> cases z) h
/-! ### tuples times a number -/
def dRepT : D → D → R D
  | .tuple x, .int k => if decide (2 ≤ k ∧ k ≤ 1000 ∧ 1 ≤ x.length ∧ x.length ≤ 100) = true then .ok (.tuple (List.replicate k.toNat x).flatten) else .bad
  | _, _ => .bad
theorem od_repT : OpD false X (binaryOp .Mult) dRepT := ⟨_, op_repT, fun H0 H x y dx dy d s vx vy e Q kq => by
  unfold dRepT at e
  split at e
  · split at e
    · rename_i xs k h
      cases e
      have h := of_decide_eq_true h
      obtain ⟨p, xs, rfl, _, hp, rp⟩ := vx.tup s
      have hl := rp.length
      refine ⟨p, _, xs, rfl, vy.int, SqT.of hp, fun z => ?_, h.1, h.2.1, by omega, fun l hl => kq.newT s (rp.rep _) hl⟩
      rw [z] at hl
      have := h.2.2.1
      rw [← hl] at this
      exact absurd this (by decide)
    · cases e
  · cases e⟩
def dMulA (x y : D) : R D := match x, y with
  | .tuple xs, y => dRepT (.tuple xs) y
  | x, y => dMul x y
theorem od_mulA : OpD false X (binaryOp .Mult) dMulA := OpD.or od_repT od_mul fun x y d h => by
  unfold dMulA at h
  split at h
  · exact .inl h
  · exact .inr h
theorem cm_mulA : Calm2 dMulA := fun x y c h => by
  unfold dMulA at h
  split at h
  · unfold dRepT at h
    split at h <;> first | cases h | (split at h <;> cases h)
  · exact cm_mul _ _ _ h
/-! ### sorted(set(t)), t a tuple of ints -/
def insU (x : Int) : List Int → List Int
  | [] => [x]
  | y :: ys => if x < y then x :: y :: ys else if y < x then y :: insU x ys else y :: ys
def sortU : List Int → List Int
  | [] => []
  | x :: xs => insU x (sortU xs)
theorem insU_mem (x k : Int) : ∀ l : List Int, k ∈ insU x l ↔ k = x ∨ k ∈ l
  | [] => by simp [insU]
  | y :: ys => by
    unfold insU
    split
    · simp
    · split
      · rw [List.mem_cons, insU_mem x k ys, List.mem_cons]
        constructor
        · rintro (h | h | h) <;> simp [h]
        · rintro (h | h | h) <;> simp [h]
      · have : x = y := by omega
        subst this
        simp
theorem insU_srt (x : Int) : ∀ l : List Int, l.Pairwise (· < ·) → (insU x l).Pairwise (· < ·)
  | [], _ => by simp [insU]
  | y :: ys, h => by
    obtain ⟨h1, h2⟩ := List.pairwise_cons.mp h
    unfold insU
    split
    · rename_i hx
      refine List.pairwise_cons.mpr ⟨fun k hk => ?_, h⟩
      rcases List.mem_cons.mp hk with z | z
      · omega
      · have := h1 k z; omega
    · split
      · rename_i hx
        refine List.pairwise_cons.mpr ⟨fun k hk => ?_, insU_srt x ys h2⟩
        rcases (insU_mem x k ys).mp hk with z | z
        · omega
        · exact h1 k z
      · exact h
theorem sortU_mem (k : Int) : ∀ l : List Int, k ∈ sortU l ↔ k ∈ l
  | [] => by simp [sortU]
  | x :: xs => by
    unfold sortU
    rw [insU_mem, sortU_mem k xs, List.mem_cons]
theorem sortU_srt : ∀ l : List Int, (sortU l).Pairwise (· < ·)
  | [] => .nil
  | x :: xs => insU_srt x _ (sortU_srt xs)
theorem srt_uniq : ∀ {l r : List Int}, l.Pairwise (· < ·) → r.Pairwise (· < ·) → (∀ k, k ∈ l ↔ k ∈ r) → l = r
  | [], [], _, _, _ => rfl
  | [], y :: ys, _, _, h => absurd ((h y).mpr (by simp)) (by simp)
  | x :: xs, [], _, _, h => absurd ((h x).mp (by simp)) (by simp)
  | x :: xs, y :: ys, h1, h2, h => by
    obtain ⟨a1, a2⟩ := List.pairwise_cons.mp h1
    obtain ⟨b1, b2⟩ := List.pairwise_cons.mp h2
    have e : x = y := by
      rcases List.mem_cons.mp ((h x).mp (by simp)) with z | z
      · exact z
      · rcases List.mem_cons.mp ((h y).mpr (by simp)) with z' | z'
        · exact z'.symm
        · have := b1 x z
          have := a1 y z'
          omega
    subst e
    have : xs = ys := srt_uniq a2 b2 fun k => by
      constructor
      · intro hk
        rcases List.mem_cons.mp ((h k).mp (List.mem_cons_of_mem _ hk)) with z | z
        · have := a1 k hk
          omega
        · exact z
      · intro hk
        rcases List.mem_cons.mp ((h k).mpr (List.mem_cons_of_mem _ hk)) with z | z
        · have := b1 k hk
          omega
        · exact z
    rw [this]
def rSetI (K : Fr) (w : World) : List V → Hp → VK → Prop := fun vs H Q => ∃ (a : Addr) (ns : List Int), vs = [V.ref a] ∧ SqT K H a (ns.map V.int) ∧ ns.length ≤ 1000 ∧ ∀ p S n, (∀ k, S k = decide (k ∈ ns)) → n ≤ ns.length → H p = none → Q (.ref p) (upd H p (SetO w p S n))
theorem cr_setI (hc : X.calm = true) : CallR X (.type "set") (rSetI X.K X.w) := by
  intro pins s σ H xs us Q I r h
  obtain ⟨a, ns, rfl, hq, hl, q⟩ := h
  rw [Vals.ref1 r]
  obtain ⟨its, rv, pt, hz⟩ := I.tuple hq
  have hi : IntsAre its.toArray.toList ns := ints_of_vals rv
  refine call_set_tupI ns (I.ok.hd hc) (show s.heap.IsTuple a its.toArray from pt) hi (by unfold scanBound; omega) fun h' tk c R1 hcn k => ?_
  exact ⟨.ref s.heap.objs.size, upd H s.heap.objs.size (SetO X.w s.heap.objs.size (fun j => decide (j ∈ ns)) c), I.laid (t' := tk) k (Nat.le_refl _) (setO_new R1), rfl, q _ _ _ (fun _ => rfl) hcn (I.hok.fresh (Nat.le_refl _))⟩
def dSortSet : D → R D
  | .tuple ds => match intsOf ds with
    | some ns => if decide (ns.length ≤ 60) = true then .ok (.list ((sortU ns).map .int)) else .bad
    | none => .bad
  | _ => .bad
theorem rp_ints (ns : List Int) : RpA K H (ns.map V.int) (ns.map PyData.int) := by
  induction ns with
  | nil => exact .nil
  | cons n ns ih => exact .cons (.int n) ih
theorem pf_sortset (hc : X.calm = true) (hu : X.A.units + 100 < cLine) (hg : Gl X "sorted") (hm : X.mg "sorted" = none) (hg2 : Gl X "set") (hm2 : X.mg "set" = none) (ha : PB X W a ma)
    (hs : starEach [.Call (.Name "set" p) [a] [] q] X.env = [(false, eval (.Call (.Name "set" p) [a] [] q) X.env)] := by rfl) (hs2 : starEach [a] X.env = [(false, eval a X.env)] := by rfl) :
    PF X W (.Call (.Name "sorted" p1) [.Call (.Name "set" p) [a] [] q] [] pos) (eU dSortSet ma) := by
  have h1 := pe_callTy (pos := q) (p := p) (cr_setI hc) hg2 hm2 PyProof.Rows.boot_set (pa_cons ha pa_nil hs2) (by decide) (by decide) hs2 rfl
  have h2 := pe_callB (pos := pos) (p := p1) (cr_sortedSet hc) hg hm (by decide +kernel) (pa_cons h1 pa_nil hs) (by decide) (by decide) hs rfl
  refine h2.wk fun σ H Q h => ?_
  exact t_un (t := fun x H1 Q => rSetI X.K X.w [x] H1 fun y H2 => rSortedSet X.w [y] H2 Q) (fun d c z => by unfold dSortSet at z; split at z <;> first | cases z | (split at z <;> first | cases z | (split at z <;> cases z))) (fun H0 H x dx d s vx e Q kq => by
    unfold dSortSet at e
    split at e
    · split at e
      · split at e
        · rename_i ds ns hns hl
          cases e
          have hl := of_decide_eq_true hl
          obtain ⟨t, xs, rfl, _, ht, rp⟩ := vx.tup s
          have hx := intsOf_rp rp hns
          subst hx
          refine ⟨t, ns, rfl, SqT.of ht, by omega, fun p S n hS hn hp => ⟨p, S, n, rfl, upd_same, by omega, fun ns' p2 srt mem _ hp2 => ?_⟩⟩
          have e1 : ns' = sortU ns := srt_uniq srt (sortU_srt ns) fun k => by rw [mem, hS, sortU_mem, decide_eq_true_eq]
          subst e1
          have g : Gr H0 H H0 (upd H p (SetO X.w p S n)) := ⟨Ex.refl _, Ex.new hp, s.trans (Ex.new hp), fun _ _ h => h⟩
          exact (kq.grow g).newL (s.trans (Ex.new hp)) (rp_ints _) hp2
        · cases e
      · cases e
    · cases e) h
end
end Fc
set_option Elab.async false
set_option linter.all false
set_option maxRecDepth 100000
set_option maxHeartbeats 2000000
namespace Fc
open PySem L2 Evl PySem.Spec PyProof.Rows
theorem cx_none {P : Program} {w : World} {H : Hp} {s : Shared} {e : Value} {s' : Shared} (h : L2.CX P w [] H s (fun _ _ _ => False) e s') : False := by
  obtain ⟨a, B, H', cls, d, _, _, _, _, _, _, _, z⟩ := h
  exact z
/-- the law's row, its promise told by a function over data -/
theorem walk_law {l : PySem.W.OpenLaw} {k : Nat} {q : Program} {loose : List Str} {XP : (Str → Option Value) → Heap → Prop} {YP : World → Heap → Prop} {d : DefRec} {x : Str} {g : List D → R D}
    (hn : l.most = some 63) (hdf : d.params.defaults = []) (hr : Room k callerA)
    (F : ∀ (w : World) (mg : Str → Option Value) (fa : Addr) (h : Heap), YP w h → h.Ns mainGlobals mg → mg d.name = some (.ref fa) →
      ∃ (K : Fr) (fd : FuncData), K.In h ∧ (∀ (s : Shared) (u : Value), BindsTo s fd ⟨[u], []⟩ [(x, u)]) ∧ ∀ base : Heap, K.In base → base.Ns mainGlobals mg → FnD l.prog w K mg base k fa fd [x] g)
    (hg : ∀ ns : List Int, ns.length ≤ 63 → g [.dict [(.none, .list (ns.map PyData.int))]] = .ok (.bool true)) :
    PySem.W.WalkO q loose XP YP l.row.toRowW d [] (fun f vs => PySem.call f vs) := by
  refine Att.attach_call hn hdf fun w s₀ s₁ mg mb fa o pm cd doc a vs ns G Y ho hd hcd hmg hobj hints hlen gz => ?_
  obtain ⟨K, fd, KX, hb, hF⟩ := F w mg fa _ Y G.T.g hmg
  refine law_call KX G.T.g G.T.b G.T.builtins G.T.nolimit gz hobj hints (Nat.le_trans hlen (by decide)) hr hF hb (fun H hO hS => ?_) fun H e s' => cx_none
  refine ⟨rfl, _, H, Ex.refl H, .cons (.scr hS) .nil, ?_⟩
  rw [hg ns hlen]
  intro v H0 H' gr rp
  cases rp
  rfl
end Fc
set_option Elab.async false
set_option linter.all false
set_option maxRecDepth 100000
set_option maxHeartbeats 2000000
namespace Fc
open PySem L2 Evl PySem.Spec PyProof.Rows
/-! ### a def called where an exception is handled: its object is p's -/
structure FnP (P : Program) (w : World) (K : Fr) (mg : Str → Option Value) (base : Heap) (k : Nat) (f : Addr) (fd : FuncData) (ps : List Str) (p : Addr × Obj) (sp : Sp) : Prop where
  len : ∀ vs H Q E, sp vs H Q E → vs.length = ps.length
  run : ∀ (A : Around) (outer : List PySem.Env) (s : Shared) (H : Hp) (args : Args) (us : List Value) (vs : List V) (Q : VK), L2H.RoomH k A → L2H.PinOk outer H s p → Env0 P w K mg base A outer s H → BindsTo s fd args (ps.zip us) → Vals vs us → sp vs H Q L2.E0 →
    codeAny (model P w) A (.call (.ref f) args) (CR L2.CX0 outer P w H s Q L2.E0) s
abbrev cxP (P : Program) (w : World) (K : Fr) (mg : Str → Option Value) (base : Heap) (N : List Str) (qual : Str) (scope : Scope) (f : Addr) (cd : Value) (A : Around) (outer : List PySem.Env) (s : Shared) (H : Hp) (p : Addr × Obj) : Cx :=
  L2H.cxH L2.CX0 P w K mg base N qual scope f cd A outer s H L2.E0 p
theorem fnP_of {P : Program} {w : World} {K : Fr} {mg : Str → Option Value} {base : Heap} {x qual : Str} {params : Arguments} {body : List Stmt} {scope : Scope} {dvs : List V} {kws : List (Str × V)} {f : Addr} {fd : FuncData} {N ps : List Str} {k : Nat} {p : Addr × Obj} {sp : Sp}
    (F : FunD K x qual params body scope dvs kws f fd) (S : FnScope N ps scope) (len : ∀ vs H Q E, sp vs H Q E → vs.length = ps.length)
    (hbody : ∀ (cdv : Value) (A : Around) (outer : List PySem.Env) (s : Shared) (H : Hp) (vs : List V) (Q : VK), L2H.RoomH k (A.deeper (envOfC qual scope s.heap.objs.size f cdv)) → sp vs H Q L2.E0 →
      ∃ t, PSs (cxP P w K mg base N qual scope f cdv A outer s H p) body t ∧ t { nx := fun _ H' => Q .non H', rt := Q } (L2.start N vs) H) :
    FnP P w K mg base (k + 1) f fd ps p sp := by
  obtain ⟨oc, od, dV, kV, doc, pm, an, cdv, ct, osl, rfl, lk, hcd, _, _⟩ := F.ex
  refine ⟨len, fun A outer s H args us vs Q hr hpin e0 hb r hsp => ?_⟩
  have hl := len _ _ _ _ hsp
  have KX : K.In s.heap := e0.mod.kin.keeps fun b o e => (e0.bs b o e).1
  have lim : s.heap.NoLimit := e0.mod.nolimit.keeps fun b o e => (e0.bs b o e).1
  have hkind : ∀ y ∈ ps.zip us, scope.names.lookup y.1 = some .local ∨ (scope.names.lookup y.1 = some .cell ∧ ((cellsFrom (s.heap.objs.size + 1) scope.names []).lookup y.1).isSome = true) := fun ⟨n, v⟩ hy => by
    rcases S.par n (List.of_mem_zip hy).1 with q | q
    · exact .inl q
    · exact .inr ⟨q, PySem.W.cellsFrom_some _ _ _ (.inl q)⟩
  refine codeAny_call_function hr.depth (KX _ _ lk) rfl S.co S.gen rfl (PySem.W.codeRec_of KX hcd) (hb _ _ _ _ ?_)
  refine wpAny_newFunctionEnv_cells S.kind hkind fun env he s1 x => ?_
  subst he
  refine ⟨lim.keeps x.toInCall.keep, codeAny_func ?_⟩
  obtain ⟨t, ht, hq⟩ := hbody cdv A outer s H vs Q (hr.deeper _) hsp
  have I : Inv (cxP P w K mg base N qual scope f cdv A outer s H p) [] (L2.start N vs) H s1 := L2H.inv_startH S hpin e0 hl r x
  refine wpAny_mono (ht.run [] s1 (L2.start N vs) H _ I hq) (fun fl s' hs => ?_) fun e s' hs => hs
  cases fl with
  | ret u =>
    obtain ⟨v, σ', H', J, rv, q⟩ := hs
    exact ⟨v, H', J.os, J.bare, J.base, J.hok, rv, q⟩
  | next =>
    obtain ⟨σ', H', J, q⟩ := hs
    exact ⟨.non, H', J.os, J.bare, J.base, J.hok, rfl, q⟩
  | brk =>
    obtain ⟨_, _, _, q⟩ := hs
    exact False.elim q
  | cont =>
    obtain ⟨_, _, _, q⟩ := hs
    exact False.elim q
section
variable {X : Cx} {k : Nat} {f : Addr} {fd : FuncData} {ps : List Str} {sp : Sp} {x : Str} {q pos : Pos} {e : Expr} {es : List Expr} {t : TA} {p : Addr × Obj}
theorem pe_callP (F : FnP X.prog X.w X.K X.mg X.base k f fd ps p sp) (hr : L2H.RoomH k X.A) (hp : p ∈ X.pn) (hg : Gl X x) (hm : X.mg x = some (.ref f)) (hk : PySem.W.keepIn X.K (.ref f) = true) (hb : Binds X.K fd ps [])
    (ha : PA X (e :: es) t) (hdb : (x == ("__debug__" : Str)) = false := by decide) (he : starEach (e :: es) X.env = (false, eval e X.env) :: starEach es X.env := by rfl) (hpl : (backTo pos (starEach es X.env)).any (·.1) = false := by rfl) :
    PE X (.Call (.Name x q) (e :: es) [] pos) (fun σ H Q => t σ H fun vs H1 => sp vs H1 Q L2.E0) := by
  refine ⟨fun pins s σ H Q I h => ?_⟩
  refine wpAny_Call_Name_kw (ld_glob I hg hm ?_ hdb)
  refine PySem.W.callWith_K (h₀ := X.base) I.ok.mod.kin hk (thn (ha.run pos pins s σ H _ I h) fun us s1 ⟨vs, H1, I1, r, hsp⟩ => ⟨I1.kIn, ?_⟩) he hpl
  have hl : us.length = ps.length := by rw [← r.length]; exact F.len _ _ _ _ hsp
  have b := hb s1 us I1.kIn (by rw [List.append_nil]; exact hl)
  rw [List.append_nil] at b
  have P1 := I1.pin p (List.mem_append_left _ hp)
  have hpin : L2H.PinOk X.stack H1 s1 p := ⟨P1.1, P1.2.1, fun hm => (List.mem_cons.mp (I1.stkSub p.1 hm)).elim P1.2.2.1 P1.2.2.2.1, P1.2.2.2.2⟩
  refine wpAny_call (codeAny_mono (F.run X.A X.stack s1 H1 ⟨us, []⟩ us vs Q hr hpin I1.env0 b r hsp) fun r s' hq => ?_)
  cases r with
  | error e => exact hq.elim
  | ok fl =>
    cases fl with
    | ret u => exact I1.after hq
    | next => exact False.elim hq
    | brk => exact False.elim hq
    | cont => exact False.elim hq
/-- isinstance(e, c), e's object pinned -/
theorem call_isP {a D : Addr} {oe : Obj} (C : ExcC X.K D) (hz : Zc (.ref D) none oe) (hf : ∃ vs, oe.data = .fields vs) (hp : (a, oe) ∈ X.pn) : CallR X (.builtin "isinstance") (rIsE X.K D a) := by
  intro pins s σ H xs us Q I r h
  obtain ⟨c, cv, b, rfl, hcv, e, q⟩ := h
  cases r with
  | cons rx rr =>
    cases rr with
    | cons rt rr =>
      cases rr
      cases rx
      have ec := hcv _ rt
      subst ec
      obtain ⟨hget, _⟩ := I.pin (a, oe) (List.mem_append_left _ hp)
      obtain ⟨vs, hv⟩ := hf
      have J : PySem.W.InstAt s.heap a oe D none := by
        obtain ⟨oc, od, oda, osl⟩ := oe
        obtain ⟨h1, h2⟩ := hz
        dsimp only at h1 h2 hv
        subst h1 h2 hv
        exact ⟨hget, rfl, rfl, trivial⟩
      exact PySem.W.kia_one (PySem.W.handS_kitx_exc C.hg C.hk C.hs C.hd C.ha C.hn C.ht C.hm) I.kIn J e (fun z => nomatch z) fun tk => ⟨.bl b, H, I.kept (t' := tk) fun _ _ z => z, rfl, q⟩
end
end Fc
set_option Elab.async false
set_option linter.all false
set_option maxRecDepth 100000
set_option maxHeartbeats 2000000
namespace Fc
open PySem L2 Evl PySem.Spec PyProof.Rows
/-- an exception's object, as data -/
def exD (a : Addr) : D := .dict [(.bool true, .int (a : Nat))]
def spX (K : Fr) (a : Addr) (g : List D → R D) : Sp := fun vs H Q E => vs = [.ref a] ∧ ∃ d H0, Ex H0 H ∧ g [exD a] = .ok d ∧ Kq false K H0 H d Q
theorem fn_dP {P : Program} {w : World} {K : Fr} {mg : Str → Option Value} {base : Heap} {x qual : Str} {params : Arguments} {body : List Stmt} {scope : Scope} {f : Addr} {fd : FuncData} {N : List Str} {y : Str} {k : Nat} {dvs : List V} {kws : List (Str × V)} {p : Addr × Obj} {M : DS}
    (F : FunD K x qual params body scope dvs kws f fd) (S : FnScope N [y] scope)
    (hb : ∀ (cdv : Value) (A : Around) (outer : List PySem.Env) (s : Shared) (H : Hp), L2H.RoomH k (A.deeper (envOfC qual scope s.heap.objs.size f cdv)) → SsD (cxP P w K mg base N qual scope f cdv A outer s H p) W0 body M) :
    FnP P w K mg base (k + 1) f fd [y] p (spX K p.1 (runF N.length 1 M)) := by
  refine fnP_of F S (fun vs H Q E h => by rw [h.1]; rfl) fun cdv A outer s H vs Q hr h => ⟨_, hb cdv A outer s H hr, ?_⟩
  obtain ⟨rfl, d, H0, s0, o, kq⟩ := h
  refine ⟨(H0, H), _, H0, rl_start (N := N) (n := 1) (ds := [exD p.1]) s0 (.cons (.ex p.1) .nil) rfl, ?_⟩
  unfold runF at o
  rw [if_pos (show [exD p.1].length = 1 from rfl)] at o
  refine show EndS K mg W0 (H0, H) { nx := fun _ H' => Q .non H', rt := Q } (M ([exD p.1].map Slot.fz ++ List.replicate (N.length - 1) Slot.un)) from ?_
  cases hM : M ([exD p.1].map Slot.fz ++ List.replicate (N.length - 1) Slot.un) with
  | nx ρ =>
    rw [hM] at o
    cases o
    exact fun σ H1 H2 rl => kq .non H1 H2 rl.gr .non
  | rt d' =>
    rw [hM] at o
    cases o
    exact fun v H1 H2 g rp => kq v H1 H2 g rp
  | er c ρ => rw [hM] at o; cases o
  | bk ρ => rw [hM] at o; cases o
  | ct ρ => rw [hM] at o; cases o
  | bad => rw [hM] at o; cases o
section
variable {X : Cx} {W : WX} {e a b c o tg it elt : Expr} {es : List Expr} {m ma mb mc mt : DE} {pos p1 p2 p3 p q : Pos}
variable {K : Fr} {mg : Str → Option Value} {B : Bs} {ρ : En} {σ : L2.St} {H0 H : Hp}
theorem Vx.ex {v : V} {a : Addr} (h : Vx K H0 H v (exD a)) : v = .ref a := by
  unfold exD at h
  rcases h with h | ⟨p, ob, rfl, _, h⟩
  · generalize q : [(PyData.bool true, PyData.int ((a : Nat) : Int))] = es at h
    generalize q2 : (PyData.dict es) = dd at h
    cases h with
    | ex a2 =>
      cases q2
      simp only [List.cons.injEq, Prod.mk.injEq, PyData.int.injEq, and_true, true_and] at q
      have : a = a2 := Int.ofNat.inj q
      rw [this]
    | dct h r =>
      cases q2
      subst q
      generalize q3 : [(PyData.bool true, PyData.int ((a : Nat) : Int))] = es at r
      cases r with
      | nil => cases q3
      | cons h r => cases q3
    | scr h =>
      cases q2
      cases q
    | _ => cases q2
  · rcases h with ⟨xs, ds', rfl, q, r⟩ | ⟨kvs, es', rfl, q, r⟩
    · cases q
    · cases q
      generalize q3 : [(PyData.bool true, PyData.int ((a : Nat) : Int))] = es at r
      cases r with
      | nil => cases q3
      | cons h r => cases q3
/-- isinstance(e, C): the object's class is known -/
def dIsE (a : Addr) (b : Bool) : D → R D
  | .dict [(.bool true, .int i)] => if i = (a : Nat) then .ok (.bool b) else .bad
  | _ => .bad
theorem pd_isEv {x : Str} {v : V} {cv : Value} {a0 D0 : Addr} {oe : Obj} {r : Bool} (C : ExcC X.K D0) (hz : Zc (.ref D0) none oe) (hf : ∃ vs, oe.data = .fields vs) (hp : (a0, oe) ∈ X.pn) (hg : Gl X "isinstance") (hm : X.mg "isinstance" = none)
    (hc : PE X (.Name x p2) (tC v)) (hcv : ∀ u, RelV v u → u = cv) (hk : PySem.W.kitOne X.K (.ref D0) cv = some r) (ha : PB X W a ma)
    (he : starEach (a :: [.Name x p2]) X.env = (false, eval a X.env) :: starEach [.Name x p2] X.env := by rfl) (he2 : starEach [.Name x p2] X.env = (false, eval (.Name x p2) X.env) :: starEach [] X.env := by rfl) (hpl : (backTo pos (starEach [.Name x p2] X.env)).any (·.1) = false := by rfl) :
    PD X W (.Call (.Name "isinstance" p) [a, .Name x p2] [] pos) (eU (dIsE a0 r) ma) :=
  (pe_callB (call_isP C hz hf hp) hg hm PyProof.Rows.boot_isinstance (pa_cons ha (pa_cons hc pa_nil he2) he) (by decide) (by decide) he hpl).wk fun σ H Q h => by
    refine t_un (k := false) (f := dIsE a0 r) (t := fun x H1 Q => rIsE X.K D0 a0 [x, v] H1 Q) (fun d c z => by unfold dIsE at z; split at z <;> first | cases z | (split at z <;> cases z)) (fun H0 H x dx d s vx e Q kq => ?_) h
    unfold dIsE at e
    split at e
    · split at e
      · rename_i i hi
        cases e
        subst hi
        have := vx.ex
        subst this
        exact ⟨v, cv, r, rfl, hcv, hk, kq _ H0 H (Gr.refl s) (.bl _)⟩
      · cases e
    · cases e
/-- isinstance(e, C), C a class of the module -/
theorem pd_isE {x : Str} {a0 D0 D1 : Addr} {oe : Obj} {r : Bool} (C : ExcC X.K D0) (hz : Zc (.ref D0) none oe) (hf : ∃ vs, oe.data = .fields vs) (hp : (a0, oe) ∈ X.pn) (hg : Gl X "isinstance") (hm : X.mg "isinstance" = none)
    (hgx : Gl X x) (hmx : X.mg x = some (.ref D1)) (hk : PySem.W.kitOne X.K (.ref D0) (.ref D1) = some r) (ha : PB X W a ma) (hd : (x == ("__debug__" : Str)) = false := by decide)
    (he : starEach (a :: [.Name x p2]) X.env = (false, eval a X.env) :: starEach [.Name x p2] X.env := by rfl) (he2 : starEach [.Name x p2] X.env = (false, eval (.Name x p2) X.env) :: starEach [] X.env := by rfl) (hpl : (backTo pos (starEach [.Name x p2] X.env)).any (·.1) = false := by rfl) :
    PD X W (.Call (.Name "isinstance" p) [a, .Name x p2] [] pos) (eU (dIsE a0 r) ma) :=
  pd_isEv (v := .ref D1) (cv := .ref D1) C hz hf hp hg hm (pe_glob hgx hmx rfl hd) (fun u h => h) hk ha he he2 hpl
theorem pd_isEt {T : Str} {Ts : String} {a0 D0 : Addr} {oe : Obj} {r : Bool} (C : ExcC X.K D0) (hz : Zc (.ref D0) none oe) (hf : ∃ vs, oe.data = .fields vs) (hp : (a0, oe) ∈ X.pn) (hg : Gl X "isinstance") (hm : X.mg "isinstance" = none)
    (hgT : Gl X T) (hmT : X.mg T = none) (hbT : bootBuiltins T = some (.type Ts)) (hk : PySem.W.kitOne X.K (.ref D0) (.type Ts) = some r) (ha : PB X W a ma) (hn : T ≠ "__name__" := by decide) (hd : (T == ("__debug__" : Str)) = false := by decide)
    (he : starEach (a :: [.Name T p2]) X.env = (false, eval a X.env) :: starEach [.Name T p2] X.env := by rfl) (he2 : starEach [.Name T p2] X.env = (false, eval (.Name T p2) X.env) :: starEach [] X.env := by rfl) (hpl : (backTo pos (starEach [.Name T p2] X.env)).any (·.1) = false := by rfl) :
    PD X W (.Call (.Name "isinstance" p) [a, .Name T p2] [] pos) (eU (dIsE a0 r) ma) :=
  pd_isEv (v := .ty Ts) (cv := .type Ts) C hz hf hp hg hm (pe_bltn hgT hmT hbT rfl hn hd) (fun u h => h) hk ha he he2 hpl
/-! ### methods of lists with one argument -/
def isL : D → Bool
  | .list _ => true
  | _ => false
def eMet (op : D → D → R D) (ma mb : DE) : DE := fun ρ => (ma ρ).bind fun x => if isL x = true then (mb ρ).bind fun y => op x y else .bad
def MtD (X : Cx) (id : String) (op : D → D → R D) : Prop := ∃ r, MtR X id r ∧ ∀ H0 H x y dx dy d, Ex H0 H → Vx X.K H0 H x dx → Vx X.K H0 H y dy → op dx dy = .ok d → ∀ Q, Kq false X.K H0 H d Q → r x [y] H Q
theorem pd_met {name : Str} {id : String} {op : D → D → R D} {apos : Pos} (slot : PySem.Slot "list" name id) (hty : typeOf (.builtin id) = pure (.type "method_descriptor")) (hm : MtD X id op) (cm : Calm2 op) (ha : PB X W a ma) (hb : PB X W b mb)
    (hbase : attributeBase a name X.env (eval a X.env) = eval a X.env := by rfl)
    (hfew : ((backTo pos (starEach [b] X.env)).all (fun x => !x.1) && (backToKw pos (keywordEach [] X.env)).all (fun x => x.1.isSome)
      && decide ([b].length + ([] : List Keyword).length + (if ([] : List Keyword).isEmpty then 0 else 1) < 30)) = true := by rfl)
    (hline : (apos.endLine == pos.line) = true := by rfl) (hs : starEach [b] X.env = (false, eval b X.env) :: starEach [] X.env := by rfl) (hplain : (backTo pos (starEach [] X.env)).any (·.1) = false := by rfl) :
    PD X W (.Call (.Attribute a name apos) [b] [] pos) (eMet op ma mb) := by
  obtain ⟨r, h1, h2⟩ := hm
  refine (pe_bm PySem.F.plainAttrs_list slot hty h1 ha (pa_cons hb pa_nil hs) hbase hfew hline hs hplain).wk fun σ H Q h => ?_
  obtain ⟨B, ρ, H0, rl, o⟩ := h
  refine ⟨B, ρ, H0, rl, ?_⟩
  unfold eMet at o
  cases ha : ma ρ with
  | bad => rw [ha] at o; exact o
  | er c => rw [ha] at o; exact o
  | ok da =>
    rw [ha, R.bind_ok] at o
    intro x H1 H2 g1 vx
    have rl2 := rl.grow g1
    cases hl : isL da with
    | false => rw [hl, if_neg Bool.false_ne_true] at o; exact o.elim
    | true =>
      rw [hl, if_pos rfl] at o
      refine ⟨?_, B, ρ, H1, rl2, ?_⟩
      · cases da with
        | list ds =>
          obtain ⟨a, xs, rfl, hp, _⟩ := (Vw.vx rl2 vx).lst rl2.s
          exact .inl ⟨rfl, xs, SqL.of hp⟩
        | _ => cases hl
      · cases hb : mb ρ with
        | bad => rw [hb] at o; exact o
        | er c => rw [hb] at o; exact fun H' e => o H' (g1.e.trans e)
        | ok db =>
          rw [hb, R.bind_ok] at o
          intro y H3 H4 g2 vy
          have rl3 := rl2.grow g2
          cases hc : op da db with
          | bad => rw [hc] at o; exact o.elim
          | er c => exact absurd hc (cm _ _ _)
          | ok d =>
            rw [hc] at o
            exact h2 H3 H4 x y da db d rl3.s (Vw.vx rl3 (vx.mono g2.e0)) (Vw.vx rl3 vy) hc Q (Kq.grow o (g1.trans g2))
end
end Fc
set_option Elab.async false
set_option linter.all false
set_option maxRecDepth 100000
set_option maxHeartbeats 2000000
namespace Fc
open PySem L2 Evl PySem.Spec PyProof.Rows
/-! ### xs.count(y), xs.index(y) over data -/
def rCountD (K : Fr) : V → List V → Hp → VK → Prop := fun x xs H Q => ∃ (a : Addr) (y : V) (d : PyData) (ds : List PyData), x = V.ref a ∧ xs = [y] ∧ Dp K H (V.ref a) (.list ds) ∧ Dp K H y d ∧ SeqAt.shaped (.list ds) = true ∧ SeqAt.shaped d = true ∧ Q (.int (ds.countP fun z => PyData.eqv z d : Nat)) H
theorem mt_countD {X : Cx} (hu : X.A.units + 65 < cLine) : MtR X "list.count" (rCountD X.K) := by
  intro pins s σ H x xs v us Q I rx rxs h
  obtain ⟨a, y, d, ds, rfl, rfl, hl, hy, sl, sd, q⟩ := h
  cases rx
  cases rxs with
  | cons ry rt =>
    rename_i uy ut
    cases rt
    obtain ⟨bs, r1⟩ := Dp.reads I d y uy hy ry
    have hxs : PyData.canLayAll0 ds = true := SeqAt.canLay_of_shaped sl
    have hroom : X.A.units + 1 + min (PyData.depthAll ds) d.depth < cLine := room_in_shaped sd hu
    cases hl with
    | lst hs ha =>
      obtain ⟨its, rv, ⟨⟨cls, dd, data, sls⟩, n, ho, hc, hdn, hdt⟩, hlen⟩ := I.list hs
      simp only at hc hdt
      subst hc hdt
      obtain ⟨as, h4⟩ := Dp.readsAll I ds _ its ha rv
      have hmap : its.map (SeqAt.readOf s.heap) = ds := SeqAt.readsAll_map ds its as hxs h4
      refine call_meets PySem.F.slot_list_count ⟨_, ho, rfl⟩ PySem.F.entry_list_count (PySem.F.args_list_count_2 _ _)
        (SeqAt.list_countAt a its.toArray n dd sls uy (fun u => PyData.eqv (SeqAt.readOf s.heap u) d)) ⟨ho, SeqAt.items_eqAt (vs := its.toArray) (show ReadsAll s.heap its.toArray.toList ds as from h4) r1 hxs (SeqAt.canLay_of_shaped sd) hroom, ?_⟩
      refine ⟨.int (ds.countP fun z => PyData.eqv z d : Nat), H, I.tok _, ⟨s.toks, ?_⟩, q⟩
      have : its.toArray.toList.countP (fun u => PyData.eqv (SeqAt.readOf s.heap u) d) = ds.countP fun z => PyData.eqv z d := by
        rw [← hmap, List.countP_map] <;> rfl
      rw [this]
def dCount (x y : D) : R D := match x with
  | .list ds => if (SeqAt.shaped (.list ds) && SeqAt.shaped y) = true then .ok (.int (ds.countP fun z => PyData.eqv z y : Nat)) else .bad
  | _ => .bad
def dIndex (x y : D) : R D := match x with
  | .list ds => if (SeqAt.shaped (.list ds) && SeqAt.shaped y) = true then (match ds.findIdx? fun z => PyData.eqv z y with
    | some j => .ok (.int (j : Nat))
    | none => .bad) else .bad
  | _ => .bad
theorem cm_count : Calm2 dCount := fun x y c h => by
  unfold dCount at h
  split at h <;> first | cases h | (split at h <;> cases h)
theorem cm_index : Calm2 dIndex := fun x y c h => by
  unfold dIndex at h
  split at h
  · split at h
    · split at h <;> cases h
    · cases h
  · cases h
section
variable {X : Cx} {W : WX} {e a b c o tg it elt : Expr} {es : List Expr} {m ma mb mc mt : DE} {pos p1 p2 p3 p q : Pos}
variable {K : Fr} {mg : Str → Option Value} {B : Bs} {ρ : En} {σ : L2.St} {H0 H : Hp} {E : Ends}
theorem shaped_uns {d : D} (h : SeqAt.shaped d = true) : unS d = d := by
  cases d with
  | dict es =>
    have := SeqAt.canLay_of_shaped h
    simp [PyData.canLay0] at this
  | _ => rfl
theorem Vx.dps {v : V} {d : D} (s : Ex H0 H) (h : Vx K H0 H v d) (c : SeqAt.shaped d = true) : Dp K H v d := by
  have e := shaped_uns c
  have := h.dp s (by rw [e]; exact SeqAt.canLay_of_shaped c)
  rw [e] at this
  exact this
theorem md_count (hu : X.A.units + 100 < cLine) : MtD X "list.count" dCount := ⟨_, mt_countD (by omega), fun H0 H x y dx dy d s vx vy e Q kq => by
  unfold dCount at e
  split at e
  · split at e
    · rename_i ds h
      cases e
      obtain ⟨h1, h2⟩ := Bool.and_eq_true_iff.mp h
      have hl := vx.dps s h1
      obtain ⟨a, xs, rfl, _, _⟩ := vx.lst s
      exact ⟨a, y, dy, ds, rfl, rfl, hl, vy.dps s h2, h1, h2, kq _ H0 H (Gr.refl s) (.int _)⟩
    · cases e
  · cases e⟩
theorem md_index (hu : X.A.units + 100 < cLine) : MtD X "list.index" dIndex := ⟨_, mt_indexD (by omega), fun H0 H x y dx dy d s vx vy e Q kq => by
  unfold dIndex at e
  split at e
  · split at e
    · rename_i ds h
      obtain ⟨h1, h2⟩ := Bool.and_eq_true_iff.mp h
      split at e
      · rename_i j hj
        cases e
        have hl := vx.dps s h1
        obtain ⟨a, xs, rfl, _, _⟩ := vx.lst s
        obtain ⟨hjl, h3, h4⟩ := List.findIdx?_eq_some_iff_getElem.mp hj
        refine ⟨a, y, dy, ds, j, ds[j], rfl, rfl, hl, vy.dps s h2, h1, h2, List.getElem?_eq_getElem hjl, h3, fun m z hm hz => ?_, kq _ H0 H (Gr.refl s) (.int _)⟩
        obtain ⟨hml, rfl⟩ := List.getElem?_eq_some_iff.mp hz
        simpa using h4 m hm
      · cases e
    · cases e
  · cases e⟩
theorem pd_count {apos : Pos} (hu : X.A.units + 100 < cLine) (ha : PB X W a ma) (hb : PB X W b mb)
    (hbase : attributeBase a "count" X.env (eval a X.env) = eval a X.env := by rfl)
    (hfew : ((backTo pos (starEach [b] X.env)).all (fun x => !x.1) && (backToKw pos (keywordEach [] X.env)).all (fun x => x.1.isSome)
      && decide ([b].length + ([] : List Keyword).length + (if ([] : List Keyword).isEmpty then 0 else 1) < 30)) = true := by rfl)
    (hline : (apos.endLine == pos.line) = true := by rfl) (hs : starEach [b] X.env = (false, eval b X.env) :: starEach [] X.env := by rfl) (hplain : (backTo pos (starEach [] X.env)).any (·.1) = false := by rfl) :
    PD X W (.Call (.Attribute a "count" apos) [b] [] pos) (eMet dCount ma mb) := pd_met PySem.F.slot_list_count PySem.F.type_list_count (md_count hu) cm_count ha hb hbase hfew hline hs hplain
theorem pd_index {apos : Pos} (hu : X.A.units + 100 < cLine) (ha : PB X W a ma) (hb : PB X W b mb)
    (hbase : attributeBase a "index" X.env (eval a X.env) = eval a X.env := by rfl)
    (hfew : ((backTo pos (starEach [b] X.env)).all (fun x => !x.1) && (backToKw pos (keywordEach [] X.env)).all (fun x => x.1.isSome)
      && decide ([b].length + ([] : List Keyword).length + (if ([] : List Keyword).isEmpty then 0 else 1) < 30)) = true := by rfl)
    (hline : (apos.endLine == pos.line) = true := by rfl) (hs : starEach [b] X.env = (false, eval b X.env) :: starEach [] X.env := by rfl) (hplain : (backTo pos (starEach [] X.env)).any (·.1) = false := by rfl) :
    PD X W (.Call (.Attribute a "index" apos) [b] [] pos) (eMet dIndex ma mb) := pd_met PySem.F.slot_list_index PySem.F.type_list_index (md_index hu) cm_index ha hb hbase hfew hline hs hplain
/-! ### try: .. except C as e: return f(e) -/
def sTryR (M : DS) (T : Str → R D) : DS := fun ρ => match M ρ with
  | .er c _ => (match T c with
    | .ok d => .rt d
    | _ => .bad)
  | r => r
/-- what is known of f, called in the suite: of an exception of the class c it makes T c -/
structure TryF (P : Program) (w : World) (K : Fr) (mg : Str → Option Value) (base : Heap) (k : Nat) (f : Str) (cl : Value) (T : Str → R D) : Prop where
  fn : ∃ (fa : Addr) (fd : FuncData) (y : Str), mg f = some (.ref fa) ∧ PySem.W.keepIn K (.ref fa) = true ∧ Binds K fd [y] [] ∧
    ∀ (c : Str) (d : D), T c = .ok d → ∀ C, mg c = some (.ref C) → PySem.W.exmOne K (.ref C) cl = some true ∧
      ∀ (a : Addr) (oe : Obj), Zc (.ref C) none oe → (∃ vs, oe.data = .fields vs) → ∃ g, FnP P w K mg base k fa fd [y] (a, oe) (spX K a g) ∧ g [exD a] = .ok d
theorem sd_tryR {x n f : Str} {cl : Value} {i k : Nat} {body : List Stmt} {np pos' pe1 pe2 pe3 pr : Pos} {M : DS} {T : Str → R D} (hs : X.stack = X.env :: X.outer) (hfr : X.env.frame = some X.env.locals) (hN : X.N.Nodup) (hi : X.N[i]? = some n) (hln : X.env.kindOf n = some .local) (hnl : X.env.scope.names.lookup n = some .local)
    (hc : Names X x cl) (tk : Takes X W) (hr : L2H.RoomH k X.A) (F : TryF X.prog X.w X.K X.mg X.base k f cl T) (hgf : Gl X f) (hd : (f == ("__debug__" : Str)) = false) (hdn : (n == ("__debug__" : Str)) = false) (hdc : (n == ("__classdict__" : Str)) = false)
    (hb : ∀ (W' : WX) (pn : List (Addr × Obj)) (xe : Value → Shared → Prop), Takes (X.tr pn xe) W' → PassesOwn (model X.prog X.w) X.A X.env xe → SsD (X.tr pn xe) W' body M)
    (hse : ∀ a pn, starEach [.Name n pe1] (X.suite a pn).env = (false, eval (.Name n pe1) (X.suite a pn).env) :: starEach [] (X.suite a pn).env := by intro _ _; rfl) (hpl : ∀ a pn, (backTo pe3 (starEach [] (X.suite a pn).env)).any (·.1) = false := by intro _ _; rfl) :
    SD X W (.Try body [.ExceptHandler (some (.Name x np)) (some n) [.Return (some (.Call (.Name f pe2) [.Name n pe1] [] pe3)) pr] pos'] [] [] pos) (sTryR M T) := by
  obtain ⟨fa, fd, y, hm, hk, hbd, hT⟩ := F.fn
  let ts : Addr → Value → Option Addr → TS := fun a cls dd => fun E σ H => dd = none ∧ ∃ c C d, cls = .ref C ∧ X.mg c = some (.ref C) ∧ T c = .ok d ∧ (∃ σ0 : L2.St, σ = σ0.set i (some (.ref a))) ∧ ∃ H0, Ex H0 H ∧ Kq false X.K H0 H d E.rt
  refine (ps_try_as (ts := ts) (tb := fun W' => tS X.K X.mg W' M) hs hfr hN hi hln hc tk (fun W' pn xe t p => hb W' pn xe t p) fun a oe cls dd pn hz hv => ?_).wk fun E σ H ⟨B, ρ, H0, rl, o⟩ => ⟨B, ρ, H0, rl, ?_⟩
  · refine ⟨fun pins s σ H E I h => ?_⟩
    obtain ⟨rfl, c, C, d, rfl, hcC, hTc, ⟨σ0, hσ0⟩, H0, s0, kq⟩ := h
    have hσ : σ[i]? = some (some (.ref a)) := by
      have hl : σ.length = X.N.length := I.len
      have hin := (List.getElem?_eq_some_iff.mp hi).1
      have hil : i < σ0.length := by
        rw [hσ0, List.length_set] at hl
        omega
      rw [hσ0]
      simp [hil]
    obtain ⟨_, hF⟩ := hT c d hTc C hcC
    obtain ⟨g, hF, hg⟩ := hF a oe hz hv
    have hp := pe_callP (X := X.suite a ((a, oe) :: pn)) (x := f) (q := pe2) (pos := pe3) (e := .Name n pe1) (es := []) hF ⟨hr.dp, hr.un⟩ List.mem_cons_self hgf hm hk hbd (pa_cons (pv i hi (.inl hnl) hdn hdc) pa_nil (hse _ _)) hd (hse _ _) (hpl _ _)
    exact (pss_one (ps_ret (pos := pr) hp)).run pins s σ H E I ⟨.ref a, hσ, rfl, d, H0, s0, hg, kq⟩
  · unfold sTryR at o
    cases hM : M ρ with
    | nx ρ' => rw [hM] at o; exact o
    | bk ρ' => rw [hM] at o; exact o
    | ct ρ' => rw [hM] at o; exact o
    | rt d => rw [hM] at o; exact o
    | bad => rw [hM] at o; exact o
    | er c ρ' =>
      rw [hM] at o
      cases hTc : T c with
      | bad => simp only [hTc] at o; exact o.elim
      | er c' => simp only [hTc] at o; exact o.elim
      | ok d =>
        simp only [hTc] at o
        intro σ1 H1 H2 rl2 C hC
        refine ⟨true, (hT c d hTc C hC).1, fun _ a ha => ?_, fun z => nomatch z⟩
        exact ⟨rfl, c, C, d, rfl, hC, hTc, ⟨_, rfl⟩, H1, rl2.s, fun v H0' H' g rp => o v H0' H' (rl2.gr.trans g) rp⟩
end
end Fc
set_option Elab.async false
set_option linter.all false
set_option maxRecDepth 100000
set_option maxHeartbeats 2000000
namespace Fc
open PySem L2 Evl PySem.Spec PyProof.Rows
section
variable {X : Cx} {W : WX} {e a b c o tg it elt : Expr} {es : List Expr} {m ma mb mc mt : DE} {pos p1 p2 p3 p q : Pos}
variable {K : Fr} {mg : Str → Option Value} {B : Bs} {ρ : En} {σ : L2.St} {H0 H : Hp} {E : Ends}
/-! ### an owned list is extended -/
def sExt (i : Nat) (m : DE) : DS := fun ρ => match ρ[i]? with
  | some (.ow (.list ds)) => sE m (fun d ρ => match d with
    | .list es => if szB (ds.length + es.length) = true then .nx (ρ.set i (.ow (.list (ds ++ es)))) else .bad
    | _ => .bad) ρ
  | _ => .bad
theorem sd_ext {i : Nat} {x : Str} {apos cpos : Pos} (hx : PE X (.Name x p1) (tVar i)) (he : PD X W e m) (hsw : swapsWith (.Call (.Attribute (.Name x p1) "extend" apos) [e] [] cpos) none pos.line X.env = pure false := by rfl)
    (hbase : attributeBase (.Name x p1) "extend" X.env (eval (.Name x p1) X.env) = eval (.Name x p1) X.env := by rfl)
    (hfew : ((backTo cpos (starEach [e] X.env)).all (fun x => !x.1) && (backToKw cpos (keywordEach [] X.env)).all (fun x => x.1.isSome)
      && decide ([e].length + ([] : List Keyword).length + (if ([] : List Keyword).isEmpty then 0 else 1) < 30)) = true := by rfl)
    (hline : (apos.endLine == cpos.line) = true := by rfl) (hs : starEach [e] X.env = (false, eval e X.env) :: starEach [] X.env := by rfl) :
    SD X W (.Expr (.Call (.Attribute (.Name x p1) "extend" apos) [e] [] cpos) pos) (sExt i m) :=
  (ps_expr (pe_bm PySem.F.plainAttrs_list PySem.F.slot_list_extend PySem.F.type_list_extend mt_extend hx (pa_cons he pa_nil hs) hbase hfew hline hs rfl) hsw).wk fun E σ H q => by
    obtain ⟨B, ρ, H0, r, o⟩ := q
    unfold sExt at o
    split at o
    · rename_i l hi
      obtain ⟨p, ob, q1, q4, q5⟩ := own_at r hi
      rcases q5 with ⟨xs, ds, rfl, e2, rs⟩ | ⟨_, _, _, e2, _⟩
      · cases e2
        refine ⟨.ref p, q1, .inl ⟨rfl, xs, SqL.of q4⟩, B, ρ, H0, r, ?_⟩
        unfold sE at o
        cases hm : m ρ with
        | bad => rw [hm] at o; exact o.elim
        | er c => rw [hm] at o; exact ends_er r o
        | ok d =>
          rw [hm] at o
          simp only at o
          split at o
          · rename_i es
            split at o
            · rename_i hz
              intro v H1 H2 g rp
              have r2 := r.grow g
              cases rp with
              | lst h1 h2 =>
                rename_i b ys
                refine ⟨p, b, xs, ys, rfl, rfl, g.e _ _ q4, g.s _ _ h1, szB_ok (by rw [rs.length, h2.length]; exact hz), ?_⟩
                exact o _ H1 _ (r2.mutO hi q1 (.inl ⟨_, _, rfl, rfl, (rs.mono g.e0).append h2⟩))
            · exact o.elim
          · exact o.elim
      · cases e2
    · exact o.elim
/-! ### list(range(..)) -/
def rgB (a b : Int) : Bool := decide (-100000 ≤ a ∧ a ≤ 100000 ∧ -100000 ≤ b ∧ b ≤ 100000)
def dLRg1 : D → R D
  | .int n => if rgB 0 n = true then .ok (.list (rngD 0 n.toNat)) else .bad
  | _ => .bad
def dLRg2 : D → D → R D
  | .int a, .int b => if rgB a b = true then .ok (.list (rngD a (b - a).toNat)) else .bad
  | _, _ => .bad
theorem rgB_ok {a b : Int} (h : rgB a b = true) : RgOk a b := by
  have h := of_decide_eq_true h
  exact ⟨by omega, by omega, by omega, by omega, by omega⟩
theorem rgV_rp (a : Int) (n : Nat) : RpA K H ((List.range n).map fun i => V.int (a + (i : Nat))) (rngD a n) := by
  unfold rngD
  induction List.range n with
  | nil => exact .nil
  | cons x l ih => exact .cons (.int _) ih
theorem pf_listRg1 (hc : X.calm = true) (hg : Gl X "list") (hm : X.mg "list" = none) (hg2 : Gl X "range") (hm2 : X.mg "range" = none) (ha : PB X W a ma)
    (na : starEach [a] X.env = (false, eval a X.env) :: starEach [] X.env := by rfl) (nb : starEach [.Call (.Name "range" p) [a] [] q] X.env = (false, eval (.Call (.Name "range" p) [a] [] q) X.env) :: starEach [] X.env := by rfl) :
    PF X W (.Call (.Name "list" p1) [.Call (.Name "range" p) [a] [] q] [] pos) (eU dLRg1 ma) := (pe_listRg hc hg hm (prg_1 hg2 hm2 ha na) nb).wk fun σ H Q h =>
  t_un (t := fun x H1 Q => ∃ n, x = .int n ∧ (RgOk 0 n ∧ ∀ q, H1 q = none → Q (.ref q) (upd H1 q (.lst (rgV 0 n))))) (fun d c z => by unfold dLRg1 at z; split at z <;> first | cases z | (split at z <;> cases z)) (fun H0 H x dx d s vx e Q kq => by
    unfold dLRg1 at e
    split at e
    · split at e
      · rename_i n hn
        cases e
        refine ⟨n, vx.int, rgB_ok hn, fun l hl => ?_⟩
        have := rgV_rp (K := X.K) (H := H0) 0 n.toNat
        have e2 : rgV 0 n = (List.range n.toNat).map fun i => V.int (0 + (i : Nat)) := by
          unfold rgV
          rw [Int.sub_zero]
        rw [e2]
        exact kq.newL s this hl
      · cases e
    · cases e) h
theorem pf_listRg2 (hc : X.calm = true) (hg : Gl X "list") (hm : X.mg "list" = none) (hg2 : Gl X "range") (hm2 : X.mg "range" = none) (ha : PB X W a ma) (hb : PB X W b mb)
    (na : starEach [a, b] X.env = (false, eval a X.env) :: starEach [b] X.env := by rfl) (nb : starEach [b] X.env = (false, eval b X.env) :: starEach [] X.env := by rfl) (hp : (backTo q (starEach [b] X.env)).any (·.1) = false := by rfl)
    (nc : starEach [.Call (.Name "range" p) [a, b] [] q] X.env = (false, eval (.Call (.Name "range" p) [a, b] [] q) X.env) :: starEach [] X.env := by rfl) :
    PF X W (.Call (.Name "list" p1) [.Call (.Name "range" p) [a, b] [] q] [] pos) (eBin dLRg2 ma mb) := (pe_listRg hc hg hm (prg_2 hg2 hm2 ha hb na nb hp) nc).wk fun σ H Q h =>
  t_bin (r := fun x y H1 Q => ∃ i j, x = .int i ∧ y = .int j ∧ (RgOk i j ∧ ∀ q, H1 q = none → Q (.ref q) (upd H1 q (.lst (rgV i j))))) (fun x y c z => by unfold dLRg2 at z; split at z <;> first | cases z | (split at z <;> cases z)) (fun H0 H x y dx dy d s vx vy e Q kq => by
    unfold dLRg2 at e
    split at e
    · split at e
      · rename_i i j hn
        cases e
        exact ⟨i, j, vx.int, vy.int, rgB_ok hn, fun l hl => kq.newL s (rgV_rp i (j - i).toNat) hl⟩
      · cases e
    · cases e) h
/-! ### a, b = e1, e2 -/
theorem sd_par {i j : Nat} {x y : Str} {px py pt : Pos} {kt k2 : Nat} {pt2 : Pos} (hc : X.calm = true) (hN : X.N.Nodup) (hi : X.N[i]? = some x) (hj : X.N[j]? = some y) (hij : i ≠ j)
    (hx : X.env.scope.names.lookup x = some .local) (hy : X.env.scope.names.lookup y = some .local) (ha : PD X W a ma) (hb : PD X W b mb)
    (h1 : starEach [a, b] X.env = (false, eval a X.env) :: starEach [b] X.env := by rfl) (h2 : starEach [b] X.env = (false, eval b X.env) :: starEach [] X.env := by rfl)
    (hw : swappedStores [.Tuple [.Name x px, .Name y py] kt pt] (.Tuple [a, b] k2 pt2) X.env = pure (some [x, y]) := by rfl)
    (hs : swapsWithSole [.Tuple [.Name x px, .Name y py] kt pt] (.Tuple [a, b] k2 pt2) pos.line X.env = pure false := by rfl) :
    SD X W (.Assign [.Tuple [.Name x px, .Name y py] kt pt] (.Tuple [a, b] k2 pt2) pos) (sPar i j ma mb) := (ps_par hc hN hi hj hij hx hy (af_cons ha (af_cons hb af_nil h2) h1) hw hs).wk fun E σ H ⟨B, ρ, H0, r, o⟩ => by
  refine ⟨B, ρ, H0, r, ?_⟩
  unfold sPar at o
  cases h : aCons ma (aCons mb aNil) ρ with
  | bad => rw [h] at o; exact o.elim
  | er c => rw [h] at o; exact ends_er r o
  | ok ds =>
    rw [h] at o
    intro vs H1 H2 g ra
    split at o
    · rename_i z
      cases z
      cases ra with
      | cons rx ra =>
        cases ra with
        | cons ry ra =>
          cases ra
          exact ⟨_, _, rfl, o _ H1 H2 (((r.grow g).setF rx).setF ry)⟩
    · rename_i z
      cases z
    · exact o.elim
/-! ### [f, g][i](args) -/
inductive Pk (X : Cx) (k n : Nat) : List Expr → List (List D → R D) → Prop
  | nil : Pk X k n [] []
  | cons {es : List Expr} {gs : List (List D → R D)} {x : Str} {p : Pos} {k' : Nat} {ps : List Str} {g : List D → R D} : OkF X.prog X.w X.K X.mg X.base k' x ps g → k' ≤ k → ps.length = n → Gl X x → (x == ("__debug__" : Str)) = false → starEach (.Name x p :: es) X.env = (false, eval (.Name x p) X.env) :: starEach es X.env → Pk X k n es gs → Pk X k n (.Name x p :: es) (g :: gs)
def ePick (gs : List (List D → R D)) (mi : DE) (ms : DA) : DE := fun ρ => (mi ρ).bind fun d => match d with
  | .int j => (match atI gs j with
    | some g => (ms ρ).bind g
    | none => .bad)
  | _ => .bad
/-- what the functions' list holds -/
def PkV (X : Cx) (k n : Nat) (v : V) (g : List D → R D) : Prop := ∃ (f : Addr) (fd : FuncData) (k' : Nat) (ps : List Str), v = .ref f ∧ k' ≤ k ∧ ps.length = n ∧ FnD X.prog X.w X.K X.mg X.base k' f fd ps g ∧ Binds X.K fd ps [] ∧ PySem.W.keepIn X.K (.ref f) = true
theorem Pk.args {k n : Nat} : ∀ {es : List Expr} {gs : List (List D → R D)}, Pk X k n es gs → ∃ vs : List V, vs.length = gs.length ∧ (∀ (j : Nat) (g : List D → R D), gs[j]? = some g → ∃ v, vs[j]? = some v ∧ PkV X k n v g) ∧ PA X es (fun σ H Q => Q vs H)
  | _, _, .nil => ⟨[], rfl, fun j g h => by simp at h, pa_nil⟩
  | _, _, .cons (g := g) (p := p) o hk hn hg hd hs r => by
    obtain ⟨vs, h1, h2, h3⟩ := Pk.args r
    obtain ⟨fd, F, b, m, kp⟩ := o
    refine ⟨.ref _ :: vs, by simp [h1], fun j g' h => ?_, (pa_cons (pe_glob (v := .ref _) hg m rfl hd) h3 hs)⟩
    cases j with
    | zero =>
      simp only [List.getElem?_cons_zero, Option.some.injEq] at h
      subst h
      exact ⟨_, rfl, _, _, _, _, rfl, hk, hn, F, b, kp⟩
    | succ j => exact h2 j g' (by simpa using h)
end
end Fc
set_option Elab.async false
set_option linter.all false
set_option maxRecDepth 100000
set_option maxHeartbeats 2000000
namespace Fc
open PySem L2 Evl PySem.Spec PyProof.Rows
section
variable {X : Cx} {W : WX} {e a b c o tg it elt ie : Expr} {es as : List Expr} {m ma mb mc mt mi : DE} {ms : DA} {pos p1 p2 p3 p q : Pos} {gs : List (List D → R D)}
theorem pd_pick {k n : Nat} {lp : Pos} (G : Pk X k n es gs) (tk : Takes X W) (hr : Room k X.A) (hz : es.length ≤ 100) (hgl : gs.length ≤ 100) (hi : PB X W ie mi) (hs : PlainIx ie) (hlen : ∀ ρ ds, ms ρ = .ok ds → ds.length = n) (ha : PAf X W (a :: as) ms)
    (he : starEach (a :: as) X.env = (false, eval a X.env) :: starEach as X.env := by rfl) (hpl : (backTo pos (starEach as X.env)).any (·.1) = false := by rfl)
    (hev : eval (.Call (.Subscript (.List es lp) ie p1) (a :: as) [] pos) X.env = (do callWith pos (← eval (.Subscript (.List es lp) ie p1) X.env) [] (backTo pos (starEach (a :: as) X.env)) (backToKw pos (keywordEach [] X.env))) := by rfl) :
    PD X W (.Call (.Subscript (.List es lp) ie p1) (a :: as) [] pos) (ePick gs mi ms) := by
  obtain ⟨vs, hvl, hv, hpa⟩ := G.args
  have hf := pe_ix (pos := p1) ix_list (pe_lst (pos := lp) hpa) hi hs
  refine ⟨fun pins s σ H Q I h => ?_⟩
  obtain ⟨B, ρ, H0, rl, o⟩ := h
  unfold ePick at o
  have step : tOp (rIxL X.K) (tLst fun σ H Q => Q vs H) (tW X.K X.mg W mi) σ H fun v H1 => ∃ g, PkV X k n v g ∧ tE false X.K X.mg W (eDef g ms) σ H1 Q := by
    refine ⟨Nat.le_trans (by omega : vs.length ≤ 100) (by decide), fun l hl => ?_⟩
    have g0 : Gr H0 H H0 (upd H l (.lst vs)) := ⟨Ex.refl _, Ex.new hl, rl.s.trans (Ex.new hl), fun _ _ h => h⟩
    have rl1 := rl.grow g0
    refine ⟨B, ρ, H0, rl1, ?_⟩
    cases hm : mi ρ with
    | bad => rw [hm] at o; exact o.elim
    | er c => rw [hm] at o; exact fun H' e => o H' (g0.e.trans e)
    | ok d =>
      rw [hm, R.bind_ok] at o
      intro y H1 H2 g vy
      split at o
      · rename_i j
        split at o
        · rename_i g' hg'
          obtain ⟨jn, j1, j2, j3, _, _⟩ := atI_get hg'
          obtain ⟨v, v1, v2⟩ := hv jn g' j2
          have e1 : atI vs j = some v := by
            unfold atI at hg' ⊢
            rw [hvl]
            cases hix : ixN gs.length j with
            | none => rw [hix] at hg'; cases hg'
            | some jm =>
              have := (ixN_seq hix).1
              rw [j1] at this
              cases this
              exact v1
          have hl2 : H2 l = some (.lst vs) := g.e _ _ upd_same
          refine ⟨l, vs, j, v, rfl, (Vw.vx (rl1.grow g) vy).int, SqL.of hl2, e1, g', v2, B, ρ, H1, rl1.grow g, ?_⟩
          unfold eDef
          exact o.imp (fun d kq => Kq.grow (k := false) kq (g0.trans g)) fun c kq H' e => kq H' ((g0.e.trans g.e).trans e)
        · exact o.elim
      · exact o.elim
  refine Call_ (thn (hf.run pins s σ H _ I step) fun f s1 ⟨v, H1, I1, r1, g', pk, q1⟩ => ?_) hev
  obtain ⟨fa, fd, k', ps, rfl, hk', hn, F, hb, kp⟩ := pk
  obtain rfl : f = Value.ref fa := r1
  have q2 := t_def (k := k') (n := ps.length) (fun ρ ds z => by rw [hn]; exact hlen ρ ds z) q1
  refine PySem.W.callWith_K (h₀ := X.base) I1.ok.mod.kin kp (thn (ha.run pos pins s1 σ H1 _ I1 q2) fun us s2 ⟨vs2, H2, I2, r2, q3⟩ => ⟨I2.kIn, ?_⟩) he hpl
  exact run_fnS F (hr.mono hk') hb (passAt tk σ) I2 r2 q3
end
end Fc
set_option Elab.async false
set_option linter.all false
set_option maxRecDepth 100000
set_option maxHeartbeats 2000000
namespace Fc
open PySem L2 Evl PySem.Spec PyProof.Rows
open RZ (nextOf_tuple_item nextOf_tuple_end)
/-! ### enumerate(zip(s, t)), s and t tuples -/
abbrev IsZipG (h : Heap) (z TI TO : Addr) (c : Value) (f : Bool) : Prop := h.get? z = some { cls := .type "zip", dict := none, data := .fields #[c, .bool f, .bool false, .ref TI, .ref TO], slots := #[] }
def outV (c : Value) : Prop := c = .none ∨ ∃ T : Addr, c = rawInt T
structure ZS (h : Heap) (z TI TO i1 i2 l1 l2 : Addr) (k : Nat) : Prop where
  z : ∃ c f, IsZipG h z TI TO c f ∧ outV c
  ti : IsPair h TI (.ref i1) (.ref i2)
  to : ∃ a b, IsPair h TO a b
  h1 : h.IsTupleIter i1 l1 k
  h2 : h.IsTupleIter i2 l2 k
section
variable {prog : Program} {w : World} {A : Around} {E : Value → Shared → Prop} {s : Shared}
theorem alive_any {a : Addr} {Q : Option Obj → Shared → Prop} (h : Q (s.heap.get? a) s) : wpAny (model prog w) A (loadIfAlive a) Q E s := fun _ _ _ => h
theorem isFreeG {z TI TO : Addr} {c : Value} {f : Bool} {Q : Bool → Shared → Prop} (hz : IsZipG s.heap z TI TO c f) (hc : outV c) (hT : Q true s)
    (hF : ∀ h', IsZipG h' z TI TO c true → Heap.SameBut z s.heap h' → Q false { s with heap := h' }) : wpAny (model prog w) A (Builtin.SmallTypes.ownedTupleIsFree (.ref z)) Q E s := by
  unfold Builtin.SmallTypes.ownedTupleIsFree
  rcases hc with rfl | ⟨T, rfl⟩
  · exact wpAny_bind (wpAny_field hz rfl (x := .none) rfl (wpAny_pure hT))
  · refine wpAny_bind (wpAny_field hz rfl (x := rawInt T) rfl ?_)
    show wpAny _ _ (loadIfAlive ((T : Int).toNat) >>= _) _ _ _
    rw [Int.toNat_natCast]
    refine wpAny_bind (alive_any ?_)
    cases hg : s.heap.get? T with
    | none =>
      simp only [Option.isNone_none, if_true]
      exact wpAny_pure hT
    | some oT =>
      simp only [Option.isNone_some, Bool.false_eq_true, if_false]
      refine wpAny_bind (wpAny_field hz rfl (x := .bool f) rfl ?_)
      cases f with
      | true =>
        rw [if_neg (show ¬ ((Value.bool true != Value.bool true) = true) from Bool.false_ne_true)]
        exact wpAny_pure (hF s.heap hz (Heap.SameBut.refl _ _))
      | false =>
        rw [if_pos (show (Value.bool false != Value.bool true) = true from rfl)]
        exact wpAny_bind (wpAny_setField_rec hz (by simp) fun h₁ hz₁ hs₁ => wpAny_pure (hF h₁ hz₁ hs₁))
theorem zipZ_item {z TI TO i1 i2 l1 l2 : Addr} {k : Nat} {xs ys : Array Value} {x y : Value} {Q : Value → Shared → Prop} (D : ZipApart z TI TO i1 i2 l1 l2)
    (S : ZS s.heap z TI TO i1 i2 l1 l2 k) (hl1 : s.heap.IsTuple l1 xs) (hl2 : s.heap.IsTuple l2 ys) (hx : xs[k]? = some x) (hy : ys[k]? = some y)
    (hQ : ∀ h', ZS h' z TI TO i1 i2 l1 l2 (k + 1) → IsPair h' s.heap.objs.size x y → h'.objs.size = s.heap.objs.size + 1 →
      (∀ c o, c ≠ z → c ≠ TO → c ≠ i1 → c ≠ i2 → s.heap.get? c = some o → h'.get? c = some o) → Q (.ref s.heap.objs.size) { s with heap := h' }) :
    wpAny (model prog w) A (Builtin.«zip.__next__» ⟨[.ref z], []⟩) (fun fin s' => ∃ v, fin = .done (.ret v) ∧ Q v s') E s := by
  obtain ⟨⟨c, f, hz, hc⟩, hTI, ⟨a, b, hTO⟩, h1, h2⟩ := S
  show wpAny _ _ (field (.ref z) 2 >>= _) _ _ _
  refine wpAny_bind (wpAny_field hz rfl (x := .bool false) rfl ?_)
  show wpAny _ _ (field (.ref z) 3 >>= _) _ _ _
  refine wpAny_bind (wpAny_field hz rfl (x := .ref TI) rfl ?_)
  refine wpAny_bind (wpAny_seqItems hTI rfl ?_)
  show wpAny _ _ (Builtin.SmallTypes.ownedTupleIsFree (.ref z) >>= _) _ _ _
  refine wpAny_bind (isFreeG hz hc ?_ fun h₁ hz₁ hs₁ => ?_)
  · -- its tuple is free
    simp only [if_true]
    refine wpAny_bind (wpAny_rule ?_)
    refine wpAny_bind (wpAny_field hz rfl (x := .ref TO) rfl ?_)
    refine wpAny_bind (wpAny_setField_rec hz (by simp) fun h₁ hz₁ hs₁ => ?_)
    replace hz₁ : IsZipG h₁ z TI TO .ellipsis f := hz₁
    refine wpAny_bind ?_
    simp only [List.zipIdx_cons, List.zipIdx_nil, List.forIn_cons, List.forIn_nil]
    refine wpAny_bind (wpAny_bind (wpAny_onRaise ?_))
    show wpAny _ _ (Builtin.SmallTypes.nextOf (.ref i1) >>= _) _ _ _
    refine wpAny_bind (nextOf_tuple_item (h1.extBut hs₁.extBut D.i1z) (hl1.extBut hs₁.extBut D.l1z) hx fun h₂ h1₂ hs₂ => wpAny_pure ?_)
    have hTO₂ : IsPair h₂ TO a b := hs₂.extBut _ _ D.TOi1 (hs₁.extBut _ _ D.TOz hTO)
    refine wpAny_bind (wpAny_seqItems hTO₂ rfl ?_)
    refine wpAny_bind (wpAny_updateSeq_pair hTO₂ fun h₃ hTO₃ hs₃ => ?_)
    replace hTO₃ : IsPair h₃ TO x b := hTO₃
    refine wpAny_bind (wpAny_letGo (wpAny_pure ?_))
    refine wpAny_bind (wpAny_bind (wpAny_onRaise ?_))
    show wpAny _ _ (Builtin.SmallTypes.nextOf (.ref i2) >>= _) _ _ _
    refine wpAny_bind (nextOf_tuple_item (((h2.extBut hs₁.extBut D.i2z).extBut hs₂.extBut D.i12.symm).extBut hs₃.extBut D.TOi2.symm)
      (((hl2.extBut hs₁.extBut D.l2z).extBut hs₂.extBut D.l2i1).extBut hs₃.extBut D.l2TO) hy fun h₄ h2₄ hs₄ => wpAny_pure ?_)
    have hTO₄ : IsPair h₄ TO x b := hs₄.extBut _ _ D.TOi2 hTO₃
    refine wpAny_bind (wpAny_seqItems hTO₄ rfl ?_)
    refine wpAny_bind (wpAny_updateSeq_pair hTO₄ fun h₅ hTO₅ hs₅ => ?_)
    replace hTO₅ : IsPair h₅ TO x y := hTO₅
    refine wpAny_bind (wpAny_letGo (wpAny_pure (wpAny_pure ?_)))
    refine wpAny_bind (wpAny_seqItems hTO₅ rfl ?_)
    refine wpAny_bind (wpAny_newTuple ?_)
    have hsz : h₅.objs.size = s.heap.objs.size := by rw [hs₅.1, hs₄.1, hs₃.1, hs₂.1, hs₁.1]
    have hz₅ : IsZipG h₅ z TI TO .ellipsis f := hs₅.extBut _ _ D.TOz.symm (hs₄.extBut _ _ D.i2z.symm (hs₃.extBut _ _ D.TOz.symm (hs₂.extBut _ _ D.i1z.symm hz₁)))
    have hk₅ : ∀ c o, c ≠ z → c ≠ TO → c ≠ i1 → c ≠ i2 → s.heap.get? c = some o → h₅.get? c = some o := fun c o c1 c2 c3 c4 e =>
      hs₅.extBut _ _ c2 (hs₄.extBut _ _ c4 (hs₃.extBut _ _ c2 (hs₂.extBut _ _ c3 (hs₁.extBut _ _ c1 e))))
    have h1₅ : h₅.IsTupleIter i1 l1 (k + 1) := ((h1₂.extBut hs₃.extBut D.TOi1.symm).extBut hs₄.extBut D.i12).extBut hs₅.extBut D.TOi1.symm
    have h2₅ : h₅.IsTupleIter i2 l2 (k + 1) := h2₄.extBut hs₅.extBut D.TOi2.symm
    have hzlt : z < h₅.objs.size := Heap.lt_size hz₅
    show wpAny _ _ (Builtin.SmallTypes.ownedTupleHandOut (.ref z) (.ref h₅.objs.size) >>= _) _ _ _
    refine wpAny_bind ?_
    unfold Builtin.SmallTypes.ownedTupleHandOut
    have hz₆ : IsZipG (h₅.push { cls := .type "tuple", data := .seq #[x, y] }) z TI TO .ellipsis f := Heap.get?_push_of_some _ hz₅
    refine wpAny_bind (wpAny_setField_rec hz₆ (by simp) fun h₇ hz₇ hs₇ => ?_)
    replace hz₇ : IsZipG h₇ z TI TO (rawInt h₅.objs.size) f := hz₇
    refine wpAny_setField_rec hz₇ (by simp) fun h₈ hz₈ hs₈ => ?_
    replace hz₈ : IsZipG h₈ z TI TO (rawInt h₅.objs.size) false := hz₈
    have up : ∀ c o, c ≠ z → h₅.get? c = some o → h₈.get? c = some o := fun c o c1 e => hs₈.extBut _ _ c1 (hs₇.extBut _ _ c1 (Heap.get?_push_of_some _ e))
    have hT₈ : IsPair h₈ h₅.objs.size x y := hs₈.extBut _ _ (Nat.ne_of_gt hzlt) (hs₇.extBut _ _ (Nat.ne_of_gt hzlt) (Heap.get?_push_size _ rfl))
    have hz8 : h₈.objs.size = h₅.objs.size + 1 := by rw [hs₈.1, hs₇.1, Heap.size_push]
    have hTI₈ : IsPair h₈ TI (.ref i1) (.ref i2) := up _ _ D.TIz (hk₅ _ _ D.TIz D.TITO D.TIi1 D.TIi2 hTI)
    rw [hsz] at hT₈ hz8
    refine wpAny_pure ⟨_, rfl, ?_⟩
    show Q (.ref h₅.objs.size) _
    rw [hsz]
    exact hQ h₈ ⟨⟨_, _, hz₈, .inr ⟨_, rfl⟩⟩, hTI₈, ⟨_, _, up _ _ D.TOz hTO₅⟩, h1₅.at fun o e => up _ o D.i1z e, h2₅.at fun o e => up _ o D.i2z e⟩ hT₈ hz8 fun c o c1 c2 c3 c4 e => up c o c1 (hk₅ c o c1 c2 c3 c4 e)
  · -- its tuple is held
    simp only [Bool.false_eq_true, if_false]
    refine wpAny_bind ?_
    rw [← Array.forIn_toList]
    simp only [List.forIn_cons, List.forIn_nil]
    refine wpAny_bind (wpAny_bind (wpAny_holding ?_))
    show wpAny _ _ (Builtin.SmallTypes.nextOf (.ref i1) >>= _) _ _ _
    refine wpAny_bind (nextOf_tuple_item (s := { s with heap := h₁ }) (h1.extBut hs₁.extBut D.i1z) (hl1.extBut hs₁.extBut D.l1z) hx fun h₂ h1₂ hs₂ => wpAny_pure ?_)
    refine wpAny_pure ?_
    refine wpAny_bind (wpAny_bind (wpAny_holding ?_))
    show wpAny _ _ (Builtin.SmallTypes.nextOf (.ref i2) >>= _) _ _ _
    refine wpAny_bind (nextOf_tuple_item (s := { s with heap := h₂ }) ((h2.extBut hs₁.extBut D.i2z).extBut hs₂.extBut D.i12.symm) ((hl2.extBut hs₁.extBut D.l2z).extBut hs₂.extBut D.l2i1) hy fun h₃ h2₃ hs₃ => wpAny_pure ?_)
    refine wpAny_pure (wpAny_pure ?_)
    show wpAny _ _ (newTuple [x, y] >>= _) _ _ _
    refine wpAny_bind (wpAny_newTuple ?_)
    have hsz : h₃.objs.size = s.heap.objs.size := by rw [hs₃.1, hs₂.1, hs₁.1]
    have hz₃ : IsZipG h₃ z TI TO c true := hs₃.extBut _ _ D.i2z.symm (hs₂.extBut _ _ D.i1z.symm hz₁)
    have hk : ∀ c o, c ≠ z → c ≠ i1 → c ≠ i2 → s.heap.get? c = some o → h₃.get? c = some o := fun c o c1 c2 c3 e => hs₃.extBut _ _ c3 (hs₂.extBut _ _ c2 (hs₁.extBut _ _ c1 e))
    have h1₃ : h₃.IsTupleIter i1 l1 (k + 1) := h1₂.extBut hs₃.extBut D.i12
    refine wpAny_pure ⟨_, rfl, ?_⟩
    show Q (.ref h₃.objs.size) _
    have hp : IsPair (h₃.push { cls := .type "tuple", data := .seq #[x, y] }) h₃.objs.size x y := Heap.get?_push_size _ rfl
    have hz4 : (h₃.push { cls := .type "tuple", data := .seq #[x, y] }).objs.size = h₃.objs.size + 1 := Heap.size_push ..
    rw [hsz] at hp hz4 ⊢
    exact hQ _ ⟨⟨c, true, Heap.get?_push_of_some _ hz₃, hc⟩, Heap.get?_push_of_some _ (hk _ _ D.TIz D.TIi1 D.TIi2 hTI), ⟨a, b, Heap.get?_push_of_some _ (hk _ _ D.TOz D.TOi1 D.TOi2 hTO)⟩, h1₃.at fun o e => Heap.get?_push_of_some _ e, h2₃.at fun o e => Heap.get?_push_of_some _ e⟩ hp hz4 fun c o c1 _ c2 c3 e => Heap.get?_push_of_some _ (hk c o c1 c2 c3 e)
theorem zipZ_end {z TI TO i1 i2 l1 l2 : Addr} {k : Nat} {xs ys : Array Value} {Q : Fin → Shared → Prop} (hh : A.handled = none) (D : ZipApart z TI TO i1 i2 l1 l2)
    (S : ZS s.heap z TI TO i1 i2 l1 l2 k) (hl1 : s.heap.IsTuple l1 xs) (hl2 : s.heap.IsTuple l2 ys) (hend : xs[k]? = none ∨ ys[k]? = none)
    (hE : ∀ h' e, (∀ c o, c ≠ z → c ≠ TO → c ≠ i1 → c ≠ i2 → s.heap.get? c = some o → h'.get? c = some o) → (∃ o, h'.get? e = some o ∧ o.cls = .type "StopIteration") → E (.ref e) { s with heap := h' }) :
    wpAny (model prog w) A (Builtin.«zip.__next__» ⟨[.ref z], []⟩) Q E s := by
  obtain ⟨⟨c, f, hz, hc⟩, hTI, ⟨a, b, hTO⟩, h1, h2⟩ := S
  show wpAny _ _ (field (.ref z) 2 >>= _) _ _ _
  refine wpAny_bind (wpAny_field hz rfl (x := .bool false) rfl ?_)
  show wpAny _ _ (field (.ref z) 3 >>= _) _ _ _
  refine wpAny_bind (wpAny_field hz rfl (x := .ref TI) rfl ?_)
  refine wpAny_bind (wpAny_seqItems hTI rfl ?_)
  show wpAny _ _ (Builtin.SmallTypes.ownedTupleIsFree (.ref z) >>= _) _ _ _
  refine wpAny_bind (isFreeG hz hc ?_ fun h₁ hz₁ hs₁ => ?_)
  · simp only [if_true]
    refine wpAny_bind (wpAny_rule ?_)
    refine wpAny_bind (wpAny_field hz rfl (x := .ref TO) rfl ?_)
    refine wpAny_bind (wpAny_setField_rec hz (by simp) fun h₁ hz₁ hs₁ => ?_)
    replace hz₁ : IsZipG h₁ z TI TO .ellipsis f := hz₁
    refine wpAny_bind ?_
    simp only [List.zipIdx_cons, List.zipIdx_nil, List.forIn_cons, List.forIn_nil]
    refine wpAny_bind (wpAny_bind (wpAny_onRaise ?_))
    show wpAny _ _ (Builtin.SmallTypes.nextOf (.ref i1) >>= _) _ _ _
    cases hx : xs[k]? with
    | none =>
      refine wpAny_bind (nextOf_tuple_end hh (h1.extBut hs₁.extBut D.i1z) (hl1.extBut hs₁.extBut D.l1z) hx fun h₂ e hs₂ he => ?_)
      obtain ⟨oe, hoe, hce⟩ := he
      have hz₂ : IsZipG h₂ z TI TO .ellipsis f := hs₂ _ _ D.i1z.symm hz₁
      have hez : e ≠ z := fun x => by subst x; rw [hz₂] at hoe; cases hoe; simp at hce
      refine wpAny_setField_rec hz₂ (by simp) fun h₃ _ hs₃ => hE h₃ e (fun c o c1 _ c3 _ x => hs₃.extBut _ _ c1 (hs₂ _ _ c3 (hs₁.extBut _ _ c1 x))) ⟨oe, hs₃.extBut _ _ hez hoe, hce⟩
    | some x =>
      have hy : ys[k]? = none := by rcases hend with h | h; rw [hx] at h; cases h; exact h
      refine wpAny_bind (nextOf_tuple_item (h1.extBut hs₁.extBut D.i1z) (hl1.extBut hs₁.extBut D.l1z) hx fun h₂ h1₂ hs₂ => wpAny_pure ?_)
      have hTO₂ : IsPair h₂ TO a b := hs₂.extBut _ _ D.TOi1 (hs₁.extBut _ _ D.TOz hTO)
      refine wpAny_bind (wpAny_seqItems hTO₂ rfl ?_)
      refine wpAny_bind (wpAny_updateSeq_pair hTO₂ fun h₃ hTO₃ hs₃ => ?_)
      refine wpAny_bind (wpAny_letGo (wpAny_pure ?_))
      refine wpAny_bind (wpAny_bind (wpAny_onRaise ?_))
      show wpAny _ _ (Builtin.SmallTypes.nextOf (.ref i2) >>= _) _ _ _
      refine wpAny_bind (nextOf_tuple_end hh (((h2.extBut hs₁.extBut D.i2z).extBut hs₂.extBut D.i12.symm).extBut hs₃.extBut D.TOi2.symm)
        (((hl2.extBut hs₁.extBut D.l2z).extBut hs₂.extBut D.l2i1).extBut hs₃.extBut D.l2TO) hy fun h₄ e hs₄ he => ?_)
      obtain ⟨oe, hoe, hce⟩ := he
      have hz₄ : IsZipG h₄ z TI TO .ellipsis f := hs₄ _ _ D.i2z.symm (hs₃.extBut _ _ D.TOz.symm (hs₂.extBut _ _ D.i1z.symm hz₁))
      have hez : e ≠ z := fun x => by subst x; rw [hz₄] at hoe; cases hoe; simp at hce
      refine wpAny_setField_rec hz₄ (by simp) fun h₅ _ hs₅ => hE h₅ e (fun c o c1 c2 c3 c4 x => hs₅.extBut _ _ c1 (hs₄ _ _ c4 (hs₃.extBut _ _ c2 (hs₂.extBut _ _ c3 (hs₁.extBut _ _ c1 x))))) ⟨oe, hs₅.extBut _ _ hez hoe, hce⟩
  · simp only [Bool.false_eq_true, if_false]
    refine wpAny_bind ?_
    rw [← Array.forIn_toList]
    simp only [List.forIn_cons, List.forIn_nil]
    refine wpAny_bind (wpAny_bind (wpAny_holding ?_))
    show wpAny _ _ (Builtin.SmallTypes.nextOf (.ref i1) >>= _) _ _ _
    cases hx : xs[k]? with
    | none =>
      refine wpAny_bind (nextOf_tuple_end (s := { s with heap := h₁ }) hh (h1.extBut hs₁.extBut D.i1z) (hl1.extBut hs₁.extBut D.l1z) hx fun h₂ e hs₂ he => ?_)
      exact hE h₂ e (fun c o c1 _ c2 _ x => hs₂ _ _ c2 (hs₁.extBut _ _ c1 x)) he
    | some x =>
      have hy : ys[k]? = none := by rcases hend with h | h; rw [hx] at h; cases h; exact h
      refine wpAny_bind (nextOf_tuple_item (s := { s with heap := h₁ }) (h1.extBut hs₁.extBut D.i1z) (hl1.extBut hs₁.extBut D.l1z) hx fun h₂ h1₂ hs₂ => wpAny_pure ?_)
      refine wpAny_pure ?_
      refine wpAny_bind (wpAny_bind (wpAny_holding ?_))
      show wpAny _ _ (Builtin.SmallTypes.nextOf (.ref i2) >>= _) _ _ _
      refine wpAny_bind (nextOf_tuple_end (s := { s with heap := h₂ }) hh ((h2.extBut hs₁.extBut D.i2z).extBut hs₂.extBut D.i12.symm) ((hl2.extBut hs₁.extBut D.l2z).extBut hs₂.extBut D.l2i1) hy fun h₃ e hs₃ he => ?_)
      exact hE h₃ e (fun c o c1 _ c2 c3 x => hs₃ _ _ c3 (hs₂.extBut _ _ c2 (hs₁.extBut _ _ c1 x))) he
theorem zipZ_nextOf {z TI TO i1 i2 l1 l2 : Addr} {k : Nat} {xs ys : Array Value} {x y : Value} {Q : Value → Shared → Prop} (D : ZipApart z TI TO i1 i2 l1 l2)
    (S : ZS s.heap z TI TO i1 i2 l1 l2 k) (hl1 : s.heap.IsTuple l1 xs) (hl2 : s.heap.IsTuple l2 ys) (hx : xs[k]? = some x) (hy : ys[k]? = some y)
    (hQ : ∀ h', ZS h' z TI TO i1 i2 l1 l2 (k + 1) → IsPair h' s.heap.objs.size x y → h'.objs.size = s.heap.objs.size + 1 →
      (∀ c o, c ≠ z → c ≠ TO → c ≠ i1 → c ≠ i2 → s.heap.get? c = some o → h'.get? c = some o) → Q (.ref s.heap.objs.size) { s with heap := h' }) :
    wpAny (model prog w) A (Builtin.SmallTypes.nextOf (.ref z)) Q E s := by
  have hT : s.TypeIs (.ref z) "zip" := by obtain ⟨⟨c, f, hz, _⟩, _⟩ := S; exact ⟨_, hz, rfl⟩
  unfold Builtin.SmallTypes.nextOf
  exact wpAny_bind (wpAny_callSpecial?_slot (name := Str.ofString "__next__") hT F.slot_zip_next
    (wpAny_call_entry F.slot_zip_next hT F.entry_zip_next
      (zipZ_item D S hl1 hl2 hx hy fun h' a1 a2 a3 a4 => wpAny_pure (hQ h' a1 a2 a3 a4)) (F.args_zip_next_1 _)))
theorem zipZ_nextEnd {z TI TO i1 i2 l1 l2 : Addr} {k : Nat} {xs ys : Array Value} {Q : Value → Shared → Prop} (hh : A.handled = none) (D : ZipApart z TI TO i1 i2 l1 l2)
    (S : ZS s.heap z TI TO i1 i2 l1 l2 k) (hl1 : s.heap.IsTuple l1 xs) (hl2 : s.heap.IsTuple l2 ys) (hend : xs[k]? = none ∨ ys[k]? = none)
    (hE : ∀ h' e, (∀ c o, c ≠ z → c ≠ TO → c ≠ i1 → c ≠ i2 → s.heap.get? c = some o → h'.get? c = some o) → (∃ o, h'.get? e = some o ∧ o.cls = .type "StopIteration") → E (.ref e) { s with heap := h' }) :
    wpAny (model prog w) A (Builtin.SmallTypes.nextOf (.ref z)) Q E s := by
  have hT : s.TypeIs (.ref z) "zip" := by obtain ⟨⟨c, f, hz, _⟩, _⟩ := S; exact ⟨_, hz, rfl⟩
  unfold Builtin.SmallTypes.nextOf
  exact wpAny_bind (wpAny_callSpecial?_slot (name := Str.ofString "__next__") hT F.slot_zip_next
    (wpAny_call_entry F.slot_zip_next hT F.entry_zip_next (zipZ_end (A := A.in1) hh D S hl1 hl2 hend hE) (F.args_zip_next_1 _)))
/-- enumerate's own turn over a zip -/
theorem enumZ_next {e z TI TO i1 i2 l1 l2 : Addr} {k : Nat} {xs ys : Array Value} {x y old : Value} {Q : Option Value → Shared → Prop} (D : ZipApart z TI TO i1 i2 l1 l2)
    (he : IsEnum s.heap e z ((k : Nat) : Int) old) (S : ZS s.heap z TI TO i1 i2 l1 l2 k) (hl1 : s.heap.IsTuple l1 xs) (hl2 : s.heap.IsTuple l2 ys) (hx : xs[k]? = some x) (hy : ys[k]? = some y)
    (n1 : e ≠ z) (n2 : e ≠ TI) (n3 : e ≠ TO) (n4 : e ≠ i1) (n5 : e ≠ i2)
    (hQ : ∀ h', IsEnumOut h' e z ((k : Int) + 1) (.ref s.heap.objs.size) (s.heap.objs.size + 1) → ZS h' z TI TO i1 i2 l1 l2 (k + 1) → IsPair h' s.heap.objs.size x y →
      h'.get? (s.heap.objs.size + 1) = some { cls := .type "tuple", data := .seq #[.int k s.toks, .ref s.heap.objs.size] } → h'.objs.size = s.heap.objs.size + 2 →
      (∀ c o, c ≠ e → c ≠ z → c ≠ TO → c ≠ i1 → c ≠ i2 → s.heap.get? c = some o → h'.get? c = some o) → Q (some (.ref (s.heap.objs.size + 1))) { s with heap := h', toks := s.toks + 1 }) :
    wpAny (model prog w) A (pyNext (.ref e)) Q E s := by
  have hT : s.TypeIs (.ref e) "enumerate" := ⟨_, he, rfl⟩
  unfold pyNext
  refine wpAny_bind (wpAny_attempt (wpAny_callSpecial?_slot (name := Str.ofString "__next__") hT F.slot_enumerate_next
    (wpAny_call_entry F.slot_enumerate_next hT F.entry_enumerate_next ?_ (F.args_enumerate_next_1 _))))
  obtain ⟨hp, g, d, tk, os⟩ := s
  show wpAny _ _ (field (.ref e) 2 >>= _) _ _ _
  refine wpAny_bind (wpAny_field he rfl (x := .ref z) rfl ?_)
  refine wpAny_bind (zipZ_nextOf D S hl1 hl2 hx hy fun h₁ S₁ hp₁ hz₁ hk₁ => ?_)
  have hel : e < hp.objs.size := Heap.lt_size he
  have he₁ : IsEnum h₁ e z k old := hk₁ _ _ n1 n3 n4 n5 he
  show wpAny _ _ (field (.ref e) 3 >>= _) _ _ ⟨h₁, g, d, tk, os⟩
  refine wpAny_bind (wpAny_field he₁ rfl (x := rawInt k) rfl ?_)
  show wpAny _ _ (field (.ref e) 4 >>= _) _ _ ⟨h₁, g, d, tk, os⟩
  refine wpAny_bind (wpAny_field he₁ rfl (x := .none) rfl ?_)
  show wpAny _ _ (mkInt k >>= _) _ _ ⟨h₁, g, d, tk, os⟩
  refine wpAny_bind (wpAny_mkInt ?_)
  show wpAny _ _ (setField (.ref e) 3 (rawInt ((k : Int) + 1)) >>= _) _ _ ⟨h₁, g, d, tk + 1, os⟩
  refine wpAny_bind (wpAny_setField_rec he₁ (by simp) fun h₂ he₂ hs₂ => ?_)
  replace hs₂ : Heap.SameBut e h₁ h₂ := hs₂
  replace he₂ : IsEnum h₂ e z ((k : Int) + 1) old := he₂
  show wpAny _ _ (setField (.ref e) 4 .none >>= _) _ _ ⟨h₂, g, d, tk + 1, os⟩
  refine wpAny_bind (wpAny_setField_rec he₂ (by simp) fun h₃ he₃ hs₃ => ?_)
  replace hs₃ : Heap.SameBut e h₂ h₃ := hs₃
  replace he₃ : IsEnum h₃ e z ((k : Int) + 1) old := he₃
  show wpAny _ _ (newTuple [.int k tk, .ref hp.objs.size] >>= _) _ _ ⟨h₃, g, d, tk + 1, os⟩
  refine wpAny_bind (wpAny_newTuple ?_)
  have hsz : h₃.objs.size = hp.objs.size + 1 := by rw [hs₃.1, hs₂.1, hz₁]
  have he₄ : IsEnum (h₃.push { cls := .type "tuple", data := .seq #[.int k tk, .ref hp.objs.size] }) e z ((k : Int) + 1) old := Heap.get?_push_of_some _ he₃
  have up₄ : ∀ c o, c ≠ e → h₁.get? c = some o → (h₃.push { cls := .type "tuple", data := .seq #[.int k tk, .ref hp.objs.size] }).get? c = some o := fun c o hc x => Heap.get?_push_of_some _ (hs₃.extBut c o hc (hs₂.extBut c o hc x))
  have ht₄ : (h₃.push { cls := .type "tuple", data := .seq #[.int k tk, .ref hp.objs.size] }).get? (hp.objs.size + 1) = some { cls := .type "tuple", data := .seq #[.int k tk, .ref hp.objs.size] } := by rw [← hsz]; exact Heap.get?_push_size _ rfl
  have hz₄ : (h₃.push { cls := .type "tuple", data := .seq #[.int k tk, .ref hp.objs.size] }).objs.size = hp.objs.size + 2 := by rw [Heap.size_push, hsz]
  generalize h₃.push { cls := .type "tuple", data := .seq #[.int k tk, .ref hp.objs.size] } = h₄ at he₄ up₄ ht₄ hz₄
  show wpAny _ _ (Builtin.SmallTypes.ownedTupleIsFree (.ref e) >>= _) _ _ ⟨h₄, g, d, tk + 1, os⟩
  rw [hsz]
  clear he₃ hs₃ he₂ hs₂ he₁ hsz
  have ne1 : hp.objs.size + 1 ≠ e := Nat.ne_of_gt (Nat.lt_succ_of_lt hel)
  refine wpAny_bind ?_
  unfold Builtin.SmallTypes.ownedTupleIsFree
  refine wpAny_bind (wpAny_field he₄ rfl (x := .none) rfl (wpAny_pure ?_))
  simp only [if_true]
  refine wpAny_bind (wpAny_rule ?_)
  refine wpAny_bind (wpAny_field he₄ rfl (x := old) rfl ?_)
  refine wpAny_bind (wpAny_setField_rec he₄ (by simp) fun h₅ he₅ hs₅ => ?_)
  replace hs₅ : Heap.SameBut e h₄ h₅ := hs₅
  replace he₅ : IsEnum h₅ e z ((k : Int) + 1) (.ref hp.objs.size) := he₅
  show wpAny _ _ (Builtin.SmallTypes.ownedTupleHandOut (.ref e) (.ref (hp.objs.size + 1)) >>= _) _ _ ⟨h₅, g, d, tk + 1, os⟩
  refine wpAny_bind ?_
  unfold Builtin.SmallTypes.ownedTupleHandOut
  refine wpAny_bind (wpAny_setField_rec he₅ (by simp) fun h₆ he₆ hs₆ => ?_)
  replace hs₆ : Heap.SameBut e h₅ h₆ := hs₆
  replace he₆ : IsEnumOut h₆ e z ((k : Int) + 1) (.ref hp.objs.size) (hp.objs.size + 1) := he₆
  refine wpAny_setField_rec he₆ (by simp) fun h₇ he₇ hs₇ => ?_
  replace hs₇ : Heap.SameBut e h₆ h₇ := hs₇
  replace he₇ : IsEnumOut h₇ e z ((k : Int) + 1) (.ref hp.objs.size) (hp.objs.size + 1) := he₇
  have up : ∀ c o, c ≠ e → h₁.get? c = some o → h₇.get? c = some o := fun c o hc x => hs₇.extBut c o hc (hs₆.extBut c o hc (hs₅.extBut c o hc (up₄ c o hc x)))
  obtain ⟨⟨cz, fz, gz, oz⟩, gTI, ⟨ga, gb, gTO⟩, g1, g2⟩ := S₁
  refine wpAny_bind (wpAny_letGo (wpAny_pure ⟨_, rfl, wpAny_pure (hQ h₇ he₇ ⟨⟨cz, fz, up _ _ (Ne.symm n1) gz, oz⟩, up _ _ (Ne.symm n2) gTI, ⟨ga, gb, up _ _ (Ne.symm n3) gTO⟩, g1.at fun o x => up _ o (Ne.symm n4) x, g2.at fun o x => up _ o (Ne.symm n5) x⟩ (up _ _ (Nat.ne_of_gt hel) hp₁) ?_ ?_ ?_)⟩))
  · exact hs₇.extBut _ _ ne1 (hs₆.extBut _ _ ne1 (hs₅.extBut _ _ ne1 ht₄))
  · rw [hs₇.1, hs₆.1, hs₅.1, hz₄]
  · exact fun c o c0 c1 c2 c3 c4 x => up c o c0 (hk₁ c o c1 c2 c3 c4 x)
theorem enumZ_end {e z TI TO i1 i2 l1 l2 : Addr} {k : Nat} {i : Int} {xs ys : Array Value} {old : Value} {Q : Option Value → Shared → Prop} (hh : A.handled = none) (D : ZipApart z TI TO i1 i2 l1 l2)
    (he : IsEnum s.heap e z i old) (S : ZS s.heap z TI TO i1 i2 l1 l2 k) (hl1 : s.heap.IsTuple l1 xs) (hl2 : s.heap.IsTuple l2 ys) (hend : xs[k]? = none ∨ ys[k]? = none)
    (hQ : ∀ h', (∀ c o, c ≠ z → c ≠ TO → c ≠ i1 → c ≠ i2 → s.heap.get? c = some o → h'.get? c = some o) → Q none { s with heap := h' }) :
    wpAny (model prog w) A (pyNext (.ref e)) Q E s := by
  have hT : s.TypeIs (.ref e) "enumerate" := ⟨_, he, rfl⟩
  unfold pyNext
  refine wpAny_bind (wpAny_attempt (wpAny_callSpecial?_slot (name := Str.ofString "__next__") hT F.slot_enumerate_next
    (wpAny_call_entry F.slot_enumerate_next hT F.entry_enumerate_next ?_ (F.args_enumerate_next_1 _))))
  show wpAny _ _ (field (.ref e) 2 >>= _) _ _ _
  refine wpAny_bind (wpAny_field he rfl (x := .ref z) rfl ?_)
  refine wpAny_bind (zipZ_nextEnd (A := A.in1) hh D S hl1 hl2 hend fun h' x he' hx' => ?_)
  obtain ⟨o, ho, hc⟩ := hx'
  refine wpAny_bind (wpAny_isInstance (T := "StopIteration") (b := true) ⟨o, ho, hc⟩ isSubtype_stop ?_)
  exact wpAny_pure (hQ _ he')
end
end Fc
set_option Elab.async false
set_option linter.all false
set_option maxRecDepth 100000
set_option maxHeartbeats 2000000
namespace Fc
open PySem L2 Evl PySem.Spec PyProof.Rows
section
variable {X : Cx} {pins : List (Addr × Obj)} {σ : L2.St} {H : Hp} {s : Shared} {h' : Heap}
theorem turnedNew2 {t' : Nat} {ch : List Addr} {T T2 : Addr} {ob ob2 : HO} (I : Inv X pins σ H s) (k : ∀ b o, b ∉ ch → s.heap.get? b = some o → h'.get? b = some o) (hf : ∀ b ∈ ch, FpOk X pins H b) (hT : s.heap.objs.size ≤ T) (hT2 : s.heap.objs.size ≤ T2) (ne : T ≠ T2)
    (new : ObjOk X.prog X.w (upd (upd H T ob) T2 ob2) h' T ob) (new2 : ObjOk X.prog X.w (upd (upd H T ob) T2 ob2) h' T2 ob2) : Inv X pins σ (upd (upd H T ob) T2 ob2) { s with heap := h', toks := t' } := by
  have hn : H T = none := I.hok.fresh hT
  have hn2 : H T2 = none := I.hok.fresh hT2
  have up : ∀ {b : Addr} {u : HO}, H b = some u → upd (upd H T ob) T2 ob2 b = some u := fun {b u} e => by
    rw [upd_ne (ne_of_none e hn2), upd_ne (ne_of_none e hn)]; exact e
  have nit : ∀ b u, H b = some u → b ∉ ch := fun b u e z => by
    have q := (hf b z).1
    rw [q] at e; cases e
  refine I.step (g' := s.gens) (d' := s.drawn) (ch := ch) (fun b hb => ⟨(hf b hb).2.2.2.1, (hf b hb).2.1, (hf b hb).2.2.2.2.1, (hf b hb).2.2.2.2.2⟩) (fun b o _ _ hc e _ => k b o hc e) (fun b o _ _ hc e _ => ⟨o.slots, k b o hc e⟩)
    (fun b o _ e n => ?_) (fun b o hc e => ⟨o, k b o hc e⟩) (fun b xs e => up e) (fun b o u e => up e) (fun b ps e => ⟨#[], ?_⟩) (fun m hm => ?_) (fun b u e => ?_) I.bare
  · rw [upd_ne (Nat.ne_of_lt (Nat.lt_of_lt_of_le (Heap.lt_size e) hT2)), upd_ne (Nat.ne_of_lt (Nat.lt_of_lt_of_le (Heap.lt_size e) hT))]; exact n
  · rw [up e]; simp
  · obtain ⟨o, es, ep, ho, r⟩ := hm
    exact ⟨o, es, ep, k _ o (fun z => (hf _ z).2.1 rfl) ho, r⟩
  · by_cases hb2 : b = T2
    · subst hb2
      rw [upd_same] at e
      cases e
      exact new2
    · rw [upd_ne hb2] at e
      by_cases hb : b = T
      · subst hb
        rw [upd_same] at e
        cases e
        exact new
      · rw [upd_ne hb] at e
        refine (I.hok b u e).stay (fun c v hc q => k c v ?_ q) (fun c q => up q) fun c xs q => up q
        rcases hc with z | z
        · rw [z]; exact nit b u e
        · exact nit c _ z
end
/-- enumerate(zip(a, b)), the tuples at a and b -/
def ItzE (K : Fr) (a b : Addr) : It :=
  ⟨fun i H => ∃ (xs ys : List V) (x y : V), SqT K H a xs ∧ SqT K H b ys ∧ xs[i]? = some x ∧ ys[i]? = some y,
    fun i H v H' => ∃ T T2 x y, v = .ref T2 ∧ T ≠ T2 ∧ H T = none ∧ H T2 = none ∧ H' = upd (upd H T (.tup [x, y])) T2 (.tup [.int (i : Nat), .ref T]) ∧ (∀ xs, SqT K H a xs → xs[i]? = some x) ∧ ∀ ys, SqT K H b ys → ys[i]? = some y,
    fun i H => ∃ xs ys : List V, SqT K H a xs ∧ SqT K H b ys ∧ (xs.length ≤ i ∨ ys.length ≤ i)⟩
theorem turn_enumZ {P : Program} {w : World} {K : Fr} {elts : List Expr} {kk : Nat} {tpos : Pos} {a b e z TI TO i1 i2 : Addr} (D : ZipApart z TI TO i1 i2 a b) (n1 : e ≠ z) (n2 : e ≠ TI) (n3 : e ≠ TO) (n4 : e ≠ i1) (n5 : e ≠ i2) :
    Turn P w K (.Tuple elts kk tpos) (ItzE K a b) [e, z, TI, TO, i1, i2] e (fun i h => (∃ old, IsEnum h e z ((i : Nat) : Int) old) ∧ ZS h z TI TO i1 i2 a b i) where
  mem := by simp
  obj := fun i h st c hc => by
    obtain ⟨⟨old, he⟩, ⟨⟨cz, fz, hz, _⟩, hTI, ⟨x, y, hTO⟩, ⟨o1, e1, _, d1⟩, ⟨o2, e2, _, d2⟩⟩⟩ := st
    have e' : c = e ∨ c = z ∨ c = TI ∨ c = TO ∨ c = i1 ∨ c = i2 := by simpa using hc
    rcases e' with q | q | q | q | q | q
    · rw [q]; exact ⟨_, he, fun v q => nomatch q⟩
    · rw [q]; exact ⟨_, hz, fun v q => nomatch q⟩
    · rw [q]; exact ⟨_, hTI, fun v q => nomatch q⟩
    · rw [q]; exact ⟨_, hTO, fun v q => nomatch q⟩
    · rw [q]; exact ⟨o1, e1, fun v q => by rw [d1] at q; cases q⟩
    · rw [q]; exact ⟨o2, e2, fun v q => by rw [d2] at q; cases q⟩
  keep := fun i h h' st k => by
    obtain ⟨⟨old, he⟩, ⟨⟨cz, fz, hz, oz⟩, hTI, ⟨x, y, hTO⟩, h1, h2⟩⟩ := st
    exact ⟨⟨old, k e (by simp) _ he⟩, ⟨⟨cz, fz, k z (by simp) _ hz, oz⟩, k TI (by simp) _ hTI, ⟨x, y, k TO (by simp) _ hTO⟩, h1.at fun o q => k i1 (by simp) o q, h2.at fun o q => k i2 (by simp) o q⟩⟩
  item := by
    intro X hP hw hK hc i pins s σ H E I hf st hg
    subst hP hw hK
    obtain ⟨⟨old, he⟩, S⟩ := st
    obtain ⟨xs, ys, x, y, hqx, hqy, hx, hy⟩ := hg
    obtain ⟨its, rv, p, _⟩ := I.tuple hqx
    obtain ⟨its2, rv2, p2, _⟩ := I.tuple hqy
    obtain ⟨u, hu, ru⟩ := rv.get hx
    obtain ⟨u2, hu2, ru2⟩ := rv2.get hy
    have hel : e < s.heap.objs.size := Heap.lt_size he
    refine enumZ_next D he S (show s.heap.IsTuple a its.toArray from p) (show s.heap.IsTuple b its2.toArray from p2) (x := u) (y := u2) (by simpa using hu) (by simpa using hu2) n1 n2 n3 n4 n5 fun h' ho S' hT hT2 hsz hk => ?_
    refine ⟨_, rfl, wpAny_letOwnedTupleGo_enum (s := { s with heap := h', toks := s.toks + 1 }) ho fun h'' he' sb => ?_⟩
    have nT : s.heap.objs.size ≠ e := Nat.ne_of_gt hel
    have nT2 : s.heap.objs.size + 1 ≠ e := Nat.ne_of_gt (Nat.lt_succ_of_lt hel)
    have gT : h''.get? s.heap.objs.size = some { cls := .type "tuple", data := .seq #[u, u2] } := (sb.2 _ nT).trans hT
    have gT2 : h''.get? (s.heap.objs.size + 1) = some { cls := .type "tuple", data := .seq #[.int i s.toks, .ref s.heap.objs.size] } := (sb.2 _ nT2).trans hT2
    have hne : s.heap.objs.size ≠ s.heap.objs.size + 1 := Nat.ne_of_lt (Nat.lt_succ_self _)
    have fr1 : H s.heap.objs.size = none := I.hok.fresh (Nat.le_refl _)
    have fr2 : H (s.heap.objs.size + 1) = none := I.hok.fresh (Nat.le_succ _)
    have I1 : Inv X pins σ (upd (upd H s.heap.objs.size (.tup [x, y])) (s.heap.objs.size + 1) (.tup [.int (i : Nat), .ref s.heap.objs.size])) { s with heap := h'', toks := s.toks + 1 } :=
      turnedNew2 (ch := [e, z, TI, TO, i1, i2]) I (fun c o hb q => (sb.2 c (fun q' => hb (by simp [q']))).trans (hk c o (fun q' => hb (by simp [q'])) (fun q' => hb (by simp [q'])) (fun q' => hb (by simp [q'])) (fun q' => hb (by simp [q'])) (fun q' => hb (by simp [q'])) q)) hf (Nat.le_refl _) (Nat.le_succ _) hne
        ⟨by show 2 ≤ sizeLine; decide, [u, u2], .cons ru (.cons ru2 .nil), ⟨_, gT, rfl, _, rfl⟩⟩
        ⟨by show 2 ≤ sizeLine; decide, [.int i s.toks, .ref s.heap.objs.size], .cons ⟨_, rfl⟩ (.cons rfl .nil), ⟨_, gT2, rfl, _, rfl⟩⟩
    obtain ⟨⟨cz, fz, hz, oz⟩, hTI, ⟨ga, gb, hTO⟩, h1, h2⟩ := S'
    refine ⟨.ref (s.heap.objs.size + 1), _, I1, rfl, ⟨_, _, x, y, rfl, hne, fr1, fr2, rfl, fun l hl => by rw [I.tuple_inj hl hqx]; exact hx, fun l hl => by rw [I.tuple_inj hl hqy]; exact hy⟩, ⟨⟨.ref s.heap.objs.size, ?_⟩, ⟨⟨cz, fz, (sb.2 _ (Ne.symm n1)).trans hz, oz⟩, (sb.2 _ (Ne.symm n2)).trans hTI, ⟨ga, gb, (sb.2 _ (Ne.symm n3)).trans hTO⟩, h1.at fun o q => (sb.2 _ (Ne.symm n4)).trans q, h2.at fun o q => (sb.2 _ (Ne.symm n5)).trans q⟩⟩, fun c hcm => ?_⟩
    · have e1 : ((i + 1 : Nat) : Int) = (i : Int) + 1 := by omega
      rw [e1]; exact he'
    · have hlt : c < s.heap.objs.size := by
        obtain ⟨⟨_, _, gz, _⟩, gTI, ⟨_, _, gTO⟩, ⟨_, g1, _⟩, ⟨_, g2, _⟩⟩ := S
        have e' : c = e ∨ c = z ∨ c = TI ∨ c = TO ∨ c = i1 ∨ c = i2 := by simpa using hcm
        rcases e' with q | q | q | q | q | q
        · rw [q]; exact hel
        · rw [q]; exact Heap.lt_size gz
        · rw [q]; exact Heap.lt_size gTI
        · rw [q]; exact Heap.lt_size gTO
        · rw [q]; exact Heap.lt_size g1
        · rw [q]; exact Heap.lt_size g2
      rw [upd_ne (Nat.ne_of_lt (Nat.lt_succ_of_lt hlt)), upd_ne (Nat.ne_of_lt hlt)]
      exact (hf c hcm).1
  done := by
    intro X hP hw hK hc i pins s σ H E I hf st hg
    subst hP hw hK
    obtain ⟨⟨old, he⟩, S⟩ := st
    obtain ⟨xs, ys, hqx, hqy, hend⟩ := hg
    obtain ⟨its, rv, p, _⟩ := I.tuple hqx
    obtain ⟨its2, rv2, p2, _⟩ := I.tuple hqy
    have l1 := rv.length
    have l2 := rv2.length
    have hend : its.toArray[i]? = none ∨ its2.toArray[i]? = none := by
      rcases hend with q | q
      · exact .inl (by simp; omega)
      · exact .inr (by simp; omega)
    exact enumZ_end (I.ok.hd hc) D he S (show s.heap.IsTuple a its.toArray from p) (show s.heap.IsTuple b its2.toArray from p2) hend fun h' hk => ⟨rfl, I.turnedL (t' := s.toks) (ch := [e, z, TI, TO, i1, i2]) (fun c o hb q =>
      hk c o (fun q' => hb (by simp [q'])) (fun q' => hb (by simp [q'])) (fun q' => hb (by simp [q'])) (fun q' => hb (by simp [q'])) q) hf⟩
  self := fun A i s Q E st h => let ⟨⟨_, he⟩, _⟩ := st; wpAny_pyIter_enum he h
theorem meets_enumZ (z TI TO : Addr) :
    Meets (Builtin.«enumerate.__new__» ⟨[.type "enumerate", .ref z], []⟩) (fun _ R s => IsZip s.heap z TI TO .none ∧
      R (.ok (.ret (.ref s.heap.objs.size))) { s with heap := s.heap.push { cls := .type "enumerate", data := .fields #[.none, .bool false, .ref z, rawInt 0, .none, .none] } }) :=
  .of_wp fun prog w A R s h => by
    obtain ⟨hp, g, d, tk, os⟩ := s
    obtain ⟨h1, h⟩ := h
    have hsub := sub_enumerate
    have q1 : ∀ {A' : Around} {E : Value → Shared → Prop} {Q : Value → Shared → Prop}, Q (.ref z) ⟨hp, g, d, tk, os⟩ → wpAny (model prog w) A' (pyIter (.ref z)) Q E ⟨hp, g, d, tk, os⟩ :=
      fun q => wpAny_pyIter_zip (s := ⟨hp, g, d, tk, os⟩) h1 q
    wp_walk using q1
    refine wpAny_stack_any fun st => wpAny_pure ?_
    split
    · rename_i c _ _ _ _ _
      cases (c == Value.type "enumerate")
      · wp_walk using q1
        exact ⟨_, rfl, h⟩
      · wp_walk using q1
        exact ⟨_, rfl, h⟩
    · wp_walk using q1
      exact ⟨_, rfl, h⟩
theorem call_enumZ {prog : Program} {w : World} {A : Around} {E : Value → Shared → Prop} {s : Shared} {z TI TO : Addr} {Q : Value → Shared → Prop} (hz : IsZip s.heap z TI TO .none)
    (h : ∀ h', IsEnum h' s.heap.objs.size z 0 .none → h'.objs.size = s.heap.objs.size + 1 → (∀ b o, s.heap.get? b = some o → h'.get? b = some o) → Q (.ref s.heap.objs.size) { s with heap := h' }) :
    wpAny (model prog w) A (call (.type "enumerate") [.ref z]) Q E s := by
  refine callType_new F.called_enumerate (by decide) (F.typeCall_enumerate_1 _) (F.newCall_enumerate_1 _) (fun obj => F.args_object_init_2 obj _) F.entry_enumerate_new (meets_enumZ z TI TO) ⟨hz, ?_⟩
  have he : IsEnum (s.heap.push { cls := .type "enumerate", data := .fields #[.none, .bool false, .ref z, rawInt 0, .none, .none] }) s.heap.objs.size z 0 .none := Heap.get?_push_size _ rfl
  exact ⟨⟨_, he, rfl⟩, h _ he (Heap.size_push ..) fun b o x => Heap.get?_push_of_some _ x⟩
def iEnumZ (K : Fr) (ta : TA) : TI := fun σ H R => ta σ H fun vs H1 => ∃ a b xs ys, vs = [.ref a, .ref b] ∧ SqT K H1 a xs ∧ SqT K H1 b ys ∧ R (ItzE K a b) H1
theorem pi_enumZ {X : Cx} {e e2 : Expr} {ta : TA} {p pos tpos q qpos : Pos} {elts : List Expr} {kk : Nat} (hg : Gl X "enumerate") (hm : X.mg "enumerate" = none) (hg2 : Gl X "zip") (hm2 : X.mg "zip" = none) (ha : PA X [e, e2] ta)
    (hs : starEach [e, e2] X.env = (false, eval e X.env) :: starEach [e2] X.env := by rfl) (hpl : (backTo qpos (starEach [e2] X.env)).any (·.1) = false := by rfl)
    (hs2 : starEach [.Call (.Name "zip" q) [e, e2] [] qpos] X.env = (false, eval (.Call (.Name "zip" q) [e, e2] [] qpos) X.env) :: starEach [] X.env := by rfl) :
    PI X (.Tuple elts kk tpos) (.Call (.Name "enumerate" p) [.Call (.Name "zip" q) [e, e2] [] qpos] [] pos) (iEnumZ X.K ta) := by
  refine ⟨fun pins s σ H R I h => ?_⟩
  refine Call_ (ld_blt I hg hm boot_enumerate (PyProof.Rows.callWith_type1 (args_cons ?_ hs2) hs2 rfl))
  refine Call_ (ld_blt I hg2 hm2 PyProof.Rows.boot_zip (PyProof.Rows.callWith_type1 (thn (ha.run qpos pins s σ H _ I h) fun us s1 ⟨vs, H1, I1, r1, q1⟩ => ?_) hs hpl))
  obtain ⟨a, b, xs, ys, ex, hqx, hqy, hR⟩ := q1
  subst ex
  cases r1 with
  | cons r rr =>
    cases rr with
    | cons r' rr =>
      cases rr
      cases r
      cases r'
      obtain ⟨its, rv, p1, _⟩ := I1.tuple hqx
      obtain ⟨its2, rv2, p2, _⟩ := I1.tuple hqy
      obtain ⟨o1, ho1, _⟩ := id p1
      obtain ⟨o2, ho2, _⟩ := id p2
      refine RZ.call_zipT (show s1.heap.IsTuple a its.toArray from p1) (show s1.heap.IsTuple b its2.toArray from p2) fun h' hz hTI hTO h1 h2 hsz hk => args_nil ?_
      refine call_enumZ (s := { s1 with heap := h' }) hz fun h2' he hsz2 hk2 => wpAny_pyIter_enum (s := { s1 with heap := h2' }) he ?_
      have I2 : Inv X pins σ H1 { s1 with heap := h2' } := I1.kept (t' := s1.toks) fun b o x => hk2 b o (hk b o x)
      have hsz3 : h'.objs.size = s1.heap.objs.size + 5 := hsz
      have he2 : IsEnum h2' h'.objs.size (s1.heap.objs.size + 4) 0 .none := he
      rw [hsz3] at he2
      have D := PySem.W.ktu_apart s1.heap.objs.size a b (Heap.lt_size ho1) (Heap.lt_size ho2)
      have ne : ∀ j, j < 5 → s1.heap.objs.size + 5 ≠ s1.heap.objs.size + j := fun j hj => Nat.ne_of_gt (Nat.add_lt_add_left hj _)
      refine ⟨s1.heap.objs.size + 5, [s1.heap.objs.size + 5, s1.heap.objs.size + 4, s1.heap.objs.size + 2, s1.heap.objs.size + 3, s1.heap.objs.size, s1.heap.objs.size + 1], _, _, H1, ?_, I2, turn_enumZ D (ne 4 (by decide)) (ne 2 (by decide)) (ne 3 (by decide)) (ne 0 (by decide)) (ne 1 (by decide)),
        ⟨⟨.none, he2⟩, ⟨⟨.none, false, hk2 _ _ hz, .inl rfl⟩, hk2 _ _ hTI, ⟨_, _, hk2 _ _ hTO⟩, h1.at fun o q => hk2 _ o q, h2.at fun o q => hk2 _ o q⟩⟩, fun c hcm => ?_, hR⟩
      · show Value.ref h'.objs.size = _
        rw [hsz3]
      · have hle : s1.heap.objs.size ≤ c := by
          have e' : c = s1.heap.objs.size + 5 ∨ c = s1.heap.objs.size + 4 ∨ c = s1.heap.objs.size + 2 ∨ c = s1.heap.objs.size + 3 ∨ c = s1.heap.objs.size ∨ c = s1.heap.objs.size + 1 := by simpa using hcm
          rcases e' with z | z | z | z | z | z
          · rw [z]; exact Nat.le_add_right _ _
          · rw [z]; exact Nat.le_add_right _ _
          · rw [z]; exact Nat.le_add_right _ _
          · rw [z]; exact Nat.le_add_right _ _
          · rw [z]; exact Nat.le_refl _
          · rw [z]; exact Nat.le_add_right _ _
        exact I1.fpOk hle (I1.hok.fresh hle)
/-! as data -/
def dEnumZip : List D → R (List D)
  | [.tuple ds, .tuple es] => .ok (enumD 0 (zipD ds es))
  | _ => .bad
theorem itok_enumZ {K : Fr} {H0 : Hp} {a b : Addr} {xs ys : List V} {ds fs : List D} (h : H0 a = some (.tup xs)) (rs : RpA K H0 xs ds) (h' : H0 b = some (.tup ys)) (rs' : RpA K H0 ys fs) : ItOk K (ItzE K a b) H0 (enumD 0 (zipD ds fs)) := fun i => ⟨fun H e hi => ⟨xs, ys, SqT.of (e _ _ h), SqT.of (e _ _ h'), by rw [rs.length, rs'.length]; rw [enumD_length] at hi; exact zipD_end _ _ _ hi⟩, fun H d e hd => by
  obtain ⟨pr, hpr, hd2⟩ := enumD_get _ 0 i hd
  obtain ⟨x, y, h1, h2, h3⟩ := zipD_get ds fs i hpr
  obtain ⟨v, h4, h5⟩ := rs.getD h1
  obtain ⟨w, h6, h7⟩ := rs'.getD h2
  refine ⟨⟨xs, ys, v, w, SqT.of (e _ _ h), SqT.of (e _ _ h'), h4, h6⟩, fun x' H' q => .inr (.inr fun Hc ec es => ?_)⟩
  obtain ⟨T, T2, x2, y2, q1, hne, qT, qT2, q3, q4, q5⟩ := q
  have e1 := q4 xs (SqT.of (e _ _ h))
  have e2 := q5 ys (SqT.of (e _ _ h'))
  rw [h4] at e1
  rw [h6] at e2
  cases e1
  cases e2
  have g1 : Gr Hc H (upd Hc T (.tup [v, w])) (upd H T (.tup [v, w])) := Gr.new es qT
  have qT2' : upd H T (.tup [v, w]) T2 = none := by rw [upd_ne (Ne.symm hne)]; exact qT2
  have g2 : Gr (upd Hc T (.tup [v, w])) (upd H T (.tup [v, w])) (upd (upd Hc T (.tup [v, w])) T2 (.tup [.int (i : Nat), .ref T])) (upd (upd H T (.tup [v, w])) T2 (.tup [.int (i : Nat), .ref T])) := Gr.new g1.s qT2'
  refine ⟨_, by rw [q3]; exact g1.trans g2, ?_⟩
  rw [q1, hd2, h3, Nat.zero_add]
  have ex1 : Ex H0 (upd Hc T (.tup [v, w])) := ec.trans g1.e0
  have ex2 : Ex (upd Hc T (.tup [v, w])) (upd (upd Hc T (.tup [v, w])) T2 (.tup [.int (i : Nat), .ref T])) := g2.e0
  exact .tup upd_same (.cons (.int _) (.cons (.tup (ex2 _ _ upd_same) ((RpA.cons h5 (.cons h7 .nil)).mono (ex1.trans ex2))) .nil))⟩
section
variable {X : Cx} {W : WX} {a b : Expr} {pos : Pos}
theorem id_enumzip {ms : DA} {p tpos q qpos : Pos} {elts : List Expr} {kk : Nat} (hg : Gl X "enumerate") (hm : X.mg "enumerate" = none) (hg2 : Gl X "zip") (hm2 : X.mg "zip" = none) (ha : PAf X W [a, b] ms)
    (hs : starEach [a, b] X.env = (false, eval a X.env) :: starEach [b] X.env := by rfl) (hpl : (backTo qpos (starEach [b] X.env)).any (·.1) = false := by rfl)
    (hs2 : starEach [.Call (.Name "zip" q) [a, b] [] qpos] X.env = (false, eval (.Call (.Name "zip" q) [a, b] [] qpos) X.env) :: starEach [] X.env := by rfl) :
    ID X W (.Tuple elts kk tpos) (.Call (.Name "enumerate" p) [.Call (.Name "zip" q) [a, b] [] qpos] [] pos) (iArgs dEnumZip ms) := (pi_enumZ hg hm hg2 hm2 ha hs hpl hs2).wk fun σ H Rc ⟨B, ρ, H0, r, o⟩ => by
  unfold iArgs at o
  refine ⟨B, ρ, H0, r, ?_⟩
  cases h : ms ρ with
  | bad => rw [h] at o; exact o.elim
  | er c => rw [h] at o; exact o
  | ok ds =>
    rw [h, R.bind_ok] at o
    intro vs H1 H2 g va
    unfold dEnumZip at o
    split at o
    · cases va with
      | cons rp t =>
        cases t with
        | cons rp' t =>
          cases t
          cases rp with
          | tup h1 h2 =>
            cases rp' with
            | tup h3 h4 => exact ⟨_, _, _, _, rfl, SqT.of (g.s _ _ h1), SqT.of (g.s _ _ h3), o _ H1 H2 g (itok_enumZ h1 h2 h3 h4)⟩
    · exact o.elim
end
end Fc
set_option Elab.async false
set_option linter.all false
set_option maxRecDepth 100000
set_option maxHeartbeats 2000000
namespace Fc
open PySem L2 Evl PySem.Spec PyProof.Rows
/-! ### the functions over data, made ready to be reckoned with -/
def boolK {α : Type} (d : D) (a b z : α) : α := match d with
  | .bool true => a
  | .bool false => b
  | _ => z
@[simp] theorem boolK_b {α : Type} (c : Bool) (a b z : α) : boolK (.bool c) a b z = if c = true then a else b := by cases c <;> rfl
def rK (r : R D) (k : D → RS) (ρ : En) : RS := match r with
  | .ok d => k d
  | .er c => .er c ρ
  | .bad => .bad
@[simp] theorem rK_ok (d : D) (k : D → RS) (ρ : En) : rK (.ok d) k ρ = k d := rfl
@[simp] theorem rK_er (c : Str) (k : D → RS) (ρ : En) : rK (.er c) k ρ = .er c ρ := rfl
@[simp] theorem rK_bad (k : D → RS) (ρ : En) : rK .bad k ρ = .bad := rfl
@[simp] theorem rK_ite (c : Prop) [Decidable c] (a b : R D) (k : D → RS) (ρ : En) : rK (if c then a else b) k ρ = if c then rK a k ρ else rK b k ρ := by split <;> rfl
def seqK (r : RS) (N : DS) : RS := match r with
  | .nx ρ => N ρ
  | r => r
@[simp] theorem seqK_nx (ρ : En) (N : DS) : seqK (.nx ρ) N = N ρ := rfl
@[simp] theorem seqK_rt (d : D) (N : DS) : seqK (.rt d) N = .rt d := rfl
@[simp] theorem seqK_bk (ρ : En) (N : DS) : seqK (.bk ρ) N = .bk ρ := rfl
@[simp] theorem seqK_ct (ρ : En) (N : DS) : seqK (.ct ρ) N = .ct ρ := rfl
@[simp] theorem seqK_er (c : Str) (ρ : En) (N : DS) : seqK (.er c ρ) N = .er c ρ := rfl
@[simp] theorem seqK_bad (N : DS) : seqK .bad N = .bad := rfl
@[simp] theorem seqK_ite (c : Prop) [Decidable c] (a b : RS) (N : DS) : seqK (if c then a else b) N = if c then seqK a N else seqK b N := by split <;> rfl
def endF (r : RS) : R D := match r with
  | .nx _ => .ok .none
  | .rt d => .ok d
  | .er c _ => .er c
  | _ => .bad
@[simp] theorem endF_nx (ρ : En) : endF (.nx ρ) = .ok .none := rfl
@[simp] theorem endF_rt (d : D) : endF (.rt d) = .ok d := rfl
@[simp] theorem endF_er (c : Str) (ρ : En) : endF (.er c ρ) = .er c := rfl
@[simp] theorem endF_ite (c : Prop) [Decidable c] (a b : RS) : endF (if c then a else b) = if c then endF a else endF b := by split <;> rfl
@[simp] theorem bind_ite {α β : Type} (c : Prop) [Decidable c] (a b : R α) (k : α → R β) : (if c then a else b).bind k = if c then a.bind k else b.bind k := by split <;> rfl
theorem runF_eq (N n : Nat) (M : DS) (ds : List D) (h : ds.length = n) : runF N n M ds = endF (M (ds.map Slot.fz ++ List.replicate (N - n) Slot.un)) := by
  unfold runF
  rw [if_pos h]
  rfl
theorem runF_1 (N : Nat) (M : DS) (a : D) : runF N 1 M [a] = endF (M (.fz a :: List.replicate (N - 1) Slot.un)) := runF_eq N 1 M [a] rfl
theorem runF_2 (N : Nat) (M : DS) (a b : D) : runF N 2 M [a, b] = endF (M (.fz a :: .fz b :: List.replicate (N - 2) Slot.un)) := runF_eq N 2 M [a, b] rfl
theorem runF_3 (N : Nat) (M : DS) (a b c : D) : runF N 3 M [a, b, c] = endF (M (.fz a :: .fz b :: .fz c :: List.replicate (N - 3) Slot.un)) := runF_eq N 3 M [a, b, c] rfl
theorem runF_4 (N : Nat) (M : DS) (a b c d : D) : runF N 4 M [a, b, c, d] = endF (M (.fz a :: .fz b :: .fz c :: .fz d :: List.replicate (N - 4) Slot.un)) := runF_eq N 4 M [a, b, c, d] rfl
theorem runF_5 (N : Nat) (M : DS) (a b c d e : D) : runF N 5 M [a, b, c, d, e] = endF (M (.fz a :: .fz b :: .fz c :: .fz d :: .fz e :: List.replicate (N - 5) Slot.un)) := runF_eq N 5 M [a, b, c, d, e] rfl
@[simp] theorem sE_eq (m : DE) (k : D → DS) (ρ : En) : sE m k ρ = rK (m ρ) (fun d => k d ρ) ρ := rfl
@[simp] theorem sSeq_eq (M N : DS) (ρ : En) : sSeq M N ρ = seqK (M ρ) N := rfl
@[simp] theorem sRet_eq (m : DE) (ρ : En) : sRet m ρ = rK (m ρ) (fun d => .rt d) ρ := rfl
@[simp] theorem sDrop_eq (m : DE) (ρ : En) : sDrop m ρ = rK (m ρ) (fun _ => .nx ρ) ρ := rfl
@[simp] theorem sAsg_eq (i : Nat) (m : DE) (ρ : En) : sAsg i m ρ = rK (m ρ) (fun d => .nx (ρ.set i (.fz d))) ρ := rfl
@[simp] theorem sOwn_eq (i : Nat) (m : DE) (ρ : En) : sOwn i m ρ = rK (m ρ) (fun d => .nx (ρ.set i (.ow d))) ρ := rfl
@[simp] theorem sNext_eq (ρ : En) : sNext ρ = .nx ρ := rfl
@[simp] theorem sFrz_eq (i : Nat) (M : DS) (ρ : En) : sFrz i M ρ = M (frz i ρ) := rfl
@[simp] theorem sIf_eq (m : DE) (M N : DS) (ρ : En) : sIf m M N ρ = rK (m ρ) (fun d => boolK d (M ρ) (N ρ) .bad) ρ := by
  unfold sIf sE rK
  cases m ρ with
  | ok d =>
    simp only
    cases d with
    | bool b => cases b <;> rfl
    | _ => rfl
  | er c => rfl
  | bad => rfl
@[simp] theorem eC_eq (d : D) (ρ : En) : eC d ρ = .ok d := rfl
def rdV (s : Option Slot) : R D := match s with
  | some (.fz d) => .ok d
  | _ => .bad
def rdW (s : Option Slot) : R D := match s with
  | some (.fz d) => .ok d
  | some (.ow d) => .ok d
  | _ => .bad
@[simp] theorem rdV_fz (d : D) : rdV (some (.fz d)) = .ok d := rfl
@[simp] theorem rdW_fz (d : D) : rdW (some (.fz d)) = .ok d := rfl
@[simp] theorem rdW_ow (d : D) : rdW (some (.ow d)) = .ok d := rfl
@[simp] theorem eV_eq (i : Nat) (ρ : En) : eV i ρ = rdV ρ[i]? := rfl
@[simp] theorem eW_eq (i : Nat) (ρ : En) : eW i ρ = rdW ρ[i]? := rfl
@[simp] theorem eBin_eq (op : D → D → R D) (ma mb : DE) (ρ : En) : eBin op ma mb ρ = (ma ρ).bind fun x => (mb ρ).bind fun y => op x y := rfl
@[simp] theorem eU_eq (f : D → R D) (ma : DE) (ρ : En) : eU f ma ρ = (ma ρ).bind f := rfl
@[simp] theorem eAnd_eq (ma mb : DE) (ρ : En) : eAnd ma mb ρ = (ma ρ).bind fun d => boolK d (mb ρ) (.ok (.bool false)) .bad := by
  unfold eAnd boolK
  rfl
@[simp] theorem eOr_eq (ma mb : DE) (ρ : En) : eOr ma mb ρ = (ma ρ).bind fun d => boolK d (.ok (.bool true)) (mb ρ) .bad := by
  unfold eOr boolK
  rfl
@[simp] theorem eIf_eq (mc ma mb : DE) (ρ : En) : eIf mc ma mb ρ = (mc ρ).bind fun d => boolK d (ma ρ) (mb ρ) .bad := by
  unfold eIf boolK
  rfl
@[simp] theorem eChain_eq (f g : D → D → R D) (ma mb mc : DE) (ρ : En) : eChain f g ma mb mc ρ = (ma ρ).bind fun x => (mb ρ).bind fun y => (f x y).bind fun d => boolK d ((mc ρ).bind fun z => g y z) (.ok (.bool false)) .bad := by
  unfold eChain boolK
  rfl
@[simp] theorem aNil_eq (ρ : En) : aNil ρ = .ok [] := rfl
@[simp] theorem aCons_eq (ma : DE) (mr : DA) (ρ : En) : aCons ma mr ρ = (ma ρ).bind fun d => (mr ρ).bind fun ds => .ok (d :: ds) := rfl
@[simp] theorem eDef_eq (g : List D → R D) (ms : DA) (ρ : En) : eDef g ms ρ = (ms ρ).bind g := rfl
@[simp] theorem eCall_eq (g : List D → R D) (ms : DA) (ρ : En) : eCall g ms ρ = (ms ρ).bind g := rfl
@[simp] theorem eTup_eq (ms : DA) (ρ : En) : eTup ms ρ = (ms ρ).bind fun ds => if szB ds.length = true then .ok (.tuple ds) else .bad := rfl
@[simp] theorem eLst_eq (ms : DA) (ρ : En) : eLst ms ρ = (ms ρ).bind fun ds => if szB ds.length = true then .ok (.list ds) else .bad := rfl
@[simp] theorem iArgs_eq (f : List D → R (List D)) (ms : DA) (ρ : En) : iArgs f ms ρ = (ms ρ).bind f := rfl
@[simp] theorem iSeq_eq (m : DE) (ρ : En) : iSeq m ρ = (m ρ).bind dSeq := rfl
@[simp] theorem dSeq_l (ds : List D) : dSeq (.list ds) = .ok ds := rfl
@[simp] theorem dSeq_t (ds : List D) : dSeq (.tuple ds) = .ok ds := rfl
@[simp] theorem gN_eq (i : Nat) (d : D) (ρ : En) : gN i d ρ = some (ρ.set i (.fz d)) := rfl
@[simp] theorem eT_eq (ρ : En) : eT ρ = .ok (.bool true) := rfl
@[simp] theorem eSl_eq (f : D → Option Int → Option Int → R D) (ma : DE) (ml mh : DO) (ρ : En) : eSl f ma ml mh ρ = (ma ρ).bind fun x => (ml ρ).bind fun lo => (mh ρ).bind fun hi => f x lo hi := rfl
@[simp] theorem oNone_eq (ρ : En) : oNone ρ = .ok none := rfl
def toI (d : D) : R (Option Int) := match d with
  | .int i => .ok (some i)
  | _ => .bad
@[simp] theorem toI_i (i : Int) : toI (.int i) = .ok (some i) := rfl
@[simp] theorem oSome_eq (m : DE) (ρ : En) : oSome m ρ = (m ρ).bind toI := rfl
/-! ### the operators at ints -/
@[simp] theorem dAdd_i (a b : Int) : dAdd (.int a) (.int b) = .ok (.int (a + b)) := rfl
@[simp] theorem dSub_i (a b : Int) : dSub (.int a) (.int b) = .ok (.int (a - b)) := rfl
@[simp] theorem dLt_i (a b : Int) : dLt (.int a) (.int b) = .ok (.bool (decide (a < b))) := rfl
@[simp] theorem dLe_i (a b : Int) : dLe (.int a) (.int b) = .ok (.bool (decide (a ≤ b))) := rfl
@[simp] theorem dGt_i (a b : Int) : dGt (.int a) (.int b) = .ok (.bool (decide (b < a))) := rfl
@[simp] theorem dGe_i (a b : Int) : dGe (.int a) (.int b) = .ok (.bool (decide (b ≤ a))) := rfl
@[simp] theorem dNeg_i (a : Int) : dNeg (.int a) = .ok (.int (-a)) := rfl
@[simp] theorem dNot_b (b : Bool) : dNot (.bool b) = .ok (.bool (!b)) := rfl
@[simp] theorem dIsN_eq (d : D) : dIsN d = .ok (.bool (isN d)) := rfl
@[simp] theorem dNotN_eq (d : D) : dNotN d = .ok (.bool (!isN d)) := rfl
@[simp] theorem isN_i (i : Int) : isN (.int i) = false := rfl
@[simp] theorem isN_t (i : List D) : isN (.tuple i) = false := rfl
@[simp] theorem isN_l (i : List D) : isN (.list i) = false := rfl
@[simp] theorem isN_b (i : Bool) : isN (.bool i) = false := rfl
@[simp] theorem isN_s (i : Str) : isN (.str i) = false := rfl
@[simp] theorem isN_n : isN .none = true := rfl
theorem dMul_i (a b : Int) (h : (decide (-(2 ^ 64) < a ∧ a < 2 ^ 64) || decide (-(2 ^ 64) < b ∧ b < 2 ^ 64)) = true) : dMul (.int a) (.int b) = .ok (.int (a * b)) := by
  show dMulI (.int a) (.int b) = _
  simp only [dMulI, dI]
  rw [if_pos h]
theorem dMod_i (a b : Int) (h : 0 < b) : dMod (.int a) (.int b) = .ok (.int (a % b)) := by
  simp only [dMod, dI]
  rw [if_pos (decide_eq_true h)]
theorem dFdiv_i (a b : Int) (h : 0 < b ∧ b < 1073741824) : dFdiv (.int a) (.int b) = .ok (.int (a / b)) := by
  simp only [dFdiv, dI]
  rw [if_pos (decide_eq_true h)]
@[simp] theorem shaped_i (a : Int) : SeqAt.shaped (.int a) = true := by simp [SeqAt.shaped, PyData.canLay0, PyData.depth]
@[simp] theorem shaped_b (a : Bool) : SeqAt.shaped (.bool a) = true := by simp [SeqAt.shaped, PyData.canLay0, PyData.depth]
@[simp] theorem shaped_n : SeqAt.shaped .none = true := by simp [SeqAt.shaped, PyData.canLay0, PyData.depth]
@[simp] theorem unS_i (a : Int) : unS (.int a) = .int a := rfl
@[simp] theorem unS_b (a : Bool) : unS (.bool a) = .bool a := rfl
@[simp] theorem unS_n : unS .none = .none := rfl
@[simp] theorem unS_l (a : List D) : unS (.list a) = .list a := rfl
@[simp] theorem unS_t (a : List D) : unS (.tuple a) = .tuple a := rfl
@[simp] theorem unS_s (a : Str) : unS (.str a) = .str a := rfl
@[simp] theorem unS_scr (l : D) : unS (.dict [(.none, l)]) = l := rfl
@[simp] theorem dEq_i (a b : Int) : dEq (.int a) (.int b) = .ok (.bool (a == b)) := by simp [dEq, PyData.eqv]
@[simp] theorem dNe_i (a b : Int) : dNe (.int a) (.int b) = .ok (.bool (!(a == b))) := by simp [dNe, PyData.eqv]
@[simp] theorem dEq_b (a b : Bool) : dEq (.bool a) (.bool b) = .ok (.bool (a == b)) := by simp [dEq, PyData.eqv]
@[simp] theorem dNe_b (a b : Bool) : dNe (.bool a) (.bool b) = .ok (.bool (!(a == b))) := by simp [dNe, PyData.eqv]
@[simp] theorem dLen_l (ds : List D) : dLen [.list ds] = .ok (.int ds.length) := rfl
@[simp] theorem dLen_t (ds : List D) : dLen [.tuple ds] = .ok (.int ds.length) := rfl
@[simp] theorem dLen_scr (ds : List D) : dLen [.dict [(.none, .list ds)]] = .ok (.int ds.length) := rfl
def atR {α : Type} (o : Option α) (f : α → D) : R D := match o with
  | some a => .ok (f a)
  | none => .bad
@[simp] theorem atR_s {α : Type} (a : α) (f : α → D) : atR (some a) f = .ok (f a) := rfl
@[simp] theorem dIx_l (ds : List D) (i : Int) : dIx (.list ds) (.int i) = atR (atI ds i) id := by
  unfold dIx atR
  simp only
  cases atI ds i <;> rfl
@[simp] theorem dIx_t (ds : List D) (i : Int) : dIx (.tuple ds) (.int i) = atR (atI ds i) id := by
  unfold dIx atR
  simp only
  cases atI ds i <;> rfl
@[simp] theorem dIx_scr (ds : List D) (i : Int) : dIx (.dict [(.none, .list ds)]) (.int i) = atR (atI ds i) id := by
  unfold dIx atR
  simp only
  cases atI ds i <;> rfl
@[simp] theorem dSl_l (ds : List D) (a b : Option Int) : dSl (.list ds) a b = .ok (.list (cutL ds a b)) := rfl
@[simp] theorem dSl_t (ds : List D) (a b : Option Int) : dSl (.tuple ds) a b = .ok (.tuple (cutL ds a b)) := rfl
theorem dAdd_t (x y : List D) (h : x.length + y.length ≤ 100000) : dAdd (.tuple x) (.tuple y) = .ok (.tuple (x ++ y)) := by
  show (if szB _ = true then _ else _) = _
  rw [if_pos (show szB _ = true from decide_eq_true h)]
theorem dAdd_l (x y : List D) (h : x.length + y.length ≤ 100000) : dAdd (.list x) (.list y) = .ok (.list (x ++ y)) := by
  show (if szB _ = true then _ else _) = _
  rw [if_pos (show szB _ = true from decide_eq_true h)]
@[simp] theorem szB_lit (n : Nat) : szB n = decide (n ≤ 100000) := rfl
/-! ### loops -/
def stepK (Post : RS → Prop) (I : En → Prop) (r : RS) : Prop := match r with
  | .nx ρ => I ρ
  | .ct ρ => I ρ
  | .bk ρ => Post (.nx ρ)
  | r => Post r
theorem forL_post {g : DG} {M : DS} {Post : RS → Prop} (I : List D → En → Prop) (hend : ∀ ρ, I [] ρ → Post (.nx ρ)) (step : ∀ d ds ρ, I (d :: ds) ρ → ∃ ρ1, g d ρ = some ρ1 ∧ stepK Post (I ds) (M ρ1)) : ∀ ds ρ, I ds ρ → Post (forL g M ds ρ)
  | [], ρ, h => hend ρ h
  | d :: ds, ρ, h => by
    obtain ⟨ρ1, h1, h2⟩ := step d ds ρ h
    unfold forL
    rw [h1]
    simp only
    cases hM : M ρ1 with
    | nx ρ2 => rw [hM] at h2; exact forL_post I hend step ds ρ2 h2
    | ct ρ2 => rw [hM] at h2; exact forL_post I hend step ds ρ2 h2
    | bk ρ2 => rw [hM] at h2; exact h2
    | rt d => rw [hM] at h2; exact h2
    | er c ρ2 => rw [hM] at h2; exact h2
    | bad => rw [hM] at h2; exact h2
theorem sFor_post {it : DI} {g : DG} {M : DS} {ρ : En} {ds : List D} {Post : RS → Prop} (hi : it ρ = .ok ds) (I : List D → En → Prop) (h0 : I ds ρ) (hend : ∀ ρ, I [] ρ → Post (.nx ρ)) (step : ∀ d ds ρ, I (d :: ds) ρ → ∃ ρ1, g d ρ = some ρ1 ∧ stepK Post (I ds) (M ρ1)) : Post (sFor it g M ρ) := by
  unfold sFor
  rw [hi]
  exact forL_post I hend step ds ρ h0
theorem lcL_map {g : DG} {t m : DE} {vs : List Nat} {ρ : En} {f : D → Option D} : ∀ {ds : List D}, (∀ d ∈ ds, lcStep g t m vs ρ d = some (f d)) → lcL g t m vs ρ ds = some (ds.filterMap f)
  | [], _ => rfl
  | d :: ds, h => by
    unfold lcL
    rw [h d (by simp)]
    simp only
    rw [lcL_map fun x hx => h x (List.mem_cons_of_mem _ hx)]
    simp only [List.filterMap_cons]
    cases f d <;> rfl
theorem eLc_map {it : DI} {g : DG} {t m : DE} {vs : List Nat} {ρ : En} {ds : List D} {f : D → Option D} (hi : it ρ = .ok ds) (h : ∀ d ∈ ds, lcStep g t m vs ρ d = some (f d)) (hl : ds.length ≤ 100000) : eLc it g t m vs ρ = .ok (.list (ds.filterMap f)) := by
  unfold eLc
  rw [hi]
  simp only
  rw [lcL_map h]
  simp only
  rw [if_pos]
  exact decide_eq_true (Nat.le_trans (List.length_filterMap_le _ _) hl)
def lcK (o : Option En) (t m : DE) : Option (Option D) := match o with
  | none => none
  | some ρ => match t ρ with
    | .ok d => boolK d (match m ρ with | .ok x => some (some x) | _ => none) (some none) none
    | _ => none
theorem lcStep_eq (g : DG) (t m : DE) (vs : List Nat) (ρ : En) (d : D) : lcStep g t m vs ρ d = lcK (g d (wipeE ρ vs)) t m := by
  unfold lcStep lcK
  cases g d (wipeE ρ vs) with
  | none => rfl
  | some ρ1 =>
    simp only
    cases t ρ1 with
    | ok d =>
      simp only
      cases d with
      | bool b => cases b <;> rfl
      | _ => rfl
    | _ => rfl
theorem lcK_map {ρ : En} {t m : DE} {b : Bool} {d : D} (ht : t ρ = .ok (.bool b)) (hm : b = true → m ρ = .ok d) : lcK (some ρ) t m = some (if b = true then some d else none) := by
  unfold lcK
  simp only
  rw [ht]
  cases b with
  | false => rfl
  | true => simp only [boolK, hm]; rfl
theorem dIsE_ex (a : Addr) (b : Bool) : dIsE a b (exD a) = .ok (.bool b) := by simp [dIsE, exD]
end Fc
set_option Elab.async false
set_option linter.all false
set_option maxRecDepth 100000
set_option maxHeartbeats 2000000
namespace Fc
open PySem L2 Evl PySem.Spec PyProof.Rows
/-! ### zip of two sequences, each a list (true) or a tuple -/
def SIt (b : Bool) (h : Heap) (i l : Addr) (k : Nat) : Prop := if b = true then h.IsListIter i l k else h.IsTupleIter i l k
def SSq (b : Bool) (h : Heap) (l : Addr) (xs : Array Value) : Prop := if b = true then h.IsList l xs else h.IsTuple l xs
theorem SIt.extBut {c : Bool} {h h' : Heap} {a b l : Addr} {i : Nat} (x : SIt c h a l i) (hs : Heap.ExtBut b h h') (hab : a ≠ b) : SIt c h' a l i := by
  cases c with
  | true => exact Heap.IsListIter.extBut (x : h.IsListIter a l i) hs hab
  | false => exact Heap.IsTupleIter.extBut (x : h.IsTupleIter a l i) hs hab
theorem SIt.at {c : Bool} {h h' : Heap} {a l : Addr} {i : Nat} (x : SIt c h a l i) (e : ∀ o, h.get? a = some o → h'.get? a = some o) : SIt c h' a l i := by
  cases c with
  | true => exact Heap.IsListIter.at (x : h.IsListIter a l i) e
  | false => exact Heap.IsTupleIter.at (x : h.IsTupleIter a l i) e
theorem SSq.extBut {c : Bool} {h h' : Heap} {a b : Addr} {xs : Array Value} (x : SSq c h a xs) (hs : Heap.ExtBut b h h') (hab : a ≠ b) : SSq c h' a xs := by
  cases c with
  | true => exact Heap.IsList.extBut (x : h.IsList a xs) hs hab
  | false => exact Heap.IsTuple.extBut (x : h.IsTuple a xs) hs hab
theorem SSq.at {c : Bool} {h h' : Heap} {a : Addr} {xs : Array Value} (x : SSq c h a xs) (e : ∀ o, h.get? a = some o → h'.get? a = some o) : SSq c h' a xs := by
  cases c with
  | true => exact Heap.IsList.at (x : h.IsList a xs) e
  | false => exact Heap.IsTuple.at (x : h.IsTuple a xs) e
theorem SIt.there {c : Bool} {h : Heap} {a l : Addr} {i : Nat} (x : SIt c h a l i) : ∃ o vs, h.get? a = some o ∧ o.data = .fields vs := by
  cases c with
  | true => obtain ⟨o, h1, _, h2⟩ := (x : h.IsListIter a l i); exact ⟨o, _, h1, h2⟩
  | false => obtain ⟨o, h1, _, h2⟩ := (x : h.IsTupleIter a l i); exact ⟨o, _, h1, h2⟩
theorem SSq.there {c : Bool} {h : Heap} {a : Addr} {xs : Array Value} (x : SSq c h a xs) : ∃ o, h.get? a = some o := by
  cases c with
  | true => obtain ⟨o, h1, _⟩ := (x : h.IsList a xs); exact ⟨o, h1⟩
  | false => obtain ⟨o, h1, _⟩ := (x : h.IsTuple a xs); exact ⟨o, h1⟩
section
variable {prog : Program} {w : World} {A : Around} {E : Value → Shared → Prop} {s : Shared}
theorem nextOf_any_item {b : Bool} {it l : Addr} {i : Nat} {items : Array Value} {x : Value} {Q : Value → Shared → Prop} (hit : SIt b s.heap it l i)
    (hl : SSq b s.heap l items) (hx : items[i]? = some x)
    (hQ : ∀ h', SIt b h' it l (i + 1) → Heap.SameBut it s.heap h' → Q x { s with heap := h' }) :
    wpAny (model prog w) A (Builtin.SmallTypes.nextOf (.ref it)) Q E s := by
  cases b with
  | true => exact wpAny_nextOf_list_item (hit : s.heap.IsListIter it l i) (hl : s.heap.IsList l items) hx hQ
  | false => exact RZ.nextOf_tuple_item (hit : s.heap.IsTupleIter it l i) (hl : s.heap.IsTuple l items) hx hQ
theorem nextOf_any_end {b : Bool} {it l : Addr} {i : Nat} {items : Array Value} {Q : Value → Shared → Prop} (hh : A.handled = none)
    (hit : SIt b s.heap it l i) (hl : SSq b s.heap l items) (hx : items[i]? = none)
    (hE : ∀ h' e, Heap.ExtBut it s.heap h' → (∃ o, h'.get? e = some o ∧ o.cls = .type "StopIteration") → E (.ref e) { s with heap := h' }) :
    wpAny (model prog w) A (Builtin.SmallTypes.nextOf (.ref it)) Q E s := by
  cases b with
  | true => exact wpAny_nextOf_list_end hh (hit : s.heap.IsListIter it l i) (hl : s.heap.IsList l items) hx hE
  | false => exact RZ.nextOf_tuple_end hh (hit : s.heap.IsTupleIter it l i) (hl : s.heap.IsTuple l items) hx hE
end
structure ZG (b1 b2 : Bool) (h : Heap) (z TI TO i1 i2 l1 l2 : Addr) (k : Nat) : Prop where
  z : ∃ c f, IsZipG h z TI TO c f ∧ outV c
  ti : IsPair h TI (.ref i1) (.ref i2)
  to : ∃ a b, IsPair h TO a b
  h1 : SIt b1 h i1 l1 k
  h2 : SIt b2 h i2 l2 k
section
variable {prog : Program} {w : World} {A : Around} {E : Value → Shared → Prop} {s : Shared}
theorem zipG_item {b1 b2 : Bool} {z TI TO i1 i2 l1 l2 : Addr} {k : Nat} {xs ys : Array Value} {x y : Value} {Q : Value → Shared → Prop} (D : ZipApart z TI TO i1 i2 l1 l2)
    (S : ZG b1 b2 s.heap z TI TO i1 i2 l1 l2 k) (hl1 : SSq b1 s.heap l1 xs) (hl2 : SSq b2 s.heap l2 ys) (hx : xs[k]? = some x) (hy : ys[k]? = some y)
    (hQ : ∀ h', ZG b1 b2 h' z TI TO i1 i2 l1 l2 (k + 1) → IsPair h' s.heap.objs.size x y → h'.objs.size = s.heap.objs.size + 1 →
      (∀ c o, c ≠ z → c ≠ TO → c ≠ i1 → c ≠ i2 → s.heap.get? c = some o → h'.get? c = some o) → Q (.ref s.heap.objs.size) { s with heap := h' }) :
    wpAny (model prog w) A (Builtin.«zip.__next__» ⟨[.ref z], []⟩) (fun fin s' => ∃ v, fin = .done (.ret v) ∧ Q v s') E s := by
  obtain ⟨⟨c, f, hz, hc⟩, hTI, ⟨a, b, hTO⟩, h1, h2⟩ := S
  show wpAny _ _ (field (.ref z) 2 >>= _) _ _ _
  refine wpAny_bind (wpAny_field hz rfl (x := .bool false) rfl ?_)
  show wpAny _ _ (field (.ref z) 3 >>= _) _ _ _
  refine wpAny_bind (wpAny_field hz rfl (x := .ref TI) rfl ?_)
  refine wpAny_bind (wpAny_seqItems hTI rfl ?_)
  show wpAny _ _ (Builtin.SmallTypes.ownedTupleIsFree (.ref z) >>= _) _ _ _
  refine wpAny_bind (isFreeG hz hc ?_ fun h₁ hz₁ hs₁ => ?_)
  · -- its tuple is free
    simp only [if_true]
    refine wpAny_bind (wpAny_rule ?_)
    refine wpAny_bind (wpAny_field hz rfl (x := .ref TO) rfl ?_)
    refine wpAny_bind (wpAny_setField_rec hz (by simp) fun h₁ hz₁ hs₁ => ?_)
    replace hz₁ : IsZipG h₁ z TI TO .ellipsis f := hz₁
    refine wpAny_bind ?_
    simp only [List.zipIdx_cons, List.zipIdx_nil, List.forIn_cons, List.forIn_nil]
    refine wpAny_bind (wpAny_bind (wpAny_onRaise ?_))
    show wpAny _ _ (Builtin.SmallTypes.nextOf (.ref i1) >>= _) _ _ _
    refine wpAny_bind (nextOf_any_item (h1.extBut hs₁.extBut D.i1z) (hl1.extBut hs₁.extBut D.l1z) hx fun h₂ h1₂ hs₂ => wpAny_pure ?_)
    have hTO₂ : IsPair h₂ TO a b := hs₂.extBut _ _ D.TOi1 (hs₁.extBut _ _ D.TOz hTO)
    refine wpAny_bind (wpAny_seqItems hTO₂ rfl ?_)
    refine wpAny_bind (wpAny_updateSeq_pair hTO₂ fun h₃ hTO₃ hs₃ => ?_)
    replace hTO₃ : IsPair h₃ TO x b := hTO₃
    refine wpAny_bind (wpAny_letGo (wpAny_pure ?_))
    refine wpAny_bind (wpAny_bind (wpAny_onRaise ?_))
    show wpAny _ _ (Builtin.SmallTypes.nextOf (.ref i2) >>= _) _ _ _
    refine wpAny_bind (nextOf_any_item (((h2.extBut hs₁.extBut D.i2z).extBut hs₂.extBut D.i12.symm).extBut hs₃.extBut D.TOi2.symm)
      (((hl2.extBut hs₁.extBut D.l2z).extBut hs₂.extBut D.l2i1).extBut hs₃.extBut D.l2TO) hy fun h₄ h2₄ hs₄ => wpAny_pure ?_)
    have hTO₄ : IsPair h₄ TO x b := hs₄.extBut _ _ D.TOi2 hTO₃
    refine wpAny_bind (wpAny_seqItems hTO₄ rfl ?_)
    refine wpAny_bind (wpAny_updateSeq_pair hTO₄ fun h₅ hTO₅ hs₅ => ?_)
    replace hTO₅ : IsPair h₅ TO x y := hTO₅
    refine wpAny_bind (wpAny_letGo (wpAny_pure (wpAny_pure ?_)))
    refine wpAny_bind (wpAny_seqItems hTO₅ rfl ?_)
    refine wpAny_bind (wpAny_newTuple ?_)
    have hsz : h₅.objs.size = s.heap.objs.size := by rw [hs₅.1, hs₄.1, hs₃.1, hs₂.1, hs₁.1]
    have hz₅ : IsZipG h₅ z TI TO .ellipsis f := hs₅.extBut _ _ D.TOz.symm (hs₄.extBut _ _ D.i2z.symm (hs₃.extBut _ _ D.TOz.symm (hs₂.extBut _ _ D.i1z.symm hz₁)))
    have hk₅ : ∀ c o, c ≠ z → c ≠ TO → c ≠ i1 → c ≠ i2 → s.heap.get? c = some o → h₅.get? c = some o := fun c o c1 c2 c3 c4 e =>
      hs₅.extBut _ _ c2 (hs₄.extBut _ _ c4 (hs₃.extBut _ _ c2 (hs₂.extBut _ _ c3 (hs₁.extBut _ _ c1 e))))
    have h1₅ : SIt b1 h₅ i1 l1 (k + 1) := ((h1₂.extBut hs₃.extBut D.TOi1.symm).extBut hs₄.extBut D.i12).extBut hs₅.extBut D.TOi1.symm
    have h2₅ : SIt b2 h₅ i2 l2 (k + 1) := h2₄.extBut hs₅.extBut D.TOi2.symm
    have hzlt : z < h₅.objs.size := Heap.lt_size hz₅
    show wpAny _ _ (Builtin.SmallTypes.ownedTupleHandOut (.ref z) (.ref h₅.objs.size) >>= _) _ _ _
    refine wpAny_bind ?_
    unfold Builtin.SmallTypes.ownedTupleHandOut
    have hz₆ : IsZipG (h₅.push { cls := .type "tuple", data := .seq #[x, y] }) z TI TO .ellipsis f := Heap.get?_push_of_some _ hz₅
    refine wpAny_bind (wpAny_setField_rec hz₆ (by simp) fun h₇ hz₇ hs₇ => ?_)
    replace hz₇ : IsZipG h₇ z TI TO (rawInt h₅.objs.size) f := hz₇
    refine wpAny_setField_rec hz₇ (by simp) fun h₈ hz₈ hs₈ => ?_
    replace hz₈ : IsZipG h₈ z TI TO (rawInt h₅.objs.size) false := hz₈
    have up : ∀ c o, c ≠ z → h₅.get? c = some o → h₈.get? c = some o := fun c o c1 e => hs₈.extBut _ _ c1 (hs₇.extBut _ _ c1 (Heap.get?_push_of_some _ e))
    have hT₈ : IsPair h₈ h₅.objs.size x y := hs₈.extBut _ _ (Nat.ne_of_gt hzlt) (hs₇.extBut _ _ (Nat.ne_of_gt hzlt) (Heap.get?_push_size _ rfl))
    have hz8 : h₈.objs.size = h₅.objs.size + 1 := by rw [hs₈.1, hs₇.1, Heap.size_push]
    have hTI₈ : IsPair h₈ TI (.ref i1) (.ref i2) := up _ _ D.TIz (hk₅ _ _ D.TIz D.TITO D.TIi1 D.TIi2 hTI)
    rw [hsz] at hT₈ hz8
    refine wpAny_pure ⟨_, rfl, ?_⟩
    show Q (.ref h₅.objs.size) _
    rw [hsz]
    exact hQ h₈ ⟨⟨_, _, hz₈, .inr ⟨_, rfl⟩⟩, hTI₈, ⟨_, _, up _ _ D.TOz hTO₅⟩, h1₅.at fun o e => up _ o D.i1z e, h2₅.at fun o e => up _ o D.i2z e⟩ hT₈ hz8 fun c o c1 c2 c3 c4 e => up c o c1 (hk₅ c o c1 c2 c3 c4 e)
  · -- its tuple is held
    simp only [Bool.false_eq_true, if_false]
    refine wpAny_bind ?_
    rw [← Array.forIn_toList]
    simp only [List.forIn_cons, List.forIn_nil]
    refine wpAny_bind (wpAny_bind (wpAny_holding ?_))
    show wpAny _ _ (Builtin.SmallTypes.nextOf (.ref i1) >>= _) _ _ _
    refine wpAny_bind (nextOf_any_item (s := { s with heap := h₁ }) (h1.extBut hs₁.extBut D.i1z) (hl1.extBut hs₁.extBut D.l1z) hx fun h₂ h1₂ hs₂ => wpAny_pure ?_)
    refine wpAny_pure ?_
    refine wpAny_bind (wpAny_bind (wpAny_holding ?_))
    show wpAny _ _ (Builtin.SmallTypes.nextOf (.ref i2) >>= _) _ _ _
    refine wpAny_bind (nextOf_any_item (s := { s with heap := h₂ }) ((h2.extBut hs₁.extBut D.i2z).extBut hs₂.extBut D.i12.symm) ((hl2.extBut hs₁.extBut D.l2z).extBut hs₂.extBut D.l2i1) hy fun h₃ h2₃ hs₃ => wpAny_pure ?_)
    refine wpAny_pure (wpAny_pure ?_)
    show wpAny _ _ (newTuple [x, y] >>= _) _ _ _
    refine wpAny_bind (wpAny_newTuple ?_)
    have hsz : h₃.objs.size = s.heap.objs.size := by rw [hs₃.1, hs₂.1, hs₁.1]
    have hz₃ : IsZipG h₃ z TI TO c true := hs₃.extBut _ _ D.i2z.symm (hs₂.extBut _ _ D.i1z.symm hz₁)
    have hk : ∀ c o, c ≠ z → c ≠ i1 → c ≠ i2 → s.heap.get? c = some o → h₃.get? c = some o := fun c o c1 c2 c3 e => hs₃.extBut _ _ c3 (hs₂.extBut _ _ c2 (hs₁.extBut _ _ c1 e))
    have h1₃ : SIt b1 h₃ i1 l1 (k + 1) := h1₂.extBut hs₃.extBut D.i12
    refine wpAny_pure ⟨_, rfl, ?_⟩
    show Q (.ref h₃.objs.size) _
    have hp : IsPair (h₃.push { cls := .type "tuple", data := .seq #[x, y] }) h₃.objs.size x y := Heap.get?_push_size _ rfl
    have hz4 : (h₃.push { cls := .type "tuple", data := .seq #[x, y] }).objs.size = h₃.objs.size + 1 := Heap.size_push ..
    rw [hsz] at hp hz4 ⊢
    exact hQ _ ⟨⟨c, true, Heap.get?_push_of_some _ hz₃, hc⟩, Heap.get?_push_of_some _ (hk _ _ D.TIz D.TIi1 D.TIi2 hTI), ⟨a, b, Heap.get?_push_of_some _ (hk _ _ D.TOz D.TOi1 D.TOi2 hTO)⟩, h1₃.at fun o e => Heap.get?_push_of_some _ e, h2₃.at fun o e => Heap.get?_push_of_some _ e⟩ hp hz4 fun c o c1 _ c2 c3 e => Heap.get?_push_of_some _ (hk c o c1 c2 c3 e)
theorem zipG_end {b1 b2 : Bool} {z TI TO i1 i2 l1 l2 : Addr} {k : Nat} {xs ys : Array Value} {Q : Fin → Shared → Prop} (hh : A.handled = none) (D : ZipApart z TI TO i1 i2 l1 l2)
    (S : ZG b1 b2 s.heap z TI TO i1 i2 l1 l2 k) (hl1 : SSq b1 s.heap l1 xs) (hl2 : SSq b2 s.heap l2 ys) (hend : xs[k]? = none ∨ ys[k]? = none)
    (hE : ∀ h' e, (∀ c o, c ≠ z → c ≠ TO → c ≠ i1 → c ≠ i2 → s.heap.get? c = some o → h'.get? c = some o) → (∃ o, h'.get? e = some o ∧ o.cls = .type "StopIteration") → E (.ref e) { s with heap := h' }) :
    wpAny (model prog w) A (Builtin.«zip.__next__» ⟨[.ref z], []⟩) Q E s := by
  obtain ⟨⟨c, f, hz, hc⟩, hTI, ⟨a, b, hTO⟩, h1, h2⟩ := S
  show wpAny _ _ (field (.ref z) 2 >>= _) _ _ _
  refine wpAny_bind (wpAny_field hz rfl (x := .bool false) rfl ?_)
  show wpAny _ _ (field (.ref z) 3 >>= _) _ _ _
  refine wpAny_bind (wpAny_field hz rfl (x := .ref TI) rfl ?_)
  refine wpAny_bind (wpAny_seqItems hTI rfl ?_)
  show wpAny _ _ (Builtin.SmallTypes.ownedTupleIsFree (.ref z) >>= _) _ _ _
  refine wpAny_bind (isFreeG hz hc ?_ fun h₁ hz₁ hs₁ => ?_)
  · simp only [if_true]
    refine wpAny_bind (wpAny_rule ?_)
    refine wpAny_bind (wpAny_field hz rfl (x := .ref TO) rfl ?_)
    refine wpAny_bind (wpAny_setField_rec hz (by simp) fun h₁ hz₁ hs₁ => ?_)
    replace hz₁ : IsZipG h₁ z TI TO .ellipsis f := hz₁
    refine wpAny_bind ?_
    simp only [List.zipIdx_cons, List.zipIdx_nil, List.forIn_cons, List.forIn_nil]
    refine wpAny_bind (wpAny_bind (wpAny_onRaise ?_))
    show wpAny _ _ (Builtin.SmallTypes.nextOf (.ref i1) >>= _) _ _ _
    cases hx : xs[k]? with
    | none =>
      refine wpAny_bind (nextOf_any_end hh (h1.extBut hs₁.extBut D.i1z) (hl1.extBut hs₁.extBut D.l1z) hx fun h₂ e hs₂ he => ?_)
      obtain ⟨oe, hoe, hce⟩ := he
      have hz₂ : IsZipG h₂ z TI TO .ellipsis f := hs₂ _ _ D.i1z.symm hz₁
      have hez : e ≠ z := fun x => by subst x; rw [hz₂] at hoe; cases hoe; simp at hce
      refine wpAny_setField_rec hz₂ (by simp) fun h₃ _ hs₃ => hE h₃ e (fun c o c1 _ c3 _ x => hs₃.extBut _ _ c1 (hs₂ _ _ c3 (hs₁.extBut _ _ c1 x))) ⟨oe, hs₃.extBut _ _ hez hoe, hce⟩
    | some x =>
      have hy : ys[k]? = none := by rcases hend with h | h; rw [hx] at h; cases h; exact h
      refine wpAny_bind (nextOf_any_item (h1.extBut hs₁.extBut D.i1z) (hl1.extBut hs₁.extBut D.l1z) hx fun h₂ h1₂ hs₂ => wpAny_pure ?_)
      have hTO₂ : IsPair h₂ TO a b := hs₂.extBut _ _ D.TOi1 (hs₁.extBut _ _ D.TOz hTO)
      refine wpAny_bind (wpAny_seqItems hTO₂ rfl ?_)
      refine wpAny_bind (wpAny_updateSeq_pair hTO₂ fun h₃ hTO₃ hs₃ => ?_)
      refine wpAny_bind (wpAny_letGo (wpAny_pure ?_))
      refine wpAny_bind (wpAny_bind (wpAny_onRaise ?_))
      show wpAny _ _ (Builtin.SmallTypes.nextOf (.ref i2) >>= _) _ _ _
      refine wpAny_bind (nextOf_any_end hh (((h2.extBut hs₁.extBut D.i2z).extBut hs₂.extBut D.i12.symm).extBut hs₃.extBut D.TOi2.symm)
        (((hl2.extBut hs₁.extBut D.l2z).extBut hs₂.extBut D.l2i1).extBut hs₃.extBut D.l2TO) hy fun h₄ e hs₄ he => ?_)
      obtain ⟨oe, hoe, hce⟩ := he
      have hz₄ : IsZipG h₄ z TI TO .ellipsis f := hs₄ _ _ D.i2z.symm (hs₃.extBut _ _ D.TOz.symm (hs₂.extBut _ _ D.i1z.symm hz₁))
      have hez : e ≠ z := fun x => by subst x; rw [hz₄] at hoe; cases hoe; simp at hce
      refine wpAny_setField_rec hz₄ (by simp) fun h₅ _ hs₅ => hE h₅ e (fun c o c1 c2 c3 c4 x => hs₅.extBut _ _ c1 (hs₄ _ _ c4 (hs₃.extBut _ _ c2 (hs₂.extBut _ _ c3 (hs₁.extBut _ _ c1 x))))) ⟨oe, hs₅.extBut _ _ hez hoe, hce⟩
  · simp only [Bool.false_eq_true, if_false]
    refine wpAny_bind ?_
    rw [← Array.forIn_toList]
    simp only [List.forIn_cons, List.forIn_nil]
    refine wpAny_bind (wpAny_bind (wpAny_holding ?_))
    show wpAny _ _ (Builtin.SmallTypes.nextOf (.ref i1) >>= _) _ _ _
    cases hx : xs[k]? with
    | none =>
      refine wpAny_bind (nextOf_any_end (s := { s with heap := h₁ }) hh (h1.extBut hs₁.extBut D.i1z) (hl1.extBut hs₁.extBut D.l1z) hx fun h₂ e hs₂ he => ?_)
      exact hE h₂ e (fun c o c1 _ c2 _ x => hs₂ _ _ c2 (hs₁.extBut _ _ c1 x)) he
    | some x =>
      have hy : ys[k]? = none := by rcases hend with h | h; rw [hx] at h; cases h; exact h
      refine wpAny_bind (nextOf_any_item (s := { s with heap := h₁ }) (h1.extBut hs₁.extBut D.i1z) (hl1.extBut hs₁.extBut D.l1z) hx fun h₂ h1₂ hs₂ => wpAny_pure ?_)
      refine wpAny_pure ?_
      refine wpAny_bind (wpAny_bind (wpAny_holding ?_))
      show wpAny _ _ (Builtin.SmallTypes.nextOf (.ref i2) >>= _) _ _ _
      refine wpAny_bind (nextOf_any_end (s := { s with heap := h₂ }) hh ((h2.extBut hs₁.extBut D.i2z).extBut hs₂.extBut D.i12.symm) ((hl2.extBut hs₁.extBut D.l2z).extBut hs₂.extBut D.l2i1) hy fun h₃ e hs₃ he => ?_)
      exact hE h₃ e (fun c o c1 _ c2 c3 x => hs₃ _ _ c3 (hs₂.extBut _ _ c2 (hs₁.extBut _ _ c1 x))) he
theorem zipG_next {b1 b2 : Bool} {z TI TO i1 i2 l1 l2 : Addr} {k : Nat} {xs ys : Array Value} {x y : Value} {Q : Option Value → Shared → Prop} (D : ZipApart z TI TO i1 i2 l1 l2)
    (S : ZG b1 b2 s.heap z TI TO i1 i2 l1 l2 k) (hl1 : SSq b1 s.heap l1 xs) (hl2 : SSq b2 s.heap l2 ys) (hx : xs[k]? = some x) (hy : ys[k]? = some y)
    (hQ : ∀ h', ZG b1 b2 h' z TI TO i1 i2 l1 l2 (k + 1) → IsPair h' s.heap.objs.size x y → h'.objs.size = s.heap.objs.size + 1 →
      (∀ c o, c ≠ z → c ≠ TO → c ≠ i1 → c ≠ i2 → s.heap.get? c = some o → h'.get? c = some o) → Q (some (.ref s.heap.objs.size)) { s with heap := h' }) :
    wpAny (model prog w) A (pyNext (.ref z)) Q E s := by
  have hT : s.TypeIs (.ref z) "zip" := by obtain ⟨⟨c, f, hz, _⟩, _⟩ := S; exact ⟨_, hz, rfl⟩
  unfold pyNext
  exact wpAny_bind (wpAny_attempt (wpAny_callSpecial?_slot (name := Str.ofString "__next__") hT F.slot_zip_next
    (wpAny_call_entry F.slot_zip_next hT F.entry_zip_next
      (zipG_item D S hl1 hl2 hx hy fun h' a1 a2 a3 a4 => wpAny_pure (hQ h' a1 a2 a3 a4)) (F.args_zip_next_1 _))))
theorem zipG_nextEnd {b1 b2 : Bool} {z TI TO i1 i2 l1 l2 : Addr} {k : Nat} {xs ys : Array Value} {Q : Option Value → Shared → Prop} (hh : A.handled = none) (D : ZipApart z TI TO i1 i2 l1 l2)
    (S : ZG b1 b2 s.heap z TI TO i1 i2 l1 l2 k) (hl1 : SSq b1 s.heap l1 xs) (hl2 : SSq b2 s.heap l2 ys) (hend : xs[k]? = none ∨ ys[k]? = none)
    (hQ : ∀ h', (∀ c o, c ≠ z → c ≠ TO → c ≠ i1 → c ≠ i2 → s.heap.get? c = some o → h'.get? c = some o) → Q none { s with heap := h' }) :
    wpAny (model prog w) A (pyNext (.ref z)) Q E s := by
  have hT : s.TypeIs (.ref z) "zip" := by obtain ⟨⟨c, f, hz, _⟩, _⟩ := S; exact ⟨_, hz, rfl⟩
  unfold pyNext
  refine wpAny_bind (wpAny_attempt (wpAny_callSpecial?_slot (name := Str.ofString "__next__") hT F.slot_zip_next
    (wpAny_call_entry F.slot_zip_next hT F.entry_zip_next (zipG_end (A := A.in1) hh D S hl1 hl2 hend fun h' e hk he => ?_) (F.args_zip_next_1 _))))
  obtain ⟨o, ho, hc⟩ := he
  refine wpAny_bind (wpAny_isInstance (T := "StopIteration") (b := true) ⟨o, ho, hc⟩ isSubtype_stop ?_)
  exact wpAny_pure (hQ _ hk)
end
end Fc
set_option Elab.async false
set_option linter.all false
set_option maxRecDepth 100000
set_option maxHeartbeats 2000000
namespace Fc
open PySem L2 Evl PySem.Spec PyProof.Rows
section
variable {prog : Program} {w : World}
theorem PairArg.zipG (b1 b2 : Bool) (z TI TO i1 i2 l1 l2 : Addr) (D : ZipApart z TI TO i1 i2 l1 l2) (xs ys : Array Value) :
    PairArg prog w "zip" z [z, TI, TO, i1, i2, l1, l2] [z, TO, i1, i2] (min xs.size ys.size) (fun i k v => xs[i]? = some k ∧ ys[i]? = some v)
      (fun h => IsZip h z TI TO .none ∧ IsPair h TI (.ref i1) (.ref i2) ∧ (∃ a b, IsPair h TO a b) ∧ SIt b1 h i1 l1 0 ∧ SIt b2 h i2 l2 0 ∧ SSq b1 h l1 xs ∧ SSq b2 h l2 ys) where
  type := fun s ok => ⟨_, ok.1, rfl⟩
  notDict := by decide
  keep := fun h h' ok hk => by
    obtain ⟨hz, hTI, ⟨a, b, hTO⟩, h1, h2, hl1, hl2⟩ := ok
    exact ⟨hk _ _ hz, hk _ _ hTI, ⟨a, b, hk _ _ hTO⟩, h1.at fun o e => hk _ o e, h2.at fun o e => hk _ o e, hl1.at fun o e => hk _ o e, hl2.at fun o e => hk _ o e⟩
  there := fun h ok b hb => by
    obtain ⟨hz, hTI, ⟨a, c, hTO⟩, s1, s2, q1, q2⟩ := ok
    obtain ⟨o1, _, h1, _⟩ := s1.there
    obtain ⟨o2, _, h2, _⟩ := s2.there
    obtain ⟨o3, hl1⟩ := q1.there
    obtain ⟨o4, hl2⟩ := q2.there
    simp only [List.mem_cons, List.not_mem_nil, or_false] at hb
    rcases hb with rfl | rfl | rfl | rfl | rfl | rfl | rfl
    all_goals first | exact ⟨_, hz⟩ | exact ⟨_, hTI⟩ | exact ⟨_, hTO⟩ | exact ⟨_, h1⟩ | exact ⟨_, h2⟩ | exact ⟨_, hl1⟩ | exact ⟨_, hl2⟩
  sub := fun b hb => by simp at hb ⊢; rcases hb with rfl | rfl | rfl | rfl <;> simp
  noKeys := fun A s Q E hA ok h => getAttrOr_miss_zip ok.1 rfl rfl rfl zip_no_keys (by decide +kernel) hA h
  iter := fun A s d Q E hA ok hd hdf h => by
    obtain ⟨hz, hTI, ⟨a, b, hTO⟩, h1, h2, hl1, hl2⟩ := ok
    simp only [List.mem_cons, List.not_mem_nil, or_false, not_or] at hdf
    obtain ⟨dz, dTI, dTO, di1, di2, dl1, dl2⟩ := hdf
    refine wpAny_pyIter_zip hz (h z [z, TO, i1, i2] (fun i h => ZG b1 b2 h z TI TO i1 i2 l1 l2 i ∧ SSq b1 h l1 xs ∧ SSq b2 h l2 ys) s.heap s.toks ?_
      ⟨⟨⟨_, _, hz, .inl rfl⟩, hTI, ⟨a, b, hTO⟩, h1, h2⟩, hl1, hl2⟩ (fun _ _ e => e) fun b hb => .inl hb)
    exact {
      off := fun hm => by
        simp only [List.mem_cons, List.not_mem_nil, or_false] at hm
        rcases hm with e | e | e | e
        · exact dz e
        · exact dTO e
        · exact di1 e
        · exact di2 e
      frame := fun i h₁ h₂ st hk => by
        obtain ⟨⟨⟨c, f, hz, hc⟩, hTI, ⟨a, b, hTO⟩, h1, h2⟩, hl1, hl2⟩ := st
        exact ⟨⟨⟨c, f, hk _ _ (Ne.symm dz) hz, hc⟩, hk _ _ (Ne.symm dTI) hTI, ⟨a, b, hk _ _ (Ne.symm dTO) hTO⟩, h1.at fun o e => hk _ o (Ne.symm di1) e, h2.at fun o e => hk _ o (Ne.symm di2) e⟩, hl1.at fun o e => hk _ o (Ne.symm dl1) e, hl2.at fun o e => hk _ o (Ne.symm dl2) e⟩
      item := fun i s₁ Q₁ E₁ hi st hds hQ => by
        obtain ⟨S, hl1, hl2⟩ := st
        have hix : i < xs.size := Nat.lt_of_lt_of_le hi (Nat.min_le_left ..)
        have hiy : i < ys.size := Nat.lt_of_lt_of_le hi (Nat.min_le_right ..)
        have ex := Array.getElem?_eq_getElem hix
        have ey := Array.getElem?_eq_getElem hiy
        refine zipG_next D S hl1 hl2 ex ey fun h' S' hp hsz hk => ?_
        exact hQ s₁.heap.objs.size _ _ h' s₁.toks ⟨ex, ey⟩ (.inl ⟨_, hp, rfl, _, rfl⟩)
          ⟨S', hl1.at fun o e => hk _ o D.l1z D.l1TO D.l1i1 D.l1i2 e, hl2.at fun o e => hk _ o D.l2z D.l2TO D.l2i1 D.l2i2 e⟩
          fun c o hc e => hk c o (fun x => hc (by simp [x])) (fun x => hc (by simp [x])) (fun x => hc (by simp [x])) (fun x => hc (by simp [x])) e
      done := fun s₁ Q₁ E₁ st hQ => by
        obtain ⟨S, hl1, hl2⟩ := st
        have hend : xs[min xs.size ys.size]? = none ∨ ys[min xs.size ys.size]? = none := by
          rcases Nat.le_total xs.size ys.size with h | h
          · exact .inl (Array.getElem?_eq_none (by rw [Nat.min_eq_left h]; exact Nat.le_refl _))
          · exact .inr (Array.getElem?_eq_none (by rw [Nat.min_eq_right h]; exact Nat.le_refl _))
        exact zipG_nextEnd hA D S hl1 hl2 hend fun h' hk => hQ h' s₁.toks fun c o hc e => hk c o (fun x => hc (by simp [x])) (fun x => hc (by simp [x])) (fun x => hc (by simp [x])) (fun x => hc (by simp [x])) e }
end
/-! ### zip(list, tuple), zip(tuple, list): its making -/
abbrev zH1 (b : Bool) (h : Heap) (l1 : Addr) : Heap := h.push { cls := .type (if b = true then "list_iterator" else "tuple_iterator"), data := .fields #[.ref l1, .int 0 0] }
abbrev zH2 (b1 b2 : Bool) (h : Heap) (l1 l2 : Addr) : Heap := (zH1 b1 h l1).push { cls := .type (if b2 = true then "list_iterator" else "tuple_iterator"), data := .fields #[.ref l2, .int 0 0] }
abbrev zH3 (b1 b2 : Bool) (h : Heap) (l1 l2 : Addr) : Heap := (zH2 b1 b2 h l1 l2).push { cls := .type "tuple", data := .seq #[.ref h.objs.size, .ref (zH1 b1 h l1).objs.size] }
abbrev zH4 (b1 b2 : Bool) (h : Heap) (l1 l2 : Addr) : Heap := (zH3 b1 b2 h l1 l2).push { cls := .type "tuple", data := .seq #[.none, .none] }
abbrev zH5 (b1 b2 : Bool) (h : Heap) (l1 l2 : Addr) : Heap := (zH4 b1 b2 h l1 l2).push { cls := .type "zip", data := .fields #[.none, .bool false, .bool false, .ref (zH2 b1 b2 h l1 l2).objs.size, .ref (zH3 b1 b2 h l1 l2).objs.size] }
theorem meets_zipLT (l1 l2 : Addr) (xs ys : Array Value) :
    Meets (Builtin.«zip.__new__» ⟨[.type "zip", .ref l1, .ref l2], []⟩) (fun _ R s => s.heap.IsList l1 xs ∧ s.heap.IsTuple l2 ys ∧
      R (.ok (.ret (.ref (zH4 true false s.heap l1 l2).objs.size))) { s with heap := zH5 true false s.heap l1 l2 }) :=
  .of_wp fun prog w A R s h => by
    obtain ⟨hp, g, d, tk, os⟩ := s; obtain ⟨hl1, hl2, h⟩ := h
    have hsub := sub_zip
    have hL1 : Heap.IsList (Shared.heap ⟨hp, g, d, tk, os⟩) l1 xs := hl1
    have hL2 : Heap.IsTuple (Shared.heap ⟨hp.push { cls := .type "list_iterator", data := .fields #[.ref l1, .int 0 0] }, g, d, tk, os⟩) l2 ys := Heap.IsTuple.push hl2 _
    wp_walk using wpAny_pyIter_list hL1, wpAny_pyIter_tuple hL2
    exact ⟨_, rfl, h⟩
theorem meets_zipTL (l1 l2 : Addr) (xs ys : Array Value) :
    Meets (Builtin.«zip.__new__» ⟨[.type "zip", .ref l1, .ref l2], []⟩) (fun _ R s => s.heap.IsTuple l1 xs ∧ s.heap.IsList l2 ys ∧
      R (.ok (.ret (.ref (zH4 false true s.heap l1 l2).objs.size))) { s with heap := zH5 false true s.heap l1 l2 }) :=
  .of_wp fun prog w A R s h => by
    obtain ⟨hp, g, d, tk, os⟩ := s; obtain ⟨hl1, hl2, h⟩ := h
    have hsub := sub_zip
    have hL1 : Heap.IsTuple (Shared.heap ⟨hp, g, d, tk, os⟩) l1 xs := hl1
    have hL2 : Heap.IsList (Shared.heap ⟨hp.push { cls := .type "tuple_iterator", data := .fields #[.ref l1, .int 0 0] }, g, d, tk, os⟩) l2 ys := Heap.IsList.at hl2 fun o e => Heap.get?_push_of_some _ e
    wp_walk using wpAny_pyIter_tuple hL1, wpAny_pyIter_list hL2
    exact ⟨_, rfl, h⟩
section
variable {prog : Program} {w : World} {A : Around} {E : Value → Shared → Prop} {s : Shared}
theorem call_zipG {b1 b2 : Bool} {l1 l2 : Addr} {xs ys : Array Value} {Q : Value → Shared → Prop} (hl1 : SSq b1 s.heap l1 xs) (hl2 : SSq b2 s.heap l2 ys)
    (h : ∀ h', IsZip h' (s.heap.objs.size + 4) (s.heap.objs.size + 2) (s.heap.objs.size + 3) .none → IsPair h' (s.heap.objs.size + 2) (.ref s.heap.objs.size) (.ref (s.heap.objs.size + 1)) →
      IsPair h' (s.heap.objs.size + 3) .none .none → SIt b1 h' s.heap.objs.size l1 0 → SIt b2 h' (s.heap.objs.size + 1) l2 0 → h'.objs.size = s.heap.objs.size + 5 →
      (∀ c o, s.heap.get? c = some o → h'.get? c = some o) → Q (.ref (s.heap.objs.size + 4)) { s with heap := h' }) :
    wpAny (model prog w) A (call (.type "zip") [.ref l1, .ref l2]) Q E s := by
  cases b1 with
  | true => cases b2 with
    | true => exact call_zip_2 (hl1 : s.heap.IsList l1 xs) (hl2 : s.heap.IsList l2 ys) h
    | false =>
      refine callType_new F.called_zip (by decide) (F.typeCall_zip_2 _ _) (F.newCall_zip_2 _ _) (fun obj => F.args_object_init_3 obj _ _) F.entry_zip_new
        (meets_zipLT l1 l2 xs ys) ⟨hl1, hl2, ?_⟩
      have z1 : (zH1 true s.heap l1).objs.size = s.heap.objs.size + 1 := Heap.size_push ..
      have z2 : (zH2 true false s.heap l1 l2).objs.size = s.heap.objs.size + 2 := by rw [Heap.size_push, z1]
      have z3 : (zH3 true false s.heap l1 l2).objs.size = s.heap.objs.size + 3 := by rw [Heap.size_push, z2]
      have z4 : (zH4 true false s.heap l1 l2).objs.size = s.heap.objs.size + 4 := by rw [Heap.size_push, z3]
      have z5 : (zH5 true false s.heap l1 l2).objs.size = s.heap.objs.size + 5 := by rw [Heap.size_push, z4]
      have g5 : (zH5 true false s.heap l1 l2).get? (zH4 true false s.heap l1 l2).objs.size = some _ := Heap.get?_push_size _ rfl
      have g4 : (zH5 true false s.heap l1 l2).get? (zH3 true false s.heap l1 l2).objs.size = some _ := Heap.get?_push_of_some _ (Heap.get?_push_size _ rfl)
      have g3 : (zH5 true false s.heap l1 l2).get? (zH2 true false s.heap l1 l2).objs.size = some _ := Heap.get?_push_of_some _ (Heap.get?_push_of_some _ (Heap.get?_push_size _ rfl))
      have g2 : (zH5 true false s.heap l1 l2).get? (zH1 true s.heap l1).objs.size = some _ := Heap.get?_push_of_some _ (Heap.get?_push_of_some _ (Heap.get?_push_of_some _ (Heap.get?_push_size _ rfl)))
      have g1 : (zH5 true false s.heap l1 l2).get? s.heap.objs.size = some _ := Heap.get?_push_of_some _ (Heap.get?_push_of_some _ (Heap.get?_push_of_some _ (Heap.get?_push_of_some _ (Heap.get?_push_size _ rfl))))
      show _ ∧ _
      rw [z2, z3, z4] at g5
      rw [z1, z2] at g3
      rw [z3] at g4
      rw [z1] at g2
      rw [z4]
      exact ⟨⟨_, g5, rfl⟩, h _ g5 g3 g4 (show Heap.IsListIter _ _ _ _ from ⟨_, g1, rfl, rfl⟩) (show Heap.IsTupleIter _ _ _ _ from ⟨_, g2, rfl, rfl⟩) z5 fun c o x =>
        Heap.get?_push_of_some _ (Heap.get?_push_of_some _ (Heap.get?_push_of_some _ (Heap.get?_push_of_some _ (Heap.get?_push_of_some _ x))))⟩
  | false => cases b2 with
    | true =>
      refine callType_new F.called_zip (by decide) (F.typeCall_zip_2 _ _) (F.newCall_zip_2 _ _) (fun obj => F.args_object_init_3 obj _ _) F.entry_zip_new
        (meets_zipTL l1 l2 xs ys) ⟨hl1, hl2, ?_⟩
      have z1 : (zH1 false s.heap l1).objs.size = s.heap.objs.size + 1 := Heap.size_push ..
      have z2 : (zH2 false true s.heap l1 l2).objs.size = s.heap.objs.size + 2 := by rw [Heap.size_push, z1]
      have z3 : (zH3 false true s.heap l1 l2).objs.size = s.heap.objs.size + 3 := by rw [Heap.size_push, z2]
      have z4 : (zH4 false true s.heap l1 l2).objs.size = s.heap.objs.size + 4 := by rw [Heap.size_push, z3]
      have z5 : (zH5 false true s.heap l1 l2).objs.size = s.heap.objs.size + 5 := by rw [Heap.size_push, z4]
      have g5 : (zH5 false true s.heap l1 l2).get? (zH4 false true s.heap l1 l2).objs.size = some _ := Heap.get?_push_size _ rfl
      have g4 : (zH5 false true s.heap l1 l2).get? (zH3 false true s.heap l1 l2).objs.size = some _ := Heap.get?_push_of_some _ (Heap.get?_push_size _ rfl)
      have g3 : (zH5 false true s.heap l1 l2).get? (zH2 false true s.heap l1 l2).objs.size = some _ := Heap.get?_push_of_some _ (Heap.get?_push_of_some _ (Heap.get?_push_size _ rfl))
      have g2 : (zH5 false true s.heap l1 l2).get? (zH1 false s.heap l1).objs.size = some _ := Heap.get?_push_of_some _ (Heap.get?_push_of_some _ (Heap.get?_push_of_some _ (Heap.get?_push_size _ rfl)))
      have g1 : (zH5 false true s.heap l1 l2).get? s.heap.objs.size = some _ := Heap.get?_push_of_some _ (Heap.get?_push_of_some _ (Heap.get?_push_of_some _ (Heap.get?_push_of_some _ (Heap.get?_push_size _ rfl))))
      show _ ∧ _
      rw [z2, z3, z4] at g5
      rw [z1, z2] at g3
      rw [z3] at g4
      rw [z1] at g2
      rw [z4]
      exact ⟨⟨_, g5, rfl⟩, h _ g5 g3 g4 (show Heap.IsTupleIter _ _ _ _ from ⟨_, g1, rfl, rfl⟩) (show Heap.IsListIter _ _ _ _ from ⟨_, g2, rfl, rfl⟩) z5 fun c o x =>
        Heap.get?_push_of_some _ (Heap.get?_push_of_some _ (Heap.get?_push_of_some _ (Heap.get?_push_of_some _ (Heap.get?_push_of_some _ x))))⟩
    | false => exact RZ.call_zipT (hl1 : s.heap.IsTuple l1 xs) (hl2 : s.heap.IsTuple l2 ys) h
end
end Fc
set_option Elab.async false
set_option linter.all false
set_option maxRecDepth 100000
set_option maxHeartbeats 2000000
namespace Fc
open PySem L2 Evl PySem.Spec PyProof.Rows
/-! ### dict(list of pairs), dict(zip(s, t)): the keys tuples -/
abbrev TK (P : Program) (w : World) : HeapKind P w (List Key) := tupleKind (mixKind P w)
def mergeT (kvs more : List (List Key × V)) : List (List Key × V) := more.foldl (fun acc kv => putK acc kv.1 kv.2) kvs
theorem mergeT_len : ∀ (more kvs : List (List Key × V)), (mergeT kvs more).length ≤ kvs.length + more.length
  | [], kvs => Nat.le_refl _
  | p :: more, kvs => by
    have h1 := mergeT_len more (putK kvs p.1 p.2)
    have h2 := length_putK kvs p.1 p.2
    simp only [List.length_cons]
    show (mergeT (putK kvs p.1 p.2) more).length ≤ _
    omega
/-- pairs as they stand: the key's tuple and the value -/
abbrev KP (H : Hp) : List (List Key × V) → List (List Key × Addr × Value) → Prop := KT H
theorem KT.merge {H : Hp} : ∀ {more : List (List Key × V)} {rs : List (List Key × Addr × Value)} {kvs : List (List Key × V)} {vs : List (List Key × Addr × Value)}, KT H more rs → KT H kvs vs → KT H (mergeT kvs more) (storedAllH vs rs)
  | _, _, _, _, .nil, r => r
  | _, _, _, _, .cons (a := p) (b := q) h t, r => by
    obtain ⟨h1, h2, h3⟩ := h
    have h2' : _ = some (HO.tup (p.1.map kV)) := h2
    unfold mergeT storedAllH
    rw [List.foldl_cons, List.foldl_cons, ← h1]
    exact KT.merge t (r.put p.1 h2 h3)
section
variable {X : Cx} {pins : List (Addr × Obj)} {σ : L2.St} {H : Hp} {s : Shared}
theorem key_stay {P : Program} {w : World} {h h' : Heap} {ks : List Key} {a : Addr} (x : (TK P w).is h ks a) (e : ∀ o, h.get? a = some o → h'.get? a = some o) : (TK P w).is h' ks a := by
  obtain ⟨o, vs, n, h1, h2, h3, h4⟩ := x
  exact ⟨o, vs, n, e _ h1, h2, h3, h4⟩
theorem key_there {P : Program} {w : World} {h : Heap} {ks : List Key} {a : Addr} (x : (TK P w).is h ks a) : ∃ o, h.get? a = some o := by
  obtain ⟨o, vs, n, h1, _⟩ := x
  exact ⟨o, h1⟩
theorem KT.keys {H : Hp} {P : Program} {w : World} {h : Heap} (ok : HOk P w H h) : ∀ {kvs : List (List Key × V)} {rs : List (List Key × Addr × Value)}, KT H kvs rs → ∀ x ∈ rs, (TK P w).is h x.1 x.2.1
  | _, _, .nil, x, hx => by cases hx
  | _, _, .cons (a := p) (b := q) z t, x, hx => by
    rcases List.mem_cons.mp hx with e | hx
    · subst e
      exact key_of ok (by rw [← z.1]; exact z.2.1)
    · exact KT.keys ok t x hx
/-- the new dict, laid -/
theorem dict_new {d : Addr} {h' : Heap} {kvs : List (List Key × V)} {rs : List (List Key × Addr × Value)} (big : sysModules < d) (hl : kvs.length ≤ sizeLine) (r : KT H kvs rs) (hd : H d = none) (hD : h'.DictOfH (TK X.prog X.w) d (storedAllH [] rs)) :
    ObjOk X.prog X.w (upd H d (.dT (mergeT [] kvs))) h' d (.dT (mergeT [] kvs)) := by
  obtain ⟨o, es, ep, h1, h2, h3, h4, _, h6⟩ := hD
  have hlen := mergeT_len kvs []
  refine ⟨by simp at hlen; exact Nat.le_trans hlen hl, beq_eq_false_iff_ne.mpr (Nat.ne_of_gt big), storedAllH [] rs, ?_, o, es, ep, h1, h2, h3, h4, h6⟩
  have r2 : KT H (mergeT [] kvs) (storedAllH [] rs) := KT.merge r .nil
  exact r2.keeps fun b ys e => by rw [upd_ne (ne_of_none e hd)]; exact e
end
/-- dict(l), l a list of pairs -/
def rDictT (K : Fr) : List V → Hp → VK → Prop := fun xs H Q => ∃ (a : Addr) (ps : List Addr) (kvs : List (List Key × V)), xs = [.ref a] ∧ SqL K H a (ps.map V.ref) ∧
  Paired (fun p kv => ∃ b, SqT K H p [.ref b, kv.2] ∧ H b = some (.tup (kv.1.map kV))) ps kvs ∧ ∀ p, H p = none → Q (.ref p) (upd H p (.dT (mergeT [] kvs)))
theorem pairsT {X : Cx} {pins : List (Addr × Obj)} {σ : L2.St} {H : Hp} {s : Shared} (I : Inv X pins σ H s) : ∀ {ps : List Addr} {kvs : List (List Key × V)}, Paired (fun p (kv : List Key × V) => ∃ b, SqT X.K H p [.ref b, kv.2] ∧ H b = some (.tup (kv.1.map kV))) ps kvs →
    ∃ rs : List (List Key × Addr × Value), KT H kvs rs ∧ rs.length = ps.length ∧ ∀ (j : Nat) (q : List Key × Addr × Value), rs[j]? = some q → ∃ b, ps[j]? = some b ∧ IsTup s.heap b #[.ref q.2.1, q.2.2]
  | _, _, .nil => ⟨[], .nil, rfl, fun j q e => by simp at e⟩
  | _, _, .cons (a := p) (b := kv) h t => by
    obtain ⟨b, hq, hb⟩ := h
    obtain ⟨rs, r, hl, hp⟩ := pairsT I t
    obtain ⟨its, rv, ht, _⟩ := I.tuple hq
    obtain ⟨u, y, ei, ru, ry⟩ := vals2 rv
    subst ei
    cases ru
    refine ⟨(kv.1, b, y) :: rs, .cons ⟨rfl, hb, ry⟩ r, by rw [List.length_cons, List.length_cons, hl], fun j q e => ?_⟩
    cases j with
    | zero =>
      have e' : (kv.1, b, y) = q := Option.some.inj e
      subst e'
      exact ⟨p, rfl, ht⟩
    | succ j =>
      obtain ⟨b2, e1, e2⟩ := hp j q (by simpa using e)
      exact ⟨b2, by simpa using e1, e2⟩
theorem call_dictT {X : Cx} (hcalm : X.calm = true) (hu : X.A.units + 100 < cLine) : CallR X (.type "dict") (rDictT X.K) := by
  intro pins s σ H xs us Q I r q
  obtain ⟨a, ps, kvs, ex, hq, hp, q⟩ := q
  subst ex
  obtain ⟨u, eu, rx⟩ := vals1 r
  subst eu
  cases rx
  obtain ⟨its, rv, pl, hz⟩ := I.list hq
  have ei := refs_at rv
  subst ei
  rw [List.length_map] at hz
  obtain ⟨rs, rel, hl, hpr⟩ := pairsT I hp
  obtain ⟨o, n, ho, hc, hd, hdat⟩ := pl
  have hlen : kvs.length = rs.length := Paired.length rel
  have vl : (rs.map fun q => ((Value.ref q.2.1, q.2.2) : Value × Value)).length = rs.length := List.length_map ..
  have PI : PairItems s.heap (ps.map Value.ref).toArray (fun j => ps.getD j 0) (rs.map fun q => (Value.ref q.2.1, q.2.2)) := by
    refine ⟨by simp [hl], fun j k v e => ?_⟩
    rw [List.getElem?_map] at e
    obtain ⟨q, e1, e2⟩ := Option.map_eq_some_iff.mp e
    obtain ⟨b, f1, f2⟩ := hpr j q e1
    cases e2
    refine ⟨?_, ?_⟩
    · simp [f1, List.getD]
    · have : ps.getD j 0 = b := by simp [List.getD, f1]
      show PairAt s.heap (ps.getD j 0) _ _
      rw [this]
      exact .inl f2
  refine call_dict_pairsH (knd := TK X.prog X.w) (ps := rs) (PairArg.list a (ps.map Value.ref).toArray (fun j => ps.getD j 0) (rs.map fun q => (Value.ref q.2.1, q.2.2))) (I.ok.hd hcalm) (show X.A.in1.in1.units < cLine from by show X.A.units + 1 + 1 < cLine; omega) ⟨⟨o, n, ho, hc, hd, hdat⟩, PI⟩ ⟨vl.symm, fun i k v hi => ?_⟩ (fun h' hk x hx => ?_) (by rw [vl, hl]; exact hz) fun h' tk hD k => ?_
  · have hi : (rs.map fun q => (Value.ref q.2.1, q.2.2))[i]? = some (k, v) := hi
    rw [List.getElem?_map] at hi
    obtain ⟨q, e1, e2⟩ := Option.map_eq_some_iff.mp hi
    cases e2
    exact ⟨q.1, q.2.1, e1, rfl⟩
  · have z := KT.keys I.hok rel x hx
    obtain ⟨ob, hob⟩ := key_there z
    exact key_stay z fun o' e => hk _ o' (Nat.ne_of_lt (Heap.lt_size hob)) (by simp) e
  · have hn := I.hok.fresh (Nat.le_refl s.heap.objs.size)
    exact ⟨.ref s.heap.objs.size, upd H s.heap.objs.size (.dT (mergeT [] kvs)), I.laid (t' := tk) (fun b o e => k b o (by simp) e) (Nat.le_refl _) (dict_new I.big (by rw [hlen, hl]; exact hz) rel hn hD), rfl, q _ hn⟩
/-! ### over data -/
def mergeE (es more : List (D × D)) : List (D × D) := more.foldl (fun acc e => match keyOf e.1 with | some k => putE acc k e.2 | none => acc) es
/-- pairs whose first is a key -/
def pairsD : List D → Option (List (D × D))
  | [] => some []
  | .tuple [k, v] :: ds => match keyOf k, pairsD ds with
    | some _, some r => some ((k, v) :: r)
    | _, _ => none
  | _ => none
def dDictOf : D → R D
  | .list ds => match pairsD ds with
    | some es => if decide (es.length ≤ 1000) = true then .ok (.dict (mergeE [] es)) else .bad
    | none => .bad
  | _ => .bad
section
variable {K : Fr} {H0 H : Hp}
theorem RpE.mergeT : ∀ {more : List (List Key × V)} {em es : List (D × D)} {kvs : List (List Key × V)}, RpE K H0 more em → RpE K H0 kvs es → RpE K H0 (mergeT kvs more) (mergeE es em)
  | _, _, _, _, .nil, r => r
  | _, _, _, _, .cons (k := k) (v := v) (d := d) h t, r => by
    unfold Fc.mergeT mergeE
    rw [List.foldl_cons, List.foldl_cons]
    simp only [keyOf_keyD]
    exact RpE.mergeT t (r.put h)
theorem keyOf_rp {v : V} {d : D} {k : List Key} (r : Rp K H0 v d) (h : keyOf d = some k) : ∃ b, v = .ref b ∧ H0 b = some (.tup (k.map kV)) ∧ d = keyD k := by
  cases d with
  | tuple ds =>
    cases r with
    | tup ha rs =>
      obtain ⟨e1, e2⟩ := keyL_rp rs h
      subst e1
      exact ⟨_, rfl, ha, e2⟩
  | _ => cases h
theorem pairs_rp : ∀ {vs : List V} {ds : List D} {es : List (D × D)}, RpA K H0 vs ds → pairsD ds = some es →
    ∃ (ps : List Addr) (kvs : List (List Key × V)), vs = ps.map V.ref ∧ RpE K H0 kvs es ∧ Paired (fun p (kv : List Key × V) => ∃ b, H0 p = some (.tup [.ref b, kv.2]) ∧ H0 b = some (.tup (kv.1.map kV))) ps kvs ∧ kvs.length = es.length
  | _, _, _, .nil, h => by cases h; exact ⟨[], [], rfl, .nil, .nil, rfl⟩
  | _, _, es, .cons (v := v) (vs := vs) (d := d) (ds := ds) r rs, h => by
    unfold pairsD at h
    split at h
    · rename_i z; cases z
    · rename_i k x ds' z
      cases z
      split at h
      · rename_i kk r' hk hr
        cases h
        obtain ⟨ps, kvs, e1, e2, e3, e4⟩ := pairs_rp rs hr
        cases r with
        | tup ha ra =>
          cases ra with
          | cons r1 ra =>
            cases ra with
            | cons r2 ra =>
              cases ra
              obtain ⟨b, rfl, hb, rfl⟩ := keyOf_rp r1 hk
              subst e1
              exact ⟨_ :: ps, (kk, _) :: kvs, rfl, .cons r2 e2, .cons ⟨b, ha, hb⟩ e3, by simp [e4]⟩
      · cases h
    · cases h
end
section
variable {X : Cx} {W : WX} {e a b c o tg it elt : Expr} {es : List Expr} {m ma mb mc mt : DE} {pos p1 p2 p3 p q : Pos}
variable {K : Fr} {mg : Str → Option Value} {B : Bs} {ρ : En} {σ : L2.St} {H0 H : Hp} {E : Ends}
theorem Kq.newD {K : Fr} {H0 H : Hp} {Q : VK} {kvs : List (List Key × V)} {es : List (D × D)} (s : Ex H0 H) (kq : Kq true K H0 H (.dict es) Q) (r : RpE K H0 kvs es) {p : Addr} (hp : H p = none) : Q (.ref p) (upd H p (.dT kvs)) :=
  kq p _ H0 (upd H p (.dT kvs)) (Gr.side s (Ex.new hp)) upd_same hp (fresh_back s hp) (.inr ⟨kvs, es, rfl, rfl, r⟩)
theorem cm_dictOf : ∀ d c, dDictOf d ≠ .er c := fun d c z => by
  unfold dDictOf at z
  split at z
  · split at z
    · split at z <;> cases z
    · cases z
  · cases z
theorem pf_dictof (hc : X.calm = true) (hu : X.A.units + 100 < cLine) (hg : Gl X "dict") (hm : X.mg "dict" = none) (ha : PD X W a ma)
    (hs : starEach [a] X.env = (false, eval a X.env) :: starEach [] X.env := by rfl) :
    PF X W (.Call (.Name "dict" p1) [a] [] pos) (eU dDictOf ma) := by
  have h2 := pe_callTy (pos := pos) (p := p1) (call_dictT hc hu) hg hm (by decide +kernel) (pa_cons (db ha) pa_nil hs) (by decide) (by decide) hs rfl
  refine h2.wk fun σ H Q h => ?_
  exact t_un (t := fun x H1 Q => rDictT X.K [x] H1 Q) (fun d c z => cm_dictOf d c z) (fun H0 H x dx d s vx e Q kq => by
    unfold dDictOf at e
    split at e
    · split at e
      · split at e
        · rename_i ds es he hl
          cases e
          obtain ⟨l, xs, rfl, hl2, rp⟩ := vx.lst s
          obtain ⟨ps, kvs, e1, e2, e3, e4⟩ := pairs_rp rp he
          subst e1
          exact ⟨l, ps, kvs, rfl, SqL.of hl2, Paired.mapP e3 fun _ _ ⟨b, z1, z2⟩ => ⟨b, SqT.of (s _ _ z1), s _ _ z2⟩, fun p hp => kq.newD s (e2.mergeT .nil) hp⟩
        · cases e
      · cases e
    · cases e) h
/-! {} -/
def eDNew : DE := fun _ => .ok (.dict [])
theorem pf_dnew : PF X W (.Dict [] [] pos) eDNew := (pe_dnewT (X := X) (pos := pos)).wk fun σ H Q ⟨B, ρ, H0, r, o⟩ p hp => Kq.newD (kvs := []) (es := []) r.s o .nil hp
end
end Fc
set_option Elab.async false
set_option linter.all false
set_option maxRecDepth 100000
set_option maxHeartbeats 2000000
namespace Fc
open PySem L2 Evl PySem.Spec PyProof.Rows
/-! ### dict(zip(s, t)) -/
def SqB (b : Bool) (K : Fr) (H : Hp) (a : Addr) (xs : List V) : Prop := if b = true then SqL K H a xs else SqT K H a xs
theorem Inv.seqB {X : Cx} {pins : List (Addr × Obj)} {σ : L2.St} {H : Hp} {s : Shared} {b : Bool} {a : Addr} {xs : List V} (I : Inv X pins σ H s) (h : SqB b X.K H a xs) : ∃ its : List Value, Vals xs its ∧ SSq b s.heap a its.toArray ∧ xs.length ≤ sizeLine := by
  cases b with
  | true =>
    obtain ⟨its, rv, p, hz⟩ := I.list (show SqL X.K H a xs from h)
    exact ⟨its, rv, p.isList, hz⟩
  | false =>
    obtain ⟨its, rv, p, hz⟩ := I.tuple (show SqT X.K H a xs from h)
    exact ⟨its, rv, p, hz⟩
/-- keys by their tuples, values: pair by pair, as many as the shorter has -/
def zipT : List (Addr × List Key) → List V → List (List Key × V)
  | p :: ps, v :: vs => (p.2, v) :: zipT ps vs
  | _, _ => []
def zipR : List (Addr × List Key) → List Value → List (List Key × Addr × Value)
  | p :: ps, v :: vs => (p.2, p.1, v) :: zipR ps vs
  | _, _ => []
theorem zip_kt {H : Hp} : ∀ {ps : List (Addr × List Key)} {vs : List V} {us : List Value}, (∀ p ∈ ps, H p.1 = some (.tup (p.2.map kV))) → Vals vs us → KT H (zipT ps vs) (zipR ps us)
  | [], _, _, _, _ => by unfold zipT zipR; exact .nil
  | p :: ps, _, _, h, .nil => by unfold zipT zipR; exact .nil
  | p :: ps, _, _, h, .cons r rs => by
    unfold zipT zipR
    exact .cons ⟨rfl, h p (by simp), r⟩ (zip_kt (fun q hq => h q (List.mem_cons_of_mem _ hq)) rs)
theorem zipR_len : ∀ (ps : List (Addr × List Key)) (us : List Value), (zipR ps us).length = min ps.length us.length
  | [], us => by simp [zipR]
  | p :: ps, [] => by simp [zipR]
  | p :: ps, u :: us => by
    simp only [zipR, List.length_cons, zipR_len ps us]
    omega
theorem zipR_at : ∀ (ps : List (Addr × List Key)) (us : List Value) (i : Nat) (a : Addr × List Key) (v : Value), ps[i]? = some a → us[i]? = some v → (zipR ps us)[i]? = some (a.2, a.1, v)
  | [], _, _, _, _, h, _ => by simp at h
  | _ :: _, [], _, _, _, _, h => by simp at h
  | p :: ps, u :: us, 0, a, v, h, h' => by
    simp only [List.getElem?_cons_zero, Option.some.injEq] at h h'
    subst h; subst h'
    rfl
  | p :: ps, u :: us, i + 1, a, v, h, h' => by
    simp only [List.getElem?_cons_succ] at h h'
    show (zipR ps us)[i]? = _
    exact zipR_at ps us i a v h h'
def tDictZip (K : Fr) (ta : TA) : TE := fun σ H Q => ta σ H fun vs H1 => ∃ (a b : Addr) (b1 b2 : Bool) (ps : List (Addr × List Key)) (ys : List V), vs = [.ref a, .ref b] ∧ SqB b1 K H1 a (ps.map fun p => V.ref p.1) ∧ SqB b2 K H1 b ys ∧
  (∀ p ∈ ps, H1 p.1 = some (.tup (p.2.map kV))) ∧ ∀ p, H1 p = none → Q (.ref p) (upd H1 p (.dT (mergeT [] (zipT ps ys))))
theorem refs_at2 : ∀ {ps : List (Addr × List Key)} {us : List Value}, Vals (ps.map fun p => V.ref p.1) us → us = ps.map fun p => Value.ref p.1
  | [], us, r => by
    rw [List.map_nil] at r
    cases r
    rfl
  | p :: ps, us, r => by
    rw [List.map_cons] at r
    cases r with
    | cons h t =>
      cases h
      rw [List.map_cons, ← refs_at2 t]
theorem pe_dictzip {X : Cx} {a b : Expr} {ta : TA} {p1 p2 q pos : Pos} (hcalm : X.calm = true) (hu : X.A.units + 100 < cLine) (hg : Gl X "dict") (hm : X.mg "dict" = none) (hg2 : Gl X "zip") (hm2 : X.mg "zip" = none) (ha : PA X [a, b] ta)
    (hs : starEach [.Call (.Name "zip" p2) [a, b] [] q] X.env = (false, eval (.Call (.Name "zip" p2) [a, b] [] q) X.env) :: starEach [] X.env := by rfl)
    (hs2 : starEach [a, b] X.env = (false, eval a X.env) :: starEach [b] X.env := by rfl) (hpl : (backTo q (starEach [b] X.env)).any (·.1) = false := by rfl) :
    PE X (.Call (.Name "dict" p1) [.Call (.Name "zip" p2) [a, b] [] q] [] pos) (tDictZip X.K ta) := by
  refine ⟨fun pins s σ H Q I h => ?_⟩
  refine wpAny_Call_Name_kw (ld_blt I hg hm (u := .type "dict") (by decide +kernel) ?_)
  refine PyProof.Rows.callWith_type1 ?_ hs rfl
  rw [hs]
  show wpAny _ _ (spliced ((false, eval (.Call (.Name "zip" p2) [a, b] [] q) X.env) :: backTo pos (starEach [] X.env))) _ _ s
  refine Calls.spliced_cons ?_
  refine wpAny_Call_Name_kw (ld_blt I hg2 hm2 PyProof.Rows.boot_zip ?_)
  refine PyProof.Rows.callWith_type1 (thn (ha.run q pins s σ H _ I h) fun us s1 ⟨vs, H1, I1, r1, q1⟩ => ?_) hs2 hpl
  obtain ⟨l1, l2, b1, b2, ps, ys, ex, hqx, hqy, hks, hQ⟩ := q1
  subst ex
  cases r1 with
  | cons r rr =>
    cases rr with
    | cons r' rr =>
      cases rr
      cases r
      cases r'
      obtain ⟨its, rv, sx, hz1⟩ := Inv.seqB I1 hqx
      obtain ⟨its2, rv2, sy, hz2⟩ := Inv.seqB I1 hqy
      have ei := refs_at2 rv
      subst ei
      obtain ⟨o1, ho1⟩ := sx.there
      obtain ⟨o2, ho2⟩ := sy.there
      rw [List.length_map] at hz1
      refine call_zipG sx sy fun h' hz hTI hTO h1 h2 hsz hk => ?_
      refine Calls.spliced_nil ?_
      have I2 : Inv X pins σ H1 { s1 with heap := h' } := I1.kept (t' := s1.toks) hk
      have D := PySem.W.ktu_apart s1.heap.objs.size l1 l2 (Heap.lt_size ho1) (Heap.lt_size ho2)
      have sx' : SSq b1 h' l1 (ps.map fun p => Value.ref p.1).toArray := sx.at fun o e => hk _ o e
      have sy' : SSq b2 h' l2 its2.toArray := sy.at fun o e => hk _ o e
      have fresh5 : ∀ c, c ∈ [s1.heap.objs.size + 4, s1.heap.objs.size + 3, s1.heap.objs.size, s1.heap.objs.size + 1] → FpOk X pins H1 c := fun c hcm => by
        have e' : c = s1.heap.objs.size + 4 ∨ c = s1.heap.objs.size + 3 ∨ c = s1.heap.objs.size ∨ c = s1.heap.objs.size + 1 := by simpa using hcm
        have hle : s1.heap.objs.size ≤ c := by
          rcases e' with z | z | z | z
          · rw [z]; exact Nat.le_add_right _ _
          · rw [z]; exact Nat.le_add_right _ _
          · rw [z]; exact Nat.le_refl _
          · rw [z]; exact Nat.le_add_right _ _
        exact I1.fpOk hle (I1.hok.fresh hle)
      have rel := zip_kt (H := H1) hks rv2
      have hlen : (zipR ps its2).length = min (ps.map fun p => Value.ref p.1).toArray.size its2.toArray.size := by rw [zipR_len]; simp
      have hmn : min (ps.map fun p => Value.ref p.1).toArray.size its2.toArray.size ≤ ps.length := Nat.le_trans (Nat.min_le_left _ _) (by simp)
      refine call_dict_pairsH (s := { s1 with heap := h' }) (knd := TK X.prog X.w) (ps := zipR ps its2) (PairArg.zipG b1 b2 (s1.heap.objs.size + 4) (s1.heap.objs.size + 2) (s1.heap.objs.size + 3) s1.heap.objs.size (s1.heap.objs.size + 1) l1 l2 D (ps.map fun p => Value.ref p.1).toArray its2.toArray) (I2.ok.hd hcalm)
        (show X.A.in1.in1.units < cLine from by show X.A.units + 1 + 1 < cLine; omega) ⟨hz, hTI, ⟨_, _, hTO⟩, h1, h2, sx', sy'⟩ ⟨hlen, fun i k v hi => ?_⟩ (fun h2' hk2 x hx => ?_) (Nat.le_trans hmn hz1) fun h3 tk hD k => ?_
      · obtain ⟨e1, e2⟩ := hi
        have e1' : (ps.map fun p => Value.ref p.1)[i]? = some k := by simpa using e1
        rw [List.getElem?_map] at e1'
        obtain ⟨pq, f1, f2⟩ := Option.map_eq_some_iff.mp e1'
        subst f2
        exact ⟨pq.2, pq.1, zipR_at ps its2 i pq v f1 (by simpa using e2), rfl⟩
      · have z := KT.keys I1.hok rel x hx
        obtain ⟨ob, hob⟩ := key_there z
        have hlt := Heap.lt_size hob
        have nm : ∀ c, c ∈ [s1.heap.objs.size + 4, s1.heap.objs.size + 3, s1.heap.objs.size, s1.heap.objs.size + 1] → x.2.1 ≠ c := fun c hc => by
          have e' : c = s1.heap.objs.size + 4 ∨ c = s1.heap.objs.size + 3 ∨ c = s1.heap.objs.size ∨ c = s1.heap.objs.size + 1 := by simpa using hc
          intro q
          rw [q] at hlt
          rcases e' with z | z | z | z <;> (rw [z] at hlt; exact absurd hlt (by simp))
        have hsz' : h'.objs.size = s1.heap.objs.size + 5 := hsz
        exact key_stay z fun o' e => hk2 _ o' (fun q => by rw [q] at hlt; have := Nat.lt_of_lt_of_le hlt (show s1.heap.objs.size ≤ h'.objs.size from by rw [hsz']; exact Nat.le_add_right _ _); exact absurd this (Nat.lt_irrefl _)) (fun hm => nm _ hm rfl) (hk _ _ e)
      · have hn := I2.hok.fresh (Nat.le_refl h'.objs.size)
        have big : sysModules < h'.objs.size := I2.big
        have hl3 : (zipT ps ys).length ≤ sizeLine := by
          rw [Paired.length rel, hlen]
          exact Nat.le_trans hmn hz1
        refine ⟨.ref h'.objs.size, upd H1 h'.objs.size (.dT (mergeT [] (zipT ps ys))), I2.turnedNew (t' := tk) (ch := [s1.heap.objs.size + 4, s1.heap.objs.size + 3, s1.heap.objs.size, s1.heap.objs.size + 1]) (fun b o hb e => k b o hb e) fresh5 (Nat.le_refl _) (dict_new big hl3 rel hn hD), rfl, hQ _ hn⟩
/-! ### over data -/
def seqD : D → Option (List D)
  | .list ds => some ds
  | .tuple ds => some ds
  | _ => none
def keysD : List D → Bool
  | [] => true
  | d :: ds => (keyOf d).isSome && keysD ds
def zipKD : List D → List D → List (D × D)
  | a :: as, b :: bs => (a, b) :: zipKD as bs
  | _, _ => []
def dDictZip (x y : D) : R D := match seqD x, seqD y with
  | some xs, some ys => if keysD xs = true then (if decide (xs.length ≤ 1000) = true then .ok (.dict (mergeE [] (zipKD xs ys))) else .bad) else .bad
  | _, _ => .bad
theorem cm_dictZip : Calm2 dDictZip := fun x y c z => by
  unfold dDictZip at z
  split at z
  · split at z
    · split at z <;> cases z
    · cases z
  · cases z
section
variable {K : Fr} {H0 H : Hp}
theorem keys_rp : ∀ {vs : List V} {ds : List D}, RpA K H0 vs ds → keysD ds = true → ∃ ps : List (Addr × List Key), vs = ps.map (fun p => V.ref p.1) ∧ (∀ p ∈ ps, H0 p.1 = some (.tup (p.2.map kV))) ∧ ds = ps.map fun p => keyD p.2
  | _, _, .nil, _ => ⟨[], rfl, by simp, rfl⟩
  | _, _, .cons r rs, h => by
    unfold keysD at h
    obtain ⟨h1, h2⟩ := Bool.and_eq_true_iff.mp h
    obtain ⟨k, hk⟩ := Option.isSome_iff_exists.mp h1
    obtain ⟨b, rfl, hb, rfl⟩ := keyOf_rp r hk
    obtain ⟨ps, rfl, e2, rfl⟩ := keys_rp rs h2
    exact ⟨(b, k) :: ps, rfl, fun p hp => by
      rcases List.mem_cons.mp hp with z | z
      · rw [z]; exact hb
      · exact e2 p z, rfl⟩
theorem zip_rp : ∀ {ps : List (Addr × List Key)} {vs : List V} {ds : List D}, RpA K H0 vs ds → RpE K H0 (zipT ps vs) (zipKD (ps.map fun p => keyD p.2) ds)
  | [], _, _, _ => by unfold zipT zipKD; exact .nil
  | _ :: _, _, _, .nil => by simp only [zipT, List.map_cons, zipKD]; exact .nil
  | p :: ps, _, _, .cons r rs => by
    simp only [zipT, List.map_cons, zipKD]
    exact .cons r (zip_rp rs)
theorem Vx.seq {v : V} {d : D} {ds : List D} (s : Ex H0 H) (h : Vx K H0 H v d) (e : seqD d = some ds) : ∃ b a xs, v = .ref a ∧ SqB b K H a xs ∧ RpA K H0 xs ds := by
  cases d with
  | list l =>
    cases e
    obtain ⟨a, xs, rfl, h1, r⟩ := h.lst s
    exact ⟨true, a, xs, rfl, SqL.of h1, r⟩
  | tuple l =>
    cases e
    obtain ⟨a, xs, rfl, _, h1, r⟩ := h.tup s
    exact ⟨false, a, xs, rfl, SqT.of h1, r⟩
  | _ => cases e
end
section
variable {X : Cx} {W : WX} {e a b c o tg it elt : Expr} {es : List Expr} {m ma mb mc mt : DE} {pos p1 p2 p3 p q : Pos}
variable {K : Fr} {mg : Str → Option Value} {B : Bs} {ρ : En} {σ : L2.St} {H0 H : Hp} {E : Ends}
theorem pf_dictzip (hc : X.calm = true) (hu : X.A.units + 100 < cLine) (hg : Gl X "dict") (hm : X.mg "dict" = none) (hg2 : Gl X "zip") (hm2 : X.mg "zip" = none) (ha : PD X W a ma) (hb : PD X W b mb)
    (hs : starEach [.Call (.Name "zip" p2) [a, b] [] q] X.env = (false, eval (.Call (.Name "zip" p2) [a, b] [] q) X.env) :: starEach [] X.env := by rfl)
    (hs2 : starEach [a, b] X.env = (false, eval a X.env) :: starEach [b] X.env := by rfl) (hs3 : starEach [b] X.env = (false, eval b X.env) :: starEach [] X.env := by rfl) (hpl : (backTo q (starEach [b] X.env)).any (·.1) = false := by rfl) :
    PF X W (.Call (.Name "dict" p1) [.Call (.Name "zip" p2) [a, b] [] q] [] pos) (eBin dDictZip ma mb) := (pe_dictzip hc hu hg hm hg2 hm2 (pa_cons (db ha) (pa_cons (db hb) pa_nil hs3) hs2) hs hs2 hpl).wk fun σ H Q h => by
  exact t_bin (r := fun x y H1 Q => ∃ (a b : Addr) (b1 b2 : Bool) (ps : List (Addr × List Key)) (ys : List V), [x, y] = [.ref a, .ref b] ∧ SqB b1 X.K H1 a (ps.map fun p => V.ref p.1) ∧ SqB b2 X.K H1 b ys ∧ (∀ p ∈ ps, H1 p.1 = some (.tup (p.2.map kV))) ∧ ∀ p, H1 p = none → Q (.ref p) (upd H1 p (.dT (mergeT [] (zipT ps ys))))) cm_dictZip (fun H0 H x y dx dy d s vx vy e Q kq => by
    unfold dDictZip at e
    split at e
    · split at e
      · split at e
        · rename_i xs ys hx hy hk hl
          cases e
          obtain ⟨b1, l1, vs, rfl, q1, r1⟩ := vx.seq s hx
          obtain ⟨b2, l2, ws, rfl, q2, r2⟩ := vy.seq s hy
          obtain ⟨ps, rfl, e2, rfl⟩ := keys_rp r1 hk
          exact ⟨l1, l2, b1, b2, ps, ws, rfl, q1, q2, fun p hp => s _ _ (e2 p hp), fun p hp => kq.newD s ((zip_rp r2).mergeT .nil) hp⟩
        · cases e
      · cases e
    · cases e) h
end
end Fc
set_option Elab.async false
set_option linter.all false
set_option maxRecDepth 100000
set_option maxHeartbeats 2000000
namespace Fc
open PySem L2 Evl PySem.Spec PyProof.Rows
/-! ### tables: t[a][b], t[a][b] = v -/
/-- the first entry of a key is another one -/
def putN : List (D × D) → List Key → D → List (D × D)
  | [], _, _ => []
  | e :: es, k, d => if keyOf e.1 = some k then (e.1, d) :: es else e :: putN es k d
section
variable {K : Fr} {mg : Str → Option Value} {B : Bs} {ρ : En} {σ : L2.St} {H0 H : Hp} {E : Ends}
theorem RpN.lk {k : List Key} {kvs : List (List Key × V)} {es : List (D × D)} (r : RpN K H0 H kvs es) : ∀ {d : D}, lkE es k = some d → ∃ q kvs' es', valV kvs k = some (.ref q) ∧ d = .dict es' ∧ H q = some (.dT kvs') ∧ RpE K H0 kvs' es' ∧ q ∈ kvs.map (fun kv => refV kv.2) := by
  induction r with
  | nil => intro d h; cases h
  | @cons k' q kvs' kvs es' es hq re rn ih =>
    intro d h
    by_cases e : k' = k
    · subst e
      have : lkE ((keyD k', .dict es') :: es) k' = some (.dict es') := by
        unfold lkE
        rw [List.find?_cons, keyOf_keyD]
        simp
      rw [this] at h
      cases h
      exact ⟨q, kvs', es', valV_pos rfl, rfl, hq, re, by simp [refV]⟩
    · have e2 : lkE ((keyD k', .dict es') :: es) k = lkE es k := by
        unfold lkE
        rw [List.find?_cons, keyOf_keyD]
        have : decide (some k' = some k) = false := decide_eq_false fun z => e (Option.some.inj z)
        simp only [this]
      rw [e2] at h
      obtain ⟨q', l, m, h1, h2, h3, h4, h5⟩ := ih h
      exact ⟨q', l, m, by rw [valV_neg (p := (k', V.ref q)) (show ¬ (k', V.ref q).1 = k from e)]; exact h1, h2, h3, h4, by rw [List.map_cons]; exact List.mem_cons_of_mem _ h5⟩
theorem RpN.put {k : List Key} {q : Addr} {l : List (List Key × V)} {m : List (D × D)} {kvs : List (List Key × V)} {es : List (D × D)} (r : RpN K H0 H kvs es) (hl : RpE K H0 l m) : valV kvs k = some (.ref q) → (kvs.map fun kv => refV kv.2).Nodup → RpN K H0 (upd H q (.dT l)) kvs (putN es k (.dict m)) := by
  induction r with
  | nil => intro h; cases h
  | @cons k' q' kvs' kvs es' es hq re rn ih =>
    intro h nd
    rw [List.map_cons, List.nodup_cons] at nd
    by_cases e : k' = k
    · subst e
      rw [valV_pos (p := (k', V.ref q')) rfl] at h
      cases h
      have : putN ((keyD k', .dict es') :: es) k' (.dict m) = (keyD k', .dict m) :: es := by
        unfold putN
        rw [if_pos (keyOf_keyD k')]
      rw [this]
      refine .cons upd_same hl (rn.mono (Ex.refl _) fun a ha o ho => ?_)
      rw [upd_ne fun z => nd.1 (by rw [z] at ha; exact ha)]
      exact ho
    · have : putN ((keyD k', .dict es') :: es) k (.dict m) = (keyD k', .dict es') :: putN es k (.dict m) := by
        unfold putN
        rw [if_neg (by rw [keyOf_keyD]; exact fun z => e (Option.some.inj z))]
        cases es <;> rfl
      rw [this]
      rw [valV_neg (p := (k', V.ref q')) (show ¬ (k', V.ref q').1 = k from e)] at h
      refine .cons ?_ re (ih h nd.2)
      rw [upd_ne ?_]
      · exact hq
      · intro z
        have hm : (k, V.ref q) ∈ kvs := by
          unfold valV at h
          obtain ⟨kv, h1, h2⟩ := Option.map_eq_some_iff.mp h
          have := List.find?_some h1
          have h3 := List.mem_of_find?_eq_some h1
          have : kv.1 = k := of_decide_eq_true this
          obtain ⟨a, b⟩ := kv
          simp only at this h2
          subst this; subst h2
          exact h3
        apply nd.1
        show refV (V.ref q') ∈ _
        rw [z]
        exact List.mem_map.mpr ⟨_, hm, rfl⟩
theorem Rl.mutT {i : Nat} {p q : Addr} {k : List Key} {kvs l : List (List Key × V)} {es m : List (D × D)} (r : Rl K B ρ σ H0 H) (hi : ρ[i]? = some (.ot (.dict es))) (h1 : σ[i]? = some (some (.ref p))) (h3 : H p = some (.dT kvs)) (hl : RpE K H0 l m) (hq : valV kvs k = some (.ref q)) :
    Rl K B (ρ.set i (.ot (.dict (putN es k (.dict m))))) σ H0 (upd H q (.dT l)) := by
  obtain ⟨p', kvs', es', g1, g2, g3, g4, g5, g6, g7, g8⟩ := r.ot i _ hi
  rw [h1] at g1
  simp at g1
  subst g1
  rw [h3] at g3
  cases g3
  cases g2
  have hm : q ∈ kvs.map (fun kv => refV kv.2) := by
    unfold valV at hq
    obtain ⟨kv, e1, e2⟩ := Option.map_eq_some_iff.mp hq
    exact List.mem_map.mpr ⟨kv, List.mem_of_find?_eq_some e1, by rw [e2]; rfl⟩
  have hf : q ∈ fpT p kvs := List.mem_cons_of_mem _ hm
  obtain ⟨b0, b1⟩ := g6 q hf
  have hnd := List.nodup_cons.mp g5
  have hpq : p ≠ q := fun z => hnd.1 (by rw [z]; exact hm)
  refine ⟨r.gr.mut b0 b1, by simp [r.len], fun j f hj => ?_, fun j f hj => ?_, fun j n f g a hj hn sj sn => ?_, fun j f hj => ?_, fun j f hj => ?_⟩
  · rw [get_set] at hj
    by_cases hij : i = j
    · rw [if_pos hij] at hj
      split at hj <;> simp at hj
    · rw [if_neg hij] at hj
      exact r.fz j f hj
  · rw [get_set] at hj
    by_cases hij : i = j
    · rw [if_pos hij] at hj
      split at hj <;> simp at hj
    · rw [if_neg hij] at hj
      obtain ⟨p2, o2, t1, t2, t3, t4, t5⟩ := r.ow j f hj
      exact ⟨p2, o2, t1, t2, t3, by rw [upd_ne fun z => g7 j f p2 hj t1 (by rw [z]; exact hf)]; exact t4, t5⟩
  · rw [get_set] at hj hn
    by_cases hij : i = j
    · rw [if_pos hij] at hj
      split at hj <;> simp at hj
    · by_cases hin : i = n
      · rw [if_pos hin] at hn
        split at hn <;> simp at hn
      · rw [if_neg hij] at hj
        rw [if_neg hin] at hn
        exact r.uq j n f g a hj hn sj sn
  · rw [get_set] at hj
    by_cases hij : i = j
    · subst hij
      rw [if_pos rfl] at hj
      split at hj
      · simp at hj
        subst hj
        refine ⟨p, kvs, _, h1, rfl, by rw [upd_ne hpq]; exact h3, g4.put hl hq hnd.2, g5, g6, fun j e p' hj hs => ?_, fun j e hj => ?_⟩
        · rw [get_set] at hj
          by_cases hij : i = j
          · rw [if_pos hij] at hj
            split at hj <;> simp at hj
          · rw [if_neg hij] at hj
            exact g7 j e p' hj hs
        · rw [get_set] at hj
          by_cases hij : i = j
          · exact hij.symm
          · rw [if_neg hij] at hj
            exact g8 j e hj
      · cases hj
    · rw [if_neg hij] at hj
      exact absurd (g8 j f hj).symm hij
  · rw [get_set] at hj
    by_cases hij : i = j
    · rw [if_pos hij] at hj
      split at hj <;> simp at hj
    · rw [if_neg hij] at hj
      obtain ⟨pl, od, l', m', t1, t2, t3, t4, t5, t6⟩ := r.lk j f hj
      obtain ⟨l2, hl2⟩ := TabAt.there h3 g4 q hf
      exact ⟨pl, od, l', m', t1, t2, by rw [upd_ne fun z => by rw [z, hl2] at t3; cases t3]; exact t3, t4, t5, t6⟩
end
/-- t[a][b], t in slot i -/
def eT2 (i : Nat) (ma mb : DE) : DE := fun ρ => match ρ[i]? with
  | some (.ot d) => (ma ρ).bind fun x => (dIx d x).bind fun e => (mb ρ).bind fun y => dIx e y
  | _ => eBin dIx (eBin dIx (eW i) ma) mb ρ
def rowE (es : List (D × D)) (x : D) : R (List Key × List (D × D)) := match keyOf x with
  | some k => (match lkE es k with
    | some (.dict es') => .ok (k, es')
    | _ => .bad)
  | none => .bad
def keyR (y : D) : R (List Key) := match keyOf y with
  | some k => .ok k
  | none => .bad
def put2E (es : List (D × D)) (r : List Key × List (D × D)) (k2 : List Key) (v : D) : R (List (D × D)) := if szB (r.2.length + 1) = true then .ok (putN es r.1 (.dict (putE r.2 k2 v))) else .bad
def resK (r : R (List (D × D))) (f : List (D × D) → RS) (ρ : En) : RS := match r with
  | .ok es => f es
  | .er c => .er c ρ
  | .bad => .bad
def sPut2 (i : Nat) (ma mb mv : DE) : DS := fun ρ => match ρ[i]? with
  | some (.ot (.dict es)) => resK ((mv ρ).bind fun v => (ma ρ).bind fun x => (rowE es x).bind fun r => (mb ρ).bind fun y => (keyR y).bind fun k2 => put2E es r k2 v) (fun es2 => .nx (ρ.set i (.ot (.dict es2)))) ρ
  | _ => .bad
section
variable {X : Cx} {W : WX} {e a b c o tg it elt : Expr} {es : List Expr} {m ma mb mc mt mv : DE} {pos p1 p2 p3 p q : Pos}
variable {K : Fr} {mg : Str → Option Value} {B : Bs} {ρ : En} {σ : L2.St} {H0 H : Hp} {E : Ends}
theorem lkE_keyL {es : List (D × D)} {x d : D} (h : dIx (.dict es) x = .ok d) (hx : ∀ l, es ≠ [(.none, l)]) : ∃ k, keyOf x = some k ∧ lkE es k = some d := by
  unfold dIx at h
  split at h
  · rename_i z; cases z
  · rename_i z; cases z
  · rename_i z; cases z
  · rename_i ds i z
    cases z
    exact absurd rfl (hx _)
  · rename_i es' ks _ z
    cases z
    split at h
    · rename_i k hk
      split at h
      · rename_i d' hd
        cases h
        exact ⟨k, hk, hd⟩
      · cases h
    · cases h
  · cases h
theorem RpN.no_none {kvs : List (List Key × V)} {l : D} : ¬ RpN K H0 H kvs [(.none, l)] := fun h => by
  generalize q : [((PyData.none : D), l)] = zs at h
  cases h with
  | nil => cases q
  | cons h r => cases q
theorem pd_t2 (hu : X.A.units + 100 < cLine) (i : Nat) {x : Str} (hsa : PlainIx a) (hsb : PlainIx b) (ha : PB X W a ma) (hb : PB X W b mb) (hN : X.N[i]? = some x := by rfl) (hv : Vis X.env.scope x := by first | exact Or.inl rfl | exact Or.inr (Or.inl rfl) | exact Or.inr (Or.inr rfl)) (hd : (x == ("__debug__" : Str)) = false := by decide) (hcd : (x == ("__classdict__" : Str)) = false := by decide) :
    PD X W (.Subscript (.Subscript (.Name x p1) a p2) b p3) (eT2 i ma mb) := by
  have h1 : PD X W (.Subscript (.Subscript (.Name x p1) a p2) b p3) (eBin dIx (eBin dIx (eW i) ma) mb) := pd_ix (od_ix hu) cm_ix hsb (db (pd_ix (od_ix hu) cm_ix hsa (bv i hN hv hd hcd) ha)) hb
  have h2 := pe_ix (pos := p3) (ix_dT (X := X) (by omega)) (pe_ix (pos := p2) (ix_dT (X := X) (by omega)) (pe_var (pos := p1) hN hv hd hcd) ha hsa) hb hsb
  refine (h1.or h2).wk fun σ H Q ⟨B, ρ, H0, r, o⟩ => ?_
  unfold eT2 at o
  split at o
  · rename_i d hi
    right
    obtain ⟨p, kvs, es, g1, g2, g3, g4, g5, g6, g7, g8⟩ := r.ot i d hi
    subst g2
    refine ⟨.ref p, g1, B, ρ, H0, r, ?_⟩
    cases ha' : ma ρ with
    | bad => rw [ha'] at o; exact o
    | er c => rw [ha'] at o; exact o
    | ok dx =>
      rw [ha', R.bind_ok] at o
      intro vx H1 H2 g wx
      have r2 := r.grow g
      cases hx : dIx (.dict es) dx with
      | bad => rw [hx] at o; exact o.elim
      | er c => exact absurd hx (cm_ix _ _ _)
      | ok de =>
        rw [hx, R.bind_ok] at o
        obtain ⟨k, hk, hlk⟩ := lkE_keyL hx (fun l z => by rw [z] at g4; exact RpN.no_none g4)
        obtain ⟨q, kvs', es', f1, f2, f3, f4, f5⟩ := g4.lk hlk
        subst f2
        obtain ⟨bk, rfl, hb1, _⟩ := Vx.key r2.s (Vw.vx r2 wx) hk
        refine ⟨p, .ref q, rfl, by rw [← f1]; exact DGet.t (g.e _ _ g3) hb1, B, ρ, H1, r2, ?_⟩
        cases hb' : mb ρ with
        | bad => rw [hb'] at o; exact o
        | er c => rw [hb'] at o; exact fun H' e => o H' (g.e.trans e)
        | ok dy =>
          rw [hb', R.bind_ok] at o
          intro vy H3 H4 g2 wy
          have r3 := r2.grow g2
          cases hy : dIx (.dict es') dy with
          | bad => rw [hy] at o; exact o.elim
          | er c => exact absurd hy (cm_ix _ _ _)
          | ok dz =>
            rw [hy] at o
            obtain ⟨k2, hk2, hlk2⟩ := lkE_keyL hy (fun l z => by rw [z] at f4; exact RpE.no_none f4)
            obtain ⟨bk2, rfl, hb2, _⟩ := Vx.key r3.s (Vw.vx r3 wy) hk2
            rcases RpE.lk k2 (f4.mono (g.e0.trans g2.e0)) with ⟨v, d, t1, t2, t3⟩ | ⟨t1, t2⟩
            · rw [t2] at hlk2
              cases hlk2
              exact ⟨q, v, rfl, by rw [← t1]; exact DGet.t (g2.e _ _ (g.e _ _ f3)) hb2, Kq.grow (k := false) o (g.trans g2) v H3 H4 (Gr.refl r3.s) t3⟩
            · rw [t2] at hlk2; cases hlk2
  · exact .inl ⟨B, ρ, H0, r, o⟩
theorem sd_put2 (hu : X.A.units + 100 < cLine) (i : Nat) {x : Str} {spos : Pos} {val : Expr} (hsa : PlainIx a) (ha : PB X W a ma) (hb : PB X W b mb) (hval : PD X W val mv) (hN : X.N[i]? = some x := by rfl) (hv : Vis X.env.scope x := by first | exact Or.inl rfl | exact Or.inr (Or.inl rfl) | exact Or.inr (Or.inr rfl)) (hd : (x == ("__debug__" : Str)) = false := by decide) (hcd : (x == ("__classdict__" : Str)) = false := by decide)
    (hs : swapsWith val (some (.Subscript (.Subscript (.Name x p1) a p2) b p3)) spos.line X.env = pure false := by rfl) :
    SD X W (.Assign [.Subscript (.Subscript (.Name x p1) a p2) b p3] val spos) (sPut2 i ma mb mv) :=
  (ps_dput (pos := spos) (pos' := p3) (by omega : X.A.units + 1 < cLine) (pe_ix (pos := p2) (ix_dT (X := X) (by omega)) (pe_var (pos := p1) hN hv hd hcd) ha hsa) hb hval hs).wk fun E σ H ⟨B, ρ, H0, r, o⟩ => by
    unfold sPut2 at o
    split at o
    · rename_i es hi
      refine ⟨B, ρ, H0, r, ?_⟩
      cases hv' : mv ρ with
      | bad => rw [hv'] at o; exact o
      | er c => rw [hv'] at o; exact ends_er r o
      | ok dv =>
        rw [hv', R.bind_ok] at o
        intro vv H1 H2 g rv
        have r2 := r.grow g
        obtain ⟨p, kvs, es0, g1, g2, g3, g4, g5, g6, g7, g8⟩ := r2.ot i _ hi
        cases g2
        refine ⟨.ref p, g1, B, ρ, H1, r2, ?_⟩
        cases ha' : ma ρ with
        | bad => rw [ha'] at o; exact o
        | er c => rw [ha'] at o; exact ends_er r2 o
        | ok dx =>
          rw [ha', R.bind_ok] at o
          intro vx H3 H4 g' wx
          have r3 := r2.grow g'
          unfold rowE at o
          split at o
          · rename_i k hk
            split at o
            · rename_i es' hlk
              rw [R.bind_ok] at o
              obtain ⟨q, kvs', es2, f1, f2, f3, f4, f5⟩ := g4.lk hlk
              cases f2
              obtain ⟨bk, rfl, hb1, _⟩ := Vx.key r3.s (Vw.vx r3 wx) hk
              refine ⟨p, .ref q, rfl, by rw [← f1]; exact DGet.t (g'.e _ _ g3) hb1, B, ρ, H3, r3, ?_⟩
              cases hb' : mb ρ with
              | bad => rw [hb'] at o; exact o
              | er c => rw [hb'] at o; exact ends_er r3 o
              | ok dy =>
                rw [hb', R.bind_ok] at o
                intro vy H5 H6 g2 wy
                have r4 := r3.grow g2
                unfold keyR at o
                split at o
                · rename_i k2 hk2
                  rw [R.bind_ok] at o
                  unfold put2E at o
                  split at o
                  · rename_i hz
                    obtain ⟨bk2, rfl, hb2, _⟩ := Vx.key r4.s (Vw.vx r4 wy) hk2
                    have f4' := (f4.mono g'.e0).mono g2.e0
                    have hlen := f4'.length
                    refine ⟨q, _, rfl, DPut.t (v := vv) (g2.e _ _ (g'.e _ _ f3)) hb2 ?_, ?_⟩
                    · have := of_decide_eq_true hz
                      rw [hlen]
                      exact sz_lt (by simp only at this; omega)
                    · have rv' : Rp X.K H5 vv dv := (rv.mono g'.e0).mono g2.e0
                      exact o _ H5 _ (Rl.mutT r4 hi g1 (g2.e _ _ (g'.e _ _ g3)) (f4'.put rv') f1)
                  · exact o.elim
                · exact o.elim
            · exact o.elim
          · exact o.elim
    · exact o.elim
/-! ### d[k] = v, d an owned dict -/
def sPut (i : Nat) (mk mv : DE) : DS := fun ρ => match ρ[i]? with
  | some (.ow (.dict es)) => resK ((mv ρ).bind fun v => (mk ρ).bind fun y => (keyR y).bind fun k => if szB (es.length + 1) = true then R.ok (putE es k v) else .bad) (fun es2 => .nx (ρ.set i (.ow (.dict es2)))) ρ
  | _ => .bad
theorem sd_put (hu : X.A.units + 100 < cLine) {i : Nat} {x : Str} {spos : Pos} {val : Expr} (hx : PE X (.Name x p1) (tVar i)) (hb : PD X W b mb) (hval : PD X W val mv)
    (hs : swapsWith val (some (.Subscript (.Name x p1) b p3)) spos.line X.env = pure false := by rfl) :
    SD X W (.Assign [.Subscript (.Name x p1) b p3] val spos) (sPut i mb mv) :=
  (ps_dput (pos := spos) (pos' := p3) (by omega : X.A.units + 1 < cLine) hx (db hb) hval hs).wk fun E σ H ⟨B, ρ, H0, r, o⟩ => by
    unfold sPut at o
    split at o
    · rename_i es hi
      refine ⟨B, ρ, H0, r, ?_⟩
      cases hv' : mv ρ with
      | bad => rw [hv'] at o; exact o
      | er c => rw [hv'] at o; exact ends_er r o
      | ok dv =>
        rw [hv', R.bind_ok] at o
        intro vv H1 H2 g rv
        have r2 := r.grow g
        obtain ⟨p, ob, q1, q2, q3, q4, q5⟩ := r2.ow i _ hi
        refine ⟨.ref p, q1, B, ρ, H1, r2, ?_⟩
        cases hb' : mb ρ with
        | bad => rw [hb'] at o; exact o
        | er c => rw [hb'] at o; exact ends_er r2 o
        | ok dy =>
          rw [hb', R.bind_ok] at o
          intro vy H5 H6 g2 wy
          have r4 := r2.grow g2
          unfold keyR at o
          split at o
          · rename_i k2 hk2
            rw [R.bind_ok] at o
            split at o
            · rename_i hz
              obtain ⟨bk2, rfl, hb2, _⟩ := Vx.key r4.s (Vw.vx r4 wy) hk2
              rcases q5 with ⟨_, _, _, e2, _⟩ | ⟨kvs, es0, rfl, e2, re⟩
              · cases e2
              · cases e2
                have re' := re.mono g2.e0
                refine ⟨p, _, rfl, DPut.t (v := vv) (g2.e _ _ q4) hb2 ?_, ?_⟩
                · have := of_decide_eq_true hz
                  rw [re'.length]
                  exact sz_lt (by omega)
                · exact o _ H5 _ (r4.mutO hi q1 (.inr ⟨_, _, rfl, rfl, re'.put (rv.mono g2.e0)⟩))
            · exact o.elim
          · exact o.elim
    · exact o.elim
end
end Fc
set_option Elab.async false
set_option linter.all false
set_option maxRecDepth 100000
set_option maxHeartbeats 2000000
namespace Fc
open PySem L2 Evl PySem.Spec PyProof.Rows
/-! ### t = dict([(a, dict(..)) for a in ..]): a table is made -/
/-- what a turn makes: a key and the entries of its dict -/
def tabStep (g : DG) (mk mv : DE) (vs : List Nat) (ρ : En) (d : D) : Option (List Key × List (D × D)) := match g d (wipeE ρ vs) with
  | none => none
  | some ρ1 => match mk ρ1 with
    | .ok x => (match keyOf x with
      | some k => (match mv ρ1 with
        | .ok (.dict es) => some (k, es)
        | _ => none)
      | none => none)
    | _ => none
def tabL (g : DG) (mk mv : DE) (vs : List Nat) (ρ : En) : List D → Option (List (List Key × List (D × D)))
  | [] => some []
  | d :: ds => match tabStep g mk mv vs ρ d, tabL g mk mv vs ρ ds with
    | some e, some r => some (e :: r)
    | _, _ => none
def noOt (ρ : En) : Bool := ρ.all fun s => match s with
  | .ot _ => false
  | _ => true
def tabE (l : List (List Key × List (D × D))) : List (D × D) := l.map fun e => (keyD e.1, .dict e.2)
def sTab (i : Nat) (it : DI) (g : DG) (mk mv : DE) (vs : List Nat) : DS := fun ρ => match it ρ with
  | .ok ds => (match tabL g mk mv vs ρ ds with
    | some l => if decide ((l.map (·.1)).Nodup ∧ l.length ≤ 1000 ∧ noOt ρ = true) = true then .nx (ρ.set i (.ot (.dict (tabE l)))) else .bad
    | none => .bad)
  | .er c => .er c ρ
  | .bad => .bad
section
variable {X : Cx} {W : WX} {e a b c o tg it elt : Expr} {es : List Expr} {m ma mb mc mt mv mk : DE} {pos p1 p2 p3 p q : Pos}
variable {K : Fr} {mg : Str → Option Value} {B : Bs} {ρ : En} {σ : L2.St} {H0 H : Hp} {E : Ends}
/-- the list's items, so far: pairs of a key and a new dict -/
inductive TAcc (K : Fr) (H0 H : Hp) : List Addr → List (List Key × V) → List (List Key × List (D × D)) → Prop
  | nil : TAcc K H0 H [] [] []
  | snoc {acc : List Addr} {kvs : List (List Key × V)} {l : List (List Key × List (D × D))} {T b q : Addr} {k : List Key} {kvs' : List (List Key × V)} {es' : List (D × D)} : TAcc K H0 H acc kvs l → H T = some (.tup [.ref b, .ref q]) → H b = some (.tup (k.map kV)) → H q = some (.dT kvs') → RpE K H0 kvs' es' →
    TAcc K H0 H (acc ++ [T]) (kvs ++ [(k, .ref q)]) (l ++ [(k, es')])
theorem TAcc.mono {H0' H' : Hp} {acc : List Addr} {kvs : List (List Key × V)} {l : List (List Key × List (D × D))} (e0 : Ex H0 H0') (e : ∀ a o, H a = some o → (∀ xs, o ≠ .lst xs) → H' a = some o) (r : TAcc K H0 H acc kvs l) : TAcc K H0' H' acc kvs l := by
  induction r with
  | nil => exact .nil
  | snoc _ h1 h2 h3 h4 ih => exact .snoc ih (e _ _ h1 fun _ z => nomatch z) (e _ _ h2 fun _ z => nomatch z) (e _ _ h3 fun _ z => nomatch z) (h4.mono e0)
theorem TAcc.len {acc : List Addr} {kvs : List (List Key × V)} {l : List (List Key × List (D × D))} (r : TAcc K H0 H acc kvs l) : acc.length = l.length ∧ kvs.map (·.1) = l.map (·.1) := by
  induction r with
  | nil => exact ⟨rfl, rfl⟩
  | snoc _ h1 h2 h3 h4 ih => exact ⟨by simp [ih.1], by simp [ih.2]⟩
theorem TAcc.rows {acc : List Addr} {kvs : List (List Key × V)} {l : List (List Key × List (D × D))} (r : TAcc K H0 H acc kvs l) : RpN K H0 H kvs (tabE l) := by
  have app : ∀ {kvs kws : List (List Key × V)} {es fs : List (D × D)}, RpN K H0 H kvs es → RpN K H0 H kws fs → RpN K H0 H (kvs ++ kws) (es ++ fs) := by
    intro kvs kws es fs r s
    induction r with
    | nil => exact s
    | cons h1 h2 _ ih => exact .cons h1 h2 ih
  induction r with
  | nil => exact .nil
  | snoc _ h1 h2 h3 h4 ih =>
    unfold tabE
    rw [List.map_append]
    exact app ih (.cons h3 h4 .nil)
theorem Paired.app {α β : Type} {R : α → β → Prop} : ∀ {xs xs' : List α} {ys ys' : List β}, Paired R xs ys → Paired R xs' ys' → Paired R (xs ++ xs') (ys ++ ys')
  | _, _, _, _, .nil, s => s
  | _, _, _, _, .cons h r, s => .cons h (Paired.app r s)
theorem TAcc.pairs {acc : List Addr} {kvs : List (List Key × V)} {l : List (List Key × List (D × D))} (r : TAcc K H0 H acc kvs l) : Paired (fun p (kv : List Key × V) => ∃ b, SqT K H p [.ref b, kv.2] ∧ H b = some (.tup (kv.1.map kV))) acc kvs := by
  induction r with
  | nil => exact .nil
  | snoc _ h1 h2 h3 h4 ih => exact Paired.app ih (.cons ⟨_, SqT.of h1, h2⟩ .nil)
theorem mergeT_nodup : ∀ (kvs acc : List (List Key × V)), ((acc ++ kvs).map (·.1)).Nodup → mergeT acc kvs = acc ++ kvs
  | [], acc, _ => (List.append_nil acc).symm
  | p :: kvs, acc, h => by
    have hn : valV acc p.1 = none := by
      unfold valV
      rw [Option.map_eq_none_iff, List.find?_eq_none]
      intro x hx
      rw [decide_eq_true_eq]
      intro z
      rw [List.map_append, List.map_cons, List.nodup_append] at h
      exact h.2.2 x.1 (List.mem_map.mpr ⟨x, hx, rfl⟩) p.1 (by simp) z
    unfold mergeT
    rw [List.foldl_cons]
    have e : putK acc p.1 p.2 = acc ++ [p] := putK_new p.2 hn
    rw [e]
    have := mergeT_nodup kvs (acc ++ [p]) (by rw [List.append_assoc]; exact h)
    unfold mergeT at this
    rw [this, List.append_assoc]
    rfl
theorem tab_data {J : It} {ds : List D} {l : List (List Key × List (D × D))} {is vs : List Nat} {g : DG} {H1 H2 : Hp} {Q : VK} (hJ : ItOk K J H1 ds) (rl : Rl K B ρ σ H1 H2) (hrs : tabL g mk mv vs ρ ds = some l) (hz : l.length ≤ 1000) (hsub : ∀ i ∈ is, i ∈ vs)
    (hq : ∀ (Dl : Addr) (H0 H : Hp) (acc : List Addr) (kvs : List (List Key × V)), Rl K B ρ σ H0 H → H Dl = some (.lst (acc.map V.ref)) → TAcc K H0 H acc kvs l → (kvs.map fun kv => refV kv.2).Nodup → (∀ q ∈ kvs.map (fun kv => refV kv.2), H2 q = none ∧ H0 q = none) → Q (.ref Dl) H) (Dl : Addr) (hD : H2 Dl = none) :
    ∃ Wd : Nat → Nat → Hp → Prop, (∃ m, Wd 0 m (upd H2 Dl (.lst []))) ∧ ∀ i k H, Wd i k H →
      (J.stop i H ∧ Q (.ref Dl) H) ∨ (J.go i H ∧ ∃ Nx : Hp → Prop, (∀ H', Nx H' → ∃ m', m' < k ∧ Wd (i + 1) m' H') ∧ ∀ x H', J.yld i H x H' → tG K is g x (L2.wipe σ vs) H' fun σ2 H2 => L2.wipe σ2 vs = L2.wipe σ vs ∧ tYes σ2 H2 fun b H3 =>
        if b = true then tTup (tCons (tE false K mg W0 mk) (tCons (tE true K mg W0 mv) tNil)) σ2 H3 fun y H4 => ∃ acc, H4 Dl = some (.lst acc) ∧ acc.length < sizeLine ∧ Nx (upd H4 Dl (.lst (acc ++ [y]))) else Nx H3) := by
  have hB2 : B.2 Dl = none := fresh_back rl.gr.e hD
  have hH1 : H1 Dl = none := fresh_back rl.s hD
  have hb := rl.gr
  let Bd : List V → Bs := fun acc => (H1, upd B.2 Dl (.lst acc))
  let Inv' : Nat → Hp → Prop := fun i H => ∃ H0 acc kvs done rest, Rl K (Bd (acc.map V.ref)) ρ σ H0 H ∧ Ex H2 H ∧ TAcc K H0 H acc kvs done ∧ (kvs.map fun kv => refV kv.2).Nodup ∧ (∀ q ∈ kvs.map (fun kv => refV kv.2), H2 q = none ∧ H0 q = none ∧ ∃ l, H q = some (.dT l)) ∧ tabL g mk mv vs ρ (ds.drop i) = some rest ∧ done ++ rest = l
  have own_ne : ∀ (j : Nat) (e : D), ρ[j]? = some (Slot.ow e) → σ[j]? ≠ some (some (V.ref Dl)) := fun j e hj hs => by
    obtain ⟨p, ob, q1, q2, q3, q4, q5⟩ := rl.ow j e hj
    rw [hs] at q1
    simp at q1
    subst q1
    rw [hD] at q4
    cases q4
  have start : Inv' 0 (upd H2 Dl (.lst [])) := by
    have r1 : Rl K (H1, B.2) ρ σ H1 (upd H2 Dl (.lst [])) := (rebase hb rl (Ex.refl _)).grow (Gr.side rl.s (Ex.new hD))
    exact ⟨H1, [], [], [], l, r1.guard upd_same hH1 own_ne, Ex.new hD, .nil, List.nodup_nil, by simp, by rw [List.drop_zero]; exact hrs, rfl⟩
  refine ⟨fun i k H => k = ds.length - i ∧ i ≤ ds.length ∧ Inv' i H, ⟨_, rfl, Nat.zero_le _, start⟩, ?_⟩
  rintro i k H ⟨rfl, hi, H0, acc, kvs, done, rst, r, eH, ta, nd, hf, hl, hd⟩
  obtain ⟨gD, gD0, gN⟩ := r.guarded (B := (H1, B.2)) hH1
  have e : Ex H1 H0 := r.gr.e0
  by_cases hlt : i < ds.length
  · have hdi : ds[i]? = some ds[i] := List.getElem?_eq_getElem hlt
    obtain ⟨hgo, hy⟩ := (hJ i).2 H _ (e.trans r.s) hdi
    rw [getElem?_drop hdi] at hl
    unfold tabL at hl
    refine .inr ⟨hgo, Inv' (i + 1), fun H' z => ⟨ds.length - (i + 1), by omega, rfl, by omega, z⟩, fun x H' y => ?_⟩
    split at hl
    · rename_i ent rest2 hst hlr
      simp only [Option.some.injEq] at hl
      subst hl
      have go : ∀ H0', Gr H0 H H0' H' → Rp K H0' x ds[i] → tG K is g x (L2.wipe σ vs) H' fun σ2 H2 => L2.wipe σ2 vs = L2.wipe σ vs ∧ tYes σ2 H2 fun b H3 =>
          if b = true then tTup (tCons (tE false K mg W0 mk) (tCons (tE true K mg W0 mv) tNil)) σ2 H3 fun y H4 => ∃ acc, H4 Dl = some (.lst acc) ∧ acc.length < sizeLine ∧ Inv' (i + 1) (upd H4 Dl (.lst (acc ++ [y]))) else Inv' (i + 1) H3 := by
        intro H0' gg rp
        have r' := r.grow gg
        refine ⟨Bd (acc.map V.ref), wipeE ρ vs, H0', _, r'.wipe vs, rp, ?_⟩
        unfold tabStep at hst
        cases hg : g ds[i] (wipeE ρ vs) with
        | none => rw [hg] at hst; cases hst
        | some ρ1 =>
          rw [hg] at hst
          intro σ2 rr2 l2 n2
          refine ⟨wipe_eq l2 n2 hsub, ?_⟩
          unfold tYes
          simp only [if_true]
          simp only at hst
          split at hst
          · rename_i dk hmk
            split at hst
            · rename_i kk hkk
              split at hst
              · rename_i es' hmv
                simp only [Option.some.injEq] at hst
                subst hst
                refine ⟨Bd (acc.map V.ref), ρ1, H0', rr2, ?_⟩
                rw [hmk]
                intro vk H5 H6 g5 rk
                refine ⟨Bd (acc.map V.ref), ρ1, H5, rr2.grow g5, ?_⟩
                rw [hmv]
                intro q ob H7 H8 g7 hq8 hq6 hq7 ho
                obtain ⟨bk, rfl, hbk, _⟩ := keyOf_rp rk hkk
                refine ⟨by show 2 ≤ sizeLine; decide, fun T hT => ?_⟩
                have gAll : Gr H0 H H7 H8 := (gg.trans g5).trans g7
                have rB : Rl K (Bd (acc.map V.ref)) ρ σ H7 H8 := r.grow gAll
                have gT : Gr H7 H8 H7 (upd H8 T (.tup [.ref bk, .ref q])) := Gr.side rB.s (Ex.new hT)
                have rC := rB.grow gT
                obtain ⟨gD5, gD05, gN5⟩ := rC.guarded (B := (H1, B.2)) hH1
                rcases ho with ⟨_, _, _, e2, _⟩ | ⟨kvs', es0, rfl, e2, re⟩
                · cases e2
                · cases e2
                  obtain ⟨hlen, hkeys⟩ := ta.len
                  have hdl : done.length + 1 ≤ l.length := by rw [← hd]; simp
                  have hHq : H q = none := fresh_back (gg.e.trans g5.e) hq6
                  have hTD : T ≠ Dl := fun z => by rw [z, upd_same] at gD5; cases gD5
                  have hqT : q ≠ T := fun z => by rw [z, hT] at hq8; cases hq8
                  have up : ∀ a o, H8 a = some o → (∀ xs, o ≠ HO.lst xs) → upd (upd H8 T (.tup [.ref bk, .ref q])) Dl (.lst (acc.map V.ref ++ [V.ref T])) a = some o := fun a o ha hx => by
                    have : a ≠ Dl := fun z => by
                      have hh := gT.e _ _ ha
                      rw [z, gD5] at hh
                      cases hh
                      exact hx _ rfl
                    rw [upd_ne this]
                    exact gT.e _ _ ha
                  have hbk8 : H8 bk = some (.tup (kk.map kV)) := rB.s _ _ (g7.e0 _ _ hbk)
                  refine ⟨acc.map V.ref, gD5, sz_lt (by rw [List.length_map]; omega), H7, acc ++ [T], kvs ++ [(kk, .ref q)], done ++ [(kk, es')], rest2, ?_, fun a o ha => ?_, ?_, ?_, fun q' hq' => ?_, hlr, by rw [← hd]; simp⟩
                  · have rD := ((rC.unguard (B := (H1, B.2)) hB2).grown (ys := (acc ++ [T]).map V.ref) gD5 hB2 gD05 gN5).guard upd_same gD05 gN5
                    rw [List.map_append] at rD ⊢
                    exact rD
                  · have ha2 := eH a o ha
                    have : a ≠ Dl := fun z => by rw [z, hD] at ha; cases ha
                    rw [upd_ne this]
                    exact gT.e _ _ (gAll.e _ _ ha2)
                  · refine .snoc (ta.mono gAll.e0 fun a o ha hx => up a o (gAll.e _ _ ha) hx) ?_ (up _ _ hbk8 fun _ z => nomatch z) (up _ _ hq8 fun _ z => nomatch z) re
                    rw [upd_ne hTD]
                    exact upd_same
                  · rw [List.map_append, List.nodup_append]
                    refine ⟨nd, by simp, fun a ha b hb' => ?_⟩
                    simp only [List.map_cons, List.map_nil, List.mem_cons, List.not_mem_nil, or_false] at hb'
                    intro z
                    have hb2 : b = q := hb'
                    rw [z, hb2] at ha
                    obtain ⟨l3, hl3⟩ := (hf q ha).2.2
                    rw [hHq] at hl3
                    cases hl3
                  · rw [List.map_append, List.mem_append] at hq'
                    rcases hq' with hq' | hq'
                    · obtain ⟨f1, f2, f3⟩ := hf q' hq'
                      obtain ⟨l3, hl3⟩ := f3
                      exact ⟨f1, gAll.n q' ⟨_, hl3, fun _ z => nomatch z⟩ f2, l3, up _ _ (gAll.e _ _ hl3) fun _ z => nomatch z⟩
                    · simp only [List.map_cons, List.map_nil, List.mem_cons, List.not_mem_nil, or_false] at hq'
                      have hb2 : q' = q := hq'
                      subst hb2
                      exact ⟨fresh_back eH hHq, hq7, _, up _ _ hq8 fun _ z => nomatch z⟩
              · cases hst
            · cases hst
          · cases hst
      rcases hy x H' y with ⟨rfl, rp⟩ | ⟨p, vs', es, hp, rfl, rfl, hd', rs'⟩ | hg
      · exact go H0 (Gr.refl r.s) (rp.mono e)
      · refine go (upd H0 p (.tup vs')) (Gr.new r.s hp) ?_
        rw [hd']
        exact .tup upd_same ((rs'.mono e).mono (Ex.new (fresh_back r.s hp)))
      · obtain ⟨Hc, g1, rp⟩ := hg H0 e r.s
        exact go Hc g1 rp
    · cases hl
  · have : i = ds.length := by omega
    subst this
    rw [List.drop_length] at hl
    unfold tabL at hl
    cases hl
    rw [List.append_nil] at hd
    subst hd
    exact .inl ⟨(hJ _).1 H (e.trans r.s) (Nat.le_refl _), hq Dl H0 H acc kvs (unbase hb (r.unguard (B := (H1, B.2)) hB2)) gD ta nd fun q hq' => ⟨(hf q hq').1, (hf q hq').2.1⟩⟩
theorem noOt_no (h : noOt ρ = true) (j : Nat) (d : D) : ρ[j]? ≠ some (Slot.ot d) := fun z => by
  unfold noOt at h
  rw [List.all_eq_true] at h
  have := h _ (List.mem_of_getElem? z)
  cases this
/-- the slot that gets the table -/
theorem Rl.setT {i : Nat} {p : Addr} {kvs : List (List Key × V)} {es : List (D × D)} (r : Rl K B ρ σ H0 H) (hno : noOt ρ = true) (hp : H p = some (.dT kvs)) (rn : RpN K H0 H kvs es) (nd : (fpT p kvs).Nodup) (hf : ∀ q ∈ fpT p kvs, B.2 q = none ∧ H0 q = none)
    (hs : ∀ (j : Nat) (e : D) (p' : Addr), ρ[j]? = some (Slot.ow e) → σ[j]? = some (some (.ref p')) → p' ∉ fpT p kvs) : Rl K B (ρ.set i (.ot (.dict es))) (σ.set i (some (.ref p))) H0 H := by
  have gs : ∀ (k : Nat) (t : Slot), (ρ.set i (.ot (.dict es)))[k]? = some t → (∀ d, t ≠ .ot d) → i ≠ k ∧ ρ[k]? = some t := fun k t hk ht => by
    rw [get_set] at hk
    by_cases hik : i = k
    · rw [if_pos hik] at hk
      split at hk
      · simp at hk; exact absurd hk.symm (ht _)
      · cases hk
    · rw [if_neg hik] at hk
      exact ⟨hik, hk⟩
  refine ⟨r.gr, by simp [r.len], fun j d hj => ?_, fun j d hj => ?_, fun j k d f a hj hk sj sk => ?_, fun j d hj => ?_, fun j d hj => ?_⟩
  · obtain ⟨hij, hj'⟩ := gs j _ hj fun _ z => nomatch z
    rw [get_set, if_neg hij]
    exact r.fz j d hj'
  · obtain ⟨hij, hj'⟩ := gs j _ hj fun _ z => nomatch z
    rw [get_set, if_neg hij]
    exact r.ow j d hj'
  · obtain ⟨hij, hj'⟩ := gs j _ hj fun _ z => nomatch z
    obtain ⟨hik, hk'⟩ := gs k _ hk fun _ z => nomatch z
    rw [get_set, if_neg hij] at sj
    rw [get_set, if_neg hik] at sk
    exact r.uq j k d f a hj' hk' sj sk
  · by_cases hij : i = j
    · subst hij
      rw [get_set, if_pos rfl] at hj
      split at hj
      · rename_i hil
        simp at hj
        subst hj
        refine ⟨p, kvs, es, by rw [get_set, if_pos rfl, if_pos (by rw [r.len]; exact hil)], rfl, hp, rn, nd, hf, fun k f p' hk hsk => ?_, fun k f hk => ?_⟩
        · obtain ⟨hik, hk'⟩ := gs k _ hk fun _ z => nomatch z
          rw [get_set, if_neg hik] at hsk
          exact hs k f p' hk' hsk
        · rw [get_set] at hk
          by_cases hik : i = k
          · exact hik.symm
          · rw [if_neg hik] at hk
            exact absurd hk (noOt_no hno k f)
      · cases hj
    · rw [get_set, if_neg hij] at hj
      exact absurd hj (noOt_no hno j d)
  · obtain ⟨hij, hj'⟩ := gs j _ hj fun _ z => nomatch z
    obtain ⟨pl, od, l', m', t1, t2⟩ := r.lk j d hj'
    exact ⟨pl, od, l', m', by rw [get_set, if_neg hij]; exact t1, t2⟩
theorem sd_tab {i : Nat} {y : Str} {py spos tp : Pos} {kt : Nat} {ke ve : Expr} {scope : Scope} {own : List (Str × Nat)} {mi : DI} {is : List Nat} {g : DG} (hc : X.calm = true) (hu : X.A.units + 100 < cLine) (hgd : Gl X "dict") (hmd : X.mg "dict" = none) (hN : X.N.Nodup) (hy : X.N[i]? = some y) (hx : Loc X.env.scope y)
    (hi : ID X W tg it mi) (ok : BlkOk X.N X.env.scope scope own)
    (hg : ∀ (s : Shared) (H : Hp) (C : Addr) (cl : List (Str × Addr)) (fp : List Addr), GD (X.blk s H scope (compEnvC scope cl C X.env) fp) tg is g)
    (hk : ∀ (s : Shared) (H : Hp) (C : Addr) (cl : List (Str × Addr)) (fp : List Addr), PD (X.blk s H scope (compEnvC scope cl C X.env) fp) W0 ke mk) (hv : ∀ (s : Shared) (H : Hp) (C : Addr) (cl : List (Str × Addr)) (fp : List Addr), PF (X.blk s H scope (compEnvC scope cl C X.env) fp) W0 ve mv)
    (hsub : ∀ i ∈ is, i ∈ own.map (·.2) := by decide) (hs : ∀ x, foldedSetIterable it X.env x = pure x := by intro _; rfl)
    (hse : ∀ (s : Shared) (H : Hp) (C : Addr) (cl : List (Str × Addr)) (fp : List Addr), starEach [ke, ve] (X.blk s H scope (compEnvC scope cl C X.env) fp).env = (false, eval ke (X.blk s H scope (compEnvC scope cl C X.env) fp).env) :: starEach [ve] (X.blk s H scope (compEnvC scope cl C X.env) fp).env := by intro _ _ _ _ _; rfl)
    (hse2 : ∀ (s : Shared) (H : Hp) (C : Addr) (cl : List (Str × Addr)) (fp : List Addr), starEach [ve] (X.blk s H scope (compEnvC scope cl C X.env) fp).env = (false, eval ve (X.blk s H scope (compEnvC scope cl C X.env) fp).env) :: starEach [] (X.blk s H scope (compEnvC scope cl C X.env) fp).env := by intro _ _ _ _ _; rfl)
    (hsl : starEach [.ListComp (.Tuple [ke, ve] kt tp) [⟨tg, it, [], 0⟩] scope p2] X.env = (false, eval (.ListComp (.Tuple [ke, ve] kt tp) [⟨tg, it, [], 0⟩] scope p2) X.env) :: starEach [] X.env := by rfl)
    (hsw : swapsWith (.Call (.Name "dict" p1) [.ListComp (.Tuple [ke, ve] kt tp) [⟨tg, it, [], 0⟩] scope p2] [] p3) (some (.Name y py)) spos.line X.env = pure false := by rfl)
    (hf : X.fn y = true ∨ X.env.scope.names.lookup y = some .local := by first | exact .inl rfl | exact .inr rfl | assumption) :
    SD X W (.Assign [.Name y py] (.Call (.Name "dict" p1) [.ListComp (.Tuple [ke, ve] kt tp) [⟨tg, it, [], 0⟩] scope p2] [] p3) spos) (sTab i mi g mk mv (own.map (·.2))) := by
  have h1 := pe_lc (pos := p2) (te := tTup (tCons (tE false X.K X.mg W0 mk) (tCons (tE true X.K X.mg W0 mv) tNil))) (g := tG X.K is g) hc hN hi ok hg (fun _ _ _ _ _ => pts_nil) (fun s H C cl fp => pe_tup (x1 := kt) (pos := tp) (pa_cons (hk s H C cl fp) (pa_cons (hv s H C cl fp) pa_nil (hse2 s H C cl fp)) (hse s H C cl fp))) hs
  have h2 := pe_callTy (pos := p3) (p := p1) (call_dictT hc hu) hgd hmd (by decide +kernel) (pa_cons h1 pa_nil hsl) (by decide) (by decide) hsl rfl
  refine (ps_set (pos' := py) hN hy hx h2 hsw hf).wk fun E σ H ⟨B, ρ, H0, r, o⟩ => ?_
  unfold sTab at o
  refine ⟨B, ρ, H0, r, ?_⟩
  cases hi' : mi ρ with
  | bad => rw [hi'] at o; exact o
  | er c => rw [hi'] at o; exact ends_er r o
  | ok ds =>
    rw [hi'] at o
    simp only at o
    split at o
    · rename_i l hl
      split at o
      · rename_i hz
        obtain ⟨z1, z2, z3⟩ := of_decide_eq_true hz
        intro J H1 H2 g1 hJ Dl hD
        have r1 := r.grow g1
        refine tab_data (mg := X.mg) (Q := fun x H1 => rDictT X.K [x] H1 fun x H1 => E.nx (σ.set i (some x)) H1) hJ r1 hl z2 hsub (fun Dl H0 H acc kvs rr hDl ta nd hf => ?_) Dl hD
        have hkeys : (kvs.map (·.1)).Nodup := by rw [ta.len.2]; exact z1
        have hm : mergeT [] kvs = kvs := by rw [mergeT_nodup kvs [] (by simpa using hkeys)]; rfl
        refine ⟨Dl, acc, kvs, rfl, SqL.of hDl, ta.pairs, fun p hp => ?_⟩
        rw [hm]
        have rn := ta.rows
        have gp : Gr H0 H H0 (upd H p (.dT kvs)) := Gr.side rr.s (Ex.new hp)
        have r3 := rr.grow gp
        have th := rn.there
        have hB : B.2 p = none := fresh_back rr.gr.e hp
        have hH0 : H0 p = none := fresh_back rr.s hp
        have hnp : p ∉ kvs.map (fun kv => refV kv.2) := fun hm => by
          obtain ⟨l', hl'⟩ := th p hm
          rw [hp] at hl'
          cases hl'
        refine o _ H0 _ (r3.setT z3 upd_same (rn.mono (Ex.refl _) fun q _ o ho => gp.e _ _ ho) (List.nodup_cons.mpr ⟨hnp, nd⟩) (fun q hq => ?_) fun j f p' hj hs hm => ?_)
        · rcases List.mem_cons.mp hq with z | z
          · rw [z]; exact ⟨hB, hH0⟩
          · obtain ⟨f1, f2⟩ := hf q z
            exact ⟨fresh_back r1.gr.e f1, f2⟩
        · obtain ⟨p2, ob, t1, t2, t3, t4, t5⟩ := r1.ow j f hj
          rcases List.mem_cons.mp hm with z | z
          · obtain ⟨p3, ob3, u1, u2, u3, u4, u5⟩ := rr.ow j f hj
            rw [hs] at u1
            simp at u1
            rw [← u1, z, hp] at u4
            cases u4
          · rw [hs] at t1
            simp at t1
            rw [← t1, (hf p' z).1] at t4
            cases t4
      · exact o.elim
    · exact o.elim
end
end Fc
set_option Elab.async false
set_option linter.all false
set_option maxRecDepth 100000
set_option maxHeartbeats 2000000
namespace Fc
open PySem L2 Evl PySem.Spec PyProof.Rows
section
variable {X : Cx} {W : WX} {e a b c o tg it elt : Expr} {es : List Expr} {m ma mb mc mt mv mk : DE} {pos p1 p2 p3 p q : Pos}
variable {K : Fr} {mg : Str → Option Value} {B : Bs} {ρ : En} {σ : L2.St} {H0 H : Hp} {E : Ends}
/-! ### [.. for k in d ..], d an owned dict of tuple keys; what is made are ints -/
/-- the dict at p is locked: its slot reads as frozen -/
theorem Rl.lockO (r : Rl K B ρ σ H0 H) {i : Nat} {p : Addr} {kvs : List (List Key × V)} {es : List (D × D)} (od : Obj) (hi : ρ[i]? = some (.ow (.dict es))) (hs : σ[i]? = some (some (.ref p))) (hp : H p = some (.dT kvs)) (re : RpE K H0 kvs es) :
    Rl K (upd H0 p (.frz od (.dT kvs)), B.2) (ρ.set i (.fz (.dict es))) σ (upd H0 p (.frz od (.dT kvs))) (upd H p (.frz od (.dT kvs))) := by
  obtain ⟨p', ob, q1, q2, q3, q4, q5⟩ := r.ow i _ hi
  rw [hs] at q1
  simp at q1
  subst q1
  have e0 : Ex H0 (upd H0 p (.frz od (.dT kvs))) := Ex.new q3
  have gs : ∀ (k : Nat) (t : Slot), (ρ.set i (.fz (.dict es)))[k]? = some t → (∀ d, t ≠ .fz d) → i ≠ k ∧ ρ[k]? = some t := fun k t hk ht => by
    rw [get_set] at hk
    by_cases hik : i = k
    · rw [if_pos hik] at hk
      split at hk
      · simp at hk; exact absurd hk.symm (ht _)
      · cases hk
    · rw [if_neg hik] at hk
      exact ⟨hik, hk⟩
  refine ⟨⟨Ex.refl _, fun a u z => ?_, fun a u z => ?_, fun a _ z => z⟩, by simp [r.len], fun j d hj => ?_, fun j d hj => ?_, fun j k d f a hj hk sj sk => ?_, fun j d hj => ?_, fun j d hj => ?_⟩
  · have z : B.2 a = some u := z
    have hap : a ≠ p := fun y => by rw [y, q2] at z; cases z
    rw [upd_ne hap]
    exact r.gr.e a u z
  · by_cases hap : a = p
    · subst hap
      rw [upd_same] at z ⊢
      exact z
    · rw [upd_ne hap] at z ⊢
      exact r.gr.s a u z
  · rw [get_set] at hj
    by_cases hij : i = j
    · subst hij
      rw [if_pos rfl] at hj
      split at hj
      · simp at hj
        subst hj
        exact ⟨_, hs, .dct (.inr ⟨od, upd_same⟩) (re.mono e0)⟩
      · cases hj
    · rw [if_neg hij] at hj
      obtain ⟨v, h1, h2⟩ := r.fz j d hj
      exact ⟨v, h1, h2.mono e0⟩
  · obtain ⟨hij, hj'⟩ := gs j _ hj fun _ z => nomatch z
    obtain ⟨p2, o2, t1, t2, t3, t4, t5⟩ := r.ow j d hj'
    have ne : p2 ≠ p := fun z => hij (r.uq i j _ d p hi hj' hs (by rw [← z]; exact t1))
    exact ⟨p2, o2, t1, t2, by rw [upd_ne ne]; exact t3, by rw [upd_ne ne]; exact t4, t5.mono e0⟩
  · obtain ⟨hij, hj'⟩ := gs j _ hj fun _ z => nomatch z
    obtain ⟨hik, hk'⟩ := gs k _ hk fun _ z => nomatch z
    exact r.uq j k d f a hj' hk' sj sk
  · obtain ⟨hij, hj'⟩ := gs j _ hj fun _ z => nomatch z
    refine (r.ot j d hj').to rfl e0 (fun q _ hf hn => ?_) fun k f hk => (gs k _ hk fun _ z => nomatch z).2
    have ne : q ≠ p := fun z => hn i _ hi (by rw [z]; exact hs)
    exact ⟨upd_ne ne, hf.1, by rw [upd_ne ne]; exact hf.2, fun k f hk => hn k f (gs k _ hk fun _ z => nomatch z).2⟩
  · obtain ⟨hij, hj'⟩ := gs j _ hj fun _ z => nomatch z
    obtain ⟨pl, od', l, m', t1, t2, t3, t4, t5, t6⟩ := r.lk j d hj'
    have ne : pl ≠ p := fun z => by rw [z, hp] at t3; cases t3
    exact ⟨pl, od', l, m', t1, t2, by rw [upd_ne ne]; exact t3, t4.mono e0, t5, by rw [upd_ne ne]; exact t6⟩
theorem RpE.at {K : Fr} {H : Hp} : ∀ {kvs : List (List Key × V)} {es : List (D × D)} {i : Nat} {e : D × D}, RpE K H kvs es → es[i]? = some e → ∃ k v, kvs[i]? = some (k, v) ∧ e.1 = keyD k
  | _, _, _, _, .nil, h => by simp at h
  | _, _, 0, _, .cons _ _, h => by simp at h; subst h; exact ⟨_, _, rfl, rfl⟩
  | _, _, i + 1, e, .cons _ r, h => by
    obtain ⟨k, v, h1, h2⟩ := RpE.at (i := i) r (by simpa using h)
    exact ⟨k, v, by simpa using h1, h2⟩
theorem keys_rpa {K : Fr} {H : Hp} : ∀ k : List Key, RpA K H (k.map kV) (k.map kD)
  | [] => .nil
  | .inl i :: k => .cons (.int i) (keys_rpa k)
  | .inr x :: k => .cons (.str x) (keys_rpa k)
theorem itok_keys {d : Addr} {od : Obj} {kvs : List (List Key × V)} {es : List (D × D)} (h : H0 d = some (.frz od (.dT kvs))) (re : RpE K H0 kvs es) : ItOk K (Itkt d od kvs) H0 (es.map (·.1)) := fun i => ⟨fun H e hi => ⟨e _ _ h, by rw [re.length]; simpa using hi⟩, fun H x e hx => by
  rw [List.getElem?_map] at hx
  obtain ⟨en, h1, h2⟩ := Option.map_eq_some_iff.mp hx
  obtain ⟨k, v, h3, h4⟩ := re.at h1
  refine ⟨⟨e _ _ h, (List.getElem?_eq_some_iff.mp h3).1⟩, fun y H' hy => ?_⟩
  obtain ⟨rfl, k', v', q, g1, rfl, g2⟩ := hy
  rw [h3] at g1
  cases g1
  refine .inr (.inr fun Hc ec es => ?_)
  have hd : x = keyD k := by rw [← h2, h4]
  cases hc : Hc q with
  | some u =>
    have := es _ _ hc
    rw [g2] at this
    cases this
    exact ⟨Hc, Gr.refl es, by rw [hd]; exact .tup hc (keys_rpa k)⟩
  | none =>
    refine ⟨upd Hc q (.tup (k.map kV)), ⟨Ex.new hc, Ex.refl _, fun a u z => ?_, fun a ha h0 => ?_⟩, by rw [hd]; exact .tup upd_same (keys_rpa k)⟩
    · by_cases haq : a = q
      · subst haq; rw [upd_same] at z; rw [g2]; exact z
      · rw [upd_ne haq] at z; exact es a u z
    · have haq : a ≠ q := fun z => by
        obtain ⟨u, e1, e2⟩ := ha
        rw [z, g2] at e1
        cases e1
        exact e2 _ rfl
      rw [upd_ne haq]
      exact h0⟩
def isInt : D → Bool
  | .int _ => true
  | _ => false
theorem ints_rpa {K K' : Fr} {H H' : Hp} : ∀ {vs : List V} {ds : List D}, RpA K H vs ds → ds.all isInt = true → RpA K' H' vs ds
  | _, _, .nil, _ => .nil
  | _, _, .cons (d := d) r rs, h => by
    rw [List.all_cons, Bool.and_eq_true] at h
    cases d with
    | int i =>
      cases r
      exact .cons (.int i) (ints_rpa rs h.2)
    | _ => simp [isInt] at h
def eLcK (i : Nat) (g : DG) (t m : DE) (vs : List Nat) : DE := fun ρ => match ρ[i]? with
  | some (.ow (.dict es)) => (match lcL g t m vs (ρ.set i (.fz (.dict es))) (es.map (·.1)) with
    | some rs => if (szB rs.length && rs.all isInt) = true then .ok (.list rs) else .bad
    | none => .bad)
  | _ => .bad
theorem t_lcK {i : Nat} {is vs : List Nat} {g : DG} (hsub : ∀ i ∈ is, i ∈ vs) {Q : VK} (h : tE true K mg W (eLcK i g mt m vs) σ H Q) : tLockE (tLc (iKeys (tVar i)) (tG K is g) (tT K mg W0 mt) (tE false K mg W0 m) vs) σ H Q := by
  obtain ⟨B, ρ, H0, rl, o⟩ := h
  unfold eLcK at o
  split at o
  · rename_i es hi
    split at o
    · rename_i rs hrs
      split at o
      · rename_i hz
        obtain ⟨z1, z2⟩ := Bool.and_eq_true_iff.mp hz
        obtain ⟨p, ob, q1, q2, q3, q4, q5⟩ := rl.ow i _ hi
        rcases q5 with ⟨_, _, _, e2, _⟩ | ⟨kvs, es0, rfl, e2, re⟩
        · cases e2
        · cases e2
          refine ⟨p, .dT kvs, q4, trivial, fun od => ?_⟩
          have rL := rl.lockO od hi q1 q4 re
          have e0 : Ex H0 (upd H0 p (.frz od (.dT kvs))) := Ex.new q3
          refine ⟨.ref p, q1, p, od, rfl, .inr ⟨kvs, upd_same, fun Dl hD => ?_⟩⟩
          refine lc_data (K := K) (mg := mg) (Q := fun v H' => H' p = some (.frz od (.dT kvs)) ∧ Q v (upd H' p (.dT kvs))) (Hs0 := upd H0 p (.frz od (.dT kvs))) (Hs := upd H p (.frz od (.dT kvs))) (itok_keys upd_same (re.mono e0)) rL (Gr.refl rL.s) hrs z1 hsub (fun pl ol H0' H' g hp hn h0 ho => ?_) Dl hD
          have hd' : H' p = some (.frz od (.dT kvs)) := g.e _ _ upd_same
          refine ⟨hd', ?_⟩
          have hne : pl ≠ p := fun z => by rw [z, upd_same] at hn; cases hn
          have exH : Ex H (upd H' p (.dT kvs)) := fun a u z => by
            by_cases ha : a = p
            · subst ha; rw [upd_same, ← q4]; exact z
            · rw [upd_ne ha]; exact g.e _ _ (by rw [upd_ne ha]; exact z)
          have hH : H pl = none := by rw [upd_ne hne] at hn; exact hn
          have hH0 : H0 pl = none := fresh_back rl.s hH
          refine o pl ol H0 (upd H' p (.dT kvs)) (Gr.side rl.s exH) (by rw [upd_ne hne]; exact hp) hH hH0 ?_
          rcases ho with ⟨xs, ds, e1, e2, e3⟩ | ⟨_, _, _, e2, _⟩
          · cases e2
            exact .inl ⟨xs, _, e1, rfl, ints_rpa e3 z2⟩
          · cases e2
      · exact o.elim
    · exact o.elim
  · exact o.elim
theorem pf_lcK (i : Nat) {x : Str} {xp : Pos} {ifs : List Expr} {scope : Scope} {own : List (Str × Nat)} {is : List Nat} {g : DG} (hc : X.calm = true) (hN : X.N.Nodup) (hx : PE X (.Name x xp) (tVar i)) (ok : BlkOk X.N X.env.scope scope own)
    (hg : ∀ (s : Shared) (H : Hp) (C : Addr) (cl : List (Str × Addr)) (fp : List Addr), GD (X.blk s H scope (compEnvC scope cl C X.env) fp) tg is g) (ht : ∀ (s : Shared) (H : Hp) (C : Addr) (cl : List (Str × Addr)) (fp : List Addr), PTsD (X.blk s H scope (compEnvC scope cl C X.env) fp) ifs mt)
    (he : ∀ (s : Shared) (H : Hp) (C : Addr) (cl : List (Str × Addr)) (fp : List Addr), PD (X.blk s H scope (compEnvC scope cl C X.env) fp) W0 elt m) (hsub : ∀ i ∈ is, i ∈ own.map (·.2) := by decide) (hs : ∀ z, foldedSetIterable (.Name x xp) X.env z = pure z := by intro _; rfl) :
    PF X W (.ListComp elt [⟨tg, .Name x xp, ifs, 0⟩] scope pos) (eLcK i g mt m (own.map (·.2))) := (pe_lock (pe_lc hc hN (pi_keys hx) ok hg ht he hs)).wk fun σ H Q h => t_lcK hsub h
/-- y = [.. for k in d ..], frozen at once -/
theorem sd_setLcKF {i j : Nat} {y x : Str} {py spos xp : Pos} {ifs : List Expr} {scope : Scope} {own : List (Str × Nat)} {is : List Nat} {g : DG} (hc : X.calm = true) (hN : X.N.Nodup) (hy : X.N[i]? = some y) (hyl : X.env.scope.names.lookup y = some .local)
    (hsw : swapsWith (.ListComp elt [⟨tg, .Name x xp, ifs, 0⟩] scope pos) (some (.Name y py)) spos.line X.env = pure true) (hx : PE X (.Name x xp) (tVar j)) (ok : BlkOk X.N X.env.scope scope own)
    (hg : ∀ (s : Shared) (H : Hp) (C : Addr) (cl : List (Str × Addr)) (fp : List Addr), GD (X.blk s H scope (compEnvC scope cl C X.env) fp) tg is g) (ht : ∀ (s : Shared) (H : Hp) (C : Addr) (cl : List (Str × Addr)) (fp : List Addr), PTsD (X.blk s H scope (compEnvC scope cl C X.env) fp) ifs mt)
    (he : ∀ (s : Shared) (H : Hp) (C : Addr) (cl : List (Str × Addr)) (fp : List Addr), PD (X.blk s H scope (compEnvC scope cl C X.env) fp) W0 elt m) (hsub : ∀ i ∈ is, i ∈ own.map (·.2) := by decide) (hs : ∀ z, foldedSetIterable (.Name x xp) X.env z = pure z := by intro _; rfl) :
    SD X W (.Assign [.Name y py] (.ListComp elt [⟨tg, .Name x xp, ifs, 0⟩] scope pos) spos) (sAsg i (eLcK j g mt m (own.map (·.2)))) := (ps_lock (ps_setLc hc hN hy hyl hsw (pi_keys hx) ok hg ht he hs)).wk fun E σ H q =>
  t_lcK hsub (t_sE (kd := true) q fun B ρ H0 H d r k => Kq.own (Q := fun x H1 => gName i x σ H1 E.nx) fun v H0' H' g rp => k _ H0' H' ((r.grow g).setF rp))
/-! ### d.get(k) -/
def dGet (x y : D) : R D := match x, y with
  | .dict es, .tuple ks => if okE es = true then (match keyL ks with
    | some k => .ok ((lkE es k).getD .none)
    | none => .bad) else .bad
  | _, _ => .bad
theorem cm_get : Calm2 dGet := fun x y c h => by
  unfold dGet at h
  repeat' first
    | cases h
    | split at h
def okD : D → Bool
  | .dict es => okE es
  | _ => false
def eGet (ma mb : DE) : DE := fun ρ => (ma ρ).bind fun x => if okD x = true then (mb ρ).bind fun y => dGet x y else .bad
theorem pd_get (hu : X.A.units + 100 < cLine) {apos cpos : Pos} (ha : PB X W a ma) (hb : PB X W b mb)
    (h1 : attributeBase a "get" X.env (eval a X.env) = eval a X.env := by rfl)
    (h2 : ((backTo cpos (starEach [b] X.env)).all (fun x => !x.1) && (backToKw cpos (keywordEach [] X.env)).all (fun x => x.1.isSome)
      && decide (([b] : List Expr).length + ([] : List Keyword).length + (if ([] : List Keyword).isEmpty then 0 else 1) < 30)) = true := by rfl)
    (h3 : (apos.endLine == cpos.line) = true := by rfl) (h4 : backTo cpos (starEach [b] X.env) = [(false, eval b X.env)] := by rfl) : PD X W (.Call (.Attribute a "get" apos) [b] [] cpos) (eGet ma mb) := (pe_dget1 (by omega : X.A.units + 1 < cLine) ha hb ⟨h1, h2, h3, h4⟩).wk fun σ H Q h => by
  obtain ⟨B, ρ, H0, rl, o⟩ := h
  refine ⟨B, ρ, H0, rl, ?_⟩
  unfold eGet at o
  cases ha : ma ρ with
  | bad => rw [ha] at o; exact o
  | er c => rw [ha] at o; exact o
  | ok da =>
    rw [ha, R.bind_ok] at o
    intro x H1 H2 g1 vx
    have rl2 := rl.grow g1
    split at o
    · rename_i hok
      cases da with
      | dict es =>
        have hok : okE es = true := hok
        obtain ⟨a, kvs, rfl, hp, re⟩ := (Vw.vx rl2 vx).dctO rl2.s hok
        refine ⟨a, rfl, .inr ⟨kvs, hp⟩, B, ρ, H1, rl2, ?_⟩
        cases hb : mb ρ with
        | bad => rw [hb] at o; exact o
        | er c => rw [hb] at o; exact fun H' e => o H' (g1.e.trans e)
        | ok db =>
          rw [hb, R.bind_ok] at o
          intro y H3 H4 g2 vy
          have rl3 := rl2.grow g2
          cases db with
          | tuple ks =>
            have o : Out (if okE es = true then (match keyL ks with | some k => R.ok ((lkE es k).getD .none) | none => R.bad) else .bad) (fun d => Kq false X.K H0 H d Q) (fun c => ∀ H', Ex H H' → WC X.mg W c σ H') := o
            rw [if_pos hok] at o
            cases hk : keyL ks with
            | none => rw [hk] at o; exact o.elim
            | some k =>
              rw [hk] at o
              obtain ⟨b, rfl, hb1, _⟩ := Vx.key rl3.s (Vw.vx rl3 vy) (k := k) hk
              have hp' : Rd H4 a (.dT kvs) := hp.imp (g2.e _ _) fun ⟨o, h⟩ => ⟨o, g2.e _ _ h⟩
              refine ⟨valV kvs k, DGet.rd hp' hb1, ?_⟩
              have rr := re.mono g2.e0
              refine Kq.grow (k := false) o (g1.trans g2) _ H3 H4 (Gr.refl rl3.s) ?_
              rcases RpE.lk k rr with ⟨v, d, t1, t2, t3⟩ | ⟨t1, t2⟩
              · rw [t1, t2]; exact t3
              · rw [t1, t2]; exact .non
          | _ => exact o.elim
      | _ => cases hok
    · exact o.elim
end
end Fc
set_option Elab.async false
set_option linter.all false
set_option maxRecDepth 100000
set_option maxHeartbeats 2000000
namespace Fc
open PySem L2 Evl PySem.Spec PyProof.Rows
/-! ### max(t), min(t) of a tuple of numbers -/
section
variable {prog : Program} {w : World} {A : Around} {E : Value → Shared → Prop} {s : Shared} {l : Addr} {xs : Array (Int × Tok)}
theorem iter_tupF {its : Array Value} {Q : Value → Shared → Prop} (hl : s.heap.IsTuple l its)
    (h : ∀ s₂ : Shared, s₂ = { s with heap := s.heap.push { cls := .type "tuple_iterator", data := .fields #[.ref l, .int 0 0] } } →
      (s₂.heap.IsTupleIter s.heap.objs.size l 0 ∧ s₂.heap.IsTuple l its) → (∀ b ∈ [s.heap.objs.size, l], b < s₂.heap.objs.size) → l ≠ s.heap.objs.size → Q (.ref s.heap.objs.size) s₂) :
    wpAny (model prog w) A (pyIter (.ref l)) Q E s := by
  have hlt : l < s.heap.objs.size := by obtain ⟨_, e, _⟩ := hl; exact Heap.lt_size e
  refine wpAny_pyIter_tuple hl (h _ rfl ⟨⟨_, Heap.get?_push_size _ rfl, rfl, rfl⟩, hl.push _⟩ (fun b hb => ?_) (Nat.ne_of_lt hlt))
  show b < (s.heap.push _).objs.size
  rw [Heap.size_push]
  rcases List.mem_cons.mp hb with rfl | hb
  · exact Nat.lt_succ_self _
  · rcases List.mem_cons.mp hb with rfl | hb
    · exact Nat.lt_succ_of_lt hlt
    · cases hb
theorem old_keptT {h' : Heap} (hk : ∀ b o, b ∉ [s.heap.objs.size] → (s.heap.push { cls := .type "tuple_iterator", data := .fields #[.ref l, .int 0 0] }).get? b = some o → h'.get? b = some o) :
    ∀ b o, s.heap.get? b = some o → h'.get? b = some o := fun b o e => by
  refine hk b o (fun hm => ?_) (Heap.get?_push_of_some _ e)
  rcases List.mem_cons.mp hm with e1 | hm
  · exact absurd (e1 ▸ Heap.lt_size e) (Nat.lt_irrefl _)
  · cases hm
theorem max_intTup {Q : Value → Shared → Prop} (hh : A.handled = none) (hl : s.heap.IsTuple l (intItems xs)) (hne : 0 < xs.size)
    (h : ∀ v h' tk, (intItems xs)[argBest (fun i j => decide (numAt xs i > numAt xs j)) (xs.size - 1)]? = some v → (∀ b o, s.heap.get? b = some o → h'.get? b = some o) → Q v { s with heap := h', toks := tk }) :
    wpAny (model prog w) A (call (.builtin "max") [.ref l]) Q E s := by
  refine call_max_walk (iter_tupF hl fun s₂ e st hfp hlI => ?_)
  subst e
  refine ⟨_, _, _, _, _, _, _, rfl, Walks.tuple (A := A.in1) hh _ l hlI (intItems xs), st, hfp, by simpa [intItems] using hne, CmpOf.ints_gt (numAt xs) (fun _ _ => intItems_at), fun v h' tk hP hk => ?_⟩
  exact h v h' tk (by simpa [intItems] using hP) (old_keptT hk)
theorem min_intTup {Q : Value → Shared → Prop} (hh : A.handled = none) (hl : s.heap.IsTuple l (intItems xs)) (hne : 0 < xs.size)
    (h : ∀ v h' tk, (intItems xs)[argBest (fun i j => decide (numAt xs i < numAt xs j)) (xs.size - 1)]? = some v → (∀ b o, s.heap.get? b = some o → h'.get? b = some o) → Q v { s with heap := h', toks := tk }) :
    wpAny (model prog w) A (call (.builtin "min") [.ref l]) Q E s := by
  refine call_min_walk (iter_tupF hl fun s₂ e st hfp hlI => ?_)
  subst e
  refine ⟨_, _, _, _, _, _, _, rfl, Walks.tuple (A := A.in1) hh _ l hlI (intItems xs), st, hfp, by simpa [intItems] using hne, CmpOf.ints_lt (numAt xs) (fun _ _ => intItems_at), fun v h' tk hP hk => ?_⟩
  exact h v h' tk (by simpa [intItems] using hP) (old_keptT hk)
variable {its : List Value} {ns : List Int}
theorem max_rawT (hh : A.handled = none) (hl : s.heap.IsTuple l its.toArray) (hi : IntsAre its ns) (hne : 0 < ns.length) {Q : Value → Shared → Prop}
    (h : ∀ h' tk M t', (∀ b o, s.heap.get? b = some o → h'.get? b = some o) → M ∈ ns → (∀ a, a ∈ ns → a ≤ M) → Q (.int M t') { s with heap := h', toks := tk }) : wpAny (model prog w) A (call (.builtin "max") [.ref l]) Q E s := by
  obtain ⟨xs, e⟩ := hi.allInts.items
  have hn : numsOf (intItems xs).toList = ns := by rw [← e]; exact hi.numsOf
  rw [nums_intItems] at hn
  subst hn
  rw [e] at hl
  have hsz : 0 < xs.size := by simpa using hne
  refine max_intTup hh hl hsz fun v h' tk hv hk => ?_
  obtain ⟨t, rfl⟩ := intItems_at hv
  obtain ⟨h1, h2⟩ := argBest_gt (numAt xs) (xs.size - 1)
  refine h h' tk _ t hk ?_ fun a ha => ?_
  · rw [numAt_eq]; exact PySem.getD_mem (by rw [List.length_map, Array.length_toList]; omega)
  · obtain ⟨j, hj, rfl⟩ := mem_getD ha
    rw [List.length_map, Array.length_toList] at hj
    rw [← numAt_eq]; exact h2 j (by omega)
theorem min_rawT (hh : A.handled = none) (hl : s.heap.IsTuple l its.toArray) (hi : IntsAre its ns) (hne : 0 < ns.length) {Q : Value → Shared → Prop}
    (h : ∀ h' tk M t', (∀ b o, s.heap.get? b = some o → h'.get? b = some o) → M ∈ ns → (∀ a, a ∈ ns → M ≤ a) → Q (.int M t') { s with heap := h', toks := tk }) : wpAny (model prog w) A (call (.builtin "min") [.ref l]) Q E s := by
  obtain ⟨xs, e⟩ := hi.allInts.items
  have hn : numsOf (intItems xs).toList = ns := by rw [← e]; exact hi.numsOf
  rw [nums_intItems] at hn
  subst hn
  rw [e] at hl
  have hsz : 0 < xs.size := by simpa using hne
  refine min_intTup hh hl hsz fun v h' tk hv hk => ?_
  obtain ⟨t, rfl⟩ := intItems_at hv
  obtain ⟨h1, h2⟩ := argBest_lt (numAt xs) (xs.size - 1)
  refine h h' tk _ t hk ?_ fun a ha => ?_
  · rw [numAt_eq]; exact PySem.getD_mem (by rw [List.length_map, Array.length_toList]; omega)
  · obtain ⟨j, hj, rfl⟩ := mem_getD ha
    rw [List.length_map, Array.length_toList] at hj
    rw [← numAt_eq]; exact h2 j (by omega)
end
section
variable {X : Cx}
def rMaxT (K : PySem.W.Frag) : List V → Hp → VK → Prop := fun vs H Q => ∃ (a : Addr) (ns : List Int), vs = [V.ref a] ∧ SqT K H a (ns.map V.int) ∧ 0 < ns.length ∧ ∀ m, m ∈ ns → (∀ y, y ∈ ns → y ≤ m) → Q (.int m) H
def rMinT (K : PySem.W.Frag) : List V → Hp → VK → Prop := fun vs H Q => ∃ (a : Addr) (ns : List Int), vs = [V.ref a] ∧ SqT K H a (ns.map V.int) ∧ 0 < ns.length ∧ ∀ m, m ∈ ns → (∀ y, y ∈ ns → m ≤ y) → Q (.int m) H
theorem cr_maxT (hc : X.calm = true) : CallR X (.builtin "max") (rMaxT X.K) := by
  intro pins s σ H vs us Q I r h
  obtain ⟨a, ns, rfl, hs, hne, q⟩ := h
  obtain ⟨its, rv, hl, _⟩ := I.tuple hs
  rw [Vals.ref1 r]
  exact max_rawT (I.ok.hd hc) hl rv.ints hne fun h' tk m t' hk h1 h2 => ⟨.int _, H, I.kept hk, ⟨_, rfl⟩, q m h1 h2⟩
theorem cr_minT (hc : X.calm = true) : CallR X (.builtin "min") (rMinT X.K) := by
  intro pins s σ H vs us Q I r h
  obtain ⟨a, ns, rfl, hs, hne, q⟩ := h
  obtain ⟨its, rv, hl, _⟩ := I.tuple hs
  rw [Vals.ref1 r]
  exact min_rawT (I.ok.hd hc) hl rv.ints hne fun h' tk m t' hk h1 h2 => ⟨.int _, H, I.kept hk, ⟨_, rfl⟩, q m h1 h2⟩
def dMaxU (ds : List D) : R D := match ds with
  | [.tuple xs] => match (intsOf xs).bind maxL with
    | some m => .ok (.int m)
    | none => .bad
  | ds => dMax ds
def dMinU (ds : List D) : R D := match ds with
  | [.tuple xs] => match (intsOf xs).bind minL with
    | some m => .ok (.int m)
    | none => .bad
  | ds => dMin ds
theorem cd_maxU (hc : X.calm = true) : CalD false X (.builtin "max") dMaxU := by
  obtain ⟨t, h1, h2⟩ := cd_max (X := X) hc
  refine ⟨_, (cr_maxT hc).or h1, fun H0 H xs ds d s va e Q kq => ?_⟩
  unfold dMaxU at e
  split at e
  · split at e
    · rename_i m hb
      cases e
      obtain ⟨v, rfl, vx⟩ := va.one'
      obtain ⟨a, ys, rfl, _, ha, r⟩ := vx.tup s
      obtain ⟨ns, g1, g2⟩ := Option.bind_eq_some_iff.mp hb
      have := intsOf_rp r g1
      subst this
      refine .inl ⟨a, ns, rfl, SqT.of ha, ?_, fun m' h3 h4 => ?_⟩
      · cases ns with
        | nil => cases g2
        | cons x xs => simp
      · cases ns with
        | nil => cases g2
        | cons x xs =>
          have := maxL_of xs x m' h3 h4
          have h2' : some _ = some m := g2
          rw [this] at h2'
          cases h2'
          exact kq _ H0 H (Gr.refl s) (.int _)
    · cases e
  · exact .inr (h2 H0 H xs _ d s va e Q kq)
theorem cd_minU (hc : X.calm = true) : CalD false X (.builtin "min") dMinU := by
  obtain ⟨t, h1, h2⟩ := cd_min (X := X) hc
  refine ⟨_, (cr_minT hc).or h1, fun H0 H xs ds d s va e Q kq => ?_⟩
  unfold dMinU at e
  split at e
  · split at e
    · rename_i m hb
      cases e
      obtain ⟨v, rfl, vx⟩ := va.one'
      obtain ⟨a, ys, rfl, _, ha, r⟩ := vx.tup s
      obtain ⟨ns, g1, g2⟩ := Option.bind_eq_some_iff.mp hb
      have := intsOf_rp r g1
      subst this
      refine .inl ⟨a, ns, rfl, SqT.of ha, ?_, fun m' h3 h4 => ?_⟩
      · cases ns with
        | nil => cases g2
        | cons x xs => simp
      · cases ns with
        | nil => cases g2
        | cons x xs =>
          have := minL_of xs x m' h3 h4
          have h2' : some _ = some m := g2
          rw [this] at h2'
          cases h2'
          exact kq _ H0 H (Gr.refl s) (.int _)
    · cases e
  · exact .inr (h2 H0 H xs _ d s va e Q kq)
end
theorem cm_maxU : Calm1 dMaxU := fun ds c h => by
  unfold dMaxU at h
  split at h
  · split at h <;> cases h
  · exact cm_max _ _ h
theorem cm_minU : Calm1 dMinU := fun ds c h => by
  unfold dMinU at h
  split at h
  · split at h <;> cases h
  · exact cm_min _ _ h
end Fc
set_option Elab.async false
set_option linter.all false
set_option maxRecDepth 100000
set_option maxHeartbeats 4000000

namespace Fc
open PySem L2 Evl PySem.Spec PyProof.Rows
def M_is_number : DS := (sRet (eAnd (eU (dIsI "int") (eW 0)) (eAnd (eU dNot (eU (dIsI "bool") (eW 0))) (eChain dLe dLe (eW 1) (eW 0) (eW 2)))))
def F_is_number : List D → R D := runF 3 3 M_is_number

def C_is_clock_1 : DE := (eLc (iSeq (eV 1)) (gN 2) eT (eDef F_is_number (aCons (eV 2) (aCons (eC (.int 0)) (aCons (eC (.int 99)) aNil)))) [2])
def C_is_clock_2 : DE := (eLc (iArgs dZip (aCons (eV 1) (aCons (eSl dSl (eW 1) (oSome (eC (.int 1))) oNone) aNil))) (gTupD 2 (gConsD (gN 2) (gConsD (gN 3) gNilD))) eT (eBin dLt (eW 2) (eW 3)) [2, 3])
def M_is_clock : DS := (sSeq (sIf (eOr (eU dNot (eU (dIsI "tuple") (eW 0))) (eOr (eBin dNe (eCall dLen (aCons (eW 0) aNil)) (eC (.int 3))) (eU dNot (eDef F_is_number (aCons (eBin dIx (eW 0) (eC (.int 0))) (aCons (eC (.int 1)) (aCons (eC (.int 9)) aNil)))))))
  (sRet (eC (.bool false)))
  sNext)
  (sSeq (sIf (eOr (eU dNot (eDef F_is_number (aCons (eBin dIx (eW 0) (eC (.int 1))) (aCons (eBin dIx (eW 0) (eC (.int 0))) (aCons (eC (.int 9)) aNil))))) (eU dNot (eU (dIsI "tuple") (eBin dIx (eW 0) (eC (.int 2))))))
  (sRet (eC (.bool false)))
  sNext)
  (sSeq (sAsg 1 (eBin dIx (eW 0) (eC (.int 2))))
  (sSeq (sIf (eOr (eU dNot (eChain dLe dLe (eC (.int 1)) (eCall dLen (aCons (eW 1) aNil)) (eC (.int 4)))) (eU dNot (eCall dAll (aCons C_is_clock_1 aNil))))
  (sRet (eC (.bool false)))
  sNext)
  (sRet (eCall dAll (aCons C_is_clock_2 aNil)))))))
def F_is_clock : List D → R D := runF 4 1 M_is_clock

def M_is_event : DS := (sSeq (sIf (eOr (eU dNot (eU (dIsI "tuple") (eW 1))) (eOr (eBin dNe (eCall dLen (aCons (eW 1) aNil)) (eC (.int 2))) (eU dNot (eDef F_is_number (aCons (eBin dIx (eW 1) (eC (.int 0))) (aCons (eC (.int 0)) (aCons (eBin dSub (eCall dLen (aCons (eW 0) aNil)) (eC (.int 1))) aNil)))))))
  (sRet (eC (.bool false)))
  sNext)
  (sRet (eDef F_is_number (aCons (eBin dIx (eW 1) (eC (.int 1))) (aCons (eC (.int 0)) (aCons (eBin dSub (eCall dLen (aCons (eBin dIx (eBin dIx (eW 0) (eBin dIx (eW 1) (eC (.int 0)))) (eC (.int 2))) aNil)) (eC (.int 1))) aNil))))))
def F_is_event : List D → R D := runF 2 2 M_is_event

def M_is_letter : DS := (sSeq (sIf (eOr (eU dNot (eU (dIsI "tuple") (eW 1))) (eOr (eBin dNe (eCall dLen (aCons (eW 1) aNil)) (eC (.int 4))) (eU dNot (eDef F_is_number (aCons (eBin dIx (eW 1) (eC (.int 2))) (aCons (eC (.int 0)) (aCons (eC (.int 999)) aNil)))))))
  (sRet (eC (.bool false)))
  sNext)
  (sSeq (sIf (eOr (eU dNot (eDef F_is_event (aCons (eV 0) (aCons (eBin dIx (eW 1) (eC (.int 0))) aNil)))) (eOr (eU dNot (eDef F_is_event (aCons (eV 0) (aCons (eBin dIx (eW 1) (eC (.int 1))) aNil)))) (eBin dEq (eBin dIx (eW 1) (eC (.int 0))) (eBin dIx (eW 1) (eC (.int 1))))))
  (sRet (eC (.bool false)))
  sNext)
  (sRet (eOr (eU dIsN (eBin dIx (eW 1) (eC (.int 3)))) (eDef F_is_number (aCons (eBin dIx (eW 1) (eC (.int 3))) (aCons (eBin dIx (eW 1) (eC (.int 2))) (aCons (eC (.int 999)) aNil))))))))
def F_is_letter : List D → R D := runF 2 2 M_is_letter

def C_is_record_1 : DE := (eLc (iSeq (eBin dIx (eW 0) (eC (.int 0)))) (gN 1) eT (eDef F_is_clock (aCons (eV 1) aNil)) [1])
def C_is_record_2 : DE := (eLc (iSeq (eBin dIx (eW 0) (eC (.int 1)))) (gN 1) eT (eDef F_is_letter (aCons (eBin dIx (eW 0) (eC (.int 0))) (aCons (eV 1) aNil))) [1])
def M_is_record : DS := (sSeq (sIf (eOr (eU dNot (eU (dIsI "tuple") (eW 0))) (eOr (eBin dNe (eCall dLen (aCons (eW 0) aNil)) (eC (.int 2))) (eU dNot (eU (dIsI "tuple") (eBin dIx (eW 0) (eC (.int 0)))))))
  (sRet (eC (.bool false)))
  sNext)
  (sSeq (sIf (eOr (eU dNot (eChain dLe dLe (eC (.int 1)) (eCall dLen (aCons (eBin dIx (eW 0) (eC (.int 0))) aNil)) (eC (.int 4)))) (eU dNot (eCall dAll (aCons C_is_record_1 aNil))))
  (sRet (eC (.bool false)))
  sNext)
  (sSeq (sIf (eOr (eU dNot (eU (dIsI "tuple") (eBin dIx (eW 0) (eC (.int 1))))) (eBin dGt (eCall dLen (aCons (eBin dIx (eW 0) (eC (.int 1))) aNil)) (eC (.int 8))))
  (sRet (eC (.bool false)))
  sNext)
  (sRet (eCall dAll (aCons C_is_record_2 aNil))))))
def F_is_record : List D → R D := runF 2 1 M_is_record

def M_need_record : DS := (sIf (eU dNot (eDef F_is_record (aCons (eV 0) aNil)))
  (sRaise "NoRecord")
  sNext)
def F_need_record : List D → R D := runF 1 1 M_need_record

def C_events_1 : DE := (eLc (iArgs dRng1 (aCons (eCall dLen (aCons (eBin dIx (eW 3) (eC (.int 2))) aNil)) aNil)) (gN 4) eT (eTup (aCons (eV 2) (aCons (eV 4) aNil))) [4])
def B_events_1 : DS := (sExt 1 C_events_1)
def L_events_1 : DS := (sFor (iArgs dEnum (aCons (eBin dIx (eW 0) (eC (.int 0))) aNil)) (gTupD 2 (gConsD (gN 2) (gConsD (gN 3) gNilD))) B_events_1)
def M_events : DS := (sSeq (sDrop (eDef F_need_record (aCons (eV 0) aNil)))
  (sSeq (sOwn 1 (eLst aNil))
  (sSeq L_events_1
  (sFrz 1 (sRet (eV 1))))))
def F_events : List D → R D := runF 5 1 M_events

def M_law_cell : DS := (sSeq (sIf (eBin dEq (eW 0) (eLst aNil))
  (sRet (eBin dMul (eC (.int 7)) (eW 1)))
  sNext)
  (sRet (eBin dAdd (eBin dIx (eW 0) (eBin dMod (eW 1) (eCall dLen (aCons (eW 0) aNil)))) (eBin dMul (eC (.int 6553)) (eBin dFdiv (eW 1) (eCall dLen (aCons (eW 0) aNil)))))))
def F_law_cell : List D → R D := runF 2 2 M_law_cell

def M_law_drawn : DS := (sSeq (sAsg 3 (eBin dMod (eBin dAdd (eBin dMul (eBin dMod (eDef F_law_cell (aCons (eV 0) (aCons (eV 1) aNil))) (eC (.int 2147483563))) (eC (.int 69069))) (eBin dMul (eC (.int 104723)) (eBin dAdd (eW 1) (eC (.int 1))))) (eC (.int 2147483563))))
  (sSeq (sAsg 3 (eBin dMod (eBin dAdd (eBin dMul (eW 3) (eW 3)) (eBin dFdiv (eW 3) (eC (.int 3)))) (eC (.int 2147483399))))
  (sRet (eBin dMod (eBin dFdiv (eBin dMod (eBin dAdd (eBin dMul (eW 3) (eW 3)) (eBin dFdiv (eW 3) (eC (.int 7)))) (eC (.int 2147483647))) (eC (.int 11))) (eW 2)))))
def F_law_drawn : List D → R D := runF 4 3 M_law_drawn

def B_law_clock_1 : DS := (sAsg 3 (eBin dAdd (eW 3) (eTup (aCons (eBin dAdd (eBin dAdd (eBin dIx (eW 3) (eU dNeg (eC (.int 1)))) (eC (.int 1))) (eDef F_law_drawn (aCons (eV 0) (aCons (eBin dAdd (eBin dAdd (eW 1) (eC (.int 3))) (eW 4)) (aCons (eC (.int 5)) aNil))))) aNil))))
def L_law_clock_1 : DS := (sFor (iArgs dRng1 (aCons (eDef F_law_drawn (aCons (eV 0) (aCons (eBin dAdd (eW 1) (eC (.int 1))) (aCons (eC (.int 3)) aNil)))) aNil)) (gN 4) B_law_clock_1)
def M_law_clock : DS := (sSeq (sAsg 2 (eBin dAdd (eC (.int 1)) (eDef F_law_drawn (aCons (eV 0) (aCons (eV 1) (aCons (eC (.int 3)) aNil))))))
  (sSeq (sAsg 3 (eTup (aCons (eDef F_law_drawn (aCons (eV 0) (aCons (eBin dAdd (eW 1) (eC (.int 2))) (aCons (eC (.int 6)) aNil)))) aNil)))
  (sSeq L_law_clock_1
  (sRet (eTup (aCons (eV 2) (aCons (eBin dAdd (eW 2) (eDef F_law_drawn (aCons (eV 0) (aCons (eBin dAdd (eW 1) (eC (.int 6))) (aCons (eC (.int 3)) aNil))))) (aCons (eV 3) aNil))))))))
def F_law_clock : List D → R D := runF 5 2 M_law_clock

def C_law_events_1 : DE := (eLc (iArgs dRng1 (aCons (eCall dLen (aCons (eBin dIx (eW 3) (eC (.int 2))) aNil)) aNil)) (gN 4) eT (eTup (aCons (eV 2) (aCons (eV 4) aNil))) [4])
def B_law_events_1 : DS := (sAsg 1 (eBin dAdd (eW 1) C_law_events_1))
def L_law_events_1 : DS := (sFor (iArgs dEnum (aCons (eV 0) aNil)) (gTupD 2 (gConsD (gN 2) (gConsD (gN 3) gNilD))) B_law_events_1)
def M_law_events : DS := (sSeq (sAsg 1 (eLst aNil))
  (sSeq L_law_events_1
  (sRet (eV 1))))
def F_law_events : List D → R D := runF 5 1 M_law_events

def M_law_letter : DS := (sSeq (sAsg 3 (eDef F_law_events (aCons (eV 2) aNil)))
  (sSeq (sIf (eBin dLt (eCall dLen (aCons (eW 3) aNil)) (eC (.int 2)))
  (sRet (eC .none))
  sNext)
  (sSeq (sAsg 4 (eDef F_law_drawn (aCons (eV 0) (aCons (eV 1) (aCons (eCall dLen (aCons (eW 3) aNil)) aNil)))))
  (sSeq (sAsg 5 (eBin dMod (eBin dAdd (eBin dAdd (eW 4) (eC (.int 1))) (eDef F_law_drawn (aCons (eV 0) (aCons (eBin dAdd (eW 1) (eC (.int 1))) (aCons (eBin dSub (eCall dLen (aCons (eW 3) aNil)) (eC (.int 1))) aNil))))) (eCall dLen (aCons (eW 3) aNil))))
  (sSeq (sAsg 6 (eDef F_law_drawn (aCons (eV 0) (aCons (eBin dAdd (eW 1) (eC (.int 2))) (aCons (eC (.int 8)) aNil)))))
  (sSeq (sAsg 7 (eIf (eBin dEq (eDef F_law_drawn (aCons (eV 0) (aCons (eBin dAdd (eW 1) (eC (.int 3))) (aCons (eC (.int 3)) aNil)))) (eC (.int 0))) (eC .none) (eBin dAdd (eW 6) (eDef F_law_drawn (aCons (eV 0) (aCons (eBin dAdd (eW 1) (eC (.int 4))) (aCons (eC (.int 9)) aNil)))))))
  (sRet (eTup (aCons (eBin dIx (eW 3) (eW 4)) (aCons (eBin dIx (eW 3) (eW 5)) (aCons (eV 6) (aCons (eV 7) aNil))))))))))))
def F_law_letter : List D → R D := runF 8 3 M_law_letter

def C_law_record_1 : DE := (eLc (iArgs dRng1 (aCons (eBin dAdd (eC (.int 1)) (eDef F_law_drawn (aCons (eV 0) (aCons (eV 1) (aCons (eC (.int 3)) aNil))))) aNil)) (gN 5) eT (eDef F_law_clock (aCons (eV 0) (aCons (eBin dAdd (eBin dAdd (eW 1) (eC (.int 1))) (eBin dMul (eC (.int 8)) (eW 5))) aNil))) [5])
def B_law_record_1 : DS := (sSeq (sAsg 6 (eDef F_law_letter (aCons (eV 0) (aCons (eBin dAdd (eBin dAdd (eW 1) (eC (.int 31))) (eBin dMul (eC (.int 6)) (eW 5))) (aCons (eV 3) aNil)))))
  (sAsg 4 (eBin dAdd (eW 4) (eBin dMul (eLst (aCons (eV 6) aNil)) (eCall dInt (aCons (eU dNotN (eW 6)) aNil))))))
def L_law_record_1 : DS := (sFor (iArgs dRng1 (aCons (eDef F_law_drawn (aCons (eV 0) (aCons (eBin dAdd (eW 1) (eC (.int 30))) (aCons (eBin dAdd (eW 2) (eC (.int 1))) aNil)))) aNil)) (gN 5) B_law_record_1)
def M_law_record : DS := (sSeq (sAsg 3 (eCall dTupOf (aCons C_law_record_1 aNil)))
  (sSeq (sAsg 4 (eLst aNil))
  (sSeq L_law_record_1
  (sRet (eTup (aCons (eV 3) (aCons (eCall dTupOf (aCons (eW 4) aNil)) aNil)))))))
def F_law_record : List D → R D := runF 7 3 M_law_record

end Fc
set_option Elab.async false
set_option linter.all false
set_option maxRecDepth 100000
set_option maxHeartbeats 4000000

namespace Fc
open PySem L2 Evl PySem.Spec PyProof.Rows
def B_clock_bounds_1 : DS := (sSeq (sAsg 8 (eBin dSub (eBin dIx (eW 7) (eC (.int 1))) (eBin dIx (eW 7) (eC (.int 0)))))
  (sSeq (sApp 5 (eTup (aCons (eTup (aCons (eV 0) (aCons (eV 6) aNil))) (aCons (eTup (aCons (eV 0) (aCons (eBin dAdd (eW 6) (eC (.int 1))) aNil))) (aCons (eBin dMul (eW 8) (eW 3)) aNil)))))
  (sApp 5 (eTup (aCons (eTup (aCons (eV 0) (aCons (eBin dAdd (eW 6) (eC (.int 1))) aNil))) (aCons (eTup (aCons (eV 0) (aCons (eV 6) aNil))) (aCons (eBin dSub (eC (.int 0)) (eBin dMul (eW 8) (eW 2))) aNil)))))))
def L_clock_bounds_1 : DS := (sFor (iArgs dEnumZip (aCons (eV 4) (aCons (eSl dSl (eW 4) (oSome (eC (.int 1))) oNone) aNil))) (gTupD 2 (gConsD (gN 6) (gConsD (gN 7) gNilD))) B_clock_bounds_1)
def M_clock_bounds : DS := (sSeq (sAsgG (gTupD 3 (gConsD (gN 2) (gConsD (gN 3) (gConsD (gN 4) gNilD)))) (eV 1))
  (sSeq (sOwn 5 (eLst aNil))
  (sSeq L_clock_bounds_1
  (sFrz 5 (sRet (eV 5))))))
def F_clock_bounds : List D → R D := runF 9 2 M_clock_bounds

def M_letter_bounds : DS := (sSeq (sAsgG (gTupD 4 (gConsD (gN 1) (gConsD (gN 2) (gConsD (gN 3) (gConsD (gN 4) gNilD))))) (eV 0))
  (sSeq (sAsg 5 (eLst (aCons (eTup (aCons (eV 2) (aCons (eV 1) (aCons (eBin dSub (eC (.int 0)) (eW 3)) aNil)))) aNil)))
  (sRet (eIf (eU dIsN (eW 4)) (eV 5) (eBin dAdd (eW 5) (eLst (aCons (eTup (aCons (eV 1) (aCons (eV 2) (aCons (eV 4) aNil)))) aNil)))))))
def F_letter_bounds : List D → R D := runF 6 1 M_letter_bounds

def B_bounds_1 : DS := (sExt 1 (eDef F_clock_bounds (aCons (eV 2) (aCons (eV 3) aNil))))
def L_bounds_1 : DS := (sFor (iArgs dEnum (aCons (eBin dIx (eW 0) (eC (.int 0))) aNil)) (gTupD 2 (gConsD (gN 2) (gConsD (gN 3) gNilD))) B_bounds_1)
def B_bounds_2 : DS := (sExt 1 (eDef F_letter_bounds (aCons (eV 4) aNil)))
def L_bounds_2 : DS := (sFor (iSeq (eBin dIx (eW 0) (eC (.int 1)))) (gN 4) B_bounds_2)
def M_bounds : DS := (sSeq (sDrop (eDef F_need_record (aCons (eV 0) aNil)))
  (sSeq (sOwn 1 (eLst aNil))
  (sSeq L_bounds_1
  (sSeq L_bounds_2
  (sFrz 1 (sRet (eV 1)))))))
def F_bounds : List D → R D := runF 5 1 M_bounds

def B_law_bounds_1 : DS := (sSeq (sAsg 7 (eBin dSub (eBin dIx (eW 5) (eW 6)) (eBin dIx (eW 5) (eBin dSub (eW 6) (eC (.int 1))))))
  (sSeq (sApp 1 (eTup (aCons (eTup (aCons (eV 2) (aCons (eBin dSub (eW 6) (eC (.int 1))) aNil))) (aCons (eTup (aCons (eV 2) (aCons (eV 6) aNil))) (aCons (eBin dMul (eW 4) (eW 7)) aNil)))))
  (sApp 1 (eTup (aCons (eTup (aCons (eV 2) (aCons (eV 6) aNil))) (aCons (eTup (aCons (eV 2) (aCons (eBin dSub (eW 6) (eC (.int 1))) aNil))) (aCons (eBin dSub (eC (.int 0)) (eBin dMul (eW 3) (eW 7))) aNil)))))))
def L_law_bounds_1 : DS := (sFor (iArgs dRng2 (aCons (eC (.int 1)) (aCons (eCall dLen (aCons (eW 5) aNil)) aNil))) (gN 6) B_law_bounds_1)
def B_law_bounds_2 : DS := L_law_bounds_1
def L_law_bounds_2 : DS := (sFor (iArgs dEnum (aCons (eBin dIx (eW 0) (eC (.int 0))) aNil)) (gTupD 2 (gConsD (gN 2) (gConsD (gTupD 3 (gConsD (gN 3) (gConsD (gN 4) (gConsD (gN 5) gNilD)))) gNilD))) B_law_bounds_2)
def B_law_bounds_3 : DS := (sSeq (sApp 1 (eTup (aCons (eV 9) (aCons (eV 8) (aCons (eBin dSub (eC (.int 0)) (eW 10)) aNil)))))
  (sIf (eU dNotN (eW 11))
  (sApp 1 (eTup (aCons (eV 8) (aCons (eV 9) (aCons (eV 11) aNil)))))
  sNext))
def L_law_bounds_3 : DS := (sFor (iSeq (eBin dIx (eW 0) (eC (.int 1)))) (gTupD 4 (gConsD (gN 8) (gConsD (gN 9) (gConsD (gN 10) (gConsD (gN 11) gNilD))))) B_law_bounds_3)
def M_law_bounds : DS := (sSeq (sOwn 1 (eLst aNil))
  (sSeq L_law_bounds_2
  (sSeq L_law_bounds_3
  (sFrz 1 (sRet (eV 1))))))
def F_law_bounds : List D → R D := runF 12 1 M_law_bounds

end Fc
set_option Elab.async false
set_option linter.all false
set_option maxRecDepth 100000
set_option maxHeartbeats 4000000

namespace Fc
open PySem L2 Evl PySem.Spec PyProof.Rows
def M_by_events : DS := (sRet (eBin dDictZip (eDef F_events (aCons (eV 0) aNil)) (eV 1)))
def F_by_events : List D → R D := runF 2 2 M_by_events

def M_is_broken : DS := (sSeq (sAsgG (gTupD 3 (gConsD (gN 2) (gConsD (gN 3) (gConsD (gN 4) gNilD)))) (eV 0))
  (sRet (eBin dGt (eBin dSub (eBin dIx (eW 1) (eW 3)) (eBin dIx (eW 1) (eW 2))) (eW 4))))
def F_is_broken : List D → R D := runF 5 2 M_is_broken

def C_are_times_1 : DE := (eLc (iSeq (eV 1)) (gN 3) eT (eAnd (eU (dIsI "int") (eW 3)) (eU dNot (eU (dIsI "bool") (eW 3)))) [3])
def M_are_times : DS := (sSeq (sAsg 2 (eCall dLen (aCons (eDef F_events (aCons (eV 0) aNil)) aNil)))
  (sSeq (sIf (eOr (eU dNot (eU (dIsI "tuple") (eW 1))) (eBin dNe (eCall dLen (aCons (eW 1) aNil)) (eW 2)))
  (sRet (eC (.bool false)))
  sNext)
  (sRet (eCall dAll (aCons C_are_times_1 aNil)))))
def F_are_times : List D → R D := runF 4 2 M_are_times

def C_broken_1 : DE := (eLc (iArgs dEnum (aCons (eDef F_bounds (aCons (eV 0) aNil)) aNil)) (gTupD 2 (gConsD (gN 3) (gConsD (gN 4) gNilD))) (eDef F_is_broken (aCons (eV 4) (aCons (eV 2) aNil))) (eV 3) [3, 4])
def M_broken : DS := (sSeq (sAsg 2 (eDef F_by_events (aCons (eV 0) (aCons (eV 1) aNil))))
  (sRet C_broken_1))
def F_broken : List D → R D := runF 5 2 M_broken

def M_is_world : DS := (sRet (eAnd (eDef F_are_times (aCons (eV 0) (aCons (eV 1) aNil))) (eBin dEq (eDef F_broken (aCons (eV 0) (aCons (eV 1) aNil))) (eLst aNil))))
def F_is_world : List D → R D := runF 2 2 M_is_world

def C_law_table_1 : DE := (eLc (iSeq (eV 0)) (gN 4) eT (eTup (aCons (eV 4) (aCons (eC .none) aNil))) [4])
def B_law_table_1 : DS := (sPut2 2 (eW 3) (eW 3) (eC (.int 0)))
def L_law_table_1 : DS := (sFor (iSeq (eV 0)) (gN 3) B_law_table_1)
def B_law_table_2 : DS := (sIf (eOr (eU dIsN (eT2 2 (eW 3) (eW 4))) (eBin dLt (eW 5) (eT2 2 (eW 3) (eW 4))))
  (sPut2 2 (eW 3) (eW 4) (eV 5))
  sNext)
def L_law_table_2 : DS := (sFor (iSeq (eV 1)) (gTupD 3 (gConsD (gN 3) (gConsD (gN 4) (gConsD (gN 5) gNilD)))) B_law_table_2)
def B_law_table_3 : DS := (sIf (eAnd (eU dNotN (eT2 2 (eW 3) (eW 6))) (eU dNotN (eT2 2 (eW 6) (eW 4))))
  (sSeq (sAsg 7 (eBin dAdd (eT2 2 (eW 3) (eW 6)) (eT2 2 (eW 6) (eW 4))))
  (sIf (eOr (eU dIsN (eT2 2 (eW 3) (eW 4))) (eBin dLt (eW 7) (eT2 2 (eW 3) (eW 4))))
  (sPut2 2 (eW 3) (eW 4) (eV 7))
  sNext))
  sNext)
def L_law_table_3 : DS := (sFor (iSeq (eV 0)) (gN 4) B_law_table_3)
def B_law_table_4 : DS := L_law_table_3
def L_law_table_4 : DS := (sFor (iSeq (eV 0)) (gN 3) B_law_table_4)
def B_law_table_5 : DS := L_law_table_4
def L_law_table_5 : DS := (sFor (iSeq (eV 0)) (gN 6) B_law_table_5)
def C_law_table_2 : DE := (eLc (iSeq (eV 0)) (gN 3) (eBin dLt (eT2 2 (eW 3) (eW 3)) (eC (.int 0))) (eV 3) [3])
def M_law_table : DS := (sSeq (sTab 2 (iSeq (eV 0)) (gN 3) (eV 3) (eU dDictOf C_law_table_1) [3])
  (sSeq L_law_table_1
  (sSeq L_law_table_2
  (sSeq L_law_table_5
  (sFrz 2 (sRet (eIf (eBin dEq C_law_table_2 (eLst aNil)) (eV 2) (eC .none))))))))
def F_law_table : List D → R D := runF 8 2 M_law_table

def C_law_world_1 : DE := (eLc (iSeq (eV 2)) (gN 5) (eU dNotN (eBin dIx (eBin dIx (eW 1) (eW 5)) (eW 4))) (eBin dIx (eBin dIx (eW 1) (eW 5)) (eW 4)) [5])
def B_law_world_1 : DS := (sApp 3 (eCall dMinU (aCons (eBin dAdd (eLst (aCons (eC (.int 0)) aNil)) C_law_world_1) aNil)))
def L_law_world_1 : DS := (sFor (iSeq (eV 2)) (gN 4) B_law_world_1)
def M_law_world : DS := (sSeq (sIf (eU dIsN (eW 1))
  (sRet (eC .none))
  sNext)
  (sSeq (sOwn 3 (eLst aNil))
  (sSeq L_law_world_1
  (sRet (eCall dTupOf (aCons (eW 3) aNil))))))
def F_law_world : List D → R D := runF 6 3 M_law_world

def C_law_drawn_world_1 : DE := (eLcK 5 (gN 12) (eU dNotN (eBin dIx (eBin dIx (eW 4) (eW 12)) (eW 7))) (eBin dAdd (eBin dIx (eW 5) (eW 12)) (eBin dIx (eBin dIx (eW 4) (eW 12)) (eW 7))) [12])
def C_law_drawn_world_2 : DE := (eLcK 5 (gN 12) (eU dNotN (eBin dIx (eBin dIx (eW 4) (eW 7)) (eW 12))) (eBin dSub (eBin dIx (eW 5) (eW 12)) (eBin dIx (eBin dIx (eW 4) (eW 7)) (eW 12))) [12])
def B_law_drawn_world_1 : DS := (sSeq (sAsg 8 C_law_drawn_world_1)
  (sSeq (sAsg 9 C_law_drawn_world_2)
  (sSeq (sAsg 10 (eIf (eBin dNe (eW 9) (eLst aNil)) (eCall dMaxU (aCons (eW 9) aNil)) (eIf (eBin dNe (eW 8) (eLst aNil)) (eBin dSub (eCall dMinU (aCons (eW 8) aNil)) (eC (.int 5))) (eC (.int 0)))))
  (sSeq (sAsg 11 (eIf (eBin dNe (eW 8) (eLst aNil)) (eCall dMinU (aCons (eW 8) aNil)) (eBin dAdd (eW 10) (eC (.int 5)))))
  (sPut 5 (eV 7) (eBin dAdd (eW 10) (eDef F_law_drawn (aCons (eV 0) (aCons (eBin dAdd (eW 1) (eW 6)) (aCons (eBin dAdd (eBin dSub (eW 11) (eW 10)) (eC (.int 1))) aNil))))))))))
def L_law_drawn_world_1 : DS := (sFor (iArgs dEnum (aCons (eV 2) aNil)) (gTupD 2 (gConsD (gN 6) (gConsD (gN 7) gNilD))) B_law_drawn_world_1)
def C_law_drawn_world_3 : DE := (eLc (iSeq (eV 2)) (gN 7) eT (eBin dIx (eW 5) (eW 7)) [7])
def M_law_drawn_world : DS := (sSeq (sOwn 5 eDNew)
  (sSeq L_law_drawn_world_1
  (sRet (eCall dTupOf (aCons C_law_drawn_world_3 aNil)))))
def F_law_drawn_world : List D → R D := runF 13 5 M_law_drawn_world

end Fc
set_option Elab.async false
set_option linter.all false
set_option maxRecDepth 100000
set_option maxHeartbeats 4000000

namespace Fc
open PySem L2 Evl PySem.Spec PyProof.Rows
def C_settled_1 : DE := (eLc (iSeq (eV 0)) (gN 11) eT (eTup (aCons (eV 11) (aCons (eC (.int 0)) aNil))) [11])
def B_settled_1 : DS := (sSeq (sAsgG (gTupD 3 (gConsD (gN 8) (gConsD (gN 9) (gConsD (gN 10) gNilD)))) (eV 7))
  (sIf (eBin dLt (eBin dAdd (eBin dIx (eW 2) (eW 8)) (eW 10)) (eBin dIx (eW 2) (eW 9)))
  (sSeq (sPut 2 (eV 9) (eBin dAdd (eBin dIx (eW 2) (eW 8)) (eW 10)))
  (sSeq (sPut 3 (eV 9) (eV 6))
  (sAsg 4 (eV 9))))
  sNext))
def L_settled_1 : DS := (sFor (iArgs dEnum (aCons (eV 1) aNil)) (gTupD 2 (gConsD (gN 6) (gConsD (gN 7) gNilD))) B_settled_1)
def B_settled_2 : DS := (sSeq (sAsg 4 (eC .none))
  L_settled_1)
def L_settled_2 : DS := (sFor (iArgs dRng1 (aCons (eCall dLen (aCons (eW 0) aNil)) aNil)) (gN 5) B_settled_2)
def M_settled : DS := (sSeq (sOwn 2 (eU dDictOf C_settled_1))
  (sSeq (sOwn 3 eDNew)
  (sSeq (sAsg 4 (eC .none))
  (sSeq L_settled_2
  (sFrz 3 (sFrz 2 (sRet (eTup (aCons (eV 2) (aCons (eV 3) (aCons (eV 4) aNil)))))))))))
def F_settled : List D → R D := runF 12 2 M_settled

def C_world_of_1 : DE := (eLc (iSeq (eV 0)) (gN 5) eT (eBin dIx (eW 2) (eW 5)) [5])
def M_world_of : DS := (sSeq (sAsgG (gTupD 3 (gConsD (gN 2) (gConsD (gN 3) (gConsD (gN 4) gNilD)))) (eDef F_settled (aCons (eV 0) (aCons (eV 1) aNil))))
  (sRet (eIf (eU dNotN (eW 4)) (eC .none) (eCall dTupOf (aCons C_world_of_1 aNil)))))
def F_world_of : List D → R D := runF 6 2 M_world_of

def M_world : DS := (sRet (eDef F_world_of (aCons (eDef F_events (aCons (eV 0) aNil)) (aCons (eDef F_bounds (aCons (eV 0) aNil)) aNil))))
def F_world : List D → R D := runF 1 1 M_world

def M_has_world : DS := (sRet (eU dNotN (eDef F_world (aCons (eV 0) aNil))))
def F_has_world : List D → R D := runF 1 1 M_has_world

def M_need_world : DS := (sIf (eU dNot (eDef F_has_world (aCons (eV 0) aNil)))
  (sRaise "NoWorld")
  sNext)
def F_need_world : List D → R D := runF 1 1 M_need_world

def C_moved_by_1 : DE := (eLc (iSeq (eV 1)) (gN 3) eT (eBin dAdd (eW 3) (eW 2)) [3])
def M_moved_by : DS := (sSeq (sIf (eU dNot (eDef F_is_world (aCons (eV 0) (aCons (eV 1) aNil))))
  (sRaise "NoWorld")
  sNext)
  (sRet (eCall dTupOf (aCons C_moved_by_1 aNil))))
def F_moved_by : List D → R D := runF 4 3 M_moved_by

end Fc
set_option Elab.async false
set_option linter.all false
set_option maxRecDepth 100000
set_option maxHeartbeats 4000000

namespace Fc
open PySem L2 Evl PySem.Spec PyProof.Rows
def C_law_k21_1 : DE := (eLc (iArgs dZip (aCons (eV 5) (aCons (eV 6) aNil))) (gTupD 2 (gConsD (gN 20) (gConsD (gN 21) gNilD))) eT (eCall dMaxU (aCons (eW 20) (aCons (eW 21) aNil))) [20, 21])
def C_law_k21_2 : DE := (eLc (iArgs dZip (aCons (eV 5) (aCons (eV 6) aNil))) (gTupD 2 (gConsD (gN 20) (gConsD (gN 21) gNilD))) eT (eCall dMinU (aCons (eW 20) (aCons (eW 21) aNil))) [20, 21])
def C_law_k21_3 : DE := (eLc (iArgs dRng1 (aCons (eCall dLen (aCons (eW 2) aNil)) aNil)) (gN 12) (eBin dGt (eBin dIx (eW 11) (eW 12)) (eBin dIx (eW 9) (eW 12))) (eV 12) [12])
def B_law_k21_1 : DS := (sIf (eAnd (eBin dEq (eBin dIx (eBin dIx (eW 2) (eW 12)) (eC (.int 0))) (eBin dIx (eBin dIx (eW 2) (eBin dSub (eW 12) (eC (.int 1)))) (eC (.int 0)))) (eBin dLe (eBin dIx (eW 10) (eW 12)) (eBin dIx (eW 10) (eBin dSub (eW 12) (eC (.int 1))))))
  (sRet (eC (.bool false)))
  sNext)
def L_law_k21_1 : DS := (sFor (iArgs dRng2 (aCons (eC (.int 1)) (aCons (eCall dLen (aCons (eW 2) aNil)) aNil))) (gN 12) B_law_k21_1)
def B_law_k21_2 : DS := (sSeq (sAsg 17 (eMet dIndex (eW 2) (eW 15)))
  (sSeq (sAsg 18 (eBin dAdd (eBin dAdd (eBin dIx (eW 10) (eMet dIndex (eW 2) (eW 14))) (eW 16)) (eC (.int 1))))
  (sSeq (sAsg 19 (eBin dAdd (eBin dAdd (eSl dSl (eW 10) oNone (oSome (eV 17))) (eTup (aCons (eV 18) aNil))) (eSl dSl (eW 10) (oSome (eBin dAdd (eW 17) (eC (.int 1)))) oNone)))
  (sIf (eBin dNotIn (eW 13) (eDef F_broken (aCons (eV 1) (aCons (eV 19) aNil))))
  (sRet (eC (.bool false)))
  sNext))))
def L_law_k21_2 : DS := (sFor (iArgs dEnum (aCons (eV 3) aNil)) (gTupD 2 (gConsD (gN 13) (gConsD (gTupD 3 (gConsD (gN 14) (gConsD (gN 15) (gConsD (gN 16) gNilD)))) gNilD))) B_law_k21_2)
def B_law_k21_3 : DS := (sSeq (sIf (eOr (eU dNot (eDef F_is_world (aCons (eV 1) (aCons (eV 10) aNil)))) (eBin dNe (eDef F_broken (aCons (eV 1) (aCons (eV 10) aNil))) (eLst aNil)))
  (sRet (eC (.bool false)))
  sNext)
  (sSeq (sAsg 11 (eDef F_moved_by (aCons (eV 1) (aCons (eV 10) (aCons (eBin dSub (eC (.int 0)) (eCall dMaxU (aCons (eW 10) aNil))) aNil)))))
  (sSeq (sIf (eOr (eBin dNe C_law_k21_3 (eLst aNil)) (eU dNot (eDef F_is_world (aCons (eV 1) (aCons (eV 11) aNil)))))
  (sRet (eC (.bool false)))
  sNext)
  (sSeq L_law_k21_1
  L_law_k21_2))))
def L_law_k21_3 : DS := (sFor (iSeq (eTup (aCons (eV 5) (aCons (eV 6) (aCons (eV 7) (aCons (eV 8) (aCons (eV 9) aNil))))))) (gN 10) B_law_k21_3)
def M_law_k21 : DS := (sSeq (sAsg 1 (eDef F_law_record (aCons (eV 0) (aCons (eC (.int 0)) (aCons (eC (.int 5)) aNil)))))
  (sSeq (sAsg 2 (eDef F_events (aCons (eV 1) aNil)))
  (sSeq (sAsg 3 (eDef F_law_bounds (aCons (eV 1) aNil)))
  (sSeq (sAsg 4 (eDef F_law_table (aCons (eV 2) (aCons (eV 3) aNil))))
  (sSeq (sIf (eU dIsN (eW 4))
  (sRet (eAnd (eU dNot (eDef F_has_world (aCons (eV 1) aNil))) (eU dIsN (eDef F_world (aCons (eV 1) aNil)))))
  sNext)
  (sSeq (sAsg 5 (eDef F_law_drawn_world (aCons (eV 0) (aCons (eC (.int 80)) (aCons (eV 2) (aCons (eV 3) (aCons (eV 4) aNil)))))))
  (sSeq (sAsg 6 (eDef F_law_drawn_world (aCons (eV 0) (aCons (eC (.int 100)) (aCons (eV 2) (aCons (eV 3) (aCons (eV 4) aNil)))))))
  (sSeq (sAsg 7 (eCall dTupOf (aCons C_law_k21_1 aNil)))
  (sSeq (sAsg 8 (eCall dTupOf (aCons C_law_k21_2 aNil)))
  (sSeq (sAsg 9 (eDef F_world (aCons (eV 1) aNil)))
  (sSeq L_law_k21_3
  (sRet (eAnd (eBin dEq (eCall dMaxU (aCons (eW 9) aNil)) (eC (.int 0))) (eBin dEq (eDef F_moved_by (aCons (eV 1) (aCons (eDef F_moved_by (aCons (eV 1) (aCons (eV 5) (aCons (eC (.int 5)) aNil)))) (aCons (eU dNeg (eC (.int 5))) aNil)))) (eW 5)))))))))))))))
def F_law_k21 : List D → R D := runF 22 1 M_law_k21

end Fc
set_option Elab.async false
set_option linter.all false
set_option maxRecDepth 100000
set_option maxHeartbeats 4000000

namespace Wk
open PySem L2 Evl Fc PySem.Spec PyProof.Rows
def top (i : Nat) : Stmt := PySem.Challenge.pw_farclocks_k21_whole_worlds.main.body.getD i (.Pass ⟨0, 0, 0, 0⟩)
def dd_law_cell : He.DefD := ⟨("_law_cell", none), "_law_cell", "_law_cell", defArgs (top 34), defBody (top 34), defScope (top 34), [], []⟩
def dd_law_drawn : He.DefD := ⟨("_law_drawn", none), "_law_drawn", "_law_drawn", defArgs (top 35), defBody (top 35), defScope (top 35), [], []⟩
def dd_law_clock : He.DefD := ⟨("_law_clock", none), "_law_clock", "_law_clock", defArgs (top 36), defBody (top 36), defScope (top 36), [], []⟩
def dd_law_events : He.DefD := ⟨("_law_events", none), "_law_events", "_law_events", defArgs (top 38), defBody (top 38), defScope (top 38), [], []⟩
def dd_law_letter : He.DefD := ⟨("_law_letter", none), "_law_letter", "_law_letter", defArgs (top 37), defBody (top 37), defScope (top 37), [], []⟩
def dd_law_record : He.DefD := ⟨("_law_record", none), "_law_record", "_law_record", defArgs (top 39), defBody (top 39), defScope (top 39), [], []⟩
def dd_is_number : He.DefD := ⟨("is_number", none), "is_number", "is_number", defArgs (top 11), defBody (top 11), defScope (top 11), [], []⟩
def dd_is_clock : He.DefD := ⟨("is_clock", none), "is_clock", "is_clock", defArgs (top 12), defBody (top 12), defScope (top 12), [], []⟩
def dd_is_event : He.DefD := ⟨("is_event", none), "is_event", "is_event", defArgs (top 13), defBody (top 13), defScope (top 13), [], []⟩
def dd_is_letter : He.DefD := ⟨("is_letter", none), "is_letter", "is_letter", defArgs (top 14), defBody (top 14), defScope (top 14), [], []⟩
def dd_is_record : He.DefD := ⟨("is_record", none), "is_record", "is_record", defArgs (top 15), defBody (top 15), defScope (top 15), [], []⟩
def dd_need_record : He.DefD := ⟨("need_record", none), "need_record", "need_record", defArgs (top 16), defBody (top 16), defScope (top 16), [], []⟩
def dd_events : He.DefD := ⟨("events", none), "events", "events", defArgs (top 17), defBody (top 17), defScope (top 17), [], []⟩
def dd_law_bounds : He.DefD := ⟨("_law_bounds", none), "_law_bounds", "_law_bounds", defArgs (top 40), defBody (top 40), defScope (top 40), [], []⟩
def dd_law_table : He.DefD := ⟨("_law_table", none), "_law_table", "_law_table", defArgs (top 41), defBody (top 41), defScope (top 41), [], []⟩
def dd_settled : He.DefD := ⟨("settled", none), "settled", "settled", defArgs (top 28), defBody (top 28), defScope (top 28), [], []⟩
def dd_world_of : He.DefD := ⟨("world_of", none), "world_of", "world_of", defArgs (top 29), defBody (top 29), defScope (top 29), [], []⟩
def dd_clock_bounds : He.DefD := ⟨("clock_bounds", none), "clock_bounds", "clock_bounds", defArgs (top 19), defBody (top 19), defScope (top 19), [], []⟩
def dd_letter_bounds : He.DefD := ⟨("letter_bounds", none), "letter_bounds", "letter_bounds", defArgs (top 20), defBody (top 20), defScope (top 20), [], []⟩
def dd_bounds : He.DefD := ⟨("bounds", none), "bounds", "bounds", defArgs (top 21), defBody (top 21), defScope (top 21), [], []⟩
def dd_world : He.DefD := ⟨("world", none), "world", "world", defArgs (top 30), defBody (top 30), defScope (top 30), [], []⟩
def dd_has_world : He.DefD := ⟨("has_world", none), "has_world", "has_world", defArgs (top 31), defBody (top 31), defScope (top 31), [], []⟩
def dd_law_drawn_world : He.DefD := ⟨("_law_drawn_world", none), "_law_drawn_world", "_law_drawn_world", defArgs (top 43), defBody (top 43), defScope (top 43), [], []⟩
def dd_are_times : He.DefD := ⟨("are_times", none), "are_times", "are_times", defArgs (top 24), defBody (top 24), defScope (top 24), [], []⟩
def dd_by_events : He.DefD := ⟨("by_events", none), "by_events", "by_events", defArgs (top 23), defBody (top 23), defScope (top 23), [], []⟩
def dd_is_broken : He.DefD := ⟨("is_broken", none), "is_broken", "is_broken", defArgs (top 22), defBody (top 22), defScope (top 22), [], []⟩
def dd_broken : He.DefD := ⟨("broken", none), "broken", "broken", defArgs (top 25), defBody (top 25), defScope (top 25), [], []⟩
def dd_is_world : He.DefD := ⟨("is_world", none), "is_world", "is_world", defArgs (top 26), defBody (top 26), defScope (top 26), [], []⟩
def dd_moved_by : He.DefD := ⟨("moved_by", none), "moved_by", "moved_by", defArgs (top 32), defBody (top 32), defScope (top 32), [], []⟩
def dd_law : He.DefD := ⟨("law", none), "law", "law", defArgs (top 44), defBody (top 44), defScope (top 44), [], []⟩
def fn : List He.DefD := [dd_law_cell, dd_law_drawn, dd_law_clock, dd_law_events, dd_law_letter, dd_law_record, dd_is_number, dd_is_clock, dd_is_event, dd_is_letter, dd_is_record, dd_need_record, dd_events, dd_law_bounds, dd_law_table, dd_settled, dd_world_of, dd_clock_bounds, dd_letter_bounds, dd_bounds, dd_world, dd_has_world, dd_law_drawn_world, dd_are_times, dd_by_events, dd_is_broken, dd_broken, dd_is_world, dd_moved_by, dd_law]
def fa : List He.Fa := [.free "isinstance", .free "int", .free "bool", .free "tuple", .free "len", .int "MOST_RATE" 9, .int "MOST_READINGS" 4, .int "MOST_READING" 99, .free "all", .free "zip", .int "MOST_TIME" 999, .int "MOST_CLOCKS" 4, .int "MOST_LETTERS" 8, .exc "NoRecord", .glo "NoRecord", .free "enumerate", .free "range", .free "dict", .exc "NoWorld", .glo "NoWorld", .free "min", .free "max", .glo "_law_cell", .glo "_law_drawn", .glo "_law_clock", .glo "_law_events", .glo "_law_letter", .glo "_law_record", .glo "is_number", .glo "is_clock", .glo "is_event", .glo "is_letter", .glo "is_record", .glo "need_record", .glo "events", .glo "_law_bounds", .glo "_law_table", .glo "settled", .glo "world_of", .glo "clock_bounds", .glo "letter_bounds", .glo "bounds", .glo "world", .glo "has_world", .glo "_law_drawn_world", .glo "are_times", .glo "by_events", .glo "is_broken", .glo "broken", .glo "is_world", .glo "moved_by", .glo "law"]
def fx : List Fx := []
abbrev C0 (K : Fr) (mg : Str → Option Value) : Prop := Cc fa fn fx K mg
section
variable {P : Program} {w : World} {K : Fr} {mg : Str → Option Value} {base : Heap}
theorem sc_law_cell : FnScope ["_law_script", "_law_k"] ["_law_script", "_law_k"] (defScope (top 34)) := ⟨rfl, rfl, rfl, by decide +kernel, rfl, by decide +kernel, by decide +kernel⟩
theorem ok_law_cell (c : C0 K mg) : OkF P w K mg base 1 "_law_cell" ["_law_script", "_law_k"] F_law_cell := by
  obtain ⟨fdn, F⟩ := c.def_ 0
  refine ⟨fdn, fn_d F sc_law_cell fun cdv A outer s H E hr => ?_, F.bindsN (ps := ["_law_script", "_law_k"]) fun _ _ _ _ _ _ us hl => match us, hl with | [_, _], _ => rfl, c.glo 22, F.kp⟩
  have tk : Takes (cxOf (L2.CX P w) P w K mg base ["_law_script", "_law_k"] "_law_cell" (defScope (top 34)) (He.ga K "_law_cell") cdv A outer s H E) (fun cls d _ H => E cls d H) := takes_of rfl rfl rfl rfl
  have hp := passes_of (X := cxOf (L2.CX P w) P w K mg base ["_law_script", "_law_k"] "_law_cell" (defScope (top 34)) (He.ga K "_law_cell") cdv A outer s H E) rfl
  have hu := hr.u
  exact (sd_cons (sd_if (td_cmp (od_eq hu) cm_eq (nomark _) (bv 0) (fb (pf_lst af_nil)))
      (sd_one (sd_ret (pd_bin od_mul cm_mul (db pd_int) (bv 1))))
      sd_nil)
      (sd_one (sd_ret (pd_bin od_add cm_add (db (pd_ix (od_ix hu) cm_ix (fun _ _ => rfl) (bv 0) (db (pd_bin od_mod dI_calm (bv 1) (db (pd_callB cd_len cm_len rfl (c.free 4) (by decide +kernel) (aw_cons (bv 0) aw_nil))))))) (db (pd_bin od_mul cm_mul (db pd_int) (db (pd_bin od_fdiv dI_calm (bv 1) (db (pd_callB cd_len cm_len rfl (c.free 4) (by decide +kernel) (aw_cons (bv 0) aw_nil)))))))))))
theorem sc_law_drawn : FnScope ["_law_script", "_law_k", "_law_many", "_law_cell_here"] ["_law_script", "_law_k", "_law_many"] (defScope (top 35)) := ⟨rfl, rfl, rfl, by decide +kernel, rfl, by decide +kernel, by decide +kernel⟩
theorem ok_law_drawn (c : C0 K mg) : OkF P w K mg base 2 "_law_drawn" ["_law_script", "_law_k", "_law_many"] F_law_drawn := by
  obtain ⟨fdn, F⟩ := c.def_ 1
  refine ⟨fdn, fn_d F sc_law_drawn fun cdv A outer s H E hr => ?_, F.bindsN (ps := ["_law_script", "_law_k", "_law_many"]) fun _ _ _ _ _ _ us hl => match us, hl with | [_, _, _], _ => rfl, c.glo 23, F.kp⟩
  have tk : Takes (cxOf (L2.CX P w) P w K mg base ["_law_script", "_law_k", "_law_many", "_law_cell_here"] "_law_drawn" (defScope (top 35)) (He.ga K "_law_drawn") cdv A outer s H E) (fun cls d _ H => E cls d H) := takes_of rfl rfl rfl rfl
  have hp := passes_of (X := cxOf (L2.CX P w) P w K mg base ["_law_script", "_law_k", "_law_many", "_law_cell_here"] "_law_drawn" (defScope (top 35)) (He.ga K "_law_drawn") cdv A outer s H E) rfl
  have hu := hr.u
  exact (sd_cons (sd_set sc_law_drawn.nd rfl (.inl rfl) (pd_bin od_mod dI_calm (db (pd_bin od_add cm_add (db (pd_bin od_mul cm_mul (db (pd_bin od_mod dI_calm (db (pd_ok (ok_law_cell c) tk (hr.mono (by decide)) rfl (aCons_len (aCons_len aNil_len)) (af_cons (dv 0) (af_cons (dv 1) af_nil)))) (db pd_int))) (db pd_int))) (db (pd_bin od_mul cm_mul (db pd_int) (db (pd_bin od_add cm_add (bv 1) (db pd_int))))))) (db pd_int)))
      (sd_cons (sd_set sc_law_drawn.nd rfl (.inl rfl) (pd_bin od_mod dI_calm (db (pd_bin od_add cm_add (db (pd_bin od_mul cm_mul (bv 3) (bv 3))) (db (pd_bin od_fdiv dI_calm (bv 3) (db pd_int))))) (db pd_int)))
      (sd_one (sd_ret (pd_bin od_mod dI_calm (db (pd_bin od_fdiv dI_calm (db (pd_bin od_mod dI_calm (db (pd_bin od_add cm_add (db (pd_bin od_mul cm_mul (bv 3) (bv 3))) (db (pd_bin od_fdiv dI_calm (bv 3) (db pd_int))))) (db pd_int))) (db pd_int))) (bv 2))))))
theorem sc_law_clock : FnScope ["_law_script", "_law_at", "_law_slow", "_law_readings", "_law_k"] ["_law_script", "_law_at"] (defScope (top 36)) := ⟨rfl, rfl, rfl, by decide +kernel, rfl, by decide +kernel, by decide +kernel⟩
theorem ok_law_clock (c : C0 K mg) : OkF P w K mg base 3 "_law_clock" ["_law_script", "_law_at"] F_law_clock := by
  obtain ⟨fdn, F⟩ := c.def_ 2
  refine ⟨fdn, fn_d F sc_law_clock fun cdv A outer s H E hr => ?_, F.bindsN (ps := ["_law_script", "_law_at"]) fun _ _ _ _ _ _ us hl => match us, hl with | [_, _], _ => rfl, c.glo 24, F.kp⟩
  have tk : Takes (cxOf (L2.CX P w) P w K mg base ["_law_script", "_law_at", "_law_slow", "_law_readings", "_law_k"] "_law_clock" (defScope (top 36)) (He.ga K "_law_clock") cdv A outer s H E) (fun cls d _ H => E cls d H) := takes_of rfl rfl rfl rfl
  have hp := passes_of (X := cxOf (L2.CX P w) P w K mg base ["_law_script", "_law_at", "_law_slow", "_law_readings", "_law_k"] "_law_clock" (defScope (top 36)) (He.ga K "_law_clock") cdv A outer s H E) rfl
  have hu := hr.u
  exact (sd_cons (sd_set sc_law_clock.nd rfl (.inl rfl) (pd_bin od_add cm_add (db pd_int) (db (pd_ok (ok_law_drawn c) tk (hr.mono (by decide)) rfl (aCons_len (aCons_len (aCons_len aNil_len))) (af_cons (dv 0) (af_cons (dv 1) (af_cons pd_int af_nil)))))))
      (sd_cons (sd_set sc_law_clock.nd rfl (.inl rfl) (pd_tup (af_cons (pd_ok (ok_law_drawn c) tk (hr.mono (by decide)) rfl (aCons_len (aCons_len (aCons_len aNil_len))) (af_cons (dv 0) (af_cons (pd_bin od_add cm_add (bv 1) (db pd_int)) (af_cons pd_int af_nil)))) af_nil)))
      (sd_cons (sd_for hp rfl (id_rng1 rfl (c.free 16) (aw_cons (db (pd_ok (ok_law_drawn c) tk (hr.mono (by decide)) rfl (aCons_len (aCons_len (aCons_len aNil_len))) (af_cons (dv 0) (af_cons (pd_bin od_add cm_add (bv 1) (db pd_int)) (af_cons pd_int af_nil))))) aw_nil)) (gd_name sc_law_clock.nd rfl (.inl rfl))
      (sd_one (sd_set sc_law_clock.nd rfl (.inl rfl) (pd_bin od_add cm_add (bv 3) (db (pd_tup (af_cons (pd_bin od_add cm_add (db (pd_bin od_add cm_add (db (pd_ix (od_ix hu) cm_ix (fun _ _ => rfl) (bv 3) (db (pd_neg (db pd_int))))) (db pd_int))) (db (pd_ok (ok_law_drawn c) tk (hr.mono (by decide)) rfl (aCons_len (aCons_len (aCons_len aNil_len))) (af_cons (dv 0) (af_cons (pd_bin od_add cm_add (db (pd_bin od_add cm_add (bv 1) (db pd_int))) (bv 4)) (af_cons pd_int af_nil)))))) af_nil)))))))
      (sd_one (sd_ret (pd_tup (af_cons (dv 2) (af_cons (pd_bin od_add cm_add (bv 2) (db (pd_ok (ok_law_drawn c) tk (hr.mono (by decide)) rfl (aCons_len (aCons_len (aCons_len aNil_len))) (af_cons (dv 0) (af_cons (pd_bin od_add cm_add (bv 1) (db pd_int)) (af_cons pd_int af_nil)))))) (af_cons (dv 3) af_nil)))))))))
theorem sc_law_events : FnScope ["_law_clocks", "_law_found", "_law_number", "_law_clock_here", "_law_place"] ["_law_clocks"] (defScope (top 38)) := ⟨rfl, rfl, rfl, by decide +kernel, rfl, by decide +kernel, by decide +kernel⟩
theorem ok_law_events (c : C0 K mg) : OkF P w K mg base 1 "_law_events" ["_law_clocks"] F_law_events := by
  obtain ⟨fdn, F⟩ := c.def_ 3
  refine ⟨fdn, fn_d F sc_law_events fun cdv A outer s H E hr => ?_, F.bindsN (ps := ["_law_clocks"]) fun _ _ _ _ _ _ us hl => match us, hl with | [_], _ => rfl, c.glo 25, F.kp⟩
  have tk : Takes (cxOf (L2.CX P w) P w K mg base ["_law_clocks", "_law_found", "_law_number", "_law_clock_here", "_law_place"] "_law_events" (defScope (top 38)) (He.ga K "_law_events") cdv A outer s H E) (fun cls d _ H => E cls d H) := takes_of rfl rfl rfl rfl
  have hp := passes_of (X := cxOf (L2.CX P w) P w K mg base ["_law_clocks", "_law_found", "_law_number", "_law_clock_here", "_law_place"] "_law_events" (defScope (top 38)) (He.ga K "_law_events") cdv A outer s H E) rfl
  have hu := hr.u
  exact (sd_cons (sd_set sc_law_events.nd rfl (.inl rfl) (fd (pf_lst af_nil)))
      (sd_cons (sd_for hp rfl (id_enum rfl (c.free 15) (af_cons (dv 0) af_nil)) (gd_tup rfl (gds_cons (gd_name sc_law_events.nd rfl (.inr rfl)) (gds_cons (gd_name sc_law_events.nd rfl (.inl rfl)) gds_nil)))
      (sd_one (sd_set sc_law_events.nd rfl (.inl rfl) (pd_bin od_add cm_add (bv 1) (fb (pf_lc (own := [("_law_place", 4)]) rfl sc_law_events.nd (id_rng1 rfl (c.free 16) (aw_cons (db (pd_callB cd_len cm_len rfl (c.free 4) (by decide +kernel) (aw_cons (db (pd_ix (od_ix hu) cm_ix (fun _ _ => rfl) (bv 3) (db pd_int))) aw_nil))) aw_nil)) (blkOk_by (own := [("_law_place", 4)]) (by show blkC ["_law_clocks", "_law_found", "_law_number", "_law_clock_here", "_law_place"] (defScope (top 38)) _ _ = true; decide +kernel)) (fun _ _ _ _ _ => (gd_name sc_law_events.nd rfl (.inl rfl))) (fun _ _ _ _ _ => tds_nil) (fun _ _ _ _ _ => (pd_tup (af_cons (dv 2) (af_cons (dv 4) af_nil))))))))))
      (sd_one (sd_ret (dv 1)))))
theorem sc_law_letter : FnScope ["_law_script", "_law_at", "_law_clocks", "_law_row", "_law_place", "_law_other", "_law_least", "_law_most"] ["_law_script", "_law_at", "_law_clocks"] (defScope (top 37)) := ⟨rfl, rfl, rfl, by decide +kernel, rfl, by decide +kernel, by decide +kernel⟩
theorem ok_law_letter (c : C0 K mg) : OkF P w K mg base 3 "_law_letter" ["_law_script", "_law_at", "_law_clocks"] F_law_letter := by
  obtain ⟨fdn, F⟩ := c.def_ 4
  refine ⟨fdn, fn_d F sc_law_letter fun cdv A outer s H E hr => ?_, F.bindsN (ps := ["_law_script", "_law_at", "_law_clocks"]) fun _ _ _ _ _ _ us hl => match us, hl with | [_, _, _], _ => rfl, c.glo 26, F.kp⟩
  have tk : Takes (cxOf (L2.CX P w) P w K mg base ["_law_script", "_law_at", "_law_clocks", "_law_row", "_law_place", "_law_other", "_law_least", "_law_most"] "_law_letter" (defScope (top 37)) (He.ga K "_law_letter") cdv A outer s H E) (fun cls d _ H => E cls d H) := takes_of rfl rfl rfl rfl
  have hp := passes_of (X := cxOf (L2.CX P w) P w K mg base ["_law_script", "_law_at", "_law_clocks", "_law_row", "_law_place", "_law_other", "_law_least", "_law_most"] "_law_letter" (defScope (top 37)) (He.ga K "_law_letter") cdv A outer s H E) rfl
  have hu := hr.u
  exact (sd_cons (sd_set sc_law_letter.nd rfl (.inl rfl) (pd_ok (ok_law_events c) tk (hr.mono (by decide)) rfl (aCons_len aNil_len) (af_cons (dv 2) af_nil)))
      (sd_cons (sd_if (td_cmp od_lt dI_calm (nomark _) (db (pd_callB cd_len cm_len rfl (c.free 4) (by decide +kernel) (aw_cons (bv 3) aw_nil))) (db pd_int))
      (sd_one (sd_ret pd_non))
      sd_nil)
      (sd_cons (sd_set sc_law_letter.nd rfl (.inl rfl) (pd_ok (ok_law_drawn c) tk (hr.mono (by decide)) rfl (aCons_len (aCons_len (aCons_len aNil_len))) (af_cons (dv 0) (af_cons (dv 1) (af_cons (pd_callB cd_len cm_len rfl (c.free 4) (by decide +kernel) (aw_cons (bv 3) aw_nil)) af_nil)))))
      (sd_cons (sd_set sc_law_letter.nd rfl (.inl rfl) (pd_bin od_mod dI_calm (db (pd_bin od_add cm_add (db (pd_bin od_add cm_add (bv 4) (db pd_int))) (db (pd_ok (ok_law_drawn c) tk (hr.mono (by decide)) rfl (aCons_len (aCons_len (aCons_len aNil_len))) (af_cons (dv 0) (af_cons (pd_bin od_add cm_add (bv 1) (db pd_int)) (af_cons (pd_bin od_sub dI_calm (db (pd_callB cd_len cm_len rfl (c.free 4) (by decide +kernel) (aw_cons (bv 3) aw_nil))) (db pd_int)) af_nil))))))) (db (pd_callB cd_len cm_len rfl (c.free 4) (by decide +kernel) (aw_cons (bv 3) aw_nil)))))
      (sd_cons (sd_set sc_law_letter.nd rfl (.inl rfl) (pd_ok (ok_law_drawn c) tk (hr.mono (by decide)) rfl (aCons_len (aCons_len (aCons_len aNil_len))) (af_cons (dv 0) (af_cons (pd_bin od_add cm_add (bv 1) (db pd_int)) (af_cons pd_int af_nil)))))
      (sd_cons (sd_set sc_law_letter.nd rfl (.inl rfl) (pd_if (td_cmp (od_eq hu) cm_eq (nomark _) (db (pd_ok (ok_law_drawn c) tk (hr.mono (by decide)) rfl (aCons_len (aCons_len (aCons_len aNil_len))) (af_cons (dv 0) (af_cons (pd_bin od_add cm_add (bv 1) (db pd_int)) (af_cons pd_int af_nil))))) (db pd_int)) pd_non (pd_bin od_add cm_add (bv 6) (db (pd_ok (ok_law_drawn c) tk (hr.mono (by decide)) rfl (aCons_len (aCons_len (aCons_len aNil_len))) (af_cons (dv 0) (af_cons (pd_bin od_add cm_add (bv 1) (db pd_int)) (af_cons pd_int af_nil))))))))
      (sd_one (sd_ret (pd_tup (af_cons (pd_ix (od_ix hu) cm_ix (fun _ _ => rfl) (bv 3) (bv 4)) (af_cons (pd_ix (od_ix hu) cm_ix (fun _ _ => rfl) (bv 3) (bv 5)) (af_cons (dv 6) (af_cons (dv 7) af_nil)))))))))))))
theorem sc_law_record : FnScope ["_law_script", "_law_at", "_law_most", "_law_clocks", "_law_letters", "_law_k", "_law_letter_here"] ["_law_script", "_law_at", "_law_most"] (defScope (top 39)) := ⟨rfl, rfl, rfl, by decide +kernel, rfl, by decide +kernel, by decide +kernel⟩
theorem ok_law_record (c : C0 K mg) : OkF P w K mg base 4 "_law_record" ["_law_script", "_law_at", "_law_most"] F_law_record := by
  obtain ⟨fdn, F⟩ := c.def_ 5
  refine ⟨fdn, fn_d F sc_law_record fun cdv A outer s H E hr => ?_, F.bindsN (ps := ["_law_script", "_law_at", "_law_most"]) fun _ _ _ _ _ _ us hl => match us, hl with | [_, _, _], _ => rfl, c.glo 27, F.kp⟩
  have tk : Takes (cxOf (L2.CX P w) P w K mg base ["_law_script", "_law_at", "_law_most", "_law_clocks", "_law_letters", "_law_k", "_law_letter_here"] "_law_record" (defScope (top 39)) (He.ga K "_law_record") cdv A outer s H E) (fun cls d _ H => E cls d H) := takes_of rfl rfl rfl rfl
  have hp := passes_of (X := cxOf (L2.CX P w) P w K mg base ["_law_script", "_law_at", "_law_most", "_law_clocks", "_law_letters", "_law_k", "_law_letter_here"] "_law_record" (defScope (top 39)) (He.ga K "_law_record") cdv A outer s H E) rfl
  have hu := hr.u
  exact (sd_cons (sd_set sc_law_record.nd rfl (.inl rfl) (pd_callTy cd_tup cm_tup rfl (c.free 3) (by decide +kernel) (aw_cons (fb (pf_lc (own := [("_law_k", 5)]) rfl sc_law_record.nd (id_rng1 rfl (c.free 16) (aw_cons (db (pd_bin od_add cm_add (db pd_int) (db (pd_ok (ok_law_drawn c) tk (hr.mono (by decide)) rfl (aCons_len (aCons_len (aCons_len aNil_len))) (af_cons (dv 0) (af_cons (dv 1) (af_cons pd_int af_nil))))))) aw_nil)) (blkOk_by (own := [("_law_k", 5)]) (by show blkC ["_law_script", "_law_at", "_law_most", "_law_clocks", "_law_letters", "_law_k", "_law_letter_here"] (defScope (top 39)) _ _ = true; decide +kernel)) (fun _ _ _ _ _ => (gd_name sc_law_record.nd rfl (.inl rfl))) (fun _ _ _ _ _ => tds_nil) (fun _ _ _ _ _ => (pd_ok (ok_law_clock c) takes0 (hr.mono (by decide)) rfl (aCons_len (aCons_len aNil_len)) (af_cons (dv 0) (af_cons (pd_bin od_add cm_add (db (pd_bin od_add cm_add (bv 1) (db pd_int))) (db (pd_bin od_mul cm_mul (db pd_int) (bv 5)))) af_nil)))))) aw_nil)))
      (sd_cons (sd_set sc_law_record.nd rfl (.inl rfl) (fd (pf_lst af_nil)))
      (sd_cons (sd_for hp rfl (id_rng1 rfl (c.free 16) (aw_cons (db (pd_ok (ok_law_drawn c) tk (hr.mono (by decide)) rfl (aCons_len (aCons_len (aCons_len aNil_len))) (af_cons (dv 0) (af_cons (pd_bin od_add cm_add (bv 1) (db pd_int)) (af_cons (pd_bin od_add cm_add (bv 2) (db pd_int)) af_nil))))) aw_nil)) (gd_name sc_law_record.nd rfl (.inl rfl))
      (sd_cons (sd_set sc_law_record.nd rfl (.inl rfl) (pd_ok (ok_law_letter c) tk (hr.mono (by decide)) rfl (aCons_len (aCons_len (aCons_len aNil_len))) (af_cons (dv 0) (af_cons (pd_bin od_add cm_add (db (pd_bin od_add cm_add (bv 1) (db pd_int))) (db (pd_bin od_mul cm_mul (db pd_int) (bv 5)))) (af_cons (dv 3) af_nil)))))
      (sd_one (sd_set sc_law_record.nd rfl (.inl rfl) (pd_bin od_add cm_add (bv 4) (db (pd_bin od_mul cm_mul (fb (pf_lst (af_cons (dv 6) af_nil))) (db (pd_callTy cd_int cm_int rfl (c.free 1) (by decide +kernel) (aw_cons (db (pd_notN (bv 6))) aw_nil))))))))))
      (sd_one (sd_ret (pd_tup (af_cons (dv 3) (af_cons (pd_callTy cd_tup cm_tup rfl (c.free 3) (by decide +kernel) (aw_cons (bv 4) aw_nil)) af_nil))))))))
theorem sc_is_number : FnScope ["thing", "low", "high"] ["thing", "low", "high"] (defScope (top 11)) := ⟨rfl, rfl, rfl, by decide +kernel, rfl, by decide +kernel, by decide +kernel⟩
theorem ok_is_number (c : C0 K mg) : OkF P w K mg base 1 "is_number" ["thing", "low", "high"] F_is_number := by
  obtain ⟨fdn, F⟩ := c.def_ 6
  refine ⟨fdn, fn_d F sc_is_number fun cdv A outer s H E hr => ?_, F.bindsN (ps := ["thing", "low", "high"]) fun _ _ _ _ _ _ us hl => match us, hl with | [_, _, _], _ => rfl, c.glo 28, F.kp⟩
  have tk : Takes (cxOf (L2.CX P w) P w K mg base ["thing", "low", "high"] "is_number" (defScope (top 11)) (He.ga K "is_number") cdv A outer s H E) (fun cls d _ H => E cls d H) := takes_of rfl rfl rfl rfl
  have hp := passes_of (X := cxOf (L2.CX P w) P w K mg base ["thing", "low", "high"] "is_number" (defScope (top 11)) (He.ga K "is_number") cdv A outer s H E) rfl
  have hu := hr.u
  exact (sd_one (sd_ret (pd_and (pd_isI (Ts := "int") (eW 0) (by decide) rfl (c.free 0) rfl (c.free 1) (by decide +kernel) (bv 0)) (pd_and (pd_not (pd_isI (Ts := "bool") (eW 0) (by decide) rfl (c.free 0) rfl (c.free 2) (by decide +kernel) (bv 0))) (pd_one (pd_chain od_le od_le dI_calm dI_calm (bv 1) (bv 0) (bv 2)))))))
theorem sc_is_clock : FnScope ["thing", "readings", "one", "other"] ["thing"] (defScope (top 12)) := ⟨rfl, rfl, rfl, by decide +kernel, rfl, by decide +kernel, by decide +kernel⟩
theorem ok_is_clock (c : C0 K mg) : OkF P w K mg base 2 "is_clock" ["thing"] F_is_clock := by
  obtain ⟨fdn, F⟩ := c.def_ 7
  refine ⟨fdn, fn_d F sc_is_clock fun cdv A outer s H E hr => ?_, F.bindsN (ps := ["thing"]) fun _ _ _ _ _ _ us hl => match us, hl with | [_], _ => rfl, c.glo 29, F.kp⟩
  have tk : Takes (cxOf (L2.CX P w) P w K mg base ["thing", "readings", "one", "other"] "is_clock" (defScope (top 12)) (He.ga K "is_clock") cdv A outer s H E) (fun cls d _ H => E cls d H) := takes_of rfl rfl rfl rfl
  have hp := passes_of (X := cxOf (L2.CX P w) P w K mg base ["thing", "readings", "one", "other"] "is_clock" (defScope (top 12)) (He.ga K "is_clock") cdv A outer s H E) rfl
  have hu := hr.u
  exact (sd_cons (sd_if (PW.pt (wd_or (td_not (td (pd_isI (Ts := "tuple") (eW 0) (by decide) rfl (c.free 0) rfl (c.free 3) (by decide +kernel) (bv 0)))) (wd_or (td_cmp (od_ne hu) cm_ne (nomark _) (db (pd_callB cd_len cm_len rfl (c.free 4) (by decide +kernel) (aw_cons (bv 0) aw_nil))) (db pd_int)) (wd_or1 (td_not (td (pd_ok (ok_is_number c) tk (hr.mono (by decide)) rfl (aCons_len (aCons_len (aCons_len aNil_len))) (af_cons (pd_ix (od_ix hu) cm_ix (fun _ _ => rfl) (bv 0) (db pd_int)) (af_cons pd_int (af_cons (pd_gint rfl (c.int 5)) af_nil))))))))))
      (sd_one (sd_ret pd_bl))
      sd_nil)
      (sd_cons (sd_if (PW.pt (wd_or (td_not (td (pd_ok (ok_is_number c) tk (hr.mono (by decide)) rfl (aCons_len (aCons_len (aCons_len aNil_len))) (af_cons (pd_ix (od_ix hu) cm_ix (fun _ _ => rfl) (bv 0) (db pd_int)) (af_cons (pd_ix (od_ix hu) cm_ix (fun _ _ => rfl) (bv 0) (db pd_int)) (af_cons (pd_gint rfl (c.int 5)) af_nil)))))) (wd_or1 (td_not (td (pd_isI (Ts := "tuple") (eBin dIx (eW 0) (eC (.int 2))) (by decide) rfl (c.free 0) rfl (c.free 3) (by decide +kernel) (db (pd_ix (od_ix hu) cm_ix (fun _ _ => rfl) (bv 0) (db pd_int)))))))))
      (sd_one (sd_ret pd_bl))
      sd_nil)
      (sd_cons (sd_set sc_is_clock.nd rfl (.inl rfl) (pd_ix (od_ix hu) cm_ix (fun _ _ => rfl) (bv 0) (db pd_int)))
      (sd_cons (sd_if (PW.pt (wd_or (td_not (td_chain od_le od_le dI_calm dI_calm (db pd_int) (db (pd_callB cd_len cm_len rfl (c.free 4) (by decide +kernel) (aw_cons (bv 1) aw_nil))) (db (pd_gint rfl (c.int 6))))) (wd_or1 (td_not (td (pd_callB (cd_all rfl) cm_all rfl (c.free 8) (by decide +kernel) (aw_cons (fb (pf_lc (own := [("one", 2)]) rfl sc_is_clock.nd (id_seq (dv 1)) (blkOk_by (own := [("one", 2)]) (by show blkC ["thing", "readings", "one", "other"] (defScope (top 12)) _ _ = true; decide +kernel)) (fun _ _ _ _ _ => (gd_name sc_is_clock.nd rfl (.inl rfl))) (fun _ _ _ _ _ => tds_nil) (fun _ _ _ _ _ => (pd_ok (ok_is_number c) takes0 (hr.mono (by decide)) rfl (aCons_len (aCons_len (aCons_len aNil_len))) (af_cons (dv 2) (af_cons pd_int (af_cons (pd_gint rfl (c.int 7)) af_nil))))))) aw_nil)))))))
      (sd_one (sd_ret pd_bl))
      sd_nil)
      (sd_one (sd_ret (pd_callB (cd_all rfl) cm_all rfl (c.free 8) (by decide +kernel) (aw_cons (fb (pf_lc (own := [("one", 2), ("other", 3)]) rfl sc_is_clock.nd (id_zip rfl (c.free 9) (af_cons (dv 1) (af_cons (pd_sl sl_any cm_sl (bv 1) (pod_some pd_int) pod_none) af_nil))) (blkOk_by (own := [("one", 2), ("other", 3)]) (by show blkC ["thing", "readings", "one", "other"] (defScope (top 12)) _ _ = true; decide +kernel)) (fun _ _ _ _ _ => (gd_tup rfl (gds_cons (gd_name sc_is_clock.nd rfl (.inl rfl)) (gds_cons (gd_name sc_is_clock.nd rfl (.inl rfl)) gds_nil)))) (fun _ _ _ _ _ => tds_nil) (fun _ _ _ _ _ => (pd_cmp od_lt dI_calm (nomark _) (bv 2) (bv 3))))) aw_nil))))))))
theorem sc_is_event : FnScope ["clocks", "thing"] ["clocks", "thing"] (defScope (top 13)) := ⟨rfl, rfl, rfl, by decide +kernel, rfl, by decide +kernel, by decide +kernel⟩
theorem ok_is_event (c : C0 K mg) : OkF P w K mg base 2 "is_event" ["clocks", "thing"] F_is_event := by
  obtain ⟨fdn, F⟩ := c.def_ 8
  refine ⟨fdn, fn_d F sc_is_event fun cdv A outer s H E hr => ?_, F.bindsN (ps := ["clocks", "thing"]) fun _ _ _ _ _ _ us hl => match us, hl with | [_, _], _ => rfl, c.glo 30, F.kp⟩
  have tk : Takes (cxOf (L2.CX P w) P w K mg base ["clocks", "thing"] "is_event" (defScope (top 13)) (He.ga K "is_event") cdv A outer s H E) (fun cls d _ H => E cls d H) := takes_of rfl rfl rfl rfl
  have hp := passes_of (X := cxOf (L2.CX P w) P w K mg base ["clocks", "thing"] "is_event" (defScope (top 13)) (He.ga K "is_event") cdv A outer s H E) rfl
  have hu := hr.u
  exact (sd_cons (sd_if (PW.pt (wd_or (td_not (td (pd_isI (Ts := "tuple") (eW 1) (by decide) rfl (c.free 0) rfl (c.free 3) (by decide +kernel) (bv 1)))) (wd_or (td_cmp (od_ne hu) cm_ne (nomark _) (db (pd_callB cd_len cm_len rfl (c.free 4) (by decide +kernel) (aw_cons (bv 1) aw_nil))) (db pd_int)) (wd_or1 (td_not (td (pd_ok (ok_is_number c) tk (hr.mono (by decide)) rfl (aCons_len (aCons_len (aCons_len aNil_len))) (af_cons (pd_ix (od_ix hu) cm_ix (fun _ _ => rfl) (bv 1) (db pd_int)) (af_cons pd_int (af_cons (pd_bin od_sub dI_calm (db (pd_callB cd_len cm_len rfl (c.free 4) (by decide +kernel) (aw_cons (bv 0) aw_nil))) (db pd_int)) af_nil))))))))))
      (sd_one (sd_ret pd_bl))
      sd_nil)
      (sd_one (sd_ret (pd_ok (ok_is_number c) tk (hr.mono (by decide)) rfl (aCons_len (aCons_len (aCons_len aNil_len))) (af_cons (pd_ix (od_ix hu) cm_ix (fun _ _ => rfl) (bv 1) (db pd_int)) (af_cons pd_int (af_cons (pd_bin od_sub dI_calm (db (pd_callB cd_len cm_len rfl (c.free 4) (by decide +kernel) (aw_cons (db (pd_ix (od_ix hu) cm_ix (fun _ _ => rfl) (db (pd_ix (od_ix hu) cm_ix (fun _ _ => rfl) (bv 0) (db (pd_ix (od_ix hu) cm_ix (fun _ _ => rfl) (bv 1) (db pd_int))))) (db pd_int))) aw_nil))) (db pd_int)) af_nil)))))))
theorem sc_is_letter : FnScope ["clocks", "thing"] ["clocks", "thing"] (defScope (top 14)) := ⟨rfl, rfl, rfl, by decide +kernel, rfl, by decide +kernel, by decide +kernel⟩
theorem ok_is_letter (c : C0 K mg) : OkF P w K mg base 3 "is_letter" ["clocks", "thing"] F_is_letter := by
  obtain ⟨fdn, F⟩ := c.def_ 9
  refine ⟨fdn, fn_d F sc_is_letter fun cdv A outer s H E hr => ?_, F.bindsN (ps := ["clocks", "thing"]) fun _ _ _ _ _ _ us hl => match us, hl with | [_, _], _ => rfl, c.glo 31, F.kp⟩
  have tk : Takes (cxOf (L2.CX P w) P w K mg base ["clocks", "thing"] "is_letter" (defScope (top 14)) (He.ga K "is_letter") cdv A outer s H E) (fun cls d _ H => E cls d H) := takes_of rfl rfl rfl rfl
  have hp := passes_of (X := cxOf (L2.CX P w) P w K mg base ["clocks", "thing"] "is_letter" (defScope (top 14)) (He.ga K "is_letter") cdv A outer s H E) rfl
  have hu := hr.u
  exact (sd_cons (sd_if (PW.pt (wd_or (td_not (td (pd_isI (Ts := "tuple") (eW 1) (by decide) rfl (c.free 0) rfl (c.free 3) (by decide +kernel) (bv 1)))) (wd_or (td_cmp (od_ne hu) cm_ne (nomark _) (db (pd_callB cd_len cm_len rfl (c.free 4) (by decide +kernel) (aw_cons (bv 1) aw_nil))) (db pd_int)) (wd_or1 (td_not (td (pd_ok (ok_is_number c) tk (hr.mono (by decide)) rfl (aCons_len (aCons_len (aCons_len aNil_len))) (af_cons (pd_ix (od_ix hu) cm_ix (fun _ _ => rfl) (bv 1) (db pd_int)) (af_cons pd_int (af_cons (pd_gint rfl (c.int 10)) af_nil))))))))))
      (sd_one (sd_ret pd_bl))
      sd_nil)
      (sd_cons (sd_if (PW.pt (wd_or (td_not (td (pd_ok (ok_is_event c) tk (hr.mono (by decide)) rfl (aCons_len (aCons_len aNil_len)) (af_cons (dv 0) (af_cons (pd_ix (od_ix hu) cm_ix (fun _ _ => rfl) (bv 1) (db pd_int)) af_nil))))) (wd_or (td_not (td (pd_ok (ok_is_event c) tk (hr.mono (by decide)) rfl (aCons_len (aCons_len aNil_len)) (af_cons (dv 0) (af_cons (pd_ix (od_ix hu) cm_ix (fun _ _ => rfl) (bv 1) (db pd_int)) af_nil))))) (wd_or1 (td_cmp (od_eq hu) cm_eq (nomark _) (db (pd_ix (od_ix hu) cm_ix (fun _ _ => rfl) (bv 1) (db pd_int))) (db (pd_ix (od_ix hu) cm_ix (fun _ _ => rfl) (bv 1) (db pd_int))))))))
      (sd_one (sd_ret pd_bl))
      sd_nil)
      (sd_one (sd_ret (pd_or (pd_isN (db (pd_ix (od_ix hu) cm_ix (fun _ _ => rfl) (bv 1) (db pd_int)))) (pd_one (pd_ok (ok_is_number c) tk (hr.mono (by decide)) rfl (aCons_len (aCons_len (aCons_len aNil_len))) (af_cons (pd_ix (od_ix hu) cm_ix (fun _ _ => rfl) (bv 1) (db pd_int)) (af_cons (pd_ix (od_ix hu) cm_ix (fun _ _ => rfl) (bv 1) (db pd_int)) (af_cons (pd_gint rfl (c.int 10)) af_nil))))))))))
theorem sc_is_record : FnScope ["thing", "one"] ["thing"] (defScope (top 15)) := ⟨rfl, rfl, rfl, by decide +kernel, rfl, by decide +kernel, by decide +kernel⟩
theorem ok_is_record (c : C0 K mg) : OkF P w K mg base 4 "is_record" ["thing"] F_is_record := by
  obtain ⟨fdn, F⟩ := c.def_ 10
  refine ⟨fdn, fn_d F sc_is_record fun cdv A outer s H E hr => ?_, F.bindsN (ps := ["thing"]) fun _ _ _ _ _ _ us hl => match us, hl with | [_], _ => rfl, c.glo 32, F.kp⟩
  have tk : Takes (cxOf (L2.CX P w) P w K mg base ["thing", "one"] "is_record" (defScope (top 15)) (He.ga K "is_record") cdv A outer s H E) (fun cls d _ H => E cls d H) := takes_of rfl rfl rfl rfl
  have hp := passes_of (X := cxOf (L2.CX P w) P w K mg base ["thing", "one"] "is_record" (defScope (top 15)) (He.ga K "is_record") cdv A outer s H E) rfl
  have hu := hr.u
  exact (sd_cons (sd_if (PW.pt (wd_or (td_not (td (pd_isI (Ts := "tuple") (eW 0) (by decide) rfl (c.free 0) rfl (c.free 3) (by decide +kernel) (bv 0)))) (wd_or (td_cmp (od_ne hu) cm_ne (nomark _) (db (pd_callB cd_len cm_len rfl (c.free 4) (by decide +kernel) (aw_cons (bv 0) aw_nil))) (db pd_int)) (wd_or1 (td_not (td (pd_isI (Ts := "tuple") (eBin dIx (eW 0) (eC (.int 0))) (by decide) rfl (c.free 0) rfl (c.free 3) (by decide +kernel) (db (pd_ix (od_ix hu) cm_ix (fun _ _ => rfl) (bv 0) (db pd_int))))))))))
      (sd_one (sd_ret pd_bl))
      sd_nil)
      (sd_cons (sd_if (PW.pt (wd_or (td_not (td_chain od_le od_le dI_calm dI_calm (db pd_int) (db (pd_callB cd_len cm_len rfl (c.free 4) (by decide +kernel) (aw_cons (db (pd_ix (od_ix hu) cm_ix (fun _ _ => rfl) (bv 0) (db pd_int))) aw_nil))) (db (pd_gint rfl (c.int 11))))) (wd_or1 (td_not (td (pd_callB (cd_all rfl) cm_all rfl (c.free 8) (by decide +kernel) (aw_cons (fb (pf_lc (own := [("one", 1)]) rfl sc_is_record.nd (id_seq (pd_ix (od_ix hu) cm_ix (fun _ _ => rfl) (bv 0) (db pd_int))) (blkOk_by (own := [("one", 1)]) (by show blkC ["thing", "one"] (defScope (top 15)) _ _ = true; decide +kernel)) (fun _ _ _ _ _ => (gd_name sc_is_record.nd rfl (.inl rfl))) (fun _ _ _ _ _ => tds_nil) (fun _ _ _ _ _ => (pd_ok (ok_is_clock c) takes0 (hr.mono (by decide)) rfl (aCons_len aNil_len) (af_cons (dv 1) af_nil))))) aw_nil)))))))
      (sd_one (sd_ret pd_bl))
      sd_nil)
      (sd_cons (sd_if (PW.pt (wd_or (td_not (td (pd_isI (Ts := "tuple") (eBin dIx (eW 0) (eC (.int 1))) (by decide) rfl (c.free 0) rfl (c.free 3) (by decide +kernel) (db (pd_ix (od_ix hu) cm_ix (fun _ _ => rfl) (bv 0) (db pd_int)))))) (wd_or1 (td_cmp od_gt dI_calm (nomark _) (db (pd_callB cd_len cm_len rfl (c.free 4) (by decide +kernel) (aw_cons (db (pd_ix (od_ix hu) cm_ix (fun _ _ => rfl) (bv 0) (db pd_int))) aw_nil))) (db (pd_gint rfl (c.int 12)))))))
      (sd_one (sd_ret pd_bl))
      sd_nil)
      (sd_one (sd_ret (pd_callB (cd_all rfl) cm_all rfl (c.free 8) (by decide +kernel) (aw_cons (fb (pf_lc (own := [("one", 1)]) rfl sc_is_record.nd (id_seq (pd_ix (od_ix hu) cm_ix (fun _ _ => rfl) (bv 0) (db pd_int))) (blkOk_by (own := [("one", 1)]) (by show blkC ["thing", "one"] (defScope (top 15)) _ _ = true; decide +kernel)) (fun _ _ _ _ _ => (gd_name sc_is_record.nd rfl (.inl rfl))) (fun _ _ _ _ _ => tds_nil) (fun _ _ _ _ _ => (pd_ok (ok_is_letter c) takes0 (hr.mono (by decide)) rfl (aCons_len (aCons_len aNil_len)) (af_cons (pd_ix (od_ix hu) cm_ix (fun _ _ => rfl) (bv 0) (db pd_int)) (af_cons (dv 1) af_nil)))))) aw_nil)))))))
theorem sc_need_record : FnScope ["record"] ["record"] (defScope (top 16)) := ⟨rfl, rfl, rfl, by decide +kernel, rfl, by decide +kernel, by decide +kernel⟩
theorem ok_need_record (c : C0 K mg) : OkF P w K mg base 5 "need_record" ["record"] F_need_record := by
  obtain ⟨fdn, F⟩ := c.def_ 11
  refine ⟨fdn, fn_d F sc_need_record fun cdv A outer s H E hr => ?_, F.bindsN (ps := ["record"]) fun _ _ _ _ _ _ us hl => match us, hl with | [_], _ => rfl, c.glo 33, F.kp⟩
  have tk : Takes (cxOf (L2.CX P w) P w K mg base ["record"] "need_record" (defScope (top 16)) (He.ga K "need_record") cdv A outer s H E) (fun cls d _ H => E cls d H) := takes_of rfl rfl rfl rfl
  have hp := passes_of (X := cxOf (L2.CX P w) P w K mg base ["record"] "need_record" (defScope (top 16)) (He.ga K "need_record") cdv A outer s H E) rfl
  have hu := hr.u
  exact (sd_one (sd_if (td_not (td (pd_ok (ok_is_record c) tk (hr.mono (by decide)) rfl (aCons_len aNil_len) (af_cons (dv 0) af_nil))))
      (sd_one (sd_raise (c.exc 13 14) rfl tk rfl))
      sd_nil))
theorem sc_events : FnScope ["record", "found", "number", "clock", "place"] ["record"] (defScope (top 17)) := ⟨rfl, rfl, rfl, by decide +kernel, rfl, by decide +kernel, by decide +kernel⟩
theorem ok_events (c : C0 K mg) : OkF P w K mg base 6 "events" ["record"] F_events := by
  obtain ⟨fdn, F⟩ := c.def_ 12
  refine ⟨fdn, fn_d F sc_events fun cdv A outer s H E hr => ?_, F.bindsN (ps := ["record"]) fun _ _ _ _ _ _ us hl => match us, hl with | [_], _ => rfl, c.glo 34, F.kp⟩
  have tk : Takes (cxOf (L2.CX P w) P w K mg base ["record", "found", "number", "clock", "place"] "events" (defScope (top 17)) (He.ga K "events") cdv A outer s H E) (fun cls d _ H => E cls d H) := takes_of rfl rfl rfl rfl
  have hp := passes_of (X := cxOf (L2.CX P w) P w K mg base ["record", "found", "number", "clock", "place"] "events" (defScope (top 17)) (He.ga K "events") cdv A outer s H E) rfl
  have hu := hr.u
  exact (sd_cons (sd_drop (pd_ok (ok_need_record c) tk (hr.mono (by decide)) rfl (aCons_len aNil_len) (af_cons (dv 0) af_nil)))
      (sd_cons (sd_own sc_events.nd rfl (.inl rfl) (pf_lst af_nil))
      (sd_cons (sd_for hp rfl (id_enum rfl (c.free 15) (af_cons (pd_ix (od_ix hu) cm_ix (fun _ _ => rfl) (bv 0) (db pd_int)) af_nil)) (gd_tup rfl (gds_cons (gd_name sc_events.nd rfl (.inr rfl)) (gds_cons (gd_name sc_events.nd rfl (.inl rfl)) gds_nil)))
      (sd_one (sd_ext (pv 1) (fd (pf_lc (own := [("place", 4)]) rfl sc_events.nd (id_rng1 rfl (c.free 16) (aw_cons (db (pd_callB cd_len cm_len rfl (c.free 4) (by decide +kernel) (aw_cons (db (pd_ix (od_ix hu) cm_ix (fun _ _ => rfl) (bv 3) (db pd_int))) aw_nil))) aw_nil)) (blkOk_by (own := [("place", 4)]) (by show blkC ["record", "found", "number", "clock", "place"] (defScope (top 17)) _ _ = true; decide +kernel)) (fun _ _ _ _ _ => (gd_name sc_events.nd rfl (.inl rfl))) (fun _ _ _ _ _ => tds_nil) (fun _ _ _ _ _ => (pd_tup (af_cons (dv 2) (af_cons (dv 4) af_nil)))))))))
      (sd_one (sd_frz 1 (sd_ret (dv 1)))))))
theorem sc_law_bounds : FnScope ["_law_record_here", "_law_found", "_law_number", "_law_slow", "_law_fast", "_law_readings", "_law_k", "_law_steps", "_law_one", "_law_other", "_law_least", "_law_most"] ["_law_record_here"] (defScope (top 40)) := ⟨rfl, rfl, rfl, by decide +kernel, rfl, by decide +kernel, by decide +kernel⟩
theorem ok_law_bounds (c : C0 K mg) : OkF P w K mg base 1 "_law_bounds" ["_law_record_here"] F_law_bounds := by
  obtain ⟨fdn, F⟩ := c.def_ 13
  refine ⟨fdn, fn_d F sc_law_bounds fun cdv A outer s H E hr => ?_, F.bindsN (ps := ["_law_record_here"]) fun _ _ _ _ _ _ us hl => match us, hl with | [_], _ => rfl, c.glo 35, F.kp⟩
  have tk : Takes (cxOf (L2.CX P w) P w K mg base ["_law_record_here", "_law_found", "_law_number", "_law_slow", "_law_fast", "_law_readings", "_law_k", "_law_steps", "_law_one", "_law_other", "_law_least", "_law_most"] "_law_bounds" (defScope (top 40)) (He.ga K "_law_bounds") cdv A outer s H E) (fun cls d _ H => E cls d H) := takes_of rfl rfl rfl rfl
  have hp := passes_of (X := cxOf (L2.CX P w) P w K mg base ["_law_record_here", "_law_found", "_law_number", "_law_slow", "_law_fast", "_law_readings", "_law_k", "_law_steps", "_law_one", "_law_other", "_law_least", "_law_most"] "_law_bounds" (defScope (top 40)) (He.ga K "_law_bounds") cdv A outer s H E) rfl
  have hu := hr.u
  exact (sd_cons (sd_own sc_law_bounds.nd rfl (.inl rfl) (pf_lst af_nil))
      (sd_cons (sd_for hp rfl (id_enum rfl (c.free 15) (af_cons (pd_ix (od_ix hu) cm_ix (fun _ _ => rfl) (bv 0) (db pd_int)) af_nil)) (gd_tup rfl (gds_cons (gd_name sc_law_bounds.nd rfl (.inl rfl)) (gds_cons (gd_tup rfl (gds_cons (gd_name sc_law_bounds.nd rfl (.inl rfl)) (gds_cons (gd_name sc_law_bounds.nd rfl (.inl rfl)) (gds_cons (gd_name sc_law_bounds.nd rfl (.inl rfl)) gds_nil)))) gds_nil)))
      (sd_one (sd_for hp rfl (id_rng2 rfl (c.free 16) (aw_cons (db pd_int) (aw_cons (db (pd_callB cd_len cm_len rfl (c.free 4) (by decide +kernel) (aw_cons (bv 5) aw_nil))) aw_nil))) (gd_name sc_law_bounds.nd rfl (.inl rfl))
      (sd_cons (sd_set sc_law_bounds.nd rfl (.inl rfl) (pd_bin od_sub dI_calm (db (pd_ix (od_ix hu) cm_ix (fun _ _ => rfl) (bv 5) (bv 6))) (db (pd_ix (od_ix hu) cm_ix (fun _ _ => rfl) (bv 5) (db (pd_bin od_sub dI_calm (bv 6) (db pd_int)))))))
      (sd_cons (sd_app (pv 1) (pd_tup (af_cons (pd_tup (af_cons (dv 2) (af_cons (pd_bin od_sub dI_calm (bv 6) (db pd_int)) af_nil))) (af_cons (pd_tup (af_cons (dv 2) (af_cons (dv 6) af_nil))) (af_cons (pd_bin od_mul cm_mul (bv 4) (bv 7)) af_nil)))))
      (sd_one (sd_app (pv 1) (pd_tup (af_cons (pd_tup (af_cons (dv 2) (af_cons (dv 6) af_nil))) (af_cons (pd_tup (af_cons (dv 2) (af_cons (pd_bin od_sub dI_calm (bv 6) (db pd_int)) af_nil))) (af_cons (pd_bin od_sub dI_calm (db pd_int) (db (pd_bin od_mul cm_mul (bv 3) (bv 7)))) af_nil)))))))))))
      (sd_cons (sd_for hp rfl (id_seq (pd_ix (od_ix hu) cm_ix (fun _ _ => rfl) (bv 0) (db pd_int))) (gd_tup rfl (gds_cons (gd_name sc_law_bounds.nd rfl (.inl rfl)) (gds_cons (gd_name sc_law_bounds.nd rfl (.inl rfl)) (gds_cons (gd_name sc_law_bounds.nd rfl (.inl rfl)) (gds_cons (gd_name sc_law_bounds.nd rfl (.inl rfl)) gds_nil)))))
      (sd_cons (sd_app (pv 1) (pd_tup (af_cons (dv 9) (af_cons (dv 8) (af_cons (pd_bin od_sub dI_calm (db pd_int) (bv 10)) af_nil)))))
      (sd_one (sd_if (td_notN (bv 11))
      (sd_one (sd_app (pv 1) (pd_tup (af_cons (dv 8) (af_cons (dv 9) (af_cons (dv 11) af_nil))))))
      sd_nil))))
      (sd_one (sd_frz 1 (sd_ret (dv 1)))))))
theorem sc_law_table : FnScope ["_law_places", "_law_row", "_law_far", "_law_one", "_law_other", "_law_most", "_law_middle", "_law_whole"] ["_law_places", "_law_row"] (defScope (top 41)) := ⟨rfl, rfl, rfl, by decide +kernel, rfl, by decide +kernel, by decide +kernel⟩
theorem ok_law_table (c : C0 K mg) : OkF P w K mg base 1 "_law_table" ["_law_places", "_law_row"] F_law_table := by
  obtain ⟨fdn, F⟩ := c.def_ 14
  refine ⟨fdn, fn_d F sc_law_table fun cdv A outer s H E hr => ?_, F.bindsN (ps := ["_law_places", "_law_row"]) fun _ _ _ _ _ _ us hl => match us, hl with | [_, _], _ => rfl, c.glo 36, F.kp⟩
  have tk : Takes (cxOf (L2.CX P w) P w K mg base ["_law_places", "_law_row", "_law_far", "_law_one", "_law_other", "_law_most", "_law_middle", "_law_whole"] "_law_table" (defScope (top 41)) (He.ga K "_law_table") cdv A outer s H E) (fun cls d _ H => E cls d H) := takes_of rfl rfl rfl rfl
  have hp := passes_of (X := cxOf (L2.CX P w) P w K mg base ["_law_places", "_law_row", "_law_far", "_law_one", "_law_other", "_law_most", "_law_middle", "_law_whole"] "_law_table" (defScope (top 41)) (He.ga K "_law_table") cdv A outer s H E) rfl
  have hu := hr.u
  exact (sd_cons (sd_tab (own := [("_law_one", 3)]) rfl hu rfl (c.free 17) sc_law_table.nd rfl (.inr rfl) (id_seq (dv 0)) (blkOk_by (own := [("_law_one", 3)]) (by show blkC ["_law_places", "_law_row", "_law_far", "_law_one", "_law_other", "_law_most", "_law_middle", "_law_whole"] (defScope (top 41)) _ _ = true; decide +kernel)) (fun _ _ _ _ _ => (gd_name sc_law_table.nd rfl (.inl rfl))) (fun _ _ _ _ _ => (dv 3)) (fun _ _ _ _ _ => (pf_dictof rfl hu rfl (c.free 17) (fd (pf_lc (own := [("_law_other", 4)]) rfl sc_law_table.nd (id_seq (dv 0)) (blkOk_by (own := [("_law_other", 4)]) (by show blkC ["_law_places", "_law_row", "_law_far", "_law_one", "_law_other", "_law_most", "_law_middle", "_law_whole"] { kind := .function, names := [(".0", .local), ("_law_one", .local), ("dict", .globalImplicit), ("_law_places", .cell)], isGenerator := false, isCoroutine := false } _ _ = true; decide +kernel)) (fun _ _ _ _ _ => (gd_name sc_law_table.nd rfl (.inl rfl))) (fun _ _ _ _ _ => tds_nil) (fun _ _ _ _ _ => (pd_tup (af_cons (dv 4) (af_cons pd_non af_nil)))))))))
      (sd_cons (sd_for hp rfl (id_seq (dv 0)) (gd_name sc_law_table.nd rfl (.inl rfl))
      (sd_one (sd_put2 hu 2 (fun _ _ => rfl) (bv 3) (bv 3) pd_int)))
      (sd_cons (sd_for hp rfl (id_seq (dv 1)) (gd_tup rfl (gds_cons (gd_name sc_law_table.nd rfl (.inl rfl)) (gds_cons (gd_name sc_law_table.nd rfl (.inl rfl)) (gds_cons (gd_name sc_law_table.nd rfl (.inl rfl)) gds_nil))))
      (sd_one (sd_if (PW.pt (wd_or (td_isN (db (pd_t2 hu 2 (fun _ _ => rfl) (fun _ _ => rfl) (bv 3) (bv 4)))) (wd_or1 (td_cmp od_lt dI_calm (nomark _) (bv 5) (db (pd_t2 hu 2 (fun _ _ => rfl) (fun _ _ => rfl) (bv 3) (bv 4)))))))
      (sd_one (sd_put2 hu 2 (fun _ _ => rfl) (bv 3) (bv 4) (dv 5)))
      sd_nil)))
      (sd_cons (sd_for hp rfl (id_seq (dv 0)) (gd_name sc_law_table.nd rfl (.inl rfl))
      (sd_one (sd_for hp rfl (id_seq (dv 0)) (gd_name sc_law_table.nd rfl (.inl rfl))
      (sd_one (sd_for hp rfl (id_seq (dv 0)) (gd_name sc_law_table.nd rfl (.inl rfl))
      (sd_one (sd_if (PW.pt (wd_and (td_notN (db (pd_t2 hu 2 (fun _ _ => rfl) (fun _ _ => rfl) (bv 3) (bv 6)))) (wd_and1 (td_notN (db (pd_t2 hu 2 (fun _ _ => rfl) (fun _ _ => rfl) (bv 6) (bv 4)))))))
      (sd_cons (sd_set sc_law_table.nd rfl (.inl rfl) (pd_bin od_add cm_add (db (pd_t2 hu 2 (fun _ _ => rfl) (fun _ _ => rfl) (bv 3) (bv 6))) (db (pd_t2 hu 2 (fun _ _ => rfl) (fun _ _ => rfl) (bv 6) (bv 4)))))
      (sd_one (sd_if (PW.pt (wd_or (td_isN (db (pd_t2 hu 2 (fun _ _ => rfl) (fun _ _ => rfl) (bv 3) (bv 4)))) (wd_or1 (td_cmp od_lt dI_calm (nomark _) (bv 7) (db (pd_t2 hu 2 (fun _ _ => rfl) (fun _ _ => rfl) (bv 3) (bv 4)))))))
      (sd_one (sd_put2 hu 2 (fun _ _ => rfl) (bv 3) (bv 4) (dv 7)))
      sd_nil)))
      sd_nil)))))))
      (sd_one (sd_frz 2 (sd_ret (pd_if (td_cmp (od_eq hu) cm_eq (nomark _) (fb (pf_lc (own := [("_law_one", 3)]) rfl sc_law_table.nd (id_seq (dv 0)) (blkOk_by (own := [("_law_one", 3)]) (by show blkC ["_law_places", "_law_row", "_law_far", "_law_one", "_law_other", "_law_most", "_law_middle", "_law_whole"] (defScope (top 41)) _ _ = true; decide +kernel)) (fun _ _ _ _ _ => (gd_name sc_law_table.nd rfl (.inl rfl))) (fun _ _ _ _ _ => (tds_one (td_cmp od_lt dI_calm (nomark _) (db (pd_t2 hu 2 (fun _ _ => rfl) (fun _ _ => rfl) (bv 3) (bv 3))) (db pd_int)))) (fun _ _ _ _ _ => (dv 3)))) (fb (pf_lst af_nil))) (dv 2) pd_non))))))))
theorem sc_settled : FnScope ["places", "row", "times", "by", "moved", "turn", "number", "bound", "one", "other", "most", "event"] ["places", "row"] (defScope (top 28)) := ⟨rfl, rfl, rfl, by decide +kernel, rfl, by decide +kernel, by decide +kernel⟩
theorem ok_settled (c : C0 K mg) : OkF P w K mg base 1 "settled" ["places", "row"] F_settled := by
  obtain ⟨fdn, F⟩ := c.def_ 15
  refine ⟨fdn, fn_d F sc_settled fun cdv A outer s H E hr => ?_, F.bindsN (ps := ["places", "row"]) fun _ _ _ _ _ _ us hl => match us, hl with | [_, _], _ => rfl, c.glo 37, F.kp⟩
  have tk : Takes (cxOf (L2.CX P w) P w K mg base ["places", "row", "times", "by", "moved", "turn", "number", "bound", "one", "other", "most", "event"] "settled" (defScope (top 28)) (He.ga K "settled") cdv A outer s H E) (fun cls d _ H => E cls d H) := takes_of rfl rfl rfl rfl
  have hp := passes_of (X := cxOf (L2.CX P w) P w K mg base ["places", "row", "times", "by", "moved", "turn", "number", "bound", "one", "other", "most", "event"] "settled" (defScope (top 28)) (He.ga K "settled") cdv A outer s H E) rfl
  have hu := hr.u
  exact (sd_cons (sd_own sc_settled.nd rfl (.inl rfl) (pf_dictof rfl hu rfl (c.free 17) (fd (pf_lc (own := [("event", 11)]) rfl sc_settled.nd (id_seq (dv 0)) (blkOk_by (own := [("event", 11)]) (by show blkC ["places", "row", "times", "by", "moved", "turn", "number", "bound", "one", "other", "most", "event"] (defScope (top 28)) _ _ = true; decide +kernel)) (fun _ _ _ _ _ => (gd_name sc_settled.nd rfl (.inl rfl))) (fun _ _ _ _ _ => tds_nil) (fun _ _ _ _ _ => (pd_tup (af_cons (dv 11) (af_cons pd_int af_nil))))))))
      (sd_cons (sd_own sc_settled.nd rfl (.inl rfl) pf_dnew)
      (sd_cons (sd_set sc_settled.nd rfl (.inl rfl) pd_non)
      (sd_cons (sd_for hp rfl (id_rng1 rfl (c.free 16) (aw_cons (db (pd_callB cd_len cm_len rfl (c.free 4) (by decide +kernel) (aw_cons (bv 0) aw_nil))) aw_nil)) (gd_name sc_settled.nd rfl (.inl rfl))
      (sd_cons (sd_set sc_settled.nd rfl (.inl rfl) pd_non)
      (sd_one (sd_for hp rfl (id_enum rfl (c.free 15) (af_cons (dv 1) af_nil)) (gd_tup rfl (gds_cons (gd_name sc_settled.nd rfl (.inl rfl)) (gds_cons (gd_name sc_settled.nd rfl (.inl rfl)) gds_nil)))
      (sd_cons (sd_asg (dv 7) (gd_tup rfl (gds_cons (gd_name sc_settled.nd rfl (.inl rfl)) (gds_cons (gd_name sc_settled.nd rfl (.inl rfl)) (gds_cons (gd_name sc_settled.nd rfl (.inl rfl)) gds_nil)))))
      (sd_one (sd_if (td_cmp od_lt dI_calm (nomark _) (db (pd_bin od_add cm_add (db (pd_ix (od_ix hu) cm_ix (fun _ _ => rfl) (bv 2) (bv 8))) (bv 10))) (db (pd_ix (od_ix hu) cm_ix (fun _ _ => rfl) (bv 2) (bv 9))))
      (sd_cons (sd_put hu (pv 2) (dv 9) (pd_bin od_add cm_add (db (pd_ix (od_ix hu) cm_ix (fun _ _ => rfl) (bv 2) (bv 8))) (bv 10)))
      (sd_cons (sd_put hu (pv 3) (dv 9) (dv 6))
      (sd_one (sd_set sc_settled.nd rfl (.inl rfl) (dv 9)))))
      sd_nil)))))))
      (sd_one (sd_frz 3 (sd_frz 2 (sd_ret (pd_tup (af_cons (dv 2) (af_cons (dv 3) (af_cons (dv 4) af_nil))))))))))))
theorem sc_world_of : FnScope ["places", "row", "times", "by", "moved", "event"] ["places", "row"] (defScope (top 29)) := ⟨rfl, rfl, rfl, by decide +kernel, rfl, by decide +kernel, by decide +kernel⟩
theorem ok_world_of (c : C0 K mg) : OkF P w K mg base 2 "world_of" ["places", "row"] F_world_of := by
  obtain ⟨fdn, F⟩ := c.def_ 16
  refine ⟨fdn, fn_d F sc_world_of fun cdv A outer s H E hr => ?_, F.bindsN (ps := ["places", "row"]) fun _ _ _ _ _ _ us hl => match us, hl with | [_, _], _ => rfl, c.glo 38, F.kp⟩
  have tk : Takes (cxOf (L2.CX P w) P w K mg base ["places", "row", "times", "by", "moved", "event"] "world_of" (defScope (top 29)) (He.ga K "world_of") cdv A outer s H E) (fun cls d _ H => E cls d H) := takes_of rfl rfl rfl rfl
  have hp := passes_of (X := cxOf (L2.CX P w) P w K mg base ["places", "row", "times", "by", "moved", "event"] "world_of" (defScope (top 29)) (He.ga K "world_of") cdv A outer s H E) rfl
  have hu := hr.u
  exact (sd_cons (sd_asg (pd_ok (ok_settled c) tk (hr.mono (by decide)) rfl (aCons_len (aCons_len aNil_len)) (af_cons (dv 0) (af_cons (dv 1) af_nil))) (gd_tup rfl (gds_cons (gd_name sc_world_of.nd rfl (.inr rfl)) (gds_cons (gd_name sc_world_of.nd rfl (.inl rfl)) (gds_cons (gd_name sc_world_of.nd rfl (.inl rfl)) gds_nil)))))
      (sd_one (sd_ret (pd_if (td_notN (bv 4)) pd_non (pd_callTy cd_tup cm_tup rfl (c.free 3) (by decide +kernel) (aw_cons (fb (pf_lc (own := [("event", 5)]) rfl sc_world_of.nd (id_seq (dv 0)) (blkOk_by (own := [("event", 5)]) (by show blkC ["places", "row", "times", "by", "moved", "event"] (defScope (top 29)) _ _ = true; decide +kernel)) (fun _ _ _ _ _ => (gd_name sc_world_of.nd rfl (.inl rfl))) (fun _ _ _ _ _ => tds_nil) (fun _ _ _ _ _ => (pd_ix (od_ix hu) cm_ix (fun _ _ => rfl) (bv 2) (bv 5))))) aw_nil))))))
theorem sc_clock_bounds : FnScope ["number", "clock", "slow", "fast", "readings", "found", "place", "both", "steps"] ["number", "clock"] (defScope (top 19)) := ⟨rfl, rfl, rfl, by decide +kernel, rfl, by decide +kernel, by decide +kernel⟩
theorem ok_clock_bounds (c : C0 K mg) : OkF P w K mg base 1 "clock_bounds" ["number", "clock"] F_clock_bounds := by
  obtain ⟨fdn, F⟩ := c.def_ 17
  refine ⟨fdn, fn_d F sc_clock_bounds fun cdv A outer s H E hr => ?_, F.bindsN (ps := ["number", "clock"]) fun _ _ _ _ _ _ us hl => match us, hl with | [_, _], _ => rfl, c.glo 39, F.kp⟩
  have tk : Takes (cxOf (L2.CX P w) P w K mg base ["number", "clock", "slow", "fast", "readings", "found", "place", "both", "steps"] "clock_bounds" (defScope (top 19)) (He.ga K "clock_bounds") cdv A outer s H E) (fun cls d _ H => E cls d H) := takes_of rfl rfl rfl rfl
  have hp := passes_of (X := cxOf (L2.CX P w) P w K mg base ["number", "clock", "slow", "fast", "readings", "found", "place", "both", "steps"] "clock_bounds" (defScope (top 19)) (He.ga K "clock_bounds") cdv A outer s H E) rfl
  have hu := hr.u
  exact (sd_cons (sd_asg (dv 1) (gd_tup rfl (gds_cons (gd_name sc_clock_bounds.nd rfl (.inl rfl)) (gds_cons (gd_name sc_clock_bounds.nd rfl (.inl rfl)) (gds_cons (gd_name sc_clock_bounds.nd rfl (.inl rfl)) gds_nil)))))
      (sd_cons (sd_own sc_clock_bounds.nd rfl (.inl rfl) (pf_lst af_nil))
      (sd_cons (sd_for hp rfl (id_enumzip rfl (c.free 15) rfl (c.free 9) (af_cons (dv 4) (af_cons (pd_sl sl_any cm_sl (bv 4) (pod_some pd_int) pod_none) af_nil))) (gd_tup rfl (gds_cons (gd_name sc_clock_bounds.nd rfl (.inl rfl)) (gds_cons (gd_name sc_clock_bounds.nd rfl (.inl rfl)) gds_nil)))
      (sd_cons (sd_set sc_clock_bounds.nd rfl (.inl rfl) (pd_bin od_sub dI_calm (db (pd_ix (od_ix hu) cm_ix (fun _ _ => rfl) (bv 7) (db pd_int))) (db (pd_ix (od_ix hu) cm_ix (fun _ _ => rfl) (bv 7) (db pd_int)))))
      (sd_cons (sd_app (pv 5) (pd_tup (af_cons (pd_tup (af_cons (dv 0) (af_cons (dv 6) af_nil))) (af_cons (pd_tup (af_cons (dv 0) (af_cons (pd_bin od_add cm_add (bv 6) (db pd_int)) af_nil))) (af_cons (pd_bin od_mul cm_mul (bv 8) (bv 3)) af_nil)))))
      (sd_one (sd_app (pv 5) (pd_tup (af_cons (pd_tup (af_cons (dv 0) (af_cons (pd_bin od_add cm_add (bv 6) (db pd_int)) af_nil))) (af_cons (pd_tup (af_cons (dv 0) (af_cons (dv 6) af_nil))) (af_cons (pd_bin od_sub dI_calm (db pd_int) (db (pd_bin od_mul cm_mul (bv 8) (bv 2)))) af_nil)))))))))
      (sd_one (sd_frz 5 (sd_ret (dv 5)))))))
theorem sc_letter_bounds : FnScope ["letter", "one", "other", "least", "most", "found"] ["letter"] (defScope (top 20)) := ⟨rfl, rfl, rfl, by decide +kernel, rfl, by decide +kernel, by decide +kernel⟩
theorem ok_letter_bounds (c : C0 K mg) : OkF P w K mg base 1 "letter_bounds" ["letter"] F_letter_bounds := by
  obtain ⟨fdn, F⟩ := c.def_ 18
  refine ⟨fdn, fn_d F sc_letter_bounds fun cdv A outer s H E hr => ?_, F.bindsN (ps := ["letter"]) fun _ _ _ _ _ _ us hl => match us, hl with | [_], _ => rfl, c.glo 40, F.kp⟩
  have tk : Takes (cxOf (L2.CX P w) P w K mg base ["letter", "one", "other", "least", "most", "found"] "letter_bounds" (defScope (top 20)) (He.ga K "letter_bounds") cdv A outer s H E) (fun cls d _ H => E cls d H) := takes_of rfl rfl rfl rfl
  have hp := passes_of (X := cxOf (L2.CX P w) P w K mg base ["letter", "one", "other", "least", "most", "found"] "letter_bounds" (defScope (top 20)) (He.ga K "letter_bounds") cdv A outer s H E) rfl
  have hu := hr.u
  exact (sd_cons (sd_asg (dv 0) (gd_tup rfl (gds_cons (gd_name sc_letter_bounds.nd rfl (.inl rfl)) (gds_cons (gd_name sc_letter_bounds.nd rfl (.inl rfl)) (gds_cons (gd_name sc_letter_bounds.nd rfl (.inl rfl)) (gds_cons (gd_name sc_letter_bounds.nd rfl (.inl rfl)) gds_nil))))))
      (sd_cons (sd_set sc_letter_bounds.nd rfl (.inl rfl) (fd (pf_lst (af_cons (pd_tup (af_cons (dv 2) (af_cons (dv 1) (af_cons (pd_bin od_sub dI_calm (db pd_int) (bv 3)) af_nil)))) af_nil))))
      (sd_one (sd_ret (pd_if (td_isN (bv 4)) (dv 5) (pd_bin od_add cm_add (bv 5) (fb (pf_lst (af_cons (pd_tup (af_cons (dv 1) (af_cons (dv 2) (af_cons (dv 4) af_nil)))) af_nil)))))))))
theorem sc_bounds : FnScope ["record", "found", "number", "clock", "letter"] ["record"] (defScope (top 21)) := ⟨rfl, rfl, rfl, by decide +kernel, rfl, by decide +kernel, by decide +kernel⟩
theorem ok_bounds (c : C0 K mg) : OkF P w K mg base 6 "bounds" ["record"] F_bounds := by
  obtain ⟨fdn, F⟩ := c.def_ 19
  refine ⟨fdn, fn_d F sc_bounds fun cdv A outer s H E hr => ?_, F.bindsN (ps := ["record"]) fun _ _ _ _ _ _ us hl => match us, hl with | [_], _ => rfl, c.glo 41, F.kp⟩
  have tk : Takes (cxOf (L2.CX P w) P w K mg base ["record", "found", "number", "clock", "letter"] "bounds" (defScope (top 21)) (He.ga K "bounds") cdv A outer s H E) (fun cls d _ H => E cls d H) := takes_of rfl rfl rfl rfl
  have hp := passes_of (X := cxOf (L2.CX P w) P w K mg base ["record", "found", "number", "clock", "letter"] "bounds" (defScope (top 21)) (He.ga K "bounds") cdv A outer s H E) rfl
  have hu := hr.u
  exact (sd_cons (sd_drop (pd_ok (ok_need_record c) tk (hr.mono (by decide)) rfl (aCons_len aNil_len) (af_cons (dv 0) af_nil)))
      (sd_cons (sd_own sc_bounds.nd rfl (.inl rfl) (pf_lst af_nil))
      (sd_cons (sd_for hp rfl (id_enum rfl (c.free 15) (af_cons (pd_ix (od_ix hu) cm_ix (fun _ _ => rfl) (bv 0) (db pd_int)) af_nil)) (gd_tup rfl (gds_cons (gd_name sc_bounds.nd rfl (.inl rfl)) (gds_cons (gd_name sc_bounds.nd rfl (.inl rfl)) gds_nil)))
      (sd_one (sd_ext (pv 1) (pd_ok (ok_clock_bounds c) tk (hr.mono (by decide)) rfl (aCons_len (aCons_len aNil_len)) (af_cons (dv 2) (af_cons (dv 3) af_nil))))))
      (sd_cons (sd_for hp rfl (id_seq (pd_ix (od_ix hu) cm_ix (fun _ _ => rfl) (bv 0) (db pd_int))) (gd_name sc_bounds.nd rfl (.inl rfl))
      (sd_one (sd_ext (pv 1) (pd_ok (ok_letter_bounds c) tk (hr.mono (by decide)) rfl (aCons_len aNil_len) (af_cons (dv 4) af_nil)))))
      (sd_one (sd_frz 1 (sd_ret (dv 1))))))))
theorem sc_world : FnScope ["record"] ["record"] (defScope (top 30)) := ⟨rfl, rfl, rfl, by decide +kernel, rfl, by decide +kernel, by decide +kernel⟩
theorem ok_world (c : C0 K mg) : OkF P w K mg base 7 "world" ["record"] F_world := by
  obtain ⟨fdn, F⟩ := c.def_ 20
  refine ⟨fdn, fn_d F sc_world fun cdv A outer s H E hr => ?_, F.bindsN (ps := ["record"]) fun _ _ _ _ _ _ us hl => match us, hl with | [_], _ => rfl, c.glo 42, F.kp⟩
  have tk : Takes (cxOf (L2.CX P w) P w K mg base ["record"] "world" (defScope (top 30)) (He.ga K "world") cdv A outer s H E) (fun cls d _ H => E cls d H) := takes_of rfl rfl rfl rfl
  have hp := passes_of (X := cxOf (L2.CX P w) P w K mg base ["record"] "world" (defScope (top 30)) (He.ga K "world") cdv A outer s H E) rfl
  have hu := hr.u
  exact (sd_one (sd_ret (pd_ok (ok_world_of c) tk (hr.mono (by decide)) rfl (aCons_len (aCons_len aNil_len)) (af_cons (pd_ok (ok_events c) tk (hr.mono (by decide)) rfl (aCons_len aNil_len) (af_cons (dv 0) af_nil)) (af_cons (pd_ok (ok_bounds c) tk (hr.mono (by decide)) rfl (aCons_len aNil_len) (af_cons (dv 0) af_nil)) af_nil)))))
theorem sc_has_world : FnScope ["record"] ["record"] (defScope (top 31)) := ⟨rfl, rfl, rfl, by decide +kernel, rfl, by decide +kernel, by decide +kernel⟩
theorem ok_has_world (c : C0 K mg) : OkF P w K mg base 8 "has_world" ["record"] F_has_world := by
  obtain ⟨fdn, F⟩ := c.def_ 21
  refine ⟨fdn, fn_d F sc_has_world fun cdv A outer s H E hr => ?_, F.bindsN (ps := ["record"]) fun _ _ _ _ _ _ us hl => match us, hl with | [_], _ => rfl, c.glo 43, F.kp⟩
  have tk : Takes (cxOf (L2.CX P w) P w K mg base ["record"] "has_world" (defScope (top 31)) (He.ga K "has_world") cdv A outer s H E) (fun cls d _ H => E cls d H) := takes_of rfl rfl rfl rfl
  have hp := passes_of (X := cxOf (L2.CX P w) P w K mg base ["record"] "has_world" (defScope (top 31)) (He.ga K "has_world") cdv A outer s H E) rfl
  have hu := hr.u
  exact (sd_one (sd_ret (pd_notN (db (pd_ok (ok_world c) tk (hr.mono (by decide)) rfl (aCons_len aNil_len) (af_cons (dv 0) af_nil))))))
theorem sc_law_drawn_world : FnScope ["_law_script", "_law_at", "_law_places", "_law_row", "_law_table_here", "_law_times", "_law_k", "_law_event", "_law_highs", "_law_lows", "_law_low", "_law_high", "_law_one"] ["_law_script", "_law_at", "_law_places", "_law_row", "_law_table_here"] (defScope (top 43)) := ⟨rfl, rfl, rfl, by decide +kernel, rfl, by decide +kernel, by decide +kernel⟩
theorem ok_law_drawn_world (c : C0 K mg) : OkF P w K mg base 3 "_law_drawn_world" ["_law_script", "_law_at", "_law_places", "_law_row", "_law_table_here"] F_law_drawn_world := by
  obtain ⟨fdn, F⟩ := c.def_ 22
  refine ⟨fdn, fn_d F sc_law_drawn_world fun cdv A outer s H E hr => ?_, F.bindsN (ps := ["_law_script", "_law_at", "_law_places", "_law_row", "_law_table_here"]) fun _ _ _ _ _ _ us hl => match us, hl with | [_, _, _, _, _], _ => rfl, c.glo 44, F.kp⟩
  have tk : Takes (cxOf (L2.CX P w) P w K mg base ["_law_script", "_law_at", "_law_places", "_law_row", "_law_table_here", "_law_times", "_law_k", "_law_event", "_law_highs", "_law_lows", "_law_low", "_law_high", "_law_one"] "_law_drawn_world" (defScope (top 43)) (He.ga K "_law_drawn_world") cdv A outer s H E) (fun cls d _ H => E cls d H) := takes_of rfl rfl rfl rfl
  have hp := passes_of (X := cxOf (L2.CX P w) P w K mg base ["_law_script", "_law_at", "_law_places", "_law_row", "_law_table_here", "_law_times", "_law_k", "_law_event", "_law_highs", "_law_lows", "_law_low", "_law_high", "_law_one"] "_law_drawn_world" (defScope (top 43)) (He.ga K "_law_drawn_world") cdv A outer s H E) rfl
  have hu := hr.u
  exact (sd_cons (sd_own sc_law_drawn_world.nd rfl (.inr rfl) pf_dnew)
      (sd_cons (sd_for hp rfl (id_enum rfl (c.free 15) (af_cons (dv 2) af_nil)) (gd_tup rfl (gds_cons (gd_name sc_law_drawn_world.nd rfl (.inl rfl)) (gds_cons (gd_name sc_law_drawn_world.nd rfl (.inr rfl)) gds_nil)))
      (sd_cons (sd_setLcKF (own := [("_law_one", 12)]) rfl sc_law_drawn_world.nd rfl rfl (sw_true rfl rfl rfl (by decide +kernel)) (pv 5) (blkOk_by (own := [("_law_one", 12)]) (by show blkC ["_law_script", "_law_at", "_law_places", "_law_row", "_law_table_here", "_law_times", "_law_k", "_law_event", "_law_highs", "_law_lows", "_law_low", "_law_high", "_law_one"] (defScope (top 43)) _ _ = true; decide +kernel)) (fun _ _ _ _ _ => (gd_name sc_law_drawn_world.nd rfl (.inl rfl))) (fun _ _ _ _ _ => (tds_one (td_notN (db (pd_ix (od_ix hu) cm_ix (fun _ _ => rfl) (db (pd_ix (od_ix hu) cm_ix (fun _ _ => rfl) (bv 4) (bv 12))) (bv 7)))))) (fun _ _ _ _ _ => (pd_bin od_add cm_add (db (pd_ix (od_ix hu) cm_ix (fun _ _ => rfl) (bv 5) (bv 12))) (db (pd_ix (od_ix hu) cm_ix (fun _ _ => rfl) (db (pd_ix (od_ix hu) cm_ix (fun _ _ => rfl) (bv 4) (bv 12))) (bv 7))))))
      (sd_cons (sd_setLcKF (own := [("_law_one", 12)]) rfl sc_law_drawn_world.nd rfl rfl (sw_true rfl rfl rfl (by decide +kernel)) (pv 5) (blkOk_by (own := [("_law_one", 12)]) (by show blkC ["_law_script", "_law_at", "_law_places", "_law_row", "_law_table_here", "_law_times", "_law_k", "_law_event", "_law_highs", "_law_lows", "_law_low", "_law_high", "_law_one"] (defScope (top 43)) _ _ = true; decide +kernel)) (fun _ _ _ _ _ => (gd_name sc_law_drawn_world.nd rfl (.inl rfl))) (fun _ _ _ _ _ => (tds_one (td_notN (db (pd_ix (od_ix hu) cm_ix (fun _ _ => rfl) (db (pd_ix (od_ix hu) cm_ix (fun _ _ => rfl) (bv 4) (bv 7))) (bv 12)))))) (fun _ _ _ _ _ => (pd_bin od_sub dI_calm (db (pd_ix (od_ix hu) cm_ix (fun _ _ => rfl) (bv 5) (bv 12))) (db (pd_ix (od_ix hu) cm_ix (fun _ _ => rfl) (db (pd_ix (od_ix hu) cm_ix (fun _ _ => rfl) (bv 4) (bv 7))) (bv 12))))))
      (sd_cons (sd_set sc_law_drawn_world.nd rfl (.inl rfl) (pd_if (td_cmp (od_ne hu) cm_ne (nomark _) (bv 9) (fb (pf_lst af_nil))) (pd_callB (cd_maxU rfl) cm_maxU rfl (c.free 21) (by decide +kernel) (aw_cons (bv 9) aw_nil)) (pd_if (td_cmp (od_ne hu) cm_ne (nomark _) (bv 8) (fb (pf_lst af_nil))) (pd_bin od_sub dI_calm (db (pd_callB (cd_minU rfl) cm_minU rfl (c.free 20) (by decide +kernel) (aw_cons (bv 8) aw_nil))) (db pd_int)) pd_int)))
      (sd_cons (sd_set sc_law_drawn_world.nd rfl (.inl rfl) (pd_if (td_cmp (od_ne hu) cm_ne (nomark _) (bv 8) (fb (pf_lst af_nil))) (pd_callB (cd_minU rfl) cm_minU rfl (c.free 20) (by decide +kernel) (aw_cons (bv 8) aw_nil)) (pd_bin od_add cm_add (bv 10) (db pd_int))))
      (sd_one (sd_put hu (pv 5) (dv 7) (pd_bin od_add cm_add (bv 10) (db (pd_ok (ok_law_drawn c) tk (hr.mono (by decide)) rfl (aCons_len (aCons_len (aCons_len aNil_len))) (af_cons (dv 0) (af_cons (pd_bin od_add cm_add (bv 1) (bv 6)) (af_cons (pd_bin od_add cm_add (db (pd_bin od_sub dI_calm (bv 11) (bv 10))) (db pd_int)) af_nil)))))))))))))
      (sd_one (sd_ret (pd_callTy cd_tup cm_tup rfl (c.free 3) (by decide +kernel) (aw_cons (fb (pf_lc (own := [("_law_event", 7)]) rfl sc_law_drawn_world.nd (id_seq (dv 2)) (blkOk_by (own := [("_law_event", 7)]) (by show blkC ["_law_script", "_law_at", "_law_places", "_law_row", "_law_table_here", "_law_times", "_law_k", "_law_event", "_law_highs", "_law_lows", "_law_low", "_law_high", "_law_one"] (defScope (top 43)) _ _ = true; decide +kernel)) (fun _ _ _ _ _ => (gd_name sc_law_drawn_world.nd rfl (.inl rfl))) (fun _ _ _ _ _ => tds_nil) (fun _ _ _ _ _ => (pd_ix (od_ix hu) cm_ix (fun _ _ => rfl) (bv 5) (bv 7))))) aw_nil))))))
theorem sc_are_times : FnScope ["record", "thing", "many", "one"] ["record", "thing"] (defScope (top 24)) := ⟨rfl, rfl, rfl, by decide +kernel, rfl, by decide +kernel, by decide +kernel⟩
theorem ok_are_times (c : C0 K mg) : OkF P w K mg base 7 "are_times" ["record", "thing"] F_are_times := by
  obtain ⟨fdn, F⟩ := c.def_ 23
  refine ⟨fdn, fn_d F sc_are_times fun cdv A outer s H E hr => ?_, F.bindsN (ps := ["record", "thing"]) fun _ _ _ _ _ _ us hl => match us, hl with | [_, _], _ => rfl, c.glo 45, F.kp⟩
  have tk : Takes (cxOf (L2.CX P w) P w K mg base ["record", "thing", "many", "one"] "are_times" (defScope (top 24)) (He.ga K "are_times") cdv A outer s H E) (fun cls d _ H => E cls d H) := takes_of rfl rfl rfl rfl
  have hp := passes_of (X := cxOf (L2.CX P w) P w K mg base ["record", "thing", "many", "one"] "are_times" (defScope (top 24)) (He.ga K "are_times") cdv A outer s H E) rfl
  have hu := hr.u
  exact (sd_cons (sd_set sc_are_times.nd rfl (.inl rfl) (pd_callB cd_len cm_len rfl (c.free 4) (by decide +kernel) (aw_cons (db (pd_ok (ok_events c) tk (hr.mono (by decide)) rfl (aCons_len aNil_len) (af_cons (dv 0) af_nil))) aw_nil)))
      (sd_cons (sd_if (PW.pt (wd_or (td_not (td (pd_isI (Ts := "tuple") (eW 1) (by decide) rfl (c.free 0) rfl (c.free 3) (by decide +kernel) (bv 1)))) (wd_or1 (td_cmp (od_ne hu) cm_ne (nomark _) (db (pd_callB cd_len cm_len rfl (c.free 4) (by decide +kernel) (aw_cons (bv 1) aw_nil))) (bv 2)))))
      (sd_one (sd_ret pd_bl))
      sd_nil)
      (sd_one (sd_ret (pd_callB (cd_all rfl) cm_all rfl (c.free 8) (by decide +kernel) (aw_cons (fb (pf_lc (own := [("one", 3)]) rfl sc_are_times.nd (id_seq (dv 1)) (blkOk_by (own := [("one", 3)]) (by show blkC ["record", "thing", "many", "one"] (defScope (top 24)) _ _ = true; decide +kernel)) (fun _ _ _ _ _ => (gd_name sc_are_times.nd rfl (.inl rfl))) (fun _ _ _ _ _ => tds_nil) (fun _ _ _ _ _ => (pd_and (pd_isI (Ts := "int") (eW 3) (by decide) rfl (c.free 0) rfl (c.free 1) (by decide +kernel) (bv 3)) (pd_one (pd_not (pd_isI (Ts := "bool") (eW 3) (by decide) rfl (c.free 0) rfl (c.free 2) (by decide +kernel) (bv 3)))))))) aw_nil))))))
theorem sc_by_events : FnScope ["record", "times"] ["record", "times"] (defScope (top 23)) := ⟨rfl, rfl, rfl, by decide +kernel, rfl, by decide +kernel, by decide +kernel⟩
theorem ok_by_events (c : C0 K mg) : OkF P w K mg base 7 "by_events" ["record", "times"] F_by_events := by
  obtain ⟨fdn, F⟩ := c.def_ 24
  refine ⟨fdn, fn_d F sc_by_events fun cdv A outer s H E hr => ?_, F.bindsN (ps := ["record", "times"]) fun _ _ _ _ _ _ us hl => match us, hl with | [_, _], _ => rfl, c.glo 46, F.kp⟩
  have tk : Takes (cxOf (L2.CX P w) P w K mg base ["record", "times"] "by_events" (defScope (top 23)) (He.ga K "by_events") cdv A outer s H E) (fun cls d _ H => E cls d H) := takes_of rfl rfl rfl rfl
  have hp := passes_of (X := cxOf (L2.CX P w) P w K mg base ["record", "times"] "by_events" (defScope (top 23)) (He.ga K "by_events") cdv A outer s H E) rfl
  have hu := hr.u
  exact (sd_one (sd_ret (fd (pf_dictzip rfl hu rfl (c.free 17) rfl (c.free 9) (pd_ok (ok_events c) tk (hr.mono (by decide)) rfl (aCons_len aNil_len) (af_cons (dv 0) af_nil)) (dv 1)))))
theorem sc_is_broken : FnScope ["bound", "times", "one", "other", "most"] ["bound", "times"] (defScope (top 22)) := ⟨rfl, rfl, rfl, by decide +kernel, rfl, by decide +kernel, by decide +kernel⟩
theorem ok_is_broken (c : C0 K mg) : OkF P w K mg base 1 "is_broken" ["bound", "times"] F_is_broken := by
  obtain ⟨fdn, F⟩ := c.def_ 25
  refine ⟨fdn, fn_d F sc_is_broken fun cdv A outer s H E hr => ?_, F.bindsN (ps := ["bound", "times"]) fun _ _ _ _ _ _ us hl => match us, hl with | [_, _], _ => rfl, c.glo 47, F.kp⟩
  have tk : Takes (cxOf (L2.CX P w) P w K mg base ["bound", "times", "one", "other", "most"] "is_broken" (defScope (top 22)) (He.ga K "is_broken") cdv A outer s H E) (fun cls d _ H => E cls d H) := takes_of rfl rfl rfl rfl
  have hp := passes_of (X := cxOf (L2.CX P w) P w K mg base ["bound", "times", "one", "other", "most"] "is_broken" (defScope (top 22)) (He.ga K "is_broken") cdv A outer s H E) rfl
  have hu := hr.u
  exact (sd_cons (sd_asg (dv 0) (gd_tup rfl (gds_cons (gd_name sc_is_broken.nd rfl (.inl rfl)) (gds_cons (gd_name sc_is_broken.nd rfl (.inl rfl)) (gds_cons (gd_name sc_is_broken.nd rfl (.inl rfl)) gds_nil)))))
      (sd_one (sd_ret (pd_cmp od_gt dI_calm (nomark _) (db (pd_bin od_sub dI_calm (db (pd_ix (od_ix hu) cm_ix (fun _ _ => rfl) (bv 1) (bv 3))) (db (pd_ix (od_ix hu) cm_ix (fun _ _ => rfl) (bv 1) (bv 2))))) (bv 4)))))
theorem sc_broken : FnScope ["record", "times", "where", "number", "bound"] ["record", "times"] (defScope (top 25)) := ⟨rfl, rfl, rfl, by decide +kernel, rfl, by decide +kernel, by decide +kernel⟩
theorem ok_broken (c : C0 K mg) : OkF P w K mg base 8 "broken" ["record", "times"] F_broken := by
  obtain ⟨fdn, F⟩ := c.def_ 26
  refine ⟨fdn, fn_d F sc_broken fun cdv A outer s H E hr => ?_, F.bindsN (ps := ["record", "times"]) fun _ _ _ _ _ _ us hl => match us, hl with | [_, _], _ => rfl, c.glo 48, F.kp⟩
  have tk : Takes (cxOf (L2.CX P w) P w K mg base ["record", "times", "where", "number", "bound"] "broken" (defScope (top 25)) (He.ga K "broken") cdv A outer s H E) (fun cls d _ H => E cls d H) := takes_of rfl rfl rfl rfl
  have hp := passes_of (X := cxOf (L2.CX P w) P w K mg base ["record", "times", "where", "number", "bound"] "broken" (defScope (top 25)) (He.ga K "broken") cdv A outer s H E) rfl
  have hu := hr.u
  exact (sd_cons (sd_set sc_broken.nd rfl (.inr rfl) (pd_ok (ok_by_events c) tk (hr.mono (by decide)) rfl (aCons_len (aCons_len aNil_len)) (af_cons (dv 0) (af_cons (dv 1) af_nil))))
      (sd_one (sd_ret (fd (pf_lc (own := [("number", 3), ("bound", 4)]) rfl sc_broken.nd (id_enum rfl (c.free 15) (af_cons (pd_ok (ok_bounds c) tk (hr.mono (by decide)) rfl (aCons_len aNil_len) (af_cons (dv 0) af_nil)) af_nil)) (blkOk_by (own := [("number", 3), ("bound", 4)]) (by show blkC ["record", "times", "where", "number", "bound"] (defScope (top 25)) _ _ = true; decide +kernel)) (fun _ _ _ _ _ => (gd_tup rfl (gds_cons (gd_name sc_broken.nd rfl (.inl rfl)) (gds_cons (gd_name sc_broken.nd rfl (.inl rfl)) gds_nil)))) (fun _ _ _ _ _ => (tds_one (td (pd_ok (ok_is_broken c) takes0 (hr.mono (by decide)) rfl (aCons_len (aCons_len aNil_len)) (af_cons (dv 4) (af_cons (dv 2) af_nil)))))) (fun _ _ _ _ _ => (dv 3)))))))
theorem sc_is_world : FnScope ["record", "thing"] ["record", "thing"] (defScope (top 26)) := ⟨rfl, rfl, rfl, by decide +kernel, rfl, by decide +kernel, by decide +kernel⟩
theorem ok_is_world (c : C0 K mg) : OkF P w K mg base 9 "is_world" ["record", "thing"] F_is_world := by
  obtain ⟨fdn, F⟩ := c.def_ 27
  refine ⟨fdn, fn_d F sc_is_world fun cdv A outer s H E hr => ?_, F.bindsN (ps := ["record", "thing"]) fun _ _ _ _ _ _ us hl => match us, hl with | [_, _], _ => rfl, c.glo 49, F.kp⟩
  have tk : Takes (cxOf (L2.CX P w) P w K mg base ["record", "thing"] "is_world" (defScope (top 26)) (He.ga K "is_world") cdv A outer s H E) (fun cls d _ H => E cls d H) := takes_of rfl rfl rfl rfl
  have hp := passes_of (X := cxOf (L2.CX P w) P w K mg base ["record", "thing"] "is_world" (defScope (top 26)) (He.ga K "is_world") cdv A outer s H E) rfl
  have hu := hr.u
  exact (sd_one (sd_ret (pd_and (pd_ok (ok_are_times c) tk (hr.mono (by decide)) rfl (aCons_len (aCons_len aNil_len)) (af_cons (dv 0) (af_cons (dv 1) af_nil))) (pd_one (pd_cmp (od_eq hu) cm_eq (nomark _) (db (pd_ok (ok_broken c) tk (hr.mono (by decide)) rfl (aCons_len (aCons_len aNil_len)) (af_cons (dv 0) (af_cons (dv 1) af_nil)))) (fb (pf_lst af_nil)))))))
theorem sc_moved_by : FnScope ["record", "times", "many", "time"] ["record", "times", "many"] (defScope (top 32)) := ⟨rfl, rfl, rfl, by decide +kernel, rfl, by decide +kernel, by decide +kernel⟩
theorem ok_moved_by (c : C0 K mg) : OkF P w K mg base 10 "moved_by" ["record", "times", "many"] F_moved_by := by
  obtain ⟨fdn, F⟩ := c.def_ 28
  refine ⟨fdn, fn_d F sc_moved_by fun cdv A outer s H E hr => ?_, F.bindsN (ps := ["record", "times", "many"]) fun _ _ _ _ _ _ us hl => match us, hl with | [_, _, _], _ => rfl, c.glo 50, F.kp⟩
  have tk : Takes (cxOf (L2.CX P w) P w K mg base ["record", "times", "many", "time"] "moved_by" (defScope (top 32)) (He.ga K "moved_by") cdv A outer s H E) (fun cls d _ H => E cls d H) := takes_of rfl rfl rfl rfl
  have hp := passes_of (X := cxOf (L2.CX P w) P w K mg base ["record", "times", "many", "time"] "moved_by" (defScope (top 32)) (He.ga K "moved_by") cdv A outer s H E) rfl
  have hu := hr.u
  exact (sd_cons (sd_if (td_not (td (pd_ok (ok_is_world c) tk (hr.mono (by decide)) rfl (aCons_len (aCons_len aNil_len)) (af_cons (dv 0) (af_cons (dv 1) af_nil)))))
      (sd_one (sd_raise (c.exc 18 19) rfl tk rfl))
      sd_nil)
      (sd_one (sd_ret (pd_callTy cd_tup cm_tup rfl (c.free 3) (by decide +kernel) (aw_cons (fb (pf_lc (own := [("time", 3)]) rfl sc_moved_by.nd (id_seq (dv 1)) (blkOk_by (own := [("time", 3)]) (by show blkC ["record", "times", "many", "time"] (defScope (top 32)) _ _ = true; decide +kernel)) (fun _ _ _ _ _ => (gd_name sc_moved_by.nd rfl (.inl rfl))) (fun _ _ _ _ _ => tds_nil) (fun _ _ _ _ _ => (pd_bin od_add cm_add (bv 3) (bv 2))))) aw_nil)))))
theorem sc_law : FnScope ["_law_script", "_law_record_here", "_law_places", "_law_row", "_law_table_here", "_law_one", "_law_other", "_law_high", "_law_low", "_law_told", "_law_times", "_law_late", "_law_k", "_law_number", "_law_first", "_law_last", "_law_most", "_law_at", "_law_far", "_law_more", "_law_mine", "_law_yours"] ["_law_script"] (defScope (top 44)) := ⟨rfl, rfl, rfl, by decide +kernel, rfl, by decide +kernel, by decide +kernel⟩
theorem ok_law (c : C0 K mg) {fdn : FuncData} (F : FunD K dd_law.name dd_law.qual dd_law.params dd_law.body dd_law.scope (dd_law.dvs K) (dd_law.kws K) (He.fAd K dd_law.at_) fdn) : FnD P w K mg base 11 (He.ga K "law") fdn ["_law_script"] F_law_k21 := by
  refine fn_d F sc_law fun cdv A outer s H E hr => ?_
  have tk : Takes (cxOf (L2.CX P w) P w K mg base ["_law_script", "_law_record_here", "_law_places", "_law_row", "_law_table_here", "_law_one", "_law_other", "_law_high", "_law_low", "_law_told", "_law_times", "_law_late", "_law_k", "_law_number", "_law_first", "_law_last", "_law_most", "_law_at", "_law_far", "_law_more", "_law_mine", "_law_yours"] "law" (defScope (top 44)) (He.ga K "law") cdv A outer s H E) (fun cls d _ H => E cls d H) := takes_of rfl rfl rfl rfl
  have hp := passes_of (X := cxOf (L2.CX P w) P w K mg base ["_law_script", "_law_record_here", "_law_places", "_law_row", "_law_table_here", "_law_one", "_law_other", "_law_high", "_law_low", "_law_told", "_law_times", "_law_late", "_law_k", "_law_number", "_law_first", "_law_last", "_law_most", "_law_at", "_law_far", "_law_more", "_law_mine", "_law_yours"] "law" (defScope (top 44)) (He.ga K "law") cdv A outer s H E) rfl
  have hu := hr.u
  exact (sd_cons (sd_set sc_law.nd rfl (.inl rfl) (pd_ok (ok_law_record c) tk (hr.mono (by decide)) rfl (aCons_len (aCons_len (aCons_len aNil_len))) (af_cons (dv 0) (af_cons pd_int (af_cons pd_int af_nil)))))
      (sd_cons (sd_set sc_law.nd rfl (.inl rfl) (pd_ok (ok_events c) tk (hr.mono (by decide)) rfl (aCons_len aNil_len) (af_cons (dv 1) af_nil)))
      (sd_cons (sd_set sc_law.nd rfl (.inl rfl) (pd_ok (ok_law_bounds c) tk (hr.mono (by decide)) rfl (aCons_len aNil_len) (af_cons (dv 1) af_nil)))
      (sd_cons (sd_set sc_law.nd rfl (.inl rfl) (pd_ok (ok_law_table c) tk (hr.mono (by decide)) rfl (aCons_len (aCons_len aNil_len)) (af_cons (dv 2) (af_cons (dv 3) af_nil))))
      (sd_cons (sd_if (td_isN (bv 4))
      (sd_one (sd_ret (pd_and (pd_not (pd_ok (ok_has_world c) tk (hr.mono (by decide)) rfl (aCons_len aNil_len) (af_cons (dv 1) af_nil))) (pd_one (pd_isN (db (pd_ok (ok_world c) tk (hr.mono (by decide)) rfl (aCons_len aNil_len) (af_cons (dv 1) af_nil))))))))
      sd_nil)
      (sd_cons (sd_set sc_law.nd rfl (.inl rfl) (pd_ok (ok_law_drawn_world c) tk (hr.mono (by decide)) rfl (aCons_len (aCons_len (aCons_len (aCons_len (aCons_len aNil_len))))) (af_cons (dv 0) (af_cons pd_int (af_cons (dv 2) (af_cons (dv 3) (af_cons (dv 4) af_nil)))))))
      (sd_cons (sd_set sc_law.nd rfl (.inl rfl) (pd_ok (ok_law_drawn_world c) tk (hr.mono (by decide)) rfl (aCons_len (aCons_len (aCons_len (aCons_len (aCons_len aNil_len))))) (af_cons (dv 0) (af_cons pd_int (af_cons (dv 2) (af_cons (dv 3) (af_cons (dv 4) af_nil)))))))
      (sd_cons (sd_set sc_law.nd rfl (.inl rfl) (pd_callTy cd_tup cm_tup rfl (c.free 3) (by decide +kernel) (aw_cons (fb (pf_lc (own := [("_law_mine", 20), ("_law_yours", 21)]) rfl sc_law.nd (id_zip rfl (c.free 9) (af_cons (dv 5) (af_cons (dv 6) af_nil))) (blkOk_by (own := [("_law_mine", 20), ("_law_yours", 21)]) (by show blkC ["_law_script", "_law_record_here", "_law_places", "_law_row", "_law_table_here", "_law_one", "_law_other", "_law_high", "_law_low", "_law_told", "_law_times", "_law_late", "_law_k", "_law_number", "_law_first", "_law_last", "_law_most", "_law_at", "_law_far", "_law_more", "_law_mine", "_law_yours"] (defScope (top 44)) _ _ = true; decide +kernel)) (fun _ _ _ _ _ => (gd_tup rfl (gds_cons (gd_name sc_law.nd rfl (.inl rfl)) (gds_cons (gd_name sc_law.nd rfl (.inl rfl)) gds_nil)))) (fun _ _ _ _ _ => tds_nil) (fun _ _ _ _ _ => (pd_callB (cd_maxU rfl) cm_maxU rfl (c.free 21) (by decide +kernel) (aw_cons (bv 20) (aw_cons (bv 21) aw_nil)))))) aw_nil)))
      (sd_cons (sd_set sc_law.nd rfl (.inl rfl) (pd_callTy cd_tup cm_tup rfl (c.free 3) (by decide +kernel) (aw_cons (fb (pf_lc (own := [("_law_mine", 20), ("_law_yours", 21)]) rfl sc_law.nd (id_zip rfl (c.free 9) (af_cons (dv 5) (af_cons (dv 6) af_nil))) (blkOk_by (own := [("_law_mine", 20), ("_law_yours", 21)]) (by show blkC ["_law_script", "_law_record_here", "_law_places", "_law_row", "_law_table_here", "_law_one", "_law_other", "_law_high", "_law_low", "_law_told", "_law_times", "_law_late", "_law_k", "_law_number", "_law_first", "_law_last", "_law_most", "_law_at", "_law_far", "_law_more", "_law_mine", "_law_yours"] (defScope (top 44)) _ _ = true; decide +kernel)) (fun _ _ _ _ _ => (gd_tup rfl (gds_cons (gd_name sc_law.nd rfl (.inl rfl)) (gds_cons (gd_name sc_law.nd rfl (.inl rfl)) gds_nil)))) (fun _ _ _ _ _ => tds_nil) (fun _ _ _ _ _ => (pd_callB (cd_minU rfl) cm_minU rfl (c.free 20) (by decide +kernel) (aw_cons (bv 20) (aw_cons (bv 21) aw_nil)))))) aw_nil)))
      (sd_cons (sd_set sc_law.nd rfl (.inr rfl) (pd_ok (ok_world c) tk (hr.mono (by decide)) rfl (aCons_len aNil_len) (af_cons (dv 1) af_nil)))
      (sd_cons (sd_for hp rfl (id_seq (pd_tup (af_cons (dv 5) (af_cons (dv 6) (af_cons (dv 7) (af_cons (dv 8) (af_cons (dv 9) af_nil))))))) (gd_name sc_law.nd rfl (.inl rfl))
      (sd_cons (sd_if (PW.pt (wd_or (td_not (td (pd_ok (ok_is_world c) tk (hr.mono (by decide)) rfl (aCons_len (aCons_len aNil_len)) (af_cons (dv 1) (af_cons (dv 10) af_nil))))) (wd_or1 (td_cmp (od_ne hu) cm_ne (nomark _) (db (pd_ok (ok_broken c) tk (hr.mono (by decide)) rfl (aCons_len (aCons_len aNil_len)) (af_cons (dv 1) (af_cons (dv 10) af_nil)))) (fb (pf_lst af_nil))))))
      (sd_one (sd_ret pd_bl))
      sd_nil)
      (sd_cons (sd_set sc_law.nd rfl (.inr rfl) (pd_ok (ok_moved_by c) tk (hr.mono (by decide)) rfl (aCons_len (aCons_len (aCons_len aNil_len))) (af_cons (dv 1) (af_cons (dv 10) (af_cons (pd_bin od_sub dI_calm (db pd_int) (db (pd_callB (cd_maxU rfl) cm_maxU rfl (c.free 21) (by decide +kernel) (aw_cons (bv 10) aw_nil)))) af_nil)))))
      (sd_cons (sd_if (PW.pt (wd_or (td_cmp (od_ne hu) cm_ne (nomark _) (fb (pf_lc (own := [("_law_k", 12)]) rfl sc_law.nd (id_rng1 rfl (c.free 16) (aw_cons (db (pd_callB cd_len cm_len rfl (c.free 4) (by decide +kernel) (aw_cons (bv 2) aw_nil))) aw_nil)) (blkOk_by (own := [("_law_k", 12)]) (by show blkC ["_law_script", "_law_record_here", "_law_places", "_law_row", "_law_table_here", "_law_one", "_law_other", "_law_high", "_law_low", "_law_told", "_law_times", "_law_late", "_law_k", "_law_number", "_law_first", "_law_last", "_law_most", "_law_at", "_law_far", "_law_more", "_law_mine", "_law_yours"] (defScope (top 44)) _ _ = true; decide +kernel)) (fun _ _ _ _ _ => (gd_name sc_law.nd rfl (.inl rfl))) (fun _ _ _ _ _ => (tds_one (td_cmp od_gt dI_calm (nomark _) (db (pd_ix (od_ix hu) cm_ix (fun _ _ => rfl) (bv 11) (bv 12))) (db (pd_ix (od_ix hu) cm_ix (fun _ _ => rfl) (bv 9) (bv 12)))))) (fun _ _ _ _ _ => (dv 12)))) (fb (pf_lst af_nil))) (wd_or1 (td_not (td (pd_ok (ok_is_world c) tk (hr.mono (by decide)) rfl (aCons_len (aCons_len aNil_len)) (af_cons (dv 1) (af_cons (dv 11) af_nil))))))))
      (sd_one (sd_ret pd_bl))
      sd_nil)
      (sd_cons (sd_for hp rfl (id_rng2 rfl (c.free 16) (aw_cons (db pd_int) (aw_cons (db (pd_callB cd_len cm_len rfl (c.free 4) (by decide +kernel) (aw_cons (bv 2) aw_nil))) aw_nil))) (gd_name sc_law.nd rfl (.inl rfl))
      (sd_one (sd_if (PW.pt (wd_and (td_cmp (od_eq hu) cm_eq (nomark _) (db (pd_ix (od_ix hu) cm_ix (fun _ _ => rfl) (db (pd_ix (od_ix hu) cm_ix (fun _ _ => rfl) (bv 2) (bv 12))) (db pd_int))) (db (pd_ix (od_ix hu) cm_ix (fun _ _ => rfl) (db (pd_ix (od_ix hu) cm_ix (fun _ _ => rfl) (bv 2) (db (pd_bin od_sub dI_calm (bv 12) (db pd_int))))) (db pd_int)))) (wd_and1 (td_cmp od_le dI_calm (nomark _) (db (pd_ix (od_ix hu) cm_ix (fun _ _ => rfl) (bv 10) (bv 12))) (db (pd_ix (od_ix hu) cm_ix (fun _ _ => rfl) (bv 10) (db (pd_bin od_sub dI_calm (bv 12) (db pd_int)))))))))
      (sd_one (sd_ret pd_bl))
      sd_nil)))
      (sd_one (sd_for hp rfl (id_enum rfl (c.free 15) (af_cons (dv 3) af_nil)) (gd_tup rfl (gds_cons (gd_name sc_law.nd rfl (.inl rfl)) (gds_cons (gd_tup rfl (gds_cons (gd_name sc_law.nd rfl (.inl rfl)) (gds_cons (gd_name sc_law.nd rfl (.inl rfl)) (gds_cons (gd_name sc_law.nd rfl (.inl rfl)) gds_nil)))) gds_nil)))
      (sd_cons (sd_set sc_law.nd rfl (.inl rfl) (pd_index hu (bv 2) (bv 15)))
      (sd_cons (sd_set sc_law.nd rfl (.inl rfl) (pd_bin od_add cm_add (db (pd_bin od_add cm_add (db (pd_ix (od_ix hu) cm_ix (fun _ _ => rfl) (bv 10) (db (pd_index hu (bv 2) (bv 14))))) (bv 16))) (db pd_int)))
      (sd_cons (sd_set sc_law.nd rfl (.inl rfl) (pd_bin od_add cm_add (db (pd_bin od_add cm_add (db (pd_sl sl_any cm_sl (bv 10) pod_none (pod_some (dv 17)))) (db (pd_tup (af_cons (dv 18) af_nil))))) (db (pd_sl sl_any cm_sl (bv 10) (pod_some (pd_bin od_add cm_add (bv 17) (db pd_int))) pod_none))))
      (sd_one (sd_if (td_cmp (od_notIn hu) cm_notIn (by with_unfolding_all rfl) (bv 13) (db (pd_ok (ok_broken c) tk (hr.mono (by decide)) rfl (aCons_len (aCons_len aNil_len)) (af_cons (dv 1) (af_cons (dv 19) af_nil)))))
      (sd_one (sd_ret pd_bl))
      sd_nil))))))))))))
      (sd_one (sd_ret (pd_and (pd_cmp (od_eq hu) cm_eq (nomark _) (db (pd_callB (cd_maxU rfl) cm_maxU rfl (c.free 21) (by decide +kernel) (aw_cons (bv 9) aw_nil))) (db pd_int)) (pd_one (pd_cmp (od_eq hu) cm_eq (nomark _) (db (pd_ok (ok_moved_by c) tk (hr.mono (by decide)) rfl (aCons_len (aCons_len (aCons_len aNil_len))) (af_cons (dv 1) (af_cons (pd_ok (ok_moved_by c) tk (hr.mono (by decide)) rfl (aCons_len (aCons_len (aCons_len aNil_len))) (af_cons (dv 1) (af_cons (dv 5) (af_cons pd_int af_nil)))) (af_cons (pd_neg (db pd_int)) af_nil))))) (bv 5)))))))))))))))))
end
end Wk
set_option Elab.async false
set_option linter.all false
set_option maxRecDepth 100000
set_option maxHeartbeats 0

namespace Wk
open PySem L2 Evl Fc PySem.Spec PyProof.Rows
def loose : List Str := (["ClockError", "NoRecord", "NoWorld", "MOST_CLOCKS", "MOST_READINGS", "MOST_READING", "MOST_RATE", "MOST_LETTERS", "MOST_TIME", "is_number", "is_clock", "is_event", "is_letter", "is_record", "need_record", "events", "clock_bounds", "letter_bounds", "bounds", "is_broken", "by_events", "are_times", "broken", "is_world", "settled", "world_of", "world", "has_world", "moved_by", "_law_cell"] : List Str) ++ (["_law_drawn", "_law_clock", "_law_letter", "_law_events", "_law_record", "_law_bounds", "_law_table", "_law_world", "_law_drawn_world"] : List Str)
abbrev Rw : PySem.W.OpenRow := PySem.W.OpenLaw.row PySem.Challenge.rw_farclocks_k21_whole_worlds
abbrev hk : PySem.W.Hook := hookX 5 fa fn fx
def ob (s : PySem.W.SharedT) : He.AlD × Bool := obsXG 5 fa fn fx (HandSHeadRun.getT s)
theorem run (w : World) : HandSHeadRun.RunEq Rw (PySem.W.view Rw.prog [44]) hk ob 6000 loose w := by
  intro os
  kernel_rfl
end Wk
set_option Elab.async false
set_option linter.all false
set_option maxRecDepth 100000
set_option maxHeartbeats 2000000
namespace Fc
open PySem L2 Evl PySem.Spec PyProof.Rows
/-! ### the script and what is drawn of it -/
abbrev scD (ns : List Int) : D := .dict [(.none, .list (ns.map PyData.int))]
theorem shaped_ints (ns : List Int) : SeqAt.shaped (.list (ns.map PyData.int)) = true := by
  have h1 : ∀ l : List Int, PyData.canLayAll0 (l.map PyData.int) = true ∧ PyData.depthAll (l.map PyData.int) = 0 := by
    intro l
    induction l with
    | nil => exact ⟨rfl, rfl⟩
    | cons a l ih => simp [PyData.canLayAll0, PyData.depthAll, PyData.canLay0, PyData.depth, ih.1, ih.2]
  simp [SeqAt.shaped, PyData.canLay0, PyData.depth, h1 ns]
theorem atI_lt {α : Type} {xs : List α} {i : Int} (h0 : 0 ≤ i) (h1 : i < xs.length) : ∃ (h : i.toNat < xs.length), atI xs i = some xs[i.toNat] := by
  have h : i.toNat < xs.length := by omega
  refine ⟨h, ?_⟩
  have e : ((i.toNat : Nat) : Int) = i := by omega
  have := atI_nat (List.getElem?_eq_getElem h)
  rw [e] at this
  exact this
theorem law_cell_ok (ns : List Int) (hl : ns.length ≤ 63) (k : Int) : ∃ c : Int, F_law_cell [scD ns, .int k] = .ok (.int c) := by
  unfold F_law_cell M_law_cell
  simp only [runF_2, Nat.sub_self, List.replicate_zero]
  cases ns with
  | nil =>
    refine ⟨7 * k, ?_⟩
    simp [dEq, shaped_ints, PyData.eqv, PyData.eqvAll, SeqAt.shaped, PyData.canLay0, PyData.canLayAll0, PyData.depth, PyData.depthAll, dMul_i]
  | cons n ns =>
    have hl' : (List.map PyData.int (n :: ns)).length = ns.length + 1 := by simp
    have hpos : (0 : Int) < ((List.map PyData.int (n :: ns)).length : Nat) := by omega
    obtain ⟨h1, h2⟩ := atI_lt (xs := List.map PyData.int (n :: ns)) (Int.emod_nonneg k (by omega)) (Int.emod_lt_of_pos k hpos)
    have hn : dEq (scD (n :: ns)) (.list []) = .ok (.bool false) := by
      have := shaped_ints (n :: ns)
      unfold dEq scD
      rw [unS_scr, this]
      rfl
    have hb : ((List.map PyData.int (n :: ns)).length : Int) < 1073741824 := by
      have : (n :: ns).length ≤ 63 := hl
      rw [List.length_map]
      omega
    obtain ⟨v, hv⟩ : ∃ v : Int, atI (List.map PyData.int (n :: ns)) (k % ((List.map PyData.int (n :: ns)).length : Int)) = some (.int v) := ⟨_, by rw [h2, List.getElem_map]⟩
    refine ⟨v + 6553 * (k / ((List.map PyData.int (n :: ns)).length : Int)), ?_⟩
    have hm := dMul_i 6553 (k / ((List.map PyData.int (n :: ns)).length : Int)) (by simp)
    have hd := dMod_i k _ hpos
    have hf := dFdiv_i k _ ⟨hpos, hb⟩
    unfold scD at hn ⊢
    clear hl hl' hb h1 h2 hpos
    generalize List.map PyData.int (n :: ns) = L at *
    simp [hn, hd, hf, hm, hv]
theorem law_drawn_ok (ns : List Int) (hl : ns.length ≤ 63) (k m : Int) (hm : 0 < m) : ∃ r : Int, 0 ≤ r ∧ r < m ∧ F_law_drawn [scD ns, .int k, .int m] = .ok (.int r) := by
  obtain ⟨c, hc⟩ := law_cell_ok ns hl k
  unfold F_law_drawn M_law_drawn
  simp only [runF_3, List.reduceReplicate, Nat.reduceSub]
  have q1 := Int.emod_nonneg ((c % 2147483563) * 69069 + 104723 * (k + 1)) (show (2147483563 : Int) ≠ 0 by decide)
  have q2 := Int.emod_lt_of_pos ((c % 2147483563) * 69069 + 104723 * (k + 1)) (show (0 : Int) < 2147483563 by decide)
  generalize hx : ((c % 2147483563) * 69069 + 104723 * (k + 1)) % 2147483563 = x at q1 q2
  have q3 := Int.emod_nonneg (x * x + x / 3) (show (2147483399 : Int) ≠ 0 by decide)
  have q4 := Int.emod_lt_of_pos (x * x + x / 3) (show (0 : Int) < 2147483399 by decide)
  generalize hy : (x * x + x / 3) % 2147483399 = y at q3 q4
  refine ⟨((y * y + y / 7) % 2147483647 / 11) % m, Int.emod_nonneg _ (by omega), Int.emod_lt_of_pos _ hm, ?_⟩
  have hxx : dMul (.int x) (.int x) = .ok (.int (x * x)) := dMul_i _ _ (by simp; omega)
  have hyy : dMul (.int y) (.int y) = .ok (.int (y * y)) := dMul_i _ _ (by simp; omega)
  simp [hc, dMod_i, dMul_i, dFdiv_i, hx, hxx, hy, hyy, dMod_i _ _ hm]
end Fc
set_option Elab.async false
set_option linter.all false
set_option maxRecDepth 100000
set_option maxHeartbeats 2000000
namespace Fc
open PySem L2 Evl PySem.Spec PyProof.Rows
/-! ### data of a bounded shape -/
def leafB (w : Nat) : D → Bool
  | .none => true
  | .bool _ => true
  | .int _ => true
  | .str x => PyData.strOk x && decide (x.length ≤ w)
  | _ => false
def gd (w : Nat) : Nat → D → Bool
  | 0, d => leafB w d
  | n + 1, d => match d with
    | .list xs => decide (xs.length ≤ w) && xs.all (gd w n)
    | .tuple xs => decide (xs.length ≤ w) && xs.all (gd w n)
    | d => leafB w d
theorem gd_lay {w : Nat} : ∀ (n : Nat) (d : D), gd w n d = true → d.canLay0 = true ∧ d.depth ≤ n
  | 0, d, h => by
    cases d <;> simp_all [gd, leafB, PyData.canLay0, PyData.depth]
  | n + 1, d, h => by
    have all : ∀ xs : List D, xs.all (gd w n) = true → PyData.canLayAll0 xs = true ∧ PyData.depthAll xs ≤ n := by
      intro xs
      induction xs with
      | nil => intro _; exact ⟨rfl, Nat.zero_le _⟩
      | cons x xs ih =>
        intro h
        rw [List.all_cons, Bool.and_eq_true] at h
        obtain ⟨a, b⟩ := gd_lay n x h.1
        obtain ⟨c, e⟩ := ih h.2
        simp only [PyData.canLayAll0, PyData.depthAll, a, c, Bool.and_self, true_and]
        exact Nat.max_le.mpr ⟨b, e⟩
    cases d with
    | list xs =>
      simp only [gd, Bool.and_eq_true] at h
      obtain ⟨a, b⟩ := all xs h.2
      simp only [PyData.canLay0, PyData.depth, a, true_and]
      omega
    | tuple xs =>
      simp only [gd, Bool.and_eq_true] at h
      obtain ⟨a, b⟩ := all xs h.2
      simp only [PyData.canLay0, PyData.depth, a, true_and]
      omega
    | dict es => simp [gd, leafB] at h
    | str x => simp_all [gd, leafB, PyData.canLay0, PyData.depth]
    | _ => simp [PyData.canLay0, PyData.depth]
theorem gd_shaped {w n : Nat} {d : D} (h : gd w n d = true) (hn : n ≤ 64) : SeqAt.shaped d = true := by
  obtain ⟨a, b⟩ := gd_lay n d h
  unfold SeqAt.shaped
  rw [a, decide_eq_true (Nat.le_trans b hn)] <;> rfl
theorem gd_dict {w n : Nat} {es : List (D × D)} (h : gd w n (.dict es) = true) : False := by
  cases n <;> simp [gd, leafB] at h
theorem gd_kids {w n : Nat} {xs : List D} (h : gd w n (.tuple xs) = true) : ∃ m, n = m + 1 ∧ xs.length ≤ w ∧ ∀ x ∈ xs, gd w m x = true := by
  cases n with
  | zero => simp [gd, leafB] at h
  | succ m =>
    simp only [gd, Bool.and_eq_true, decide_eq_true_eq, List.all_eq_true] at h
    exact ⟨m, rfl, h.1, h.2⟩
theorem gd_kidsL {w n : Nat} {xs : List D} (h : gd w n (.list xs) = true) : ∃ m, n = m + 1 ∧ xs.length ≤ w ∧ ∀ x ∈ xs, gd w m x = true := by
  cases n with
  | zero => simp [gd, leafB] at h
  | succ m =>
    simp only [gd, Bool.and_eq_true, decide_eq_true_eq, List.all_eq_true] at h
    exact ⟨m, rfl, h.1, h.2⟩
theorem gd_leaf {w v : Nat} (hv : w ≤ v) {d : D} (h : leafB w d = true) : leafB v d = true := by
  cases d <;> simp_all [leafB]
  exact Nat.le_trans h.2 hv
theorem gd_mono {w v : Nat} (hv : w ≤ v) : ∀ {n m : Nat}, n ≤ m → ∀ {d : D}, gd w n d = true → gd v m d = true
  | 0, 0, _, d, h => gd_leaf hv h
  | 0, m + 1, _, d, h => by
    have h : leafB w d = true := h
    cases d with
    | list xs => simp [leafB] at h
    | tuple xs => simp [leafB] at h
    | _ => exact gd_leaf hv h
  | n + 1, 0, e, d, h => absurd e (by omega)
  | n + 1, m + 1, e, d, h => by
    cases d with
    | list xs =>
      simp only [gd, Bool.and_eq_true, decide_eq_true_eq, List.all_eq_true] at h ⊢
      exact ⟨Nat.le_trans h.1 hv, fun x hx => gd_mono hv (by omega) (h.2 x hx)⟩
    | tuple xs =>
      simp only [gd, Bool.and_eq_true, decide_eq_true_eq, List.all_eq_true] at h ⊢
      exact ⟨Nat.le_trans h.1 hv, fun x hx => gd_mono hv (by omega) (h.2 x hx)⟩
    | dict es => exact (gd_dict h).elim
    | none => rfl
    | bool b => rfl
    | int b => rfl
    | str x => exact gd_leaf (d := .str x) hv h
theorem gdTup {w n : Nat} {xs : List D} (hl : xs.length ≤ w) (h : ∀ x ∈ xs, gd w n x = true) : gd w (n + 1) (.tuple xs) = true := by
  simp only [gd, Bool.and_eq_true, decide_eq_true_eq, List.all_eq_true]
  exact ⟨hl, h⟩
theorem gdLst {w n : Nat} {xs : List D} (hl : xs.length ≤ w) (h : ∀ x ∈ xs, gd w n x = true) : gd w (n + 1) (.list xs) = true := by
  simp only [gd, Bool.and_eq_true, decide_eq_true_eq, List.all_eq_true]
  exact ⟨hl, h⟩
/-! ### isinstance -/
@[simp] theorem isI_n (T : String) : dIsI T .none = .ok (.bool (isT T .none)) := rfl
@[simp] theorem isI_b (T : String) (b : Bool) : dIsI T (.bool b) = .ok (.bool (isT T (.bool b))) := rfl
@[simp] theorem isI_i (T : String) (b : Int) : dIsI T (.int b) = .ok (.bool (isT T (.int b))) := rfl
@[simp] theorem isI_s (T : String) (b : Str) : dIsI T (.str b) = .ok (.bool (isT T (.str b))) := rfl
@[simp] theorem isI_l (T : String) (b : List D) : dIsI T (.list b) = .ok (.bool (isT T (.list b))) := rfl
@[simp] theorem isI_t (T : String) (b : List D) : dIsI T (.tuple b) = .ok (.bool (isT T (.tuple b))) := rfl
@[simp] theorem isT_n (T : String) : isT T .none = ("NoneType" == T || (T == "int" && "NoneType" == "bool")) := rfl
@[simp] theorem isT_b (T : String) (b : Bool) : isT T (.bool b) = ("bool" == T || (T == "int" && "bool" == "bool")) := rfl
@[simp] theorem isT_i (T : String) (b : Int) : isT T (.int b) = ("int" == T || (T == "int" && "int" == "bool")) := rfl
@[simp] theorem isT_s (T : String) (b : Str) : isT T (.str b) = ("str" == T || (T == "int" && "str" == "bool")) := rfl
@[simp] theorem isT_l (T : String) (b : List D) : isT T (.list b) = ("list" == T || (T == "int" && "list" == "bool")) := rfl
@[simp] theorem isT_t (T : String) (b : List D) : isT T (.tuple b) = ("tuple" == T || (T == "int" && "tuple" == "bool")) := rfl
/-! ### places of short lists -/
@[simp] theorem atI_0 {α : Type} (a : α) (r : List α) : atI (a :: r) 0 = some a := by have := atI_nat (xs := a :: r) (j := 0) (v := a) rfl; simpa using this
@[simp] theorem atI_1 {α : Type} (a b : α) (r : List α) : atI (a :: b :: r) 1 = some b := by have := atI_nat (xs := a :: b :: r) (j := 1) (v := b) rfl; simpa using this
@[simp] theorem atI_2 {α : Type} (a b c : α) (r : List α) : atI (a :: b :: c :: r) 2 = some c := by have := atI_nat (xs := a :: b :: c :: r) (j := 2) (v := c) rfl; simpa using this
@[simp] theorem atI_3 {α : Type} (a b c d : α) (r : List α) : atI (a :: b :: c :: d :: r) 3 = some d := by have := atI_nat (xs := a :: b :: c :: d :: r) (j := 3) (v := d) rfl; simpa using this
theorem boolsOf_mapP {α : Type} (l : List α) (p : α → Bool) : boolsOf (l.map fun x => .bool (p x)) = some (l.map p) := by
  induction l with
  | nil => rfl
  | cons a l ih => simp [boolsOf, ih]
@[simp] theorem dAll_map {α : Type} (l : List α) (p : α → Bool) : dAll [.list (l.map fun x => .bool (p x))] = .ok (.bool (l.all p)) := by
  have e : (l.map p).all id = l.all p := by
    induction l with
    | nil => rfl
    | cons a l ih => simp [List.all_map]
  unfold dAll
  simp only [boolsOf_mapP, e]
theorem fm_some {α β : Type} (l : List α) (f : α → β) : l.filterMap (fun x => some (f x)) = l.map f := by
  induction l with
  | nil => rfl
  | cons a l ih => simp
theorem fm_if {α : Type} (l : List α) (p : α → Bool) : l.filterMap (fun x => if p x = true then some x else none) = l.filter p := by
  induction l with
  | nil => rfl
  | cons a l ih => by_cases h : p a = true <;> simp [h, ih]
/-! ### numbers -/
def numB (lo hi : Int) : D → Bool
  | .int i => decide (lo ≤ i) && decide (i ≤ hi)
  | _ => false
@[simp] theorem numB_i (lo hi i : Int) : numB lo hi (.int i) = (decide (lo ≤ i) && decide (i ≤ hi)) := rfl
theorem numB_true {lo hi : Int} {d : D} (h : numB lo hi d = true) : ∃ i, d = .int i ∧ lo ≤ i ∧ i ≤ hi := by
  cases d with
  | int i =>
    simp only [numB, Bool.and_eq_true, decide_eq_true_eq] at h
    exact ⟨i, rfl, h.1, h.2⟩
  | _ => simp [numB] at h
theorem is_number_ok {w n : Nat} {x : D} (h : gd w n x = true) (lo hi : Int) : F_is_number [x, .int lo, .int hi] = .ok (.bool (numB lo hi x)) := by
  cases x with
  | dict es => exact (gd_dict h).elim
  | int i =>
    by_cases h1 : lo ≤ i <;> simp [F_is_number, M_is_number, runF_3, numB, h1]
  | _ => simp [F_is_number, M_is_number, runF_3, numB]
theorem is_number_i (i lo hi : Int) : F_is_number [.int i, .int lo, .int hi] = .ok (.bool (numB lo hi (.int i))) := is_number_ok (w := 0) (n := 0) rfl lo hi
/-! ### clocks -/
structure Clk where
  slow : Int
  fast : Int
  rs : List Int
def Clk.d (c : Clk) : D := .tuple [.int c.slow, .int c.fast, .tuple (c.rs.map PyData.int)]
structure Clk.Ok (c : Clk) : Prop where
  s1 : 1 ≤ c.slow
  sf : c.slow ≤ c.fast
  f9 : c.fast ≤ 9
  l1 : 1 ≤ c.rs.length
  l4 : c.rs.length ≤ 4
  r0 : ∀ r ∈ c.rs, 0 ≤ r ∧ r ≤ 99
  inc : c.rs.Pairwise (· < ·)
/-- rising -/
def incB : List Int → Bool
  | a :: b :: r => decide (a < b) && incB (b :: r)
  | _ => true
theorem incB_iff : ∀ l : List Int, incB l = true ↔ l.Pairwise (· < ·)
  | [] => by simp [incB]
  | [a] => by simp [incB]
  | a :: b :: r => by
    have ih := incB_iff (b :: r)
    simp only [incB, Bool.and_eq_true, decide_eq_true_eq, ih]
    constructor
    · rintro ⟨h, p⟩
      refine List.pairwise_cons.mpr ⟨fun x hx => ?_, p⟩
      rcases List.mem_cons.mp hx with z | z
      · omega
      · have := (List.pairwise_cons.mp p).1 x z; omega
    · intro p
      obtain ⟨h, p⟩ := List.pairwise_cons.mp p
      exact ⟨h b (by simp), p⟩
def clkB : D → Bool
  | .tuple [.int a, b, .tuple rs] => numB 1 9 (.int a) && numB a 9 b && decide (1 ≤ rs.length) && decide (rs.length ≤ 4) && rs.all (numB 0 99) && (match intsOf rs with | some ns => incB ns | none => false)
  | _ => false
theorem all_numB {lo hi : Int} {rs : List D} (h : rs.all (numB lo hi) = true) : ∃ ns : List Int, rs = ns.map PyData.int ∧ ∀ r ∈ ns, lo ≤ r ∧ r ≤ hi := by
  induction rs with
  | nil => exact ⟨[], rfl, by simp⟩
  | cons a rs ih =>
    rw [List.all_cons, Bool.and_eq_true] at h
    obtain ⟨ns, rfl, h2⟩ := ih h.2
    obtain ⟨i, rfl, h3⟩ := numB_true h.1
    exact ⟨i :: ns, rfl, fun r hr => by
      rcases List.mem_cons.mp hr with z | z
      · rw [z]; exact h3
      · exact h2 r z⟩
theorem numB_all {lo hi : Int} {ns : List Int} (h : ∀ r ∈ ns, lo ≤ r ∧ r ≤ hi) : (ns.map PyData.int).all (numB lo hi) = true := by
  rw [List.all_map, List.all_eq_true]
  intro x hx
  have := h x hx
  simp [numB, this]
theorem clkB_iff (x : D) : clkB x = true ↔ ∃ c : Clk, c.Ok ∧ x = c.d := by
  constructor
  · intro h
    unfold clkB at h
    split at h
    · rename_i a b rs
      simp only [Bool.and_eq_true, decide_eq_true_eq, numB_i] at h
      obtain ⟨⟨⟨⟨⟨h1, h2⟩, h3⟩, h4⟩, h5⟩, h6⟩ := h
      obtain ⟨i, rfl, h7, h8⟩ := numB_true h2
      obtain ⟨ns, rfl, h9⟩ := all_numB h5
      rw [List.length_map] at h3 h4
      simp only [intsOf_map] at h6
      exact ⟨⟨a, i, ns⟩, ⟨h1.1, h7, h8, h3, h4, h9, (incB_iff _).mp h6⟩, rfl⟩
    · cases h
  · rintro ⟨c, o, rfl⟩
    have e := (incB_iff c.rs).mpr o.inc
    have e2 := numB_all o.r0
    have h1 := o.s1
    have h2 := o.sf
    have h3 := o.f9
    have h4 := o.l1
    have h5 := o.l4
    have h6 : c.slow ≤ 9 := by omega
    simp [clkB, Clk.d, e, e2, h1, h2, h3, h4, h5, h6]
theorem zip_inc : ∀ (ns : List Int), ((zipD (ns.map PyData.int) ((ns.map PyData.int).drop 1)).all fun p => match p with | .tuple [.int a, .int b] => decide (a < b) | _ => false) = incB ns
  | [] => rfl
  | [a] => rfl
  | a :: b :: r => by
    have ih := zip_inc (b :: r)
    simp only [List.map_cons, List.drop_succ_cons, List.drop_zero] at ih ⊢
    simp only [zipD, List.all_cons, ih, incB]
/-- all([p(x) for x in xs]) -/
theorem all_lc {it : DI} {g : DG} {t m : DE} {vs : List Nat} {ρ : En} {ds : List D} {p : D → Bool} (hi : it ρ = .ok ds) (h : ∀ d ∈ ds, lcStep g t m vs ρ d = some (some (.bool (p d)))) (hl : ds.length ≤ 100000) : ∃ L, eLc it g t m vs ρ = .ok (.list L) ∧ dAll [.list L] = .ok (.bool (ds.all p)) :=
  ⟨_, eLc_map (f := fun d => some (.bool (p d))) hi h hl, by rw [fm_some]; exact dAll_map ds p⟩
theorem C_is_clock_1_ok {w n : Nat} {rs : List D} (h : ∀ x ∈ rs, gd w n x = true) (hl : rs.length ≤ 4) (s0 s2 s3 : Slot) : ∃ L, C_is_clock_1 [s0, .fz (.tuple rs), s2, s3] = .ok (.list L) ∧ dAll [.list L] = .ok (.bool (rs.all (numB 0 99))) := by
  refine all_lc (by simp) (fun x hx => ?_) (by omega)
  rw [lcStep_eq]
  simp [wipeE]
  rw [lcK_map (b := true) rfl fun _ => by simp; exact is_number_ok (h x hx) 0 99]
  rfl
end Fc
set_option Elab.async false
set_option linter.all false
set_option maxRecDepth 100000
set_option maxHeartbeats 2000000
namespace Fc
open PySem L2 Evl PySem.Spec PyProof.Rows
@[simp] theorem gTup2 (i j : Nat) (a b : D) (ρ : En) : gTupD 2 (gConsD (gN i) (gConsD (gN j) gNilD)) (.tuple [a, b]) ρ = some ((ρ.set i (.fz a)).set j (.fz b)) := rfl
theorem cutL_1 {α : Type} (xs : List α) : cutL xs (some 1) none = xs.drop 1 := by
  unfold cutL
  rw [HT.sIx_none]
  have e : HT.sIx xs.length 0 (some 1) = min 1 xs.length := HT.sIx_nat xs.length 0 1
  rw [e]
  cases xs with
  | nil => rfl
  | cons a l =>
    have : min 1 (a :: l).length = 1 := by simp
    rw [this]
    simp
theorem zipD_mem : ∀ {xs ys : List D} {d : D}, d ∈ zipD xs ys → ∃ x y, d = .tuple [x, y] ∧ x ∈ xs ∧ y ∈ ys
  | [], _, _, h => by simp [zipD] at h
  | _ :: _, [], _, h => by simp [zipD] at h
  | x :: xs, y :: ys, d, h => by
    rcases List.mem_cons.mp (by simpa [zipD] using h : d ∈ .tuple [x, y] :: zipD xs ys) with z | z
    · exact ⟨x, y, z, by simp, by simp⟩
    · obtain ⟨a, b, h1, h2, h3⟩ := zipD_mem z
      exact ⟨a, b, h1, List.mem_cons_of_mem _ h2, List.mem_cons_of_mem _ h3⟩
theorem zipD_length : ∀ (xs ys : List D), (zipD xs ys).length ≤ xs.length
  | [], _ => Nat.le_refl _
  | _ :: _, [] => Nat.zero_le _
  | x :: xs, y :: ys => Nat.succ_le_succ (zipD_length xs ys)
theorem C_is_clock_2_ok (ns : List Int) (hl : ns.length ≤ 4) (s0 s2 s3 : Slot) : ∃ L, C_is_clock_2 [s0, .fz (.tuple (ns.map PyData.int)), s2, s3] = .ok (.list L) ∧ dAll [.list L] = .ok (.bool (incB ns)) := by
  rw [← zip_inc]
  refine all_lc (by simp [cutL_1, dZip]) (fun x hx => ?_) ?_
  · obtain ⟨a, b, rfl, ha, hb⟩ := zipD_mem hx
    obtain ⟨i, _, rfl⟩ := List.mem_map.mp ha
    obtain ⟨j, _, rfl⟩ := List.mem_map.mp (List.mem_of_mem_drop hb)
    rw [lcStep_eq]
    simp [wipeE]
    rw [lcK_map (b := true) rfl fun _ => by simp; rfl]
    rfl
  · have := zipD_length (ns.map PyData.int) ((ns.map PyData.int).drop 1)
    rw [List.length_map] at this
    omega
theorem is_clock_ok {w n : Nat} {x : D} (h : gd w n x = true) : F_is_clock [x] = .ok (.bool (clkB x)) := by
  unfold F_is_clock M_is_clock
  cases x with
  | dict es => exact (gd_dict h).elim
  | tuple xs =>
    obtain ⟨m, rfl, _, hk⟩ := gd_kids h
    match xs, hk with
    | [], _ => simp [runF_1, clkB]
    | [_], _ => simp [runF_1, clkB]
    | [_, _], _ => simp [runF_1, clkB]
    | a :: b :: c :: e :: r, _ =>
      have : (((r.length : Int) + 1 + 1 + 1 + 1) == 3) = false := by
        rw [beq_eq_false_iff_ne]; omega
      simp [runF_1, clkB, this]
    | [a, b, c], hk =>
      have ga := hk a (by simp)
      have gb := hk b (by simp)
      have gc := hk c (by simp)
      have e1 := is_number_ok ga 1 9
      by_cases h1 : numB 1 9 a = true
      · obtain ⟨i, rfl, h2, h3⟩ := numB_true h1
        have e2 := is_number_ok gb i 9
        by_cases h4 : numB i 9 b = true
        · cases c with
          | dict es => exact (gd_dict gc).elim
          | tuple rs =>
            obtain ⟨m2, rfl, _, hk2⟩ := gd_kids gc
            by_cases h5 : 1 ≤ rs.length
            · by_cases h6 : rs.length ≤ 4
              · obtain ⟨L, e3, e3'⟩ := C_is_clock_1_ok hk2 h6 (.fz (.tuple [.int i, b, .tuple rs])) .un .un
                by_cases h7 : rs.all (numB 0 99) = true
                · obtain ⟨ns, rfl, h8⟩ := all_numB h7
                  obtain ⟨L2, e4, e4'⟩ := C_is_clock_2_ok ns (by simpa using h6) (.fz (.tuple [.int i, b, .tuple (ns.map PyData.int)])) .un .un
                  have i5 : (1 : Int) ≤ ((ns.length : Nat) : Int) := by rw [List.length_map] at h5; omega
                  have i6 : ((ns.length : Nat) : Int) ≤ 4 := by rw [List.length_map] at h6; omega
                  rw [List.length_map] at h5 h6
                  simp only [runF_1, List.reduceReplicate, Nat.reduceSub]
                  simp [e1, e2, e3, e3', e4, e4',  h1, h2, h3, h4, h5, h6, h7, i5, i6, clkB]
                · have i5 : (1 : Int) ≤ ((rs.length : Nat) : Int) := by omega
                  have i6 : ((rs.length : Nat) : Int) ≤ 4 := by omega
                  have h7 : rs.all (numB 0 99) = false := by simpa using h7
                  simp only [runF_1, List.reduceReplicate, Nat.reduceSub]
                  simp [e1, e2, e3, e3', h1, h2, h3, h4, h5, h6, h7, i5, i6, clkB]
              · have i6 : ¬ ((rs.length : Nat) : Int) ≤ 4 := by omega
                have i5 : (1 : Int) ≤ ((rs.length : Nat) : Int) := by omega
                simp [runF_1, e1, e2, h1, h2, h3, h4, h5, h6, i5, i6, clkB]
            · have i5 : ¬ (1 : Int) ≤ ((rs.length : Nat) : Int) := by omega
              simp [runF_1, e1, e2, h1, h2, h3, h4, h5, i5, clkB]
          | _ => simp [runF_1, e1, e2, h1, h2, h3, h4, clkB]
        · have h4 : numB i 9 b = false := by simpa using h4
          have : clkB (.tuple [.int i, b, c]) = false := by
            unfold clkB
            split
            · rename_i q; cases q; simp [h4]
            · rfl
          simp [runF_1, e1, e2, h1, h2, h3, h4, this]
      · have h1 : numB 1 9 a = false := by simpa using h1
        have : clkB (.tuple [a, b, c]) = false := by
          unfold clkB
          split
          · rename_i q; cases q; simp [h1]
          · rfl
        simp [runF_1, e1, h1, this]
  | _ => simp [runF_1, clkB]
end Fc
set_option Elab.async false
set_option linter.all false
set_option maxRecDepth 100000
set_option maxHeartbeats 2000000
namespace Fc
open PySem L2 Evl PySem.Spec PyProof.Rows
/-! ### events, letters, records -/
abbrev Ev := Nat × Nat
def evd (e : Ev) : D := .tuple [.int (e.1 : Nat), .int (e.2 : Nat)]
structure Ltr where
  a : Ev
  b : Ev
  lo : Int
  hi : Option Int
def optD : Option Int → D
  | some h => .int h
  | none => .none
def Ltr.d (l : Ltr) : D := .tuple [evd l.a, evd l.b, .int l.lo, optD l.hi]
structure Rec where
  cs : List Clk
  ls : List Ltr
def Rec.d (r : Rec) : D := .tuple [.tuple (r.cs.map Clk.d), .tuple (r.ls.map Ltr.d)]
def EvOk (cs : List Clk) (e : Ev) : Prop := ∃ c, cs[e.1]? = some c ∧ e.2 < c.rs.length
structure Ltr.Ok (cs : List Clk) (l : Ltr) : Prop where
  ea : EvOk cs l.a
  eb : EvOk cs l.b
  ne : l.a ≠ l.b
  lo0 : 0 ≤ l.lo
  lo9 : l.lo ≤ 999
  hi : ∀ h, l.hi = some h → l.lo ≤ h ∧ h ≤ 999
structure Rec.Ok (r : Rec) : Prop where
  c1 : 1 ≤ r.cs.length
  c4 : r.cs.length ≤ 4
  cs : ∀ c ∈ r.cs, c.Ok
  l8 : r.ls.length ≤ 8
  ls : ∀ l ∈ r.ls, l.Ok r.cs
def evB (cs : List Clk) : D → Bool
  | .tuple [.int i, b] => numB 0 ((cs.length : Nat) - 1) (.int i) && (match cs[i.toNat]? with
    | some c => numB 0 ((c.rs.length : Nat) - 1) b
    | none => false)
  | _ => false
def letB (cs : List Clk) : D → Bool
  | .tuple [a, b, .int lo, hi] => numB 0 999 (.int lo) && evB cs a && evB cs b && !(PyData.eqv a b) && (isN hi || numB lo 999 hi)
  | _ => false
theorem evd_inj {a b : Ev} (h : evd a = evd b) : a = b := by
  simp only [evd, PyData.tuple.injEq, List.cons.injEq, PyData.int.injEq, and_true] at h
  exact Prod.ext (by omega) (by omega)
theorem eqv_evd (a b : Ev) : PyData.eqv (evd a) (evd b) = decide (a = b) := by
  simp only [evd, PyData.eqv, PyData.eqvAll, Bool.and_true]
  by_cases h : a = b
  · subst h; simp
  · simp only [h, decide_false]
    rw [Bool.and_eq_false_iff, beq_eq_false_iff_ne, beq_eq_false_iff_ne]
    by_cases h1 : a.1 = b.1
    · right
      intro q
      exact h (Prod.ext h1 (by omega))
    · left
      omega
theorem evB_iff (cs : List Clk) (x : D) : evB cs x = true ↔ ∃ e : Ev, EvOk cs e ∧ x = evd e := by
  constructor
  · intro h
    unfold evB at h
    split at h
    · rename_i i b
      rw [Bool.and_eq_true] at h
      obtain ⟨h1, h2⟩ := h
      split at h2
      · rename_i c hc
        obtain ⟨j, rfl, h3, h4⟩ := numB_true h2
        simp only [numB_i, Bool.and_eq_true, decide_eq_true_eq] at h1
        refine ⟨(i.toNat, j.toNat), ⟨c, hc, ?_⟩, ?_⟩
        · show j.toNat < _
          omega
        · have e1 : ((i.toNat : Nat) : Int) = i := by omega
          have e2 : ((j.toNat : Nat) : Int) = j := by omega
          simp only [evd, e1, e2]
      · cases h2
    · cases h
  · rintro ⟨e, ⟨c, h1, h2⟩, rfl⟩
    have h3 : e.1 < cs.length := (List.getElem?_eq_some_iff.mp h1).1
    have i1 : ((e.1 : Nat) : Int) ≤ (cs.length : Nat) - 1 := by omega
    have i2 : ((e.2 : Nat) : Int) ≤ (c.rs.length : Nat) - 1 := by omega
    simp [evB, evd, h1, i1, i2]
theorem letB_iff (cs : List Clk) (x : D) : letB cs x = true ↔ ∃ l : Ltr, l.Ok cs ∧ x = l.d := by
  constructor
  · intro h
    unfold letB at h
    split at h
    · rename_i a b lo hi
      simp only [Bool.and_eq_true, numB_i, decide_eq_true_eq, Bool.or_eq_true, Bool.not_eq_true'] at h
      obtain ⟨⟨⟨⟨h1, h2⟩, h3⟩, h4⟩, h5⟩ := h
      obtain ⟨ea, ha, rfl⟩ := (evB_iff cs a).mp h2
      obtain ⟨eb, hb, rfl⟩ := (evB_iff cs b).mp h3
      rw [eqv_evd, decide_eq_false_iff_not] at h4
      rcases h5 with h5 | h5
      · have : hi = .none := by
          cases hi <;> first | rfl | cases h5
        subst this
        exact ⟨⟨ea, eb, lo, none⟩, ⟨ha, hb, h4, h1.1, h1.2, fun h z => nomatch z⟩, rfl⟩
      · obtain ⟨k, rfl, h6, h7⟩ := numB_true h5
        exact ⟨⟨ea, eb, lo, some k⟩, ⟨ha, hb, h4, h1.1, h1.2, fun h z => by cases z; exact ⟨h6, h7⟩⟩, rfl⟩
    · cases h
  · rintro ⟨l, o, rfl⟩
    have h1 := (evB_iff cs _).mpr ⟨l.a, o.ea, rfl⟩
    have h2 := (evB_iff cs _).mpr ⟨l.b, o.eb, rfl⟩
    have h3 := eqv_evd l.a l.b
    have h4 : decide (l.a = l.b) = false := decide_eq_false o.ne
    cases hh : l.hi with
    | none => simp [letB, Ltr.d, optD, hh, h1, h2, h3, h4, o.lo0, o.lo9]
    | some k =>
      have := o.hi k hh
      simp [letB, Ltr.d, optD, hh, h1, h2, h3, h4, o.lo0, o.lo9, this]
theorem clks_of : ∀ {cds : List D}, cds.all clkB = true → ∃ cs : List Clk, cds = cs.map Clk.d ∧ ∀ c ∈ cs, c.Ok
  | [], _ => ⟨[], rfl, by simp⟩
  | x :: xs, h => by
    rw [List.all_cons, Bool.and_eq_true] at h
    obtain ⟨c, o, rfl⟩ := (clkB_iff x).mp h.1
    obtain ⟨cs, rfl, h2⟩ := clks_of h.2
    exact ⟨c :: cs, rfl, fun y hy => by
      rcases List.mem_cons.mp hy with z | z
      · rw [z]; exact o
      · exact h2 y z⟩
theorem ltrs_of {cs : List Clk} : ∀ {lds : List D}, lds.all (letB cs) = true → ∃ ls : List Ltr, lds = ls.map Ltr.d ∧ ∀ l ∈ ls, l.Ok cs
  | [], _ => ⟨[], rfl, by simp⟩
  | x :: xs, h => by
    rw [List.all_cons, Bool.and_eq_true] at h
    obtain ⟨c, o, rfl⟩ := (letB_iff cs x).mp h.1
    obtain ⟨cs, rfl, h2⟩ := ltrs_of h.2
    exact ⟨c :: cs, rfl, fun y hy => by
      rcases List.mem_cons.mp hy with z | z
      · rw [z]; exact o
      · exact h2 y z⟩
theorem clks_all {cs : List Clk} (h : ∀ c ∈ cs, c.Ok) : (cs.map Clk.d).all clkB = true := by
  rw [List.all_eq_true]
  intro x hx
  obtain ⟨c, hc, rfl⟩ := List.mem_map.mp hx
  exact (clkB_iff _).mpr ⟨c, h c hc, rfl⟩
theorem ltrs_all {cs : List Clk} {ls : List Ltr} (h : ∀ l ∈ ls, l.Ok cs) : (ls.map Ltr.d).all (letB cs) = true := by
  rw [List.all_eq_true]
  intro x hx
  obtain ⟨c, hc, rfl⟩ := List.mem_map.mp hx
  exact (letB_iff cs _).mpr ⟨c, h c hc, rfl⟩
/-! ### what the program's tests answer -/
theorem is_event_ok {w n : Nat} {x : D} {cs : List Clk} (h : gd w n x = true) : F_is_event [.tuple (cs.map Clk.d), x] = .ok (.bool (evB cs x)) := by
  unfold F_is_event M_is_event
  cases x with
  | dict es => exact (gd_dict h).elim
  | tuple xs =>
    obtain ⟨m, rfl, _, hk⟩ := gd_kids h
    match xs, hk with
    | [], _ => simp [runF_2, evB]
    | [_], _ => simp [runF_2, evB]
    | a :: b :: c :: r, _ =>
      have : (((r.length : Int) + 1 + 1 + 1) == 2) = false := by
        rw [beq_eq_false_iff_ne]; omega
      simp [runF_2, evB, this]
    | [a, b], hk =>
      have e1 := is_number_ok (hk a (by simp)) 0 ((cs.length : Nat) - 1)
      by_cases h1 : numB 0 ((cs.length : Nat) - 1) a = true
      · obtain ⟨i, rfl, h2, h3⟩ := numB_true h1
        have hi : i.toNat < cs.length := by omega
        have hc : cs[i.toNat]? = some cs[i.toNat] := List.getElem?_eq_getElem hi
        obtain ⟨h4, h5⟩ := atI_lt (xs := cs.map Clk.d) h2 (by rw [List.length_map]; omega)
        rw [List.getElem_map] at h5
        have e2 := is_number_ok (hk b (by simp)) 0 ((cs[i.toNat].rs.length : Nat) - 1)
        simp [runF_2, evB, e1, h1, h2, h3, h5, hc, Clk.d, e2]
      · have h1 : numB 0 ((cs.length : Nat) - 1) a = false := by simpa using h1
        have : evB cs (.tuple [a, b]) = false := by
          unfold evB
          split
          · rename_i q; cases q; simp [h1]
          · rfl
        simp [runF_2, e1, h1, this]
  | _ => simp [runF_2, evB]
theorem dEq_gd {w n : Nat} {x y : D} (h : gd w n x = true) (h' : gd w n y = true) (hn : n ≤ 64) : dEq x y = .ok (.bool (PyData.eqv x y)) := by
  have a := gd_shaped h hn
  have b := gd_shaped h' hn
  have e1 : unS x = x := by
    cases x with
    | dict es => exact (gd_dict h).elim
    | _ => rfl
  have e2 : unS y = y := by
    cases y with
    | dict es => exact (gd_dict h').elim
    | _ => rfl
  unfold dEq
  rw [e1, e2, a, b] <;> rfl
theorem dNe_gd {w n : Nat} {x y : D} (h : gd w n x = true) (h' : gd w n y = true) (hn : n ≤ 64) : dNe x y = .ok (.bool (!PyData.eqv x y)) := by
  have a := gd_shaped h hn
  have b := gd_shaped h' hn
  have e1 : unS x = x := by
    cases x with
    | dict es => exact (gd_dict h).elim
    | _ => rfl
  have e2 : unS y = y := by
    cases y with
    | dict es => exact (gd_dict h').elim
    | _ => rfl
  unfold dNe
  rw [e1, e2, a, b] <;> rfl
theorem is_letter_ok {w n : Nat} {x : D} {cs : List Clk} (h : gd w n x = true) (hn : n ≤ 64) : F_is_letter [.tuple (cs.map Clk.d), x] = .ok (.bool (letB cs x)) := by
  unfold F_is_letter M_is_letter
  cases x with
  | dict es => exact (gd_dict h).elim
  | tuple xs =>
    obtain ⟨m, rfl, _, hk⟩ := gd_kids h
    match xs, hk with
    | [], _ => simp [runF_2, letB]
    | [_], _ => simp [runF_2, letB]
    | [_, _], _ => simp [runF_2, letB]
    | [_, _, _], _ => simp [runF_2, letB]
    | a :: b :: c :: e :: f :: r, _ =>
      have : (((r.length : Int) + 1 + 1 + 1 + 1 + 1) == 4) = false := by
        rw [beq_eq_false_iff_ne]; omega
      simp [runF_2, letB, this]
    | [a, b, c, e], hk =>
      have e1 := is_number_ok (hk c (by simp)) 0 999
      by_cases h1 : numB 0 999 c = true
      · obtain ⟨lo, rfl, h2, h3⟩ := numB_true h1
        have e2 := is_event_ok (cs := cs) (hk a (by simp))
        have e3 := is_event_ok (cs := cs) (hk b (by simp))
        have e4 := dEq_gd (hk a (by simp)) (hk b (by simp)) (by omega)
        have e5 := is_number_ok (hk e (by simp)) lo 999
        cases h4 : evB cs a with
        | false => simp [runF_2, letB, e1, e2, h1, h2, h3, h4]
        | true =>
          cases h5 : evB cs b with
          | false => simp [runF_2, letB, e1, e2, e3, h1, h2, h3, h4, h5]
          | true =>
            cases h6 : PyData.eqv a b with
            | true => simp [runF_2, letB, e1, e2, e3, e4, h1, h2, h3, h4, h5, h6]
            | false =>
              cases h7 : isN e with
              | true => simp [runF_2, letB, e1, e2, e3, e4, h1, h2, h3, h4, h5, h6, h7]
              | false => simp [runF_2, letB, e1, e2, e3, e4, e5, h1, h2, h3, h4, h5, h6, h7]
      · have h1 : numB 0 999 c = false := by simpa using h1
        have : letB cs (.tuple [a, b, c, e]) = false := by
          unfold letB
          split
          · rename_i q; cases q; simp [h1]
          · rfl
        simp [runF_2, e1, h1, this]
  | _ => simp [runF_2, letB]
end Fc
set_option Elab.async false
set_option linter.all false
set_option maxRecDepth 100000
set_option maxHeartbeats 2000000
namespace Fc
open PySem L2 Evl PySem.Spec PyProof.Rows
theorem C_is_record_1_ok {w n : Nat} {cds : List D} {b : D} (h : ∀ x ∈ cds, gd w n x = true) (hl : cds.length ≤ 4) (s1 : Slot) : ∃ L, C_is_record_1 [.fz (.tuple [.tuple cds, b]), s1] = .ok (.list L) ∧ dAll [.list L] = .ok (.bool (cds.all clkB)) := by
  refine all_lc (by simp) (fun x hx => ?_) (by omega)
  rw [lcStep_eq]
  simp [wipeE]
  rw [lcK_map (b := true) rfl fun _ => by simp; exact is_clock_ok (h x hx)]
  rfl
theorem C_is_record_2_ok {w n : Nat} {cs : List Clk} {lds : List D} (h : ∀ x ∈ lds, gd w n x = true) (hn : n ≤ 64) (hl : lds.length ≤ 8) (s1 : Slot) : ∃ L, C_is_record_2 [.fz (.tuple [.tuple (cs.map Clk.d), .tuple lds]), s1] = .ok (.list L) ∧ dAll [.list L] = .ok (.bool (lds.all (letB cs))) := by
  refine all_lc (by simp) (fun x hx => ?_) (by omega)
  rw [lcStep_eq]
  simp [wipeE]
  rw [lcK_map (b := true) rfl fun _ => by simp; exact is_letter_ok (h x hx) hn]
  rfl
def recB : D → Prop := fun x => ∃ r : Rec, r.Ok ∧ x = r.d
theorem is_record_ok {w n : Nat} {x : D} (h : gd w n x = true) (hn : n ≤ 64) : ∃ b, F_is_record [x] = .ok (.bool b) ∧ (b = true ↔ recB x) := by
  unfold F_is_record M_is_record
  cases x with
  | dict es => exact (gd_dict h).elim
  | tuple xs =>
    obtain ⟨m, rfl, _, hk⟩ := gd_kids h
    have no : ∀ {x : D}, (∀ a b, x ≠ .tuple [.tuple a, .tuple b]) → ¬ recB x := fun hx ⟨r, _, e⟩ => hx _ _ e
    match xs, hk with
    | [], _ => exact ⟨false, by simp [runF_1], by simpa using no (by simp)⟩
    | [_], _ => exact ⟨false, by simp [runF_1], by simpa using no (by simp)⟩
    | a :: b :: c :: r, _ =>
      have : (((r.length : Int) + 1 + 1 + 1) == 2) = false := by
        rw [beq_eq_false_iff_ne]; omega
      exact ⟨false, by simp [runF_1, this], by simpa using no (by simp)⟩
    | [a, b], hk =>
      have ga := hk a (by simp)
      have gb := hk b (by simp)
      cases a with
      | dict es => exact (gd_dict ga).elim
      | tuple cds =>
        obtain ⟨m1, rfl, _, hk1⟩ := gd_kids ga
        by_cases h1 : 1 ≤ cds.length ∧ cds.length ≤ 4
        · have i1 : (1 : Int) ≤ (cds.length : Nat) := by omega
          have i2 : ((cds.length : Nat) : Int) ≤ 4 := by omega
          obtain ⟨L, e1, e1'⟩ := C_is_record_1_ok (b := b) hk1 h1.2 .un
          cases h2 : cds.all clkB with
          | false =>
            refine ⟨false, by simp only [runF_1, List.reduceReplicate, Nat.reduceSub]; rw [h2] at e1'; simp [e1, e1', i1, i2], ?_⟩
            simp only [Bool.false_eq_true, false_iff]
            rintro ⟨r, o, e⟩
            simp only [Rec.d, PyData.tuple.injEq, List.cons.injEq, and_true] at e
            rw [e.1, clks_all o.cs] at h2
            cases h2
          | true =>
            obtain ⟨cs, rfl, hcs⟩ := clks_of h2
            rw [h2] at e1'
            cases b with
            | dict es => exact (gd_dict gb).elim
            | tuple lds =>
              obtain ⟨m2, e9, _, hk2⟩ := gd_kids gb
              by_cases h3 : lds.length ≤ 8
              · obtain ⟨L2, e2, e2'⟩ := C_is_record_2_ok (cs := cs) hk2 (by omega) h3 .un
                have i3 : ¬ ((8 : Int) < (lds.length : Nat)) := by omega
                refine ⟨lds.all (letB cs), ?_, ?_⟩
                · simp only [runF_1, List.reduceReplicate, Nat.reduceSub]
                  rw [List.length_map] at i1 i2
                  simp [e1, e1', e2, e2', i1, i2, i3, h3]
                · constructor
                  · intro q
                    obtain ⟨ls, rfl, hls⟩ := ltrs_of q
                    rw [List.length_map] at h1 h3
                    exact ⟨⟨cs, ls⟩, ⟨h1.1, h1.2, hcs, h3, hls⟩, rfl⟩
                  · rintro ⟨r, o, e⟩
                    simp only [Rec.d, PyData.tuple.injEq, List.cons.injEq, and_true] at e
                    have : cs = r.cs := by
                      have inj : ∀ a b : Clk, a.d = b.d → a = b := by
                        intro a b q
                        obtain ⟨a1, a2, a3⟩ := a
                        obtain ⟨b1, b2, b3⟩ := b
                        simp only [Clk.d, PyData.tuple.injEq, List.cons.injEq, PyData.int.injEq, and_true] at q
                        have := (List.map_inj_right (f := PyData.int) (fun x y z => PyData.int.inj z)).mp q.2.2
                        simp [q.1, q.2.1, this]
                      exact (List.map_inj_right inj).mp e.1
                    rw [e.2, this]
                    exact ltrs_all o.ls
              · have i3 : (8 : Int) < (lds.length : Nat) := by omega
                refine ⟨false, ?_, ?_⟩
                · simp only [runF_1, List.reduceReplicate, Nat.reduceSub]
                  rw [List.length_map] at i1 i2
                  simp [e1, e1', i1, i2, i3, h3]
                · simp only [Bool.false_eq_true, false_iff]
                  rintro ⟨r, o, e⟩
                  simp only [Rec.d, PyData.tuple.injEq, List.cons.injEq, and_true] at e
                  have := o.l8
                  rw [e.2, List.length_map] at h3
                  exact h3 this
            | _ =>
              refine ⟨false, ?_, by simpa using no (by simp)⟩
              simp only [runF_1, List.reduceReplicate, Nat.reduceSub]
              rw [List.length_map] at i1 i2
              simp [e1, e1', i1, i2]
        · refine ⟨false, ?_, ?_⟩
          · by_cases i1 : (1 : Int) ≤ (cds.length : Nat)
            · have i2 : ¬ ((cds.length : Nat) : Int) ≤ 4 := by omega
              have i3 : ¬ cds.length ≤ 4 := by omega
              simp [runF_1, i1, i2, i3]
            · have i3 : ¬ 1 ≤ cds.length := by omega
              simp [runF_1, i1, i3]
          · simp only [Bool.false_eq_true, false_iff]
            rintro ⟨r, o, e⟩
            simp only [Rec.d, PyData.tuple.injEq, List.cons.injEq, and_true] at e
            rw [e.1, List.length_map] at h1
            exact h1 ⟨o.c1, o.c4⟩
      | _ => exact ⟨false, by simp [runF_1], by simpa using no (by simp)⟩
  | _ => exact ⟨false, by simp [runF_1], by simp [recB, Rec.d]⟩
end Fc
set_option Elab.async false
set_option linter.all false
set_option maxRecDepth 100000
set_option maxHeartbeats 2000000
namespace Fc
open PySem L2 Evl PySem.Spec PyProof.Rows
/-! ### typed data, as data -/
class Enc (α : Type) where
  enc : α → D
def en {α : Type} [Enc α] (a : α) : D := Enc.enc a
structure P2 (α β : Type) where
  a : α
  b : β
deriving DecidableEq
structure P3 (α β γ : Type) where
  a : α
  b : β
  c : γ
deriving DecidableEq
structure P4 (α β γ δ : Type) where
  a : α
  b : β
  c : γ
  d : δ
deriving DecidableEq
/-- a tuple of things of one kind -/
structure Tup (α : Type) where
  l : List α
deriving DecidableEq
abbrev TEv := P2 Int Int
abbrev TClk := P3 Int Int (Tup Int)
abbrev TLtr := P4 TEv TEv Int (Option Int)
abbrev TRec := P2 (Tup TClk) (Tup TLtr)
abbrev TBnd := P3 TEv TEv Int
structure Dct (κ α : Type) where
  l : List (κ × α)
structure Scr where
  ns : List Int
instance : Enc D := ⟨id⟩
instance : Enc Int := ⟨.int⟩
instance : Enc Bool := ⟨.bool⟩
instance : Enc Unit := ⟨fun _ => .none⟩
instance : Enc Str := ⟨.str⟩
instance : Enc Empty := ⟨fun e => nomatch e⟩
section
variable {α β γ δ ε σ τ κ : Type}
instance [Enc α] : Enc (Option α) := ⟨fun o => match o with | none => .none | some a => en a⟩
instance [Enc α] [Enc β] : Enc (P2 α β) := ⟨fun p => .tuple [en p.a, en p.b]⟩
instance [Enc α] [Enc β] [Enc γ] : Enc (P3 α β γ) := ⟨fun p => .tuple [en p.a, en p.b, en p.c]⟩
instance [Enc α] [Enc β] [Enc γ] [Enc δ] : Enc (P4 α β γ δ) := ⟨fun p => .tuple [en p.a, en p.b, en p.c, en p.d]⟩
instance [Enc α] : Enc (List α) := ⟨fun l => .list (l.map en)⟩
instance [Enc α] : Enc (Tup α) := ⟨fun l => .tuple (l.l.map en)⟩
instance [Enc κ] [Enc α] : Enc (Dct κ α) := ⟨fun l => .dict (l.l.map fun e => (en e.1, en e.2))⟩
instance : Enc Scr := ⟨fun s => .dict [(.none, .list (s.ns.map PyData.int))]⟩
theorem en_D (d : D) : en d = d := rfl
theorem en_i (i : Int) : en i = .int i := rfl
theorem en_b (i : Bool) : en i = .bool i := rfl
theorem en_u (i : Unit) : en i = .none := rfl
theorem en_s (i : Str) : en i = .str i := rfl
theorem en_l [Enc α] (l : List α) : en l = .list (l.map en) := rfl
theorem en_t [Enc α] (l : List α) : en (Tup.mk l) = .tuple (l.map en) := rfl
theorem en_P2 [Enc α] [Enc β] (a : α) (b : β) : en (P2.mk a b) = .tuple [en a, en b] := rfl
@[simp] theorem en_some [Enc α] (a : α) : en (some a) = en a := rfl
@[simp] theorem en_none [Enc α] : en (none : Option α) = .none := rfl
theorem map_enI (l : List Int) : l.map en = l.map PyData.int := rfl
/-- what equality asks -/
class EncL (α : Type) extends Enc α where
  dp : Nat
  lay : ∀ a : α, (en a).canLay0 = true ∧ (en a).depth ≤ dp
  eqv : ∀ a b : α, PyData.eqv (en a) (en b) = true ↔ a = b
instance : EncL Int := ⟨0, fun a => ⟨rfl, Nat.le_refl _⟩, fun a b => by simp [en, Enc.enc, PyData.eqv]⟩
instance : EncL Bool := ⟨0, fun a => ⟨rfl, Nat.le_refl _⟩, fun a b => by simp [en, Enc.enc, PyData.eqv]⟩
instance : EncL Unit := ⟨0, fun a => ⟨rfl, Nat.le_refl _⟩, fun a b => by simp [en, Enc.enc, PyData.eqv]⟩
/-- a kind of which none is written as None is -/
class NoN (α : Type) [Enc α] where
  nn : ∀ a : α, isN (en a) = false
instance : NoN Int := ⟨fun _ => rfl⟩
instance : NoN Bool := ⟨fun _ => rfl⟩
instance : NoN Str := ⟨fun _ => rfl⟩
instance [Enc α] [Enc β] : NoN (P2 α β) := ⟨fun _ => rfl⟩
instance [Enc α] [Enc β] [Enc γ] : NoN (P3 α β γ) := ⟨fun _ => rfl⟩
instance [Enc α] [Enc β] [Enc γ] [Enc δ] : NoN (P4 α β γ δ) := ⟨fun _ => rfl⟩
instance [Enc α] : NoN (List α) := ⟨fun _ => rfl⟩
instance [Enc α] : NoN (Tup α) := ⟨fun _ => rfl⟩
instance [Enc κ] [Enc α] : NoN (Dct κ α) := ⟨fun _ => rfl⟩
theorem isN_inv {d : D} (h : isN d = true) : d = .none := by
  cases d <;> first | rfl | cases h
theorem eqv_none {d : D} (h : isN d = false) : PyData.eqv .none d = false ∧ PyData.eqv d .none = false := by
  cases d with
  | none => cases h
  | _ => exact ⟨by simp [PyData.eqv], by simp [PyData.eqv]⟩
instance [EncL α] [NoN α] : EncL (Option α) where
  dp := EncL.dp α
  lay := fun a => match a with
    | none => ⟨rfl, Nat.zero_le _⟩
    | some a => EncL.lay a
  eqv := fun a b => by
    cases a with
    | none => cases b with
      | none => simp [en, Enc.enc, PyData.eqv]
      | some b => simpa using (eqv_none (NoN.nn b)).1
    | some a => cases b with
      | none => simpa using (eqv_none (NoN.nn a)).2
      | some b => simpa using EncL.eqv a b
theorem P2.ext' {x y : P2 α β} (h1 : x.a = y.a) (h2 : x.b = y.b) : x = y := by
  cases x; cases y; simp_all
instance [EncL α] [EncL β] : EncL (P2 α β) where
  dp := max (EncL.dp α) (EncL.dp β) + 1
  lay := fun p => by
    obtain ⟨a1, a2⟩ := EncL.lay p.a
    obtain ⟨b1, b2⟩ := EncL.lay p.b
    show (PyData.tuple [en p.a, en p.b]).canLay0 = true ∧ (PyData.tuple [en p.a, en p.b]).depth ≤ _
    simp only [PyData.canLay0, PyData.canLayAll0, PyData.depth, PyData.depthAll, a1, b1, Bool.and_self, true_and]
    omega
  eqv := fun x y => by
    show PyData.eqv (.tuple [en x.a, en x.b]) (.tuple [en y.a, en y.b]) = true ↔ _
    simp only [PyData.eqv, PyData.eqvAll, Bool.and_true, Bool.and_eq_true, EncL.eqv]
    exact ⟨fun h => P2.ext' h.1 h.2, fun h => by rw [h]; exact ⟨rfl, rfl⟩⟩
instance [EncL α] [EncL β] [EncL γ] : EncL (P3 α β γ) where
  dp := max (EncL.dp α) (max (EncL.dp β) (EncL.dp γ)) + 1
  lay := fun p => by
    obtain ⟨a1, a2⟩ := EncL.lay p.a
    obtain ⟨b1, b2⟩ := EncL.lay p.b
    obtain ⟨c1, c2⟩ := EncL.lay p.c
    show (PyData.tuple [en p.a, en p.b, en p.c]).canLay0 = true ∧ (PyData.tuple [en p.a, en p.b, en p.c]).depth ≤ _
    simp only [PyData.canLay0, PyData.canLayAll0, PyData.depth, PyData.depthAll, a1, b1, c1, Bool.and_self, true_and]
    omega
  eqv := fun x y => by
    obtain ⟨x1, x2, x3⟩ := x
    obtain ⟨y1, y2, y3⟩ := y
    show PyData.eqv (.tuple [en x1, en x2, en x3]) (.tuple [en y1, en y2, en y3]) = true ↔ _
    simp only [PyData.eqv, PyData.eqvAll, Bool.and_true, Bool.and_eq_true, EncL.eqv, P3.mk.injEq]
instance [EncL α] [EncL β] [EncL γ] [EncL δ] : EncL (P4 α β γ δ) where
  dp := max (max (EncL.dp α) (EncL.dp β)) (max (EncL.dp γ) (EncL.dp δ)) + 1
  lay := fun p => by
    obtain ⟨a1, a2⟩ := EncL.lay p.a
    obtain ⟨b1, b2⟩ := EncL.lay p.b
    obtain ⟨c1, c2⟩ := EncL.lay p.c
    obtain ⟨d1, d2⟩ := EncL.lay p.d
    show (PyData.tuple [en p.a, en p.b, en p.c, en p.d]).canLay0 = true ∧ (PyData.tuple [en p.a, en p.b, en p.c, en p.d]).depth ≤ _
    simp only [PyData.canLay0, PyData.canLayAll0, PyData.depth, PyData.depthAll, a1, b1, c1, d1, Bool.and_self, true_and]
    omega
  eqv := fun x y => by
    obtain ⟨x1, x2, x3, x4⟩ := x
    obtain ⟨y1, y2, y3, y4⟩ := y
    show PyData.eqv (.tuple [en x1, en x2, en x3, en x4]) (.tuple [en y1, en y2, en y3, en y4]) = true ↔ _
    simp only [PyData.eqv, PyData.eqvAll, Bool.and_true, Bool.and_eq_true, EncL.eqv, P4.mk.injEq]
theorem lay_all [EncL α] : ∀ l : List α, PyData.canLayAll0 (l.map en) = true ∧ PyData.depthAll (l.map en) ≤ EncL.dp α
  | [] => ⟨rfl, Nat.zero_le _⟩
  | a :: l => by
    obtain ⟨h1, h2⟩ := lay_all l
    obtain ⟨h3, h4⟩ := EncL.lay a
    simp only [List.map_cons, PyData.canLayAll0, PyData.depthAll, h1, h3, Bool.and_self, true_and]
    omega
theorem eqv_all [EncL α] : ∀ l m : List α, PyData.eqvAll (l.map en) (m.map en) = true ↔ l = m
  | [], [] => by simp [PyData.eqvAll]
  | [], _ :: _ => by simp [PyData.eqvAll]
  | _ :: _, [] => by simp [PyData.eqvAll]
  | a :: l, b :: m => by
    simp only [List.map_cons, PyData.eqvAll, Bool.and_eq_true, EncL.eqv, eqv_all l m, List.cons.injEq]
instance [EncL α] : EncL (List α) where
  dp := EncL.dp α + 1
  lay := fun l => by
    obtain ⟨h1, h2⟩ := lay_all l
    show (PyData.list (l.map en)).canLay0 = true ∧ (PyData.list (l.map en)).depth ≤ _
    simp only [PyData.canLay0, PyData.depth, h1, true_and]
    omega
  eqv := fun l m => by
    show PyData.eqv (.list (l.map en)) (.list (m.map en)) = true ↔ _
    simp only [PyData.eqv, eqv_all]
instance [EncL α] : EncL (Tup α) where
  dp := EncL.dp α + 1
  lay := fun l => by
    obtain ⟨h1, h2⟩ := lay_all l.l
    show (PyData.tuple (l.l.map en)).canLay0 = true ∧ (PyData.tuple (l.l.map en)).depth ≤ _
    simp only [PyData.canLay0, PyData.depth, h1, true_and]
    omega
  eqv := fun l m => by
    obtain ⟨l⟩ := l
    obtain ⟨m⟩ := m
    show PyData.eqv (.tuple (l.map en)) (.tuple (m.map en)) = true ↔ _
    simp only [PyData.eqv, eqv_all, Tup.mk.injEq]
theorem shaped_en [EncL α] (h : EncL.dp α ≤ 64) (a : α) : SeqAt.shaped (en a) = true := by
  obtain ⟨h1, h2⟩ := EncL.lay a
  unfold SeqAt.shaped
  rw [h1, decide_eq_true (Nat.le_trans h2 h)]
  rfl
theorem unS_lay {d : D} (h : d.canLay0 = true) : unS d = d := by
  cases d with
  | dict es => simp [PyData.canLay0] at h
  | _ => rfl
theorem unS_en [EncL α] (a : α) : unS (en a) = en a := unS_lay (EncL.lay a).1
theorem eqv_en [EncL α] [DecidableEq α] (a b : α) : PyData.eqv (en a) (en b) = decide (a = b) := by
  have h := EncL.eqv a b
  cases q : PyData.eqv (en a) (en b) with
  | true => exact (decide_eq_true (h.mp q)).symm
  | false => exact (decide_eq_false fun z => by rw [h.mpr z] at q; cases q).symm
theorem dEq_en [EncL α] [DecidableEq α] (h : EncL.dp α ≤ 64) (a b : α) : dEq (en a) (en b) = .ok (.bool (decide (a = b))) := by
  unfold dEq
  rw [unS_en, unS_en, shaped_en h a, shaped_en h b, eqv_en]
  rfl
theorem dNe_en [EncL α] [DecidableEq α] (h : EncL.dp α ≤ 64) (a b : α) : dNe (en a) (en b) = .ok (.bool (!decide (a = b))) := by
  unfold dNe
  rw [unS_en, unS_en, shaped_en h a, shaped_en h b, eqv_en]
  rfl
/-! ### results -/
def encR [Enc α] (r : R α) : R D := r.bind fun a => .ok (en a)
@[simp] theorem encR_ok [Enc α] (a : α) : encR (.ok a) = .ok (en a) := rfl
@[simp] theorem encR_er [Enc α] (c : Str) : encR (.er c : R α) = .er c := rfl
@[simp] theorem encR_bad [Enc α] : encR (.bad : R α) = .bad := rfl
theorem encR_D (r : R D) : encR r = r := by cases r <;> rfl
theorem bind_assoc (r : R α) (f : α → R β) (g : β → R γ) : (r.bind f).bind g = r.bind fun a => (f a).bind g := by cases r <;> rfl
theorem bind_encR [Enc α] (r : R α) (f : D → R β) : (encR r).bind f = r.bind fun a => f (en a) := by cases r <;> rfl
theorem encR_bind [Enc β] (r : R α) (f : α → R β) : encR (r.bind f) = r.bind fun a => encR (f a) := by cases r <;> rfl
theorem encR_ite [Enc α] (c : Prop) [Decidable c] (a b : R α) : encR (if c then a else b) = if c then encR a else encR b := by split <;> rfl
theorem encR_up [Enc α] (r : R α) : encR (r.bind fun a => .ok (en a)) = encR r := by cases r <;> rfl
theorem encR_some [Enc α] (r : R α) : encR (r.bind fun a => .ok (some a)) = encR r := by cases r <;> rfl
/-! ### operations by kinds -/
def unO (o : Option α) : R α := match o with
  | some a => .ok a
  | none => .bad
@[simp] theorem unO_some (a : α) : unO (some a) = .ok a := rfl
def atT (l : List α) (i : Int) : R α := unO (atI l i)
def catT (x y : List α) : R (List α) := if szB (x.length + y.length) = true then .ok (x ++ y) else .bad
def tcatT (x y : Tup α) : R (Tup α) := if szB (x.l.length + y.l.length) = true then .ok ⟨x.l ++ y.l⟩ else .bad
def appT (x : List α) (a : α) : R (List α) := if szB (x.length + 1) = true then .ok (x ++ [a]) else .bad
def lstT (x : List α) : R (List α) := if szB x.length = true then .ok x else .bad
def tupT (x : List α) : R (Tup α) := if szB x.length = true then .ok ⟨x⟩ else .bad
def mulT (a b : Int) : R Int := if (decide (-(2 ^ 64) < a ∧ a < 2 ^ 64) || decide (-(2 ^ 64) < b ∧ b < 2 ^ 64)) = true then .ok (a * b) else .bad
def modT (a b : Int) : R Int := if decide (0 < b) = true then .ok (a % b) else .bad
def fdivT (a b : Int) : R Int := if decide (0 < b ∧ b < 1073741824) = true then .ok (a / b) else .bad
def repT (x : List α) (k : Int) : R (List α) := if decide (-1000 ≤ k ∧ k ≤ 1000 ∧ x.length ≤ 100) = true then .ok (List.replicate k.toNat x).flatten else .bad
def rng1T (n : Int) : R (List Int) := if decide (-100000 ≤ n ∧ n ≤ 100000) = true then .ok ((List.range n.toNat).map fun i => ((i : Nat) : Int)) else .bad
def rng2T (a b : Int) : R (List Int) := if decide (-100000 ≤ a ∧ a ≤ 100000 ∧ -100000 ≤ b ∧ b ≤ 100000) = true then .ok ((List.range (b - a).toNat).map fun i => a + ((i : Nat) : Int)) else .bad
def enumG (i : Nat) : List α → List (P2 Int α)
  | [] => []
  | a :: l => ⟨((i : Nat) : Int), a⟩ :: enumG (i + 1) l
def zipG : List α → List β → List (P2 α β)
  | a :: l, b :: m => ⟨a, b⟩ :: zipG l m
  | _, _ => []
def minT (l : List Int) : R Int := unO (minL l)
def maxT (l : List Int) : R Int := unO (maxL l)
def optK {α τ : Type} (o : Option α) (n : τ) (s : α → τ) : τ := match o with
  | none => n
  | some a => s a
@[simp] theorem optK_n {α τ : Type} (n : τ) (s : α → τ) : optK none n s = n := rfl
@[simp] theorem optK_s {α τ : Type} (a : α) (n : τ) (s : α → τ) : optK (some a) n s = s a := rfl
def andR (a b : R Bool) : R Bool := a.bind fun c => if c = true then b else .ok false
def orR (a b : R Bool) : R Bool := a.bind fun c => if c = true then .ok true else b
def iteR (c : R Bool) (a b : R α) : R α := c.bind fun c => if c = true then a else b
def inT [DecidableEq α] (a : α) (l : List α) : Bool := decide (a ∈ l)
def lcGo (p : α → R Bool) (f : α → R β) : List α → R (List β)
  | [] => .ok []
  | x :: xs => match p x with
    | .ok true => (match f x with
      | .ok y => (lcGo p f xs).bind fun ys => .ok (y :: ys)
      | _ => .bad)
    | .ok false => lcGo p f xs
    | _ => .bad
def lcT (p : α → R Bool) (f : α → R β) (xs : List α) : R (List β) := (lcGo p f xs).bind lstT
def forT (f : α → σ → R σ) : List α → σ → R σ
  | [], s => .ok s
  | x :: xs, s => (f x s).bind fun s => forT f xs s
inductive Ctl (σ β : Type) where
  | nx (s : σ) | bk (s : σ) | rt (b : β)
def ctlK {τ : Type} (c : Ctl σ β) (k : σ → R τ) (r : β → R τ) : R τ := match c with
  | .nx s => k s
  | .bk _ => .bad
  | .rt b => r b
@[simp] theorem ctlK_nx {τ : Type} (s : σ) (k : σ → R τ) (r : β → R τ) : ctlK (.nx s) k r = k s := rfl
@[simp] theorem ctlK_rt {τ : Type} (b : β) (k : σ → R τ) (r : β → R τ) : ctlK (.rt b) k r = r b := rfl
def forC (f : α → σ → R (Ctl σ β)) : List α → σ → R (Ctl σ β)
  | [], s => .ok (.nx s)
  | x :: xs, s => (f x s).bind fun c => match c with
    | .nx s => forC f xs s
    | .bk s => .ok (.nx s)
    | .rt b => .ok (.rt b)
def whileT (c : σ → R Bool) (f : σ → R σ) : Nat → σ → R σ
  | 0, _ => .bad
  | n + 1, s => (c s).bind fun b => if b = true then (f s).bind fun s => whileT c f n s else .ok s
def whileC (c : σ → R Bool) (f : σ → R (Ctl σ β)) : Nat → σ → R (Ctl σ β)
  | 0, _ => .bad
  | n + 1, s => (c s).bind fun b => if b = true then (f s).bind fun c1 => (match c1 with
    | .nx s => whileC c f n s
    | .bk s => .ok (.nx s)
    | .rt b => .ok (.rt b)) else .ok (.nx s)
/-! ### how they are reckoned with -/
@[simp] theorem forT_nil (f : α → σ → R σ) (s : σ) : forT f [] s = .ok s := rfl
@[simp] theorem forT_cons (f : α → σ → R σ) (x : α) (xs : List α) (s : σ) : forT f (x :: xs) s = (f x s).bind fun s => forT f xs s := rfl
theorem forT_append (f : α → σ → R σ) : ∀ (xs ys : List α) (s : σ), forT f (xs ++ ys) s = (forT f xs s).bind fun s => forT f ys s
  | [], ys, s => rfl
  | x :: xs, ys, s => by
    rw [List.cons_append, forT_cons, forT_cons, bind_assoc]
    congr 1
    funext s
    exact forT_append f xs ys s
/-- a loop by what it makes of its state, while an invariant holds -/
theorem forT_fold {f : α → σ → R σ} {g : σ → α → σ} (I : σ → Prop) : ∀ (xs : List α) (s : σ), I s → (∀ x ∈ xs, ∀ s, I s → f x s = .ok (g s x) ∧ I (g s x)) → forT f xs s = .ok (xs.foldl g s) ∧ I (xs.foldl g s)
  | [], s, h, _ => ⟨rfl, h⟩
  | x :: xs, s, h, k => by
    obtain ⟨h1, h2⟩ := k x (by simp) s h
    rw [forT_cons, h1]
    exact forT_fold I xs _ h2 fun y hy s hs => k y (List.mem_cons_of_mem _ hy) s hs
/-- a loop by an invariant over what is done and what is left -/
theorem forT_inv {f : α → σ → R σ} (I : List α → List α → σ → Prop) {xs0 : List α} {s0 : σ} (h0 : I [] xs0 s0) (step : ∀ pre x post s, pre ++ x :: post = xs0 → I pre (x :: post) s → ∃ s', f x s = .ok s' ∧ I (pre ++ [x]) post s') : ∃ s', forT f xs0 s0 = .ok s' ∧ I xs0 [] s' := by
  have go : ∀ (post pre : List α) (s : σ), pre ++ post = xs0 → I pre post s → ∃ s', forT f post s = .ok s' ∧ I xs0 [] s' := by
    intro post
    induction post with
    | nil => intro pre s e h; rw [List.append_nil] at e; subst e; exact ⟨s, rfl, h⟩
    | cons x post ih =>
      intro pre s e h
      obtain ⟨s', h1, h2⟩ := step pre x post s e h
      rw [forT_cons, h1]
      exact ih (pre ++ [x]) s' (by rw [← e, List.append_assoc]; rfl) h2
  exact go xs0 [] s0 rfl h0
theorem forT_acc {f : α → List β → R (List β)} (g : α → List β) (n : Nat) : ∀ (xs : List α) (acc : List β), (∀ x ∈ xs, ∀ acc, acc.length + (g x).length ≤ n → f x acc = .ok (acc ++ g x)) → acc.length + (xs.flatMap g).length ≤ n → forT f xs acc = .ok (acc ++ xs.flatMap g)
  | [], acc, _, _ => by simp
  | x :: xs, acc, h, hn => by
    rw [List.flatMap_cons, List.length_append] at hn
    rw [forT_cons, h x (by simp) acc (by omega), R.bind_ok, forT_acc g n xs _ (fun y hy => h y (List.mem_cons_of_mem _ hy)) (by rw [List.length_append]; omega), List.flatMap_cons, List.append_assoc]
theorem lcGo_ok {p : α → R Bool} {f : α → R β} {q : α → Bool} {g : α → β} : ∀ {xs : List α}, (∀ x ∈ xs, p x = .ok (q x) ∧ (q x = true → f x = .ok (g x))) → lcGo p f xs = .ok ((xs.filter q).map g)
  | [], _ => rfl
  | x :: xs, h => by
    obtain ⟨h1, h2⟩ := h x (by simp)
    have ih := lcGo_ok (xs := xs) fun y hy => h y (List.mem_cons_of_mem _ hy)
    unfold lcGo
    rw [h1, ih]
    cases hq : q x with
    | true => simp only [h2 hq, List.filter_cons, hq, if_true, List.map_cons, R.bind_ok]
    | false => simp [List.filter_cons, hq]
theorem lcT_ok {p : α → R Bool} {f : α → R β} {q : α → Bool} {g : α → β} {xs : List α} (h : ∀ x ∈ xs, p x = .ok (q x) ∧ (q x = true → f x = .ok (g x))) (hl : xs.length ≤ 100000) : lcT p f xs = .ok ((xs.filter q).map g) := by
  unfold lcT
  rw [lcGo_ok h, R.bind_ok]
  unfold lstT
  rw [if_pos]
  exact decide_eq_true (by rw [List.length_map]; exact Nat.le_trans (List.length_filter_le _ _) hl)
theorem lcT_map {f : α → R β} {g : α → β} {xs : List α} (h : ∀ x ∈ xs, f x = .ok (g x)) (hl : xs.length ≤ 100000) : lcT (fun _ => .ok true) f xs = .ok (xs.map g) := by
  rw [lcT_ok (q := fun _ => true) (g := g) (fun x hx => ⟨rfl, fun _ => h x hx⟩) hl, List.filter_eq_self.mpr (fun _ _ => rfl)]
theorem atT_nat {l : List α} {n : Nat} {a : α} (h : l[n]? = some a) : atT l ((n : Nat) : Int) = .ok a := by
  unfold atT
  rw [atI_nat h]
  rfl
theorem catT_ok {x y : List α} (h : x.length + y.length ≤ 100000) : catT x y = .ok (x ++ y) := if_pos (decide_eq_true h)
theorem tcatT_ok {x y : Tup α} (h : x.l.length + y.l.length ≤ 100000) : tcatT x y = .ok ⟨x.l ++ y.l⟩ := if_pos (decide_eq_true h)
theorem appT_ok {x : List α} {a : α} (h : x.length + 1 ≤ 100000) : appT x a = .ok (x ++ [a]) := if_pos (decide_eq_true h)
theorem lstT_ok {x : List α} (h : x.length ≤ 100000) : lstT x = .ok x := if_pos (decide_eq_true h)
theorem tupT_ok {x : List α} (h : x.length ≤ 100000) : tupT x = .ok ⟨x⟩ := if_pos (decide_eq_true h)
theorem mulT_l {a b : Int} (h : -(2 ^ 64) < a ∧ a < 2 ^ 64) : mulT a b = .ok (a * b) := if_pos (by rw [Bool.or_eq_true]; exact .inl (decide_eq_true h))
theorem mulT_r {a b : Int} (h : -(2 ^ 64) < b ∧ b < 2 ^ 64) : mulT a b = .ok (a * b) := if_pos (by rw [Bool.or_eq_true]; exact .inr (decide_eq_true h))
theorem modT_ok {a b : Int} (h : 0 < b) : modT a b = .ok (a % b) := if_pos (decide_eq_true h)
theorem fdivT_ok {a b : Int} (h : 0 < b) (h' : b < 1073741824) : fdivT a b = .ok (a / b) := if_pos (decide_eq_true ⟨h, h'⟩)
theorem rng1T_ok {n : Nat} (h : n ≤ 100000) : rng1T ((n : Nat) : Int) = .ok ((List.range n).map fun i => ((i : Nat) : Int)) := by
  unfold rng1T
  rw [if_pos (decide_eq_true (by omega))]
  simp
@[simp] theorem andR_ok (a : Bool) (b : R Bool) : andR (.ok a) b = if a = true then b else .ok false := rfl
@[simp] theorem orR_ok (a : Bool) (b : R Bool) : orR (.ok a) b = if a = true then .ok true else b := rfl
@[simp] theorem iteR_ok (a : Bool) (x y : R α) : iteR (.ok a) x y = if a = true then x else y := rfl
end
end Fc
set_option Elab.async false
set_option linter.all false
set_option maxRecDepth 100000
set_option maxHeartbeats 2000000
namespace Fc
open PySem L2 Evl PySem.Spec PyProof.Rows
section
variable {α β γ δ ε σ τ κ : Type} [Enc α] [Enc β] [Enc γ] [Enc δ] [Enc ε]
variable {ρ : En} {m ma mb mc md me : DE} {ms : DA}
variable {ta : R α} {tb : R β} {tc : R γ} {td : R δ} {te : R ε}
/-! ### expressions -/
theorem e_c {d : D} (a : α) (h : d = en a := by rfl) : eC d ρ = encR (R.ok a) := by rw [h]; rfl
theorem e_v {i : Nat} (a : α) (h : ρ[i]? = some (.fz (en a)) := by rfl) : eV i ρ = encR (R.ok a) := by unfold eV; rw [h]; rfl
theorem e_w {i : Nat} (a : α) (h : ρ[i]? = some (.fz (en a)) := by rfl) : eW i ρ = encR (R.ok a) := by unfold eW; rw [h]; rfl
theorem e_o {i : Nat} (a : α) (h : ρ[i]? = some (.ow (en a)) := by rfl) : eW i ρ = encR (R.ok a) := by unfold eW; rw [h]; rfl
theorem e_up (h : m ρ = encR ta) : m ρ = encR (ta.bind fun a => R.ok (en a)) := by rw [h, encR_up]
theorem e_some (h : m ρ = encR ta) : m ρ = encR (ta.bind fun a => R.ok (some a)) := by rw [h, encR_some]
theorem e_none (h : m ρ = encR (R.ok ())) : m ρ = encR (R.ok (none : Option α)) := by rw [h]; rfl
theorem e_tup {tl : R (List α)} (h : m ρ = encR (tl.bind fun l => R.ok (Tup.mk l))) : m ρ = encR (tl.bind fun l => R.ok (Tup.mk l)) := h
theorem e_bin {f : D → D → R D} {g : α → β → R γ} (ha : ma ρ = encR ta) (hb : mb ρ = encR tb) (hf : ∀ a b, f (en a) (en b) = encR (g a b)) : eBin f ma mb ρ = encR (ta.bind fun a => tb.bind fun b => g a b) := by
  unfold eBin
  rw [ha, hb]
  cases ta with
  | ok a => cases tb with
    | ok b => exact hf a b
    | er c => rfl
    | bad => rfl
  | er c => rfl
  | bad => rfl
theorem e_un {f : D → R D} {g : α → R γ} (ha : ma ρ = encR ta) (hf : ∀ a, f (en a) = encR (g a)) : eU f ma ρ = encR (ta.bind fun a => g a) := by
  unfold eU
  rw [ha]
  cases ta with
  | ok a => exact hf a
  | er c => rfl
  | bad => rfl
theorem e_and {ta tb : R Bool} (ha : ma ρ = encR ta) (hb : mb ρ = encR tb) : eAnd ma mb ρ = encR (andR ta tb) := by
  rw [eAnd_eq, ha, hb]
  cases ta with
  | ok a => cases a <;> rfl
  | er c => rfl
  | bad => rfl
theorem e_or {ta tb : R Bool} (ha : ma ρ = encR ta) (hb : mb ρ = encR tb) : eOr ma mb ρ = encR (orR ta tb) := by
  rw [eOr_eq, ha, hb]
  cases ta with
  | ok a => cases a <;> rfl
  | er c => rfl
  | bad => rfl
theorem e_if {t : R Bool} {ta tb : R α} (hc : mc ρ = encR t) (ha : ma ρ = encR ta) (hb : mb ρ = encR tb) : eIf mc ma mb ρ = encR (iteR t ta tb) := by
  rw [eIf_eq, hc, ha, hb]
  cases t with
  | ok a => cases a <;> rfl
  | er c => rfl
  | bad => rfl
theorem e_chain {f g : D → D → R D} {f' : α → β → R Bool} {g' : β → γ → R Bool} (ha : ma ρ = encR ta) (hb : mb ρ = encR tb) (hc : mc ρ = encR tc) (hf : ∀ a b, f (en a) (en b) = encR (f' a b)) (hg : ∀ a b, g (en a) (en b) = encR (g' a b)) :
    eChain f g ma mb mc ρ = encR (ta.bind fun a => tb.bind fun b => (f' a b).bind fun c => if c = true then tc.bind fun z => g' b z else R.ok false) := by
  rw [eChain_eq, ha, hb, hc]
  cases ta with
  | ok a => cases tb with
    | ok b =>
      simp only [encR_ok, R.bind_ok, hf]
      cases f' a b with
      | ok c => cases c with
        | false => rfl
        | true =>
          cases tc with
          | ok z => exact hg b z
          | er c => rfl
          | bad => rfl
      | er c => rfl
      | bad => rfl
    | er c => rfl
    | bad => rfl
  | er c => rfl
  | bad => rfl
/-! calls: arguments by number -/
theorem a_1 (ha : ma ρ = encR ta) : aCons ma aNil ρ = ta.bind fun a => R.ok [en a] := by
  rw [aCons_eq, ha]; cases ta <;> rfl
theorem a_2 (ha : ma ρ = encR ta) (hb : mb ρ = encR tb) : aCons ma (aCons mb aNil) ρ = ta.bind fun a => tb.bind fun b => R.ok [en a, en b] := by
  rw [aCons_eq, ha, a_1 hb]; cases ta <;> first | rfl | (cases tb <;> rfl)
theorem a_3 (ha : ma ρ = encR ta) (hb : mb ρ = encR tb) (hc : mc ρ = encR tc) : aCons ma (aCons mb (aCons mc aNil)) ρ = ta.bind fun a => tb.bind fun b => tc.bind fun c => R.ok [en a, en b, en c] := by
  rw [aCons_eq, ha, a_2 hb hc]; cases ta <;> first | rfl | (cases tb <;> first | rfl | (cases tc <;> rfl))
theorem a_4 (ha : ma ρ = encR ta) (hb : mb ρ = encR tb) (hc : mc ρ = encR tc) (hd : md ρ = encR td) : aCons ma (aCons mb (aCons mc (aCons md aNil))) ρ = ta.bind fun a => tb.bind fun b => tc.bind fun c => td.bind fun d => R.ok [en a, en b, en c, en d] := by
  rw [aCons_eq, ha, a_3 hb hc hd]; cases ta <;> first | rfl | (cases tb <;> first | rfl | (cases tc <;> first | rfl | (cases td <;> rfl)))
theorem a_5 (ha : ma ρ = encR ta) (hb : mb ρ = encR tb) (hc : mc ρ = encR tc) (hd : md ρ = encR td) (he : me ρ = encR te) : aCons ma (aCons mb (aCons mc (aCons md (aCons me aNil)))) ρ = ta.bind fun a => tb.bind fun b => tc.bind fun c => td.bind fun d => te.bind fun e => R.ok [en a, en b, en c, en d, en e] := by
  rw [aCons_eq, ha, a_4 hb hc hd he]; cases ta <;> first | rfl | (cases tb <;> first | rfl | (cases tc <;> first | rfl | (cases td <;> first | rfl | (cases te <;> rfl))))
theorem e_d1 {F : List D → R D} {g : α → R τ} [Enc τ] (ha : ma ρ = encR ta) (hf : ∀ a, F [en a] = encR (g a)) : eDef F (aCons ma aNil) ρ = encR (ta.bind fun a => g a) := by
  unfold eDef; rw [a_1 ha]; cases ta <;> first | rfl | exact hf _
theorem e_d2 {F : List D → R D} {g : α → β → R τ} [Enc τ] (ha : ma ρ = encR ta) (hb : mb ρ = encR tb) (hf : ∀ a b, F [en a, en b] = encR (g a b)) : eDef F (aCons ma (aCons mb aNil)) ρ = encR (ta.bind fun a => tb.bind fun b => g a b) := by
  unfold eDef; rw [a_2 ha hb]; cases ta <;> first | rfl | (cases tb <;> first | rfl | exact hf _ _)
theorem e_d3 {F : List D → R D} {g : α → β → γ → R τ} [Enc τ] (ha : ma ρ = encR ta) (hb : mb ρ = encR tb) (hc : mc ρ = encR tc) (hf : ∀ a b c, F [en a, en b, en c] = encR (g a b c)) : eDef F (aCons ma (aCons mb (aCons mc aNil))) ρ = encR (ta.bind fun a => tb.bind fun b => tc.bind fun c => g a b c) := by
  unfold eDef; rw [a_3 ha hb hc]; cases ta <;> first | rfl | (cases tb <;> first | rfl | (cases tc <;> first | rfl | exact hf _ _ _))
theorem e_d4 {F : List D → R D} {g : α → β → γ → δ → R τ} [Enc τ] (ha : ma ρ = encR ta) (hb : mb ρ = encR tb) (hc : mc ρ = encR tc) (hd : md ρ = encR td) (hf : ∀ a b c d, F [en a, en b, en c, en d] = encR (g a b c d)) : eDef F (aCons ma (aCons mb (aCons mc (aCons md aNil)))) ρ = encR (ta.bind fun a => tb.bind fun b => tc.bind fun c => td.bind fun d => g a b c d) := by
  unfold eDef; rw [a_4 ha hb hc hd]; cases ta <;> first | rfl | (cases tb <;> first | rfl | (cases tc <;> first | rfl | (cases td <;> first | rfl | exact hf _ _ _ _)))
theorem e_d5 {F : List D → R D} {g : α → β → γ → δ → ε → R τ} [Enc τ] (ha : ma ρ = encR ta) (hb : mb ρ = encR tb) (hc : mc ρ = encR tc) (hd : md ρ = encR td) (he : me ρ = encR te) (hf : ∀ a b c d e, F [en a, en b, en c, en d, en e] = encR (g a b c d e)) : eDef F (aCons ma (aCons mb (aCons mc (aCons md (aCons me aNil))))) ρ = encR (ta.bind fun a => tb.bind fun b => tc.bind fun c => td.bind fun d => te.bind fun e => g a b c d e) := by
  unfold eDef; rw [a_5 ha hb hc hd he]; cases ta <;> first | rfl | (cases tb <;> first | rfl | (cases tc <;> first | rfl | (cases td <;> first | rfl | (cases te <;> first | rfl | exact hf _ _ _ _ _))))
theorem e_call1 {F : List D → R D} {g : α → R τ} [Enc τ] (ha : ma ρ = encR ta) (hf : ∀ a, F [en a] = encR (g a)) : eCall F (aCons ma aNil) ρ = encR (ta.bind fun a => g a) := by
  unfold eCall; rw [a_1 ha]; cases ta <;> first | rfl | exact hf _
theorem e_call2 {F : List D → R D} {g : α → β → R τ} [Enc τ] (ha : ma ρ = encR ta) (hb : mb ρ = encR tb) (hf : ∀ a b, F [en a, en b] = encR (g a b)) : eCall F (aCons ma (aCons mb aNil)) ρ = encR (ta.bind fun a => tb.bind fun b => g a b) := by
  unfold eCall; rw [a_2 ha hb]; cases ta <;> first | rfl | (cases tb <;> first | rfl | exact hf _ _)
/-! displays -/
theorem e_p2 (ha : ma ρ = encR ta) (hb : mb ρ = encR tb) : eTup (aCons ma (aCons mb aNil)) ρ = encR (ta.bind fun a => tb.bind fun b => R.ok (P2.mk a b)) := by
  unfold eTup; rw [a_2 ha hb]; cases ta <;> first | rfl | (cases tb <;> rfl)
theorem e_p3 (ha : ma ρ = encR ta) (hb : mb ρ = encR tb) (hc : mc ρ = encR tc) : eTup (aCons ma (aCons mb (aCons mc aNil))) ρ = encR (ta.bind fun a => tb.bind fun b => tc.bind fun c => R.ok (P3.mk a b c)) := by
  unfold eTup; rw [a_3 ha hb hc]; cases ta <;> first | rfl | (cases tb <;> first | rfl | (cases tc <;> rfl))
theorem e_p4 (ha : ma ρ = encR ta) (hb : mb ρ = encR tb) (hc : mc ρ = encR tc) (hd : md ρ = encR td) : eTup (aCons ma (aCons mb (aCons mc (aCons md aNil)))) ρ = encR (ta.bind fun a => tb.bind fun b => tc.bind fun c => td.bind fun d => R.ok (P4.mk a b c d)) := by
  unfold eTup; rw [a_4 ha hb hc hd]; cases ta <;> first | rfl | (cases tb <;> first | rfl | (cases tc <;> first | rfl | (cases td <;> rfl)))
/-- items of one kind -/
def itemsT : List (R α) → R (List α)
  | [] => .ok []
  | t :: ts => t.bind fun a => (itemsT ts).bind fun l => .ok (a :: l)
theorem al_nil : aNil ρ = (itemsT ([] : List (R α))).bind fun l => R.ok (l.map en) := rfl
theorem al_cons {ts : List (R α)} (ha : ma ρ = encR ta) (h : ms ρ = (itemsT ts).bind fun l => R.ok (l.map en)) : aCons ma ms ρ = (itemsT (ta :: ts)).bind fun l => R.ok (l.map en) := by
  rw [aCons_eq, ha, h]
  show _ = (ta.bind fun a => (itemsT ts).bind fun l => .ok (a :: l)).bind _
  generalize itemsT ts = tt
  cases ta with
  | ok a => cases tt <;> rfl
  | er c => rfl
  | bad => rfl
theorem e_lst {ts : List (R α)} (h : ms ρ = (itemsT ts).bind fun l => R.ok (l.map en)) : eLst ms ρ = encR ((itemsT ts).bind lstT) := by
  unfold eLst
  rw [h]
  cases itemsT ts with
  | ok l =>
    simp only [R.bind_ok, List.length_map]
    unfold lstT
    split <;> rfl
  | er c => rfl
  | bad => rfl
theorem e_tupl {ts : List (R α)} (h : ms ρ = (itemsT ts).bind fun l => R.ok (l.map en)) : eTup ms ρ = encR ((itemsT ts).bind tupT) := by
  unfold eTup
  rw [h]
  cases itemsT ts with
  | ok l =>
    simp only [R.bind_ok, List.length_map]
    unfold tupT
    split <;> rfl
  | er c => rfl
  | bad => rfl
/-! slices -/
def ooR (o : R (Option Int)) : R (Option Int) := o
theorem oo_none : oNone ρ = R.ok none := rfl
theorem oo_some {ti : R Int} (h : m ρ = encR ti) : oSome m ρ = ti.bind fun i => R.ok (some i) := by
  rw [oSome_eq, h]; cases ti <;> rfl
theorem e_sl {f : D → Option Int → Option Int → R D} {g : α → Option Int → Option Int → R β} {ml mh : DO} {tl th : R (Option Int)} (ha : ma ρ = encR ta) (hl : ml ρ = tl) (hh : mh ρ = th) (hf : ∀ a l h, f (en a) l h = encR (g a l h)) :
    eSl f ma ml mh ρ = encR (ta.bind fun a => tl.bind fun l => th.bind fun h => g a l h) := by
  rw [eSl_eq, ha, hl, hh]
  cases ta with
  | ok a => cases tl with
    | ok l => cases th with
      | ok h => exact hf a l h
      | er c => rfl
      | bad => rfl
    | er c => rfl
    | bad => rfl
  | er c => rfl
  | bad => rfl
theorem cutL_map (f : α → D) (l : List α) (a b : Option Int) : cutL (l.map f) a b = (cutL l a b).map f := by
  unfold cutL
  simp only [List.length_map, List.map_drop, List.map_take]
/-! ### operators by kinds -/
theorem o_add (a b : Int) : dAdd (en a) (en b) = encR (R.ok (a + b)) := rfl
theorem o_addL (a b : List α) : dAdd (en a) (en b) = encR (catT a b) := by
  show dCat (.list (a.map en)) (.list (b.map en)) = _
  unfold dCat catT
  simp only [en_l, List.length_map, ← List.map_append]
  split <;> rfl
theorem o_catL (a b : List α) : dCat (en a) (en b) = encR (catT a b) := by
  unfold dCat catT
  simp only [en_l, List.length_map, ← List.map_append]
  split <;> rfl
theorem o_addT (a b : Tup α) : dAdd (en a) (en b) = encR (tcatT a b) := by
  obtain ⟨a⟩ := a
  obtain ⟨b⟩ := b
  show dCatT (.tuple (a.map en)) (.tuple (b.map en)) = _
  unfold dCatT tcatT
  simp only [en_t, List.length_map, ← List.map_append]
  split <;> rfl
theorem o_sub (a b : Int) : dSub (en a) (en b) = encR (R.ok (a - b)) := rfl
theorem o_mul (a b : Int) : dMul (en a) (en b) = encR (mulT a b) := by
  show dMulI _ _ = _
  unfold dMulI dI mulT
  simp only [en_i]
  split <;> rfl
theorem o_mod (a b : Int) : dMod (en a) (en b) = encR (modT a b) := by
  unfold dMod dI modT
  simp only [en_i]
  split <;> rfl
theorem o_fdiv (a b : Int) : dFdiv (en a) (en b) = encR (fdivT a b) := by
  unfold dFdiv dI fdivT
  simp only [en_i]
  split <;> rfl
theorem o_rep (a : List α) (b : Int) : dMul (en a) (en b) = encR (repT a b) := by
  show dRep (.list (a.map en)) (.int b) = _
  unfold dRep repT
  simp only [en_l, en_i, List.length_map]
  split
  · simp only [encR_ok, en_l, List.map_flatten, List.map_replicate]
  · rfl
theorem o_lt (a b : Int) : dLt (en a) (en b) = encR (R.ok (decide (a < b))) := rfl
theorem o_le (a b : Int) : dLe (en a) (en b) = encR (R.ok (decide (a ≤ b))) := rfl
theorem o_gt (a b : Int) : dGt (en a) (en b) = encR (R.ok (decide (b < a))) := rfl
theorem o_ge (a b : Int) : dGe (en a) (en b) = encR (R.ok (decide (b ≤ a))) := rfl
theorem o_neg (a : Int) : dNeg (en a) = encR (R.ok (-a)) := rfl
theorem o_not (a : Bool) : dNot (en a) = encR (R.ok (!a)) := rfl
theorem o_isN [NoN α] (a : Option α) : dIsN (en a) = encR (R.ok a.isNone) := by
  cases a with
  | none => rfl
  | some a => rw [dIsN_eq, en_some, NoN.nn a]; rfl
theorem o_notN [NoN α] (a : Option α) : dNotN (en a) = encR (R.ok a.isSome) := by
  cases a with
  | none => rfl
  | some a => rw [dNotN_eq, en_some, NoN.nn a]; rfl
theorem o_isND (a : D) : dIsN (en a) = encR (R.ok (isN a)) := rfl
theorem o_notND (a : D) : dNotN (en a) = encR (R.ok (!isN a)) := rfl
theorem o_eq {α : Type} [EncL α] [DecidableEq α] (h : EncL.dp α ≤ 64) (a b : α) : dEq (en a) (en b) = encR (R.ok (decide (a = b))) := dEq_en h a b
theorem o_ne {α : Type} [EncL α] [DecidableEq α] (h : EncL.dp α ≤ 64) (a b : α) : dNe (en a) (en b) = encR (R.ok (!decide (a = b))) := dNe_en h a b
/-- compared as data -/
def toB (r : R D) : R Bool := match r with
  | .ok (.bool b) => .ok b
  | .er c => .er c
  | _ => .bad
def eqD (a b : D) : R Bool := toB (dEq a b)
def neD (a b : D) : R Bool := toB (dNe a b)
theorem o_eqD (a b : D) : dEq (en a) (en b) = encR (eqD a b) := by
  show dEq a b = _
  unfold eqD dEq
  split <;> rfl
theorem o_neD (a b : D) : dNe (en a) (en b) = encR (neD a b) := by
  show dNe a b = _
  unfold neD dNe
  split <;> rfl
theorem eqD_en {α : Type} [EncL α] [DecidableEq α] (h : EncL.dp α ≤ 64) (a b : α) : eqD (en a) (en b) = R.ok (decide (a = b)) := by
  unfold eqD; rw [dEq_en h]; rfl
theorem neD_en {α : Type} [EncL α] [DecidableEq α] (h : EncL.dp α ≤ 64) (a b : α) : neD (en a) (en b) = R.ok (!decide (a = b)) := by
  unfold neD; rw [dNe_en h]; rfl
/-- what must be a number -/
theorem o_addO (a : Option Int) (b : Int) : dAdd (en a) (en b) = encR ((unO a).bind fun a => R.ok (a + b)) := by cases a <;> rfl
theorem o_unO2 {f : D → D → R D} {g : α → β → R γ} (hf : ∀ a b, f (en a) (en b) = encR (g a b)) (hn : ∀ y, f .none y = .bad) (a : Option α) (b : β) : f (en a) (en b) = encR ((unO a).bind fun a => g a b) := by
  cases a with
  | none => exact hn _
  | some a => exact hf a b
theorem o_unO2r {f : D → D → R D} {g : α → β → R γ} (hf : ∀ a b, f (en a) (en b) = encR (g a b)) (hn : ∀ x : α, f (en x) .none = .bad) (a : α) (b : Option β) : f (en a) (en b) = encR ((unO b).bind fun b => g a b) := by
  cases b with
  | none => exact hn _
  | some b => exact hf a b
theorem o_len (a : List α) : dLen [en a] = encR (R.ok ((a.length : Nat) : Int)) := by
  show R.ok (PyData.int _) = _
  rw [List.length_map]; rfl
theorem o_lenT (a : Tup α) : dLen [en a] = encR (R.ok ((a.l.length : Nat) : Int)) := by
  show R.ok (PyData.int _) = _
  rw [List.length_map]; rfl
theorem o_lenS (a : Scr) : dLen [en a] = encR (R.ok ((a.ns.length : Nat) : Int)) := by
  show R.ok (PyData.int _) = _
  rw [List.length_map]; rfl
theorem atI_map (f : α → D) (l : List α) (i : Int) : atI (l.map f) i = (atI l i).map f := by
  unfold atI
  simp only [List.length_map]
  cases ixN l.length i with
  | none => rfl
  | some j => simp [List.getElem?_map]
theorem o_atL (a : List α) (i : Int) : dIx (en a) (en i) = encR (atT a i) := by
  show dIx (.list (a.map en)) (.int i) = _
  rw [dIx_l, atI_map]
  unfold atT
  cases atI a i <;> rfl
theorem o_atU (a : Tup α) (i : Int) : dIx (en a) (en i) = encR (atT a.l i) := by
  show dIx (.tuple (a.l.map en)) (.int i) = _
  rw [dIx_t, atI_map]
  unfold atT
  cases atI a.l i <;> rfl
theorem o_atS (a : Scr) (i : Int) : dIx (en a) (en i) = encR (atT a.ns i) := by
  show dIx (.dict [(.none, .list (a.ns.map PyData.int))]) (.int i) = _
  rw [dIx_scr, atI_map]
  unfold atT
  cases atI a.ns i <;> rfl
/-- a written place of a tuple of several kinds -/
theorem e_ix {i : D} {g : α → β} (ha : ma ρ = encR ta) (hf : ∀ a, dIx (en a) i = R.ok (en (g a))) : eBin dIx ma (eC i) ρ = encR (ta.bind fun a => R.ok (g a)) := by
  unfold eBin
  rw [ha]
  cases ta with
  | ok a => exact hf a
  | er c => rfl
  | bad => rfl
theorem i2_0 (p : P2 α β) : dIx (en p) (.int 0) = R.ok (en p.a) := rfl
theorem i2_1 (p : P2 α β) : dIx (en p) (.int 1) = R.ok (en p.b) := rfl
theorem i3_0 (p : P3 α β γ) : dIx (en p) (.int 0) = R.ok (en p.a) := rfl
theorem i3_1 (p : P3 α β γ) : dIx (en p) (.int 1) = R.ok (en p.b) := rfl
theorem i3_2 (p : P3 α β γ) : dIx (en p) (.int 2) = R.ok (en p.c) := rfl
theorem i4_0 (p : P4 α β γ δ) : dIx (en p) (.int 0) = R.ok (en p.a) := rfl
theorem i4_1 (p : P4 α β γ δ) : dIx (en p) (.int 1) = R.ok (en p.b) := rfl
theorem i4_2 (p : P4 α β γ δ) : dIx (en p) (.int 2) = R.ok (en p.c) := rfl
theorem i4_3 (p : P4 α β γ δ) : dIx (en p) (.int 3) = R.ok (en p.d) := rfl
theorem o_slL (a : List α) (l h : Option Int) : dSl (en a) l h = encR (R.ok (cutL a l h)) := by
  show R.ok (PyData.list (cutL (a.map en) l h)) = _
  rw [cutL_map]; rfl
theorem o_slLL (a : List α) (l h : Option Int) : dSlL (en a) l h = encR (R.ok (cutL a l h)) := by
  show R.ok (PyData.list (cutL (a.map en) l h)) = _
  rw [cutL_map]; rfl
theorem o_slT (a : Tup α) (l h : Option Int) : dSl (en a) l h = encR (R.ok (Tup.mk (cutL a.l l h))) := by
  show R.ok (PyData.tuple (cutL (a.l.map en) l h)) = _
  rw [cutL_map]; rfl
theorem o_revL (a : List α) : dRev (en a) = encR (R.ok a.reverse) := by
  show R.ok (PyData.list (a.map en).reverse) = _
  rw [← List.map_reverse]; rfl
theorem o_revLL (a : List α) : dRevL (en a) = encR (R.ok a.reverse) := by
  show R.ok (PyData.list (a.map en).reverse) = _
  rw [← List.map_reverse]; rfl
theorem o_tupL (a : List α) : dTupOf [en a] = encR (R.ok (Tup.mk a)) := rfl
theorem o_lstT (a : Tup α) : dLstOf [en a] = encR (R.ok a.l) := rfl
theorem o_lstL (a : List α) : dLstOf [en a] = encR (R.ok a) := rfl
theorem o_intB (a : Bool) : dInt [en a] = encR (R.ok (if a then (1 : Int) else 0)) := rfl
theorem o_abs (a : Int) : dAbs [en a] = encR (R.ok (if a < 0 then -a else a)) := rfl
theorem o_min2 (a b : Int) : dMin [en a, en b] = encR (R.ok (if b < a then b else a)) := rfl
theorem o_max2 (a b : Int) : dMax [en a, en b] = encR (R.ok (if b > a then b else a)) := rfl
theorem o_min (a : List Int) : dMin [en a] = encR (minT a) := by
  show (match (intsOf (a.map PyData.int)).bind minL with | some m => R.ok (PyData.int m) | none => .bad) = _
  rw [intsOf_map]
  unfold minT
  show (match minL a with | some m => R.ok (PyData.int m) | none => .bad) = _
  cases minL a <;> rfl
theorem o_max (a : List Int) : dMax [en a] = encR (maxT a) := by
  show (match (intsOf (a.map PyData.int)).bind maxL with | some m => R.ok (PyData.int m) | none => .bad) = _
  rw [intsOf_map]
  unfold maxT
  show (match maxL a with | some m => R.ok (PyData.int m) | none => .bad) = _
  cases maxL a <;> rfl
/-- numbers, none of them None -/
def optL : List (Option Int) → Option (List Int)
  | [] => some []
  | some a :: l => (optL l).map fun r => a :: r
  | none :: _ => none
theorem intsOf_opt : ∀ l : List (Option Int), intsOf (l.map en) = optL l
  | [] => rfl
  | some a :: l => by
    have ih := intsOf_opt l
    show intsOf (.int a :: l.map en) = (optL l).map fun r => a :: r
    unfold intsOf
    rw [ih]
    all_goals (cases optL l <;> rfl)
  | none :: l => rfl
def minOT (l : List (Option Int)) : R Int := unO ((optL l).bind minL)
def maxOT (l : List (Option Int)) : R Int := unO ((optL l).bind maxL)
theorem o_minO (a : List (Option Int)) : dMin [en a] = encR (minOT a) := by
  show (match (intsOf (a.map en)).bind minL with | some m => R.ok (PyData.int m) | none => .bad) = _
  rw [intsOf_opt]
  unfold minOT
  cases (optL a).bind minL <;> rfl
theorem o_maxO (a : List (Option Int)) : dMax [en a] = encR (maxOT a) := by
  show (match (intsOf (a.map en)).bind maxL with | some m => R.ok (PyData.int m) | none => .bad) = _
  rw [intsOf_opt]
  unfold maxOT
  cases (optL a).bind maxL <;> rfl
theorem o_sum (a : List Int) : dSum [en a] = encR (R.ok a.sum) := by
  show (match intsOf (a.map PyData.int) with | some bs => R.ok (PyData.int bs.sum) | none => .bad) = _
  rw [intsOf_map]; rfl
theorem o_all (a : List Bool) : dAll [en a] = encR (R.ok (a.all id)) := by
  show (match boolsOf (a.map en) with | some bs => R.ok (PyData.bool (bs.all id)) | none => .bad) = _
  have : boolsOf (a.map en) = some a := by
    have h := boolsOf_map a
    exact h
  rw [this]; rfl
theorem any_eqv {α : Type} [EncL α] [DecidableEq α] (a : α) (l : List α) : ((l.map en).any fun z => PyData.eqv z (en a)) = decide (a ∈ l) := by
  induction l with
  | nil => simp
  | cons b l ih =>
    rw [List.map_cons, List.any_cons, ih, eqv_en]
    by_cases h : b = a
    · simp [h]
    · have : ¬ a = b := fun z => h z.symm
      simp [h, this]
theorem o_in {α : Type} [EncL α] [DecidableEq α] (h : EncL.dp α + 1 ≤ 64) (a : α) (l : List α) : dIn (en a) (en l) = encR (R.ok (decide (a ∈ l))) := by
  unfold dIn inD
  simp only [en_l]
  have h1 := shaped_en (α := α) (Nat.le_trans (Nat.le_succ _) h) a
  have h2 := shaped_en (α := List α) h l
  rw [h1, show SeqAt.shaped (.list (l.map en)) = true from h2, any_eqv]
  rfl
theorem o_notIn {α : Type} [EncL α] [DecidableEq α] (h : EncL.dp α + 1 ≤ 64) (a : α) (l : List α) : dNotIn (en a) (en l) = encR (R.ok (!decide (a ∈ l))) := by
  unfold dNotIn inD
  simp only [en_l]
  have h1 := shaped_en (α := α) (Nat.le_trans (Nat.le_succ _) h) a
  have h2 := shaped_en (α := List α) h l
  rw [h1, show SeqAt.shaped (.list (l.map en)) = true from h2, any_eqv]
  rfl
theorem rngD_en (n : Nat) : (List.range n).map (fun i => PyData.int ((i : Nat) : Int)) = ((List.range n).map fun i => ((i : Nat) : Int)).map en := by
  rw [List.map_map]; rfl
theorem rngD_en1 (n : Nat) : rngD 0 n = ((List.range n).map fun i => ((i : Nat) : Int)).map en := by
  unfold rngD
  rw [List.map_map]
  apply List.map_congr_left
  intro i _
  show PyData.int _ = PyData.int _
  simp
theorem rngD_en2 (a : Int) (n : Nat) : rngD a n = ((List.range n).map fun i => a + ((i : Nat) : Int)).map en := by
  unfold rngD
  rw [List.map_map]
  rfl
theorem o_lrg1 (n : Int) : dLRg1 (en n) = encR (rng1T n) := by
  show (if rgB 0 n = true then R.ok (PyData.list (rngD 0 n.toNat)) else .bad) = _
  unfold rgB rng1T
  rw [rngD_en1]
  by_cases h : -100000 ≤ n ∧ n ≤ 100000
  · rw [if_pos (decide_eq_true (by omega)), if_pos (decide_eq_true h)]; rfl
  · rw [if_neg (by rw [decide_eq_true_eq]; omega), if_neg (by rw [decide_eq_true_eq]; exact h)]; rfl
theorem o_lrg2 (a b : Int) : dLRg2 (en a) (en b) = encR (rng2T a b) := by
  show (if rgB a b = true then R.ok (PyData.list (rngD a (b - a).toNat)) else .bad) = _
  unfold rgB rng2T
  rw [rngD_en2]
  split <;> rfl
/-! ### what is walked -/
theorem k_seqL {tl : R (List α)} (h : m ρ = encR tl) : iSeq m ρ = tl.bind fun l => R.ok (l.map en) := by
  unfold iSeq; rw [h]; cases tl <;> rfl
theorem k_seqT {tl : R (Tup α)} (h : m ρ = encR tl) : iSeq m ρ = (tl.bind fun t => R.ok t.l).bind fun l => R.ok (l.map en) := by
  unfold iSeq; rw [h]; cases tl <;> rfl
theorem k_rng1 {ti : R Int} (h : m ρ = encR ti) : iArgs dRng1 (aCons m aNil) ρ = (ti.bind fun n => rng1T n).bind fun l => R.ok (l.map en) := by
  unfold iArgs
  rw [a_1 h]
  cases ti with
  | ok n =>
    show (if _ then R.ok (rngD 0 n.toNat) else .bad) = (rng1T n).bind _
    unfold rng1T
    rw [rngD_en1]
    split <;> rfl
  | er c => rfl
  | bad => rfl
theorem k_rng2 {ti tj : R Int} (h : ma ρ = encR ti) (h' : mb ρ = encR tj) : iArgs dRng2 (aCons ma (aCons mb aNil)) ρ = (ti.bind fun a => tj.bind fun b => rng2T a b).bind fun l => R.ok (l.map en) := by
  unfold iArgs
  rw [a_2 h h']
  cases ti with
  | ok a => cases tj with
    | ok b =>
      show (if _ then R.ok (rngD a (b - a).toNat) else .bad) = (rng2T a b).bind _
      unfold rng2T
      rw [rngD_en2]
      split <;> rfl
    | er c => rfl
    | bad => rfl
  | er c => rfl
  | bad => rfl
theorem enumD_en (l : List α) : ∀ i : Nat, enumD i (l.map en) = (enumG i l).map en := by
  induction l with
  | nil => intro i; rfl
  | cons a l ih => intro i; simp only [List.map_cons, enumD, enumG, ih]; rfl
theorem zipD_en : ∀ (l : List α) (k : List β), zipD (l.map en) (k.map en) = (zipG l k).map en
  | [], _ => by simp [zipD, zipG]
  | _ :: _, [] => by simp [zipD, zipG]
  | a :: l, b :: k => by
    simp only [List.map_cons, zipD, zipG, zipD_en l k]; rfl
theorem k_enumL {tl : R (List α)} (h : m ρ = encR tl) : iArgs dEnum (aCons m aNil) ρ = (tl.bind fun l => R.ok (enumG 0 l)).bind fun l => R.ok (l.map en) := by
  unfold iArgs
  rw [a_1 h]
  cases tl with
  | ok l =>
    show R.ok (enumD 0 (l.map en)) = _
    rw [enumD_en]; rfl
  | er c => rfl
  | bad => rfl
theorem k_enumT {tl : R (Tup α)} (h : m ρ = encR tl) : iArgs dEnum (aCons m aNil) ρ = (tl.bind fun t => R.ok (enumG 0 t.l)).bind fun l => R.ok (l.map en) := by
  unfold iArgs
  rw [a_1 h]
  cases tl with
  | ok l =>
    show R.ok (enumD 0 (l.l.map en)) = _
    rw [enumD_en]; rfl
  | er c => rfl
  | bad => rfl
end
end Fc
set_option Elab.async false
set_option linter.all false
set_option maxRecDepth 100000
set_option maxHeartbeats 2000000
namespace Fc
open PySem L2 Evl PySem.Spec PyProof.Rows
section
variable {α β γ δ ε σ τ κ : Type} [Enc α] [Enc β] [Enc γ] [Enc δ] [Enc ε]
variable {ρ : En} {m ma mb mc md me : DE} {ms : DA}
variable {ta : R α} {tb : R β} {tc : R γ} {td : R δ} {te : R ε}
/-! ### comprehensions -/
theorem k_zipLL {tl : R (List α)} {tk : R (List β)} (h : ma ρ = encR tl) (h' : mb ρ = encR tk) : iArgs dZip (aCons ma (aCons mb aNil)) ρ = (tl.bind fun l => tk.bind fun k => R.ok (zipG l k)).bind fun l => R.ok (l.map en) := by
  unfold iArgs
  rw [a_2 h h']
  cases tl with
  | ok l => cases tk with
    | ok k =>
      show R.ok (zipD (l.map en) (k.map en)) = _
      rw [zipD_en]; rfl
    | er c => rfl
    | bad => rfl
  | er c => rfl
  | bad => rfl
theorem k_zipTT {tl : R (Tup α)} {tk : R (Tup β)} (h : ma ρ = encR tl) (h' : mb ρ = encR tk) : iArgs dZip (aCons ma (aCons mb aNil)) ρ = (tl.bind fun l => tk.bind fun k => R.ok (zipG l.l k.l)).bind fun l => R.ok (l.map en) := by
  unfold iArgs
  rw [a_2 h h']
  cases tl with
  | ok l => cases tk with
    | ok k =>
      show R.ok (zipD (l.l.map en) (k.l.map en)) = _
      rw [zipD_en]; rfl
    | er c => rfl
    | bad => rfl
  | er c => rfl
  | bad => rfl
theorem k_enumzipTT {tl : R (Tup α)} {tk : R (Tup β)} (h : ma ρ = encR tl) (h' : mb ρ = encR tk) : iArgs dEnumZip (aCons ma (aCons mb aNil)) ρ = (tl.bind fun l => tk.bind fun k => R.ok (enumG 0 (zipG l.l k.l))).bind fun l => R.ok (l.map en) := by
  unfold iArgs
  rw [a_2 h h']
  cases tl with
  | ok l => cases tk with
    | ok k =>
      show R.ok (enumD 0 (zipD (l.l.map en) (k.l.map en))) = _
      rw [zipD_en, enumD_en]; rfl
    | er c => rfl
    | bad => rfl
  | er c => rfl
  | bad => rfl
theorem t_yes : eT ρ = encR (R.ok true) := rfl
theorem lcL_en {g : DG} {t m : DE} {vs : List Nat} {p : α → R Bool} {f : α → R β} (h : ∀ x, ∃ ρ1, g (en x) (wipeE ρ vs) = some ρ1 ∧ t ρ1 = encR (p x) ∧ m ρ1 = encR (f x)) : ∀ xs : List α, lcL g t m vs ρ (xs.map en) = match lcGo p f xs with | .ok ys => some (ys.map en) | _ => none
  | [] => rfl
  | x :: xs => by
    obtain ⟨ρ1, h1, h2, h3⟩ := h x
    have ih := lcL_en h xs
    rw [List.map_cons]
    unfold lcL lcStep lcGo
    rw [h1]
    simp only [h2, h3, ih]
    cases p x with
    | ok b => cases b with
      | true =>
        simp only [encR_ok, en_b]
        cases f x with
        | ok y =>
          simp only [encR_ok]
          cases lcGo p f xs <;> rfl
        | er c => rfl
        | bad => rfl
      | false =>
        simp only [encR_ok, en_b]
        cases lcGo p f xs <;> rfl
    | er c => rfl
    | bad => rfl
theorem lcGo_er {p : α → R Bool} {f : α → R β} {c : Str} : ∀ {xs : List α}, lcGo p f xs ≠ .er c
  | [] => fun h => by cases h
  | x :: xs => fun h => by
    unfold lcGo at h
    split at h
    · split at h
      · cases q : lcGo p f xs with
        | ok ys => rw [q] at h; cases h
        | er c' => exact lcGo_er (c := c') q
        | bad => rw [q] at h; cases h
      · cases h
    · exact lcGo_er h
    · cases h
theorem e_lc {it : DI} {g : DG} {t m : DE} {vs : List Nat} {tl : R (List α)} {p : α → R Bool} {f : α → R β} (hi : it ρ = tl.bind fun l => R.ok (l.map en)) (h : ∀ x, ∃ ρ1, g (en x) (wipeE ρ vs) = some ρ1 ∧ t ρ1 = encR (p x) ∧ m ρ1 = encR (f x)) : eLc it g t m vs ρ = encR (tl.bind fun l => lcT p f l) := by
  unfold eLc
  rw [hi]
  cases tl with
  | ok l =>
    simp only [R.bind_ok]
    rw [lcL_en h]
    unfold lcT
    cases q : lcGo p f l with
    | ok ys =>
      simp only [R.bind_ok]
      unfold lstT
      rw [List.length_map]
      split <;> rfl
    | er c => exact (lcGo_er q).elim
    | bad => rfl
  | er c => rfl
  | bad => rfl
/-! ### statements -/
/-- how a result is read -/
structure Itp (β τ : Type) where
  P : R τ → RS → Prop
  rt : β → R τ
  er : ∀ c ρ, P (.er c) (.er c ρ)
  bd : P .bad .bad
/-- a def's body -/
def iF (β : Type) [Enc β] : Itp β β := ⟨fun t r => endF r = encR t, fun b => .ok b, fun _ _ => rfl, rfl⟩
theorem iF_rt (b : β) : (iF β).P ((iF β).rt b) (.rt (en b)) := rfl
/-- a block that neither returns nor breaks: from its end on by E -/
def iN (E : σ → En → Prop) : Itp Empty σ where
  P := fun t r => match t, r with
    | .ok s, .nx ρ => E s ρ
    | .ok s, .ct ρ => E s ρ
    | .er c, .er c' _ => c = c'
    | .bad, .bad => True
    | _, _ => False
  rt := fun b => nomatch b
  er := fun _ _ => rfl
  bd := trivial
/-- a block that may return or break -/
def iC (E : σ → En → Prop) (β : Type) [Enc β] : Itp β (Ctl σ β) where
  P := fun t r => match t, r with
    | .ok (.nx s), .nx ρ => E s ρ
    | .ok (.nx s), .ct ρ => E s ρ
    | .ok (.bk s), .bk ρ => E s ρ
    | .ok (.rt b), .rt d => d = en b
    | .er c, .er c' _ => c = c'
    | .bad, .bad => True
    | _, _ => False
  rt := fun b => .ok (.rt b)
  er := fun _ _ => rfl
  bd := trivial
/-- a def that returns nothing -/
theorem j_end_F {ρ : En} : (iF Unit).P (R.ok ()) (sNext ρ) := rfl
theorem j_end_N {E : σ → En → Prop} {s : σ} (h : E s ρ) : (iN E).P (R.ok s) (sNext ρ) := h
theorem j_end_C {E : σ → En → Prop} {s : σ} (h : E s ρ) : (iC E β).P (R.ok (.nx s)) (sNext ρ) := h
theorem j_ct_N {E : σ → En → Prop} {s : σ} (h : E s ρ) : (iN E).P (R.ok s) (RS.ct ρ) := h
theorem j_ct_C {E : σ → En → Prop} {s : σ} (h : E s ρ) : (iC E β).P (R.ok (.nx s)) (RS.ct ρ) := h
theorem j_bk_C {E : σ → En → Prop} {s : σ} (h : E s ρ) : (iC E β).P (R.ok (.bk s)) (RS.bk ρ) := h
section
variable {Φ : Itp ε τ} {M N A B : DS} {k : α → R τ}
theorem j_rK {f : D → RS} (h : m ρ = encR ta) (hk : ∀ a, Φ.P (k a) (f (en a))) : Φ.P (ta.bind fun a => k a) (rK (m ρ) f ρ) := by
  rw [h]
  cases ta with
  | ok a => exact hk a
  | er c => exact Φ.er c ρ
  | bad => exact Φ.bd
theorem seqK_rK {d : R D} {f : D → RS} : seqK (rK d f ρ) N = rK d (fun x => seqK (f x) N) ρ := by cases d <;> rfl
theorem j_sE {f : D → DS} (h : m ρ = encR ta) (hk : ∀ a, Φ.P (k a) (seqK (f (en a) ρ) N)) : Φ.P (ta.bind fun a => k a) (sSeq (sE m f) N ρ) := by
  rw [sSeq_eq, sE_eq, seqK_rK]
  exact j_rK h hk
theorem j_asg {i : Nat} (h : m ρ = encR ta) (hk : ∀ a, Φ.P (k a) (N (ρ.set i (.fz (en a))))) : Φ.P (ta.bind fun a => k a) (sSeq (sAsg i m) N ρ) := j_sE h hk
theorem j_own {i : Nat} (h : m ρ = encR ta) (hk : ∀ a, Φ.P (k a) (N (ρ.set i (.ow (en a))))) : Φ.P (ta.bind fun a => k a) (sSeq (sOwn i m) N ρ) := j_sE h hk
theorem j_drop (h : m ρ = encR ta) (hk : ∀ a, Φ.P (k a) (N ρ)) : Φ.P (ta.bind fun a => k a) (sSeq (sDrop m) N ρ) := j_sE h hk
theorem j_asgG {g : DG} {f : α → En} (h : m ρ = encR ta) (hg : ∀ a, g (en a) ρ = some (f a)) (hk : ∀ a, Φ.P (k a) (N (f a))) : Φ.P (ta.bind fun a => k a) (sSeq (sAsgG g m) N ρ) :=
  j_sE h fun a => by simp only [hg]; exact hk a
theorem j_par {i j : Nat} {k : α → β → R τ} (h : ma ρ = encR ta) (h' : mb ρ = encR tb) (hk : ∀ a b, Φ.P (k a b) (N ((ρ.set i (.fz (en a))).set j (.fz (en b))))) : Φ.P (ta.bind fun a => tb.bind fun b => k a b) (sSeq (sPar i j ma mb) N ρ) := by
  rw [sSeq_eq]
  unfold sPar
  rw [a_2 h h']
  cases ta with
  | ok a => cases tb with
    | ok b => exact hk a b
    | er c => exact Φ.er c ρ
    | bad => exact Φ.bd
  | er c => exact Φ.er c ρ
  | bad => exact Φ.bd
theorem j_frz {i : Nat} (h : Φ.P (ta.bind fun a => k a) (sSeq M N (frz i ρ))) : Φ.P (ta.bind fun a => k a) (sSeq (sFrz i M) N ρ) := h
theorem j_frz' {i : Nat} {t : R τ} {ρ' : En} (e : frz i ρ = ρ') (h : Φ.P t (sSeq M N ρ')) : Φ.P t (sSeq (sFrz i M) N ρ) := by subst e; exact h
theorem j_frz1 {i : Nat} {t : R τ} {ρ' : En} (e : frz i ρ = ρ') (h : Φ.P t (M ρ')) : Φ.P t (sFrz i M ρ) := by subst e; exact h
theorem j_app {i : Nat} {xs : List α} {k : List α → R τ} (hi : ρ[i]? = some (.ow (en xs))) (h : m ρ = encR ta) (hk : ∀ ys, Φ.P (k ys) (N (ρ.set i (.ow (en ys))))) : Φ.P (ta.bind fun a => (appT xs a).bind fun ys => k ys) (sSeq (sApp i m) N ρ) := by
  rw [sSeq_eq]
  unfold sApp
  rw [hi]
  simp only [en_l, sE_eq]
  rw [seqK_rK]
  refine j_rK h fun a => ?_
  unfold appT
  rw [List.length_map]
  split
  · have := hk (xs ++ [a])
    rw [en_l, List.map_append] at this
    exact this
  · exact Φ.bd
theorem j_ext {i : Nat} {xs : List α} {tl : R (List α)} {k : List α → R τ} (hi : ρ[i]? = some (.ow (en xs))) (h : m ρ = encR tl) (hk : ∀ ys, Φ.P (k ys) (N (ρ.set i (.ow (en ys))))) : Φ.P (tl.bind fun a => (catT xs a).bind fun ys => k ys) (sSeq (sExt i m) N ρ) := by
  rw [sSeq_eq]
  unfold sExt
  rw [hi]
  simp only [en_l, sE_eq]
  rw [seqK_rK]
  refine j_rK h fun a => ?_
  simp only [en_l]
  unfold catT
  rw [List.length_map, List.length_map]
  split
  · have := hk (xs ++ a)
    rw [en_l, List.map_append] at this
    exact this
  · exact Φ.bd
theorem j_last {t : R τ} (h : Φ.P t (sSeq M sNext ρ)) : Φ.P t (M ρ) := by
  rw [sSeq_eq] at h
  cases q : M ρ <;> rw [q] at h <;> exact h
theorem j_next {t : R τ} (h : Φ.P t (N ρ)) : Φ.P t (sSeq sNext N ρ) := h
theorem j_assoc {t : R τ} {s : DS} (h : Φ.P t (sSeq s (sSeq M N) ρ)) : Φ.P t (sSeq (sSeq s M) N ρ) := by
  rw [sSeq_eq, sSeq_eq] at *
  cases q : s ρ <;> rw [q] at h <;> exact h
theorem j_if {tc : R Bool} {t1 t2 : R τ} (h : mc ρ = encR tc) (h1 : Φ.P t1 (sSeq A N ρ)) (h2 : Φ.P t2 (sSeq B N ρ)) : Φ.P (tc.bind fun c => if c = true then t1 else t2) (sSeq (sIf mc A B) N ρ) := by
  rw [sSeq_eq, sIf_eq, seqK_rK]
  refine j_rK h fun c => ?_
  cases c
  · exact h2
  · exact h1
theorem j_if1 {tc : R Bool} {t1 t2 : R τ} (h : mc ρ = encR tc) (h1 : Φ.P t1 (A ρ)) (h2 : Φ.P t2 (B ρ)) : Φ.P (tc.bind fun c => if c = true then t1 else t2) (sIf mc A B ρ) := by
  rw [sIf_eq]
  refine j_rK h fun c => ?_
  cases c
  · exact h2
  · exact h1
theorem j_ret {ta : R ε} (hr : ∀ b, Φ.P (Φ.rt b) (.rt (en b))) (h : m ρ = encR ta) : Φ.P (ta.bind fun b => Φ.rt b) (sRet m ρ) := by
  rw [sRet_eq]
  exact j_rK h hr
theorem j_retS {ta : R ε} (hr : ∀ b, Φ.P (Φ.rt b) (.rt (en b))) (h : m ρ = encR ta) : Φ.P (ta.bind fun b => Φ.rt b) (sSeq (sRet m) N ρ) := by
  rw [sSeq_eq, sRet_eq, seqK_rK]
  exact j_rK h hr
theorem j_raise {c : Str} : Φ.P (.er c) (sRaise c ρ) := Φ.er c ρ
theorem j_raiseS {c : Str} : Φ.P (.er c) (sSeq (sRaise c) N ρ) := Φ.er c ρ
theorem j_ctS {E : σ → En → Prop} {s : σ} (h : E s ρ) : (iN E).P (R.ok s) (sSeq (fun ρ => .ct ρ) N ρ) := h
theorem j_ctSC {E : σ → En → Prop} {s : σ} (h : E s ρ) : (iC E β).P (R.ok (.nx s)) (sSeq (fun ρ => .ct ρ) N ρ) := h
theorem j_bkSC {E : σ → En → Prop} {s : σ} (h : E s ρ) : (iC E β).P (R.ok (.bk s)) (sSeq (fun ρ => .bk ρ) N ρ) := h
/-- a block, then what follows: no continue in it -/
def NoCt (r : RS) : Prop := match r with
  | .ct _ => False
  | _ => True
end
theorem j_seq {Φ : Itp ε τ} {E : σ → En → Prop} {M N : DS} {t : R σ} {k : σ → R τ} (h : (iN E).P t (M ρ)) (hc : NoCt (M ρ)) (hk : ∀ s ρ', E s ρ' → Φ.P (k s) (N ρ')) : Φ.P (t.bind fun s => k s) (sSeq M N ρ) := by
  rw [sSeq_eq]
  generalize M ρ = r at *
  cases t with
  | ok s => cases r with
    | nx ρ' => exact hk s ρ' h
    | ct ρ' => exact hc.elim
    | _ => exact h.elim
  | er c => cases r with
    | er c' ρ' =>
      have h : c = c' := h
      subst h
      exact Φ.er c ρ'
    | _ => exact h.elim
  | bad => cases r with
    | bad => exact Φ.bd
    | _ => exact h.elim
theorem j_seqC {Φ : Itp ε τ} {E : σ → En → Prop} {M N : DS} {t : R (Ctl σ ε)} {k : σ → R τ} (hr : ∀ b, Φ.P (Φ.rt b) (.rt (en b))) (h : (iC E ε).P t (M ρ)) (hc : NoCt (M ρ)) (hb : ∀ s, t ≠ .ok (.bk s)) (hk : ∀ s ρ', E s ρ' → Φ.P (k s) (N ρ')) :
    Φ.P (t.bind fun c => ctlK c (fun s => k s) fun b => Φ.rt b) (sSeq M N ρ) := by
  rw [sSeq_eq]
  generalize M ρ = r at *
  cases t with
  | ok c => cases c with
    | nx s => cases r with
      | nx ρ' => exact hk s ρ' h
      | ct ρ' => exact hc.elim
      | _ => exact h.elim
    | bk s => exact (hb s rfl).elim
    | rt b => cases r with
      | rt d =>
        have h : d = en b := h
        subst h
        exact hr b
      | _ => exact h.elim
  | er c => cases r with
    | er c' ρ' =>
      have h : c = c' := h
      subst h
      exact Φ.er c ρ'
    | _ => exact h.elim
  | bad => cases r with
    | bad => exact Φ.bd
    | _ => exact h.elim
/-- two ways that meet -/
def iJ (E : σ → En → Prop) : Itp Empty σ where
  P := fun t r => match t, r with
    | .ok s, .nx ρ => E s ρ
    | .er c, .er c' _ => c = c'
    | .bad, .bad => True
    | _, _ => False
  rt := fun b => nomatch b
  er := fun _ _ => rfl
  bd := trivial
theorem j_end_J {E : σ → En → Prop} {s : σ} (h : E s ρ) : (iJ E).P (R.ok s) (sNext ρ) := h
theorem j_join {Φ : Itp ε τ} {E : σ → En → Prop} {M N : DS} {t : R σ} {k : σ → R τ} (h : (iJ E).P t (M ρ)) (hk : ∀ s ρ', E s ρ' → Φ.P (k s) (N ρ')) : Φ.P (t.bind fun s => k s) (sSeq M N ρ) := by
  rw [sSeq_eq]
  generalize M ρ = r at *
  cases t with
  | ok s => cases r with
    | nx ρ' => exact hk s ρ' h
    | _ => exact h.elim
  | er c => cases r with
    | er c' ρ' =>
      have h : c = c' := h
      subst h
      exact Φ.er c ρ'
    | _ => exact h.elim
  | bad => cases r with
    | bad => exact Φ.bd
    | _ => exact h.elim
/-! ### what may be None -/
theorem set_same {i : Nat} {s : Slot} (h : ρ[i]? = some s) : ρ.set i s = ρ := by
  apply List.ext_getElem?
  intro j
  rw [get_set]
  by_cases e : i = j
  · subst e
    rw [if_pos rfl, if_pos (List.getElem?_eq_some_iff.mp h).1, h]
  · rw [if_neg e]
theorem rd_opt {i : Nat} (o : Option α) (h : ρ[i]? = some (.fz (en o))) : eW i ρ = .ok (en o) := by unfold eW; rw [h]
section
variable {Φ : Itp ε τ} {A B N : DS} {i : Nat}
theorem isN_o (o : Option α) [NoN α] (h : ρ[i]? = some (.fz (en o))) : eU dIsN (eW i) ρ = .ok (.bool o.isNone) := by
  unfold eU
  rw [rd_opt o h]
  exact o_isN o
theorem notN_o (o : Option α) [NoN α] (h : ρ[i]? = some (.fz (en o))) : eU dNotN (eW i) ρ = .ok (.bool o.isSome) := by
  unfold eU
  rw [rd_opt o h]
  exact o_notN o
theorem j_ifN (o : Option α) [NoN α] {t1 : R τ} {t2 : α → R τ} (h : ρ[i]? = some (.fz (en o))) (h1 : Φ.P t1 (sSeq A N ρ)) (h2 : ∀ v, Φ.P (t2 v) (sSeq B N (ρ.set i (.fz (en v))))) : Φ.P (optK o t1 fun v => t2 v) (sSeq (sIf (eU dIsN (eW i)) A B) N ρ) := by
  rw [sSeq_eq, sIf_eq, isN_o o h]
  cases o with
  | none => exact h1
  | some v =>
    have := h2 v
    rw [set_same (s := .fz (en v)) h] at this
    exact this
theorem j_ifS (o : Option α) [NoN α] {t1 : R τ} {t2 : α → R τ} (h : ρ[i]? = some (.fz (en o))) (h2 : ∀ v, Φ.P (t2 v) (sSeq A N (ρ.set i (.fz (en v))))) (h1 : Φ.P t1 (sSeq B N ρ)) : Φ.P (optK o t1 fun v => t2 v) (sSeq (sIf (eU dNotN (eW i)) A B) N ρ) := by
  rw [sSeq_eq, sIf_eq, notN_o o h]
  cases o with
  | none => exact h1
  | some v =>
    have := h2 v
    rw [set_same (s := .fz (en v)) h] at this
    exact this
theorem j_if1N (o : Option α) [NoN α] {t1 : R τ} {t2 : α → R τ} (h : ρ[i]? = some (.fz (en o))) (h1 : Φ.P t1 (A ρ)) (h2 : ∀ v, Φ.P (t2 v) (B (ρ.set i (.fz (en v))))) : Φ.P (optK o t1 fun v => t2 v) (sIf (eU dIsN (eW i)) A B ρ) := by
  rw [sIf_eq, isN_o o h]
  cases o with
  | none => exact h1
  | some v =>
    have := h2 v
    rw [set_same (s := .fz (en v)) h] at this
    exact this
theorem j_if1S (o : Option α) [NoN α] {t1 : R τ} {t2 : α → R τ} (h : ρ[i]? = some (.fz (en o))) (h2 : ∀ v, Φ.P (t2 v) (A (ρ.set i (.fz (en v))))) (h1 : Φ.P t1 (B ρ)) : Φ.P (optK o t1 fun v => t2 v) (sIf (eU dNotN (eW i)) A B ρ) := by
  rw [sIf_eq, notN_o o h]
  cases o with
  | none => exact h1
  | some v =>
    have := h2 v
    rw [set_same (s := .fz (en v)) h] at this
    exact this
theorem e_ifN (o : Option α) [NoN α] {t1 : R β} {t2 : α → R β} (h : ρ[i]? = some (.fz (en o))) (h1 : ma ρ = encR t1) (h2 : ∀ v, mb (ρ.set i (.fz (en v))) = encR (t2 v)) : eIf (eU dIsN (eW i)) ma mb ρ = encR (optK o t1 fun v => t2 v) := by
  rw [eIf_eq, isN_o o h]
  cases o with
  | none => exact h1
  | some v =>
    have := h2 v
    rw [set_same (s := .fz (en v)) h] at this
    exact this
theorem e_ifS (o : Option α) [NoN α] {t1 : R β} {t2 : α → R β} (h : ρ[i]? = some (.fz (en o))) (h1 : mb ρ = encR t1) (h2 : ∀ v, ma (ρ.set i (.fz (en v))) = encR (t2 v)) : eIf (eU dNotN (eW i)) ma mb ρ = encR (optK o t1 fun v => t2 v) := by
  rw [eIf_eq, notN_o o h]
  cases o with
  | none => exact h1
  | some v =>
    have := h2 v
    rw [set_same (s := .fz (en v)) h] at this
    exact this
theorem e_orN (o : Option α) [NoN α] {t2 : α → R Bool} (h : ρ[i]? = some (.fz (en o))) (h2 : ∀ v, mb (ρ.set i (.fz (en v))) = encR (t2 v)) : eOr (eU dIsN (eW i)) mb ρ = encR (optK o (R.ok true) fun v => t2 v) := by
  rw [eOr_eq, isN_o o h]
  cases o with
  | none => rfl
  | some v =>
    have := h2 v
    rw [set_same (s := .fz (en v)) h] at this
    exact this
theorem e_andN (o : Option α) [NoN α] {t2 : α → R Bool} (h : ρ[i]? = some (.fz (en o))) (h2 : ∀ v, mb (ρ.set i (.fz (en v))) = encR (t2 v)) : eAnd (eU dNotN (eW i)) mb ρ = encR (optK o (R.ok false) fun v => t2 v) := by
  rw [eAnd_eq, notN_o o h]
  cases o with
  | none => rfl
  | some v =>
    have := h2 v
    rw [set_same (s := .fz (en v)) h] at this
    exact this
end
/-- [x] * int(x is not None) -/
theorem e_optrep {i : Nat} (o : Option α) [NoN α] (h : ρ[i]? = some (.fz (en o))) (h' : m = eV i) : eBin dMul (eLst (aCons m aNil)) (eCall dInt (aCons (eU dNotN (eW i)) aNil)) ρ = encR (R.ok o.toList) := by
  subst h'
  have e1 : eV i ρ = .ok (en o) := by unfold eV; rw [h]
  rw [eBin_eq, eLst_eq, aCons_eq, e1, eCall_eq, aCons_eq, notN_o o h]
  cases o <;> rfl
theorem e_eqS {ts : R Scr} (h : m ρ = encR ts) : eBin dEq m (eLst aNil) ρ = encR (ts.bind fun s => R.ok (decide (s.ns = []))) := by
  rw [eBin_eq, h]
  cases ts with
  | ok s =>
    obtain ⟨ns⟩ := s
    cases ns with
    | nil => rfl
    | cons n ns =>
      have hs : SeqAt.shaped (.list ((n :: ns).map PyData.int)) = true := shaped_en (α := List Int) (by decide) (n :: ns)
      show dEq (.dict [(.none, .list ((n :: ns).map PyData.int))]) (.list []) = _
      unfold dEq
      rw [unS_scr, hs]
      rfl
  | er c => rfl
  | bad => rfl
/-! ### loops -/
theorem forL_N {g : DG} {M : DS} {E : σ → En → Prop} {f : α → σ → R σ} (step : ∀ x s ρ, E s ρ → ∃ ρ1, g (en x) ρ = some ρ1 ∧ (iN E).P (f x s) (M ρ1)) : ∀ (xs : List α) (s : σ) (ρ : En), E s ρ → (iN E).P (forT f xs s) (forL g M (xs.map en) ρ) ∧ NoCt (forL g M (xs.map en) ρ)
  | [], s, ρ, h => ⟨h, trivial⟩
  | x :: xs, s, ρ, h => by
    obtain ⟨ρ1, h1, h2⟩ := step x s ρ h
    rw [List.map_cons]
    unfold forL
    rw [h1, forT_cons]
    simp only
    generalize M ρ1 = r at *
    generalize f x s = t at *
    cases t with
    | ok s' => cases r with
      | nx ρ' => exact forL_N step xs s' ρ' h2
      | ct ρ' => exact forL_N step xs s' ρ' h2
      | _ => exact h2.elim
    | er c => cases r with
      | er c' ρ' => exact ⟨h2, trivial⟩
      | _ => exact h2.elim
    | bad => cases r with
      | bad => exact ⟨trivial, trivial⟩
      | _ => exact h2.elim
theorem j_for {Φ : Itp ε τ} {E : σ → En → Prop} {it : DI} {g : DG} {M N : DS} {f : α → σ → R σ} {tl : R (List α)} {s0 : σ} {k : σ → R τ} (hi : it ρ = tl.bind fun l => R.ok (l.map en)) (h0 : E s0 ρ) (step : ∀ x s ρ, E s ρ → ∃ ρ1, g (en x) ρ = some ρ1 ∧ (iN E).P (f x s) (M ρ1))
    (hk : ∀ s ρ', E s ρ' → Φ.P (k s) (N ρ')) : Φ.P (tl.bind fun l => (forT f l s0).bind fun s => k s) (sSeq (sFor it g M) N ρ) := by
  cases tl with
  | ok l =>
    obtain ⟨h1, h2⟩ := forL_N step l s0 ρ h0
    have e : sFor it g M ρ = forL g M (l.map en) ρ := by unfold sFor; rw [hi]; rfl
    exact j_seq (M := sFor it g M) (t := forT f l s0) (by rw [e]; exact h1) (by rw [e]; exact h2) hk
  | er c =>
    have e : sFor it g M ρ = .er c ρ := by unfold sFor; rw [hi]; rfl
    rw [sSeq_eq, e]
    exact Φ.er c ρ
  | bad =>
    have e : sFor it g M ρ = .bad := by unfold sFor; rw [hi]; rfl
    rw [sSeq_eq, e]
    exact Φ.bd
theorem forL_C {g : DG} {M : DS} {E : σ → En → Prop} {f : α → σ → R (Ctl σ ε)} (step : ∀ x s ρ, E s ρ → ∃ ρ1, g (en x) ρ = some ρ1 ∧ (iC E ε).P (f x s) (M ρ1)) : ∀ (xs : List α) (s : σ) (ρ : En), E s ρ → (iC E ε).P (forC f xs s) (forL g M (xs.map en) ρ) ∧ NoCt (forL g M (xs.map en) ρ) ∧ ∀ s', forC f xs s ≠ .ok (.bk s')
  | [], s, ρ, h => ⟨h, trivial, fun s' h => by cases h⟩
  | x :: xs, s, ρ, h => by
    obtain ⟨ρ1, h1, h2⟩ := step x s ρ h
    rw [List.map_cons]
    unfold forL forC
    rw [h1]
    simp only
    generalize M ρ1 = r at *
    generalize f x s = t at *
    cases t with
    | ok c => cases c with
      | nx s' => cases r with
        | nx ρ' => exact forL_C step xs s' ρ' h2
        | ct ρ' => exact forL_C step xs s' ρ' h2
        | _ => exact h2.elim
      | bk s' => cases r with
        | bk ρ' => exact ⟨h2, trivial, fun s' h => by cases h⟩
        | _ => exact h2.elim
      | rt b => cases r with
        | rt d => exact ⟨h2, trivial, fun s' h => by cases h⟩
        | _ => exact h2.elim
    | er c => cases r with
      | er c' ρ' => exact ⟨h2, trivial, fun s' h => by cases h⟩
      | _ => exact h2.elim
    | bad => cases r with
      | bad => exact ⟨trivial, trivial, fun s' h => by cases h⟩
      | _ => exact h2.elim
theorem j_forC {Φ : Itp ε τ} {E : σ → En → Prop} {it : DI} {g : DG} {M N : DS} {f : α → σ → R (Ctl σ ε)} {tl : R (List α)} {s0 : σ} {k : σ → R τ} (hr : ∀ b, Φ.P (Φ.rt b) (.rt (en b))) (hi : it ρ = tl.bind fun l => R.ok (l.map en)) (h0 : E s0 ρ) (step : ∀ x s ρ, E s ρ → ∃ ρ1, g (en x) ρ = some ρ1 ∧ (iC E ε).P (f x s) (M ρ1))
    (hk : ∀ s ρ', E s ρ' → Φ.P (k s) (N ρ')) : Φ.P (tl.bind fun l => (forC f l s0).bind fun c => ctlK c (fun s => k s) fun b => Φ.rt b) (sSeq (sFor it g M) N ρ) := by
  cases tl with
  | ok l =>
    obtain ⟨h1, h2, h3⟩ := forL_C step l s0 ρ h0
    have e : sFor it g M ρ = forL g M (l.map en) ρ := by unfold sFor; rw [hi]; rfl
    exact j_seqC (M := sFor it g M) (t := forC f l s0) hr (by rw [e]; exact h1) (by rw [e]; exact h2) h3 hk
  | er c =>
    have e : sFor it g M ρ = .er c ρ := by unfold sFor; rw [hi]; rfl
    rw [sSeq_eq, e]
    exact Φ.er c ρ
  | bad =>
    have e : sFor it g M ρ = .bad := by unfold sFor; rw [hi]; rfl
    rw [sSeq_eq, e]
    exact Φ.bd
theorem while_N {mc : DE} {M : DS} {E : σ → En → Prop} {c : σ → R Bool} {f : σ → R σ} (hc : ∀ s ρ, E s ρ → mc ρ = encR (c s)) (step : ∀ s ρ, E s ρ → (iN E).P (f s) (M ρ)) : ∀ (n : Nat) (s : σ) (ρ : En), E s ρ → (iN E).P (whileT c f n s) (whileN mc M n ρ) ∧ NoCt (whileN mc M n ρ)
  | 0, s, ρ, h => ⟨trivial, trivial⟩
  | n + 1, s, ρ, h => by
    unfold whileN whileT
    rw [hc s ρ h]
    cases c s with
    | ok b => cases b with
      | true =>
        have h2 := step s ρ h
        simp only [encR_ok, R.bind_ok, en_b, if_true]
        generalize M ρ = r at *
        generalize f s = t at *
        cases t with
        | ok s' => cases r with
          | nx ρ' => exact while_N hc step n s' ρ' h2
          | ct ρ' => exact while_N hc step n s' ρ' h2
          | _ => exact h2.elim
        | er c => cases r with
          | er c' ρ' => exact ⟨h2, trivial⟩
          | _ => exact h2.elim
        | bad => cases r with
          | bad => exact ⟨trivial, trivial⟩
          | _ => exact h2.elim
      | false => exact ⟨h, trivial⟩
    | er c => exact ⟨rfl, trivial⟩
    | bad => exact ⟨trivial, trivial⟩
theorem j_while {Φ : Itp ε τ} {E : σ → En → Prop} {mc : DE} {M N : DS} {c : σ → R Bool} {f : σ → R σ} {n : Nat} {s0 : σ} {k : σ → R τ} (h0 : E s0 ρ) (hc : ∀ s ρ, E s ρ → mc ρ = encR (c s)) (step : ∀ s ρ, E s ρ → (iN E).P (f s) (M ρ))
    (hk : ∀ s ρ', E s ρ' → Φ.P (k s) (N ρ')) : Φ.P ((whileT c f n s0).bind fun s => k s) (sSeq (whileN mc M n) N ρ) := by
  obtain ⟨h1, h2⟩ := while_N hc step n s0 ρ h0
  exact j_seq h1 h2 hk
/-! ### defs -/
theorem d_1 {N : Nat} {M : DS} {a : D} {t : R β} (h : (iF β).P t (M (.fz a :: List.replicate (N - 1) Slot.un))) : runF N 1 M [a] = encR t := by rw [runF_1]; exact h
theorem d_2 {N : Nat} {M : DS} {a b : D} {t : R β} (h : (iF β).P t (M (.fz a :: .fz b :: List.replicate (N - 2) Slot.un))) : runF N 2 M [a, b] = encR t := by rw [runF_2]; exact h
theorem d_3 {N : Nat} {M : DS} {a b c : D} {t : R β} (h : (iF β).P t (M (.fz a :: .fz b :: .fz c :: List.replicate (N - 3) Slot.un))) : runF N 3 M [a, b, c] = encR t := by rw [runF_3]; exact h
theorem d_4 {N : Nat} {M : DS} {a b c d : D} {t : R β} (h : (iF β).P t (M (.fz a :: .fz b :: .fz c :: .fz d :: List.replicate (N - 4) Slot.un))) : runF N 4 M [a, b, c, d] = encR t := by rw [runF_4]; exact h
theorem d_5 {N : Nat} {M : DS} {a b c d e : D} {t : R β} (h : (iF β).P t (M (.fz a :: .fz b :: .fz c :: .fz d :: .fz e :: List.replicate (N - 5) Slot.un))) : runF N 5 M [a, b, c, d, e] = encR t := by rw [runF_5]; exact h
end
end Fc
set_option Elab.async false
set_option linter.all false
set_option maxRecDepth 100000
set_option maxHeartbeats 2000000
namespace Fc
open PySem L2 Evl PySem.Spec PyProof.Rows
/-! ### dicts by kinds -/
class EncK (κ : Type) [Enc κ] where
  key : κ → List Key
  ks : κ → List D
  tup : ∀ k : κ, en k = .tuple (ks k)
  kl : ∀ k : κ, keyL (ks k) = some (key k)
  inj : ∀ a b : κ, key a = key b → a = b
instance : EncK (P2 Int Int) := ⟨fun p => [.inl p.a, .inl p.b], fun p => [.int p.a, .int p.b], fun _ => rfl, fun _ => rfl, fun a b h => by
  obtain ⟨a1, a2⟩ := a
  obtain ⟨b1, b2⟩ := b
  simp at h
  simp [h]⟩
section
variable {α β γ δ ε σ τ κ κ' : Type} [Enc α] [Enc β] [Enc γ] [Enc δ] [Enc ε] [Enc κ] [EncK κ] [DecidableEq κ] [Enc κ'] [EncK κ'] [DecidableEq κ']
theorem keyOf_en (k : κ) : keyOf (en k) = some (EncK.key k) := by rw [EncK.tup]; exact EncK.kl k
theorem key_iff (a b : κ) : (some (EncK.key a) = some (EncK.key b)) ↔ a = b := ⟨fun h => EncK.inj a b (Option.some.inj h), fun h => by rw [h]⟩
theorem keyD_key (k : κ) : keyD (EncK.key k) = en k := by
  have h : ∀ (ds : List D) (ks : List Key), keyL ds = some ks → keyD ks = .tuple ds := by
    intro ds
    induction ds with
    | nil => intro ks h; cases h; rfl
    | cons d ds ih =>
      intro ks h
      unfold keyL at h
      split at h
      · rename_i k r h1 h2
        cases h
        have := ih r h2
        unfold keyD at this ⊢
        rw [List.map_cons]
        have e : kD k = d := by
          cases d with
          | int i => cases h1; rfl
          | str z => cases h1; rfl
          | _ => cases h1
        rw [e]
        congr 1
        have := PyData.tuple.inj this
        rw [this]
      · cases h
  rw [EncK.tup]
  exact h _ _ (EncK.kl k)
def lkO (l : List (κ × α)) (k : κ) : Option α := (l.find? fun e => decide (e.1 = k)).map (·.2)
def lkT (d : Dct κ α) (k : κ) : R α := unO (lkO d.l k)
def putL (l : List (κ × α)) (k : κ) (v : α) : List (κ × α) := if (lkO l k).isSome = true then l.map (fun e => if e.1 = k then (e.1, v) else e) else l ++ [(k, v)]
def putT (d : Dct κ α) (k : κ) (v : α) : R (Dct κ α) := if szB (d.l.length + 1) = true then .ok ⟨putL d.l k v⟩ else .bad
def mergeL (acc : List (κ × α)) (l : List (P2 κ α)) : List (κ × α) := l.foldl (fun acc e => putL acc e.a e.b) acc
def dictT (l : List (P2 κ α)) : R (Dct κ α) := if decide (l.length ≤ 1000) = true then .ok ⟨mergeL [] l⟩ else .bad
def dictZipT (l : List κ) (m : List α) : R (Dct κ α) := if decide (l.length ≤ 1000) = true then .ok ⟨mergeL [] (zipG l m)⟩ else .bad
abbrev enE (l : List (κ × α)) : List (D × D) := l.map fun e => (en e.1, en e.2)
theorem enE_cons (e : κ × α) (l : List (κ × α)) : enE (e :: l) = (en e.1, en e.2) :: enE l := rfl
theorem enE_map (l : List (κ × α)) (f : κ × α → κ × α) : enE (l.map f) = l.map fun e => (en (f e).1, en (f e).2) := by
  unfold enE; rw [List.map_map]; rfl
theorem enE_len (l : List (κ × α)) : (enE l).length = l.length := List.length_map ..
theorem lkE_en (l : List (κ × α)) (k : κ) : lkE (enE l) (EncK.key k) = (lkO l k).map en := by
  unfold lkE lkO
  induction l with
  | nil => rfl
  | cons e l ih =>
    rw [enE_cons, List.find?_cons, List.find?_cons]
    simp only [keyOf_en]
    by_cases h : e.1 = k
    · rw [decide_eq_true ((key_iff _ _).mpr h), decide_eq_true h]; rfl
    · rw [decide_eq_false (fun z => h ((key_iff _ _).mp z)), decide_eq_false h]; exact ih
theorem anyE_en (l : List (κ × α)) (k : κ) : ((enE l).any fun e => decide (keyOf e.1 = some (EncK.key k))) = (lkO l k).isSome := by
  unfold lkO
  induction l with
  | nil => rfl
  | cons e l ih =>
    rw [enE_cons, List.any_cons, List.find?_cons]
    simp only [keyOf_en]
    by_cases h : e.1 = k
    · rw [decide_eq_true ((key_iff _ _).mpr h), decide_eq_true h]; simp
    · rw [decide_eq_false (fun z => h ((key_iff _ _).mp z)), decide_eq_false h, Bool.false_or]; exact ih
theorem putE_en (l : List (κ × α)) (k : κ) (v : α) : putE (enE l) (EncK.key k) (en v) = enE (putL l k v) := by
  unfold putE putL
  rw [anyE_en]
  split
  · rw [enE_map]
    unfold enE
    rw [List.map_map]
    apply List.map_congr_left
    intro e _
    show (if keyOf (en e.1) = some (EncK.key k) then (en e.1, en v) else (en e.1, en e.2)) = (en (if e.1 = k then (e.1, v) else e).1, en (if e.1 = k then (e.1, v) else e).2)
    by_cases h : e.1 = k
    · rw [if_pos (by rw [keyOf_en]; exact (key_iff _ _).mpr h), if_pos h]
    · rw [if_neg (by rw [keyOf_en]; exact fun z => h ((key_iff _ _).mp z)), if_neg h]
  · unfold enE
    rw [List.map_append, keyD_key]; rfl
theorem okE_en (l : List (κ × α)) : okE (enE l) = true := by
  unfold okE
  rw [List.all_eq_true]
  intro x hx
  obtain ⟨e, _, rfl⟩ := List.mem_map.mp hx
  simp only [keyOf_en]; rfl
theorem no_none (l : List (κ × α)) (x : D) : enE l ≠ [(.none, x)] := by
  intro h
  cases l with
  | nil => cases h
  | cons e l =>
    simp only [enE_cons, List.cons.injEq, Prod.mk.injEq] at h
    have := h.1.1
    rw [EncK.tup] at this
    cases this
theorem dIx_dict (es : List (D × D)) (k : κ) : dIx (.dict es) (en k) = match lkE es (EncK.key k) with | some d => .ok d | none => .bad := by
  rw [EncK.tup]
  unfold dIx
  split
  · rename_i z _; cases z
  · rename_i z _; cases z
  · rename_i z _; cases z
  · rename_i z; cases z
  · rename_i z1 z2
    cases z1; cases z2
    rw [EncK.kl]
    all_goals (
      show (match lkE es (EncK.key k) with | some d => R.ok d | none => .bad) = _
      cases lkE es (EncK.key k) <;> rfl)
  · rename_i h1 h2 h3 h4 h5
    exact absurd rfl (h5 es _ rfl)
theorem o_lk (d : Dct κ α) (k : κ) : dIx (en d) (en k) = encR (lkT d k) := by
  show dIx (.dict (enE d.l)) (en k) = _
  rw [dIx_dict, lkE_en]
  unfold lkT
  cases lkO d.l k <;> rfl
theorem o_inD (k : κ) (d : Dct κ α) : dIn (en k) (en d) = encR (R.ok (lkO d.l k).isSome) := by
  show dIn (en k) (.dict (enE d.l)) = _
  unfold dIn inD
  simp only [keyOf_en, okE_en, if_true, lkE_en, Option.isSome_map]
  rfl
theorem o_notInD (k : κ) (d : Dct κ α) : dNotIn (en k) (en d) = encR (R.ok (!(lkO d.l k).isSome)) := by
  show dNotIn (en k) (.dict (enE d.l)) = _
  unfold dNotIn inD
  simp only [keyOf_en, okE_en, if_true, lkE_en, Option.isSome_map]
  rfl
theorem o_lenD (d : Dct κ α) : dLen [en d] = encR (R.ok ((d.l.length : Nat) : Int)) := by
  show dLen [.dict (enE d.l)] = _
  unfold dLen
  split
  · rename_i z; cases z
  · rename_i z; cases z
  · rename_i z; cases z
  · rename_i ds z
    simp only [List.cons.injEq, PyData.dict.injEq, and_true] at z
    exact absurd z (no_none d.l _)
  · rename_i es _ z
    simp only [List.cons.injEq, PyData.dict.injEq, and_true] at z
    subst z
    rw [if_pos (okE_en d.l), enE_len]; rfl
  · rename_i h1 h2 h3 h4 h5
    exact absurd rfl (h5 _)
theorem mergeE_en : ∀ (l : List (P2 κ α)) (acc : List (κ × α)), mergeE (enE acc) (l.map fun p => (en p.a, en p.b)) = enE (mergeL acc l)
  | [], acc => rfl
  | p :: l, acc => by
    unfold mergeE mergeL
    rw [List.map_cons, List.foldl_cons, List.foldl_cons]
    simp only [keyOf_en, putE_en]
    exact mergeE_en l (putL acc p.a p.b)
theorem pairsD_en : ∀ (l : List (P2 κ α)), pairsD (l.map en) = some (l.map fun p => (en p.a, en p.b))
  | [] => rfl
  | p :: l => by
    rw [List.map_cons]
    show pairsD (.tuple [en p.a, en p.b] :: l.map en) = _
    unfold pairsD
    rw [keyOf_en, pairsD_en l]; rfl
theorem o_dictOf (l : List (P2 κ α)) : dDictOf (en l) = encR (dictT l) := by
  show dDictOf (.list (l.map en)) = _
  unfold dDictOf dictT
  simp only [pairsD_en, List.length_map]
  split
  · have := mergeE_en l []
    show R.ok (PyData.dict (mergeE [] _)) = _
    have e : mergeE [] (l.map fun p => (en p.a, en p.b)) = enE (mergeL [] l) := this
    rw [e]; rfl
  · rfl
theorem keysD_en : ∀ l : List κ, keysD (l.map en) = true
  | [] => rfl
  | k :: l => by
    rw [List.map_cons]
    unfold keysD
    rw [keyOf_en, keysD_en l]; rfl
theorem zipKD_en : ∀ (l : List κ) (m : List α), zipKD (l.map en) (m.map en) = (zipG l m).map fun p => (en p.a, en p.b)
  | [], _ => by simp [zipKD, zipG]
  | _ :: _, [] => by simp [zipKD, zipG]
  | a :: l, b :: m => by
    simp only [List.map_cons, zipKD, zipG, zipKD_en l m]
theorem dictZip_en (l : List κ) (m : List α) (x y : D) (hx : seqD x = some (l.map en)) (hy : seqD y = some (m.map en)) : dDictZip x y = encR (dictZipT l m) := by
  unfold dDictZip dictZipT
  rw [hx, hy]
  simp only [keysD_en, if_true, List.length_map, zipKD_en]
  split
  · have e : mergeE [] ((zipG l m).map fun p => (en p.a, en p.b)) = enE (mergeL [] (zipG l m)) := mergeE_en (zipG l m) []
    rw [e]; rfl
  · rfl
theorem o_dzLU (l : List κ) (m : Tup α) : dDictZip (en l) (en m) = encR (dictZipT l m.l) := dictZip_en l m.l _ _ rfl rfl
theorem o_dzLL (l : List κ) (m : List α) : dDictZip (en l) (en m) = encR (dictZipT l m) := dictZip_en l m _ _ rfl rfl
variable {ρ : En} {m ma mb mc mk mv : DE}
theorem e_dnew : eDNew ρ = encR (R.ok (Dct.mk [] : Dct κ α)) := rfl
theorem e_get {td : R (Dct κ α)} {tk : R κ} (hd : ma ρ = encR td) (hk : mb ρ = encR tk) : eGet ma mb ρ = encR (td.bind fun d => tk.bind fun k => R.ok (lkO d.l k)) := by
  unfold eGet
  rw [hd]
  cases td with
  | ok d =>
    show (if okD (.dict (enE d.l)) = true then (mb ρ).bind fun y => dGet (.dict (enE d.l)) y else .bad) = _
    rw [if_pos (show okD (.dict (enE d.l)) = true from okE_en d.l), hk]
    cases tk with
    | ok k =>
      show dGet (.dict (enE d.l)) (en k) = _
      have hl : dGet (.dict (enE d.l)) (en k) = R.ok ((lkE (enE d.l) (EncK.key k)).getD .none) := by
        rw [EncK.tup]
        show (if okE (enE d.l) = true then (match keyL (EncK.ks k) with | some k => R.ok ((lkE (enE d.l) k).getD .none) | none => .bad) else .bad) = _
        rw [if_pos (okE_en d.l), EncK.kl]
      rw [hl, lkE_en]
      show R.ok _ = R.ok (en (lkO d.l k))
      cases lkO d.l k <;> rfl
    | er c => rfl
    | bad => rfl
  | er c => rfl
  | bad => rfl
/-! ### tables -/
def put2T (t : Dct κ (Dct κ' α)) (a : κ) (r : Dct κ' α) (b : κ') (v : α) : R (Dct κ (Dct κ' α)) := if szB (r.l.length + 1) = true then .ok ⟨setN t.l a ⟨putL r.l b v⟩⟩ else .bad
where setN : List (κ × Dct κ' α) → κ → Dct κ' α → List (κ × Dct κ' α)
  | [], _, _ => []
  | e :: l, k, d => if e.1 = k then (e.1, d) :: l else e :: setN l k d
theorem putN_en (k : κ) (d : Dct κ' α) : ∀ l : List (κ × Dct κ' α), putN (enE l) (EncK.key k) (en d) = enE (put2T.setN l k d)
  | [] => rfl
  | e :: l => by
    unfold put2T.setN
    rw [enE_cons]
    unfold putN
    simp only [keyOf_en]
    by_cases h : e.1 = k
    · rw [if_pos ((key_iff _ _).mpr h), if_pos h]; rfl
    · rw [if_neg (fun z => h ((key_iff _ _).mp z)), if_neg h, enE_cons, putN_en k d l]
theorem e_t2 {i : Nat} {ta : R κ} {tb : R κ'} (t : Dct κ (Dct κ' α)) (hi : ρ[i]? = some (.ot (en t))) (ha : ma ρ = encR ta) (hb : mb ρ = encR tb) : eT2 i ma mb ρ = encR (ta.bind fun x => (lkT t x).bind fun e => tb.bind fun y => lkT e y) := by
  unfold eT2
  rw [hi]
  simp only [ha, hb]
  cases ta with
  | ok x =>
    simp only [encR_ok, R.bind_ok, o_lk]
    cases lkT t x with
    | ok e =>
      simp only [encR_ok, R.bind_ok]
      cases tb with
      | ok y => simp only [encR_ok, R.bind_ok, o_lk]
      | er c => rfl
      | bad => rfl
    | er c => rfl
    | bad => rfl
  | er c => rfl
  | bad => rfl
theorem e_t2f {i : Nat} {ta : R κ} {tb : R κ'} (t : Dct κ (Dct κ' α)) (hi : ρ[i]? = some (.fz (en t))) (ha : ma ρ = encR ta) (hb : mb ρ = encR tb) : eT2 i ma mb ρ = encR (ta.bind fun x => (lkT t x).bind fun e => tb.bind fun y => lkT e y) := by
  unfold eT2
  rw [hi]
  simp only [eBin_eq, eW_eq, hi, rdW_fz, R.bind_ok, ha, hb]
  cases ta with
  | ok x =>
    simp only [encR_ok, R.bind_ok, o_lk]
    cases lkT t x with
    | ok e =>
      simp only [encR_ok, R.bind_ok]
      cases tb with
      | ok y => simp only [encR_ok, R.bind_ok, o_lk]
      | er c => rfl
      | bad => rfl
    | er c => rfl
    | bad => rfl
  | er c => rfl
  | bad => rfl
def tabGo (k : α → R κ) (f : α → R (Dct κ' β)) : List α → R (List (κ × Dct κ' β))
  | [] => .ok []
  | x :: xs => match k x with
    | .ok a => (match f x with
      | .ok d => (match tabGo k f xs with
        | .ok l => .ok ((a, d) :: l)
        | _ => .bad)
      | _ => .bad)
    | _ => .bad
def tabT (k : α → R κ) (f : α → R (Dct κ' β)) (xs : List α) : R (Dct κ (Dct κ' β)) := (tabGo k f xs).bind fun l => if decide ((l.map (·.1)).Nodup ∧ l.length ≤ 1000) = true then .ok ⟨l⟩ else .bad
theorem tabGo_er {k : α → R κ} {f : α → R (Dct κ' β)} {c : Str} : ∀ xs, tabGo k f xs ≠ .er c
  | [] => fun h => by cases h
  | x :: xs => fun h => by
    unfold tabGo at h
    repeat' first
      | cases h
      | split at h
theorem tabL_en {g : DG} {vs : List Nat} {k : α → R κ} {f : α → R (Dct κ' β)} (h : ∀ x, ∃ ρ1, g (en x) (wipeE ρ vs) = some ρ1 ∧ mk ρ1 = encR (k x) ∧ mv ρ1 = encR (f x)) : ∀ xs : List α, tabL g mk mv vs ρ (xs.map en) = match tabGo k f xs with | .ok l => some (l.map fun e => (EncK.key e.1, enE e.2.l)) | _ => none
  | [] => rfl
  | x :: xs => by
    obtain ⟨ρ1, h1, h2, h3⟩ := h x
    have ih := tabL_en h xs
    rw [List.map_cons]
    unfold tabL tabStep tabGo
    rw [h1]
    simp only [h2, h3, ih]
    cases k x with
    | ok a =>
      simp only [encR_ok, keyOf_en]
      cases f x with
      | ok d =>
        cases tabGo k f xs <;> rfl
      | er c => rfl
      | bad => rfl
    | er c => rfl
    | bad => rfl
theorem tabE_en (l : List (κ × Dct κ' β)) : PyData.dict (tabE (l.map fun e => (EncK.key e.1, enE e.2.l))) = en (Dct.mk l) := by
  show _ = PyData.dict (enE l)
  unfold tabE
  rw [List.map_map]
  congr 1
  apply List.map_congr_left
  intro e _
  show (keyD (EncK.key e.1), PyData.dict (enE e.2.l)) = (en e.1, en e.2)
  rw [keyD_key]; rfl
theorem nodup_key {l : List κ} : (l.map EncK.key).Nodup ↔ l.Nodup := by
  constructor
  · intro h
    induction l with
    | nil => exact List.nodup_nil
    | cons a l ih =>
      rw [List.map_cons, List.nodup_cons] at h
      exact List.nodup_cons.mpr ⟨fun z => h.1 (List.mem_map.mpr ⟨a, z, rfl⟩), ih h.2⟩
  · intro h
    induction l with
    | nil => exact List.nodup_nil
    | cons a l ih =>
      rw [List.nodup_cons] at h
      rw [List.map_cons, List.nodup_cons]
      refine ⟨fun z => ?_, ih h.2⟩
      obtain ⟨b, hb, e⟩ := List.mem_map.mp z
      exact h.1 (by rw [← EncK.inj _ _ e]; exact hb)
section
variable {Φ : Itp ε τ} {N : DS}
theorem j_tab {i : Nat} {it : DI} {g : DG} {vs : List Nat} {tl : R (List α)} {k : α → R κ} {f : α → R (Dct κ' β)} {K : Dct κ (Dct κ' β) → R τ} (hi : it ρ = tl.bind fun l => R.ok (l.map en)) (hn : noOt ρ = true) (h : ∀ x, ∃ ρ1, g (en x) (wipeE ρ vs) = some ρ1 ∧ mk ρ1 = encR (k x) ∧ mv ρ1 = encR (f x))
    (hk : ∀ t, Φ.P (K t) (N (ρ.set i (.ot (en t))))) : Φ.P (tl.bind fun l => (tabT k f l).bind fun t => K t) (sSeq (sTab i it g mk mv vs) N ρ) := by
  rw [sSeq_eq]
  unfold sTab
  rw [hi]
  cases tl with
  | ok l =>
    simp only [R.bind_ok]
    rw [tabL_en h]
    unfold tabT
    cases q : tabGo k f l with
    | ok l =>
      simp only [R.bind_ok, List.map_map, List.length_map, hn, and_true]
      have e : (List.map ((fun x : List Key × List (D × D) => x.1) ∘ fun e : κ × Dct κ' β => (EncK.key e.1, enE e.2.l)) l) = (l.map (·.1)).map EncK.key := by rw [List.map_map]; rfl
      by_cases c : (l.map (·.1)).Nodup ∧ l.length ≤ 1000
      · rw [if_pos (decide_eq_true c), if_pos (decide_eq_true ⟨by rw [e]; exact nodup_key.mpr c.1, c.2⟩), tabE_en]
        exact hk _
      · rw [if_neg (by rw [decide_eq_true_eq]; exact c), if_neg (by rw [decide_eq_true_eq, e, nodup_key]; exact c)]
        exact Φ.bd
    | er c => exact (tabGo_er _ q).elim
    | bad => exact Φ.bd
  | er c => exact Φ.er c ρ
  | bad => exact Φ.bd
theorem j_put {i : Nat} {ds : Dct κ α} {tk : R κ} {ta : R α} {k : Dct κ α → R τ} (hi : ρ[i]? = some (.ow (en ds))) (hk : mk ρ = encR tk) (hv : mv ρ = encR ta) (h : ∀ d, Φ.P (k d) (N (ρ.set i (.ow (en d))))) : Φ.P (ta.bind fun v => tk.bind fun x => (putT ds x v).bind fun d => k d) (sSeq (sPut i mk mv) N ρ) := by
  rw [sSeq_eq]
  unfold sPut
  rw [hi]
  show Φ.P _ (seqK (resK ((mv ρ).bind fun v => (mk ρ).bind fun y => (keyR y).bind fun k => if szB ((enE ds.l).length + 1) = true then R.ok (putE (enE ds.l) k v) else .bad) (fun es2 => .nx (ρ.set i (.ow (.dict es2)))) ρ) N)
  rw [hk, hv]
  cases ta with
  | ok v => cases tk with
    | ok x =>
      have e : keyR (en x) = .ok (EncK.key x) := by unfold keyR; rw [keyOf_en]
      simp only [encR_ok, R.bind_ok, e, enE_len, putE_en]
      unfold putT
      split
      · exact h _
      · exact Φ.bd
    | er c => exact Φ.er c ρ
    | bad => exact Φ.bd
  | er c => exact Φ.er c ρ
  | bad => exact Φ.bd
theorem j_put2 {i : Nat} {ds : Dct κ (Dct κ' α)} {ta : R κ} {tb : R κ'} {tv : R α} {k : Dct κ (Dct κ' α) → R τ} (hi : ρ[i]? = some (.ot (en ds))) (ha : ma ρ = encR ta) (hb : mb ρ = encR tb) (hv : mv ρ = encR tv) (h : ∀ d, Φ.P (k d) (N (ρ.set i (.ot (en d))))) :
    Φ.P (tv.bind fun v => ta.bind fun x => (lkT ds x).bind fun r => tb.bind fun y => (put2T ds x r y v).bind fun d => k d) (sSeq (sPut2 i ma mb mv) N ρ) := by
  rw [sSeq_eq]
  unfold sPut2
  rw [hi]
  show Φ.P _ (seqK (resK ((mv ρ).bind fun v => (ma ρ).bind fun x => (rowE (enE ds.l) x).bind fun r => (mb ρ).bind fun y => (keyR y).bind fun k2 => put2E (enE ds.l) r k2 v) (fun es2 => .nx (ρ.set i (.ot (.dict es2)))) ρ) N)
  rw [ha, hb, hv]
  cases tv with
  | ok v => cases ta with
    | ok x =>
      have e : rowE (enE ds.l) (en x) = match lkO ds.l x with | some r => .ok (EncK.key x, enE r.l) | none => .bad := by
        unfold rowE
        rw [keyOf_en]
        simp only [lkE_en]
        cases lkO ds.l x <;> rfl
      simp only [encR_ok, R.bind_ok, e]
      unfold lkT
      cases lkO ds.l x with
      | none => exact Φ.bd
      | some r =>
        simp only [R.bind_ok, unO_some]
        cases tb with
        | ok y =>
          have e2 : keyR (en y) = .ok (EncK.key y) := by unfold keyR; rw [keyOf_en]
          simp only [encR_ok, R.bind_ok, e2]
          unfold put2E put2T
          simp only [enE_len, putE_en]
          split
          · have := putN_en x (Dct.mk (putL r.l y v)) ds.l
            have e3 : putN (enE ds.l) (EncK.key x) (.dict (enE (putL r.l y v))) = enE (put2T.setN ds.l x (Dct.mk (putL r.l y v))) := this
            simp only [resK, seqK_nx, e3, R.bind_ok]
            exact h _
          · exact Φ.bd
        | er c => exact Φ.er c ρ
        | bad => exact Φ.bd
    | er c => exact Φ.er c ρ
    | bad => exact Φ.bd
  | er c => exact Φ.er c ρ
  | bad => exact Φ.bd
end
/-! ### comprehensions over an owned dict -/
def lcKT (p : κ → R Bool) (f : κ → R Int) (d : Dct κ α) : R (List Int) := lcT p f (d.l.map (·.1))
theorem e_lcK {i : Nat} {g : DG} {t m : DE} {vs : List Nat} (d : Dct κ α) {p : κ → R Bool} {f : κ → R Int} (hi : ρ[i]? = some (.ow (en d))) (h : ∀ x : κ, ∃ ρ1, g (en x) (wipeE (ρ.set i (.fz (en d))) vs) = some ρ1 ∧ t ρ1 = encR (p x) ∧ m ρ1 = encR (f x)) : eLcK i g t m vs ρ = encR (lcKT p f d) := by
  unfold eLcK
  rw [hi]
  show (match lcL g t m vs (ρ.set i (.fz (en d))) ((enE d.l).map (·.1)) with | some rs => if (szB rs.length && rs.all isInt) = true then R.ok (PyData.list rs) else .bad | none => .bad) = _
  have e : (enE d.l).map (·.1) = (d.l.map (·.1)).map en := by rw [List.map_map, List.map_map]; rfl
  rw [e, lcL_en h]
  unfold lcKT lcT
  cases q : lcGo p f (d.l.map (·.1)) with
  | ok ys =>
    simp only [R.bind_ok]
    have a : (ys.map en).all isInt = true := by rw [List.all_map, List.all_eq_true]; intro x _; rfl
    rw [a, Bool.and_true]
    unfold lstT
    rw [List.length_map]
    split <;> rfl
  | er c => exact (lcGo_er q).elim
  | bad => rfl
end
end Fc
set_option Elab.async false
set_option linter.all false
set_option maxRecDepth 100000
set_option maxHeartbeats 2000000
namespace Fc
open PySem L2 Evl PySem.Spec PyProof.Rows
/-! ### two ways that meet, of which one may return -/
section
variable {σ τ ε β : Type} [Enc β] [Enc ε] {ρ : En}
def iK (E : σ → En → Prop) (β : Type) [Enc β] : Itp β (Ctl σ β) where
  P := fun t r => match t, r with
    | .ok (.nx s), .nx ρ => E s ρ
    | .ok (.rt b), .rt d => d = en b
    | .er c, .er c' _ => c = c'
    | .bad, .bad => True
    | _, _ => False
  rt := fun b => .ok (.rt b)
  er := fun _ _ => rfl
  bd := trivial
theorem j_end_K {E : σ → En → Prop} {s : σ} (h : E s ρ) : (iK E β).P (R.ok (.nx s)) (sNext ρ) := h
theorem j_joinK {Φ : Itp ε τ} {E : σ → En → Prop} {M N : DS} {t : R (Ctl σ ε)} {k : σ → R τ} (hr : ∀ b, Φ.P (Φ.rt b) (.rt (en b))) (h : (iK E ε).P t (M ρ)) (hk : ∀ s ρ', E s ρ' → Φ.P (k s) (N ρ')) : Φ.P (t.bind fun c => ctlK c (fun s => k s) (fun b => Φ.rt b)) (sSeq M N ρ) := by
  rw [sSeq_eq]
  generalize M ρ = r at *
  cases t with
  | ok c => cases c with
    | nx s => cases r with
      | nx ρ' => exact hk s ρ' h
      | _ => exact h.elim
    | rt b => cases r with
      | rt d =>
        have h : d = en b := h
        subst h
        exact hr b
      | _ => exact h.elim
    | bk s => cases r <;> exact h.elim
  | er c => cases r with
    | er c' ρ' =>
      have h : c = c' := h
      subst h
      exact Φ.er c ρ'
    | _ => exact h.elim
  | bad => cases r with
    | bad => exact Φ.bd
    | _ => exact h.elim
end
section
variable {σ τ ε β α : Type} [Enc β] [Enc ε] [Enc α] {ρ : En} {Φ : Itp ε τ} {A B N : DS} {i : Nat} {mc : DE}
theorem and_n (o : Option α) [NoN α] (e : o = none) (h : ρ[i]? = some (.fz (en o))) : eAnd (eU dNotN (eW i)) mc ρ = .ok (.bool false) := by
  rw [eAnd_eq, notN_o o h, e]; rfl
theorem and_s (o : Option α) [NoN α] {v : α} (e : o = some v) (h : ρ[i]? = some (.fz (en o))) {tc : R Bool} (hc : mc ρ = encR tc) : eAnd (eU dNotN (eW i)) mc ρ = encR tc := by
  rw [eAnd_eq, notN_o o h, e]
  exact hc
theorem or_n (o : Option α) [NoN α] (e : o = none) (h : ρ[i]? = some (.fz (en o))) : eOr (eU dIsN (eW i)) mc ρ = .ok (.bool true) := by
  rw [eOr_eq, isN_o o h, e]; rfl
theorem or_s (o : Option α) [NoN α] {v : α} (e : o = some v) (h : ρ[i]? = some (.fz (en o))) {tc : R Bool} (hc : mc ρ = encR tc) : eOr (eU dIsN (eW i)) mc ρ = encR tc := by
  rw [eOr_eq, isN_o o h, e]
  exact hc
theorem j_ifSA (o : Option α) [NoN α] {t1 : R τ} {tc : α → R Bool} {t2 t3 : α → R τ} (h : ρ[i]? = some (.fz (en o))) (hc : ∀ v, mc (ρ.set i (.fz (en v))) = encR (tc v)) (h2 : ∀ v, Φ.P (t2 v) (sSeq A N (ρ.set i (.fz (en v))))) (h3 : ∀ v, Φ.P (t3 v) (sSeq B N (ρ.set i (.fz (en v))))) (h1 : Φ.P t1 (sSeq B N ρ)) :
    Φ.P (optK o t1 fun v => (tc v).bind fun c => if c = true then t2 v else t3 v) (sSeq (sIf (eAnd (eU dNotN (eW i)) mc) A B) N ρ) := by
  cases ho : o with
  | none =>
    rw [sSeq_eq, sIf_eq, and_n o ho h]
    exact h1
  | some v =>
    have hs : ρ.set i (.fz (en v)) = ρ := set_same (by rw [h, ho]; rfl)
    have c := hc v; have a := h2 v; have b := h3 v
    rw [hs] at a b c
    exact j_if (and_s o ho h c) a b
theorem j_if1SA (o : Option α) [NoN α] {t1 : R τ} {tc : α → R Bool} {t2 t3 : α → R τ} (h : ρ[i]? = some (.fz (en o))) (hc : ∀ v, mc (ρ.set i (.fz (en v))) = encR (tc v)) (h2 : ∀ v, Φ.P (t2 v) (A (ρ.set i (.fz (en v))))) (h3 : ∀ v, Φ.P (t3 v) (B (ρ.set i (.fz (en v))))) (h1 : Φ.P t1 (B ρ)) :
    Φ.P (optK o t1 fun v => (tc v).bind fun c => if c = true then t2 v else t3 v) (sIf (eAnd (eU dNotN (eW i)) mc) A B ρ) := by
  cases ho : o with
  | none =>
    rw [sIf_eq, and_n o ho h]
    exact h1
  | some v =>
    have hs : ρ.set i (.fz (en v)) = ρ := set_same (by rw [h, ho]; rfl)
    have c := hc v; have a := h2 v; have b := h3 v
    rw [hs] at a b c
    exact j_if1 (and_s o ho h c) a b
theorem j_ifNO (o : Option α) [NoN α] {t1 : R τ} {tc : α → R Bool} {t2 t3 : α → R τ} (h : ρ[i]? = some (.fz (en o))) (hc : ∀ v, mc (ρ.set i (.fz (en v))) = encR (tc v)) (h2 : ∀ v, Φ.P (t2 v) (sSeq A N (ρ.set i (.fz (en v))))) (h3 : ∀ v, Φ.P (t3 v) (sSeq B N (ρ.set i (.fz (en v))))) (h1 : Φ.P t1 (sSeq A N ρ)) :
    Φ.P (optK o t1 fun v => (tc v).bind fun c => if c = true then t2 v else t3 v) (sSeq (sIf (eOr (eU dIsN (eW i)) mc) A B) N ρ) := by
  cases ho : o with
  | none =>
    rw [sSeq_eq, sIf_eq, or_n o ho h]
    exact h1
  | some v =>
    have hs : ρ.set i (.fz (en v)) = ρ := set_same (by rw [h, ho]; rfl)
    have c := hc v; have a := h2 v; have b := h3 v
    rw [hs] at a b c
    exact j_if (or_s o ho h c) a b
theorem j_if1NO (o : Option α) [NoN α] {t1 : R τ} {tc : α → R Bool} {t2 t3 : α → R τ} (h : ρ[i]? = some (.fz (en o))) (hc : ∀ v, mc (ρ.set i (.fz (en v))) = encR (tc v)) (h2 : ∀ v, Φ.P (t2 v) (A (ρ.set i (.fz (en v))))) (h3 : ∀ v, Φ.P (t3 v) (B (ρ.set i (.fz (en v))))) (h1 : Φ.P t1 (A ρ)) :
    Φ.P (optK o t1 fun v => (tc v).bind fun c => if c = true then t2 v else t3 v) (sIf (eOr (eU dIsN (eW i)) mc) A B ρ) := by
  cases ho : o with
  | none =>
    rw [sIf_eq, or_n o ho h]
    exact h1
  | some v =>
    have hs : ρ.set i (.fz (en v)) = ρ := set_same (by rw [h, ho]; rfl)
    have c := hc v; have a := h2 v; have b := h3 v
    rw [hs] at a b c
    exact j_if1 (or_s o ho h c) a b
end
theorem o_lenP2 {α β : Type} [Enc α] [Enc β] (a : P2 α β) : dLen [en a] = encR (R.ok (2 : Int)) := rfl
theorem o_lenP3 {α β γ : Type} [Enc α] [Enc β] [Enc γ] (a : P3 α β γ) : dLen [en a] = encR (R.ok (3 : Int)) := rfl
theorem o_lenP4 {α β γ δ : Type} [Enc α] [Enc β] [Enc γ] [Enc δ] (a : P4 α β γ δ) : dLen [en a] = encR (R.ok (4 : Int)) := rfl
def isIT (T : String) (d : D) : R Bool := toB (dIsI T d)
theorem o_isI {T : String} (d : D) : dIsI T (en d) = encR (isIT T d) := by
  show dIsI T d = _
  unfold isIT dIsI
  split <;> rfl
/-- a walk over data -/
def seqT (d : D) : R (List D) := match dSeq d with
  | .ok l => .ok l
  | .er c => .er c
  | .bad => .bad
theorem k_seqD {ρ : En} {m : DE} {t : R D} (h : m ρ = encR t) : iSeq m ρ = (t.bind fun d => seqT d).bind fun l => R.ok (l.map en) := by
  unfold iSeq
  rw [h]
  cases t with
  | ok d =>
    show dSeq d = (seqT d).bind _
    unfold seqT
    cases dSeq d with
    | ok l => show R.ok l = R.ok (l.map id); rw [List.map_id]
    | er c => rfl
    | bad => rfl
  | er c => rfl
  | bad => rfl
/-! ### least and greatest of lists and tuples; where a thing stands in a list -/
theorem o_maxU (a : List Int) : dMaxU [en a] = encR (maxT a) := o_max a
theorem o_minU (a : List Int) : dMinU [en a] = encR (minT a) := o_min a
theorem o_maxOU (a : List (Option Int)) : dMaxU [en a] = encR (maxOT a) := o_maxO a
theorem o_minOU (a : List (Option Int)) : dMinU [en a] = encR (minOT a) := o_minO a
theorem o_max2U (a b : Int) : dMaxU [en a, en b] = encR (R.ok (if b > a then b else a)) := o_max2 a b
theorem o_min2U (a b : Int) : dMinU [en a, en b] = encR (R.ok (if b < a then b else a)) := o_min2 a b
theorem o_maxTU (a : Tup Int) : dMaxU [en a] = encR (maxT a.l) := o_max a.l
theorem o_minTU (a : Tup Int) : dMinU [en a] = encR (minT a.l) := o_min a.l
/-- the first place of a thing -/
def idxL {α : Type} [DecidableEq α] (l : List α) (a : α) : Option Nat := l.findIdx? fun z => decide (z = a)
def idxT {α : Type} [DecidableEq α] (l : List α) (a : α) : R Int := match idxL l a with
  | some j => .ok ((j : Nat) : Int)
  | none => .bad
theorem e_met {α β γ : Type} [Enc α] [Enc β] [Enc γ] {ρ : En} {ma mb : DE} {op : D → D → R D} {ta : R (List α)} {tb : R β} {g : List α → β → R γ} (ha : ma ρ = encR ta) (hb : mb ρ = encR tb) (hf : ∀ a b, op (en a) (en b) = encR (g a b)) : eMet op ma mb ρ = encR (ta.bind fun a => tb.bind fun b => g a b) := by
  unfold eMet
  rw [ha, hb]
  cases ta with
  | ok a =>
    cases tb with
    | ok b => exact hf a b
    | er c => rfl
    | bad => rfl
  | er c => rfl
  | bad => rfl
theorem o_index {α : Type} [EncL α] [DecidableEq α] (h : EncL.dp α + 1 ≤ 64) (l : List α) (a : α) : dIndex (en l) (en a) = encR (idxT l a) := by
  show (if (SeqAt.shaped (.list (l.map en)) && SeqAt.shaped (en a)) = true then (match (l.map en).findIdx? fun z => PyData.eqv z (en a) with
    | some j => R.ok (PyData.int (j : Nat))
    | none => .bad) else .bad) = _
  have h1 : SeqAt.shaped (en l) = true := shaped_en (α := List α) (by show EncL.dp α + 1 ≤ 64; exact h) l
  have h1' : SeqAt.shaped (.list (l.map en)) = true := h1
  have h2 : SeqAt.shaped (en a) = true := shaped_en (by omega) a
  rw [h1', h2]
  have e : ((l.map en).findIdx? fun z => PyData.eqv z (en a)) = idxL l a := by
    unfold idxL
    rw [List.findIdx?_map]
    congr 1
    funext z
    exact eqv_en _ _
  rw [e]
  unfold idxT
  cases idxL l a <;> rfl
/-! ### a def of which only this is said: where the typed one is not bad, they are alike -/
def iFw (β : Type) [Enc β] : Itp β β where
  P := fun t r => t = .bad ∨ endF r = encR t
  rt := fun b => .ok b
  er := fun _ _ => .inr rfl
  bd := .inl rfl
theorem iFw_rt {β : Type} [Enc β] (b : β) : (iFw β).P ((iFw β).rt b) (.rt (en b)) := .inr rfl
theorem d_1w {β : Type} [Enc β] {N : Nat} {M : DS} {a : D} {t : R β} (h : (iFw β).P t (M (.fz a :: List.replicate (N - 1) Slot.un))) : t = .bad ∨ runF N 1 M [a] = encR t := by rw [runF_1]; exact h
theorem j_asgU {α β : Type} [Enc α] [Enc β] {ρ : En} {m : DE} {N : DS} {i : Nat} {t : R (Option α)} {k : α → R β} (h : m ρ = encR t) (hk : ∀ v, (iFw β).P (k v) (N (ρ.set i (.fz (en v))))) : (iFw β).P (t.bind fun o => optK o .bad fun v => k v) (sSeq (sAsg i m) N ρ) := by
  rw [sSeq_eq, sAsg_eq, h]
  cases t with
  | ok o => cases o with
    | none => exact .inl rfl
    | some v => exact hk v
  | er c => exact .inr rfl
  | bad => exact .inl rfl
end Fc
set_option Elab.async false
set_option linter.all false
set_option maxRecDepth 100000
set_option maxHeartbeats 2000000
namespace Fc
open PySem L2 Evl PySem.Spec PyProof.Rows
/-! ### records, by kinds -/
def cT (c : Clk) : TClk := ⟨c.slow, c.fast, ⟨c.rs⟩⟩
def evT (e : Ev) : TEv := ⟨(e.1 : Nat), (e.2 : Nat)⟩
def lT (l : Ltr) : TLtr := ⟨evT l.a, evT l.b, l.lo, l.hi⟩
def Rec.t (r : Rec) : TRec := ⟨⟨r.cs.map cT⟩, ⟨r.ls.map lT⟩⟩
theorem en_cT (c : Clk) : en (cT c) = c.d := rfl
theorem en_eT (e : Ev) : en (evT e) = evd e := rfl
theorem en_lT (l : Ltr) : en (lT l) = l.d := by
  obtain ⟨a, b, lo, hi⟩ := l
  cases hi <;> rfl
theorem map_cT (l : List Clk) : (l.map cT).map en = l.map Clk.d := by rw [List.map_map]; rfl
theorem map_evT (l : List Ev) : (l.map evT).map en = l.map evd := by rw [List.map_map]; rfl
theorem map_lT (l : List Ltr) : (l.map lT).map en = l.map Ltr.d := by
  rw [List.map_map]
  apply List.map_congr_left
  intro x _
  exact en_lT x
theorem en_rt (r : Rec) : en r.t = r.d := by
  show PyData.tuple [.tuple ((r.cs.map cT).map en), .tuple ((r.ls.map lT).map en)] = _
  rw [map_cT, map_lT]; rfl
theorem en_inj {α : Type} [EncL α] {a b : α} (h : en a = en b) : a = b := by
  have := EncL.eqv a b
  rw [h] at this
  exact this.mp ((EncL.eqv b b).mpr rfl)
/-- all data without texts are of a bounded shape -/
def noS : D → Bool
  | .str _ => false
  | _ => true
theorem gdT {w n : Nat} {α : Type} [Enc α] {l : List α} (hl : l.length ≤ w) (h : ∀ x ∈ l, gd w n (en x) = true) : gd w (n + 1) (.tuple (l.map en)) = true := gdTup (by rw [List.length_map]; exact hl) fun x hx => by
  obtain ⟨y, hy, rfl⟩ := List.mem_map.mp hx
  exact h y hy
theorem gd_int (w n : Nat) (i : Int) : gd w n (en i) = true := by cases n <;> rfl
theorem gd_optI (w n : Nat) (i : Option Int) : gd w n (en i) = true := by cases i <;> cases n <;> rfl
theorem gd_ev (w n : Nat) (e : TEv) : gd (w + 2) (n + 1) (en e) = true := gdTup (by simp) fun x hx => by
  simp only [List.mem_cons, List.not_mem_nil, or_false] at hx
  rcases hx with rfl | rfl <;> exact gd_int _ _ _
theorem gd_trec (r : TRec) : ∃ w, gd w 4 (en r) = true := by
  let f := fun c : TClk => c.c.l.length
  have hb : ∀ l : List TClk, ∃ w, ∀ c ∈ l, c.c.l.length ≤ w := by
    intro l
    induction l with
    | nil => exact ⟨0, by simp⟩
    | cons a l ih =>
      obtain ⟨w, h⟩ := ih
      refine ⟨max w a.c.l.length, fun c hc => ?_⟩
      rcases List.mem_cons.mp hc with z | z
      · rw [z]; omega
      · have := h c z; omega
  obtain ⟨w, hw⟩ := hb r.a.l
  refine ⟨w + r.a.l.length + r.b.l.length + 4, gdTup (by simp) fun x hx => ?_⟩
  simp only [List.mem_cons, List.not_mem_nil, or_false] at hx
  rcases hx with rfl | rfl
  · refine gdT (by omega) fun c hc => gdTup (by simp) fun x hx => ?_
    simp only [List.mem_cons, List.not_mem_nil, or_false] at hx
    rcases hx with rfl | rfl | rfl
    · exact gd_int _ _ _
    · exact gd_int _ _ _
    · exact gdT (by have := hw c hc; omega) fun x _ => gd_int _ _ _
  · refine gdT (by omega) fun c hc => gdTup (by simp) fun x hx => ?_
    simp only [List.mem_cons, List.not_mem_nil, or_false] at hx
    rcases hx with rfl | rfl | rfl | rfl
    · exact gd_ev (w + r.a.l.length + r.b.l.length + 2) _ _
    · exact gd_ev (w + r.a.l.length + r.b.l.length + 2) _ _
    · exact gd_int _ _ _
    · exact gd_optI _ _ _
/-- what is a record -/
def OkR (r : TRec) : Prop := ∃ q : Rec, q.Ok ∧ r = q.t
theorem recB_iff (r : TRec) : recB (en r) ↔ OkR r := by
  constructor
  · rintro ⟨q, o, e⟩
    exact ⟨q, o, en_inj (e.trans (en_rt q).symm)⟩
  · rintro ⟨q, o, rfl⟩
    exact ⟨q, o, en_rt q⟩
noncomputable def T_need_record (r : TRec) : R Unit := by
  classical exact if OkR r then .ok () else .er "NoRecord"
theorem T_need_record_ok (r : TRec) : F_need_record [en r] = encR (T_need_record r) := by
  classical
  obtain ⟨w, hw⟩ := gd_trec r
  obtain ⟨b, h1, h2⟩ := is_record_ok hw (by omega)
  rw [recB_iff] at h2
  unfold F_need_record M_need_record T_need_record
  simp only [runF_1, List.reduceReplicate, Nat.reduceSub]
  cases b with
  | true => rw [if_pos (h2.mp rfl)]; simp [h1]; rfl
  | false => rw [if_neg (fun z => by cases h2.mpr z)]; simp [h1, sRaise]
theorem need_yes {r : TRec} (h : OkR r) : T_need_record r = .ok () := by
  classical
  unfold T_need_record
  rw [if_pos h]
theorem need_no {r : TRec} (h : ¬ OkR r) : T_need_record r = .er "NoRecord" := by
  classical
  unfold T_need_record
  rw [if_neg h]
end Fc
set_option Elab.async false
set_option linter.all false
set_option maxRecDepth 100000
set_option maxHeartbeats 4000000
namespace Fc
open PySem L2 Evl PySem.Spec PyProof.Rows
noncomputable section
def T_is_number (v_thing : Int) (v_low : Int) (v_high : Int) : R Bool :=
  (R.bind (andR (R.bind (R.bind (R.ok v_thing : R Int) fun (x1 : Int) => (R.ok (en x1) : R D)) fun (x2 : D) => isIT "int" x2) (andR (R.bind (R.bind (R.bind (R.ok v_thing : R Int) fun (x3 : Int) => (R.ok (en x3) : R D)) fun (x4 : D) => isIT "bool" x4) fun (x5 : Bool) => (R.ok (!x5) : R Bool)) (R.bind (R.ok v_low : R Int) fun (x6 : Int) => R.bind (R.ok v_thing : R Int) fun (x7 : Int) => R.bind (R.ok (decide (x6 ≤ x7)) : R Bool) fun (x9 : Bool) => if x9 = true then R.bind (R.ok v_high : R Int) fun (x8 : Int) => (R.ok (decide (x7 ≤ x8)) : R Bool) else (R.ok false : R Bool)))) fun (x10 : Bool) => (R.ok x10 : R Bool))
theorem T_is_number_ok (v_thing : Int) (v_low : Int) (v_high : Int) : F_is_number [en v_thing, en v_low, en v_high] = encR (T_is_number v_thing v_low v_high) := by
  unfold F_is_number
  refine d_3 ?_
  unfold M_is_number T_is_number
  refine j_last ?_
  exact j_retS iF_rt (e_and (e_un (e_up (e_w (v_thing : Int) rfl)) o_isI) (e_and (e_un (e_un (e_up (e_w (v_thing : Int) rfl)) o_isI) o_not) (e_chain (e_w (v_low : Int) rfl) (e_w (v_thing : Int) rfl) (e_w (v_high : Int) rfl) o_le o_le)))
def T_is_event (v_clocks : (Tup TClk)) (v_thing : TEv) : R Bool :=
  (R.bind (orR (R.bind (R.bind (R.bind (R.ok v_thing : R TEv) fun (x1 : TEv) => (R.ok (en x1) : R D)) fun (x2 : D) => isIT "tuple" x2) fun (x3 : Bool) => (R.ok (!x3) : R Bool)) (orR (R.bind (R.bind (R.ok v_thing : R TEv) fun (x4 : TEv) => (fun _ => (R.ok (2 : Int) : R Int)) x4) fun (x5 : Int) => R.bind (R.ok (2 : Int) : R Int) fun (x6 : Int) => (R.ok (!decide (x5 = x6)) : R Bool)) (R.bind (R.bind (R.bind (R.ok v_thing : R TEv) fun (x7 : TEv) => (R.ok x7.a : R Int)) fun (x11 : Int) => R.bind (R.ok (0 : Int) : R Int) fun (x12 : Int) => R.bind (R.bind (R.bind (R.ok v_clocks : R (Tup TClk)) fun (x8 : (Tup TClk)) => (R.ok ((List.length (Tup.l x8) : Nat) : Int) : R Int)) fun (x9 : Int) => R.bind (R.ok (1 : Int) : R Int) fun (x10 : Int) => (R.ok (x9 - x10) : R Int)) fun (x13 : Int) => T_is_number x11 x12 x13) fun (x14 : Bool) => (R.ok (!x14) : R Bool)))) fun (x28 : Bool) => if x28 = true then
    (R.bind (R.ok false : R Bool) fun (x15 : Bool) => (R.ok x15 : R Bool))
  else
    (R.bind (R.bind (R.bind (R.ok v_thing : R TEv) fun (x16 : TEv) => (R.ok x16.b : R Int)) fun (x24 : Int) => R.bind (R.ok (0 : Int) : R Int) fun (x25 : Int) => R.bind (R.bind (R.bind (R.bind (R.bind (R.ok v_clocks : R (Tup TClk)) fun (x18 : (Tup TClk)) => R.bind (R.bind (R.ok v_thing : R TEv) fun (x17 : TEv) => (R.ok x17.a : R Int)) fun (x19 : Int) => (atT (Tup.l x18) x19 : R TClk)) fun (x20 : TClk) => (R.ok x20.c : R (Tup Int))) fun (x21 : (Tup Int)) => (R.ok ((List.length (Tup.l x21) : Nat) : Int) : R Int)) fun (x22 : Int) => R.bind (R.ok (1 : Int) : R Int) fun (x23 : Int) => (R.ok (x22 - x23) : R Int)) fun (x26 : Int) => T_is_number x24 x25 x26) fun (x27 : Bool) => (R.ok x27 : R Bool)))
theorem T_is_event_ok (v_clocks : (Tup TClk)) (v_thing : TEv) : F_is_event [en v_clocks, en v_thing] = encR (T_is_event v_clocks v_thing) := by
  unfold F_is_event
  refine d_2 ?_
  unfold M_is_event T_is_event
  refine j_if (e_or (e_un (e_un (e_up (e_w (v_thing : TEv) rfl)) o_isI) o_not) (e_or (e_bin (e_call1 (e_w (v_thing : TEv) rfl) o_lenP2) (e_c ((2 : Int) : Int)) (o_ne (by decide))) (e_un (e_d3 (e_ix (e_w (v_thing : TEv) rfl) i2_0) (e_c ((0 : Int) : Int)) (e_bin (e_call1 (e_w (v_clocks : (Tup TClk)) rfl) o_lenT) (e_c ((1 : Int) : Int)) o_sub) T_is_number_ok) o_not))) ?_ ?_
  · skip
    exact j_retS iF_rt (e_c (false : Bool))
  · skip
    refine j_next ?_
    refine j_last ?_
    exact j_retS iF_rt (e_d3 (e_ix (e_w (v_thing : TEv) rfl) i2_1) (e_c ((0 : Int) : Int)) (e_bin (e_call1 (e_ix (e_bin (e_w (v_clocks : (Tup TClk)) rfl) (e_ix (e_w (v_thing : TEv) rfl) i2_0) o_atU) i3_2) o_lenT) (e_c ((1 : Int) : Int)) o_sub) T_is_number_ok)
def T_events (v_record : TRec) : R (List TEv) :=
  (R.bind (R.bind (R.ok v_record : R TRec) fun (x1 : TRec) => T_need_record x1) fun (x2 : Unit) =>
  (R.bind (R.bind (itemsT ([] : List (R TEv))) lstT) fun (v_found_3 : (List TEv)) =>
  (R.bind (R.bind (R.bind (R.ok v_record : R TRec) fun (x4 : TRec) => (R.ok x4.a : R (Tup TClk))) fun (x5 : (Tup TClk)) => (R.ok (enumG 0 (Tup.l x5)) : R (List (P2 Int TClk)))) fun (l_ : List (P2 Int TClk)) => R.bind (forT (fun (x6 : (P2 Int TClk)) (s7 : (List TEv)) =>
    (R.bind (R.bind (R.bind (R.bind (R.bind (R.ok x6.b : R TClk) fun (x13 : TClk) => (R.ok x13.c : R (Tup Int))) fun (x14 : (Tup Int)) => (R.ok ((List.length (Tup.l x14) : Nat) : Int) : R Int)) fun (x15 : Int) => rng1T x15) fun (l_ : List Int) => lcT (fun (y16 : Int) => (R.ok true : R Bool)) (fun (y16 : Int) => (R.bind (R.ok x6.a : R Int) fun (x17 : Int) => R.bind (R.ok y16 : R Int) fun (x18 : Int) => (R.ok (P2.mk x17 x18) : R TEv))) l_) fun (x19 : (List TEv)) => R.bind (catT s7 x19) fun (v_found_20 : (List TEv)) =>
    (R.ok v_found_20 : R (List TEv)))) l_ v_found_3) fun (s10 : (List TEv)) =>
  (R.bind (R.ok s10 : R (List TEv)) fun (x21 : (List TEv)) => (R.ok x21 : R (List TEv))))))
theorem T_events_ok (v_record : TRec) : F_events [en v_record] = encR (T_events v_record) := by
  unfold F_events
  refine d_1 ?_
  unfold M_events T_events
  refine j_drop (e_d1 (e_v (v_record : TRec) rfl) T_need_record_ok) (fun (x2 : Unit) => ?_)
  refine j_own (e_lst al_nil) (fun (v_found_3 : (List TEv)) => ?_)
  refine j_for (E := (fun (s_ : (List TEv)) (ρ_ : En) => ∃ j_2 : Slot, ∃ j_3 : Slot, ρ_ = [.fz (en (v_record : TRec)), .ow (en (s_ : (List TEv))), j_2, j_3, .un])) (k_enumT (e_ix (e_w (v_record : TRec) rfl) i2_0)) ⟨_, _, rfl⟩ ?_ ?_
  · rintro x6 s7 _ ⟨j8, j9, rfl⟩
    refine ⟨_, rfl, ?_⟩
    refine j_last ?_
    refine j_ext (xs := s7) rfl (e_lc (k_rng1 (e_call1 (e_ix (e_w (x6.b : TClk) rfl) i3_2) o_lenT)) (fun (y16 : Int) => ⟨_, rfl, t_yes, (e_p2 (e_v (x6.a : Int) rfl) (e_v (y16 : Int) rfl))⟩)) (fun (v_found_20 : (List TEv)) => ?_)
    exact j_end_N ⟨_, _, rfl⟩
  · rintro s10 _ ⟨j11, j12, rfl⟩
    refine j_last ?_
    refine j_frz' rfl ?_
    exact j_retS iF_rt (e_v (s10 : (List TEv)) rfl)
def T_law_cell (v_script : Scr) (v_k : Int) : R Int :=
  (R.bind (R.bind (R.ok v_script : R Scr) fun (x1 : Scr) => (R.ok (decide (Scr.ns x1 = [])) : R Bool)) fun (x18 : Bool) => if x18 = true then
    (R.bind (R.bind (R.ok (7 : Int) : R Int) fun (x2 : Int) => R.bind (R.ok v_k : R Int) fun (x3 : Int) => mulT x2 x3) fun (x4 : Int) => (R.ok x4 : R Int))
  else
    (R.bind (R.bind (R.bind (R.ok v_script : R Scr) fun (x8 : Scr) => R.bind (R.bind (R.ok v_k : R Int) fun (x6 : Int) => R.bind (R.bind (R.ok v_script : R Scr) fun (x5 : Scr) => (R.ok ((List.length (Scr.ns x5) : Nat) : Int) : R Int)) fun (x7 : Int) => modT x6 x7) fun (x9 : Int) => (atT (Scr.ns x8) x9 : R Int)) fun (x15 : Int) => R.bind (R.bind (R.ok (6553 : Int) : R Int) fun (x13 : Int) => R.bind (R.bind (R.ok v_k : R Int) fun (x11 : Int) => R.bind (R.bind (R.ok v_script : R Scr) fun (x10 : Scr) => (R.ok ((List.length (Scr.ns x10) : Nat) : Int) : R Int)) fun (x12 : Int) => fdivT x11 x12) fun (x14 : Int) => mulT x13 x14) fun (x16 : Int) => (R.ok (x15 + x16) : R Int)) fun (x17 : Int) => (R.ok x17 : R Int)))
theorem T_law_cell_ok (v_script : Scr) (v_k : Int) : F_law_cell [en v_script, en v_k] = encR (T_law_cell v_script v_k) := by
  unfold F_law_cell
  refine d_2 ?_
  unfold M_law_cell T_law_cell
  refine j_if (e_eqS (e_w (v_script : Scr) rfl)) ?_ ?_
  · skip
    exact j_retS iF_rt (e_bin (e_c ((7 : Int) : Int)) (e_w (v_k : Int) rfl) o_mul)
  · skip
    refine j_next ?_
    refine j_last ?_
    exact j_retS iF_rt (e_bin (e_bin (e_w (v_script : Scr) rfl) (e_bin (e_w (v_k : Int) rfl) (e_call1 (e_w (v_script : Scr) rfl) o_lenS) o_mod) o_atS) (e_bin (e_c ((6553 : Int) : Int)) (e_bin (e_w (v_k : Int) rfl) (e_call1 (e_w (v_script : Scr) rfl) o_lenS) o_fdiv) o_mul) o_add)
def T_law_drawn (v_script : Scr) (v_k : Int) (v_many : Int) : R Int :=
  (R.bind (R.bind (R.bind (R.bind (R.bind (R.bind (R.ok v_script : R Scr) fun (x1 : Scr) => R.bind (R.ok v_k : R Int) fun (x2 : Int) => T_law_cell x1 x2) fun (x3 : Int) => R.bind (R.ok (2147483563 : Int) : R Int) fun (x4 : Int) => modT x3 x4) fun (x5 : Int) => R.bind (R.ok (69069 : Int) : R Int) fun (x6 : Int) => mulT x5 x6) fun (x11 : Int) => R.bind (R.bind (R.ok (104723 : Int) : R Int) fun (x9 : Int) => R.bind (R.bind (R.ok v_k : R Int) fun (x7 : Int) => R.bind (R.ok (1 : Int) : R Int) fun (x8 : Int) => (R.ok (x7 + x8) : R Int)) fun (x10 : Int) => mulT x9 x10) fun (x12 : Int) => (R.ok (x11 + x12) : R Int)) fun (x13 : Int) => R.bind (R.ok (2147483563 : Int) : R Int) fun (x14 : Int) => modT x13 x14) fun (v_cell_here_15 : Int) =>
  (R.bind (R.bind (R.bind (R.bind (R.ok v_cell_here_15 : R Int) fun (x16 : Int) => R.bind (R.ok v_cell_here_15 : R Int) fun (x17 : Int) => mulT x16 x17) fun (x20 : Int) => R.bind (R.bind (R.ok v_cell_here_15 : R Int) fun (x18 : Int) => R.bind (R.ok (3 : Int) : R Int) fun (x19 : Int) => fdivT x18 x19) fun (x21 : Int) => (R.ok (x20 + x21) : R Int)) fun (x22 : Int) => R.bind (R.ok (2147483399 : Int) : R Int) fun (x23 : Int) => modT x22 x23) fun (v_cell_here_24 : Int) =>
  (R.bind (R.bind (R.bind (R.bind (R.bind (R.bind (R.ok v_cell_here_24 : R Int) fun (x25 : Int) => R.bind (R.ok v_cell_here_24 : R Int) fun (x26 : Int) => mulT x25 x26) fun (x29 : Int) => R.bind (R.bind (R.ok v_cell_here_24 : R Int) fun (x27 : Int) => R.bind (R.ok (7 : Int) : R Int) fun (x28 : Int) => fdivT x27 x28) fun (x30 : Int) => (R.ok (x29 + x30) : R Int)) fun (x31 : Int) => R.bind (R.ok (2147483647 : Int) : R Int) fun (x32 : Int) => modT x31 x32) fun (x33 : Int) => R.bind (R.ok (11 : Int) : R Int) fun (x34 : Int) => fdivT x33 x34) fun (x35 : Int) => R.bind (R.ok v_many : R Int) fun (x36 : Int) => modT x35 x36) fun (x37 : Int) => (R.ok x37 : R Int))))
theorem T_law_drawn_ok (v_script : Scr) (v_k : Int) (v_many : Int) : F_law_drawn [en v_script, en v_k, en v_many] = encR (T_law_drawn v_script v_k v_many) := by
  unfold F_law_drawn
  refine d_3 ?_
  unfold M_law_drawn T_law_drawn
  refine j_asg (e_bin (e_bin (e_bin (e_bin (e_d2 (e_v (v_script : Scr) rfl) (e_v (v_k : Int) rfl) T_law_cell_ok) (e_c ((2147483563 : Int) : Int)) o_mod) (e_c ((69069 : Int) : Int)) o_mul) (e_bin (e_c ((104723 : Int) : Int)) (e_bin (e_w (v_k : Int) rfl) (e_c ((1 : Int) : Int)) o_add) o_mul) o_add) (e_c ((2147483563 : Int) : Int)) o_mod) (fun (v_cell_here_15 : Int) => ?_)
  refine j_asg (e_bin (e_bin (e_bin (e_w (v_cell_here_15 : Int) rfl) (e_w (v_cell_here_15 : Int) rfl) o_mul) (e_bin (e_w (v_cell_here_15 : Int) rfl) (e_c ((3 : Int) : Int)) o_fdiv) o_add) (e_c ((2147483399 : Int) : Int)) o_mod) (fun (v_cell_here_24 : Int) => ?_)
  refine j_last ?_
  exact j_retS iF_rt (e_bin (e_bin (e_bin (e_bin (e_bin (e_w (v_cell_here_24 : Int) rfl) (e_w (v_cell_here_24 : Int) rfl) o_mul) (e_bin (e_w (v_cell_here_24 : Int) rfl) (e_c ((7 : Int) : Int)) o_fdiv) o_add) (e_c ((2147483647 : Int) : Int)) o_mod) (e_c ((11 : Int) : Int)) o_fdiv) (e_w (v_many : Int) rfl) o_mod)
def T_law_clock (v_script : Scr) (v_at : Int) : R TClk :=
  (R.bind (R.bind (R.ok (1 : Int) : R Int) fun (x4 : Int) => R.bind (R.bind (R.ok v_script : R Scr) fun (x1 : Scr) => R.bind (R.ok v_at : R Int) fun (x2 : Int) => R.bind (R.ok (3 : Int) : R Int) fun (x3 : Int) => T_law_drawn x1 x2 x3) fun (x5 : Int) => (R.ok (x4 + x5) : R Int)) fun (v_slow_6 : Int) =>
  (R.bind (R.bind (itemsT [(R.bind (R.ok v_script : R Scr) fun (x9 : Scr) => R.bind (R.bind (R.ok v_at : R Int) fun (x7 : Int) => R.bind (R.ok (2 : Int) : R Int) fun (x8 : Int) => (R.ok (x7 + x8) : R Int)) fun (x10 : Int) => R.bind (R.ok (6 : Int) : R Int) fun (x11 : Int) => T_law_drawn x9 x10 x11)]) (tupT : List Int → R (Tup Int))) fun (v_readings_12 : (Tup Int)) =>
  (R.bind (R.bind (R.bind (R.ok v_script : R Scr) fun (x15 : Scr) => R.bind (R.bind (R.ok v_at : R Int) fun (x13 : Int) => R.bind (R.ok (1 : Int) : R Int) fun (x14 : Int) => (R.ok (x13 + x14) : R Int)) fun (x16 : Int) => R.bind (R.ok (3 : Int) : R Int) fun (x17 : Int) => T_law_drawn x15 x16 x17) fun (x18 : Int) => rng1T x18) fun (l_ : List Int) => R.bind (forT (fun (x19 : Int) (s20 : (Tup Int)) =>
    (R.bind (R.bind (R.ok s20 : R (Tup Int)) fun (x38 : (Tup Int)) => R.bind (R.bind (itemsT [(R.bind (R.bind (R.bind (R.ok s20 : R (Tup Int)) fun (x25 : (Tup Int)) => R.bind (R.bind (R.ok (1 : Int) : R Int) fun (x24 : Int) => (R.ok (-x24) : R Int)) fun (x26 : Int) => (atT (Tup.l x25) x26 : R Int)) fun (x27 : Int) => R.bind (R.ok (1 : Int) : R Int) fun (x28 : Int) => (R.ok (x27 + x28) : R Int)) fun (x36 : Int) => R.bind (R.bind (R.ok v_script : R Scr) fun (x33 : Scr) => R.bind (R.bind (R.bind (R.ok v_at : R Int) fun (x29 : Int) => R.bind (R.ok (3 : Int) : R Int) fun (x30 : Int) => (R.ok (x29 + x30) : R Int)) fun (x31 : Int) => R.bind (R.ok x19 : R Int) fun (x32 : Int) => (R.ok (x31 + x32) : R Int)) fun (x34 : Int) => R.bind (R.ok (5 : Int) : R Int) fun (x35 : Int) => T_law_drawn x33 x34 x35) fun (x37 : Int) => (R.ok (x36 + x37) : R Int))]) (tupT : List Int → R (Tup Int))) fun (x39 : (Tup Int)) => tcatT x38 x39) fun (v_readings_40 : (Tup Int)) =>
    (R.ok v_readings_40 : R (Tup Int)))) l_ v_readings_12) fun (s22 : (Tup Int)) =>
  (R.bind (R.bind (R.ok v_slow_6 : R Int) fun (x48 : Int) => R.bind (R.bind (R.ok v_slow_6 : R Int) fun (x46 : Int) => R.bind (R.bind (R.ok v_script : R Scr) fun (x43 : Scr) => R.bind (R.bind (R.ok v_at : R Int) fun (x41 : Int) => R.bind (R.ok (6 : Int) : R Int) fun (x42 : Int) => (R.ok (x41 + x42) : R Int)) fun (x44 : Int) => R.bind (R.ok (3 : Int) : R Int) fun (x45 : Int) => T_law_drawn x43 x44 x45) fun (x47 : Int) => (R.ok (x46 + x47) : R Int)) fun (x49 : Int) => R.bind (R.ok s22 : R (Tup Int)) fun (x50 : (Tup Int)) => (R.ok (P3.mk x48 x49 x50) : R TClk)) fun (x51 : TClk) => (R.ok x51 : R TClk)))))
theorem T_law_clock_ok (v_script : Scr) (v_at : Int) : F_law_clock [en v_script, en v_at] = encR (T_law_clock v_script v_at) := by
  unfold F_law_clock
  refine d_2 ?_
  unfold M_law_clock T_law_clock
  refine j_asg (e_bin (e_c ((1 : Int) : Int)) (e_d3 (e_v (v_script : Scr) rfl) (e_v (v_at : Int) rfl) (e_c ((3 : Int) : Int)) T_law_drawn_ok) o_add) (fun (v_slow_6 : Int) => ?_)
  refine j_asg (e_tupl (al_cons (e_d3 (e_v (v_script : Scr) rfl) (e_bin (e_w (v_at : Int) rfl) (e_c ((2 : Int) : Int)) o_add) (e_c ((6 : Int) : Int)) T_law_drawn_ok) al_nil)) (fun (v_readings_12 : (Tup Int)) => ?_)
  refine j_for (E := (fun (s_ : (Tup Int)) (ρ_ : En) => ∃ j_4 : Slot, ρ_ = [.fz (en (v_script : Scr)), .fz (en (v_at : Int)), .fz (en (v_slow_6 : Int)), .fz (en (s_ : (Tup Int))), j_4])) (k_rng1 (e_d3 (e_v (v_script : Scr) rfl) (e_bin (e_w (v_at : Int) rfl) (e_c ((1 : Int) : Int)) o_add) (e_c ((3 : Int) : Int)) T_law_drawn_ok)) ⟨_, rfl⟩ ?_ ?_
  · rintro x19 s20 _ ⟨j21, rfl⟩
    refine ⟨_, rfl, ?_⟩
    refine j_last ?_
    refine j_asg (e_bin (e_w (s20 : (Tup Int)) rfl) (e_tupl (al_cons (e_bin (e_bin (e_bin (e_w (s20 : (Tup Int)) rfl) (e_un (e_c ((1 : Int) : Int)) o_neg) o_atU) (e_c ((1 : Int) : Int)) o_add) (e_d3 (e_v (v_script : Scr) rfl) (e_bin (e_bin (e_w (v_at : Int) rfl) (e_c ((3 : Int) : Int)) o_add) (e_w (x19 : Int) rfl) o_add) (e_c ((5 : Int) : Int)) T_law_drawn_ok) o_add) al_nil)) o_addT) (fun (v_readings_40 : (Tup Int)) => ?_)
    exact j_end_N ⟨_, rfl⟩
  · rintro s22 _ ⟨j23, rfl⟩
    refine j_last ?_
    exact j_retS iF_rt (e_p3 (e_v (v_slow_6 : Int) rfl) (e_bin (e_w (v_slow_6 : Int) rfl) (e_d3 (e_v (v_script : Scr) rfl) (e_bin (e_w (v_at : Int) rfl) (e_c ((6 : Int) : Int)) o_add) (e_c ((3 : Int) : Int)) T_law_drawn_ok) o_add) (e_v (s22 : (Tup Int)) rfl))
def T_law_events (v_clocks : (Tup TClk)) : R (List TEv) :=
  (R.bind (R.bind (itemsT ([] : List (R TEv))) lstT) fun (v_found_1 : (List TEv)) =>
  (R.bind (R.bind (R.ok v_clocks : R (Tup TClk)) fun (x2 : (Tup TClk)) => (R.ok (enumG 0 (Tup.l x2)) : R (List (P2 Int TClk)))) fun (l_ : List (P2 Int TClk)) => R.bind (forT (fun (x3 : (P2 Int TClk)) (s4 : (List TEv)) =>
    (R.bind (R.bind (R.ok s4 : R (List TEv)) fun (x16 : (List TEv)) => R.bind (R.bind (R.bind (R.bind (R.bind (R.ok x3.b : R TClk) fun (x10 : TClk) => (R.ok x10.c : R (Tup Int))) fun (x11 : (Tup Int)) => (R.ok ((List.length (Tup.l x11) : Nat) : Int) : R Int)) fun (x12 : Int) => rng1T x12) fun (l_ : List Int) => lcT (fun (y13 : Int) => (R.ok true : R Bool)) (fun (y13 : Int) => (R.bind (R.ok x3.a : R Int) fun (x14 : Int) => R.bind (R.ok y13 : R Int) fun (x15 : Int) => (R.ok (P2.mk x14 x15) : R TEv))) l_) fun (x17 : (List TEv)) => catT x16 x17) fun (v_found_18 : (List TEv)) =>
    (R.ok v_found_18 : R (List TEv)))) l_ v_found_1) fun (s7 : (List TEv)) =>
  (R.bind (R.ok s7 : R (List TEv)) fun (x19 : (List TEv)) => (R.ok x19 : R (List TEv)))))
theorem T_law_events_ok (v_clocks : (Tup TClk)) : F_law_events [en v_clocks] = encR (T_law_events v_clocks) := by
  unfold F_law_events
  refine d_1 ?_
  unfold M_law_events T_law_events
  refine j_asg (e_lst al_nil) (fun (v_found_1 : (List TEv)) => ?_)
  refine j_for (E := (fun (s_ : (List TEv)) (ρ_ : En) => ∃ j_2 : Slot, ∃ j_3 : Slot, ρ_ = [.fz (en (v_clocks : (Tup TClk))), .fz (en (s_ : (List TEv))), j_2, j_3, .un])) (k_enumT (e_v (v_clocks : (Tup TClk)) rfl)) ⟨_, _, rfl⟩ ?_ ?_
  · rintro x3 s4 _ ⟨j5, j6, rfl⟩
    refine ⟨_, rfl, ?_⟩
    refine j_last ?_
    refine j_asg (e_bin (e_w (s4 : (List TEv)) rfl) (e_lc (k_rng1 (e_call1 (e_ix (e_w (x3.b : TClk) rfl) i3_2) o_lenT)) (fun (y13 : Int) => ⟨_, rfl, t_yes, (e_p2 (e_v (x3.a : Int) rfl) (e_v (y13 : Int) rfl))⟩)) o_addL) (fun (v_found_18 : (List TEv)) => ?_)
    exact j_end_N ⟨_, _, rfl⟩
  · rintro s7 _ ⟨j8, j9, rfl⟩
    refine j_last ?_
    exact j_retS iF_rt (e_v (s7 : (List TEv)) rfl)
def T_law_letter (v_script : Scr) (v_at : Int) (v_clocks : (Tup TClk)) : R (Option TLtr) :=
  (R.bind (R.bind (R.ok v_clocks : R (Tup TClk)) fun (x1 : (Tup TClk)) => T_law_events x1) fun (v_row_2 : (List TEv)) =>
  (R.bind (R.bind (R.bind (R.ok v_row_2 : R (List TEv)) fun (x3 : (List TEv)) => (R.ok ((List.length x3 : Nat) : Int) : R Int)) fun (x4 : Int) => R.bind (R.ok (2 : Int) : R Int) fun (x5 : Int) => (R.ok (decide (x4 < x5)) : R Bool)) fun (x60 : Bool) => if x60 = true then
    (R.bind (R.ok none : R (Option TLtr)) fun (x6 : (Option TLtr)) => (R.ok x6 : R (Option TLtr)))
  else
    (R.bind (R.bind (R.ok v_script : R Scr) fun (x8 : Scr) => R.bind (R.ok v_at : R Int) fun (x9 : Int) => R.bind (R.bind (R.ok v_row_2 : R (List TEv)) fun (x7 : (List TEv)) => (R.ok ((List.length x7 : Nat) : Int) : R Int)) fun (x10 : Int) => T_law_drawn x8 x9 x10) fun (v_place_11 : Int) =>
    (R.bind (R.bind (R.bind (R.bind (R.ok v_place_11 : R Int) fun (x12 : Int) => R.bind (R.ok (1 : Int) : R Int) fun (x13 : Int) => (R.ok (x12 + x13) : R Int)) fun (x22 : Int) => R.bind (R.bind (R.ok v_script : R Scr) fun (x19 : Scr) => R.bind (R.bind (R.ok v_at : R Int) fun (x14 : Int) => R.bind (R.ok (1 : Int) : R Int) fun (x15 : Int) => (R.ok (x14 + x15) : R Int)) fun (x20 : Int) => R.bind (R.bind (R.bind (R.ok v_row_2 : R (List TEv)) fun (x16 : (List TEv)) => (R.ok ((List.length x16 : Nat) : Int) : R Int)) fun (x17 : Int) => R.bind (R.ok (1 : Int) : R Int) fun (x18 : Int) => (R.ok (x17 - x18) : R Int)) fun (x21 : Int) => T_law_drawn x19 x20 x21) fun (x23 : Int) => (R.ok (x22 + x23) : R Int)) fun (x25 : Int) => R.bind (R.bind (R.ok v_row_2 : R (List TEv)) fun (x24 : (List TEv)) => (R.ok ((List.length x24 : Nat) : Int) : R Int)) fun (x26 : Int) => modT x25 x26) fun (v_other_27 : Int) =>
    (R.bind (R.bind (R.ok v_script : R Scr) fun (x30 : Scr) => R.bind (R.bind (R.ok v_at : R Int) fun (x28 : Int) => R.bind (R.ok (2 : Int) : R Int) fun (x29 : Int) => (R.ok (x28 + x29) : R Int)) fun (x31 : Int) => R.bind (R.ok (8 : Int) : R Int) fun (x32 : Int) => T_law_drawn x30 x31 x32) fun (v_least_33 : Int) =>
    (R.bind (iteR (R.bind (R.bind (R.ok v_script : R Scr) fun (x36 : Scr) => R.bind (R.bind (R.ok v_at : R Int) fun (x34 : Int) => R.bind (R.ok (3 : Int) : R Int) fun (x35 : Int) => (R.ok (x34 + x35) : R Int)) fun (x37 : Int) => R.bind (R.ok (3 : Int) : R Int) fun (x38 : Int) => T_law_drawn x36 x37 x38) fun (x39 : Int) => R.bind (R.ok (0 : Int) : R Int) fun (x40 : Int) => (R.ok (decide (x39 = x40)) : R Bool)) (R.ok none : R (Option Int)) (R.bind (R.bind (R.ok v_least_33 : R Int) fun (x46 : Int) => R.bind (R.bind (R.ok v_script : R Scr) fun (x43 : Scr) => R.bind (R.bind (R.ok v_at : R Int) fun (x41 : Int) => R.bind (R.ok (4 : Int) : R Int) fun (x42 : Int) => (R.ok (x41 + x42) : R Int)) fun (x44 : Int) => R.bind (R.ok (9 : Int) : R Int) fun (x45 : Int) => T_law_drawn x43 x44 x45) fun (x47 : Int) => (R.ok (x46 + x47) : R Int)) fun (x48 : Int) => (R.ok (some x48) : R (Option Int)))) fun (v_most_49 : (Option Int)) =>
    (R.bind (R.bind (R.bind (R.bind (R.ok v_row_2 : R (List TEv)) fun (x50 : (List TEv)) => R.bind (R.ok v_place_11 : R Int) fun (x51 : Int) => (atT x50 x51 : R TEv)) fun (x54 : TEv) => R.bind (R.bind (R.ok v_row_2 : R (List TEv)) fun (x52 : (List TEv)) => R.bind (R.ok v_other_27 : R Int) fun (x53 : Int) => (atT x52 x53 : R TEv)) fun (x55 : TEv) => R.bind (R.ok v_least_33 : R Int) fun (x56 : Int) => R.bind (R.ok v_most_49 : R (Option Int)) fun (x57 : (Option Int)) => (R.ok (P4.mk x54 x55 x56 x57) : R TLtr)) fun (x58 : TLtr) => (R.ok (some x58) : R (Option TLtr))) fun (x59 : (Option TLtr)) => (R.ok x59 : R (Option TLtr)))))))))
theorem T_law_letter_ok (v_script : Scr) (v_at : Int) (v_clocks : (Tup TClk)) : F_law_letter [en v_script, en v_at, en v_clocks] = encR (T_law_letter v_script v_at v_clocks) := by
  unfold F_law_letter
  refine d_3 ?_
  unfold M_law_letter T_law_letter
  refine j_asg (e_d1 (e_v (v_clocks : (Tup TClk)) rfl) T_law_events_ok) (fun (v_row_2 : (List TEv)) => ?_)
  refine j_if (e_bin (e_call1 (e_w (v_row_2 : (List TEv)) rfl) o_len) (e_c ((2 : Int) : Int)) o_lt) ?_ ?_
  · skip
    exact j_retS iF_rt (e_none (e_c (() : Unit)))
  · skip
    refine j_next ?_
    refine j_asg (e_d3 (e_v (v_script : Scr) rfl) (e_v (v_at : Int) rfl) (e_call1 (e_w (v_row_2 : (List TEv)) rfl) o_len) T_law_drawn_ok) (fun (v_place_11 : Int) => ?_)
    refine j_asg (e_bin (e_bin (e_bin (e_w (v_place_11 : Int) rfl) (e_c ((1 : Int) : Int)) o_add) (e_d3 (e_v (v_script : Scr) rfl) (e_bin (e_w (v_at : Int) rfl) (e_c ((1 : Int) : Int)) o_add) (e_bin (e_call1 (e_w (v_row_2 : (List TEv)) rfl) o_len) (e_c ((1 : Int) : Int)) o_sub) T_law_drawn_ok) o_add) (e_call1 (e_w (v_row_2 : (List TEv)) rfl) o_len) o_mod) (fun (v_other_27 : Int) => ?_)
    refine j_asg (e_d3 (e_v (v_script : Scr) rfl) (e_bin (e_w (v_at : Int) rfl) (e_c ((2 : Int) : Int)) o_add) (e_c ((8 : Int) : Int)) T_law_drawn_ok) (fun (v_least_33 : Int) => ?_)
    refine j_asg (e_if (e_bin (e_d3 (e_v (v_script : Scr) rfl) (e_bin (e_w (v_at : Int) rfl) (e_c ((3 : Int) : Int)) o_add) (e_c ((3 : Int) : Int)) T_law_drawn_ok) (e_c ((0 : Int) : Int)) (o_eq (by decide))) (e_none (e_c (() : Unit))) (e_some (e_bin (e_w (v_least_33 : Int) rfl) (e_d3 (e_v (v_script : Scr) rfl) (e_bin (e_w (v_at : Int) rfl) (e_c ((4 : Int) : Int)) o_add) (e_c ((9 : Int) : Int)) T_law_drawn_ok) o_add))) (fun (v_most_49 : (Option Int)) => ?_)
    refine j_last ?_
    exact j_retS iF_rt (e_some (e_p4 (e_bin (e_w (v_row_2 : (List TEv)) rfl) (e_w (v_place_11 : Int) rfl) o_atL) (e_bin (e_w (v_row_2 : (List TEv)) rfl) (e_w (v_other_27 : Int) rfl) o_atL) (e_v (v_least_33 : Int) rfl) (e_v (v_most_49 : (Option Int)) rfl)))
def T_law_record (v_script : Scr) (v_at : Int) (v_most : Int) : R TRec :=
  (R.bind (R.bind (R.bind (R.bind (R.bind (R.ok (1 : Int) : R Int) fun (x4 : Int) => R.bind (R.bind (R.ok v_script : R Scr) fun (x1 : Scr) => R.bind (R.ok v_at : R Int) fun (x2 : Int) => R.bind (R.ok (3 : Int) : R Int) fun (x3 : Int) => T_law_drawn x1 x2 x3) fun (x5 : Int) => (R.ok (x4 + x5) : R Int)) fun (x6 : Int) => rng1T x6) fun (l_ : List Int) => lcT (fun (y7 : Int) => (R.ok true : R Bool)) (fun (y7 : Int) => (R.bind (R.ok v_script : R Scr) fun (x14 : Scr) => R.bind (R.bind (R.bind (R.ok v_at : R Int) fun (x8 : Int) => R.bind (R.ok (1 : Int) : R Int) fun (x9 : Int) => (R.ok (x8 + x9) : R Int)) fun (x12 : Int) => R.bind (R.bind (R.ok (8 : Int) : R Int) fun (x10 : Int) => R.bind (R.ok y7 : R Int) fun (x11 : Int) => mulT x10 x11) fun (x13 : Int) => (R.ok (x12 + x13) : R Int)) fun (x15 : Int) => T_law_clock x14 x15)) l_) fun (x16 : (List TClk)) => (R.ok (Tup.mk x16) : R (Tup TClk))) fun (v_clocks_17 : (Tup TClk)) =>
  (R.bind (R.bind (itemsT ([] : List (R TLtr))) lstT) fun (v_letters_18 : (List TLtr)) =>
  (R.bind (R.bind (R.bind (R.ok v_script : R Scr) fun (x23 : Scr) => R.bind (R.bind (R.ok v_at : R Int) fun (x19 : Int) => R.bind (R.ok (30 : Int) : R Int) fun (x20 : Int) => (R.ok (x19 + x20) : R Int)) fun (x24 : Int) => R.bind (R.bind (R.ok v_most : R Int) fun (x21 : Int) => R.bind (R.ok (1 : Int) : R Int) fun (x22 : Int) => (R.ok (x21 + x22) : R Int)) fun (x25 : Int) => T_law_drawn x23 x24 x25) fun (x26 : Int) => rng1T x26) fun (l_ : List Int) => R.bind (forT (fun (x27 : Int) (s28 : (List TLtr)) =>
    (R.bind (R.bind (R.ok v_script : R Scr) fun (x40 : Scr) => R.bind (R.bind (R.bind (R.ok v_at : R Int) fun (x34 : Int) => R.bind (R.ok (31 : Int) : R Int) fun (x35 : Int) => (R.ok (x34 + x35) : R Int)) fun (x38 : Int) => R.bind (R.bind (R.ok (6 : Int) : R Int) fun (x36 : Int) => R.bind (R.ok x27 : R Int) fun (x37 : Int) => mulT x36 x37) fun (x39 : Int) => (R.ok (x38 + x39) : R Int)) fun (x41 : Int) => R.bind (R.ok v_clocks_17 : R (Tup TClk)) fun (x42 : (Tup TClk)) => T_law_letter x40 x41 x42) fun (v_letter_here_43 : (Option TLtr)) =>
    (R.bind (R.bind (R.ok s28 : R (List TLtr)) fun (x44 : (List TLtr)) => R.bind (R.ok (Option.toList v_letter_here_43) : R (List TLtr)) fun (x45 : (List TLtr)) => catT x44 x45) fun (v_letters_46 : (List TLtr)) =>
    (R.ok v_letters_46 : R (List TLtr))))) l_ v_letters_18) fun (s31 : (List TLtr)) =>
  (R.bind (R.bind (R.ok v_clocks_17 : R (Tup TClk)) fun (x48 : (Tup TClk)) => R.bind (R.bind (R.ok s31 : R (List TLtr)) fun (x47 : (List TLtr)) => (R.ok (Tup.mk x47) : R (Tup TLtr))) fun (x49 : (Tup TLtr)) => (R.ok (P2.mk x48 x49) : R TRec)) fun (x50 : TRec) => (R.ok x50 : R TRec)))))
theorem T_law_record_ok (v_script : Scr) (v_at : Int) (v_most : Int) : F_law_record [en v_script, en v_at, en v_most] = encR (T_law_record v_script v_at v_most) := by
  unfold F_law_record
  refine d_3 ?_
  unfold M_law_record T_law_record
  refine j_asg (e_call1 (e_lc (k_rng1 (e_bin (e_c ((1 : Int) : Int)) (e_d3 (e_v (v_script : Scr) rfl) (e_v (v_at : Int) rfl) (e_c ((3 : Int) : Int)) T_law_drawn_ok) o_add)) (fun (y7 : Int) => ⟨_, rfl, t_yes, (e_d2 (e_v (v_script : Scr) rfl) (e_bin (e_bin (e_w (v_at : Int) rfl) (e_c ((1 : Int) : Int)) o_add) (e_bin (e_c ((8 : Int) : Int)) (e_w (y7 : Int) rfl) o_mul) o_add) T_law_clock_ok)⟩)) o_tupL) (fun (v_clocks_17 : (Tup TClk)) => ?_)
  refine j_asg (e_lst al_nil) (fun (v_letters_18 : (List TLtr)) => ?_)
  refine j_for (E := (fun (s_ : (List TLtr)) (ρ_ : En) => ∃ j_5 : Slot, ∃ j_6 : Slot, ρ_ = [.fz (en (v_script : Scr)), .fz (en (v_at : Int)), .fz (en (v_most : Int)), .fz (en (v_clocks_17 : (Tup TClk))), .fz (en (s_ : (List TLtr))), j_5, j_6])) (k_rng1 (e_d3 (e_v (v_script : Scr) rfl) (e_bin (e_w (v_at : Int) rfl) (e_c ((30 : Int) : Int)) o_add) (e_bin (e_w (v_most : Int) rfl) (e_c ((1 : Int) : Int)) o_add) T_law_drawn_ok)) ⟨_, _, rfl⟩ ?_ ?_
  · rintro x27 s28 _ ⟨j29, j30, rfl⟩
    refine ⟨_, rfl, ?_⟩
    refine j_asg (e_d3 (e_v (v_script : Scr) rfl) (e_bin (e_bin (e_w (v_at : Int) rfl) (e_c ((31 : Int) : Int)) o_add) (e_bin (e_c ((6 : Int) : Int)) (e_w (x27 : Int) rfl) o_mul) o_add) (e_v (v_clocks_17 : (Tup TClk)) rfl) T_law_letter_ok) (fun (v_letter_here_43 : (Option TLtr)) => ?_)
    refine j_last ?_
    refine j_asg (e_bin (e_w (s28 : (List TLtr)) rfl) (e_optrep (v_letter_here_43 : (Option TLtr)) rfl rfl) o_addL) (fun (v_letters_46 : (List TLtr)) => ?_)
    exact j_end_N ⟨_, _, rfl⟩
  · rintro s31 _ ⟨j32, j33, rfl⟩
    refine j_last ?_
    exact j_retS iF_rt (e_p2 (e_v (v_clocks_17 : (Tup TClk)) rfl) (e_call1 (e_w (s31 : (List TLtr)) rfl) o_tupL))
end
end Fc
set_option Elab.async false
set_option linter.all false
set_option maxRecDepth 100000
set_option maxHeartbeats 4000000
namespace Fc
open PySem L2 Evl PySem.Spec PyProof.Rows
noncomputable section
def T_clock_bounds (v_number : Int) (v_clock : TClk) : R (List TBnd) :=
  (R.bind (R.ok v_clock : R TClk) fun (z1 : TClk) =>
  (R.bind (R.bind (itemsT ([] : List (R TBnd))) lstT) fun (v_found_2 : (List TBnd)) =>
  (R.bind (R.bind (R.ok z1.c : R (Tup Int)) fun (x7 : (Tup Int)) => R.bind (R.bind (R.ok z1.c : R (Tup Int)) fun (x6 : (Tup Int)) => R.bind (R.bind (R.ok (1 : Int) : R Int) fun (x3 : Int) => (R.ok (some x3) : R (Option Int))) fun (x4 : Option Int) => R.bind (R.ok none : R (Option Int)) fun (x5 : Option Int) => (R.ok (Tup.mk (cutL (Tup.l x6) x4 x5)) : R (Tup Int))) fun (x8 : (Tup Int)) => (R.ok (enumG 0 (zipG (Tup.l x7) (Tup.l x8))) : R (List (P2 Int TEv)))) fun (l_ : List (P2 Int TEv)) => R.bind (forT (fun (x9 : (P2 Int TEv)) (s10 : (List TBnd)) =>
    (R.bind (R.bind (R.bind (R.ok x9.b : R TEv) fun (x18 : TEv) => (R.ok x18.b : R Int)) fun (x20 : Int) => R.bind (R.bind (R.ok x9.b : R TEv) fun (x19 : TEv) => (R.ok x19.a : R Int)) fun (x21 : Int) => (R.ok (x20 - x21) : R Int)) fun (v_steps_22 : Int) =>
    (R.bind (R.bind (R.bind (R.ok v_number : R Int) fun (x23 : Int) => R.bind (R.ok x9.a : R Int) fun (x24 : Int) => (R.ok (P2.mk x23 x24) : R TEv)) fun (x31 : TEv) => R.bind (R.bind (R.ok v_number : R Int) fun (x27 : Int) => R.bind (R.bind (R.ok x9.a : R Int) fun (x25 : Int) => R.bind (R.ok (1 : Int) : R Int) fun (x26 : Int) => (R.ok (x25 + x26) : R Int)) fun (x28 : Int) => (R.ok (P2.mk x27 x28) : R TEv)) fun (x32 : TEv) => R.bind (R.bind (R.ok v_steps_22 : R Int) fun (x29 : Int) => R.bind (R.ok z1.b : R Int) fun (x30 : Int) => mulT x29 x30) fun (x33 : Int) => (R.ok (P3.mk x31 x32 x33) : R TBnd)) fun (x34 : TBnd) => R.bind (appT s10 x34) fun (v_found_35 : (List TBnd)) =>
    (R.bind (R.bind (R.bind (R.ok v_number : R Int) fun (x38 : Int) => R.bind (R.bind (R.ok x9.a : R Int) fun (x36 : Int) => R.bind (R.ok (1 : Int) : R Int) fun (x37 : Int) => (R.ok (x36 + x37) : R Int)) fun (x39 : Int) => (R.ok (P2.mk x38 x39) : R TEv)) fun (x46 : TEv) => R.bind (R.bind (R.ok v_number : R Int) fun (x40 : Int) => R.bind (R.ok x9.a : R Int) fun (x41 : Int) => (R.ok (P2.mk x40 x41) : R TEv)) fun (x47 : TEv) => R.bind (R.bind (R.ok (0 : Int) : R Int) fun (x44 : Int) => R.bind (R.bind (R.ok v_steps_22 : R Int) fun (x42 : Int) => R.bind (R.ok z1.a : R Int) fun (x43 : Int) => mulT x42 x43) fun (x45 : Int) => (R.ok (x44 - x45) : R Int)) fun (x48 : Int) => (R.ok (P3.mk x46 x47 x48) : R TBnd)) fun (x49 : TBnd) => R.bind (appT v_found_35 x49) fun (v_found_50 : (List TBnd)) =>
    (R.ok v_found_50 : R (List TBnd)))))) l_ v_found_2) fun (s14 : (List TBnd)) =>
  (R.bind (R.ok s14 : R (List TBnd)) fun (x51 : (List TBnd)) => (R.ok x51 : R (List TBnd))))))
theorem T_clock_bounds_ok (v_number : Int) (v_clock : TClk) : F_clock_bounds [en v_number, en v_clock] = encR (T_clock_bounds v_number v_clock) := by
  unfold F_clock_bounds
  refine d_2 ?_
  unfold M_clock_bounds T_clock_bounds
  refine j_asgG (e_v (v_clock : TClk) rfl) (fun _ => rfl) (fun (z1 : TClk) => ?_)
  refine j_own (e_lst al_nil) (fun (v_found_2 : (List TBnd)) => ?_)
  refine j_for (E := (fun (s_ : (List TBnd)) (ρ_ : En) => ∃ j_6 : Slot, ∃ j_7 : Slot, ∃ j_8 : Slot, ρ_ = [.fz (en (v_number : Int)), .fz (en (v_clock : TClk)), .fz (en (z1.a : Int)), .fz (en (z1.b : Int)), .fz (en (z1.c : (Tup Int))), .ow (en (s_ : (List TBnd))), j_6, j_7, j_8])) (k_enumzipTT (e_v (z1.c : (Tup Int)) rfl) (e_sl (e_w (z1.c : (Tup Int)) rfl) (oo_some (e_c ((1 : Int) : Int))) oo_none o_slT)) ⟨_, _, _, rfl⟩ ?_ ?_
  · rintro x9 s10 _ ⟨j11, j12, j13, rfl⟩
    refine ⟨_, rfl, ?_⟩
    refine j_asg (e_bin (e_ix (e_w (x9.b : TEv) rfl) i2_1) (e_ix (e_w (x9.b : TEv) rfl) i2_0) o_sub) (fun (v_steps_22 : Int) => ?_)
    refine j_app (xs := s10) rfl (e_p3 (e_p2 (e_v (v_number : Int) rfl) (e_v (x9.a : Int) rfl)) (e_p2 (e_v (v_number : Int) rfl) (e_bin (e_w (x9.a : Int) rfl) (e_c ((1 : Int) : Int)) o_add)) (e_bin (e_w (v_steps_22 : Int) rfl) (e_w (z1.b : Int) rfl) o_mul)) (fun (v_found_35 : (List TBnd)) => ?_)
    refine j_last ?_
    refine j_app (xs := v_found_35) rfl (e_p3 (e_p2 (e_v (v_number : Int) rfl) (e_bin (e_w (x9.a : Int) rfl) (e_c ((1 : Int) : Int)) o_add)) (e_p2 (e_v (v_number : Int) rfl) (e_v (x9.a : Int) rfl)) (e_bin (e_c ((0 : Int) : Int)) (e_bin (e_w (v_steps_22 : Int) rfl) (e_w (z1.a : Int) rfl) o_mul) o_sub)) (fun (v_found_50 : (List TBnd)) => ?_)
    exact j_end_N ⟨_, _, _, rfl⟩
  · rintro s14 _ ⟨j15, j16, j17, rfl⟩
    refine j_last ?_
    refine j_frz' rfl ?_
    exact j_retS iF_rt (e_v (s14 : (List TBnd)) rfl)
def T_letter_bounds (v_letter : TLtr) : R (List TBnd) :=
  (R.bind (R.ok v_letter : R TLtr) fun (z1 : TLtr) =>
  (R.bind (R.bind (itemsT ([(R.bind (R.ok z1.b : R TEv) fun (x4 : TEv) => R.bind (R.ok z1.a : R TEv) fun (x5 : TEv) => R.bind (R.bind (R.ok (0 : Int) : R Int) fun (x2 : Int) => R.bind (R.ok z1.c : R Int) fun (x3 : Int) => (R.ok (x2 - x3) : R Int)) fun (x6 : Int) => (R.ok (P3.mk x4 x5 x6) : R TBnd))] : List (R TBnd))) lstT) fun (v_found_7 : (List TBnd)) =>
  (R.bind (optK z1.d (R.ok v_found_7 : R (List TBnd)) fun (w8 : Int) => (R.bind (R.ok v_found_7 : R (List TBnd)) fun (x12 : (List TBnd)) => R.bind (R.bind (itemsT ([(R.bind (R.ok z1.a : R TEv) fun (x9 : TEv) => R.bind (R.ok z1.b : R TEv) fun (x10 : TEv) => R.bind (R.ok w8 : R Int) fun (x11 : Int) => (R.ok (P3.mk x9 x10 x11) : R TBnd))] : List (R TBnd))) lstT) fun (x13 : (List TBnd)) => catT x12 x13)) fun (x14 : (List TBnd)) => (R.ok x14 : R (List TBnd)))))
theorem T_letter_bounds_ok (v_letter : TLtr) : F_letter_bounds [en v_letter] = encR (T_letter_bounds v_letter) := by
  unfold F_letter_bounds
  refine d_1 ?_
  unfold M_letter_bounds T_letter_bounds
  refine j_asgG (e_v (v_letter : TLtr) rfl) (fun _ => rfl) (fun (z1 : TLtr) => ?_)
  refine j_asg (e_lst (al_cons (e_p3 (e_v (z1.b : TEv) rfl) (e_v (z1.a : TEv) rfl) (e_bin (e_c ((0 : Int) : Int)) (e_w (z1.c : Int) rfl) o_sub)) al_nil)) (fun (v_found_7 : (List TBnd)) => ?_)
  refine j_last ?_
  exact j_retS iF_rt (e_ifN (z1.d : (Option Int)) rfl (e_v (v_found_7 : (List TBnd)) rfl) (fun w8 => (e_bin (e_w (v_found_7 : (List TBnd)) rfl) (e_lst (al_cons (e_p3 (e_v (z1.a : TEv) rfl) (e_v (z1.b : TEv) rfl) (e_v (w8 : Int) rfl)) al_nil)) o_addL)))
def T_bounds (v_record : TRec) : R (List TBnd) :=
  (R.bind (R.bind (R.ok v_record : R TRec) fun (x1 : TRec) => T_need_record x1) fun (x2 : Unit) =>
  (R.bind (R.bind (itemsT ([] : List (R TBnd))) lstT) fun (v_found_3 : (List TBnd)) =>
  (R.bind (R.bind (R.bind (R.ok v_record : R TRec) fun (x4 : TRec) => (R.ok x4.a : R (Tup TClk))) fun (x5 : (Tup TClk)) => (R.ok (enumG 0 (Tup.l x5)) : R (List (P2 Int TClk)))) fun (l_ : List (P2 Int TClk)) => R.bind (forT (fun (x6 : (P2 Int TClk)) (s7 : (List TBnd)) =>
    (R.bind (R.bind (R.ok x6.a : R Int) fun (x13 : Int) => R.bind (R.ok x6.b : R TClk) fun (x14 : TClk) => T_clock_bounds x13 x14) fun (x15 : (List TBnd)) => R.bind (catT s7 x15) fun (v_found_16 : (List TBnd)) =>
    (R.ok v_found_16 : R (List TBnd)))) l_ v_found_3) fun (s10 : (List TBnd)) =>
  (R.bind (R.bind (R.bind (R.ok v_record : R TRec) fun (x17 : TRec) => (R.ok x17.b : R (Tup TLtr))) fun (x18 : (Tup TLtr)) => (R.ok (Tup.l x18) : R (List TLtr))) fun (l_ : List TLtr) => R.bind (forT (fun (x19 : TLtr) (s20 : (List TBnd)) =>
    (R.bind (R.bind (R.ok x19 : R TLtr) fun (x24 : TLtr) => T_letter_bounds x24) fun (x25 : (List TBnd)) => R.bind (catT s20 x25) fun (v_found_26 : (List TBnd)) =>
    (R.ok v_found_26 : R (List TBnd)))) l_ s10) fun (s22 : (List TBnd)) =>
  (R.bind (R.ok s22 : R (List TBnd)) fun (x27 : (List TBnd)) => (R.ok x27 : R (List TBnd)))))))
theorem T_bounds_ok (v_record : TRec) : F_bounds [en v_record] = encR (T_bounds v_record) := by
  unfold F_bounds
  refine d_1 ?_
  unfold M_bounds T_bounds
  refine j_drop (e_d1 (e_v (v_record : TRec) rfl) T_need_record_ok) (fun (x2 : Unit) => ?_)
  refine j_own (e_lst al_nil) (fun (v_found_3 : (List TBnd)) => ?_)
  refine j_for (E := (fun (s_ : (List TBnd)) (ρ_ : En) => ∃ j_2 : Slot, ∃ j_3 : Slot, ρ_ = [.fz (en (v_record : TRec)), .ow (en (s_ : (List TBnd))), j_2, j_3, .un])) (k_enumT (e_ix (e_w (v_record : TRec) rfl) i2_0)) ⟨_, _, rfl⟩ ?_ ?_
  · rintro x6 s7 _ ⟨j8, j9, rfl⟩
    refine ⟨_, rfl, ?_⟩
    refine j_last ?_
    refine j_ext (xs := s7) rfl (e_d2 (e_v (x6.a : Int) rfl) (e_v (x6.b : TClk) rfl) T_clock_bounds_ok) (fun (v_found_16 : (List TBnd)) => ?_)
    exact j_end_N ⟨_, _, rfl⟩
  · rintro s10 _ ⟨j11, j12, rfl⟩
    refine j_for (E := (fun (s_ : (List TBnd)) (ρ_ : En) => ∃ j_4 : Slot, ρ_ = [.fz (en (v_record : TRec)), .ow (en (s_ : (List TBnd))), j11, j12, j_4])) (k_seqT (e_ix (e_w (v_record : TRec) rfl) i2_1)) ⟨_, rfl⟩ ?_ ?_
    · rintro x19 s20 _ ⟨j21, rfl⟩
      refine ⟨_, rfl, ?_⟩
      refine j_last ?_
      refine j_ext (xs := s20) rfl (e_d1 (e_v (x19 : TLtr) rfl) T_letter_bounds_ok) (fun (v_found_26 : (List TBnd)) => ?_)
      exact j_end_N ⟨_, rfl⟩
    · rintro s22 _ ⟨j23, rfl⟩
      refine j_last ?_
      refine j_frz' rfl ?_
      exact j_retS iF_rt (e_v (s22 : (List TBnd)) rfl)
def T_law_bounds (v_record_here : TRec) : R (List TBnd) :=
  (R.bind (R.bind (itemsT ([] : List (R TBnd))) lstT) fun (v_found_1 : (List TBnd)) =>
  (R.bind (R.bind (R.bind (R.ok v_record_here : R TRec) fun (x2 : TRec) => (R.ok x2.a : R (Tup TClk))) fun (x3 : (Tup TClk)) => (R.ok (enumG 0 (Tup.l x3)) : R (List (P2 Int TClk)))) fun (l_ : List (P2 Int TClk)) => R.bind (forT (fun (x4 : (P2 Int TClk)) (s5 : (List TBnd)) =>
    (R.bind (R.bind (R.ok (1 : Int) : R Int) fun (x20 : Int) => R.bind (R.bind (R.ok x4.b.c : R (Tup Int)) fun (x19 : (Tup Int)) => (R.ok ((List.length (Tup.l x19) : Nat) : Int) : R Int)) fun (x21 : Int) => rng2T x20 x21) fun (l_ : List Int) => R.bind (forT (fun (x22 : Int) (s23 : (List TBnd)) =>
      (R.bind (R.bind (R.bind (R.ok x4.b.c : R (Tup Int)) fun (x29 : (Tup Int)) => R.bind (R.ok x22 : R Int) fun (x30 : Int) => (atT (Tup.l x29) x30 : R Int)) fun (x35 : Int) => R.bind (R.bind (R.ok x4.b.c : R (Tup Int)) fun (x33 : (Tup Int)) => R.bind (R.bind (R.ok x22 : R Int) fun (x31 : Int) => R.bind (R.ok (1 : Int) : R Int) fun (x32 : Int) => (R.ok (x31 - x32) : R Int)) fun (x34 : Int) => (atT (Tup.l x33) x34 : R Int)) fun (x36 : Int) => (R.ok (x35 - x36) : R Int)) fun (v_steps_37 : Int) =>
      (R.bind (R.bind (R.bind (R.ok x4.a : R Int) fun (x40 : Int) => R.bind (R.bind (R.ok x22 : R Int) fun (x38 : Int) => R.bind (R.ok (1 : Int) : R Int) fun (x39 : Int) => (R.ok (x38 - x39) : R Int)) fun (x41 : Int) => (R.ok (P2.mk x40 x41) : R TEv)) fun (x46 : TEv) => R.bind (R.bind (R.ok x4.a : R Int) fun (x42 : Int) => R.bind (R.ok x22 : R Int) fun (x43 : Int) => (R.ok (P2.mk x42 x43) : R TEv)) fun (x47 : TEv) => R.bind (R.bind (R.ok x4.b.b : R Int) fun (x44 : Int) => R.bind (R.ok v_steps_37 : R Int) fun (x45 : Int) => mulT x44 x45) fun (x48 : Int) => (R.ok (P3.mk x46 x47 x48) : R TBnd)) fun (x49 : TBnd) => R.bind (appT s23 x49) fun (v_found_50 : (List TBnd)) =>
      (R.bind (R.bind (R.bind (R.ok x4.a : R Int) fun (x51 : Int) => R.bind (R.ok x22 : R Int) fun (x52 : Int) => (R.ok (P2.mk x51 x52) : R TEv)) fun (x61 : TEv) => R.bind (R.bind (R.ok x4.a : R Int) fun (x55 : Int) => R.bind (R.bind (R.ok x22 : R Int) fun (x53 : Int) => R.bind (R.ok (1 : Int) : R Int) fun (x54 : Int) => (R.ok (x53 - x54) : R Int)) fun (x56 : Int) => (R.ok (P2.mk x55 x56) : R TEv)) fun (x62 : TEv) => R.bind (R.bind (R.ok (0 : Int) : R Int) fun (x59 : Int) => R.bind (R.bind (R.ok x4.b.a : R Int) fun (x57 : Int) => R.bind (R.ok v_steps_37 : R Int) fun (x58 : Int) => mulT x57 x58) fun (x60 : Int) => (R.ok (x59 - x60) : R Int)) fun (x63 : Int) => (R.ok (P3.mk x61 x62 x63) : R TBnd)) fun (x64 : TBnd) => R.bind (appT v_found_50 x64) fun (v_found_65 : (List TBnd)) =>
      (R.ok v_found_65 : R (List TBnd)))))) l_ s5) fun (s26 : (List TBnd)) =>
    (R.ok s26 : R (List TBnd)))) l_ v_found_1) fun (s12 : (List TBnd)) =>
  (R.bind (R.bind (R.bind (R.ok v_record_here : R TRec) fun (x66 : TRec) => (R.ok x66.b : R (Tup TLtr))) fun (x67 : (Tup TLtr)) => (R.ok (Tup.l x67) : R (List TLtr))) fun (l_ : List TLtr) => R.bind (forT (fun (x68 : TLtr) (s69 : (List TBnd)) =>
    (R.bind (R.bind (R.ok x68.b : R TEv) fun (x81 : TEv) => R.bind (R.ok x68.a : R TEv) fun (x82 : TEv) => R.bind (R.bind (R.ok (0 : Int) : R Int) fun (x79 : Int) => R.bind (R.ok x68.c : R Int) fun (x80 : Int) => (R.ok (x79 - x80) : R Int)) fun (x83 : Int) => (R.ok (P3.mk x81 x82 x83) : R TBnd)) fun (x84 : TBnd) => R.bind (appT s69 x84) fun (v_found_85 : (List TBnd)) =>
    (optK x68.d
      (R.ok v_found_85 : R (List TBnd))
    fun (w86 : Int) =>
      (R.bind (R.bind (R.ok x68.a : R TEv) fun (x87 : TEv) => R.bind (R.ok x68.b : R TEv) fun (x88 : TEv) => R.bind (R.ok w86 : R Int) fun (x89 : Int) => (R.ok (P3.mk x87 x88 x89) : R TBnd)) fun (x90 : TBnd) => R.bind (appT v_found_85 x90) fun (v_found_91 : (List TBnd)) =>
      (R.ok v_found_91 : R (List TBnd)))))) l_ s12) fun (s74 : (List TBnd)) =>
  (R.bind (R.ok s74 : R (List TBnd)) fun (x92 : (List TBnd)) => (R.ok x92 : R (List TBnd))))))
theorem T_law_bounds_ok (v_record_here : TRec) : F_law_bounds [en v_record_here] = encR (T_law_bounds v_record_here) := by
  unfold F_law_bounds
  refine d_1 ?_
  unfold M_law_bounds T_law_bounds
  refine j_own (e_lst al_nil) (fun (v_found_1 : (List TBnd)) => ?_)
  refine j_for (E := (fun (s_ : (List TBnd)) (ρ_ : En) => ∃ j_2 : Slot, ∃ j_3 : Slot, ∃ j_4 : Slot, ∃ j_5 : Slot, ∃ j_6 : Slot, ∃ j_7 : Slot, ρ_ = [.fz (en (v_record_here : TRec)), .ow (en (s_ : (List TBnd))), j_2, j_3, j_4, j_5, j_6, j_7, .un, .un, .un, .un])) (k_enumT (e_ix (e_w (v_record_here : TRec) rfl) i2_0)) ⟨_, _, _, _, _, _, rfl⟩ ?_ ?_
  · rintro x4 s5 _ ⟨j6, j7, j8, j9, j10, j11, rfl⟩
    refine ⟨_, rfl, ?_⟩
    refine j_last ?_
    refine j_for (E := (fun (s_ : (List TBnd)) (ρ_ : En) => ∃ j_6 : Slot, ∃ j_7 : Slot, ρ_ = [.fz (en (v_record_here : TRec)), .ow (en (s_ : (List TBnd))), .fz (en (x4.a : Int)), .fz (en (x4.b.a : Int)), .fz (en (x4.b.b : Int)), .fz (en (x4.b.c : (Tup Int))), j_6, j_7, .un, .un, .un, .un])) (k_rng2 (e_c ((1 : Int) : Int)) (e_call1 (e_w (x4.b.c : (Tup Int)) rfl) o_lenT)) ⟨_, _, rfl⟩ ?_ ?_
    · rintro x22 s23 _ ⟨j24, j25, rfl⟩
      refine ⟨_, rfl, ?_⟩
      refine j_asg (e_bin (e_bin (e_w (x4.b.c : (Tup Int)) rfl) (e_w (x22 : Int) rfl) o_atU) (e_bin (e_w (x4.b.c : (Tup Int)) rfl) (e_bin (e_w (x22 : Int) rfl) (e_c ((1 : Int) : Int)) o_sub) o_atU) o_sub) (fun (v_steps_37 : Int) => ?_)
      refine j_app (xs := s23) rfl (e_p3 (e_p2 (e_v (x4.a : Int) rfl) (e_bin (e_w (x22 : Int) rfl) (e_c ((1 : Int) : Int)) o_sub)) (e_p2 (e_v (x4.a : Int) rfl) (e_v (x22 : Int) rfl)) (e_bin (e_w (x4.b.b : Int) rfl) (e_w (v_steps_37 : Int) rfl) o_mul)) (fun (v_found_50 : (List TBnd)) => ?_)
      refine j_last ?_
      refine j_app (xs := v_found_50) rfl (e_p3 (e_p2 (e_v (x4.a : Int) rfl) (e_v (x22 : Int) rfl)) (e_p2 (e_v (x4.a : Int) rfl) (e_bin (e_w (x22 : Int) rfl) (e_c ((1 : Int) : Int)) o_sub)) (e_bin (e_c ((0 : Int) : Int)) (e_bin (e_w (x4.b.a : Int) rfl) (e_w (v_steps_37 : Int) rfl) o_mul) o_sub)) (fun (v_found_65 : (List TBnd)) => ?_)
      exact j_end_N ⟨_, _, rfl⟩
    · rintro s26 _ ⟨j27, j28, rfl⟩
      exact j_end_N ⟨_, _, _, _, _, _, rfl⟩
  · rintro s12 _ ⟨j13, j14, j15, j16, j17, j18, rfl⟩
    refine j_for (E := (fun (s_ : (List TBnd)) (ρ_ : En) => ∃ j_8 : Slot, ∃ j_9 : Slot, ∃ j_10 : Slot, ∃ j_11 : Slot, ρ_ = [.fz (en (v_record_here : TRec)), .ow (en (s_ : (List TBnd))), j13, j14, j15, j16, j17, j18, j_8, j_9, j_10, j_11])) (k_seqT (e_ix (e_w (v_record_here : TRec) rfl) i2_1)) ⟨_, _, _, _, rfl⟩ ?_ ?_
    · rintro x68 s69 _ ⟨j70, j71, j72, j73, rfl⟩
      refine ⟨_, rfl, ?_⟩
      refine j_app (xs := s69) rfl (e_p3 (e_v (x68.b : TEv) rfl) (e_v (x68.a : TEv) rfl) (e_bin (e_c ((0 : Int) : Int)) (e_w (x68.c : Int) rfl) o_sub)) (fun (v_found_85 : (List TBnd)) => ?_)
      refine j_last ?_
      refine j_ifS (x68.d : (Option Int)) rfl ?_ ?_
      · intro w86
        refine j_app (xs := v_found_85) rfl (e_p3 (e_v (x68.a : TEv) rfl) (e_v (x68.b : TEv) rfl) (e_v (w86 : Int) rfl)) (fun (v_found_91 : (List TBnd)) => ?_)
        exact j_end_N ⟨_, _, _, _, rfl⟩
      · skip
        refine j_next ?_
        exact j_end_N ⟨_, _, _, _, rfl⟩
    · rintro s74 _ ⟨j75, j76, j77, j78, rfl⟩
      refine j_last ?_
      refine j_frz' rfl ?_
      exact j_retS iF_rt (e_v (s74 : (List TBnd)) rfl)
end
end Fc
set_option Elab.async false
set_option linter.all false
set_option maxRecDepth 100000
set_option maxHeartbeats 2000000
namespace Fc
open PySem L2 Evl PySem.Spec PyProof.Rows
/-! ### functions of any thing that answer True or False -/
def IsB (r : R D) : Prop := ∀ d, r = .ok d → ∃ b, d = .bool b
theorem toB_of {r : R D} (h : IsB r) : r = encR (toB r) := by
  cases r with
  | ok d => obtain ⟨b, rfl⟩ := h d rfl; rfl
  | er c => rfl
  | bad => rfl
theorem isB_bind {r : R D} {f : D → R D} (h : ∀ d, IsB (f d)) : IsB (r.bind f) := by
  intro d e
  cases r with
  | ok x => exact h x d e
  | er c => cases e
  | bad => cases e
theorem isB_eq (a b : D) : IsB (dEq a b) := by
  intro d e
  unfold dEq at e
  split at e
  · cases e; exact ⟨_, rfl⟩
  · cases e
theorem isB_boolK {d : D} {a b : R D} (ha : IsB a) (hb : IsB b) : IsB (boolK d a b .bad) := by
  intro x e
  unfold boolK at e
  split at e
  · exact ha x e
  · exact hb x e
  · cases e
theorem is_worldB (X x : D) : IsB (F_is_world [X, x]) := by
  have h : IsB ((F_are_times [X, x]).bind fun d => boolK d ((F_broken [X, x]).bind fun x => dEq x (PyData.list [])) (R.ok (PyData.bool false)) R.bad) :=
    isB_bind fun d => isB_boolK (isB_bind fun e => isB_eq _ _) (fun d e => by cases e; exact ⟨_, rfl⟩)
  unfold F_is_world M_is_world
  simp [runF_2]
  generalize ((F_are_times [X, x]).bind fun d => boolK d ((F_broken [X, x]).bind fun x => dEq x (PyData.list [])) (R.ok (PyData.bool false)) R.bad) = r at *
  cases r with
  | ok d => exact h
  | er c => exact h
  | bad => exact h
def T_is_world (r : TRec) (x : D) : R Bool := toB (F_is_world [en r, x])
theorem T_is_world_ok (r : TRec) (x : D) : F_is_world [en r, en x] = encR (T_is_world r x) := toB_of (is_worldB _ _)
end Fc
set_option Elab.async false
set_option linter.all false
set_option maxRecDepth 100000
set_option maxHeartbeats 4000000
namespace Fc
open PySem L2 Evl PySem.Spec PyProof.Rows
noncomputable section
def T_by_events (v_record : TRec) (v_times : (Tup Int)) : R (Dct TEv Int) :=
  (R.bind (R.bind (R.bind (R.ok v_record : R TRec) fun (x1 : TRec) => T_events x1) fun (x2 : (List TEv)) => R.bind (R.ok v_times : R (Tup Int)) fun (x3 : (Tup Int)) => (dictZipT x2 (Tup.l x3) : R (Dct TEv Int))) fun (x4 : (Dct TEv Int)) => (R.ok x4 : R (Dct TEv Int)))
theorem T_by_events_ok (v_record : TRec) (v_times : (Tup Int)) : F_by_events [en v_record, en v_times] = encR (T_by_events v_record v_times) := by
  unfold F_by_events
  refine d_2 ?_
  unfold M_by_events T_by_events
  refine j_last ?_
  exact j_retS iF_rt (e_bin (e_d1 (e_v (v_record : TRec) rfl) T_events_ok) (e_v (v_times : (Tup Int)) rfl) o_dzLU)
def T_is_broken (v_bound : TBnd) (v_times : (Dct TEv Int)) : R Bool :=
  (R.bind (R.ok v_bound : R TBnd) fun (z1 : TBnd) =>
  (R.bind (R.bind (R.bind (R.bind (R.ok v_times : R (Dct TEv Int)) fun (x2 : (Dct TEv Int)) => R.bind (R.ok z1.b : R TEv) fun (x3 : TEv) => (lkT x2 x3 : R Int)) fun (x6 : Int) => R.bind (R.bind (R.ok v_times : R (Dct TEv Int)) fun (x4 : (Dct TEv Int)) => R.bind (R.ok z1.a : R TEv) fun (x5 : TEv) => (lkT x4 x5 : R Int)) fun (x7 : Int) => (R.ok (x6 - x7) : R Int)) fun (x8 : Int) => R.bind (R.ok z1.c : R Int) fun (x9 : Int) => (R.ok (decide (x9 < x8)) : R Bool)) fun (x10 : Bool) => (R.ok x10 : R Bool)))
theorem T_is_broken_ok (v_bound : TBnd) (v_times : (Dct TEv Int)) : F_is_broken [en v_bound, en v_times] = encR (T_is_broken v_bound v_times) := by
  unfold F_is_broken
  refine d_2 ?_
  unfold M_is_broken T_is_broken
  refine j_asgG (e_v (v_bound : TBnd) rfl) (fun _ => rfl) (fun (z1 : TBnd) => ?_)
  refine j_last ?_
  exact j_retS iF_rt (e_bin (e_bin (e_bin (e_w (v_times : (Dct TEv Int)) rfl) (e_w (z1.b : TEv) rfl) o_lk) (e_bin (e_w (v_times : (Dct TEv Int)) rfl) (e_w (z1.a : TEv) rfl) o_lk) o_sub) (e_w (z1.c : Int) rfl) o_gt)
def T_broken (v_record : TRec) (v_times : (Tup Int)) : R (List Int) :=
  (R.bind (R.bind (R.ok v_record : R TRec) fun (x1 : TRec) => R.bind (R.ok v_times : R (Tup Int)) fun (x2 : (Tup Int)) => T_by_events x1 x2) fun (v_where_3 : (Dct TEv Int)) =>
  (R.bind (R.bind (R.bind (R.bind (R.ok v_record : R TRec) fun (x4 : TRec) => T_bounds x4) fun (x5 : (List TBnd)) => (R.ok (enumG 0 x5) : R (List (P2 Int TBnd)))) fun (l_ : List (P2 Int TBnd)) => lcT (fun (y6 : (P2 Int TBnd)) => (R.bind (R.ok y6.b : R TBnd) fun (x7 : TBnd) => R.bind (R.ok v_where_3 : R (Dct TEv Int)) fun (x8 : (Dct TEv Int)) => T_is_broken x7 x8)) (fun (y6 : (P2 Int TBnd)) => (R.ok y6.a : R Int)) l_) fun (x9 : (List Int)) => (R.ok x9 : R (List Int))))
theorem T_broken_ok (v_record : TRec) (v_times : (Tup Int)) : F_broken [en v_record, en v_times] = encR (T_broken v_record v_times) := by
  unfold F_broken
  refine d_2 ?_
  unfold M_broken T_broken
  refine j_asg (e_d2 (e_v (v_record : TRec) rfl) (e_v (v_times : (Tup Int)) rfl) T_by_events_ok) (fun (v_where_3 : (Dct TEv Int)) => ?_)
  refine j_last ?_
  exact j_retS iF_rt (e_lc (k_enumL (e_d1 (e_v (v_record : TRec) rfl) T_bounds_ok)) (fun (y6 : (P2 Int TBnd)) => ⟨_, rfl, (e_d2 (e_v (y6.b : TBnd) rfl) (e_v (v_where_3 : (Dct TEv Int)) rfl) T_is_broken_ok), (e_v (y6.a : Int) rfl)⟩))
def T_law_table (v_places : (List TEv)) (v_row : (List TBnd)) : R (Option (Dct TEv (Dct TEv (Option Int)))) :=
  (R.bind (R.ok v_places : R (List TEv)) fun (l_ : List TEv) => R.bind (tabT (fun (y1 : TEv) => (R.ok y1 : R TEv)) (fun (y1 : TEv) => (R.bind (R.bind (R.ok v_places : R (List TEv)) fun (l_ : List TEv) => lcT (fun (y5 : TEv) => (R.ok true : R Bool)) (fun (y5 : TEv) => (R.bind (R.ok y5 : R TEv) fun (x6 : TEv) => R.bind (R.ok none : R (Option Int)) fun (x7 : (Option Int)) => (R.ok (P2.mk x6 x7) : R (P2 TEv (Option Int))))) l_) fun (x8 : (List (P2 TEv (Option Int)))) => (dictT x8 : R (Dct TEv (Option Int))))) l_) fun (v_far_9 : (Dct TEv (Dct TEv (Option Int)))) =>
  (R.bind (R.ok v_places : R (List TEv)) fun (l_ : List TEv) => R.bind (forT (fun (x10 : TEv) (s11 : (Dct TEv (Dct TEv (Option Int)))) =>
    (R.bind (R.bind (R.ok (0 : Int) : R Int) fun (x15 : Int) => (R.ok (some x15) : R (Option Int))) fun (x18 : (Option Int)) => R.bind (R.ok x10 : R TEv) fun (x16 : TEv) => R.bind (lkT s11 x16) fun (x19 : (Dct TEv (Option Int))) => R.bind (R.ok x10 : R TEv) fun (x17 : TEv) => R.bind (put2T s11 x16 x19 x17 x18) fun (v_far_20 : (Dct TEv (Dct TEv (Option Int)))) =>
    (R.ok v_far_20 : R (Dct TEv (Dct TEv (Option Int)))))) l_ v_far_9) fun (s13 : (Dct TEv (Dct TEv (Option Int)))) =>
  (R.bind (R.ok v_row : R (List TBnd)) fun (l_ : List TBnd) => R.bind (forT (fun (x21 : TBnd) (s22 : (Dct TEv (Dct TEv (Option Int)))) =>
    (R.bind (orR (R.bind (R.bind (R.ok x21.a : R TEv) fun (x30 : TEv) => R.bind (lkT s22 x30) fun (x32 : (Dct TEv (Option Int))) => R.bind (R.ok x21.b : R TEv) fun (x31 : TEv) => (lkT x32 x31 : R (Option Int))) fun (x33 : (Option Int)) => (R.ok (Option.isNone x33) : R Bool)) (R.bind (R.ok x21.c : R Int) fun (x37 : Int) => R.bind (R.bind (R.ok x21.a : R TEv) fun (x34 : TEv) => R.bind (lkT s22 x34) fun (x36 : (Dct TEv (Option Int))) => R.bind (R.ok x21.b : R TEv) fun (x35 : TEv) => (lkT x36 x35 : R (Option Int))) fun (x38 : (Option Int)) => (R.bind (unO x38) fun (x39 : Int) => (R.ok (decide (x37 < x39)) : R Bool)))) fun (x46 : Bool) => if x46 = true then
      (R.bind (R.bind (R.ok x21.c : R Int) fun (x40 : Int) => (R.ok (some x40) : R (Option Int))) fun (x43 : (Option Int)) => R.bind (R.ok x21.a : R TEv) fun (x41 : TEv) => R.bind (lkT s22 x41) fun (x44 : (Dct TEv (Option Int))) => R.bind (R.ok x21.b : R TEv) fun (x42 : TEv) => R.bind (put2T s22 x41 x44 x42 x43) fun (v_far_45 : (Dct TEv (Dct TEv (Option Int)))) =>
      (R.ok v_far_45 : R (Dct TEv (Dct TEv (Option Int)))))
    else
      (R.ok s22 : R (Dct TEv (Dct TEv (Option Int)))))) l_ s13) fun (s26 : (Dct TEv (Dct TEv (Option Int)))) =>
  (R.bind (R.ok v_places : R (List TEv)) fun (l_ : List TEv) => R.bind (forT (fun (x47 : TEv) (s48 : (Dct TEv (Dct TEv (Option Int)))) =>
    (R.bind (R.ok v_places : R (List TEv)) fun (l_ : List TEv) => R.bind (forT (fun (x58 : TEv) (s59 : (Dct TEv (Dct TEv (Option Int)))) =>
      (R.bind (R.ok v_places : R (List TEv)) fun (l_ : List TEv) => R.bind (forT (fun (x67 : TEv) (s68 : (Dct TEv (Dct TEv (Option Int)))) =>
        (R.bind (andR (R.bind (R.bind (R.ok x58 : R TEv) fun (x74 : TEv) => R.bind (lkT s68 x74) fun (x76 : (Dct TEv (Option Int))) => R.bind (R.ok x47 : R TEv) fun (x75 : TEv) => (lkT x76 x75 : R (Option Int))) fun (x77 : (Option Int)) => (R.ok (Option.isSome x77) : R Bool)) (R.bind (R.bind (R.ok x47 : R TEv) fun (x78 : TEv) => R.bind (lkT s68 x78) fun (x80 : (Dct TEv (Option Int))) => R.bind (R.ok x67 : R TEv) fun (x79 : TEv) => (lkT x80 x79 : R (Option Int))) fun (x81 : (Option Int)) => (R.ok (Option.isSome x81) : R Bool))) fun (x110 : Bool) => if x110 = true then
          (R.bind (R.bind (R.bind (R.ok x58 : R TEv) fun (x82 : TEv) => R.bind (lkT s68 x82) fun (x84 : (Dct TEv (Option Int))) => R.bind (R.ok x47 : R TEv) fun (x83 : TEv) => (lkT x84 x83 : R (Option Int))) fun (x88 : (Option Int)) => R.bind (R.bind (R.ok x47 : R TEv) fun (x85 : TEv) => R.bind (lkT s68 x85) fun (x87 : (Dct TEv (Option Int))) => R.bind (R.ok x67 : R TEv) fun (x86 : TEv) => (lkT x87 x86 : R (Option Int))) fun (x89 : (Option Int)) => (R.bind (unO x88) fun (x90 : Int) => (R.bind (unO x89) fun (x91 : Int) => (R.ok (x90 + x91) : R Int)))) fun (v_whole_92 : Int) =>
          (R.bind (orR (R.bind (R.bind (R.ok x58 : R TEv) fun (x93 : TEv) => R.bind (lkT s68 x93) fun (x95 : (Dct TEv (Option Int))) => R.bind (R.ok x67 : R TEv) fun (x94 : TEv) => (lkT x95 x94 : R (Option Int))) fun (x96 : (Option Int)) => (R.ok (Option.isNone x96) : R Bool)) (R.bind (R.ok v_whole_92 : R Int) fun (x100 : Int) => R.bind (R.bind (R.ok x58 : R TEv) fun (x97 : TEv) => R.bind (lkT s68 x97) fun (x99 : (Dct TEv (Option Int))) => R.bind (R.ok x67 : R TEv) fun (x98 : TEv) => (lkT x99 x98 : R (Option Int))) fun (x101 : (Option Int)) => (R.bind (unO x101) fun (x102 : Int) => (R.ok (decide (x100 < x102)) : R Bool)))) fun (x109 : Bool) => if x109 = true then
            (R.bind (R.bind (R.ok v_whole_92 : R Int) fun (x103 : Int) => (R.ok (some x103) : R (Option Int))) fun (x106 : (Option Int)) => R.bind (R.ok x58 : R TEv) fun (x104 : TEv) => R.bind (lkT s68 x104) fun (x107 : (Dct TEv (Option Int))) => R.bind (R.ok x67 : R TEv) fun (x105 : TEv) => R.bind (put2T s68 x104 x107 x105 x106) fun (v_far_108 : (Dct TEv (Dct TEv (Option Int)))) =>
            (R.ok v_far_108 : R (Dct TEv (Dct TEv (Option Int)))))
          else
            (R.ok s68 : R (Dct TEv (Dct TEv (Option Int))))))
        else
          (R.ok s68 : R (Dct TEv (Dct TEv (Option Int)))))) l_ s59) fun (s71 : (Dct TEv (Dct TEv (Option Int)))) =>
      (R.ok s71 : R (Dct TEv (Dct TEv (Option Int)))))) l_ s48) fun (s63 : (Dct TEv (Dct TEv (Option Int)))) =>
    (R.ok s63 : R (Dct TEv (Dct TEv (Option Int)))))) l_ s26) fun (s53 : (Dct TEv (Dct TEv (Option Int)))) =>
  (R.bind (iteR (R.bind (R.bind (R.ok v_places : R (List TEv)) fun (l_ : List TEv) => lcT (fun (y111 : TEv) => (R.bind (R.bind (R.ok y111 : R TEv) fun (x112 : TEv) => R.bind (lkT s53 x112) fun (x114 : (Dct TEv (Option Int))) => R.bind (R.ok y111 : R TEv) fun (x113 : TEv) => (lkT x114 x113 : R (Option Int))) fun (x115 : (Option Int)) => R.bind (R.ok (0 : Int) : R Int) fun (x116 : Int) => (R.bind (unO x115) fun (x117 : Int) => (R.ok (decide (x117 < x116)) : R Bool)))) (fun (y111 : TEv) => (R.ok y111 : R TEv)) l_) fun (x118 : (List TEv)) => R.bind (R.bind (itemsT ([] : List (R TEv))) lstT) fun (x119 : (List TEv)) => (R.ok (decide (x118 = x119)) : R Bool)) (R.bind (R.ok s53 : R (Dct TEv (Dct TEv (Option Int)))) fun (x120 : (Dct TEv (Dct TEv (Option Int)))) => (R.ok (some x120) : R (Option (Dct TEv (Dct TEv (Option Int)))))) (R.ok none : R (Option (Dct TEv (Dct TEv (Option Int)))))) fun (x121 : (Option (Dct TEv (Dct TEv (Option Int))))) => (R.ok x121 : R (Option (Dct TEv (Dct TEv (Option Int))))))))))
theorem T_law_table_ok (v_places : (List TEv)) (v_row : (List TBnd)) : F_law_table [en v_places, en v_row] = encR (T_law_table v_places v_row) := by
  unfold F_law_table
  refine d_2 ?_
  unfold M_law_table T_law_table
  refine j_tab (k_seqL (e_v (v_places : (List TEv)) rfl)) rfl (fun (y1 : TEv) => ⟨_, rfl, (e_v (y1 : TEv) rfl), (e_un (e_lc (k_seqL (e_v (v_places : (List TEv)) rfl)) (fun (y5 : TEv) => ⟨_, rfl, t_yes, (e_p2 (e_v (y5 : TEv) rfl) (e_none (e_c (() : Unit))))⟩)) o_dictOf)⟩) (fun (v_far_9 : (Dct TEv (Dct TEv (Option Int)))) => ?_)
  refine j_for (E := (fun (s_ : (Dct TEv (Dct TEv (Option Int)))) (ρ_ : En) => ∃ j_3 : Slot, ρ_ = [.fz (en (v_places : (List TEv))), .fz (en (v_row : (List TBnd))), .ot (en (s_ : (Dct TEv (Dct TEv (Option Int))))), j_3, .un, .un, .un, .un])) (k_seqL (e_v (v_places : (List TEv)) rfl)) ⟨_, rfl⟩ ?_ ?_
  · rintro x10 s11 _ ⟨j12, rfl⟩
    refine ⟨_, rfl, ?_⟩
    refine j_last ?_
    refine j_put2 (ds := s11) rfl (e_w (x10 : TEv) rfl) (e_w (x10 : TEv) rfl) (e_some (e_c ((0 : Int) : Int))) (fun (v_far_20 : (Dct TEv (Dct TEv (Option Int)))) => ?_)
    exact j_end_N ⟨_, rfl⟩
  · rintro s13 _ ⟨j14, rfl⟩
    refine j_for (E := (fun (s_ : (Dct TEv (Dct TEv (Option Int)))) (ρ_ : En) => ∃ j_3 : Slot, ∃ j_4 : Slot, ∃ j_5 : Slot, ρ_ = [.fz (en (v_places : (List TEv))), .fz (en (v_row : (List TBnd))), .ot (en (s_ : (Dct TEv (Dct TEv (Option Int))))), j_3, j_4, j_5, .un, .un])) (k_seqL (e_v (v_row : (List TBnd)) rfl)) ⟨_, _, _, rfl⟩ ?_ ?_
    · rintro x21 s22 _ ⟨j23, j24, j25, rfl⟩
      refine ⟨_, rfl, ?_⟩
      refine j_last ?_
      refine j_if (e_or (e_un (e_t2 s22 rfl (e_w (x21.a : TEv) rfl) (e_w (x21.b : TEv) rfl)) o_isN) (e_bin (e_w (x21.c : Int) rfl) (e_t2 s22 rfl (e_w (x21.a : TEv) rfl) (e_w (x21.b : TEv) rfl)) (o_unO2r o_lt (fun _ => rfl)))) ?_ ?_
      · skip
        refine j_put2 (ds := s22) rfl (e_w (x21.a : TEv) rfl) (e_w (x21.b : TEv) rfl) (e_some (e_v (x21.c : Int) rfl)) (fun (v_far_45 : (Dct TEv (Dct TEv (Option Int)))) => ?_)
        exact j_end_N ⟨_, _, _, rfl⟩
      · skip
        refine j_next ?_
        exact j_end_N ⟨_, _, _, rfl⟩
    · rintro s26 _ ⟨j27, j28, j29, rfl⟩
      refine j_for (E := (fun (s_ : (Dct TEv (Dct TEv (Option Int)))) (ρ_ : En) => ∃ j_3 : Slot, ∃ j_4 : Slot, ∃ j_6 : Slot, ∃ j_7 : Slot, ρ_ = [.fz (en (v_places : (List TEv))), .fz (en (v_row : (List TBnd))), .ot (en (s_ : (Dct TEv (Dct TEv (Option Int))))), j_3, j_4, j29, j_6, j_7])) (k_seqL (e_v (v_places : (List TEv)) rfl)) ⟨_, _, _, _, rfl⟩ ?_ ?_
      · rintro x47 s48 _ ⟨j49, j50, j51, j52, rfl⟩
        refine ⟨_, rfl, ?_⟩
        refine j_last ?_
        refine j_for (E := (fun (s_ : (Dct TEv (Dct TEv (Option Int)))) (ρ_ : En) => ∃ j_3 : Slot, ∃ j_4 : Slot, ∃ j_7 : Slot, ρ_ = [.fz (en (v_places : (List TEv))), .fz (en (v_row : (List TBnd))), .ot (en (s_ : (Dct TEv (Dct TEv (Option Int))))), j_3, j_4, j29, .fz (en (x47 : TEv)), j_7])) (k_seqL (e_v (v_places : (List TEv)) rfl)) ⟨_, _, _, rfl⟩ ?_ ?_
        · rintro x58 s59 _ ⟨j60, j61, j62, rfl⟩
          refine ⟨_, rfl, ?_⟩
          refine j_last ?_
          refine j_for (E := (fun (s_ : (Dct TEv (Dct TEv (Option Int)))) (ρ_ : En) => ∃ j_4 : Slot, ∃ j_7 : Slot, ρ_ = [.fz (en (v_places : (List TEv))), .fz (en (v_row : (List TBnd))), .ot (en (s_ : (Dct TEv (Dct TEv (Option Int))))), .fz (en (x58 : TEv)), j_4, j29, .fz (en (x47 : TEv)), j_7])) (k_seqL (e_v (v_places : (List TEv)) rfl)) ⟨_, _, rfl⟩ ?_ ?_
          · rintro x67 s68 _ ⟨j69, j70, rfl⟩
            refine ⟨_, rfl, ?_⟩
            refine j_last ?_
            refine j_if (e_and (e_un (e_t2 s68 rfl (e_w (x58 : TEv) rfl) (e_w (x47 : TEv) rfl)) o_notN) (e_un (e_t2 s68 rfl (e_w (x47 : TEv) rfl) (e_w (x67 : TEv) rfl)) o_notN)) ?_ ?_
            · skip
              refine j_assoc ?_
              refine j_asg (e_bin (e_t2 s68 rfl (e_w (x58 : TEv) rfl) (e_w (x47 : TEv) rfl)) (e_t2 s68 rfl (e_w (x47 : TEv) rfl) (e_w (x67 : TEv) rfl)) (o_unO2 (o_unO2r o_add (fun _ => rfl)) (fun _ => rfl))) (fun (v_whole_92 : Int) => ?_)
              refine j_if (e_or (e_un (e_t2 s68 rfl (e_w (x58 : TEv) rfl) (e_w (x67 : TEv) rfl)) o_isN) (e_bin (e_w (v_whole_92 : Int) rfl) (e_t2 s68 rfl (e_w (x58 : TEv) rfl) (e_w (x67 : TEv) rfl)) (o_unO2r o_lt (fun _ => rfl)))) ?_ ?_
              · skip
                refine j_put2 (ds := s68) rfl (e_w (x58 : TEv) rfl) (e_w (x67 : TEv) rfl) (e_some (e_v (v_whole_92 : Int) rfl)) (fun (v_far_108 : (Dct TEv (Dct TEv (Option Int)))) => ?_)
                exact j_end_N ⟨_, _, rfl⟩
              · skip
                refine j_next ?_
                exact j_end_N ⟨_, _, rfl⟩
            · skip
              refine j_next ?_
              exact j_end_N ⟨_, _, rfl⟩
          · rintro s71 _ ⟨j72, j73, rfl⟩
            exact j_end_N ⟨_, _, _, rfl⟩
        · rintro s63 _ ⟨j64, j65, j66, rfl⟩
          exact j_end_N ⟨_, _, _, _, rfl⟩
      · rintro s53 _ ⟨j54, j55, j56, j57, rfl⟩
        refine j_last ?_
        refine j_frz' rfl ?_
        exact j_retS iF_rt (e_if (e_bin (e_lc (k_seqL (e_v (v_places : (List TEv)) rfl)) (fun (y111 : TEv) => ⟨_, rfl, (e_bin (e_t2f s53 rfl (e_w (y111 : TEv) rfl) (e_w (y111 : TEv) rfl)) (e_c ((0 : Int) : Int)) (o_unO2 o_lt (fun _ => rfl))), (e_v (y111 : TEv) rfl)⟩)) (e_lst al_nil) (o_eq (by decide))) (e_some (e_v (s53 : (Dct TEv (Dct TEv (Option Int)))) rfl)) (e_none (e_c (() : Unit))))
def T_law_world (v_record_here : TRec) (v_table_here : (Option (Dct TEv (Dct TEv (Option Int))))) (v_places : (List TEv)) : R (Option (Tup Int)) :=
  (optK v_table_here
    (R.bind (R.ok none : R (Option (Tup Int))) fun (x2 : (Option (Tup Int))) => (R.ok x2 : R (Option (Tup Int))))
  fun (w1 : (Dct TEv (Dct TEv (Option Int)))) =>
    (R.bind (R.bind (itemsT ([] : List (R Int))) lstT) fun (v_found_3 : (List Int)) =>
    (R.bind (R.ok v_places : R (List TEv)) fun (l_ : List TEv) => R.bind (forT (fun (x4 : TEv) (s5 : (List Int)) =>
      (R.bind (R.bind (R.bind (R.bind (itemsT ([(R.bind (R.ok (0 : Int) : R Int) fun (x9 : Int) => (R.ok (some x9) : R (Option Int)))] : List (R (Option Int)))) lstT) fun (x20 : (List (Option Int))) => R.bind (R.bind (R.ok v_places : R (List TEv)) fun (l_ : List TEv) => lcT (fun (y10 : TEv) => (R.bind (R.bind (R.bind (R.ok w1 : R (Dct TEv (Dct TEv (Option Int)))) fun (x11 : (Dct TEv (Dct TEv (Option Int)))) => R.bind (R.ok y10 : R TEv) fun (x12 : TEv) => (lkT x11 x12 : R (Dct TEv (Option Int)))) fun (x13 : (Dct TEv (Option Int))) => R.bind (R.ok x4 : R TEv) fun (x14 : TEv) => (lkT x13 x14 : R (Option Int))) fun (x15 : (Option Int)) => (R.ok (Option.isSome x15) : R Bool))) (fun (y10 : TEv) => (R.bind (R.bind (R.ok w1 : R (Dct TEv (Dct TEv (Option Int)))) fun (x16 : (Dct TEv (Dct TEv (Option Int)))) => R.bind (R.ok y10 : R TEv) fun (x17 : TEv) => (lkT x16 x17 : R (Dct TEv (Option Int)))) fun (x18 : (Dct TEv (Option Int))) => R.bind (R.ok x4 : R TEv) fun (x19 : TEv) => (lkT x18 x19 : R (Option Int)))) l_) fun (x21 : (List (Option Int))) => catT x20 x21) fun (x22 : (List (Option Int))) => minOT x22) fun (x23 : Int) => R.bind (appT s5 x23) fun (v_found_24 : (List Int)) =>
      (R.ok v_found_24 : R (List Int)))) l_ v_found_3) fun (s7 : (List Int)) =>
    (R.bind (R.bind (R.bind (R.ok s7 : R (List Int)) fun (x25 : (List Int)) => (R.ok (Tup.mk x25) : R (Tup Int))) fun (x26 : (Tup Int)) => (R.ok (some x26) : R (Option (Tup Int)))) fun (x27 : (Option (Tup Int))) => (R.ok x27 : R (Option (Tup Int)))))))
theorem T_law_world_ok (v_record_here : TRec) (v_table_here : (Option (Dct TEv (Dct TEv (Option Int))))) (v_places : (List TEv)) : F_law_world [en v_record_here, en v_table_here, en v_places] = encR (T_law_world v_record_here v_table_here v_places) := by
  unfold F_law_world
  refine d_3 ?_
  unfold M_law_world T_law_world
  refine j_ifN (v_table_here : (Option (Dct TEv (Dct TEv (Option Int))))) rfl ?_ ?_
  · skip
    exact j_retS iF_rt (e_none (e_c (() : Unit)))
  · intro w1
    refine j_next ?_
    refine j_own (e_lst al_nil) (fun (v_found_3 : (List Int)) => ?_)
    refine j_for (E := (fun (s_ : (List Int)) (ρ_ : En) => ∃ j_4 : Slot, ρ_ = [.fz (en (v_record_here : TRec)), .fz (en (w1 : (Dct TEv (Dct TEv (Option Int))))), .fz (en (v_places : (List TEv))), .ow (en (s_ : (List Int))), j_4, .un])) (k_seqL (e_v (v_places : (List TEv)) rfl)) ⟨_, rfl⟩ ?_ ?_
    · rintro x4 s5 _ ⟨j6, rfl⟩
      refine ⟨_, rfl, ?_⟩
      refine j_last ?_
      refine j_app (xs := s5) rfl (e_call1 (e_bin (e_lst (al_cons (e_some (e_c ((0 : Int) : Int))) al_nil)) (e_lc (k_seqL (e_v (v_places : (List TEv)) rfl)) (fun (y10 : TEv) => ⟨_, rfl, (e_un (e_bin (e_bin (e_w (w1 : (Dct TEv (Dct TEv (Option Int)))) rfl) (e_w (y10 : TEv) rfl) o_lk) (e_w (x4 : TEv) rfl) o_lk) o_notN), (e_bin (e_bin (e_w (w1 : (Dct TEv (Dct TEv (Option Int)))) rfl) (e_w (y10 : TEv) rfl) o_lk) (e_w (x4 : TEv) rfl) o_lk)⟩)) o_addL) o_minOU) (fun (v_found_24 : (List Int)) => ?_)
      exact j_end_N ⟨_, rfl⟩
    · rintro s7 _ ⟨j8, rfl⟩
      refine j_last ?_
      exact j_retS iF_rt (e_some (e_call1 (e_o (s7 : (List Int)) rfl) o_tupL))
def T_law_drawn_world (v_script : Scr) (v_at : Int) (v_places : (List TEv)) (v_row : (List TBnd)) (v_table_here : (Dct TEv (Dct TEv (Option Int)))) : R (Tup Int) :=
  (R.bind (R.ok (Dct.mk []) : R (Dct TEv Int)) fun (v_times_1 : (Dct TEv Int)) =>
  (R.bind (R.bind (R.ok v_places : R (List TEv)) fun (x2 : (List TEv)) => (R.ok (enumG 0 x2) : R (List (P2 Int TEv)))) fun (l_ : List (P2 Int TEv)) => R.bind (forT (fun (x3 : (P2 Int TEv)) (s4 : (Dct TEv Int)) =>
    (R.bind (lcKT (fun (y18 : TEv) => (R.bind (R.bind (R.bind (R.ok v_table_here : R (Dct TEv (Dct TEv (Option Int)))) fun (x19 : (Dct TEv (Dct TEv (Option Int)))) => R.bind (R.ok y18 : R TEv) fun (x20 : TEv) => (lkT x19 x20 : R (Dct TEv (Option Int)))) fun (x21 : (Dct TEv (Option Int))) => R.bind (R.ok x3.b : R TEv) fun (x22 : TEv) => (lkT x21 x22 : R (Option Int))) fun (x23 : (Option Int)) => (R.ok (Option.isSome x23) : R Bool))) (fun (y18 : TEv) => (R.bind (R.bind (R.ok s4 : R (Dct TEv Int)) fun (x24 : (Dct TEv Int)) => R.bind (R.ok y18 : R TEv) fun (x25 : TEv) => (lkT x24 x25 : R Int)) fun (x30 : Int) => R.bind (R.bind (R.bind (R.ok v_table_here : R (Dct TEv (Dct TEv (Option Int)))) fun (x26 : (Dct TEv (Dct TEv (Option Int)))) => R.bind (R.ok y18 : R TEv) fun (x27 : TEv) => (lkT x26 x27 : R (Dct TEv (Option Int)))) fun (x28 : (Dct TEv (Option Int))) => R.bind (R.ok x3.b : R TEv) fun (x29 : TEv) => (lkT x28 x29 : R (Option Int))) fun (x31 : (Option Int)) => (R.bind (unO x31) fun (x32 : Int) => (R.ok (x30 + x32) : R Int)))) s4) fun (v_highs_33 : (List Int)) =>
    (R.bind (lcKT (fun (y34 : TEv) => (R.bind (R.bind (R.bind (R.ok v_table_here : R (Dct TEv (Dct TEv (Option Int)))) fun (x35 : (Dct TEv (Dct TEv (Option Int)))) => R.bind (R.ok x3.b : R TEv) fun (x36 : TEv) => (lkT x35 x36 : R (Dct TEv (Option Int)))) fun (x37 : (Dct TEv (Option Int))) => R.bind (R.ok y34 : R TEv) fun (x38 : TEv) => (lkT x37 x38 : R (Option Int))) fun (x39 : (Option Int)) => (R.ok (Option.isSome x39) : R Bool))) (fun (y34 : TEv) => (R.bind (R.bind (R.ok s4 : R (Dct TEv Int)) fun (x40 : (Dct TEv Int)) => R.bind (R.ok y34 : R TEv) fun (x41 : TEv) => (lkT x40 x41 : R Int)) fun (x46 : Int) => R.bind (R.bind (R.bind (R.ok v_table_here : R (Dct TEv (Dct TEv (Option Int)))) fun (x42 : (Dct TEv (Dct TEv (Option Int)))) => R.bind (R.ok x3.b : R TEv) fun (x43 : TEv) => (lkT x42 x43 : R (Dct TEv (Option Int)))) fun (x44 : (Dct TEv (Option Int))) => R.bind (R.ok y34 : R TEv) fun (x45 : TEv) => (lkT x44 x45 : R (Option Int))) fun (x47 : (Option Int)) => (R.bind (unO x47) fun (x48 : Int) => (R.ok (x46 - x48) : R Int)))) s4) fun (v_lows_49 : (List Int)) =>
    (R.bind (iteR (R.bind (R.ok v_lows_49 : R (List Int)) fun (x50 : (List Int)) => R.bind (R.bind (itemsT ([] : List (R Int))) lstT) fun (x51 : (List Int)) => (R.ok (!decide (x50 = x51)) : R Bool)) (R.bind (R.ok v_lows_49 : R (List Int)) fun (x52 : (List Int)) => maxT x52) (iteR (R.bind (R.ok v_highs_33 : R (List Int)) fun (x53 : (List Int)) => R.bind (R.bind (itemsT ([] : List (R Int))) lstT) fun (x54 : (List Int)) => (R.ok (!decide (x53 = x54)) : R Bool)) (R.bind (R.bind (R.ok v_highs_33 : R (List Int)) fun (x55 : (List Int)) => minT x55) fun (x56 : Int) => R.bind (R.ok (5 : Int) : R Int) fun (x57 : Int) => (R.ok (x56 - x57) : R Int)) (R.ok (0 : Int) : R Int))) fun (v_low_58 : Int) =>
    (R.bind (iteR (R.bind (R.ok v_highs_33 : R (List Int)) fun (x59 : (List Int)) => R.bind (R.bind (itemsT ([] : List (R Int))) lstT) fun (x60 : (List Int)) => (R.ok (!decide (x59 = x60)) : R Bool)) (R.bind (R.ok v_highs_33 : R (List Int)) fun (x61 : (List Int)) => minT x61) (R.bind (R.ok v_low_58 : R Int) fun (x62 : Int) => R.bind (R.ok (5 : Int) : R Int) fun (x63 : Int) => (R.ok (x62 + x63) : R Int))) fun (v_high_64 : Int) =>
    (R.bind (R.bind (R.ok v_low_58 : R Int) fun (x74 : Int) => R.bind (R.bind (R.ok v_script : R Scr) fun (x71 : Scr) => R.bind (R.bind (R.ok v_at : R Int) fun (x65 : Int) => R.bind (R.ok x3.a : R Int) fun (x66 : Int) => (R.ok (x65 + x66) : R Int)) fun (x72 : Int) => R.bind (R.bind (R.bind (R.ok v_high_64 : R Int) fun (x67 : Int) => R.bind (R.ok v_low_58 : R Int) fun (x68 : Int) => (R.ok (x67 - x68) : R Int)) fun (x69 : Int) => R.bind (R.ok (1 : Int) : R Int) fun (x70 : Int) => (R.ok (x69 + x70) : R Int)) fun (x73 : Int) => T_law_drawn x71 x72 x73) fun (x75 : Int) => (R.ok (x74 + x75) : R Int)) fun (x76 : Int) => R.bind (R.ok x3.b : R TEv) fun (x77 : TEv) => R.bind (putT s4 x77 x76) fun (v_times_78 : (Dct TEv Int)) =>
    (R.ok v_times_78 : R (Dct TEv Int)))))))) l_ v_times_1) fun (s11 : (Dct TEv Int)) =>
  (R.bind (R.bind (R.bind (R.ok v_places : R (List TEv)) fun (l_ : List TEv) => lcT (fun (y79 : TEv) => (R.ok true : R Bool)) (fun (y79 : TEv) => (R.bind (R.ok s11 : R (Dct TEv Int)) fun (x80 : (Dct TEv Int)) => R.bind (R.ok y79 : R TEv) fun (x81 : TEv) => (lkT x80 x81 : R Int))) l_) fun (x82 : (List Int)) => (R.ok (Tup.mk x82) : R (Tup Int))) fun (x83 : (Tup Int)) => (R.ok x83 : R (Tup Int)))))
theorem T_law_drawn_world_ok (v_script : Scr) (v_at : Int) (v_places : (List TEv)) (v_row : (List TBnd)) (v_table_here : (Dct TEv (Dct TEv (Option Int)))) : F_law_drawn_world [en v_script, en v_at, en v_places, en v_row, en v_table_here] = encR (T_law_drawn_world v_script v_at v_places v_row v_table_here) := by
  unfold F_law_drawn_world
  refine d_5 ?_
  unfold M_law_drawn_world T_law_drawn_world
  refine j_own e_dnew (fun (v_times_1 : (Dct TEv Int)) => ?_)
  refine j_for (E := (fun (s_ : (Dct TEv Int)) (ρ_ : En) => ∃ j_6 : Slot, ∃ j_7 : Slot, ∃ j_8 : Slot, ∃ j_9 : Slot, ∃ j_10 : Slot, ∃ j_11 : Slot, ρ_ = [.fz (en (v_script : Scr)), .fz (en (v_at : Int)), .fz (en (v_places : (List TEv))), .fz (en (v_row : (List TBnd))), .fz (en (v_table_here : (Dct TEv (Dct TEv (Option Int))))), .ow (en (s_ : (Dct TEv Int))), j_6, j_7, j_8, j_9, j_10, j_11, .un])) (k_enumL (e_v (v_places : (List TEv)) rfl)) ⟨_, _, _, _, _, _, rfl⟩ ?_ ?_
  · rintro x3 s4 _ ⟨j5, j6, j7, j8, j9, j10, rfl⟩
    refine ⟨_, rfl, ?_⟩
    refine j_asg (e_lcK s4 rfl (fun (y18 : TEv) => ⟨_, rfl, (e_un (e_bin (e_bin (e_w (v_table_here : (Dct TEv (Dct TEv (Option Int)))) rfl) (e_w (y18 : TEv) rfl) o_lk) (e_w (x3.b : TEv) rfl) o_lk) o_notN), (e_bin (e_bin (e_w (s4 : (Dct TEv Int)) rfl) (e_w (y18 : TEv) rfl) o_lk) (e_bin (e_bin (e_w (v_table_here : (Dct TEv (Dct TEv (Option Int)))) rfl) (e_w (y18 : TEv) rfl) o_lk) (e_w (x3.b : TEv) rfl) o_lk) (o_unO2r o_add (fun _ => rfl)))⟩)) (fun (v_highs_33 : (List Int)) => ?_)
    refine j_asg (e_lcK s4 rfl (fun (y34 : TEv) => ⟨_, rfl, (e_un (e_bin (e_bin (e_w (v_table_here : (Dct TEv (Dct TEv (Option Int)))) rfl) (e_w (x3.b : TEv) rfl) o_lk) (e_w (y34 : TEv) rfl) o_lk) o_notN), (e_bin (e_bin (e_w (s4 : (Dct TEv Int)) rfl) (e_w (y34 : TEv) rfl) o_lk) (e_bin (e_bin (e_w (v_table_here : (Dct TEv (Dct TEv (Option Int)))) rfl) (e_w (x3.b : TEv) rfl) o_lk) (e_w (y34 : TEv) rfl) o_lk) (o_unO2r o_sub (fun _ => rfl)))⟩)) (fun (v_lows_49 : (List Int)) => ?_)
    refine j_asg (e_if (e_bin (e_w (v_lows_49 : (List Int)) rfl) (e_lst al_nil) (o_ne (by decide))) (e_call1 (e_w (v_lows_49 : (List Int)) rfl) o_maxU) (e_if (e_bin (e_w (v_highs_33 : (List Int)) rfl) (e_lst al_nil) (o_ne (by decide))) (e_bin (e_call1 (e_w (v_highs_33 : (List Int)) rfl) o_minU) (e_c ((5 : Int) : Int)) o_sub) (e_c ((0 : Int) : Int)))) (fun (v_low_58 : Int) => ?_)
    refine j_asg (e_if (e_bin (e_w (v_highs_33 : (List Int)) rfl) (e_lst al_nil) (o_ne (by decide))) (e_call1 (e_w (v_highs_33 : (List Int)) rfl) o_minU) (e_bin (e_w (v_low_58 : Int) rfl) (e_c ((5 : Int) : Int)) o_add)) (fun (v_high_64 : Int) => ?_)
    refine j_last ?_
    refine j_put (ds := s4) rfl (e_v (x3.b : TEv) rfl) (e_bin (e_w (v_low_58 : Int) rfl) (e_d3 (e_v (v_script : Scr) rfl) (e_bin (e_w (v_at : Int) rfl) (e_w (x3.a : Int) rfl) o_add) (e_bin (e_bin (e_w (v_high_64 : Int) rfl) (e_w (v_low_58 : Int) rfl) o_sub) (e_c ((1 : Int) : Int)) o_add) T_law_drawn_ok) o_add) (fun (v_times_78 : (Dct TEv Int)) => ?_)
    exact j_end_N ⟨_, _, _, _, _, _, rfl⟩
  · rintro s11 _ ⟨j12, j13, j14, j15, j16, j17, rfl⟩
    refine j_last ?_
    exact j_retS iF_rt (e_call1 (e_lc (k_seqL (e_v (v_places : (List TEv)) rfl)) (fun (y79 : TEv) => ⟨_, rfl, t_yes, (e_bin (e_o (s11 : (Dct TEv Int)) rfl) (e_w (y79 : TEv) rfl) o_lk)⟩)) o_tupL)
end
end Fc
set_option Elab.async false
set_option linter.all false
set_option maxRecDepth 100000
set_option maxHeartbeats 4000000
namespace Fc
open PySem L2 Evl PySem.Spec PyProof.Rows
noncomputable section
def T_settled (v_places : (List TEv)) (v_row : (List TBnd)) : R (P3 (Dct TEv Int) (Dct TEv Int) (Option TEv)) :=
  (R.bind (R.bind (R.bind (R.ok v_places : R (List TEv)) fun (l_ : List TEv) => lcT (fun (y1 : TEv) => (R.ok true : R Bool)) (fun (y1 : TEv) => (R.bind (R.ok y1 : R TEv) fun (x2 : TEv) => R.bind (R.ok (0 : Int) : R Int) fun (x3 : Int) => (R.ok (P2.mk x2 x3) : R (P2 TEv Int)))) l_) fun (x4 : (List (P2 TEv Int))) => (dictT x4 : R (Dct TEv Int))) fun (v_times_5 : (Dct TEv Int)) =>
  (R.bind (R.ok (Dct.mk []) : R (Dct TEv Int)) fun (v_by_6 : (Dct TEv Int)) =>
  (R.bind (R.ok none : R (Option TEv)) fun (v_moved_7 : (Option TEv)) =>
  (R.bind (R.bind (R.bind (R.ok v_places : R (List TEv)) fun (x8 : (List TEv)) => (R.ok ((List.length x8 : Nat) : Int) : R Int)) fun (x9 : Int) => rng1T x9) fun (l_ : List Int) => R.bind (forT (fun (x10 : Int) (s11 : ((Dct TEv Int) × (Dct TEv Int) × (Option TEv))) =>
    (R.bind (R.ok none : R (Option TEv)) fun (v_moved_25 : (Option TEv)) =>
    (R.bind (R.bind (R.ok v_row : R (List TBnd)) fun (x26 : (List TBnd)) => (R.ok (enumG 0 x26) : R (List (P2 Int TBnd)))) fun (l_ : List (P2 Int TBnd)) => R.bind (forT (fun (x27 : (P2 Int TBnd)) (s28 : ((Dct TEv Int) × (Dct TEv Int) × (Option TEv))) =>
      (R.bind (R.ok x27.b : R TBnd) fun (z40 : TBnd) =>
      (R.bind (R.bind (R.bind (R.bind (R.ok s28.1 : R (Dct TEv Int)) fun (x41 : (Dct TEv Int)) => R.bind (R.ok z40.a : R TEv) fun (x42 : TEv) => (lkT x41 x42 : R Int)) fun (x43 : Int) => R.bind (R.ok z40.c : R Int) fun (x44 : Int) => (R.ok (x43 + x44) : R Int)) fun (x47 : Int) => R.bind (R.bind (R.ok s28.1 : R (Dct TEv Int)) fun (x45 : (Dct TEv Int)) => R.bind (R.ok z40.b : R TEv) fun (x46 : TEv) => (lkT x45 x46 : R Int)) fun (x48 : Int) => (R.ok (decide (x47 < x48)) : R Bool)) fun (x61 : Bool) => if x61 = true then
        (R.bind (R.bind (R.bind (R.ok s28.1 : R (Dct TEv Int)) fun (x49 : (Dct TEv Int)) => R.bind (R.ok z40.a : R TEv) fun (x50 : TEv) => (lkT x49 x50 : R Int)) fun (x51 : Int) => R.bind (R.ok z40.c : R Int) fun (x52 : Int) => (R.ok (x51 + x52) : R Int)) fun (x53 : Int) => R.bind (R.ok z40.b : R TEv) fun (x54 : TEv) => R.bind (putT s28.1 x54 x53) fun (v_times_55 : (Dct TEv Int)) =>
        (R.bind (R.ok x27.a : R Int) fun (x56 : Int) => R.bind (R.ok z40.b : R TEv) fun (x57 : TEv) => R.bind (putT s28.2.1 x57 x56) fun (v_by_58 : (Dct TEv Int)) =>
        (R.bind (R.bind (R.ok z40.b : R TEv) fun (x59 : TEv) => (R.ok (some x59) : R (Option TEv))) fun (v_moved_60 : (Option TEv)) =>
        (R.ok (v_times_55, v_by_58, v_moved_60) : R ((Dct TEv Int) × (Dct TEv Int) × (Option TEv))))))
      else
        (R.ok (s28.1, s28.2.1, s28.2.2) : R ((Dct TEv Int) × (Dct TEv Int) × (Option TEv)))))) l_ (s11.1, s11.2.1, v_moved_25)) fun (s34 : ((Dct TEv Int) × (Dct TEv Int) × (Option TEv))) =>
    (R.ok (s34.1, s34.2.1, s34.2.2) : R ((Dct TEv Int) × (Dct TEv Int) × (Option TEv)))))) l_ (v_times_5, v_by_6, v_moved_7)) fun (s18 : ((Dct TEv Int) × (Dct TEv Int) × (Option TEv))) =>
  (R.bind (R.bind (R.ok s18.1 : R (Dct TEv Int)) fun (x62 : (Dct TEv Int)) => R.bind (R.ok s18.2.1 : R (Dct TEv Int)) fun (x63 : (Dct TEv Int)) => R.bind (R.ok s18.2.2 : R (Option TEv)) fun (x64 : (Option TEv)) => (R.ok (P3.mk x62 x63 x64) : R (P3 (Dct TEv Int) (Dct TEv Int) (Option TEv)))) fun (x65 : (P3 (Dct TEv Int) (Dct TEv Int) (Option TEv))) => (R.ok x65 : R (P3 (Dct TEv Int) (Dct TEv Int) (Option TEv))))))))
theorem T_settled_ok (v_places : (List TEv)) (v_row : (List TBnd)) : F_settled [en v_places, en v_row] = encR (T_settled v_places v_row) := by
  unfold F_settled
  refine d_2 ?_
  unfold M_settled T_settled
  refine j_own (e_un (e_lc (k_seqL (e_v (v_places : (List TEv)) rfl)) (fun (y1 : TEv) => ⟨_, rfl, t_yes, (e_p2 (e_v (y1 : TEv) rfl) (e_c ((0 : Int) : Int)))⟩)) o_dictOf) (fun (v_times_5 : (Dct TEv Int)) => ?_)
  refine j_own e_dnew (fun (v_by_6 : (Dct TEv Int)) => ?_)
  refine j_asg (e_none (e_c (() : Unit))) (fun (v_moved_7 : (Option TEv)) => ?_)
  refine j_for (E := (fun (s_ : ((Dct TEv Int) × (Dct TEv Int) × (Option TEv))) (ρ_ : En) => ∃ j_5 : Slot, ∃ j_6 : Slot, ∃ j_7 : Slot, ∃ j_8 : Slot, ∃ j_9 : Slot, ∃ j_10 : Slot, ρ_ = [.fz (en (v_places : (List TEv))), .fz (en (v_row : (List TBnd))), .ow (en (s_.1 : (Dct TEv Int))), .ow (en (s_.2.1 : (Dct TEv Int))), .fz (en (s_.2.2 : (Option TEv))), j_5, j_6, j_7, j_8, j_9, j_10, .un])) (k_rng1 (e_call1 (e_w (v_places : (List TEv)) rfl) o_len)) ⟨_, _, _, _, _, _, rfl⟩ ?_ ?_
  · rintro x10 s11 _ ⟨j12, j13, j14, j15, j16, j17, rfl⟩
    refine ⟨_, rfl, ?_⟩
    refine j_asg (e_none (e_c (() : Unit))) (fun (v_moved_25 : (Option TEv)) => ?_)
    refine j_last ?_
    refine j_for (E := (fun (s_ : ((Dct TEv Int) × (Dct TEv Int) × (Option TEv))) (ρ_ : En) => ∃ j_6 : Slot, ∃ j_7 : Slot, ∃ j_8 : Slot, ∃ j_9 : Slot, ∃ j_10 : Slot, ρ_ = [.fz (en (v_places : (List TEv))), .fz (en (v_row : (List TBnd))), .ow (en (s_.1 : (Dct TEv Int))), .ow (en (s_.2.1 : (Dct TEv Int))), .fz (en (s_.2.2 : (Option TEv))), .fz (en (x10 : Int)), j_6, j_7, j_8, j_9, j_10, .un])) (k_enumL (e_v (v_row : (List TBnd)) rfl)) ⟨_, _, _, _, _, rfl⟩ ?_ ?_
    · rintro x27 s28 _ ⟨j29, j30, j31, j32, j33, rfl⟩
      refine ⟨_, rfl, ?_⟩
      refine j_asgG (e_v (x27.b : TBnd) rfl) (fun _ => rfl) (fun (z40 : TBnd) => ?_)
      refine j_last ?_
      refine j_if (e_bin (e_bin (e_bin (e_o (s28.1 : (Dct TEv Int)) rfl) (e_w (z40.a : TEv) rfl) o_lk) (e_w (z40.c : Int) rfl) o_add) (e_bin (e_o (s28.1 : (Dct TEv Int)) rfl) (e_w (z40.b : TEv) rfl) o_lk) o_lt) ?_ ?_
      · skip
        refine j_assoc ?_
        refine j_put (ds := s28.1) rfl (e_v (z40.b : TEv) rfl) (e_bin (e_bin (e_o (s28.1 : (Dct TEv Int)) rfl) (e_w (z40.a : TEv) rfl) o_lk) (e_w (z40.c : Int) rfl) o_add) (fun (v_times_55 : (Dct TEv Int)) => ?_)
        refine j_assoc ?_
        refine j_put (ds := s28.2.1) rfl (e_v (z40.b : TEv) rfl) (e_v (x27.a : Int) rfl) (fun (v_by_58 : (Dct TEv Int)) => ?_)
        refine j_asg (e_some (e_v (z40.b : TEv) rfl)) (fun (v_moved_60 : (Option TEv)) => ?_)
        exact j_end_N ⟨_, _, _, _, _, rfl⟩
      · skip
        refine j_next ?_
        exact j_end_N ⟨_, _, _, _, _, rfl⟩
    · rintro s34 _ ⟨j35, j36, j37, j38, j39, rfl⟩
      exact j_end_N ⟨_, _, _, _, _, _, rfl⟩
  · rintro s18 _ ⟨j19, j20, j21, j22, j23, j24, rfl⟩
    refine j_last ?_
    refine j_frz' rfl ?_
    refine j_frz' rfl ?_
    exact j_retS iF_rt (e_p3 (e_v (s18.1 : (Dct TEv Int)) rfl) (e_v (s18.2.1 : (Dct TEv Int)) rfl) (e_v (s18.2.2 : (Option TEv)) rfl))
def T_world_of (v_places : (List TEv)) (v_row : (List TBnd)) : R (Option (Tup Int)) :=
  (R.bind (R.bind (R.ok v_places : R (List TEv)) fun (x1 : (List TEv)) => R.bind (R.ok v_row : R (List TBnd)) fun (x2 : (List TBnd)) => T_settled x1 x2) fun (z3 : (P3 (Dct TEv Int) (Dct TEv Int) (Option TEv))) =>
  (R.bind (optK z3.c (R.bind (R.bind (R.bind (R.ok v_places : R (List TEv)) fun (l_ : List TEv) => lcT (fun (y5 : TEv) => (R.ok true : R Bool)) (fun (y5 : TEv) => (R.bind (R.ok z3.a : R (Dct TEv Int)) fun (x6 : (Dct TEv Int)) => R.bind (R.ok y5 : R TEv) fun (x7 : TEv) => (lkT x6 x7 : R Int))) l_) fun (x8 : (List Int)) => (R.ok (Tup.mk x8) : R (Tup Int))) fun (x9 : (Tup Int)) => (R.ok (some x9) : R (Option (Tup Int)))) fun (w4 : TEv) => (R.ok none : R (Option (Tup Int)))) fun (x10 : (Option (Tup Int))) => (R.ok x10 : R (Option (Tup Int)))))
theorem T_world_of_ok (v_places : (List TEv)) (v_row : (List TBnd)) : F_world_of [en v_places, en v_row] = encR (T_world_of v_places v_row) := by
  unfold F_world_of
  refine d_2 ?_
  unfold M_world_of T_world_of
  refine j_asgG (e_d2 (e_v (v_places : (List TEv)) rfl) (e_v (v_row : (List TBnd)) rfl) T_settled_ok) (fun _ => rfl) (fun (z3 : (P3 (Dct TEv Int) (Dct TEv Int) (Option TEv))) => ?_)
  refine j_last ?_
  exact j_retS iF_rt (e_ifS (z3.c : (Option TEv)) rfl (e_some (e_call1 (e_lc (k_seqL (e_v (v_places : (List TEv)) rfl)) (fun (y5 : TEv) => ⟨_, rfl, t_yes, (e_bin (e_w (z3.a : (Dct TEv Int)) rfl) (e_w (y5 : TEv) rfl) o_lk)⟩)) o_tupL)) (fun w4 => (e_none (e_c (() : Unit)))))
def T_world (v_record : TRec) : R (Option (Tup Int)) :=
  (R.bind (R.bind (R.bind (R.ok v_record : R TRec) fun (x1 : TRec) => T_events x1) fun (x3 : (List TEv)) => R.bind (R.bind (R.ok v_record : R TRec) fun (x2 : TRec) => T_bounds x2) fun (x4 : (List TBnd)) => T_world_of x3 x4) fun (x5 : (Option (Tup Int))) => (R.ok x5 : R (Option (Tup Int))))
theorem T_world_ok (v_record : TRec) : F_world [en v_record] = encR (T_world v_record) := by
  unfold F_world
  refine d_1 ?_
  unfold M_world T_world
  refine j_last ?_
  exact j_retS iF_rt (e_d2 (e_d1 (e_v (v_record : TRec) rfl) T_events_ok) (e_d1 (e_v (v_record : TRec) rfl) T_bounds_ok) T_world_of_ok)
def T_has_world (v_record : TRec) : R Bool :=
  (R.bind (R.bind (R.bind (R.ok v_record : R TRec) fun (x1 : TRec) => T_world x1) fun (x2 : (Option (Tup Int))) => (R.ok (Option.isSome x2) : R Bool)) fun (x3 : Bool) => (R.ok x3 : R Bool))
theorem T_has_world_ok (v_record : TRec) : F_has_world [en v_record] = encR (T_has_world v_record) := by
  unfold F_has_world
  refine d_1 ?_
  unfold M_has_world T_has_world
  refine j_last ?_
  exact j_retS iF_rt (e_un (e_d1 (e_v (v_record : TRec) rfl) T_world_ok) o_notN)
def T_need_world (v_record : TRec) : R Unit :=
  (R.bind (R.bind (R.bind (R.ok v_record : R TRec) fun (x1 : TRec) => T_has_world x1) fun (x2 : Bool) => (R.ok (!x2) : R Bool)) fun (x3 : Bool) => if x3 = true then
    (R.er "NoWorld" : R Unit)
  else
    (R.ok () : R Unit))
theorem T_need_world_ok (v_record : TRec) : F_need_world [en v_record] = encR (T_need_world v_record) := by
  unfold F_need_world
  refine d_1 ?_
  unfold M_need_world T_need_world
  refine j_last ?_
  refine j_if (e_un (e_d1 (e_v (v_record : TRec) rfl) T_has_world_ok) o_not) ?_ ?_
  · skip
    exact j_raiseS
  · skip
    refine j_next ?_
    exact j_end_F
def T_moved_by (v_record : TRec) (v_times : (Tup Int)) (v_many : Int) : R (Tup Int) :=
  (R.bind (R.bind (R.bind (R.ok v_record : R TRec) fun (x2 : TRec) => R.bind (R.bind (R.ok v_times : R (Tup Int)) fun (x1 : (Tup Int)) => (R.ok (en x1) : R D)) fun (x3 : D) => T_is_world x2 x3) fun (x4 : Bool) => (R.ok (!x4) : R Bool)) fun (x11 : Bool) => if x11 = true then
    (R.er "NoWorld" : R (Tup Int))
  else
    (R.bind (R.bind (R.bind (R.bind (R.ok v_times : R (Tup Int)) fun (x5 : (Tup Int)) => (R.ok (Tup.l x5) : R (List Int))) fun (l_ : List Int) => lcT (fun (y6 : Int) => (R.ok true : R Bool)) (fun (y6 : Int) => (R.bind (R.ok y6 : R Int) fun (x7 : Int) => R.bind (R.ok v_many : R Int) fun (x8 : Int) => (R.ok (x7 + x8) : R Int))) l_) fun (x9 : (List Int)) => (R.ok (Tup.mk x9) : R (Tup Int))) fun (x10 : (Tup Int)) => (R.ok x10 : R (Tup Int))))
theorem T_moved_by_ok (v_record : TRec) (v_times : (Tup Int)) (v_many : Int) : F_moved_by [en v_record, en v_times, en v_many] = encR (T_moved_by v_record v_times v_many) := by
  unfold F_moved_by
  refine d_3 ?_
  unfold M_moved_by T_moved_by
  refine j_if (e_un (e_d2 (e_v (v_record : TRec) rfl) (e_up (e_v (v_times : (Tup Int)) rfl)) T_is_world_ok) o_not) ?_ ?_
  · skip
    exact j_raiseS
  · skip
    refine j_next ?_
    refine j_last ?_
    exact j_retS iF_rt (e_call1 (e_lc (k_seqT (e_v (v_times : (Tup Int)) rfl)) (fun (y6 : Int) => ⟨_, rfl, t_yes, (e_bin (e_w (y6 : Int) rfl) (e_w (v_many : Int) rfl) o_add)⟩)) o_tupL)
end
end Fc
set_option Elab.async false
set_option linter.all false
set_option maxRecDepth 100000
set_option maxHeartbeats 4000000
namespace Fc
open PySem L2 Evl PySem.Spec PyProof.Rows
noncomputable section
def T_law_k21 (v_script : Scr) : R Bool :=
  (R.bind (R.bind (R.ok v_script : R Scr) fun (x1 : Scr) => R.bind (R.ok (0 : Int) : R Int) fun (x2 : Int) => R.bind (R.ok (5 : Int) : R Int) fun (x3 : Int) => T_law_record x1 x2 x3) fun (v_record_here_4 : TRec) =>
  (R.bind (R.bind (R.ok v_record_here_4 : R TRec) fun (x5 : TRec) => T_events x5) fun (v_places_6 : (List TEv)) =>
  (R.bind (R.bind (R.ok v_record_here_4 : R TRec) fun (x7 : TRec) => T_law_bounds x7) fun (v_row_8 : (List TBnd)) =>
  (R.bind (R.bind (R.ok v_places_6 : R (List TEv)) fun (x9 : (List TEv)) => R.bind (R.ok v_row_8 : R (List TBnd)) fun (x10 : (List TBnd)) => T_law_table x9 x10) fun (v_table_here_11 : (Option (Dct TEv (Dct TEv (Option Int))))) =>
  (optK v_table_here_11
    (R.bind (andR (R.bind (R.bind (R.ok v_record_here_4 : R TRec) fun (x13 : TRec) => T_has_world x13) fun (x14 : Bool) => (R.ok (!x14) : R Bool)) (R.bind (R.bind (R.ok v_record_here_4 : R TRec) fun (x15 : TRec) => T_world x15) fun (x16 : (Option (Tup Int))) => (R.ok (Option.isNone x16) : R Bool))) fun (x17 : Bool) => (R.ok x17 : R Bool))
  fun (w12 : (Dct TEv (Dct TEv (Option Int)))) =>
    (R.bind (R.bind (R.ok v_script : R Scr) fun (x18 : Scr) => R.bind (R.ok (80 : Int) : R Int) fun (x19 : Int) => R.bind (R.ok v_places_6 : R (List TEv)) fun (x20 : (List TEv)) => R.bind (R.ok v_row_8 : R (List TBnd)) fun (x21 : (List TBnd)) => R.bind (R.ok w12 : R (Dct TEv (Dct TEv (Option Int)))) fun (x22 : (Dct TEv (Dct TEv (Option Int)))) => T_law_drawn_world x18 x19 x20 x21 x22) fun (v_one_23 : (Tup Int)) =>
    (R.bind (R.bind (R.ok v_script : R Scr) fun (x24 : Scr) => R.bind (R.ok (100 : Int) : R Int) fun (x25 : Int) => R.bind (R.ok v_places_6 : R (List TEv)) fun (x26 : (List TEv)) => R.bind (R.ok v_row_8 : R (List TBnd)) fun (x27 : (List TBnd)) => R.bind (R.ok w12 : R (Dct TEv (Dct TEv (Option Int)))) fun (x28 : (Dct TEv (Dct TEv (Option Int)))) => T_law_drawn_world x24 x25 x26 x27 x28) fun (v_other_29 : (Tup Int)) =>
    (R.bind (R.bind (R.bind (R.bind (R.ok v_one_23 : R (Tup Int)) fun (x30 : (Tup Int)) => R.bind (R.ok v_other_29 : R (Tup Int)) fun (x31 : (Tup Int)) => (R.ok (zipG (Tup.l x30) (Tup.l x31)) : R (List TEv))) fun (l_ : List TEv) => lcT (fun (y32 : TEv) => (R.ok true : R Bool)) (fun (y32 : TEv) => (R.bind (R.ok y32.a : R Int) fun (x33 : Int) => R.bind (R.ok y32.b : R Int) fun (x34 : Int) => (R.ok (if x34 > x33 then x34 else x33) : R Int))) l_) fun (x35 : (List Int)) => (R.ok (Tup.mk x35) : R (Tup Int))) fun (v_high_36 : (Tup Int)) =>
    (R.bind (R.bind (R.bind (R.bind (R.ok v_one_23 : R (Tup Int)) fun (x37 : (Tup Int)) => R.bind (R.ok v_other_29 : R (Tup Int)) fun (x38 : (Tup Int)) => (R.ok (zipG (Tup.l x37) (Tup.l x38)) : R (List TEv))) fun (l_ : List TEv) => lcT (fun (y39 : TEv) => (R.ok true : R Bool)) (fun (y39 : TEv) => (R.bind (R.ok y39.a : R Int) fun (x40 : Int) => R.bind (R.ok y39.b : R Int) fun (x41 : Int) => (R.ok (if x41 < x40 then x41 else x40) : R Int))) l_) fun (x42 : (List Int)) => (R.ok (Tup.mk x42) : R (Tup Int))) fun (v_low_43 : (Tup Int)) =>
    (R.bind (R.bind (R.ok v_record_here_4 : R TRec) fun (x44 : TRec) => T_world x44) fun (o46 : (Option (Tup Int))) => optK o46 (R.bad : R Bool) fun (v_told_45 : (Tup Int)) =>
    (R.bind (R.bind (R.bind (itemsT [(R.ok v_one_23 : R (Tup Int)), (R.ok v_other_29 : R (Tup Int)), (R.ok v_high_36 : R (Tup Int)), (R.ok v_low_43 : R (Tup Int)), (R.ok v_told_45 : R (Tup Int))]) (tupT : List (Tup Int) → R (Tup (Tup Int)))) fun (x47 : (Tup (Tup Int))) => (R.ok (Tup.l x47) : R (List (Tup Int)))) fun (l_ : List (Tup Int)) => R.bind (forC (fun (x48 : (Tup Int)) (s49 : Unit) =>
      (R.bind (orR (R.bind (R.bind (R.ok v_record_here_4 : R TRec) fun (x72 : TRec) => R.bind (R.bind (R.ok x48 : R (Tup Int)) fun (x71 : (Tup Int)) => (R.ok (en x71) : R D)) fun (x73 : D) => T_is_world x72 x73) fun (x74 : Bool) => (R.ok (!x74) : R Bool)) (R.bind (R.bind (R.ok v_record_here_4 : R TRec) fun (x75 : TRec) => R.bind (R.ok x48 : R (Tup Int)) fun (x76 : (Tup Int)) => T_broken x75 x76) fun (x77 : (List Int)) => R.bind (R.bind (itemsT ([] : List (R Int))) lstT) fun (x78 : (List Int)) => (R.ok (!decide (x77 = x78)) : R Bool))) fun (x183 : Bool) => if x183 = true then
        (R.bind (R.ok false : R Bool) fun (x79 : Bool) => (R.ok (Ctl.rt x79) : R (Ctl Unit Bool)))
      else
        (R.bind (R.bind (R.ok v_record_here_4 : R TRec) fun (x83 : TRec) => R.bind (R.ok x48 : R (Tup Int)) fun (x84 : (Tup Int)) => R.bind (R.bind (R.ok (0 : Int) : R Int) fun (x81 : Int) => R.bind (R.bind (R.ok x48 : R (Tup Int)) fun (x80 : (Tup Int)) => maxT (Tup.l x80)) fun (x82 : Int) => (R.ok (x81 - x82) : R Int)) fun (x85 : Int) => T_moved_by x83 x84 x85) fun (v_late_86 : (Tup Int)) =>
        (R.bind (orR (R.bind (R.bind (R.bind (R.bind (R.ok v_places_6 : R (List TEv)) fun (x87 : (List TEv)) => (R.ok ((List.length x87 : Nat) : Int) : R Int)) fun (x88 : Int) => rng1T x88) fun (l_ : List Int) => lcT (fun (y89 : Int) => (R.bind (R.bind (R.ok v_late_86 : R (Tup Int)) fun (x90 : (Tup Int)) => R.bind (R.ok y89 : R Int) fun (x91 : Int) => (atT (Tup.l x90) x91 : R Int)) fun (x94 : Int) => R.bind (R.bind (R.ok v_told_45 : R (Tup Int)) fun (x92 : (Tup Int)) => R.bind (R.ok y89 : R Int) fun (x93 : Int) => (atT (Tup.l x92) x93 : R Int)) fun (x95 : Int) => (R.ok (decide (x95 < x94)) : R Bool))) (fun (y89 : Int) => (R.ok y89 : R Int)) l_) fun (x96 : (List Int)) => R.bind (R.bind (itemsT ([] : List (R Int))) lstT) fun (x97 : (List Int)) => (R.ok (!decide (x96 = x97)) : R Bool)) (R.bind (R.bind (R.ok v_record_here_4 : R TRec) fun (x99 : TRec) => R.bind (R.bind (R.ok v_late_86 : R (Tup Int)) fun (x98 : (Tup Int)) => (R.ok (en x98) : R D)) fun (x100 : D) => T_is_world x99 x100) fun (x101 : Bool) => (R.ok (!x101) : R Bool))) fun (x182 : Bool) => if x182 = true then
          (R.bind (R.ok false : R Bool) fun (x102 : Bool) => (R.ok (Ctl.rt x102) : R (Ctl Unit Bool)))
        else
          (R.bind (R.bind (R.ok (1 : Int) : R Int) fun (x104 : Int) => R.bind (R.bind (R.ok v_places_6 : R (List TEv)) fun (x103 : (List TEv)) => (R.ok ((List.length x103 : Nat) : Int) : R Int)) fun (x105 : Int) => rng2T x104 x105) fun (l_ : List Int) => R.bind (forC (fun (x106 : Int) (s107 : Unit) =>
            (R.bind (andR (R.bind (R.bind (R.bind (R.ok v_places_6 : R (List TEv)) fun (x111 : (List TEv)) => R.bind (R.ok x106 : R Int) fun (x112 : Int) => (atT x111 x112 : R TEv)) fun (x113 : TEv) => (R.ok x113.a : R Int)) fun (x119 : Int) => R.bind (R.bind (R.bind (R.ok v_places_6 : R (List TEv)) fun (x116 : (List TEv)) => R.bind (R.bind (R.ok x106 : R Int) fun (x114 : Int) => R.bind (R.ok (1 : Int) : R Int) fun (x115 : Int) => (R.ok (x114 - x115) : R Int)) fun (x117 : Int) => (atT x116 x117 : R TEv)) fun (x118 : TEv) => (R.ok x118.a : R Int)) fun (x120 : Int) => (R.ok (decide (x119 = x120)) : R Bool)) (R.bind (R.bind (R.ok x48 : R (Tup Int)) fun (x121 : (Tup Int)) => R.bind (R.ok x106 : R Int) fun (x122 : Int) => (atT (Tup.l x121) x122 : R Int)) fun (x127 : Int) => R.bind (R.bind (R.ok x48 : R (Tup Int)) fun (x125 : (Tup Int)) => R.bind (R.bind (R.ok x106 : R Int) fun (x123 : Int) => R.bind (R.ok (1 : Int) : R Int) fun (x124 : Int) => (R.ok (x123 - x124) : R Int)) fun (x126 : Int) => (atT (Tup.l x125) x126 : R Int)) fun (x128 : Int) => (R.ok (decide (x127 ≤ x128)) : R Bool))) fun (x130 : Bool) => if x130 = true then
              (R.bind (R.ok false : R Bool) fun (x129 : Bool) => (R.ok (Ctl.rt x129) : R (Ctl Unit Bool)))
            else
              (R.ok (Ctl.nx ()) : R (Ctl Unit Bool)))) l_ ()) fun c_ => ctlK c_ (fun (s109 : Unit) =>
            (R.bind (R.bind (R.ok v_row_8 : R (List TBnd)) fun (x131 : (List TBnd)) => (R.ok (enumG 0 x131) : R (List (P2 Int TBnd)))) fun (l_ : List (P2 Int TBnd)) => R.bind (forC (fun (x132 : (P2 Int TBnd)) (s133 : Unit) =>
            (R.bind (R.bind (R.ok v_places_6 : R (List TEv)) fun (x149 : (List TEv)) => R.bind (R.ok x132.b.b : R TEv) fun (x150 : TEv) => idxT x149 x150) fun (v_at_151 : Int) =>
            (R.bind (R.bind (R.bind (R.bind (R.ok x48 : R (Tup Int)) fun (x154 : (Tup Int)) => R.bind (R.bind (R.ok v_places_6 : R (List TEv)) fun (x152 : (List TEv)) => R.bind (R.ok x132.b.a : R TEv) fun (x153 : TEv) => idxT x152 x153) fun (x155 : Int) => (atT (Tup.l x154) x155 : R Int)) fun (x156 : Int) => R.bind (R.ok x132.b.c : R Int) fun (x157 : Int) => (R.ok (x156 + x157) : R Int)) fun (x158 : Int) => R.bind (R.ok (1 : Int) : R Int) fun (x159 : Int) => (R.ok (x158 + x159) : R Int)) fun (v_far_160 : Int) =>
            (R.bind (R.bind (R.bind (R.bind (R.ok x48 : R (Tup Int)) fun (x164 : (Tup Int)) => R.bind (R.ok none : R (Option Int)) fun (x162 : Option Int) => R.bind (R.bind (R.ok v_at_151 : R Int) fun (x161 : Int) => (R.ok (some x161) : R (Option Int))) fun (x163 : Option Int) => (R.ok (Tup.mk (cutL (Tup.l x164) x162 x163)) : R (Tup Int))) fun (x165 : (Tup Int)) => R.bind (R.bind (itemsT [(R.ok v_far_160 : R Int)]) (tupT : List Int → R (Tup Int))) fun (x166 : (Tup Int)) => tcatT x165 x166) fun (x173 : (Tup Int)) => R.bind (R.bind (R.ok x48 : R (Tup Int)) fun (x172 : (Tup Int)) => R.bind (R.bind (R.bind (R.ok v_at_151 : R Int) fun (x167 : Int) => R.bind (R.ok (1 : Int) : R Int) fun (x168 : Int) => (R.ok (x167 + x168) : R Int)) fun (x169 : Int) => (R.ok (some x169) : R (Option Int))) fun (x170 : Option Int) => R.bind (R.ok none : R (Option Int)) fun (x171 : Option Int) => (R.ok (Tup.mk (cutL (Tup.l x172) x170 x171)) : R (Tup Int))) fun (x174 : (Tup Int)) => tcatT x173 x174) fun (v_more_175 : (Tup Int)) =>
            (R.bind (R.bind (R.ok x132.a : R Int) fun (x178 : Int) => R.bind (R.bind (R.ok v_record_here_4 : R TRec) fun (x176 : TRec) => R.bind (R.ok v_more_175 : R (Tup Int)) fun (x177 : (Tup Int)) => T_broken x176 x177) fun (x179 : (List Int)) => (R.ok (!decide (x178 ∈ x179)) : R Bool)) fun (x181 : Bool) => if x181 = true then
              (R.bind (R.ok false : R Bool) fun (x180 : Bool) => (R.ok (Ctl.rt x180) : R (Ctl Unit Bool)))
            else
              (R.ok (Ctl.nx ()) : R (Ctl Unit Bool))))))) l_ ()) fun c_ => ctlK c_ (fun (s141 : Unit) =>
            (R.ok (Ctl.nx ()) : R (Ctl Unit Bool)))
          fun b_ => (R.ok (Ctl.rt b_) : R (Ctl Unit Bool))))
          fun b_ => (R.ok (Ctl.rt b_) : R (Ctl Unit Bool))))))) l_ ()) fun c_ => ctlK c_ (fun (s60 : Unit) =>
      (R.bind (andR (R.bind (R.bind (R.ok v_told_45 : R (Tup Int)) fun (x184 : (Tup Int)) => maxT (Tup.l x184)) fun (x185 : Int) => R.bind (R.ok (0 : Int) : R Int) fun (x186 : Int) => (R.ok (decide (x185 = x186)) : R Bool)) (R.bind (R.bind (R.ok v_record_here_4 : R TRec) fun (x191 : TRec) => R.bind (R.bind (R.ok v_record_here_4 : R TRec) fun (x187 : TRec) => R.bind (R.ok v_one_23 : R (Tup Int)) fun (x188 : (Tup Int)) => R.bind (R.ok (5 : Int) : R Int) fun (x189 : Int) => T_moved_by x187 x188 x189) fun (x192 : (Tup Int)) => R.bind (R.bind (R.ok (5 : Int) : R Int) fun (x190 : Int) => (R.ok (-x190) : R Int)) fun (x193 : Int) => T_moved_by x191 x192 x193) fun (x194 : (Tup Int)) => R.bind (R.ok v_one_23 : R (Tup Int)) fun (x195 : (Tup Int)) => (R.ok (decide (x194 = x195)) : R Bool))) fun (x196 : Bool) => (R.ok x196 : R Bool)))
    fun b_ => (R.ok b_ : R Bool))))))))))))
theorem T_law_k21_ok (v_script : Scr) : T_law_k21 v_script = .bad ∨ F_law_k21 [en v_script] = encR (T_law_k21 v_script) := by
  unfold F_law_k21
  refine d_1w ?_
  unfold M_law_k21 T_law_k21
  refine j_asg (e_d3 (e_v (v_script : Scr) rfl) (e_c ((0 : Int) : Int)) (e_c ((5 : Int) : Int)) T_law_record_ok) (fun (v_record_here_4 : TRec) => ?_)
  refine j_asg (e_d1 (e_v (v_record_here_4 : TRec) rfl) T_events_ok) (fun (v_places_6 : (List TEv)) => ?_)
  refine j_asg (e_d1 (e_v (v_record_here_4 : TRec) rfl) T_law_bounds_ok) (fun (v_row_8 : (List TBnd)) => ?_)
  refine j_asg (e_d2 (e_v (v_places_6 : (List TEv)) rfl) (e_v (v_row_8 : (List TBnd)) rfl) T_law_table_ok) (fun (v_table_here_11 : (Option (Dct TEv (Dct TEv (Option Int))))) => ?_)
  refine j_ifN (v_table_here_11 : (Option (Dct TEv (Dct TEv (Option Int))))) rfl ?_ ?_
  · skip
    exact j_retS iFw_rt (e_and (e_un (e_d1 (e_v (v_record_here_4 : TRec) rfl) T_has_world_ok) o_not) (e_un (e_d1 (e_v (v_record_here_4 : TRec) rfl) T_world_ok) o_isN))
  · intro w12
    refine j_next ?_
    refine j_asg (e_d5 (e_v (v_script : Scr) rfl) (e_c ((80 : Int) : Int)) (e_v (v_places_6 : (List TEv)) rfl) (e_v (v_row_8 : (List TBnd)) rfl) (e_v (w12 : (Dct TEv (Dct TEv (Option Int)))) rfl) T_law_drawn_world_ok) (fun (v_one_23 : (Tup Int)) => ?_)
    refine j_asg (e_d5 (e_v (v_script : Scr) rfl) (e_c ((100 : Int) : Int)) (e_v (v_places_6 : (List TEv)) rfl) (e_v (v_row_8 : (List TBnd)) rfl) (e_v (w12 : (Dct TEv (Dct TEv (Option Int)))) rfl) T_law_drawn_world_ok) (fun (v_other_29 : (Tup Int)) => ?_)
    refine j_asg (e_call1 (e_lc (k_zipTT (e_v (v_one_23 : (Tup Int)) rfl) (e_v (v_other_29 : (Tup Int)) rfl)) (fun (y32 : TEv) => ⟨_, rfl, t_yes, (e_call2 (e_w (y32.a : Int) rfl) (e_w (y32.b : Int) rfl) o_max2U)⟩)) o_tupL) (fun (v_high_36 : (Tup Int)) => ?_)
    refine j_asg (e_call1 (e_lc (k_zipTT (e_v (v_one_23 : (Tup Int)) rfl) (e_v (v_other_29 : (Tup Int)) rfl)) (fun (y39 : TEv) => ⟨_, rfl, t_yes, (e_call2 (e_w (y39.a : Int) rfl) (e_w (y39.b : Int) rfl) o_min2U)⟩)) o_tupL) (fun (v_low_43 : (Tup Int)) => ?_)
    refine j_asgU (e_d1 (e_v (v_record_here_4 : TRec) rfl) T_world_ok) (fun (v_told_45 : (Tup Int)) => ?_)
    refine j_forC (E := (fun (s_ : Unit) (ρ_ : En) => ∃ j_10 : Slot, ∃ j_11 : Slot, ∃ j_12 : Slot, ∃ j_13 : Slot, ∃ j_14 : Slot, ∃ j_15 : Slot, ∃ j_16 : Slot, ∃ j_17 : Slot, ∃ j_18 : Slot, ∃ j_19 : Slot, ρ_ = [.fz (en (v_script : Scr)), .fz (en (v_record_here_4 : TRec)), .fz (en (v_places_6 : (List TEv))), .fz (en (v_row_8 : (List TBnd))), .fz (en (w12 : (Dct TEv (Dct TEv (Option Int))))), .fz (en (v_one_23 : (Tup Int))), .fz (en (v_other_29 : (Tup Int))), .fz (en (v_high_36 : (Tup Int))), .fz (en (v_low_43 : (Tup Int))), .fz (en (v_told_45 : (Tup Int))), j_10, j_11, j_12, j_13, j_14, j_15, j_16, j_17, j_18, j_19, .un, .un])) iFw_rt (k_seqT (e_tupl (al_cons (e_v (v_one_23 : (Tup Int)) rfl) (al_cons (e_v (v_other_29 : (Tup Int)) rfl) (al_cons (e_v (v_high_36 : (Tup Int)) rfl) (al_cons (e_v (v_low_43 : (Tup Int)) rfl) (al_cons (e_v (v_told_45 : (Tup Int)) rfl) al_nil))))))) ⟨_, _, _, _, _, _, _, _, _, _, rfl⟩ ?_ ?_
    · rintro x48 s49 _ ⟨j50, j51, j52, j53, j54, j55, j56, j57, j58, j59, rfl⟩
      refine ⟨_, rfl, ?_⟩
      refine j_if (e_or (e_un (e_d2 (e_v (v_record_here_4 : TRec) rfl) (e_up (e_v (x48 : (Tup Int)) rfl)) T_is_world_ok) o_not) (e_bin (e_d2 (e_v (v_record_here_4 : TRec) rfl) (e_v (x48 : (Tup Int)) rfl) T_broken_ok) (e_lst al_nil) (o_ne (by decide)))) ?_ ?_
      · skip
        exact j_retS (fun _ => rfl) (e_c (false : Bool))
      · skip
        refine j_next ?_
        refine j_asg (e_d3 (e_v (v_record_here_4 : TRec) rfl) (e_v (x48 : (Tup Int)) rfl) (e_bin (e_c ((0 : Int) : Int)) (e_call1 (e_w (x48 : (Tup Int)) rfl) o_maxTU) o_sub) T_moved_by_ok) (fun (v_late_86 : (Tup Int)) => ?_)
        refine j_if (e_or (e_bin (e_lc (k_rng1 (e_call1 (e_w (v_places_6 : (List TEv)) rfl) o_len)) (fun (y89 : Int) => ⟨_, rfl, (e_bin (e_bin (e_w (v_late_86 : (Tup Int)) rfl) (e_w (y89 : Int) rfl) o_atU) (e_bin (e_w (v_told_45 : (Tup Int)) rfl) (e_w (y89 : Int) rfl) o_atU) o_gt), (e_v (y89 : Int) rfl)⟩)) (e_lst al_nil) (o_ne (by decide))) (e_un (e_d2 (e_v (v_record_here_4 : TRec) rfl) (e_up (e_v (v_late_86 : (Tup Int)) rfl)) T_is_world_ok) o_not)) ?_ ?_
        · skip
          exact j_retS (fun _ => rfl) (e_c (false : Bool))
        · skip
          refine j_next ?_
          refine j_forC (E := (fun (s_ : Unit) (ρ_ : En) => ∃ j_12 : Slot, ρ_ = [.fz (en (v_script : Scr)), .fz (en (v_record_here_4 : TRec)), .fz (en (v_places_6 : (List TEv))), .fz (en (v_row_8 : (List TBnd))), .fz (en (w12 : (Dct TEv (Dct TEv (Option Int))))), .fz (en (v_one_23 : (Tup Int))), .fz (en (v_other_29 : (Tup Int))), .fz (en (v_high_36 : (Tup Int))), .fz (en (v_low_43 : (Tup Int))), .fz (en (v_told_45 : (Tup Int))), .fz (en (x48 : (Tup Int))), .fz (en (v_late_86 : (Tup Int))), j_12, j53, j54, j55, j56, j57, j58, j59, .un, .un])) (fun _ => rfl) (k_rng2 (e_c ((1 : Int) : Int)) (e_call1 (e_w (v_places_6 : (List TEv)) rfl) o_len)) ⟨_, rfl⟩ ?_ ?_
          · rintro x106 s107 _ ⟨j108, rfl⟩
            refine ⟨_, rfl, ?_⟩
            refine j_last ?_
            refine j_if (e_and (e_bin (e_ix (e_bin (e_w (v_places_6 : (List TEv)) rfl) (e_w (x106 : Int) rfl) o_atL) i2_0) (e_ix (e_bin (e_w (v_places_6 : (List TEv)) rfl) (e_bin (e_w (x106 : Int) rfl) (e_c ((1 : Int) : Int)) o_sub) o_atL) i2_0) (o_eq (by decide))) (e_bin (e_bin (e_w (x48 : (Tup Int)) rfl) (e_w (x106 : Int) rfl) o_atU) (e_bin (e_w (x48 : (Tup Int)) rfl) (e_bin (e_w (x106 : Int) rfl) (e_c ((1 : Int) : Int)) o_sub) o_atU) o_le)) ?_ ?_
            · skip
              exact j_retS (fun _ => rfl) (e_c (false : Bool))
            · skip
              refine j_next ?_
              exact j_end_C ⟨_, rfl⟩
          · rintro s109 _ ⟨j110, rfl⟩
            refine j_last ?_
            refine j_forC (E := (fun (s_ : Unit) (ρ_ : En) => ∃ j_13 : Slot, ∃ j_14 : Slot, ∃ j_15 : Slot, ∃ j_16 : Slot, ∃ j_17 : Slot, ∃ j_18 : Slot, ∃ j_19 : Slot, ρ_ = [.fz (en (v_script : Scr)), .fz (en (v_record_here_4 : TRec)), .fz (en (v_places_6 : (List TEv))), .fz (en (v_row_8 : (List TBnd))), .fz (en (w12 : (Dct TEv (Dct TEv (Option Int))))), .fz (en (v_one_23 : (Tup Int))), .fz (en (v_other_29 : (Tup Int))), .fz (en (v_high_36 : (Tup Int))), .fz (en (v_low_43 : (Tup Int))), .fz (en (v_told_45 : (Tup Int))), .fz (en (x48 : (Tup Int))), .fz (en (v_late_86 : (Tup Int))), j110, j_13, j_14, j_15, j_16, j_17, j_18, j_19, .un, .un])) (fun _ => rfl) (k_enumL (e_v (v_row_8 : (List TBnd)) rfl)) ⟨_, _, _, _, _, _, _, rfl⟩ ?_ ?_
            · rintro x132 s133 _ ⟨j134, j135, j136, j137, j138, j139, j140, rfl⟩
              refine ⟨_, rfl, ?_⟩
              refine j_asg (e_met (e_w (v_places_6 : (List TEv)) rfl) (e_w (x132.b.b : TEv) rfl) (o_index (by decide))) (fun (v_at_151 : Int) => ?_)
              refine j_asg (e_bin (e_bin (e_bin (e_w (x48 : (Tup Int)) rfl) (e_met (e_w (v_places_6 : (List TEv)) rfl) (e_w (x132.b.a : TEv) rfl) (o_index (by decide))) o_atU) (e_w (x132.b.c : Int) rfl) o_add) (e_c ((1 : Int) : Int)) o_add) (fun (v_far_160 : Int) => ?_)
              refine j_asg (e_bin (e_bin (e_sl (e_w (x48 : (Tup Int)) rfl) oo_none (oo_some (e_v (v_at_151 : Int) rfl)) o_slT) (e_tupl (al_cons (e_v (v_far_160 : Int) rfl) al_nil)) o_addT) (e_sl (e_w (x48 : (Tup Int)) rfl) (oo_some (e_bin (e_w (v_at_151 : Int) rfl) (e_c ((1 : Int) : Int)) o_add)) oo_none o_slT) o_addT) (fun (v_more_175 : (Tup Int)) => ?_)
              refine j_last ?_
              refine j_if (e_bin (e_w (x132.a : Int) rfl) (e_d2 (e_v (v_record_here_4 : TRec) rfl) (e_v (v_more_175 : (Tup Int)) rfl) T_broken_ok) (o_notIn (by decide))) ?_ ?_
              · skip
                exact j_retS (fun _ => rfl) (e_c (false : Bool))
              · skip
                refine j_next ?_
                exact j_end_C ⟨_, _, _, _, _, _, _, rfl⟩
            · rintro s141 _ ⟨j142, j143, j144, j145, j146, j147, j148, rfl⟩
              exact j_end_C ⟨_, _, _, _, _, _, _, _, _, _, rfl⟩
    · rintro s60 _ ⟨j61, j62, j63, j64, j65, j66, j67, j68, j69, j70, rfl⟩
      refine j_last ?_
      exact j_retS iFw_rt (e_and (e_bin (e_call1 (e_w (v_told_45 : (Tup Int)) rfl) o_maxTU) (e_c ((0 : Int) : Int)) (o_eq (by decide))) (e_bin (e_d3 (e_v (v_record_here_4 : TRec) rfl) (e_d3 (e_v (v_record_here_4 : TRec) rfl) (e_v (v_one_23 : (Tup Int)) rfl) (e_c ((5 : Int) : Int)) T_moved_by_ok) (e_un (e_c ((5 : Int) : Int)) o_neg) T_moved_by_ok) (e_w (v_one_23 : (Tup Int)) rfl) (o_eq (by decide))))
end
end Fc
set_option Elab.async false
set_option linter.all false
set_option maxRecDepth 100000
set_option maxHeartbeats 2000000
namespace Fm
/-! ### bounds, walks, worlds, tables: no program here -/
section
variable {E : Type} [DecidableEq E]
structure Bd (E : Type) where
  a : E
  b : E
  m : Int
inductive Walk (row : List (Bd E)) : E → E → Int → Prop
  | nil (a : E) : Walk row a a 0
  | snoc {a b c : E} {x m : Int} : Walk row a b x → ⟨b, c, m⟩ ∈ row → Walk row a c (x + m)
theorem Walk.one {row : List (Bd E)} {a b : E} {m : Int} (h : ⟨a, b, m⟩ ∈ row) : Walk row a b m := by
  have := Walk.snoc (Walk.nil a) h
  rwa [Int.zero_add] at this
theorem Walk.trans {row : List (Bd E)} {a b c : E} {x y : Int} (h : Walk row a b x) (k : Walk row b c y) : Walk row a c (x + y) := by
  induction k with
  | nil => rw [Int.add_zero]; exact h
  | snoc w e ih => rw [← Int.add_assoc]; exact .snoc ih e
def World (row : List (Bd E)) (u : E → Int) : Prop := ∀ e ∈ row, u e.b - u e.a ≤ e.m
theorem Walk.world {row : List (Bd E)} {u : E → Int} (hu : World row u) {a b : E} {x : Int} (h : Walk row a b x) : u b - u a ≤ x := by
  induction h with
  | nil => omega
  | snoc w e ih => have := hu _ e; simp only at this; omega
theorem Walk.sub {row row' : List (Bd E)} (hs : ∀ e ∈ row, e ∈ row') {a b : E} {x : Int} (h : Walk row a b x) : Walk row' a b x := by
  induction h with
  | nil => exact .nil _
  | snoc w e ih => exact .snoc ih (hs _ e)
/-- a closed table of the least walks -/
structure Tab (P : List E) (row : List (Bd E)) (t : E → E → Option Int) : Prop where
  diag : ∀ a ∈ P, t a a = some 0
  tri : ∀ a ∈ P, ∀ b ∈ P, ∀ c ∈ P, ∀ x y, t a b = some x → t b c = some y → ∃ z, t a c = some z ∧ z ≤ x + y
  le : ∀ e ∈ row, ∃ z, t e.a e.b = some z ∧ z ≤ e.m
  walk : ∀ a b x, t a b = some x → Walk row a b x
/-! tables are changed entry by entry -/
abbrev Tb (E : Type) := E → E → Option Int
def setE (t : Tb E) (a b : E) (x : Int) : Tb E := fun c d => if c = a ∧ d = b then some x else t c d
/-- the lesser one of what stands and what is new -/
def lowE (t : Tb E) (a b : E) (x : Int) : Tb E := match t a b with
  | none => setE t a b x
  | some z => if x < z then setE t a b x else t
def LeT (t' t : Tb E) : Prop := ∀ a b x, t a b = some x → ∃ y, t' a b = some y ∧ y ≤ x
theorem LeT.refl (t : Tb E) : LeT t t := fun a b x h => ⟨x, h, Int.le_refl _⟩
theorem LeT.trans {t1 t2 t3 : Tb E} (h : LeT t1 t2) (k : LeT t2 t3) : LeT t1 t3 := fun a b x hx => by
  obtain ⟨y, h1, h2⟩ := k a b x hx
  obtain ⟨z, h3, h4⟩ := h a b y h1
  exact ⟨z, h3, by omega⟩
theorem lowE_le (t : Tb E) (a b : E) (x : Int) : LeT (lowE t a b x) t := fun c d z h => by
  unfold lowE
  cases q : t a b with
  | none =>
    simp only [setE]
    by_cases e : c = a ∧ d = b
    · obtain ⟨rfl, rfl⟩ := e; rw [q] at h; cases h
    · rw [if_neg e]; exact ⟨z, h, Int.le_refl _⟩
  | some w =>
    simp only
    split
    · rename_i hlt
      simp only [setE]
      by_cases e : c = a ∧ d = b
      · obtain ⟨rfl, rfl⟩ := e
        rw [q] at h; cases h
        rw [if_pos ⟨rfl, rfl⟩]
        exact ⟨x, rfl, by omega⟩
      · rw [if_neg e]; exact ⟨z, h, Int.le_refl _⟩
    · exact ⟨z, h, Int.le_refl _⟩
theorem lowE_at (t : Tb E) (a b : E) (x : Int) : ∃ y, lowE t a b x a b = some y ∧ y ≤ x := by
  unfold lowE
  cases q : t a b with
  | none => exact ⟨x, by simp [setE], Int.le_refl _⟩
  | some w =>
    simp only
    split
    · exact ⟨x, by simp [setE], Int.le_refl _⟩
    · exact ⟨w, q, by omega⟩
theorem lowE_ne {t : Tb E} {a b c d : E} {x : Int} (h : ¬ (c = a ∧ d = b)) : lowE t a b x c d = t c d := by
  unfold lowE
  cases t a b with
  | none => simp [setE, h]
  | some w =>
    simp only
    split
    · simp [setE, h]
    · rfl
theorem lowE_same {t : Tb E} {a b : E} {x z : Int} (h : t a b = some z) (hx : z ≤ x) : lowE t a b x = t := by
  unfold lowE
  rw [h]
  simp only
  rw [if_neg (by omega)]
theorem lowE_val (t : Tb E) (a b c d : E) (x : Int) : lowE t a b x c d = t c d ∨ (c = a ∧ d = b ∧ lowE t a b x c d = some x) := by
  by_cases e : c = a ∧ d = b
  · obtain ⟨rfl, rfl⟩ := e
    unfold lowE
    cases q : t c d with
    | none => right; simp [setE]
    | some w =>
      simp only
      split
      · right; simp [setE]
      · left; exact q
  · exact .inl (lowE_ne e)
/-- one turn of the going through k -/
def stepE (k : E) (t : Tb E) (a b : E) : Tb E := match t a k, t k b with
  | some x, some y => lowE t a b (x + y)
  | _, _ => t
theorem stepE_le (k : E) (t : Tb E) (a b : E) : LeT (stepE k t a b) t := by
  unfold stepE
  split
  · exact lowE_le t a b _
  · exact LeT.refl t
theorem stepE_val (k : E) (t : Tb E) (a b c d : E) : stepE k t a b c d = t c d ∨ (c = a ∧ d = b ∧ ∃ x y, t a k = some x ∧ t k b = some y ∧ stepE k t a b c d = some (x + y)) := by
  unfold stepE
  cases h1 : t a k with
  | none => exact .inl rfl
  | some x =>
    cases h2 : t k b with
    | none => exact .inl rfl
    | some y =>
      rcases lowE_val t a b c d (x + y) with h | ⟨e1, e2, h⟩
      · exact .inl h
      · exact .inr ⟨e1, e2, x, y, rfl, rfl, h⟩
def passE (k : E) (L : List (E × E)) (t : Tb E) : Tb E := L.foldl (fun t p => stepE k t p.1 p.2) t
theorem passE_le (k : E) : ∀ (L : List (E × E)) (t : Tb E), LeT (passE k L t) t
  | [], t => LeT.refl t
  | p :: L, t => (passE_le k L _).trans (stepE_le k t p.1 p.2)
/-- where k is 0 from itself, going through it leaves its own row and column -/
theorem stepE_k {k : E} {t : Tb E} (h : t k k = some 0) (a b c : E) : stepE k t a b c k = t c k ∧ stepE k t a b k c = t k c := by
  constructor
  · rcases stepE_val k t a b c k with e | ⟨e1, e2, x, y, h1, h2, e⟩
    · exact e
    · subst e1 e2
      rw [h] at h2
      cases h2
      rw [e, h1]
      simp
  · rcases stepE_val k t a b k c with e | ⟨e1, e2, x, y, h1, h2, e⟩
    · exact e
    · subst e1 e2
      rw [h] at h1
      cases h1
      rw [e, h2]
      simp
theorem passE_k {k : E} : ∀ (L : List (E × E)) {t : Tb E}, t k k = some 0 → ∀ c, passE k L t c k = t c k ∧ passE k L t k c = t k c
  | [], t, _, c => ⟨rfl, rfl⟩
  | p :: L, t, h, c => by
    have h0 := stepE_k h p.1 p.2
    have ih := passE_k L (t := stepE k t p.1 p.2) ((h0 k).1.trans h) c
    exact ⟨ih.1.trans (h0 c).1, ih.2.trans (h0 c).2⟩
/-- an entry behind the pass: as it was, or by k -/
theorem passE_val {k : E} : ∀ (L : List (E × E)) {t : Tb E}, t k k = some 0 → ∀ a b, passE k L t a b = t a b ∨ ∃ x y, t a k = some x ∧ t k b = some y ∧ passE k L t a b = some (x + y)
  | [], t, _, a, b => .inl rfl
  | p :: L, t, h, a, b => by
    have h0 := stepE_k h p.1 p.2
    rcases passE_val L (t := stepE k t p.1 p.2) ((h0 k).1.trans h) a b with e | ⟨x, y, h1, h2, e⟩
    · rcases stepE_val k t p.1 p.2 a b with e2 | ⟨rfl, rfl, x, y, h1, h2, e2⟩
      · exact .inl (e.trans e2)
      · exact .inr ⟨x, y, h1, h2, e.trans e2⟩
    · exact .inr ⟨x, y, by rw [← (h0 a).1]; exact h1, by rw [← (h0 b).2]; exact h2, e⟩
theorem passE_low {k : E} : ∀ (L : List (E × E)) {t : Tb E}, t k k = some 0 → ∀ a b x y, (a, b) ∈ L → t a k = some x → t k b = some y → ∃ z, passE k L t a b = some z ∧ z ≤ x + y
  | p :: L, t, h, a, b, x, y, hm, h1, h2 => by
    have h0 := stepE_k h p.1 p.2
    have hk := (h0 k).1.trans h
    by_cases e : (a, b) = p
    · subst e
      have : ∃ z, stepE k t a b a b = some z ∧ z ≤ x + y := by
        unfold stepE
        rw [h1, h2]
        exact lowE_at _ _ _ _
      obtain ⟨z, e1, e2⟩ := this
      obtain ⟨w, e3, e4⟩ := passE_le k L (stepE k t a b) a b z e1
      exact ⟨w, e3, by omega⟩
    · have hm' : (a, b) ∈ L := by
        rcases List.mem_cons.mp hm with q | q
        · exact absurd q e
        · exact q
      exact passE_low L hk a b x y hm' (by rw [(h0 a).1]; exact h1) (by rw [(h0 b).2]; exact h2)
/-- what has been gone through -/
def Thru (P : List E) (t : Tb E) (k : E) : Prop := ∀ a ∈ P, ∀ b ∈ P, ∀ x y, t a k = some x → t k b = some y → ∃ z, t a b = some z ∧ z ≤ x + y
theorem passE_thru {P : List E} {k : E} {L : List (E × E)} {t : Tb E} (hL : ∀ a ∈ P, ∀ b ∈ P, (a, b) ∈ L) (h : t k k = some 0) : Thru P (passE k L t) k := fun a ha b hb x y h1 h2 => by
  rw [(passE_k L h a).1] at h1
  rw [(passE_k L h b).2] at h2
  exact passE_low L h a b x y (hL a ha b hb) h1 h2
theorem passE_keep {P : List E} {k k' : E} (hkP : k ∈ P) {L : List (E × E)} {t : Tb E} (hL : ∀ a ∈ P, ∀ b ∈ P, (a, b) ∈ L) (h : t k k = some 0) (hk : Thru P t k') : Thru P (passE k L t) k' := fun a ha b hb x y h1 h2 => by
  have le := passE_le k L t
  rcases passE_val L h a k' with e1 | ⟨p, q, p1, p2, e1⟩
  · rw [e1] at h1
    rcases passE_val L h k' b with e2 | ⟨r, s, r1, r2, e2⟩
    · rw [e2] at h2
      obtain ⟨z, z1, z2⟩ := hk a ha b hb x y h1 h2
      obtain ⟨w, w1, w2⟩ := le a b z z1
      exact ⟨w, w1, by omega⟩
    · rw [e2] at h2
      cases h2
      obtain ⟨z, z1, z2⟩ := hk a ha k hkP x r h1 r1
      obtain ⟨w, w1, w2⟩ := passE_low L h a b z s (hL a ha b hb) z1 r2
      exact ⟨w, w1, by omega⟩
  · rw [e1] at h1
    cases h1
    rcases passE_val L h k' b with e2 | ⟨r, s, r1, r2, e2⟩
    · rw [e2] at h2
      obtain ⟨z, z1, z2⟩ := hk k hkP b hb q y p2 h2
      obtain ⟨w, w1, w2⟩ := passE_low L h a b p z (hL a ha b hb) p1 z1
      exact ⟨w, w1, by omega⟩
    · rw [e2] at h2
      cases h2
      obtain ⟨z, z1, z2⟩ := hk k hkP k hkP q r p2 r1
      rw [h] at z1
      cases z1
      obtain ⟨w, w1, w2⟩ := passE_low L h a b p s (hL a ha b hb) p1 r2
      exact ⟨w, w1, by omega⟩
def passesE (L : List (E × E)) (Ks : List E) (t : Tb E) : Tb E := Ks.foldl (fun t k => passE k L t) t
theorem passesE_le (L : List (E × E)) : ∀ (Ks : List E) (t : Tb E), LeT (passesE L Ks t) t
  | [], t => LeT.refl t
  | k :: Ks, t => (passesE_le L Ks _).trans (passE_le k L t)
theorem passesE_thru {P : List E} {L : List (E × E)} (hL : ∀ a ∈ P, ∀ b ∈ P, (a, b) ∈ L) : ∀ (Ks : List E) (t : Tb E), (∀ k ∈ Ks, k ∈ P) → (∀ a ∈ P, ∃ x, t a a = some x ∧ x ≤ 0) → (∀ a ∈ P, ∀ x, passesE L Ks t a a = some x → 0 ≤ x) → ∀ k' ∈ P, (Thru P t k' ∨ k' ∈ Ks) → Thru P (passesE L Ks t) k'
  | [], t, _, _, _, k', _, hk' => hk'.elim id fun z => by cases z
  | k :: Ks, t, hP, h0, hf, k', hkP', hk' => by
    have hkP := hP k (by simp)
    have hkk : t k k = some 0 := by
      obtain ⟨x, h1, h2⟩ := h0 k hkP
      obtain ⟨y, h3, h4⟩ := passesE_le L (k :: Ks) t k k x h1
      have := hf k hkP y h3
      have : x = 0 := by omega
      rw [h1, this]
    have h0' : ∀ a ∈ P, ∃ x, passE k L t a a = some x ∧ x ≤ 0 := fun a ha => by
      obtain ⟨x, h1, h2⟩ := h0 a ha
      obtain ⟨y, h3, h4⟩ := passE_le k L t a a x h1
      exact ⟨y, h3, by omega⟩
    refine passesE_thru hL Ks (passE k L t) (fun a ha => hP a (List.mem_cons_of_mem _ ha)) h0' hf k' hkP' ?_
    rcases hk' with z | z
    · exact .inl (passE_keep hkP hL hkk z)
    · rcases List.mem_cons.mp z with z | z
      · subst z; exact .inl (passE_thru hL hkk)
      · exact .inr z
/-- all entries are walks -/
def AllW (row : List (Bd E)) (t : Tb E) : Prop := ∀ a b x, t a b = some x → Walk row a b x
theorem AllW.step {row : List (Bd E)} {t : Tb E} (h : AllW row t) (k a b : E) : AllW row (stepE k t a b) := fun c d x hx => by
  rcases stepE_val k t a b c d with e | ⟨rfl, rfl, p, q, h1, h2, e⟩
  · exact h c d x (by rw [← e]; exact hx)
  · rw [e] at hx
    cases hx
    exact (h _ _ _ h1).trans (h _ _ _ h2)
theorem AllW.pass {row : List (Bd E)} (k : E) : ∀ (L : List (E × E)) {t : Tb E}, AllW row t → AllW row (passE k L t)
  | [], _, h => h
  | p :: L, _, h => AllW.pass k L (h.step k p.1 p.2)
theorem AllW.passes {row : List (Bd E)} (L : List (E × E)) : ∀ (Ks : List E) {t : Tb E}, AllW row t → AllW row (passesE L Ks t)
  | [], _, h => h
  | k :: Ks, _, h => AllW.passes L Ks (h.pass k L)
/-- the bounds' own turn -/
def rowE (row : List (Bd E)) (t : Tb E) : Tb E := row.foldl (fun t e => lowE t e.a e.b e.m) t
theorem rowE_le : ∀ (row : List (Bd E)) (t : Tb E), LeT (rowE row t) t
  | [], t => LeT.refl t
  | e :: row, t => (rowE_le row _).trans (lowE_le t e.a e.b e.m)
theorem rowE_at : ∀ (row : List (Bd E)) (t : Tb E), ∀ e ∈ row, ∃ z, rowE row t e.a e.b = some z ∧ z ≤ e.m
  | f :: row, t, e, h => by
    rcases List.mem_cons.mp h with z | z
    · subst z
      obtain ⟨y, h1, h2⟩ := lowE_at t e.a e.b e.m
      obtain ⟨w, h3, h4⟩ := rowE_le row _ e.a e.b y h1
      exact ⟨w, h3, by omega⟩
    · exact rowE_at row _ e z
theorem rowE_walk {row0 : List (Bd E)} : ∀ (row : List (Bd E)) {t : Tb E}, (∀ e ∈ row, e ∈ row0) → AllW row0 t → AllW row0 (rowE row t)
  | [], _, _, h => h
  | e :: row, t, hs, h => by
    refine rowE_walk row (fun f hf => hs f (List.mem_cons_of_mem _ hf)) fun c d x hx => ?_
    rcases lowE_val t e.a e.b c d e.m with z | ⟨rfl, rfl, z⟩
    · exact h c d x (by rw [← z]; exact hx)
    · have hx : lowE t e.a e.b e.m e.a e.b = some x := hx
      rw [z] at hx
      cases hx
      exact Walk.one (hs e (by simp))
/-- the table: none to begin with, 0 from each place to itself -/
def tab0 (P : List E) : Tb E := fun a b => if a = b ∧ a ∈ P then some 0 else none
def pairsE (P : List E) : List (E × E) := P.flatMap fun a => P.map fun b => (a, b)
theorem mem_pairsE {P : List E} : ∀ a ∈ P, ∀ b ∈ P, (a, b) ∈ pairsE P := fun a ha b hb => by
  unfold pairsE
  rw [List.mem_flatMap]
  exact ⟨a, ha, List.mem_map.mpr ⟨b, hb, rfl⟩⟩
def tabE (P : List E) (row : List (Bd E)) : Tb E := passesE (pairsE P) P (rowE row (tab0 P))
theorem tabE_walk (P : List E) (row : List (Bd E)) : AllW row (tabE P row) := AllW.passes _ _ (rowE_walk row (fun _ h => h) fun a b x h => by
  unfold tab0 at h
  split at h
  · rename_i e
    cases h
    rw [e.1]
    exact .nil _
  · cases h)
/-- none below 0 round -/
def goodT (P : List E) (t : Tb E) : Prop := ∀ a ∈ P, ∀ x, t a a = some x → 0 ≤ x
theorem tabE_tab {P : List E} {row : List (Bd E)} (h : goodT P (tabE P row)) : Tab P row (tabE P row) := by
  have d0 : ∀ a ∈ P, ∃ x, rowE row (tab0 P) a a = some x ∧ x ≤ 0 := fun a ha => by
    obtain ⟨y, h1, h2⟩ := rowE_le row (tab0 P) a a 0 (by simp [tab0, ha])
    exact ⟨y, h1, h2⟩
  refine ⟨fun a ha => ?_, fun a ha b hb c hc x y h1 h2 => ?_, fun e he => ?_, tabE_walk P row⟩
  · obtain ⟨x, h1, h2⟩ := d0 a ha
    obtain ⟨y, h3, h4⟩ := passesE_le (pairsE P) P _ a a x h1
    have := h a ha y h3
    have : y = 0 := by omega
    show passesE _ _ _ a a = _
    rw [h3, this]
  · exact passesE_thru mem_pairsE P _ (fun k hk => hk) d0 h b hb (.inr hb) a ha c hc x y h1 h2
  · obtain ⟨z, h1, h2⟩ := rowE_at row (tab0 P) e he
    obtain ⟨w, h3, h4⟩ := passesE_le (pairsE P) P _ _ _ z h1
    exact ⟨w, h3, by omega⟩
theorem tabE_bad {P : List E} {row : List (Bd E)} (h : ¬ goodT P (tabE P row)) (u : E → Int) : ¬ World row u := fun hu => by
  apply h
  intro a ha x hx
  have := (tabE_walk P row a a x hx).world hu
  omega
/-! ### what a table tells -/
section
variable {P : List E} {row : List (Bd E)} {t : Tb E}
theorem Tab.of_walk (T : Tab P row t) (hr : ∀ e ∈ row, e.a ∈ P ∧ e.b ∈ P) {a b : E} {x : Int} (ha : a ∈ P) (h : Walk row a b x) : b ∈ P ∧ ∃ z, t a b = some z ∧ z ≤ x := by
  induction h with
  | nil => exact ⟨ha, 0, T.diag _ ha, Int.le_refl _⟩
  | @snoc b c x m w e ih =>
    obtain ⟨hb, z, h1, h2⟩ := ih
    obtain ⟨y, h3, h4⟩ := T.le _ e
    have hc := (hr _ e).2
    obtain ⟨s, h5, h6⟩ := T.tri a ha b hb c hc z y h1 h3
    exact ⟨hc, s, h5, by simp only at h4; omega⟩
/-- times that keep the table are a world -/
theorem Tab.world (T : Tab P row t) {u : E → Int} (h : ∀ a ∈ P, ∀ b ∈ P, ∀ x, t a b = some x → u b - u a ≤ x) (hr : ∀ e ∈ row, e.a ∈ P ∧ e.b ∈ P) : World row u := fun e he => by
  obtain ⟨z, h1, h2⟩ := T.le e he
  have := h e.a (hr e he).1 e.b (hr e he).2 z h1
  omega
theorem Tab.keep (T : Tab P row t) {u : E → Int} (hu : World row u) {a b : E} {x : Int} (h : t a b = some x) : u b - u a ≤ x := (T.walk a b x h).world hu
end
end
end Fm
set_option Elab.async false
set_option linter.all false
set_option maxRecDepth 100000
set_option maxHeartbeats 2000000
namespace Fc
open PySem L2 Evl PySem.Spec PyProof.Rows
/-! ### dicts with their keys given; tables -/
section
variable {α β γ σ τ υ κ κ' : Type} [DecidableEq κ]
theorem forT_rel {f : α → σ → R σ} {g : υ → α → υ} (Rr : σ → υ → Prop) : ∀ (xs : List α) (s : σ) (u : υ), Rr s u → (∀ x ∈ xs, ∀ s u, Rr s u → ∃ s', f x s = .ok s' ∧ Rr s' (g u x)) → ∃ s', forT f xs s = .ok s' ∧ Rr s' (xs.foldl g u)
  | [], s, u, h, _ => ⟨s, rfl, h⟩
  | x :: xs, s, u, h, k => by
    obtain ⟨s', h1, h2⟩ := k x (by simp) s u h
    rw [forT_cons, h1]
    exact forT_rel Rr xs s' (g u x) h2 fun y hy => k y (List.mem_cons_of_mem _ hy)
theorem lkO_some {l : List (κ × α)} {k : κ} (h : k ∈ l.map (·.1)) : ∃ v, lkO l k = some v ∧ (k, v) ∈ l := by
  unfold lkO
  induction l with
  | nil => cases h
  | cons e l ih =>
    rw [List.find?_cons]
    by_cases c : e.1 = k
    · rw [decide_eq_true c]
      refine ⟨e.2, rfl, ?_⟩
      rw [← c]
      exact List.mem_cons_self
    · rw [decide_eq_false c]
      rw [List.map_cons, List.mem_cons] at h
      obtain ⟨v, h1, h2⟩ := ih (h.resolve_left fun z => c z.symm)
      exact ⟨v, h1, List.mem_cons_of_mem _ h2⟩
theorem lkO_none {l : List (κ × α)} {k : κ} (h : k ∉ l.map (·.1)) : lkO l k = none := by
  unfold lkO
  rw [Option.map_eq_none_iff, List.find?_eq_none]
  intro e he
  rw [decide_eq_true_eq]
  intro z
  exact h (List.mem_map.mpr ⟨e, he, z⟩)
theorem lkO_map {l : List (κ × α)} {k : κ} (f : κ → α → β) : lkO (l.map fun e => (e.1, f e.1 e.2)) k = (lkO l k).map (f k) := by
  unfold lkO
  induction l with
  | nil => rfl
  | cons e l ih =>
    rw [List.map_cons, List.find?_cons, List.find?_cons]
    by_cases c : e.1 = k
    · simp only [decide_eq_true c, Option.map_some]
      rw [c]
    · simp only [decide_eq_false c]; exact ih
theorem lkO_append {l m : List (κ × α)} {k : κ} : lkO (l ++ m) k = (lkO l k).or (lkO m k) := by
  unfold lkO
  rw [List.find?_append]
  cases l.find? _ <;> rfl
theorem lkO_putL (l : List (κ × α)) (k j : κ) (v : α) : lkO (putL l k v) j = if j = k then some v else lkO l j := by
  unfold putL
  split
  · rename_i h
    have e : (l.map fun e => if e.1 = k then (e.1, v) else e) = l.map fun e => (e.1, (fun a b => if a = k then v else b) e.1 e.2) := by
      apply List.map_congr_left
      intro e _
      by_cases c : e.1 = k <;> simp [c]
    rw [e, lkO_map (f := fun a b => if a = k then v else b)]
    by_cases c : j = k
    · subst c
      obtain ⟨w, hw⟩ := Option.isSome_iff_exists.mp h
      rw [hw]; simp
    · simp [c]
  · rename_i h
    rw [lkO_append]
    by_cases c : j = k
    · subst c
      cases q : lkO l j with
      | some w => rw [q] at h; exact absurd rfl h
      | none => simp [lkO]
    · rw [if_neg c]
      have : lkO [(k, v)] j = none := lkO_none (by simp; exact c)
      rw [this]
      cases lkO l j <;> rfl
theorem putL_keys {l : List (κ × α)} {k : κ} (h : k ∈ l.map (·.1)) (v : α) : (putL l k v).map (·.1) = l.map (·.1) := by
  unfold putL
  obtain ⟨w, hw, _⟩ := lkO_some h
  rw [hw]
  simp only [Option.isSome_some, if_true, List.map_map]
  apply List.map_congr_left
  intro e _
  show (if e.1 = k then (e.1, v) else e).1 = e.1
  split <;> rfl
theorem putL_new {l : List (κ × α)} {k : κ} (h : k ∉ l.map (·.1)) (v : α) : putL l k v = l ++ [(k, v)] := by
  unfold putL
  rw [lkO_none h]
  rfl
theorem mergeL_nodup : ∀ (m : List (P2 κ α)) (acc : List (κ × α)), (acc.map (·.1) ++ m.map (·.a)).Nodup → mergeL acc m = acc ++ m.map fun p => (p.a, p.b)
  | [], acc, _ => by simp [mergeL]
  | p :: m, acc, h => by
    have h1 : p.a ∉ acc.map (·.1) := fun z => by
      rw [List.map_cons, List.nodup_append] at h
      exact h.2.2 p.a z p.a (by simp) rfl
    unfold mergeL
    rw [List.foldl_cons, putL_new h1]
    have := mergeL_nodup m (acc ++ [(p.a, p.b)]) (by rw [List.map_append, List.append_assoc]; exact h)
    unfold mergeL at this
    rw [this, List.append_assoc]
    rfl
variable [DecidableEq κ']
theorem setN_keys {k : κ} {d : Dct κ' α} : ∀ l : List (κ × Dct κ' α), (put2T.setN l k d).map (·.1) = l.map (·.1)
  | [] => rfl
  | e :: l => by
    unfold put2T.setN
    split
    · rfl
    · rw [List.map_cons, List.map_cons, setN_keys l]
theorem setN_mem {k : κ} {d : Dct κ' α} : ∀ (l : List (κ × Dct κ' α)) (e : κ × Dct κ' α), e ∈ put2T.setN l k d → e.2 = d ∨ e ∈ l
  | [], e, h => by cases h
  | f :: l, e, h => by
    unfold put2T.setN at h
    split at h
    · rcases List.mem_cons.mp h with z | z
      · rw [z]; exact .inl rfl
      · exact .inr (List.mem_cons_of_mem _ z)
    · rcases List.mem_cons.mp h with z | z
      · rw [z]; exact .inr List.mem_cons_self
      · rcases setN_mem l e z with q | q
        · exact .inl q
        · exact .inr (List.mem_cons_of_mem _ q)
theorem lkO_setN {k : κ} {d : Dct κ' α} : ∀ (l : List (κ × Dct κ' α)) (j : κ), k ∈ l.map (·.1) → lkO (put2T.setN l k d) j = if j = k then some d else lkO l j
  | e :: l, j, h => by
    unfold put2T.setN
    by_cases c : e.1 = k
    · rw [if_pos c]
      unfold lkO
      rw [List.find?_cons, List.find?_cons]
      by_cases cj : j = k
      · subst cj
        simp [c]
      · have : ¬ e.1 = j := fun z => cj (z.symm.trans c)
        simp [this, cj]
    · rw [if_neg c]
      rw [List.map_cons, List.mem_cons] at h
      have ih := lkO_setN (d := d) l j (h.resolve_left fun z => c z.symm)
      unfold lkO at ih ⊢
      rw [List.find?_cons, List.find?_cons]
      by_cases cj : e.1 = j
      · have : ¬ j = k := fun z => c (cj.trans z)
        simp [cj, this]
      · simp only [decide_eq_false cj]
        exact ih
end
abbrev TTab := Dct TEv (Dct TEv (Option Int))
def tf (t : TTab) : Fm.Tb TEv := fun a b => match lkO t.l a with
  | some r => (lkO r.l b).getD none
  | none => none
structure Sh (P : List TEv) (t : TTab) : Prop where
  o : t.l.map (·.1) = P
  i : ∀ e ∈ t.l, e.2.l.map (·.1) = P
theorem get2 {P : List TEv} {t : TTab} (s : Sh P t) {a b : TEv} (ha : a ∈ P) (hb : b ∈ P) : ((lkT t a).bind fun r => lkT r b) = .ok (tf t a b) := by
  obtain ⟨r, h1, h2⟩ := lkO_some (l := t.l) (k := a) (by rw [s.o]; exact ha)
  obtain ⟨v, h3, h4⟩ := lkO_some (l := r.l) (k := b) (by rw [s.i _ h2]; exact hb)
  unfold lkT tf
  rw [h1]
  simp only [unO_some, R.bind_ok, h3, Option.getD_some]
theorem put2 {P : List TEv} {t : TTab} (s : Sh P t) (hl : P.length ≤ 1000) {a b : TEv} (ha : a ∈ P) (hb : b ∈ P) (v : Option Int) : ∃ t', ((lkT t a).bind fun r => (put2T t a r b v).bind fun x => R.ok x) = .ok t' ∧ Sh P t' ∧ tf t' = fun c d => if c = a ∧ d = b then v else tf t c d := by
  obtain ⟨r, h1, h2⟩ := lkO_some (l := t.l) (k := a) (by rw [s.o]; exact ha)
  have hr := s.i _ h2
  have hlen : r.l.length = P.length := by
    have := congrArg List.length hr
    simpa using this
  refine ⟨⟨put2T.setN t.l a ⟨putL r.l b v⟩⟩, ?_, ⟨?_, fun e he => ?_⟩, ?_⟩
  · unfold lkT put2T
    have hz : szB (r.l.length + 1) = true := decide_eq_true (by omega)
    rw [h1, unO_some, R.bind_ok, if_pos hz]
    rfl
  · rw [setN_keys]; exact s.o
  · rcases setN_mem _ _ he with z | z
    · rw [z]
      show (putL r.l b v).map (·.1) = P
      rw [putL_keys (by rw [hr]; exact hb)]
      exact hr
    · exact s.i e z
  · funext c d
    unfold tf
    rw [lkO_setN _ _ (by rw [s.o]; exact ha)]
    by_cases hc : c = a
    · subst hc
      rw [if_pos rfl, h1]
      simp only [lkO_putL]
      by_cases hd : d = b
      · simp [hd]
      · simp [hd]
    · simp [hc]
def bdm (b : TBnd) : Fm.Bd TEv := ⟨b.a, b.b, b.c⟩
theorem foldl_flat {α β γ : Type} (f : α → List β) (g : γ → β → γ) : ∀ (l : List α) (t : γ), (l.flatMap f).foldl g t = l.foldl (fun t a => (f a).foldl g t) t
  | [], t => rfl
  | a :: l, t => by rw [List.flatMap_cons, List.foldl_append, List.foldl_cons, foldl_flat f g l]
theorem foldl_map' {α β γ : Type} (f : α → β) (g : γ → β → γ) : ∀ (l : List α) (t : γ), (l.map f).foldl g t = l.foldl (fun t a => g t (f a)) t
  | [], t => rfl
  | a :: l, t => by rw [List.map_cons, List.foldl_cons, List.foldl_cons, foldl_map' f g l]
theorem diag0 : ∀ (P : List TEv) (t : Fm.Tb TEv), P.foldl (fun t a => fun c d => if c = a ∧ d = a then some 0 else t c d) t = fun c d => if c = d ∧ c ∈ P then some 0 else t c d
  | [], t => by funext c d; simp
  | a :: P, t => by
    rw [List.foldl_cons, diag0 P]
    funext c d
    by_cases h : c = d
    · subst h
      by_cases h1 : c ∈ P
      · simp [h1]
      · by_cases h2 : c = a
        · simp [h1, h2]
        · simp [h1, h2]
    · have : ¬ (c = a ∧ d = a) := fun z => h (z.1.trans z.2.symm)
      simp [h, this]
end Fc
set_option Elab.async false
set_option linter.all false
set_option maxRecDepth 100000
set_option maxHeartbeats 2000000
namespace Fc
open PySem L2 Evl PySem.Spec PyProof.Rows
/-! ### the law's table -/
def RelT (P : List TEv) (t : TTab) (u : Fm.Tb TEv) : Prop := Sh P t ∧ tf t = u
theorem foldl_congr' {α β : Type} {f g : β → α → β} : ∀ (l : List α) (b : β), (∀ x ∈ l, ∀ b, f b x = g b x) → l.foldl f b = l.foldl g b
  | [], _, _ => rfl
  | x :: l, b, h => by
    rw [List.foldl_cons, List.foldl_cons, h x (by simp), foldl_congr' l _ fun y hy => h y (List.mem_cons_of_mem _ hy)]
theorem passE_eq (k : TEv) (P : List TEv) (t : Fm.Tb TEv) : Fm.passE k (Fm.pairsE P) t = P.foldl (fun t a => P.foldl (fun t b => Fm.stepE k t a b) t) t := by
  unfold Fm.passE Fm.pairsE
  rw [foldl_flat]
  apply foldl_congr'
  intro a _ b
  rw [foldl_map']
theorem lkr {P : List TEv} {t : TTab} (s : Sh P t) {a : TEv} (ha : a ∈ P) : ∃ r, lkT t a = .ok r := by
  obtain ⟨r, h1, _⟩ := lkO_some (l := t.l) (k := a) (by rw [s.o]; exact ha)
  exact ⟨r, by unfold lkT; rw [h1]; rfl⟩
theorem tab_init {P : List TEv} (hP : P.Nodup) (hl : P.length ≤ 1000) : ∃ t, tabT (fun y1 : TEv => R.ok y1) (fun y1 => (lcT (fun y5 : TEv => R.ok true) (fun x6 => R.ok (⟨x6, none⟩ : P2 TEv (Option Int))) P).bind fun x8 => dictT x8) P = .ok t ∧ RelT P t (fun _ _ => none) := by
  have e1 : lcT (fun y5 : TEv => R.ok true) (fun x6 => R.ok (⟨x6, none⟩ : P2 TEv (Option Int))) P = .ok (P.map fun x => ⟨x, none⟩) := lcT_map (fun x _ => rfl) (by omega)
  have e2 : dictT (P.map fun x => (⟨x, none⟩ : P2 TEv (Option Int))) = .ok ⟨P.map fun x => (x, none)⟩ := by
    unfold dictT
    rw [if_pos (decide_eq_true (by rw [List.length_map]; exact hl)), mergeL_nodup _ _ (by rw [List.map_nil, List.nil_append, List.map_map]; exact (List.map_id P).symm ▸ hP), List.map_map]
    rfl
  have e12 : (fun y1 : TEv => (lcT (fun y5 : TEv => R.ok true) (fun x6 => R.ok (⟨x6, none⟩ : P2 TEv (Option Int))) P).bind fun x8 => dictT x8) = fun _ => R.ok ⟨P.map fun x => (x, none)⟩ := by
    funext _
    rw [e1, R.bind_ok, e2]
  rw [e12]
  have e3 : ∀ Q : List TEv, tabGo (fun y1 : TEv => R.ok y1) (fun _ : TEv => R.ok (⟨P.map fun x => (x, none)⟩ : Dct TEv (Option Int))) Q = .ok (Q.map fun a => (a, ⟨P.map fun x => (x, none)⟩)) := by
    intro Q
    induction Q with
    | nil => rfl
    | cons a Q ih =>
      unfold tabGo
      simp only [ih]
      rfl
  refine ⟨⟨P.map fun a => (a, ⟨P.map fun x => (x, none)⟩)⟩, ?_, ⟨?_, fun e he => ?_⟩, ?_⟩
  · unfold tabT
    rw [e3, R.bind_ok, if_pos]
    refine decide_eq_true ⟨?_, by rw [List.length_map]; exact hl⟩
    rw [List.map_map]
    have : ((fun x : TEv × Dct TEv (Option Int) => x.1) ∘ fun a => (a, (⟨P.map fun x => (x, none)⟩ : Dct TEv (Option Int)))) = id := rfl
    rw [this, List.map_id]
    exact hP
  · rw [List.map_map]
    exact List.map_id P
  · obtain ⟨a, _, rfl⟩ := List.mem_map.mp he
    show (P.map fun x => (x, (none : Option Int))).map (·.1) = P
    rw [List.map_map]
    exact List.map_id P
  · funext a b
    unfold tf
    split
    · rename_i r hr
      have hm : (a, r) ∈ P.map fun a => (a, (⟨P.map fun x => (x, none)⟩ : Dct TEv (Option Int))) := by
        unfold lkO at hr
        obtain ⟨e, h1, h2⟩ := Option.map_eq_some_iff.mp hr
        have h3 := List.mem_of_find?_eq_some h1
        have h4 : e.1 = a := of_decide_eq_true (List.find?_some (p := fun e : TEv × Dct TEv (Option Int) => decide (e.1 = a)) h1)
        rw [← h4, ← h2]
        exact h3
      obtain ⟨a', _, e⟩ := List.mem_map.mp hm
      cases e
      cases q : lkO (P.map fun x => (x, (none : Option Int))) b with
      | none => rfl
      | some v =>
        unfold lkO at q
        obtain ⟨e, h1, h2⟩ := Option.map_eq_some_iff.mp q
        obtain ⟨x, _, rfl⟩ := List.mem_map.mp (List.mem_of_find?_eq_some h1)
        exact h2.symm
    · rfl
theorem law_table_ok {P : List TEv} (hP : P.Nodup) (hl : P.length ≤ 1000) {row : List TBnd} (hr : ∀ e ∈ row, e.a ∈ P ∧ e.b ∈ P) :
    (∃ t, T_law_table P row = .ok (some t) ∧ Sh P t ∧ Fm.Tab P (row.map bdm) (tf t)) ∨ (T_law_table P row = .ok none ∧ ∀ u, ¬ Fm.World (row.map bdm) u) := by
  obtain ⟨t0, e0, r0⟩ := tab_init hP hl
  -- 0 from each place to itself
  obtain ⟨t1, e1, r1⟩ := forT_rel (f := fun (x10 : TEv) (s11 : TTab) => (lkT s11 x10).bind fun x19 => (put2T s11 x10 x19 x10 (some 0)).bind fun v_far_20 => R.ok v_far_20)
    (g := fun (t : Fm.Tb TEv) a => fun c d => if c = a ∧ d = a then some 0 else t c d) (RelT P) P t0 _ r0 fun x hx s u ⟨h1, h2⟩ => by
      obtain ⟨t', g1, g2, g3⟩ := put2 h1 hl hx hx (some 0)
      exact ⟨t', g1, g2, by rw [g3, h2]⟩
  rw [diag0] at r1
  have r1' : RelT P t1 (Fm.tab0 P) := r1
  -- the bounds
  obtain ⟨t2, e2, r2⟩ := forT_rel (f := fun (x21 : TBnd) (s22 : TTab) => (orR (((lkT s22 x21.a).bind fun x32 => lkT x32 x21.b).bind fun x33 => R.ok x33.isNone)
      (((lkT s22 x21.a).bind fun x32 => lkT x32 x21.b).bind fun x38 => (unO x38).bind fun x39 => R.ok (decide (x21.c < x39)))).bind fun x46 =>
      if x46 = true then (lkT s22 x21.a).bind fun x44 => (put2T s22 x21.a x44 x21.b (some x21.c)).bind fun v_far_20 => R.ok v_far_20 else R.ok s22)
    (g := fun (t : Fm.Tb TEv) e => Fm.lowE t e.a e.b e.c) (RelT P) row t1 _ r1' fun x hx s u ⟨h1, h2⟩ => by
      obtain ⟨ha, hb⟩ := hr x hx
      obtain ⟨t', g1, g2, g3⟩ := put2 h1 hl ha hb (some x.c)
      rw [get2 h1 ha hb, R.bind_ok, orR_ok, R.bind_ok, ← h2]
      unfold Fm.lowE
      cases q : tf s x.a x.b with
      | none =>
        simp only [Option.isNone_none, if_true, R.bind_ok]
        exact ⟨t', g1, g2, g3⟩
      | some z =>
        simp only [Option.isNone_some, Bool.false_eq_true, if_false, unO_some, R.bind_ok, decide_eq_true_eq]
        by_cases c : x.c < z
        · rw [if_pos c, if_pos c]
          exact ⟨t', g1, g2, g3⟩
        · rw [if_neg c, if_neg c]
          exact ⟨s, rfl, h1, rfl⟩
  have r2' : RelT P t2 (Fm.rowE (row.map bdm) (Fm.tab0 P)) := by
    unfold Fm.rowE
    rw [foldl_map']
    exact r2
  -- through each place
  have inner : ∀ k ∈ P, ∀ a ∈ P, ∀ s u, RelT P s u → ∃ s', forT (fun (x67 : TEv) (s68 : TTab) => (andR (((lkT s68 a).bind fun x76 => lkT x76 k).bind fun x77 => R.ok x77.isSome) (((lkT s68 k).bind fun x80 => lkT x80 x67).bind fun x77 => R.ok x77.isSome)).bind fun x110 =>
      if x110 = true then (((lkT s68 a).bind fun x76 => lkT x76 k).bind fun x88 => ((lkT s68 k).bind fun x80 => lkT x80 x67).bind fun x89 => (unO x88).bind fun x90 => (unO x89).bind fun x91 => R.ok (x90 + x91)).bind fun v_whole_92 =>
        (orR (((lkT s68 a).bind fun x80 => lkT x80 x67).bind fun x33 => R.ok x33.isNone) (((lkT s68 a).bind fun x80 => lkT x80 x67).bind fun x101 => (unO x101).bind fun x102 => R.ok (decide (v_whole_92 < x102)))).bind fun x109 =>
        if x109 = true then (lkT s68 a).bind fun x107 => (put2T s68 a x107 x67 (some v_whole_92)).bind fun v_far_20 => R.ok v_far_20 else R.ok s68
      else R.ok s68) P s = .ok s' ∧ RelT P s' (P.foldl (fun t b => Fm.stepE k t a b) u) := by
    intro k hk a ha s u hs
    refine forT_rel (RelT P) P s u hs fun b hb s u ⟨h1, h2⟩ => ?_
    simp only [get2 h1 ha hk, get2 h1 hk hb, get2 h1 ha hb, R.bind_ok, andR_ok, orR_ok]
    rw [← h2]
    unfold Fm.stepE
    cases q1 : tf s a k with
    | none =>
      simp only [Option.isSome_none, Bool.false_eq_true, if_false, R.bind_ok]
      exact ⟨s, rfl, h1, rfl⟩
    | some x =>
      cases q2 : tf s k b with
      | none =>
        simp only [Option.isSome_some, Option.isSome_none, Bool.false_eq_true, if_true, if_false, R.bind_ok]
        exact ⟨s, rfl, h1, rfl⟩
      | some y =>
        simp only [Option.isSome_some, if_true, R.bind_ok, unO_some]
        obtain ⟨t', g1, g2, g3⟩ := put2 h1 hl ha hb (some (x + y))
        unfold Fm.lowE
        cases q : tf s a b with
        | none =>
          simp only [Option.isNone_none, if_true, R.bind_ok]
          exact ⟨t', g1, g2, g3⟩
        | some z =>
          simp only [Option.isNone_some, Bool.false_eq_true, if_false, unO_some, R.bind_ok, decide_eq_true_eq]
          by_cases c : x + y < z
          · rw [if_pos c, if_pos c]
            exact ⟨t', g1, g2, g3⟩
          · rw [if_neg c, if_neg c]
            exact ⟨s, rfl, h1, rfl⟩
  obtain ⟨t3, e3, r3⟩ := forT_rel (f := fun (x47 : TEv) (s48 : TTab) => (forT (fun (x58 : TEv) (s59 : TTab) => (forT (fun (x67 : TEv) (s68 : TTab) => (andR (((lkT s68 x58).bind fun x76 => lkT x76 x47).bind fun x77 => R.ok x77.isSome) (((lkT s68 x47).bind fun x80 => lkT x80 x67).bind fun x77 => R.ok x77.isSome)).bind fun x110 =>
      if x110 = true then (((lkT s68 x58).bind fun x76 => lkT x76 x47).bind fun x88 => ((lkT s68 x47).bind fun x80 => lkT x80 x67).bind fun x89 => (unO x88).bind fun x90 => (unO x89).bind fun x91 => R.ok (x90 + x91)).bind fun v_whole_92 =>
        (orR (((lkT s68 x58).bind fun x80 => lkT x80 x67).bind fun x33 => R.ok x33.isNone) (((lkT s68 x58).bind fun x80 => lkT x80 x67).bind fun x101 => (unO x101).bind fun x102 => R.ok (decide (v_whole_92 < x102)))).bind fun x109 =>
        if x109 = true then (lkT s68 x58).bind fun x107 => (put2T s68 x58 x107 x67 (some v_whole_92)).bind fun v_far_20 => R.ok v_far_20 else R.ok s68
      else R.ok s68) P s59).bind fun v_far_20 => R.ok v_far_20) P s48).bind fun v_far_20 => R.ok v_far_20)
    (g := fun (t : Fm.Tb TEv) k => Fm.passE k (Fm.pairsE P) t) (RelT P) P t2 _ r2' fun k hk s u hs => by
      obtain ⟨s', g1, g2⟩ := forT_rel (f := fun (x58 : TEv) (s59 : TTab) => (forT (fun (x67 : TEv) (s68 : TTab) => (andR (((lkT s68 x58).bind fun x76 => lkT x76 k).bind fun x77 => R.ok x77.isSome) (((lkT s68 k).bind fun x80 => lkT x80 x67).bind fun x77 => R.ok x77.isSome)).bind fun x110 =>
          if x110 = true then (((lkT s68 x58).bind fun x76 => lkT x76 k).bind fun x88 => ((lkT s68 k).bind fun x80 => lkT x80 x67).bind fun x89 => (unO x88).bind fun x90 => (unO x89).bind fun x91 => R.ok (x90 + x91)).bind fun v_whole_92 =>
            (orR (((lkT s68 x58).bind fun x80 => lkT x80 x67).bind fun x33 => R.ok x33.isNone) (((lkT s68 x58).bind fun x80 => lkT x80 x67).bind fun x101 => (unO x101).bind fun x102 => R.ok (decide (v_whole_92 < x102)))).bind fun x109 =>
            if x109 = true then (lkT s68 x58).bind fun x107 => (put2T s68 x58 x107 x67 (some v_whole_92)).bind fun v_far_20 => R.ok v_far_20 else R.ok s68
          else R.ok s68) P s59).bind fun v_far_20 => R.ok v_far_20)
        (g := fun (t : Fm.Tb TEv) a => P.foldl (fun t b => Fm.stepE k t a b) t) (RelT P) P s u hs fun a ha s u hs => by
          obtain ⟨s', g1, g2⟩ := inner k hk a ha s u hs
          exact ⟨s', by rw [g1]; rfl, g2⟩
      exact ⟨s', by rw [g1]; rfl, by rw [passE_eq]; exact g2⟩
  have r3' : RelT P t3 (Fm.tabE P (row.map bdm)) := r3
  have hd : ∀ a ∈ P, ∃ x, tf t3 a a = some x := fun a ha => by
    rw [r3'.2]
    obtain ⟨y, h1, _⟩ := (Fm.passesE_le (Fm.pairsE P) P _).trans (Fm.rowE_le (row.map bdm) (Fm.tab0 P)) a a 0 (by simp [Fm.tab0, ha])
    exact ⟨y, h1⟩
  have e4 : lcT (fun y111 : TEv => ((lkT t3 y111).bind fun x114 => lkT x114 y111).bind fun x115 => (unO x115).bind fun x116 => R.ok (decide (x116 < 0))) (fun y111 => R.ok y111) P = .ok ((P.filter fun a => decide ((tf t3 a a).getD 0 < 0)).map id) :=
    lcT_ok (fun a ha => ⟨by
      obtain ⟨x, hx⟩ := hd a ha
      rw [get2 r3'.1 ha ha, hx]
      rfl, fun _ => rfl⟩) (by omega)
  rw [List.map_id] at e4
  have hval : T_law_table P row = if (P.filter fun a => decide ((tf t3 a a).getD 0 < 0)) = [] then .ok (some t3) else .ok none := by
    unfold T_law_table
    simp only [R.bind_ok]
    rw [e0, R.bind_ok, e1, R.bind_ok, e2, R.bind_ok, e3, R.bind_ok]
    rw [e4, R.bind_ok]
    show (iteR (R.ok (decide (P.filter (fun a => decide ((tf t3 a a).getD 0 < 0)) = []))) (R.ok (some t3)) (R.ok none)).bind (fun x121 => R.ok x121) = _
    rw [iteR_ok]
    by_cases c : (P.filter fun a => decide ((tf t3 a a).getD 0 < 0)) = []
    · rw [if_pos c, if_pos (decide_eq_true c)]; rfl
    · rw [if_neg c, if_neg (by rw [decide_eq_true_eq]; exact c)]; rfl
  by_cases c : (P.filter fun a => decide ((tf t3 a a).getD 0 < 0)) = []
  · left
    refine ⟨t3, by rw [hval, if_pos c], r3'.1, ?_⟩
    rw [r3'.2]
    refine Fm.tabE_tab fun a ha x hx => ?_
    rw [← r3'.2] at hx
    rw [List.filter_eq_nil_iff] at c
    have := c a ha
    rw [hx] at this
    simp at this
    omega
  · right
    refine ⟨by rw [hval, if_neg c], Fm.tabE_bad (P := P) fun h => c ?_⟩
    rw [List.filter_eq_nil_iff]
    intro a ha
    obtain ⟨x, hx⟩ := hd a ha
    have := h a ha x (by rw [← r3'.2]; exact hx)
    rw [hx]
    simp
    omega
end Fc
set_option Elab.async false
set_option linter.all false
set_option maxRecDepth 100000
set_option maxHeartbeats 2000000
namespace Fc
open PySem L2 Evl PySem.Spec PyProof.Rows
/-! ### the law's events -/
def evs (i : Nat) : List Clk → List Ev
  | [] => []
  | c :: cs => ((List.range c.rs.length).map fun j => (i, j)) ++ evs (i + 1) cs
theorem evs_mem (e : Ev) : ∀ (cs : List Clk) (i : Nat), e ∈ evs i cs ↔ ∃ k, e.1 = i + k ∧ EvOk cs (k, e.2)
  | [], i => by simp [evs, EvOk]
  | c :: cs, i => by
    unfold evs
    rw [List.mem_append, evs_mem e cs (i + 1), List.mem_map]
    constructor
    · rintro (⟨j, hj, rfl⟩ | ⟨k, h1, c', h2, h3⟩)
      · exact ⟨0, rfl, c, rfl, List.mem_range.mp hj⟩
      · exact ⟨k + 1, by omega, c', h2, h3⟩
    · rintro ⟨k, h1, c', h2, h3⟩
      cases k with
      | zero =>
        simp only [List.getElem?_cons_zero, Option.some.injEq] at h2
        subst h2
        exact .inl ⟨e.2, List.mem_range.mpr h3, Prod.ext h1.symm rfl⟩
      | succ k => exact .inr ⟨k, by omega, c', by simpa using h2, h3⟩
theorem evs_iff (cs : List Clk) (e : Ev) : e ∈ evs 0 cs ↔ EvOk cs e := by
  rw [evs_mem]
  constructor
  · rintro ⟨k, h1, h2⟩
    have : e = (k, e.2) := Prod.ext (by omega) rfl
    rw [this]
    exact h2
  · intro h
    exact ⟨e.1, by omega, h⟩
theorem evs_len : ∀ (cs : List Clk) (i : Nat), (∀ c ∈ cs, c.rs.length ≤ 4) → (evs i cs).length ≤ 4 * cs.length
  | [], _, _ => Nat.zero_le _
  | c :: cs, i, h => by
    have h1 := h c (by simp)
    have h2 := evs_len cs (i + 1) fun x hx => h x (List.mem_cons_of_mem _ hx)
    unfold evs
    rw [List.length_append, List.length_map, List.length_range, List.length_cons]
    omega
theorem rngD_map (n : Nat) : rngD 0 n = (List.range n).map fun j => .int ((j : Nat) : Int) := by
  unfold rngD
  simp
theorem C_law_events_1_ok (i : Nat) (c : Clk) (hc : c.rs.length ≤ 4) (s0 s1 s4 : Slot) : C_law_events_1 [s0, s1, .fz (.int (i : Nat)), .fz c.d, s4] = .ok (.list (((List.range c.rs.length).map fun j => (i, j)).map evd)) := by
  have h : (.list (((List.range c.rs.length).map fun j => (i, j)).map evd) : D) = .list ((rngD 0 c.rs.length).filterMap fun d => some (.tuple [.int (i : Nat), d])) := by
    rw [fm_some, rngD_map]
    simp only [List.map_map]
    rfl
  rw [h]
  refine eLc_map ?_ (fun x hx => ?_) (by unfold rngD; simp; omega)
  · have : (-100000 ≤ ((c.rs.length : Nat) : Int)) ∧ ((c.rs.length : Nat) : Int) ≤ 100000 := by omega
    simp [Clk.d, dRng1, this]
  · rw [lcStep_eq]
    simp [wipeE]
    rw [lcK_map (b := true) rfl fun _ => by simp; rfl]
    rfl
theorem law_events_ok (cs : List Clk) (hc : ∀ c ∈ cs, c.rs.length ≤ 4) (hl : cs.length ≤ 10) : F_law_events [.tuple (cs.map Clk.d)] = .ok (.list ((evs 0 cs).map evd)) := by
  have loop : ∀ s2 s3 s4, ∃ a b c, L_law_events_1 [.fz (.tuple (cs.map Clk.d)), .fz (.list []), s2, s3, s4] = .nx [.fz (.tuple (cs.map Clk.d)), .fz (.list ((evs 0 cs).map evd)), a, b, c] := by
    intro s2 s3 s4
    refine sFor_post (ds := enumD 0 (cs.map Clk.d)) (Post := fun r => ∃ a b c, r = .nx [.fz (.tuple (cs.map Clk.d)), .fz (.list ((evs 0 cs).map evd)), a, b, c]) (by simp [dEnum])
      (fun ds ρ => ∃ (i : Nat) (cs' : List Clk) (pre : List Ev) (a b c : Slot), ds = enumD i (cs'.map Clk.d) ∧ ρ = [.fz (.tuple (cs.map Clk.d)), .fz (.list (pre.map evd)), a, b, c] ∧ pre ++ evs i cs' = evs 0 cs ∧ ∀ c ∈ cs', c.rs.length ≤ 4) ⟨0, cs, [], s2, s3, s4, rfl, rfl, rfl, hc⟩ ?_ ?_
    · rintro ρ ⟨i, cs', pre, a, b, c, h1, h2, h3, _⟩
      cases cs' with
      | nil =>
        rw [h2]
        have : pre = evs 0 cs := by rw [← h3]; simp [evs]
        rw [this]
        exact ⟨a, b, c, rfl⟩
      | cons x xs => cases h1
    · rintro d ds ρ ⟨i, cs', pre, a, b, c, h1, h2, h3, h4⟩
      cases cs' with
      | nil => cases h1
      | cons x xs =>
        simp only [List.map_cons, enumD, List.cons.injEq] at h1
        obtain ⟨rfl, rfl⟩ := h1
        subst h2
        refine ⟨_, gTup2 2 3 _ _ _, ?_⟩
        have hx := h4 x (by simp)
        have e1 := C_law_events_1_ok i x hx (.fz (.tuple (cs.map Clk.d))) (.fz (.list (pre.map evd))) c
        have hlen := evs_len cs 0 hc
        have e2 : dAdd (.list (pre.map evd)) (.list (((List.range x.rs.length).map fun j => (i, j)).map evd)) = .ok (.list ((pre ++ (List.range x.rs.length).map fun j => (i, j)).map evd)) := by
          rw [dAdd_l, List.map_append]
          rw [← h3] at hlen
          simp only [List.length_append, evs, List.length_map, List.length_range] at hlen ⊢
          omega
        simp only [List.set_cons_succ, List.set_cons_zero]
        unfold B_law_events_1
        simp only [sAsg_eq, eBin_eq, eW_eq, e1, List.getElem?_cons_zero, List.getElem?_cons_succ, rdW_fz, R.bind_ok, e2, rK_ok, List.set_cons_succ, List.set_cons_zero]
        refine ⟨i + 1, xs, _, _, _, _, rfl, rfl, ?_, fun y hy => h4 y (List.mem_cons_of_mem _ hy)⟩
        rw [List.append_assoc]
        exact h3
  obtain ⟨a, b, c, hL⟩ := loop .un .un .un
  unfold F_law_events M_law_events
  simp only [runF_1, List.reduceReplicate, Nat.reduceSub]
  simp [hL]
/-! ### lists of what fails -/
theorem eqv_nil {L : List D} : PyData.eqv (.list L) (.list []) = L.isEmpty := by
  cases L <;> simp [PyData.eqv, PyData.eqvAll]
theorem filter_any {p : D → Bool} : ∀ l : List D, (!(l.filter p).isEmpty) = l.any p
  | [] => rfl
  | a :: l => by
    have ih := filter_any (p := p) l
    cases q : p a with
    | true => simp [q]
    | false => rw [List.filter_cons_of_neg (by simp [q]), List.any_cons, q, Bool.false_or, ih]
/-- [x for x in xs if p(x)] != [] -/
theorem bad_lc {w n : Nat} {it : DI} {g : DG} {t m : DE} {vs : List Nat} {ρ : En} {ds : List D} {p : D → Bool} (hi : it ρ = .ok ds) (h : ∀ d ∈ ds, lcStep g t m vs ρ d = some (if p d = true then some d else none)) (hl : ds.length ≤ w) (hw : w ≤ 100000) (hg : ∀ d ∈ ds, gd w n d = true) (hn : n ≤ 63) :
    ∃ L, eLc it g t m vs ρ = .ok (.list L) ∧ dNe (.list L) (.list []) = .ok (.bool (ds.any p)) := by
  refine ⟨_, eLc_map (f := fun d => if p d = true then some d else none) hi h (by omega), ?_⟩
  rw [fm_if]
  have g1 : gd w (n + 1) (.list (ds.filter p)) = true := gdLst (Nat.le_trans (List.length_filter_le _ _) hl) fun x hx => hg x (List.mem_filter.mp hx).1
  have g2 : gd w (n + 1) (.list []) = true := gdLst (Nat.zero_le _) (by simp)
  rw [dNe_gd g1 g2 (by omega), eqv_nil]
  rw [filter_any]
theorem evd_gd (e : Ev) : gd 2 1 (evd e) = true := by simp [evd, gd, leafB]
theorem row_gd (cs : List Clk) (hc : ∀ c ∈ cs, c.rs.length ≤ 4) (hl : cs.length ≤ 4) : gd 16 2 (.list ((evs 0 cs).map evd)) = true := by
  refine gdLst ?_ fun x hx => ?_
  · have := evs_len cs 0 hc
    rw [List.length_map]
    omega
  · obtain ⟨e, _, rfl⟩ := List.mem_map.mp hx
    exact gd_mono (by omega) (Nat.le_refl _) (evd_gd e)
theorem eqv_ints : ∀ (a b : List Int), PyData.eqvAll (a.map PyData.int) (b.map PyData.int) = decide (a = b)
  | [], [] => rfl
  | [], _ :: _ => rfl
  | _ :: _, [] => rfl
  | a :: as, b :: bs => by
    simp only [List.map_cons, PyData.eqvAll, PyData.eqv, eqv_ints as bs]
    by_cases h : a = b <;> simp [h]
theorem not_all {ds : List D} {p : D → Bool} : ds.any (fun d => !p d) = !ds.all p := by
  induction ds with
  | nil => rfl
  | cons a l ih => simp [ih, Bool.not_and]
theorem cutL_sub {α : Type} {xs : List α} {a b : Option Int} : (cutL xs a b).length ≤ xs.length ∧ ∀ x ∈ cutL xs a b, x ∈ xs := by
  unfold cutL
  refine ⟨?_, fun x hx => List.mem_of_mem_drop (List.mem_of_mem_take hx)⟩
  rw [List.length_take, List.length_drop]
  omega
theorem cutL_to {α : Type} (xs : List α) (k : Nat) (h : k ≤ xs.length) : cutL xs none (some (k : Int)) = xs.take k := by
  unfold cutL
  rw [HT.sIx_none, HT.sIx_nat, Nat.min_eq_left h]
  simp
theorem cutL_from {α : Type} (xs : List α) (k : Nat) (h : k ≤ xs.length) : cutL xs (some (k : Int)) none = xs.drop k := by
  unfold cutL
  rw [HT.sIx_none, HT.sIx_nat, Nat.min_eq_left h]
  exact List.take_of_length_le (by rw [List.length_drop]; omega)
theorem atI_mem {α : Type} {xs : List α} {i : Int} (h0 : 0 ≤ i) (h1 : i < (xs.length : Nat)) : ∃ x, atI xs i = some x ∧ x ∈ xs := by
  obtain ⟨h, e⟩ := atI_lt h0 h1
  exact ⟨_, e, List.getElem_mem h⟩
end Fc
set_option Elab.async false
set_option linter.all false
set_option maxRecDepth 100000
set_option maxHeartbeats 2000000
namespace Fc
open PySem L2 Evl PySem.Spec PyProof.Rows
/-! ### the law's clock -/
structure Clk.Gen (c : Clk) : Prop where
  ok : c.Ok
  l3 : c.rs.length ≤ 3
  r15 : ∀ r ∈ c.rs, r ≤ 15
  s3 : c.slow ≤ 3
  f5 : c.fast ≤ 5
theorem rng_mem {n : Nat} {x : D} (h : x ∈ rngD 0 n) : ∃ k : Nat, k < n ∧ x = .int (k : Nat) := by
  rw [rngD_map] at h
  obtain ⟨k, hk, rfl⟩ := List.mem_map.mp h
  exact ⟨k, List.mem_range.mp hk, rfl⟩
theorem dRng1_i (n : Int) (h : 0 ≤ n ∧ n ≤ 100000) : dRng1 [.int n] = .ok (rngD 0 n.toNat) := by
  have h : (-100000 ≤ n) ∧ n ≤ 100000 := by omega
  simp [dRng1, h]
theorem rng_len (n : Nat) : (rngD 0 n).length = n := by unfold rngD; simp
theorem law_clock_ok (ns : List Int) (hl : ns.length ≤ 63) (at_ : Int) : ∃ c : Clk, F_law_clock [scD ns, .int at_] = .ok c.d ∧ c.Gen := by
  obtain ⟨a, a0, a1, ea⟩ := law_drawn_ok ns hl at_ 3 (by omega)
  obtain ⟨b, b0, b1, eb⟩ := law_drawn_ok ns hl (at_ + 2) 6 (by omega)
  obtain ⟨c, c0, c1, ec⟩ := law_drawn_ok ns hl (at_ + 1) 3 (by omega)
  obtain ⟨d, d0, d1, ed⟩ := law_drawn_ok ns hl (at_ + 6) 3 (by omega)
  have loop : ∃ (rs : List Int) (s4 : Slot), L_law_clock_1 [.fz (scD ns), .fz (.int at_), .fz (.int (1 + a)), .fz (.tuple [.int b]), .un] = .nx [.fz (scD ns), .fz (.int at_), .fz (.int (1 + a)), .fz (.tuple (rs.map PyData.int)), s4] ∧ 1 ≤ rs.length ∧ rs.length ≤ 3 ∧ rs.Pairwise (· < ·) ∧ ∀ r ∈ rs, 0 ≤ r ∧ r ≤ 15 := by
    refine sFor_post (ds := rngD 0 c.toNat) (Post := fun r => ∃ (rs : List Int) (s4 : Slot), r = .nx [.fz (scD ns), .fz (.int at_), .fz (.int (1 + a)), .fz (.tuple (rs.map PyData.int)), s4] ∧ 1 ≤ rs.length ∧ rs.length ≤ 3 ∧ rs.Pairwise (· < ·) ∧ ∀ r ∈ rs, 0 ≤ r ∧ r ≤ 15)
      (by simp [ec, dRng1_i c (by omega)])
      (fun ds ρ => ∃ (rs : List Int) (s4 : Slot), ρ = [.fz (scD ns), .fz (.int at_), .fz (.int (1 + a)), .fz (.tuple (rs.map PyData.int)), s4] ∧ 1 ≤ rs.length ∧ rs.length + ds.length ≤ 3 ∧ rs.Pairwise (· < ·) ∧ (∀ r ∈ rs, 0 ≤ r ∧ r + 5 * (ds.length : Nat) ≤ 15) ∧ ∀ x ∈ ds, ∃ k : Nat, x = .int (k : Nat)) ?_ ?_ ?_
    · refine ⟨[b], .un, rfl, by simp, ?_, by simp, fun r hr => ?_, fun x hx => ?_⟩
      · rw [rng_len]; simp only [List.length_cons, List.length_nil]; omega
      · rw [rng_len]
        simp only [List.mem_cons, List.not_mem_nil, or_false] at hr
        subst hr
        omega
      · obtain ⟨k, _, e⟩ := rng_mem hx
        exact ⟨k, e⟩
    · rintro ρ ⟨rs, s4, rfl, h1, h2, h3, h4, _⟩
      exact ⟨rs, s4, rfl, h1, by simpa using h2, h3, fun r hr => by have := h4 r hr; simp at this; omega⟩
    · rintro x ds ρ ⟨rs, s4, rfl, h1, h2, h3, h4, h5⟩
      obtain ⟨k, rfl⟩ := h5 x (by simp)
      obtain ⟨v, v0, v1, ev⟩ := law_drawn_ok ns hl (at_ + 3 + k) 5 (by omega)
      obtain ⟨pre, l, rfl⟩ : ∃ pre l, rs = pre ++ [l] := ⟨rs.dropLast, rs.getLast (by intro z; rw [z] at h1; simp at h1), (List.dropLast_concat_getLast _).symm⟩
      refine ⟨_, gN_eq _ _ _, ?_⟩
      simp only [List.set_cons_succ, List.set_cons_zero]
      have hx : atI ((pre ++ [l]).map PyData.int) (-1) = some (.int l) := by
        rw [List.map_append]
        exact atI_last _ _
      have hlen : (pre ++ [l]).length ≤ 3 := by omega
      have ha : dAdd (.tuple ((pre ++ [l]).map PyData.int)) (.tuple [.int (l + 1 + v)]) = .ok (.tuple ((pre ++ [l] ++ [l + 1 + v]).map PyData.int)) := by
        rw [dAdd_t _ _ (by rw [List.length_map]; simp only [List.length_cons, List.length_nil]; omega), List.map_append (l₁ := pre ++ [l])]
        rfl
      have hB : B_law_clock_1 [.fz (scD ns), .fz (.int at_), .fz (.int (1 + a)), .fz (.tuple ((pre ++ [l]).map PyData.int)), .fz (.int k)] = .nx [.fz (scD ns), .fz (.int at_), .fz (.int (1 + a)), .fz (.tuple ((pre ++ [l] ++ [l + 1 + v]).map PyData.int)), .fz (.int k)] := by
        unfold B_law_clock_1
        generalize hG : (pre ++ [l]).map PyData.int = G at hx ha
        generalize hG2 : (pre ++ [l] ++ [l + 1 + v]).map PyData.int = G2 at ha
        simp [ev, hx, ha]
      rw [hB]
      have hl' := h4 l (by simp)
      simp only [List.length_cons] at h2 h4 hl'
      refine ⟨pre ++ [l] ++ [l + 1 + v], .fz (.int k), rfl, by simp, ?_, ?_, ?_, fun y hy => h5 y (List.mem_cons_of_mem _ hy)⟩
      · simp only [List.length_append, List.length_cons, List.length_nil] at h2 ⊢
        omega
      · refine List.pairwise_append.mpr ⟨h3, by simp, fun x hx y hy => ?_⟩
        simp only [List.mem_cons, List.not_mem_nil, or_false] at hy
        subst hy
        rcases List.mem_append.mp hx with z | z
        · have := (List.pairwise_append.mp h3).2.2 x z l (by simp)
          omega
        · simp only [List.mem_cons, List.not_mem_nil, or_false] at z
          omega
      · intro r hr
        rcases List.mem_append.mp hr with z | z
        · have := h4 r z
          omega
        · simp only [List.mem_cons, List.not_mem_nil, or_false] at z
          subst z
          omega
  obtain ⟨rs, s4, hL, h1, h2, h3, h4⟩ := loop
  refine ⟨⟨1 + a, 1 + a + d, rs⟩, ?_, ⟨⟨by show 1 ≤ 1 + a; omega, by show 1 + a ≤ 1 + a + d; omega, by show 1 + a + d ≤ 9; omega, h1, by show rs.length ≤ 4; omega, fun r hr => by have := h4 r hr; omega, h3⟩, h2, fun r hr => (h4 r hr).2, by show 1 + a ≤ 3; omega, by show 1 + a + d ≤ 5; omega⟩⟩
  unfold F_law_clock M_law_clock
  simp only [runF_2, List.reduceReplicate, Nat.reduceSub]
  simp [ea, eb, ed, hL, Clk.d]
/-! ### the law's letter -/
structure Ltr.Gen (cs : List Clk) (l : Ltr) : Prop where
  ok : l.Ok cs
  lo7 : l.lo ≤ 7
  hi15 : ∀ h, l.hi = some h → h ≤ 15
theorem ok_ev {cs : List Clk} {i : Int} (h0 : 0 ≤ i) (h1 : i < ((evs 0 cs).length : Nat)) : ∃ e, (evs 0 cs)[i.toNat]? = some e ∧ EvOk cs e ∧ atI ((evs 0 cs).map evd) i = some (evd e) := by
  have h : i.toNat < (evs 0 cs).length := by omega
  refine ⟨(evs 0 cs)[i.toNat], List.getElem?_eq_getElem h, (evs_iff cs _).mp (List.getElem_mem h), ?_⟩
  obtain ⟨_, e⟩ := atI_lt (xs := (evs 0 cs).map evd) h0 (by rw [List.length_map]; omega)
  rw [e, List.getElem_map]
theorem evs_nodup : ∀ (cs : List Clk) (i : Nat), (evs i cs).Nodup
  | [], _ => List.nodup_nil
  | c :: cs, i => by
    unfold evs
    refine List.nodup_append.mpr ⟨?_, evs_nodup cs (i + 1), ?_⟩
    · refine List.Pairwise.map _ (fun a b hab z => hab ?_) List.nodup_range
      simpa using z
    · intro a ha b hb z
      subst z
      obtain ⟨j, _, rfl⟩ := List.mem_map.mp ha
      obtain ⟨k, h, _⟩ := (evs_mem _ cs (i + 1)).mp hb
      simp only at h
      omega
theorem law_letter_ok (ns : List Int) (hl : ns.length ≤ 63) (at_ : Int) (cs : List Clk) (hc : ∀ c ∈ cs, c.rs.length ≤ 4) (hn : cs.length ≤ 10) : F_law_letter [scD ns, .int at_, .tuple (cs.map Clk.d)] = .ok .none ∨ ∃ l : Ltr, F_law_letter [scD ns, .int at_, .tuple (cs.map Clk.d)] = .ok l.d ∧ l.Gen cs := by
  have er := law_events_ok cs hc hn
  by_cases h2 : (((evs 0 cs).length : Nat) : Int) < 2
  · left
    unfold F_law_letter M_law_letter
    simp only [runF_3, List.reduceReplicate, Nat.reduceSub]
    simp [er, h2]
  · right
    obtain ⟨a, a0, a1, ea⟩ := law_drawn_ok ns hl at_ ((evs 0 cs).length : Nat) (by omega)
    obtain ⟨b, b0, b1, eb⟩ := law_drawn_ok ns hl (at_ + 1) (((evs 0 cs).length : Nat) - 1) (by omega)
    obtain ⟨c, c0, c1, ec⟩ := law_drawn_ok ns hl (at_ + 2) 8 (by omega)
    obtain ⟨d, d0, d1, ed⟩ := law_drawn_ok ns hl (at_ + 3) 3 (by omega)
    obtain ⟨e, e0, e1, ee⟩ := law_drawn_ok ns hl (at_ + 4) 9 (by omega)
    have o0 := Int.emod_nonneg (a + 1 + b) (show (((evs 0 cs).length : Nat) : Int) ≠ 0 by omega)
    have o1 := Int.emod_lt_of_pos (a + 1 + b) (show (0 : Int) < ((evs 0 cs).length : Nat) by omega)
    have one : (a + 1 + b) % (((evs 0 cs).length : Nat) : Int) ≠ a := by
      intro z
      by_cases q : a + 1 + b < ((evs 0 cs).length : Nat)
      · rw [Int.emod_eq_of_lt (by omega) q] at z
        omega
      · have : (a + 1 + b) % (((evs 0 cs).length : Nat) : Int) = (a + 1 + b) - ((evs 0 cs).length : Nat) := by
          rw [← Int.sub_emod_right, Int.emod_eq_of_lt (by omega) (by omega)]
        omega
    have em := dMod_i (a + 1 + b) ((evs 0 cs).length : Nat) (by omega)
    generalize ho : (a + 1 + b) % (((evs 0 cs).length : Nat) : Int) = o at o0 o1 one em
    obtain ⟨p, p1, p2, p3⟩ := ok_ev (cs := cs) a0 a1
    obtain ⟨q, q1, q2, q3⟩ := ok_ev (cs := cs) o0 o1
    have ne : p ≠ q := by
      intro z
      subst z
      have nd := evs_nodup cs 0
      have i1 := (List.getElem?_eq_some_iff.mp p1)
      have i2 := (List.getElem?_eq_some_iff.mp q1)
      have := (List.getElem_inj nd).mp (i1.2.trans i2.2.symm)
      omega
    refine ⟨⟨p, q, c, if d == 0 then none else some (c + e)⟩, ?_, ⟨⟨p2, q2, ne, c0, by show c ≤ 999; omega, fun h z => ?_⟩, by show c ≤ 7; omega, fun h z => ?_⟩⟩
    · unfold F_law_letter M_law_letter
      simp only [runF_3, List.reduceReplicate, Nat.reduceSub]
      by_cases hd : d = 0
      · simp [er, h2, ea, eb, ec, ed, ee, em, p3, q3, hd, Ltr.d, optD]
      · simp [er, h2, ea, eb, ec, ed, ee, em, p3, q3, hd, Ltr.d, optD]
    · show c ≤ h ∧ h ≤ 999
      simp only at z
      split at z
      · cases z
      · cases z; omega
    · simp only at z
      split at z
      · cases z
      · cases z; omega
end Fc
set_option Elab.async false
set_option linter.all false
set_option maxRecDepth 100000
set_option maxHeartbeats 2000000
namespace Fc
open PySem L2 Evl PySem.Spec PyProof.Rows
/-! ### the law's record -/
structure Rec.Gen (most : Nat) (r : Rec) : Prop where
  c1 : 1 ≤ r.cs.length
  c3 : r.cs.length ≤ 3
  cs : ∀ c ∈ r.cs, c.Gen
  lm : r.ls.length ≤ most
  ls : ∀ l ∈ r.ls, l.Gen r.cs
theorem Rec.Gen.ok {most : Nat} {r : Rec} (g : r.Gen most) (h : most ≤ 8) : r.Ok :=
  ⟨g.c1, Nat.le_trans g.c3 (by decide), fun c hc => (g.cs c hc).ok, Nat.le_trans g.lm h, fun l hl => (g.ls l hl).ok⟩
theorem C_law_record_1_ok (ns : List Int) (hl : ns.length ≤ 63) (at_ : Int) (s2 s3 s4 s5 s6 : Slot) : ∃ cs : List Clk, C_law_record_1 [.fz (scD ns), .fz (.int at_), s2, s3, s4, s5, s6] = .ok (.list (cs.map Clk.d)) ∧ 1 ≤ cs.length ∧ cs.length ≤ 3 ∧ ∀ c ∈ cs, c.Gen := by
  obtain ⟨a, a0, a1, ea⟩ := law_drawn_ok ns hl at_ 3 (by omega)
  obtain ⟨f, hf⟩ := Classical.skolem.mp fun k : Nat => law_clock_ok ns hl (at_ + 1 + 8 * (k : Int))
  refine ⟨(List.range (1 + a).toNat).map f, ?_, by simp; omega, by simp; omega, fun c hc => ?_⟩
  · have h : (.list (((List.range (1 + a).toNat).map f).map Clk.d) : D) = .list ((rngD 0 (1 + a).toNat).filterMap fun d => some (match d with | .int k => (f k.toNat).d | _ => .none)) := by
      rw [fm_some, rngD_map]
      simp only [List.map_map]
      congr 1
    rw [h]
    refine eLc_map (by simp [ea, dRng1_i (1 + a) (by omega)]) (fun x hx => ?_) (by rw [rng_len]; omega)
    obtain ⟨k, hk, rfl⟩ := rng_mem hx
    rw [lcStep_eq]
    have e := (hf k).1
    have em := dMul_i 8 (k : Int) (by simp)
    simp only [wipeE, gN_eq, List.set_cons_succ, List.set_cons_zero]
    rw [lcK_map (b := true) (d := (f k).d) rfl fun _ => by simp [e, em]]
    simp
  · obtain ⟨k, _, rfl⟩ := List.mem_map.mp hc
    exact (hf k).2
theorem dMul_l (x : D) (b : Bool) : dMul (.list [x]) (.int (if b = true then 1 else 0)) = .ok (.list (if b = true then [x] else [])) := by
  cases b <;> rfl
theorem law_record_ok (ns : List Int) (hl : ns.length ≤ 63) (at_ : Int) (most : Nat) (hm : most ≤ 1000) : ∃ r : Rec, F_law_record [scD ns, .int at_, .int (most : Nat)] = .ok r.d ∧ r.Gen most := by
  obtain ⟨cs, ec, c1, c3, hc⟩ := C_law_record_1_ok ns hl at_ (.fz (.int (most : Nat))) .un .un .un .un
  obtain ⟨a, a0, a1, ea⟩ := law_drawn_ok ns hl (at_ + 30) ((most : Nat) + 1) (by omega)
  have loop : ∃ (ls : List Ltr) (s5 s6 : Slot), L_law_record_1 [.fz (scD ns), .fz (.int at_), .fz (.int (most : Nat)), .fz (.tuple (cs.map Clk.d)), .fz (.list []), .un, .un] = .nx [.fz (scD ns), .fz (.int at_), .fz (.int (most : Nat)), .fz (.tuple (cs.map Clk.d)), .fz (.list (ls.map Ltr.d)), s5, s6] ∧ ls.length ≤ most ∧ ∀ l ∈ ls, l.Gen cs := by
    refine sFor_post (ds := rngD 0 a.toNat) (Post := fun r => ∃ (ls : List Ltr) (s5 s6 : Slot), r = .nx [.fz (scD ns), .fz (.int at_), .fz (.int (most : Nat)), .fz (.tuple (cs.map Clk.d)), .fz (.list (ls.map Ltr.d)), s5, s6] ∧ ls.length ≤ most ∧ ∀ l ∈ ls, l.Gen cs)
      (by simp [ea, dRng1_i a (by omega)])
      (fun ds ρ => ∃ (ls : List Ltr) (s5 s6 : Slot), ρ = [.fz (scD ns), .fz (.int at_), .fz (.int (most : Nat)), .fz (.tuple (cs.map Clk.d)), .fz (.list (ls.map Ltr.d)), s5, s6] ∧ ls.length + ds.length ≤ most ∧ (∀ l ∈ ls, l.Gen cs) ∧ ∀ x ∈ ds, ∃ k : Nat, x = .int (k : Nat)) ?_ ?_ ?_
    · refine ⟨[], .un, .un, rfl, by rw [rng_len]; simp only [List.length_nil]; omega, by simp, fun x hx => ?_⟩
      obtain ⟨k, _, e⟩ := rng_mem hx
      exact ⟨k, e⟩
    · rintro ρ ⟨ls, s5, s6, rfl, h1, h2, _⟩
      exact ⟨ls, s5, s6, rfl, by simpa using h1, h2⟩
    · rintro x ds ρ ⟨ls, s5, s6, rfl, h1, h2, h3⟩
      obtain ⟨k, rfl⟩ := h3 x (by simp)
      refine ⟨_, gN_eq _ _ _, ?_⟩
      simp only [List.set_cons_succ, List.set_cons_zero]
      rw [List.length_cons] at h1
      have em := dMul_i 6 (k : Int) (by simp)
      rcases law_letter_ok ns hl (at_ + 31 + 6 * (k : Int)) cs (fun c h => (hc c h).ok.l4) (by omega) with e | ⟨l, e, hg⟩
      · have hB : B_law_record_1 [.fz (scD ns), .fz (.int at_), .fz (.int (most : Nat)), .fz (.tuple (cs.map Clk.d)), .fz (.list (ls.map Ltr.d)), .fz (.int (k : Nat)), s6] = .nx [.fz (scD ns), .fz (.int at_), .fz (.int (most : Nat)), .fz (.tuple (cs.map Clk.d)), .fz (.list (ls.map Ltr.d)), .fz (.int (k : Nat)), .fz .none] := by
          have e2 : dAdd (.list (ls.map Ltr.d)) (.list []) = .ok (.list (ls.map Ltr.d)) := by
            rw [dAdd_l _ _ (by simp only [List.length_map, List.length_nil]; omega), List.append_nil]
          have e3 := dMul_l .none false
          simp only [Bool.false_eq_true, if_false] at e3
          unfold B_law_record_1
          simp [e, em, e2, e3, dInt]
        rw [hB]
        exact ⟨ls, _, _, rfl, by omega, h2, fun y hy => h3 y (List.mem_cons_of_mem _ hy)⟩
      · have hB : B_law_record_1 [.fz (scD ns), .fz (.int at_), .fz (.int (most : Nat)), .fz (.tuple (cs.map Clk.d)), .fz (.list (ls.map Ltr.d)), .fz (.int (k : Nat)), s6] = .nx [.fz (scD ns), .fz (.int at_), .fz (.int (most : Nat)), .fz (.tuple (cs.map Clk.d)), .fz (.list ((ls ++ [l]).map Ltr.d)), .fz (.int (k : Nat)), .fz l.d] := by
          have e2 : dAdd (.list (ls.map Ltr.d)) (.list [l.d]) = .ok (.list ((ls ++ [l]).map Ltr.d)) := by
            rw [dAdd_l _ _ (by simp only [List.length_map, List.length_cons, List.length_nil]; omega), List.map_append]
            rfl
          have e3 := dMul_l l.d true
          simp only [if_true] at e3
          have e4 : isN l.d = false := rfl
          generalize hG : (ls ++ [l]).map Ltr.d = G at e2
          unfold B_law_record_1
          simp [e, em, e2, e3, e4, dInt]
        rw [hB]
        refine ⟨ls ++ [l], _, _, rfl, by simp; omega, fun x hx => ?_, fun y hy => h3 y (List.mem_cons_of_mem _ hy)⟩
        rcases List.mem_append.mp hx with z | z
        · exact h2 x z
        · simp only [List.mem_cons, List.not_mem_nil, or_false] at z
          rw [z]; exact hg
  obtain ⟨ls, s5, s6, hL, h1, h2⟩ := loop
  refine ⟨⟨cs, ls⟩, ?_, ⟨c1, c3, hc, h1, h2⟩⟩
  unfold F_law_record M_law_record
  simp only [runF_3, List.reduceReplicate, Nat.reduceSub]
  simp [ec, hL, dTupOf, Rec.d]
/-! records are of a bounded shape -/
theorem clk_gd {c : Clk} (h : c.rs.length ≤ 4) : gd 10 2 c.d = true := by
  refine gdTup (by simp) fun x hx => ?_
  simp only [List.mem_cons, List.not_mem_nil, or_false] at hx
  rcases hx with rfl | rfl | rfl
  · rfl
  · rfl
  · exact gdTup (by simpa using Nat.le_trans h (by decide)) fun y hy => by
      obtain ⟨i, _, rfl⟩ := List.mem_map.mp hy
      rfl
theorem ltr_gd (l : Ltr) : gd 10 2 l.d = true := by
  refine gdTup (by simp) fun x hx => ?_
  simp only [List.mem_cons, List.not_mem_nil, or_false] at hx
  rcases hx with rfl | rfl | rfl | rfl
  · exact gd_mono (by decide) (Nat.le_refl _) (evd_gd _)
  · exact gd_mono (by decide) (Nat.le_refl _) (evd_gd _)
  · rfl
  · cases l.hi <;> rfl
theorem rec_gd {r : Rec} (hc : ∀ c ∈ r.cs, c.rs.length ≤ 4) (h1 : r.cs.length ≤ 10) (h2 : r.ls.length ≤ 10) : gd 10 4 r.d = true := by
  refine gdTup (by simp) fun x hx => ?_
  simp only [List.mem_cons, List.not_mem_nil, or_false] at hx
  rcases hx with rfl | rfl
  · exact gdTup (by simpa using h1) fun y hy => by
      obtain ⟨c, h, rfl⟩ := List.mem_map.mp hy
      exact clk_gd (hc c h)
  · exact gdTup (by simpa using h2) fun y hy => by
      obtain ⟨c, h, rfl⟩ := List.mem_map.mp hy
      exact ltr_gd c
end Fc
set_option Elab.async false
set_option linter.all false
set_option maxRecDepth 100000
set_option maxHeartbeats 2000000
namespace Fc
open PySem L2 Evl PySem.Spec PyProof.Rows
/-! ### the program: need_record, events, bounds -/
@[simp] theorem sRaise_eq (c : Str) (ρ : En) : sRaise c ρ = .er c ρ := rfl
theorem need_rec_ok {r : Rec} (o : r.Ok) : F_need_record [r.d] = .ok .none := by
  obtain ⟨b, e, h⟩ := is_record_ok (w := 10) (n := 4) (rec_gd (fun c hc => (o.cs c hc).l4) (Nat.le_trans o.c4 (by decide)) (Nat.le_trans o.l8 (by decide))) (by decide)
  have hb : b = true := h.mpr ⟨r, o, rfl⟩
  subst hb
  unfold F_need_record M_need_record
  simp [runF_1, e]
theorem need_rec_no {w n : Nat} {x : D} (g : gd w n x = true) (hn : n ≤ 64) (h : ¬ recB x) : F_need_record [x] = .er "NoRecord" := by
  obtain ⟨b, e, h2⟩ := is_record_ok g hn
  cases b with
  | true => exact absurd (h2.mp rfl) h
  | false =>
    unfold F_need_record M_need_record
    simp [runF_1, e]
def sOwnK (s : Option Slot) (k : List D → RS) : RS := match s with
  | some (.ow (.list ds)) => k ds
  | _ => .bad
@[simp] theorem sOwnK_ow (ds : List D) (k : List D → RS) : sOwnK (some (.ow (.list ds))) k = k ds := rfl
@[simp] theorem sExt_eq (i : Nat) (m : DE) (ρ : En) : sExt i m ρ = sOwnK ρ[i]? fun ds => rK (m ρ) (fun d => match d with
    | .list es => if szB (ds.length + es.length) = true then .nx (ρ.set i (.ow (.list (ds ++ es)))) else .bad
    | _ => .bad) ρ := by
  unfold sExt sOwnK sE rK
  rfl
@[simp] theorem sApp_eq (i : Nat) (m : DE) (ρ : En) : sApp i m ρ = sOwnK ρ[i]? fun ds => rK (m ρ) (fun d => if szB (ds.length + 1) = true then .nx (ρ.set i (.ow (.list (ds ++ [d])))) else .bad) ρ := by
  unfold sApp sOwnK sE rK
  rfl
theorem C_events_1_ok (i : Nat) (c : Clk) (hc : c.rs.length ≤ 4) (s0 s1 s4 : Slot) : C_events_1 [s0, s1, .fz (.int (i : Nat)), .fz c.d, s4] = .ok (.list (((List.range c.rs.length).map fun j => (i, j)).map evd)) := C_law_events_1_ok i c hc s0 s1 s4
theorem events_ok {r : Rec} (o : r.Ok) : F_events [r.d] = .ok (.list ((evs 0 r.cs).map evd)) := by
  have hc : ∀ c ∈ r.cs, c.rs.length ≤ 4 := fun c h => (o.cs c h).l4
  have hl := o.c4
  have loop : ∀ s2 s3 s4, ∃ a b c, L_events_1 [.fz r.d, .ow (.list []), s2, s3, s4] = .nx [.fz r.d, .ow (.list ((evs 0 r.cs).map evd)), a, b, c] := by
    intro s2 s3 s4
    refine sFor_post (ds := enumD 0 (r.cs.map Clk.d)) (Post := fun q => ∃ a b c, q = .nx [.fz r.d, .ow (.list ((evs 0 r.cs).map evd)), a, b, c]) (by simp [dEnum, Rec.d])
      (fun ds ρ => ∃ (i : Nat) (cs' : List Clk) (pre : List Ev) (a b c : Slot), ds = enumD i (cs'.map Clk.d) ∧ ρ = [.fz r.d, .ow (.list (pre.map evd)), a, b, c] ∧ pre ++ evs i cs' = evs 0 r.cs ∧ ∀ c ∈ cs', c.rs.length ≤ 4) ⟨0, r.cs, [], s2, s3, s4, rfl, rfl, rfl, hc⟩ ?_ ?_
    · rintro ρ ⟨i, cs', pre, a, b, c, h1, h2, h3, _⟩
      cases cs' with
      | nil =>
        rw [h2]
        have : pre = evs 0 r.cs := by rw [← h3]; simp [evs]
        rw [this]
        exact ⟨a, b, c, rfl⟩
      | cons x xs => cases h1
    · rintro d ds ρ ⟨i, cs', pre, a, b, c, h1, h2, h3, h4⟩
      cases cs' with
      | nil => cases h1
      | cons x xs =>
        simp only [List.map_cons, enumD, List.cons.injEq] at h1
        obtain ⟨rfl, rfl⟩ := h1
        subst h2
        refine ⟨_, gTup2 2 3 _ _ _, ?_⟩
        have hx := h4 x (by simp)
        have e1 := C_events_1_ok i x hx (.fz r.d) (.ow (.list (pre.map evd))) c
        have hlen := evs_len r.cs 0 hc
        rw [← h3] at hlen
        simp only [List.length_append, evs, List.length_map, List.length_range] at hlen
        simp only [List.set_cons_succ, List.set_cons_zero]
        have hB : B_events_1 [.fz r.d, .ow (.list (pre.map evd)), .fz (.int (i : Nat)), .fz x.d, c] = .nx [.fz r.d, .ow (.list ((pre ++ (List.range x.rs.length).map fun j => (i, j)).map evd)), .fz (.int (i : Nat)), .fz x.d, c] := by
          have hz : pre.length + x.rs.length ≤ 100000 := by omega
          unfold B_events_1
          rw [List.map_append]
          simp only [sExt_eq, List.getElem?_cons_zero, List.getElem?_cons_succ, sOwnK_ow, e1, rK_ok, szB_lit, List.length_map, List.length_range, decide_eq_true hz, if_true, List.set_cons_succ, List.set_cons_zero]
        rw [hB]
        refine ⟨i + 1, xs, _, _, _, _, rfl, rfl, ?_, fun y hy => h4 y (List.mem_cons_of_mem _ hy)⟩
        rw [List.append_assoc]
        exact h3
  obtain ⟨a, b, c, hL⟩ := loop .un .un .un
  have hn := need_rec_ok o
  unfold F_events M_events
  simp only [runF_1, List.reduceReplicate, Nat.reduceSub]
  simp [hn, hL, frz]
end Fc
set_option Elab.async false
set_option linter.all false
set_option maxRecDepth 100000
set_option maxHeartbeats 2000000
namespace Fc
open PySem L2 Evl PySem.Spec PyProof.Rows
/-! ### the bounds -/
abbrev Bnd := Ev × Ev × Int
def bdD (b : Bnd) : D := .tuple [evd b.1, evd b.2.1, .int b.2.2]
def clkBs (i : Nat) (slow fast : Int) : Nat → List Int → List Bnd
  | j, a :: b :: r => ((i, j), (i, j + 1), (b - a) * fast) :: ((i, j + 1), (i, j), 0 - (b - a) * slow) :: clkBs i slow fast (j + 1) (b :: r)
  | _, _ => []
theorem clkBs_len (i : Nat) (slow fast : Int) : ∀ (rs : List Int) (j : Nat), (clkBs i slow fast j rs).length ≤ 2 * rs.length
  | [], _ => by simp [clkBs]
  | [a], _ => by simp [clkBs]
  | a :: b :: r, j => by
    have := clkBs_len i slow fast (b :: r) (j + 1)
    simp only [clkBs, List.length_cons] at this ⊢
    omega
def asgK (o : Option En) : RS := match o with
  | some ρ => .nx ρ
  | none => .bad
@[simp] theorem asgK_s (ρ : En) : asgK (some ρ) = .nx ρ := rfl
@[simp] theorem sAsgG_eq (g : DG) (m : DE) (ρ : En) : sAsgG g m ρ = rK (m ρ) (fun d => asgK (g d ρ)) ρ := by
  unfold sAsgG sE rK asgK
  cases m ρ with
  | ok d =>
    simp only <;> (cases g d ρ <;> rfl)
  | er c => rfl
  | bad => rfl
@[simp] theorem gTup3 (i j k : Nat) (a b c : D) (ρ : En) : gTupD 3 (gConsD (gN i) (gConsD (gN j) (gConsD (gN k) gNilD))) (.tuple [a, b, c]) ρ = some (((ρ.set i (.fz a)).set j (.fz b)).set k (.fz c)) := rfl
@[simp] theorem gTup4 (i j k l : Nat) (a b c d : D) (ρ : En) : gTupD 4 (gConsD (gN i) (gConsD (gN j) (gConsD (gN k) (gConsD (gN l) gNilD)))) (.tuple [a, b, c, d]) ρ = some ((((ρ.set i (.fz a)).set j (.fz b)).set k (.fz c)).set l (.fz d)) := rfl
theorem clock_bounds_ok (i : Nat) (c : Clk) (o : c.Ok) : F_clock_bounds [.int (i : Nat), c.d] = .ok (.list ((clkBs i c.slow c.fast 0 c.rs).map bdD)) := by
  have hs : -(2 ^ 64) < c.slow ∧ c.slow < 2 ^ 64 := by have := o.s1; have := o.sf; have := o.f9; omega
  have hf : -(2 ^ 64) < c.fast ∧ c.fast < 2 ^ 64 := by have := o.s1; have := o.sf; have := o.f9; omega
  have hw := clkBs_len i c.slow c.fast c.rs 0
  have h4 := o.l4
  have loop : ∃ a b d : Slot, L_clock_bounds_1 [.fz (.int (i : Nat)), .fz c.d, .fz (.int c.slow), .fz (.int c.fast), .fz (.tuple (c.rs.map PyData.int)), .ow (.list []), .un, .un, .un] = .nx [.fz (.int (i : Nat)), .fz c.d, .fz (.int c.slow), .fz (.int c.fast), .fz (.tuple (c.rs.map PyData.int)), .ow (.list ((clkBs i c.slow c.fast 0 c.rs).map bdD)), a, b, d] := by
    refine sFor_post (ds := enumD 0 (zipD (c.rs.map PyData.int) ((c.rs.map PyData.int).drop 1))) (Post := fun q => ∃ a b d : Slot, q = .nx [.fz (.int (i : Nat)), .fz c.d, .fz (.int c.slow), .fz (.int c.fast), .fz (.tuple (c.rs.map PyData.int)), .ow (.list ((clkBs i c.slow c.fast 0 c.rs).map bdD)), a, b, d]) (by simp [cutL_1, dEnumZip])
      (fun ds ρ => ∃ (j : Nat) (rest : List Int) (pre : List Bnd) (a b d : Slot), ds = enumD j (zipD (rest.map PyData.int) ((rest.map PyData.int).drop 1)) ∧ ρ = [.fz (.int (i : Nat)), .fz c.d, .fz (.int c.slow), .fz (.int c.fast), .fz (.tuple (c.rs.map PyData.int)), .ow (.list (pre.map bdD)), a, b, d] ∧ pre ++ clkBs i c.slow c.fast j rest = clkBs i c.slow c.fast 0 c.rs) ⟨0, c.rs, [], .un, .un, .un, rfl, rfl, rfl⟩ ?_ ?_
    · rintro ρ ⟨j, rest, pre, a, b, d, h1, h2, h3⟩
      have hr : clkBs i c.slow c.fast j rest = [] := by
        match rest, h1 with
        | [], _ => rfl
        | [_], _ => rfl
        | _ :: _ :: _, h1 => cases h1
      rw [hr, List.append_nil] at h3
      exact ⟨a, b, d, by rw [h2, h3]⟩
    · rintro x ds ρ ⟨j, rest, pre, a, b, d, h1, h2, h3⟩
      match rest, h1, h3 with
      | [], h1, _ => cases h1
      | [_], h1, _ => cases h1
      | r0 :: r1 :: rest, h1, h3 =>
        simp only [List.map_cons, List.drop_succ_cons, List.drop_zero, zipD, enumD, List.cons.injEq] at h1
        obtain ⟨rfl, rfl⟩ := h1
        subst h2
        refine ⟨_, gTup2 6 7 _ _ _, ?_⟩
        simp only [List.set_cons_succ, List.set_cons_zero]
        rw [← h3] at hw
        simp only [List.length_append, clkBs, List.length_cons] at hw
        have z1 : pre.length ≤ 99999 := by omega
        have z2 : pre.length ≤ 99998 := by omega
        have m1 := dMul_i (r1 - r0) c.fast (by rw [Bool.or_eq_true]; exact .inr (decide_eq_true hf))
        have m2 := dMul_i (r1 - r0) c.slow (by rw [Bool.or_eq_true]; exact .inr (decide_eq_true hs))
        have hB : B_clock_bounds_1 [.fz (.int (i : Nat)), .fz c.d, .fz (.int c.slow), .fz (.int c.fast), .fz (.tuple (c.rs.map PyData.int)), .ow (.list (pre.map bdD)), .fz (.int (j : Nat)), .fz (.tuple [.int r0, .int r1]), d] =
            .nx [.fz (.int (i : Nat)), .fz c.d, .fz (.int c.slow), .fz (.int c.fast), .fz (.tuple (c.rs.map PyData.int)), .ow (.list ((pre ++ [((i, j), (i, j + 1), (r1 - r0) * c.fast), ((i, j + 1), (i, j), 0 - (r1 - r0) * c.slow)]).map bdD)), .fz (.int (j : Nat)), .fz (.tuple [.int r0, .int r1]), .fz (.int (r1 - r0))] := by
          unfold B_clock_bounds_1
          rw [List.map_append]
          generalize c.d = C
          generalize c.rs.map PyData.int = R
          simp [m1, m2, z1, z2, bdD, evd]
        rw [hB]
        refine ⟨j + 1, r1 :: rest, _, _, _, _, rfl, rfl, ?_⟩
        rw [List.append_assoc]
        exact h3
  obtain ⟨a, b, d, hL⟩ := loop
  unfold F_clock_bounds M_clock_bounds
  simp only [runF_2, List.reduceReplicate, Nat.reduceSub]
  have hd : c.d = .tuple [.int c.slow, .int c.fast, .tuple (c.rs.map PyData.int)] := rfl
  rw [hd] at hL ⊢
  simp [hL, frz]
def ltrBs (l : Ltr) : List Bnd := (l.b, l.a, 0 - l.lo) :: (match l.hi with
  | some h => [(l.a, l.b, h)]
  | none => [])
theorem letter_bounds_ok (l : Ltr) : F_letter_bounds [l.d] = .ok (.list ((ltrBs l).map bdD)) := by
  have hadd : ∀ x y : D, dAdd (.list [x]) (.list [y]) = .ok (.list [x, y]) := fun x y => dAdd_l _ _ (by simp)
  unfold F_letter_bounds M_letter_bounds
  simp only [runF_1, List.reduceReplicate, Nat.reduceSub]
  cases hh : l.hi with
  | none => simp [Ltr.d, hh, optD, ltrBs, bdD]
  | some h => simp [Ltr.d, hh, optD, ltrBs, bdD, hadd]
def csBs (i : Nat) : List Clk → List Bnd
  | [] => []
  | c :: cs => clkBs i c.slow c.fast 0 c.rs ++ csBs (i + 1) cs
def lsBs : List Ltr → List Bnd
  | [] => []
  | l :: ls => ltrBs l ++ lsBs ls
def recBs (r : Rec) : List Bnd := csBs 0 r.cs ++ lsBs r.ls
theorem csBs_len : ∀ (cs : List Clk) (i : Nat), (∀ c ∈ cs, c.Ok) → (csBs i cs).length ≤ 8 * cs.length
  | [], _, _ => Nat.zero_le _
  | c :: cs, i, h => by
    have h1 := clkBs_len i c.slow c.fast c.rs 0
    have h2 := (h c (by simp)).l4
    have h3 := csBs_len cs (i + 1) fun x hx => h x (List.mem_cons_of_mem _ hx)
    unfold csBs
    rw [List.length_append, List.length_cons]
    omega
theorem ltrBs_len (l : Ltr) : (ltrBs l).length ≤ 2 := by
  unfold ltrBs
  cases l.hi <;> simp
theorem lsBs_len : ∀ (ls : List Ltr), (lsBs ls).length ≤ 2 * ls.length
  | [] => Nat.zero_le _
  | l :: ls => by
    have h1 := ltrBs_len l
    have h3 := lsBs_len ls
    unfold lsBs
    rw [List.length_append, List.length_cons]
    omega
theorem bounds_ok {r : Rec} (o : r.Ok) : F_bounds [r.d] = .ok (.list ((recBs r).map bdD)) := by
  have hcl := csBs_len r.cs 0 o.cs
  have hll := lsBs_len r.ls
  have c4 := o.c4
  have l8 := o.l8
  have loop1 : ∀ s2 s3 s4, ∃ a b c, L_bounds_1 [.fz r.d, .ow (.list []), s2, s3, s4] = .nx [.fz r.d, .ow (.list ((csBs 0 r.cs).map bdD)), a, b, c] := by
    intro s2 s3 s4
    refine sFor_post (ds := enumD 0 (r.cs.map Clk.d)) (Post := fun q => ∃ a b c, q = .nx [.fz r.d, .ow (.list ((csBs 0 r.cs).map bdD)), a, b, c]) (by simp [dEnum, Rec.d])
      (fun ds ρ => ∃ (i : Nat) (cs' : List Clk) (pre : List Bnd) (a b c : Slot), ds = enumD i (cs'.map Clk.d) ∧ ρ = [.fz r.d, .ow (.list (pre.map bdD)), a, b, c] ∧ pre ++ csBs i cs' = csBs 0 r.cs ∧ ∀ c ∈ cs', c.Ok) ⟨0, r.cs, [], s2, s3, s4, rfl, rfl, rfl, o.cs⟩ ?_ ?_
    · rintro ρ ⟨i, cs', pre, a, b, c, h1, h2, h3, _⟩
      cases cs' with
      | nil =>
        rw [h2]
        have : pre = csBs 0 r.cs := by rw [← h3]; simp [csBs]
        rw [this]
        exact ⟨a, b, c, rfl⟩
      | cons x xs => cases h1
    · rintro d ds ρ ⟨i, cs', pre, a, b, c, h1, h2, h3, h4⟩
      cases cs' with
      | nil => cases h1
      | cons x xs =>
        simp only [List.map_cons, enumD, List.cons.injEq] at h1
        obtain ⟨rfl, rfl⟩ := h1
        subst h2
        refine ⟨_, gTup2 2 3 _ _ _, ?_⟩
        have e1 := clock_bounds_ok i x (h4 x (by simp))
        rw [← h3] at hcl
        simp only [List.length_append, csBs] at hcl
        simp only [List.set_cons_succ, List.set_cons_zero]
        have hB : B_bounds_1 [.fz r.d, .ow (.list (pre.map bdD)), .fz (.int (i : Nat)), .fz x.d, c] = .nx [.fz r.d, .ow (.list ((pre ++ clkBs i x.slow x.fast 0 x.rs).map bdD)), .fz (.int (i : Nat)), .fz x.d, c] := by
          have hz : pre.length + (clkBs i x.slow x.fast 0 x.rs).length ≤ 100000 := by omega
          unfold B_bounds_1
          rw [List.map_append]
          simp only [sExt_eq, eDef_eq, aCons_eq, aNil_eq, eV_eq, rdV_fz, R.bind_ok, List.getElem?_cons_zero, List.getElem?_cons_succ, sOwnK_ow, e1, rK_ok, szB_lit, List.length_map, decide_eq_true hz, if_true, List.set_cons_succ, List.set_cons_zero]
        rw [hB]
        refine ⟨i + 1, xs, _, _, _, _, rfl, rfl, ?_, fun y hy => h4 y (List.mem_cons_of_mem _ hy)⟩
        rw [List.append_assoc]
        exact h3
  have loop2 : ∀ s2 s3 s4, ∃ a b c, L_bounds_2 [.fz r.d, .ow (.list ((csBs 0 r.cs).map bdD)), s2, s3, s4] = .nx [.fz r.d, .ow (.list ((recBs r).map bdD)), a, b, c] := by
    intro s2 s3 s4
    refine sFor_post (ds := r.ls.map Ltr.d) (Post := fun q => ∃ a b c, q = .nx [.fz r.d, .ow (.list ((recBs r).map bdD)), a, b, c]) (by simp [Rec.d])
      (fun ds ρ => ∃ (ls : List Ltr) (pre : List Bnd) (a b c : Slot), ds = ls.map Ltr.d ∧ ρ = [.fz r.d, .ow (.list (pre.map bdD)), a, b, c] ∧ pre ++ lsBs ls = recBs r) ⟨r.ls, csBs 0 r.cs, s2, s3, s4, rfl, rfl, rfl⟩ ?_ ?_
    · rintro ρ ⟨ls, pre, a, b, c, h1, h2, h3⟩
      cases ls with
      | nil =>
        rw [h2]
        have : pre = recBs r := by rw [← h3]; simp [lsBs]
        rw [this]
        exact ⟨a, b, c, rfl⟩
      | cons x xs => cases h1
    · rintro d ds ρ ⟨ls, pre, a, b, c, h1, h2, h3⟩
      cases ls with
      | nil => cases h1
      | cons x xs =>
        simp only [List.map_cons, List.cons.injEq] at h1
        obtain ⟨rfl, rfl⟩ := h1
        subst h2
        refine ⟨_, gN_eq _ _ _, ?_⟩
        have e1 := letter_bounds_ok x
        have hw : (recBs r).length ≤ 100 := by unfold recBs; rw [List.length_append]; omega
        rw [← h3] at hw
        simp only [List.length_append, lsBs] at hw
        simp only [List.set_cons_succ, List.set_cons_zero]
        have hB : B_bounds_2 [.fz r.d, .ow (.list (pre.map bdD)), a, b, .fz x.d] = .nx [.fz r.d, .ow (.list ((pre ++ ltrBs x).map bdD)), a, b, .fz x.d] := by
          have hz : pre.length + (ltrBs x).length ≤ 100000 := by omega
          unfold B_bounds_2
          rw [List.map_append]
          simp only [sExt_eq, eDef_eq, aCons_eq, aNil_eq, eV_eq, rdV_fz, R.bind_ok, List.getElem?_cons_zero, List.getElem?_cons_succ, sOwnK_ow, e1, rK_ok, szB_lit, List.length_map, decide_eq_true hz, if_true, List.set_cons_succ, List.set_cons_zero]
        rw [hB]
        refine ⟨xs, _, _, _, _, rfl, rfl, ?_⟩
        rw [List.append_assoc]
        exact h3
  obtain ⟨a, b, c, hL⟩ := loop1 .un .un .un
  obtain ⟨a2, b2, c2, hL2⟩ := loop2 a b c
  have hn := need_rec_ok o
  unfold F_bounds M_bounds
  simp only [runF_1, List.reduceReplicate, Nat.reduceSub]
  simp [hn, hL, hL2, frz]
end Fc
set_option Elab.async false
set_option linter.all false
set_option maxRecDepth 100000
set_option maxHeartbeats 2000000
namespace Fc
open PySem L2 Evl PySem.Spec PyProof.Rows
/-! ### the law's bounds -/
theorem rngD_zero (lo : Int) : rngD lo 0 = [] := rfl
theorem rngD_succ (lo : Int) (n : Nat) : rngD lo (n + 1) = .int lo :: rngD (lo + 1) n := by
  unfold rngD
  rw [List.range_succ_eq_map, List.map_cons, List.map_map]
  congr 1
  · simp
  · apply List.map_congr_left
    intro k _
    show PyData.int _ = PyData.int _
    congr 1
    push_cast
    omega
theorem L_law_bounds_1_ok (i : Nat) (c : Clk) (o : c.Ok) (pre : List Bnd) (hp : pre.length ≤ 100) (s0 s6 s7 s8 s9 s10 s11 : Slot) : ∃ a b : Slot, L_law_bounds_1 [s0, .ow (.list (pre.map bdD)), .fz (.int (i : Nat)), .fz (.int c.slow), .fz (.int c.fast), .fz (.tuple (c.rs.map PyData.int)), s6, s7, s8, s9, s10, s11] =
    .nx [s0, .ow (.list ((pre ++ clkBs i c.slow c.fast 0 c.rs).map bdD)), .fz (.int (i : Nat)), .fz (.int c.slow), .fz (.int c.fast), .fz (.tuple (c.rs.map PyData.int)), a, b, s8, s9, s10, s11] := by
  have hs : -(2 ^ 64) < c.slow ∧ c.slow < 2 ^ 64 := by have := o.s1; have := o.sf; have := o.f9; omega
  have hf : -(2 ^ 64) < c.fast ∧ c.fast < 2 ^ 64 := by have := o.s1; have := o.sf; have := o.f9; omega
  have hw := clkBs_len i c.slow c.fast c.rs 0
  have h4 := o.l4
  have h1' := o.l1
  refine sFor_post (ds := rngD 1 (c.rs.length - 1)) (Post := fun q => ∃ a b : Slot, q = .nx [s0, .ow (.list ((pre ++ clkBs i c.slow c.fast 0 c.rs).map bdD)), .fz (.int (i : Nat)), .fz (.int c.slow), .fz (.int c.fast), .fz (.tuple (c.rs.map PyData.int)), a, b, s8, s9, s10, s11]) ?_
    (fun ds ρ => ∃ (j : Nat) (p2 : List Bnd) (a b : Slot), ds = rngD ((j : Int) + 1) (c.rs.length - 1 - j) ∧ j ≤ c.rs.length - 1 ∧ ρ = [s0, .ow (.list (p2.map bdD)), .fz (.int (i : Nat)), .fz (.int c.slow), .fz (.int c.fast), .fz (.tuple (c.rs.map PyData.int)), a, b, s8, s9, s10, s11] ∧ p2 ++ clkBs i c.slow c.fast j (c.rs.drop j) = pre ++ clkBs i c.slow c.fast 0 c.rs) ⟨0, pre, s6, s7, rfl, Nat.zero_le _, rfl, rfl⟩ ?_ ?_
  · have hb : (-100000 ≤ (1 : Int) ∧ (1 : Int) ≤ 100000 ∧ -100000 ≤ ((c.rs.length : Nat) : Int) ∧ ((c.rs.length : Nat) : Int) ≤ 100000) := by omega
    have e : (((c.rs.length : Nat) : Int) - 1).toNat = c.rs.length - 1 := by omega
    simp [dRng2, hb, e]
  · rintro ρ ⟨j, p2, a, b, h1, h2, h3, h5⟩
    have hj : c.rs.length - 1 - j = 0 := by
      cases q : c.rs.length - 1 - j with
      | zero => rfl
      | succ m => rw [q, rngD_succ] at h1; cases h1
    have hj2 : c.rs.drop j = [c.rs[j]] := by
      rw [List.drop_eq_getElem_cons (by omega)]
      congr 1
      exact List.drop_eq_nil_of_le (by omega)
    rw [hj2] at h5
    simp only [clkBs, List.append_nil] at h5
    exact ⟨a, b, by rw [h3, h5]⟩
  · rintro x ds ρ ⟨j, p2, a, b, h1, h2, h3, h5⟩
    cases q : c.rs.length - 1 - j with
    | zero => rw [q] at h1; cases h1
    | succ m =>
      rw [q, rngD_succ] at h1
      simp only [List.cons.injEq] at h1
      obtain ⟨rfl, rfl⟩ := h1
      subst h3
      refine ⟨_, gN_eq _ _ _, ?_⟩
      simp only [List.set_cons_succ, List.set_cons_zero]
      have hj : j < c.rs.length := by omega
      have hj1 : j + 1 < c.rs.length := by omega
      have d1 : c.rs.drop j = c.rs[j] :: c.rs[j + 1] :: c.rs.drop (j + 2) := by
        rw [List.drop_eq_getElem_cons hj, List.drop_eq_getElem_cons hj1]
      have d2 : c.rs.drop (j + 1) = c.rs[j + 1] :: c.rs.drop (j + 2) := List.drop_eq_getElem_cons hj1
      have a1 : atI (c.rs.map PyData.int) ((j : Int) + 1) = some (.int c.rs[j + 1]) := by
        have := atI_nat (xs := c.rs.map PyData.int) (j := j + 1) (v := .int c.rs[j + 1]) (by rw [List.getElem?_map, List.getElem?_eq_getElem hj1]; rfl)
        simpa using this
      have a2 : atI (c.rs.map PyData.int) ((j : Int) + 1 - 1) = some (.int c.rs[j]) := by
        rw [show (j : Int) + 1 - 1 = (j : Int) by omega]
        exact atI_nat (by rw [List.getElem?_map, List.getElem?_eq_getElem hj]; rfl)
      have e0 : (j : Int) + 1 - 1 = (j : Int) := by omega
      have hw2 : (p2 ++ clkBs i c.slow c.fast j (c.rs.drop j)).length ≤ 200 := by rw [h5, List.length_append]; omega
      rw [d1] at hw2
      simp only [List.length_append, clkBs, List.length_cons] at hw2
      have z1 : p2.length ≤ 99999 := by omega
      have z2 : p2.length ≤ 99998 := by omega
      have m1 := dMul_i c.fast (c.rs[j + 1] - c.rs[j]) (by rw [Bool.or_eq_true]; exact .inl (decide_eq_true hf))
      have m2 := dMul_i c.slow (c.rs[j + 1] - c.rs[j]) (by rw [Bool.or_eq_true]; exact .inl (decide_eq_true hs))
      rw [Int.mul_comm c.fast] at m1
      rw [Int.mul_comm c.slow] at m2
      have hB : B_law_bounds_1 [s0, .ow (.list (p2.map bdD)), .fz (.int (i : Nat)), .fz (.int c.slow), .fz (.int c.fast), .fz (.tuple (c.rs.map PyData.int)), .fz (.int ((j : Int) + 1)), b, s8, s9, s10, s11] =
          .nx [s0, .ow (.list ((p2 ++ [((i, j), (i, j + 1), (c.rs[j + 1] - c.rs[j]) * c.fast), ((i, j + 1), (i, j), 0 - (c.rs[j + 1] - c.rs[j]) * c.slow)]).map bdD)), .fz (.int (i : Nat)), .fz (.int c.slow), .fz (.int c.fast), .fz (.tuple (c.rs.map PyData.int)), .fz (.int ((j : Int) + 1)), .fz (.int (c.rs[j + 1] - c.rs[j])), s8, s9, s10, s11] := by
        unfold B_law_bounds_1
        rw [List.map_append]
        generalize hv1 : c.rs[j + 1] = v1 at *
        generalize hv0 : c.rs[j] = v0 at *
        clear d1 d2 hv1 hv0
        generalize c.rs.map PyData.int = R at *
        simp only [e0] at a2
        simp [a1, a2, m1, m2, z1, z2, bdD, evd, e0]
      rw [hB]
      refine ⟨j + 1, _, _, _, ?_, by omega, rfl, ?_⟩
      · rw [show c.rs.length - 1 - (j + 1) = m by omega]
        push_cast
        rfl
      · rw [← h5, d1, d2, List.append_assoc]
        rfl
theorem gPair3 (i j k l : Nat) (x a b c : D) (ρ : En) : gTupD 2 (gConsD (gN i) (gConsD (gTupD 3 (gConsD (gN j) (gConsD (gN k) (gConsD (gN l) gNilD)))) gNilD)) (.tuple [x, .tuple [a, b, c]]) ρ = some ((((ρ.set i (.fz x)).set j (.fz a)).set k (.fz b)).set l (.fz c)) := rfl
/-- the law's bounds, of a record whose letters may be fewer -/
theorem law_bounds_ok (cs : List Clk) (ls : List Ltr) (oc : ∀ c ∈ cs, c.Ok) (c4 : cs.length ≤ 4) (l8 : ls.length ≤ 8) : F_law_bounds [.tuple [.tuple (cs.map Clk.d), .tuple (ls.map Ltr.d)]] = .ok (.list ((csBs 0 cs ++ lsBs ls).map bdD)) := by
  have hcl := csBs_len cs 0 oc
  have hll := lsBs_len ls
  generalize hX : (.tuple [.tuple (cs.map Clk.d), .tuple (ls.map Ltr.d)] : D) = X
  have loop1 : ∃ s2 s3 s4 s5 s6 s7 : Slot, L_law_bounds_2 [.fz X, .ow (.list []), .un, .un, .un, .un, .un, .un, .un, .un, .un, .un] = .nx [.fz X, .ow (.list ((csBs 0 cs).map bdD)), s2, s3, s4, s5, s6, s7, .un, .un, .un, .un] := by
    refine sFor_post (ds := enumD 0 (cs.map Clk.d)) (Post := fun q => ∃ s2 s3 s4 s5 s6 s7 : Slot, q = .nx [.fz X, .ow (.list ((csBs 0 cs).map bdD)), s2, s3, s4, s5, s6, s7, .un, .un, .un, .un]) (by subst hX; simp [dEnum])
      (fun ds ρ => ∃ (i : Nat) (cs' : List Clk) (pre : List Bnd) (s2 s3 s4 s5 s6 s7 : Slot), ds = enumD i (cs'.map Clk.d) ∧ ρ = [.fz X, .ow (.list (pre.map bdD)), s2, s3, s4, s5, s6, s7, .un, .un, .un, .un] ∧ pre ++ csBs i cs' = csBs 0 cs ∧ ∀ c ∈ cs', c.Ok) ⟨0, cs, [], .un, .un, .un, .un, .un, .un, rfl, rfl, rfl, oc⟩ ?_ ?_
    · rintro ρ ⟨i, cs', pre, s2, s3, s4, s5, s6, s7, h1, h2, h3, _⟩
      cases cs' with
      | nil =>
        rw [h2]
        have : pre = csBs 0 cs := by rw [← h3]; simp [csBs]
        rw [this]
        exact ⟨_, _, _, _, _, _, rfl⟩
      | cons x xs => cases h1
    · rintro d ds ρ ⟨i, cs', pre, s2, s3, s4, s5, s6, s7, h1, h2, h3, h4⟩
      cases cs' with
      | nil => cases h1
      | cons x xs =>
        simp only [List.map_cons, enumD, List.cons.injEq] at h1
        obtain ⟨rfl, rfl⟩ := h1
        subst h2
        refine ⟨_, gPair3 2 3 4 5 _ _ _ _ _, ?_⟩
        rw [← h3] at hcl
        simp only [List.length_append, csBs] at hcl
        simp only [List.set_cons_succ, List.set_cons_zero]
        obtain ⟨a, b, hB⟩ := L_law_bounds_1_ok i x (h4 x (by simp)) pre (by omega) (.fz X) s6 s7 .un .un .un .un
        unfold B_law_bounds_2
        rw [hB]
        refine ⟨i + 1, xs, _, _, _, _, _, _, _, rfl, rfl, ?_, fun y hy => h4 y (List.mem_cons_of_mem _ hy)⟩
        rw [List.append_assoc]
        exact h3
  have loop2 : ∀ s2 s3 s4 s5 s6 s7 : Slot, ∃ ρ, L_law_bounds_3 [.fz X, .ow (.list ((csBs 0 cs).map bdD)), s2, s3, s4, s5, s6, s7, .un, .un, .un, .un] = .nx ρ ∧ ρ[1]? = some (.ow (.list ((csBs 0 cs ++ lsBs ls).map bdD))) ∧ ρ.length = 12 := by
    intro s2 s3 s4 s5 s6 s7
    unfold L_law_bounds_3
    refine sFor_post (ds := ls.map Ltr.d) (Post := fun q => ∃ ρ, q = .nx ρ ∧ ρ[1]? = some (.ow (.list ((csBs 0 cs ++ lsBs ls).map bdD))) ∧ ρ.length = 12) ?hi
      (fun ds ρ => ∃ (ls' : List Ltr) (pre : List Bnd) (a b c d : Slot), ds = ls'.map Ltr.d ∧ ρ = [.fz X, .ow (.list (pre.map bdD)), s2, s3, s4, s5, s6, s7, a, b, c, d] ∧ pre ++ lsBs ls' = csBs 0 cs ++ lsBs ls) ⟨ls, csBs 0 cs, .un, .un, .un, .un, rfl, rfl, rfl⟩ ?_ ?_
    case hi => subst hX; simp
    · rintro ρ ⟨ls', pre, a, b, c, d, h1, h2, h3⟩
      cases ls' with
      | nil =>
        have : pre = csBs 0 cs ++ lsBs ls := by rw [← h3]; simp [lsBs]
        exact ⟨ρ, rfl, by rw [h2, this]; rfl, by rw [h2]; rfl⟩
      | cons x xs => cases h1
    · rintro d ds ρ ⟨ls', pre, a, b, c, e, h1, h2, h3⟩
      cases ls' with
      | nil => cases h1
      | cons x xs =>
        simp only [List.map_cons, List.cons.injEq] at h1
        obtain ⟨rfl, rfl⟩ := h1
        subst h2
        refine ⟨_, gTup4 8 9 10 11 _ _ _ _ _, ?_⟩
        have hw : (csBs 0 cs ++ lsBs ls).length ≤ 100 := by rw [List.length_append]; omega
        rw [← h3] at hw
        simp only [List.length_append, lsBs] at hw
        simp only [List.set_cons_succ, List.set_cons_zero]
        have z1 : pre.length ≤ 99999 := by omega
        have z2 : pre.length ≤ 99998 := by omega
        have hB : B_law_bounds_3 [.fz X, .ow (.list (pre.map bdD)), s2, s3, s4, s5, s6, s7, .fz (evd x.a), .fz (evd x.b), .fz (.int x.lo), .fz (optD x.hi)] = .nx [.fz X, .ow (.list ((pre ++ ltrBs x).map bdD)), s2, s3, s4, s5, s6, s7, .fz (evd x.a), .fz (evd x.b), .fz (.int x.lo), .fz (optD x.hi)] := by
          unfold B_law_bounds_3
          rw [List.map_append]
          cases hh : x.hi with
          | none => simp [z1, optD, ltrBs, hh, bdD]
          | some h => simp [z1, z2, optD, ltrBs, hh, bdD]
        rw [hB]
        refine ⟨xs, _, _, _, _, _, rfl, rfl, ?_⟩
        rw [List.append_assoc]
        exact h3
  obtain ⟨s2, s3, s4, s5, s6, s7, hL⟩ := loop1
  obtain ⟨ρ, hL2, h1, hlen⟩ := loop2 s2 s3 s4 s5 s6 s7
  have hfr : frz 1 ρ = ρ.set 1 (.fz (.list ((csBs 0 cs ++ lsBs ls).map bdD))) := by
    unfold frz
    rw [h1]
  have hg : (ρ.set 1 (.fz (.list ((csBs 0 cs ++ lsBs ls).map bdD))))[1]? = some (.fz (.list ((csBs 0 cs ++ lsBs ls).map bdD))) := by
    exact List.getElem?_set_self (by omega)
  unfold F_law_bounds M_law_bounds
  simp only [runF_1, List.reduceReplicate, Nat.reduceSub]
  generalize (csBs 0 cs ++ lsBs ls).map bdD = R at *
  simp [hL, hL2, hfr, hg]
end Fc
set_option Elab.async false
set_option linter.all false
set_option maxRecDepth 100000
set_option maxHeartbeats 2000000
namespace Fc
open PySem L2 Evl PySem.Spec PyProof.Rows
/-! ### the shared functions, typed: what they answer -/
theorem encR_inj {α : Type} [EncL α] {t : R α} {x : α} (h : R.ok (en x) = encR t) : t = .ok x := by
  cases t with
  | ok y =>
    have : en x = en y := R.ok.inj h
    rw [en_inj this]
  | er c => cases h
  | bad => cases h
def bT (b : Bnd) : TBnd := ⟨evT b.1, evT b.2.1, b.2.2⟩
theorem map_bT (l : List Bnd) : (l.map bT).map en = l.map bdD := by rw [List.map_map]; rfl
theorem evT_inj {a b : Ev} (h : evT a = evT b) : a = b := by
  have h1 : ((a.1 : Nat) : Int) = b.1 := congrArg P2.a h
  have h2 : ((a.2 : Nat) : Int) = b.2 := congrArg P2.b h
  exact Prod.ext (by omega) (by omega)
/-- a record's events and bounds -/
def Rec.P (r : Rec) : List TEv := (evs 0 r.cs).map evT
def Rec.B (r : Rec) : List TBnd := (recBs r).map bT
theorem drawnT (ns : List Int) (hl : ns.length ≤ 63) (k m : Int) (hm : 0 < m) : ∃ r : Int, 0 ≤ r ∧ r < m ∧ T_law_drawn ⟨ns⟩ k m = .ok r := by
  obtain ⟨r, h1, h2, h3⟩ := law_drawn_ok ns hl k m hm
  exact ⟨r, h1, h2, encR_inj (h3.symm.trans (T_law_drawn_ok ⟨ns⟩ k m))⟩
theorem recordT (ns : List Int) (hl : ns.length ≤ 63) (at_ : Int) (most : Nat) (hm : most ≤ 1000) : ∃ r : Rec, T_law_record ⟨ns⟩ at_ (most : Nat) = .ok r.t ∧ r.Gen most := by
  obtain ⟨r, h1, h2⟩ := law_record_ok ns hl at_ most hm
  exact ⟨r, encR_inj (by rw [en_rt]; exact h1.symm.trans (T_law_record_ok ⟨ns⟩ at_ (most : Nat))), h2⟩
theorem en_P (r : Rec) : en r.P = .list ((evs 0 r.cs).map evd) := congrArg PyData.list (map_evT _)
theorem en_B (r : Rec) : en r.B = .list ((recBs r).map bdD) := congrArg PyData.list (map_bT _)
theorem law_eventsT {r : Rec} (o : r.Ok) : T_law_events r.t.a = .ok r.P := by
  apply encR_inj
  rw [← T_law_events_ok, en_P]
  show _ = F_law_events [.tuple ((r.cs.map cT).map en)]
  rw [map_cT, law_events_ok r.cs (fun c hc => (o.cs c hc).l4) (Nat.le_trans o.c4 (by decide))]
theorem eventsT {r : Rec} (o : r.Ok) : T_events r.t = .ok r.P := by
  apply encR_inj
  rw [← T_events_ok, en_rt, en_P, events_ok o]
theorem boundsT {r : Rec} (o : r.Ok) : T_bounds r.t = .ok r.B := by
  apply encR_inj
  rw [← T_bounds_ok, en_rt, en_B, bounds_ok o]
theorem law_boundsT {r : Rec} (o : r.Ok) : T_law_bounds r.t = .ok r.B := by
  apply encR_inj
  rw [← T_law_bounds_ok, en_rt, en_B]
  exact (law_bounds_ok r.cs r.ls o.cs o.c4 o.l8).symm
theorem P_nodup (r : Rec) : r.P.Nodup := List.pairwise_map.mpr ((evs_nodup r.cs 0).imp fun h e => h (evT_inj e))
theorem P_len {r : Rec} (o : r.Ok) : r.P.length ≤ 16 := by
  unfold Rec.P
  rw [List.length_map]
  have := evs_len r.cs 0 fun c hc => (o.cs c hc).l4
  have := o.c4
  omega
theorem P_mem {r : Rec} {e : TEv} : e ∈ r.P ↔ ∃ v : Ev, EvOk r.cs v ∧ e = evT v := by
  unfold Rec.P
  rw [List.mem_map]
  constructor
  · rintro ⟨v, h, rfl⟩
    obtain ⟨k, h1, h2⟩ := (evs_mem v r.cs 0).mp h
    refine ⟨v, ?_, rfl⟩
    rw [Nat.zero_add] at h1
    rw [show v = (k, v.2) from Prod.ext h1 rfl]
    exact h2
  · rintro ⟨v, h, rfl⟩
    exact ⟨v, (evs_mem v r.cs 0).mpr ⟨v.1, (Nat.zero_add _).symm, h⟩, rfl⟩
theorem P_pos {r : Rec} (o : r.Ok) : 0 < r.P.length := by
  have c1 := o.c1
  cases h : r.cs with
  | nil => rw [h] at c1; simp at c1
  | cons c cs =>
    have : evT (0, 0) ∈ r.P := P_mem.mpr ⟨(0, 0), ⟨c, by rw [h]; rfl, (o.cs c (by rw [h]; simp)).l1⟩, rfl⟩
    exact List.length_pos_of_mem this
theorem clkBs_ends (i : Nat) (s f : Int) : ∀ (rs : List Int) (j : Nat), ∀ e ∈ clkBs i s f j rs, ∃ x y, e.1 = (i, x) ∧ e.2.1 = (i, y) ∧ x < j + rs.length ∧ y < j + rs.length
  | [], _, e, h => by simp [clkBs] at h
  | [a], _, e, h => by simp [clkBs] at h
  | a :: b :: r, j, e, h => by
    simp only [clkBs, List.mem_cons] at h
    rcases h with rfl | rfl | h
    · exact ⟨j, j + 1, rfl, rfl, by simp, by simp⟩
    · exact ⟨j + 1, j, rfl, rfl, by simp, by simp⟩
    · obtain ⟨x, y, h1, h2, h3, h4⟩ := clkBs_ends i s f (b :: r) (j + 1) e h
      refine ⟨x, y, h1, h2, ?_, ?_⟩ <;> simp only [List.length_cons] at * <;> omega
theorem csBs_ends : ∀ (cs : List Clk) (i : Nat), ∀ e ∈ csBs i cs, ∃ k, e.1.1 = i + k ∧ e.2.1.1 = i + k ∧ EvOk cs (k, e.1.2) ∧ EvOk cs (k, e.2.1.2)
  | [], i, e, h => by simp [csBs] at h
  | c :: cs, i, e, h => by
    simp only [csBs, List.mem_append] at h
    rcases h with h | h
    · obtain ⟨x, y, h1, h2, h3, h4⟩ := clkBs_ends i c.slow c.fast c.rs 0 e h
      rw [h1, h2]
      exact ⟨0, rfl, rfl, ⟨c, rfl, by simpa using h3⟩, ⟨c, rfl, by simpa using h4⟩⟩
    · obtain ⟨k, h1, h2, ⟨c1, h3, h4⟩, c2, h5, h6⟩ := csBs_ends cs (i + 1) e h
      exact ⟨k + 1, by omega, by omega, ⟨c1, h3, h4⟩, c2, h5, h6⟩
theorem lsBs_ends {cs : List Clk} : ∀ (ls : List Ltr), (∀ l ∈ ls, l.Ok cs) → ∀ e ∈ lsBs ls, EvOk cs e.1 ∧ EvOk cs e.2.1
  | [], _, e, h => by simp [lsBs] at h
  | l :: ls, hl, e, h => by
    simp only [lsBs, List.mem_append, ltrBs, List.mem_cons] at h
    have o := hl l (by simp)
    rcases h with (rfl | h) | h
    · exact ⟨o.eb, o.ea⟩
    · cases hh : l.hi with
      | none => rw [hh] at h; simp at h
      | some m =>
        rw [hh] at h
        simp only [List.mem_singleton] at h
        subst h
        exact ⟨o.ea, o.eb⟩
    · exact lsBs_ends ls (fun x hx => hl x (List.mem_cons_of_mem _ hx)) e h
theorem B_ends {r : Rec} (o : r.Ok) : ∀ e ∈ r.B, e.a ∈ r.P ∧ e.b ∈ r.P := by
  intro e he
  obtain ⟨b, hb, rfl⟩ := List.mem_map.mp he
  unfold recBs at hb
  rcases List.mem_append.mp hb with h | h
  · obtain ⟨k, h1, h2, h3, h4⟩ := csBs_ends r.cs 0 b h
    rw [Nat.zero_add] at h1 h2
    exact ⟨P_mem.mpr ⟨b.1, by rw [show b.1 = (k, b.1.2) from Prod.ext h1 rfl]; exact h3, rfl⟩, P_mem.mpr ⟨b.2.1, by rw [show b.2.1 = (k, b.2.1.2) from Prod.ext h2 rfl]; exact h4, rfl⟩⟩
  · obtain ⟨h1, h2⟩ := lsBs_ends r.ls o.ls b h
    exact ⟨P_mem.mpr ⟨b.1, h1, rfl⟩, P_mem.mpr ⟨b.2.1, h2, rfl⟩⟩
theorem B_len {r : Rec} (o : r.Ok) : r.B.length ≤ 100 := by
  unfold Rec.B recBs
  rw [List.length_map, List.length_append]
  have := csBs_len r.cs 0 o.cs
  have := lsBs_len r.ls
  have := o.c4
  have := o.l8
  omega
theorem OkR_t {r : Rec} (o : r.Ok) : OkR r.t := ⟨r, o, rfl⟩
end Fc
set_option Elab.async false
set_option linter.all false
set_option maxRecDepth 100000
set_option maxHeartbeats 2000000
namespace Fc
open PySem L2 Evl PySem.Spec PyProof.Rows
/-! ### least and greatest -/
theorem foldl_min_spec : ∀ (xs : List Int) (x : Int), xs.foldl (fun a b => if b < a then b else a) x ∈ x :: xs ∧ ∀ y ∈ x :: xs, xs.foldl (fun a b => if b < a then b else a) x ≤ y
  | [], x => ⟨by simp, by simp⟩
  | y :: xs, x => by
    obtain ⟨h1, h2⟩ := foldl_min_spec xs (if y < x then y else x)
    rw [List.foldl_cons]
    constructor
    · rcases List.mem_cons.mp h1 with h | h
      · rw [h]; split <;> simp
      · exact List.mem_cons_of_mem _ (List.mem_cons_of_mem _ h)
    · intro z hz
      have h3 := h2 _ List.mem_cons_self
      rcases List.mem_cons.mp hz with h | h
      · subst h; refine Int.le_trans h3 ?_; split <;> omega
      · rcases List.mem_cons.mp h with h | h
        · subst h; refine Int.le_trans h3 ?_; split <;> omega
        · exact h2 z (List.mem_cons_of_mem _ h)
theorem foldl_max_spec : ∀ (xs : List Int) (x : Int), xs.foldl (fun a b => if a < b then b else a) x ∈ x :: xs ∧ ∀ y ∈ x :: xs, y ≤ xs.foldl (fun a b => if a < b then b else a) x
  | [], x => ⟨by simp, by simp⟩
  | y :: xs, x => by
    obtain ⟨h1, h2⟩ := foldl_max_spec xs (if x < y then y else x)
    rw [List.foldl_cons]
    constructor
    · rcases List.mem_cons.mp h1 with h | h
      · rw [h]; split <;> simp
      · exact List.mem_cons_of_mem _ (List.mem_cons_of_mem _ h)
    · intro z hz
      have h3 := h2 _ List.mem_cons_self
      rcases List.mem_cons.mp hz with h | h
      · subst h; refine Int.le_trans ?_ h3; split <;> omega
      · rcases List.mem_cons.mp h with h | h
        · subst h; refine Int.le_trans ?_ h3; split <;> omega
        · exact h2 z (List.mem_cons_of_mem _ h)
theorem minL_spec {l : List Int} (h : l ≠ []) : ∃ m, minL l = some m ∧ m ∈ l ∧ ∀ y ∈ l, m ≤ y := by
  cases l with
  | nil => exact absurd rfl h
  | cons x xs => exact ⟨_, rfl, foldl_min_spec xs x⟩
theorem maxL_spec {l : List Int} (h : l ≠ []) : ∃ m, maxL l = some m ∧ m ∈ l ∧ ∀ y ∈ l, y ≤ m := by
  cases l with
  | nil => exact absurd rfl h
  | cons x xs => exact ⟨_, rfl, foldl_max_spec xs x⟩
theorem minT_spec {l : List Int} (h : l ≠ []) : ∃ m, minT l = .ok m ∧ m ∈ l ∧ ∀ y ∈ l, m ≤ y := by
  obtain ⟨m, h1, h2⟩ := minL_spec h
  exact ⟨m, by unfold minT; rw [h1]; rfl, h2⟩
theorem maxT_spec {l : List Int} (h : l ≠ []) : ∃ m, maxT l = .ok m ∧ m ∈ l ∧ ∀ y ∈ l, y ≤ m := by
  obtain ⟨m, h1, h2⟩ := maxL_spec h
  exact ⟨m, by unfold maxT; rw [h1]; rfl, h2⟩
/-! ### dicts that are a function on a list of keys -/
def fD {κ α : Type} (P : List κ) (u : κ → α) : Dct κ α := ⟨P.map fun e => (e, u e)⟩
section
variable {κ α : Type} [DecidableEq κ]
theorem lkO_fD {P : List κ} {u : κ → α} {k : κ} (h : k ∈ P) : lkO (fD P u).l k = some (u k) := by
  obtain ⟨v, h1, h2⟩ := lkO_some (l := (fD P u).l) (k := k) (by
    unfold fD
    rw [List.map_map]
    exact List.mem_map.mpr ⟨k, h, rfl⟩)
  obtain ⟨x, _, e⟩ := List.mem_map.mp h2
  cases e
  exact h1
theorem lkT_fD {P : List κ} {u : κ → α} {k : κ} (h : k ∈ P) : lkT (fD P u) k = .ok (u k) := by
  unfold lkT
  rw [lkO_fD h]; rfl
theorem fD_congr {P : List κ} {u v : κ → α} (h : ∀ x ∈ P, u x = v x) : fD P u = fD P v := by
  unfold fD
  congr 1
  exact List.map_congr_left fun x hx => by rw [h x hx]
theorem fD_keys (P : List κ) (u : κ → α) : (fD P u).l.map (·.1) = P := by
  unfold fD
  rw [List.map_map]
  exact List.map_id P
def upd (u : κ → α) (k : κ) (v : α) : κ → α := fun x => if x = k then v else u x
theorem putT_new {P : List κ} {u : κ → α} {k : κ} (h : k ∉ P) (hl : P.length ≤ 1000) (v : α) : putT (fD P u) k v = .ok (fD (P ++ [k]) (upd u k v)) := by
  unfold putT
  rw [if_pos (show szB ((fD P u).l.length + 1) = true from decide_eq_true (by unfold fD; rw [List.length_map]; omega)), putL_new (by rw [fD_keys]; exact h)]
  congr 1
  unfold fD
  rw [List.map_append]
  congr 2
  · exact List.map_congr_left fun x hx => by unfold upd; rw [if_neg fun e : x = k => h (e ▸ hx)]
  · simp [upd]
theorem putT_old {P : List κ} {u : κ → α} {k : κ} (h : k ∈ P) (hl : P.length ≤ 1000) (v : α) : putT (fD P u) k v = .ok (fD P (upd u k v)) := by
  unfold putT
  rw [if_pos (show szB ((fD P u).l.length + 1) = true from decide_eq_true (by unfold fD; rw [List.length_map]; omega))]
  unfold putL
  rw [if_pos (by rw [lkO_fD h]; rfl)]
  congr 1
  unfold fD
  rw [List.map_map]
  congr 1
  apply List.map_congr_left
  intro x _
  simp only [Function.comp_def, upd]
  split <;> simp_all
theorem zipG_map (u : κ → α) : ∀ P : List κ, zipG P (P.map u) = P.map fun x => ⟨x, u x⟩
  | [] => rfl
  | x :: P => by rw [List.map_cons, zipG, zipG_map u P]; rfl
theorem dictZip_map {P : List κ} (hP : P.Nodup) (hl : P.length ≤ 1000) (u : κ → α) : dictZipT P (P.map u) = .ok (fD P u) := by
  unfold dictZipT
  rw [if_pos (decide_eq_true hl), zipG_map, mergeL_nodup _ _ (by rw [List.map_nil, List.nil_append, List.map_map]; exact (List.map_id P).symm ▸ hP), List.map_map]
  rfl
theorem lcKT_fD {P : List κ} {u : κ → α} {p : κ → R Bool} {f : κ → R Int} {q : κ → Bool} {g : κ → Int} (h : ∀ x ∈ P, p x = .ok (q x) ∧ (q x = true → f x = .ok (g x))) (hl : P.length ≤ 1000) : lcKT p f (fD P u) = .ok ((P.filter q).map g) := by
  unfold lcKT
  rw [fD_keys]
  exact lcT_ok h (by omega)
theorem map_of {P : List κ} (hP : P.Nodup) : ∀ l : List α, l.length = P.length → (∃ a : α, True) → ∃ u : κ → α, l = P.map u := by
  induction P with
  | nil => intro l h ⟨a, _⟩; exact ⟨fun _ => a, List.eq_nil_of_length_eq_zero h⟩
  | cons k P ih =>
    intro l h ha
    cases l with
    | nil => cases h
    | cons x l =>
      rw [List.nodup_cons] at hP
      obtain ⟨u, rfl⟩ := ih hP.2 l (by simpa using h) ha
      refine ⟨upd u k x, ?_⟩
      rw [List.map_cons]
      congr 1
      · simp [upd]
      · exact List.map_congr_left fun y hy => by unfold upd; rw [if_neg fun e : y = k => hP.1 (e ▸ hy)]
end
/-! ### the drawn world -/
theorem enumG_append {α : Type} : ∀ (l m : List α) (i : Nat), enumG i (l ++ m) = enumG i l ++ enumG (i + l.length) m
  | [], m, i => by simp [enumG]
  | a :: l, m, i => by
    rw [List.cons_append, enumG, enumG, enumG_append l m, List.cons_append, List.length_cons]
    congr 3
    omega
theorem forT_enum {α σ : Type} {f : P2 Int α → σ → R σ} (I : List α → List α → σ → Prop) {xs0 : List α} {s0 : σ} (h0 : I [] xs0 s0) (step : ∀ pre x post s, pre ++ x :: post = xs0 → I pre (x :: post) s → ∃ s', f ⟨(pre.length : Nat), x⟩ s = .ok s' ∧ I (pre ++ [x]) post s') : ∃ s', forT f (enumG 0 xs0) s0 = .ok s' ∧ I xs0 [] s' := by
  have go : ∀ (post pre : List α) (s : σ), pre ++ post = xs0 → I pre post s → ∃ s', forT f (enumG pre.length post) s = .ok s' ∧ I xs0 [] s' := by
    intro post
    induction post with
    | nil => intro pre s e h; rw [List.append_nil] at e; subst e; exact ⟨s, rfl, h⟩
    | cons x post ih =>
      intro pre s e h
      obtain ⟨s', h1, h2⟩ := step pre x post s e h
      rw [enumG, forT_cons, h1]
      have := ih (pre ++ [x]) s' (by rw [← e, List.append_assoc]; rfl) h2
      rwa [List.length_append] at this
  exact go xs0 [] s0 rfl h0
theorem bind_of {α β : Type} {m : R α} {k : α → R β} {Q : R β → Prop} (h : ∃ d, m = .ok d ∧ Q (k d)) : Q (m.bind k) := by
  obtain ⟨d, rfl, h⟩ := h
  exact h
theorem forT_enumQ {α σ : Type} {f : P2 Int α → σ → R σ} {Q : σ → Prop} (I : List α → List α → σ → Prop) {xs0 : List α} {s0 : σ} (h0 : I [] xs0 s0) (step : ∀ pre x post s, pre ++ x :: post = xs0 → I pre (x :: post) s → ∃ s', f ⟨(pre.length : Nat), x⟩ s = .ok s' ∧ I (pre ++ [x]) post s') (hQ : ∀ d, I xs0 [] d → Q d) : ∃ s', forT f (enumG 0 xs0) s0 = .ok s' ∧ Q s' := by
  obtain ⟨d, h1, h2⟩ := forT_enum I h0 step
  exact ⟨d, h1, hQ d h2⟩
theorem forT_invQ {α σ : Type} {f : α → σ → R σ} {Q : σ → Prop} (I : List α → List α → σ → Prop) {xs0 : List α} {s0 : σ} (h0 : I [] xs0 s0) (step : ∀ pre x post s, pre ++ x :: post = xs0 → I pre (x :: post) s → ∃ s', f x s = .ok s' ∧ I (pre ++ [x]) post s') (hQ : ∀ d, I xs0 [] d → Q d) : ∃ s', forT f xs0 s0 = .ok s' ∧ Q s' := by
  obtain ⟨d, h1, h2⟩ := forT_inv I h0 step
  exact ⟨d, h1, hQ d h2⟩
/-- times that keep the table -/
def Keeps (P : List TEv) (t : Fm.Tb TEv) (u : TEv → Int) : Prop := ∀ a ∈ P, ∀ b ∈ P, ∀ x, t a b = some x → u b - u a ≤ x
theorem Keeps.world {P : List TEv} {row : List TBnd} {t : Fm.Tb TEv} {u : TEv → Int} (h : Keeps P t u) (T : Fm.Tab P (row.map bdm) t) (he : ∀ e ∈ row, e.a ∈ P ∧ e.b ∈ P) : Fm.World (row.map bdm) u := by
  intro e hm
  obtain ⟨z, h1, h2⟩ := T.le e hm
  obtain ⟨x, hx, rfl⟩ := List.mem_map.mp hm
  have := h _ (he x hx).1 _ (he x hx).2 z h1
  show u x.b - u x.a ≤ x.c
  have h2' : z ≤ x.c := h2
  omega
theorem drawn_world_ok (ns : List Int) (hl : ns.length ≤ 63) (at_ : Int) {P : List TEv} (hP : P.Nodup) (h1000 : P.length ≤ 1000) {row : List TBnd} {t : TTab} (s : Sh P t) (T : Fm.Tab P (row.map bdm) (tf t)) :
    ∃ u : TEv → Int, T_law_drawn_world ⟨ns⟩ at_ P row t = .ok ⟨P.map u⟩ ∧ Keeps P (tf t) u := by
  unfold T_law_drawn_world
  simp only [R.bind_ok]
  refine bind_of (Q := fun z : R (Tup Int) => ∃ u : TEv → Int, z = R.ok (Tup.mk (P.map u)) ∧ Keeps P (tf t) u) ?_
  refine forT_enumQ (fun pre post d => ∃ u : TEv → Int, d = fD pre u ∧ Keeps pre (tf t) u) ⟨fun _ => 0, rfl, fun a ha => by cases ha⟩ ?_ ?_
  · rintro pre e post d hpre ⟨u, rfl, hu⟩
    have hin : ∀ x ∈ pre, x ∈ P := fun x hx => hpre ▸ List.mem_append_left _ hx
    have he : e ∈ P := hpre ▸ List.mem_append_right _ List.mem_cons_self
    have hne : e ∉ pre := by
      intro h
      rw [← hpre, List.nodup_append] at hP
      exact hP.2.2 e h e List.mem_cons_self rfl
    have hpl : pre.length ≤ 1000 := by
      have := congrArg List.length hpre
      rw [List.length_append] at this
      omega
    rw [lcKT_fD (q := fun a => (tf t a e).isSome) (g := fun a => u a + (tf t a e).getD 0) (fun x hx => by
      rw [get2 s (hin x hx) he]
      refine ⟨rfl, fun hq => ?_⟩
      rw [lkT_fD hx]
      obtain ⟨y, hy⟩ := Option.isSome_iff_exists.mp hq
      rw [R.bind_ok, hy]
      rfl) hpl, R.bind_ok,
      lcKT_fD (q := fun a => (tf t e a).isSome) (g := fun a => u a - (tf t e a).getD 0) (fun x hx => by
      rw [get2 s he (hin x hx)]
      refine ⟨rfl, fun hq => ?_⟩
      rw [lkT_fD hx]
      obtain ⟨y, hy⟩ := Option.isSome_iff_exists.mp hq
      rw [R.bind_ok, hy]
      rfl) hpl, R.bind_ok]
    have hH : ∀ a ∈ pre, ∀ x, tf t a e = some x → u a + x ∈ ((pre.filter fun a => (tf t a e).isSome).map fun a => u a + (tf t a e).getD 0) := fun a ha x hx => List.mem_map.mpr ⟨a, List.mem_filter.mpr ⟨ha, by rw [hx]; rfl⟩, by rw [hx]; rfl⟩
    have hL : ∀ a ∈ pre, ∀ x, tf t e a = some x → u a - x ∈ ((pre.filter fun a => (tf t e a).isSome).map fun a => u a - (tf t e a).getD 0) := fun a ha x hx => List.mem_map.mpr ⟨a, List.mem_filter.mpr ⟨ha, by rw [hx]; rfl⟩, by rw [hx]; rfl⟩
    have hLH : ∀ l ∈ ((pre.filter fun a => (tf t e a).isSome).map fun a => u a - (tf t e a).getD 0), ∀ h ∈ ((pre.filter fun a => (tf t a e).isSome).map fun a => u a + (tf t a e).getD 0), l ≤ h := by
      intro l hl h hh
      obtain ⟨a, ha, rfl⟩ := List.mem_map.mp hl
      obtain ⟨b, hb, rfl⟩ := List.mem_map.mp hh
      obtain ⟨ha1, ha2⟩ := List.mem_filter.mp ha
      obtain ⟨hb1, hb2⟩ := List.mem_filter.mp hb
      obtain ⟨x, hx⟩ := Option.isSome_iff_exists.mp ha2
      obtain ⟨y, hy⟩ := Option.isSome_iff_exists.mp hb2
      obtain ⟨z, hz, hle⟩ := T.tri b (hin b hb1) e he a (hin a ha1) y x hy hx
      have := hu b hb1 a ha1 z hz
      rw [hx, hy]
      show u a - x ≤ u b + y
      omega
    generalize ((pre.filter fun a => (tf t a e).isSome).map fun a => u a + (tf t a e).getD 0) = H at *
    generalize ((pre.filter fun a => (tf t e a).isSome).map fun a => u a - (tf t e a).getD 0) = L at *
    have key : ∃ low high : Int, low ≤ high ∧ (∀ l ∈ L, l ≤ low) ∧ (∀ h ∈ H, high ≤ h) ∧ iteR (R.ok !decide (L = [])) (maxT L) (iteR (R.ok !decide (H = [])) ((minT H).bind fun x56 => R.ok (x56 - 5)) (R.ok 0)) = .ok low ∧ iteR (R.ok !decide (H = [])) (minT H) (R.ok (low + 5)) = .ok high := by
      by_cases cH : H = []
      · by_cases cL : L = []
        · subst cH cL
          exact ⟨0, 5, by omega, by simp, by simp, rfl, rfl⟩
        · obtain ⟨m, m1, m2, m3⟩ := maxT_spec cL
          subst cH
          refine ⟨m, m + 5, by omega, m3, by simp, ?_, rfl⟩
          rw [decide_eq_false cL, m1]; rfl
      · obtain ⟨n, n1, n2, n3⟩ := minT_spec cH
        by_cases cL : L = []
        · subst cL
          refine ⟨n - 5, n, by omega, by simp, n3, ?_, ?_⟩
          · rw [decide_eq_false cH, n1]; rfl
          · rw [decide_eq_false cH, n1]; rfl
        · obtain ⟨m, m1, m2, m3⟩ := maxT_spec cL
          refine ⟨m, n, hLH m m2 n n2, m3, n3, ?_, ?_⟩
          · rw [decide_eq_false cL, m1]; rfl
          · rw [decide_eq_false cH, n1]; rfl
    obtain ⟨low, high, k1, k2, k3, k4, k5⟩ := key
    obtain ⟨r, r0, r1, er⟩ := drawnT ns hl (at_ + (pre.length : Nat)) (high - low + 1) (by omega)
    simp only [itemsT, lstT, R.bind_ok]
    refine ⟨fD (pre ++ [e]) (upd u e (low + r)), ?_, _, rfl, ?_⟩
    · have q1 : (szB ([] : List Int).length) = true := rfl
      simp only [q1, if_true, R.bind_ok]
      rw [k4, R.bind_ok, k5, R.bind_ok, er, R.bind_ok, R.bind_ok, putT_new hne hpl, R.bind_ok]
    · intro a ha b hb x hx
      have ee : ∀ x, tf t e e = some x → 0 ≤ x := fun x hx => by
        rw [T.diag e he] at hx
        cases hx
        exact Int.le_refl _
      rw [List.mem_append, List.mem_singleton] at ha hb
      unfold upd
      have na : ∀ z ∈ pre, ¬ z = e := fun z h1 h2 => hne (h2 ▸ h1)
      rcases ha with ha | ha <;> rcases hb with hb | hb
      · rw [if_neg (na b hb), if_neg (na a ha)]
        exact hu a ha b hb x hx
      · rw [if_pos hb, if_neg (na a ha)]
        have := k3 _ (hH a ha x (hb ▸ hx))
        omega
      · rw [if_pos ha, if_neg (na b hb)]
        have := k2 _ (hL b hb x (ha ▸ hx))
        omega
      · rw [if_pos ha, if_pos hb]
        rw [ha, hb] at hx
        have := ee x hx
        omega
  · rintro d ⟨u, rfl, hu⟩
    refine ⟨u, ?_, hu⟩
    rw [lcT_map (g := u) (fun x hx => lkT_fD hx) (by omega)]
    rfl
end Fc
set_option Elab.async false
set_option linter.all false
set_option maxRecDepth 100000
set_option maxHeartbeats 2000000
namespace Fc
open PySem L2 Evl PySem.Spec PyProof.Rows
/-! ### worlds: broken, are_times, is_world -/
theorem enumG_mem {α : Type} : ∀ (l : List α) (i : Nat) (p : P2 Int α), p ∈ enumG i l → p.b ∈ l
  | [], _, _, h => by cases h
  | a :: l, i, p, h => by
    rcases List.mem_cons.mp (by simpa [enumG] using h : p ∈ ⟨((i : Nat) : Int), a⟩ :: enumG (i + 1) l) with z | z
    · rw [z]; exact List.mem_cons_self
    · exact List.mem_cons_of_mem _ (enumG_mem l (i + 1) p z)
theorem enumG_len {α : Type} : ∀ (l : List α) (i : Nat), (enumG i l).length = l.length
  | [], _ => rfl
  | a :: l, i => by rw [enumG, List.length_cons, List.length_cons, enumG_len l]
/-- the numbers of the bounds that times break -/
def brk (B : List TBnd) (u : TEv → Int) : List Int := ((enumG 0 B).filter fun p => decide (p.b.c < u p.b.b - u p.b.a)).map (·.a)
theorem brk_nil_aux {α : Type} (q : α → Bool) : ∀ (l : List α) (i : Nat), ((enumG i l).filter fun p => q p.b) = [] ↔ ∀ e ∈ l, q e = false
  | [], i => by simp [enumG]
  | a :: l, i => by
    rw [enumG, List.filter_cons]
    cases h : q a with
    | true => simp [h]
    | false =>
      simp only [Bool.false_eq_true, if_false]
      rw [brk_nil_aux q l (i + 1)]
      simp [h]
theorem brk_nil {B : List TBnd} {u : TEv → Int} : brk B u = [] ↔ Fm.World (B.map bdm) u := by
  unfold brk
  rw [List.map_eq_nil_iff, brk_nil_aux (fun e : TBnd => decide (e.c < u e.b - u e.a))]
  unfold Fm.World
  constructor
  · intro h e he
    obtain ⟨x, hx, rfl⟩ := List.mem_map.mp he
    have := of_decide_eq_false (h x hx)
    show u x.b - u x.a ≤ x.c
    omega
  · intro h e he
    have : u e.b - u e.a ≤ e.c := h (bdm e) (List.mem_map.mpr ⟨e, he, rfl⟩)
    exact decide_eq_false (by omega)
theorem by_eventsT {r : Rec} (o : r.Ok) (u : TEv → Int) : T_by_events r.t ⟨r.P.map u⟩ = .ok (fD r.P u) := by
  unfold T_by_events
  simp only [R.bind_ok]
  rw [eventsT o, R.bind_ok, dictZip_map (P_nodup r) (by have := P_len o; omega) u, R.bind_ok]
theorem is_brokenT {P : List TEv} {u : TEv → Int} {b : TBnd} (h : b.a ∈ P ∧ b.b ∈ P) : T_is_broken b (fD P u) = .ok (decide (b.c < u b.b - u b.a)) := by
  unfold T_is_broken
  simp only [R.bind_ok]
  rw [lkT_fD h.1, lkT_fD h.2]
  simp only [R.bind_ok]
theorem brokenT {r : Rec} (o : r.Ok) (u : TEv → Int) : T_broken r.t ⟨r.P.map u⟩ = .ok (brk r.B u) := by
  unfold T_broken
  simp only [R.bind_ok]
  rw [by_eventsT o, R.bind_ok, boundsT o, R.bind_ok, R.bind_ok]
  rw [lcT_ok (q := fun p : P2 Int TBnd => decide (p.b.c < u p.b.b - u p.b.a)) (g := fun p => p.a) (fun p hp => ⟨is_brokenT (B_ends o _ (enumG_mem _ _ _ hp)), fun _ => rfl⟩) (by rw [enumG_len]; have := B_len o; omega)]
  rfl
def tmE : D → Bool
  | .int _ => true
  | _ => false
/-- what are times -/
def tmB (n : Nat) : D → Bool
  | .tuple xs => decide (xs.length = n) && xs.all tmE
  | _ => false
theorem C_are_times_1_ok {w n : Nat} {xs : List D} (hk : ∀ x ∈ xs, gd w n x = true) (hl : xs.length ≤ 1000) (s0 s2 s3 : Slot) : ∃ L, C_are_times_1 [s0, .fz (.tuple xs), s2, s3] = .ok (.list L) ∧ dAll [.list L] = .ok (.bool (xs.all tmE)) := by
  refine all_lc (by simp) (fun x hx => ?_) ?_
  · have hg := hk x hx
    rw [lcStep_eq]
    simp [wipeE]
    cases x with
    | dict es => exact (gd_dict hg).elim
    | int i => rw [lcK_map (b := true) rfl fun _ => by simp; rfl]; rfl
    | bool i => rw [lcK_map (b := true) rfl fun _ => by simp; rfl]; rfl
    | none => rw [lcK_map (b := true) rfl fun _ => by simp; rfl]; rfl
    | str i => rw [lcK_map (b := true) rfl fun _ => by simp; rfl]; rfl
    | list i => rw [lcK_map (b := true) rfl fun _ => by simp; rfl]; rfl
    | tuple i => rw [lcK_map (b := true) rfl fun _ => by simp; rfl]; rfl
  · omega
theorem are_times_ok {w n : Nat} {r : Rec} (o : r.Ok) {x : D} (hg : gd w n x = true) : F_are_times [r.d, x] = .ok (.bool (tmB r.P.length x)) := by
  have eE : F_events [r.d] = .ok (.list ((evs 0 r.cs).map evd)) := events_ok o
  have hPl : r.P.length = (evs 0 r.cs).length := List.length_map ..
  have hm : ((evs 0 r.cs).map evd).length = r.P.length := by rw [hPl]; exact List.length_map ..
  unfold F_are_times M_are_times
  generalize (evs 0 r.cs).map evd = EV at *
  generalize r.d = X at *
  cases x with
  | dict es => exact (gd_dict hg).elim
  | tuple xs =>
    obtain ⟨m, rfl, hw, hk⟩ := gd_kids hg
    by_cases h : xs.length = r.P.length
    · have h16 := P_len o
      obtain ⟨L, e1, e2⟩ := C_are_times_1_ok hk (by omega) (.fz X) (.fz (.int (EV.length : Nat))) .un
      have hb : tmB r.P.length (.tuple xs) = xs.all tmE := by simp [tmB, h]
      rw [hb]
      simp [runF_2, eE, hm, h, hm ▸ e1, e2]
    · have hb : tmB r.P.length (.tuple xs) = false := by simp [tmB, h]
      have h' : ¬ (xs.length : Int) = (r.P.length : Int) := by omega
      rw [hb]
      simp [runF_2, eE, hm, h']
  | _ => simp [runF_2, eE, tmB]
theorem is_world_no {r : Rec} {x : D} (h : F_are_times [r.d, x] = .ok (.bool false)) : F_is_world [r.d, x] = .ok (.bool false) := by
  unfold F_is_world M_is_world
  simp [runF_2, h]
theorem gd_ints {w n : Nat} {l : List Int} (hw : l.length ≤ w) : gd w (n + 1) (en (Tup.mk l)) = true := gdT hw fun x _ => gd_int _ _ _
theorem gd_intsL {w n : Nat} {l : List Int} (hw : l.length ≤ w) : gd w (n + 1) (en l) = true := gdLst (by rw [List.length_map]; exact hw) fun x hx => by
  obtain ⟨y, hy, rfl⟩ := List.mem_map.mp hx
  exact gd_int _ _ _
theorem tmB_map (P : List TEv) (u : TEv → Int) : tmB P.length (en (Tup.mk (P.map u))) = true := by
  show (decide (((P.map u).map en).length = P.length) && ((P.map u).map en).all tmE) = true
  rw [List.length_map, List.length_map, decide_eq_true rfl, Bool.true_and, List.all_map, List.all_eq_true]
  intro x _
  rfl
theorem are_times_yes {r : Rec} (o : r.Ok) (u : TEv → Int) : F_are_times [r.d, en (Tup.mk (r.P.map u))] = .ok (.bool true) := by
  rw [are_times_ok (w := 1000) (n := 1) o (gd_ints (by rw [List.length_map]; have := P_len o; omega)), tmB_map]
theorem broken_ok {r : Rec} (o : r.Ok) (u : TEv → Int) : F_broken [r.d, en (Tup.mk (r.P.map u))] = .ok (en (brk r.B u)) := by
  rw [← en_rt, T_broken_ok, brokenT o]
  rfl
theorem is_world_ok {r : Rec} (o : r.Ok) (u : TEv → Int) : F_is_world [r.d, en (Tup.mk (r.P.map u))] = .ok (.bool (decide (brk r.B u = []))) := by
  have h := are_times_yes o u
  have h2 := broken_ok o u
  have h3 : dEq (en (brk r.B u)) (.list []) = .ok (.bool (decide (brk r.B u = []))) := o_eq (by decide) (brk r.B u) []
  unfold F_is_world M_is_world
  simp [runF_2, h, h2, h3]
end Fc
set_option Elab.async false
set_option linter.all false
set_option maxRecDepth 100000
set_option maxHeartbeats 2000000
namespace Fc
open PySem L2 Evl PySem.Spec PyProof.Rows
/-! ### helpers for the laws -/
theorem bind_ex {α β : Type} {m : R α} {k : α → R β} {x : R β} (p : α → Prop) (h : ∃ d, m = .ok d ∧ p d) (hk : ∀ d, p d → k d = x) : m.bind k = x := by
  obtain ⟨d, rfl, h⟩ := h
  exact hk d h
theorem lcT_ex {α β : Type} {f : α → R β} {xs : List α} (h : ∀ x ∈ xs, ∃ y, f x = .ok y) (hl : xs.length ≤ 100000) : ∃ ys, lcT (fun _ => .ok true) f xs = .ok ys ∧ ys.length = xs.length := by
  classical
  cases xs with
  | nil => exact ⟨[], rfl, rfl⟩
  | cons a xs =>
    obtain ⟨b, hb⟩ := h a List.mem_cons_self
    let g : α → β := fun x => if h : ∃ y, f x = .ok y then Classical.choose h else b
    refine ⟨(a :: xs).map g, lcT_map (fun x hx => ?_) hl, List.length_map ..⟩
    have hx' := h x hx
    show f x = .ok (if h : ∃ y, f x = .ok y then Classical.choose h else b)
    rw [dif_pos hx']
    exact Classical.choose_spec hx'
theorem rng1_nat {n : Nat} (h : n ≤ 100000) : rng1T (n : Nat) = .ok ((List.range n).map fun i => ((i : Nat) : Int)) := by
  unfold rng1T
  rw [if_pos (decide_eq_true (by omega))]
  rfl
theorem cut_take {α : Type} (l : List α) (n : Nat) : cutL l none (some ((n : Nat) : Int)) = l.take n := by
  unfold cutL
  rw [HT.sIx_none, HT.sIx_nat, List.drop_zero, Nat.sub_zero]
  by_cases h : n ≤ l.length
  · rw [Nat.min_eq_left h]
  · rw [Nat.min_eq_right (by omega), List.take_length, List.take_of_length_le (by omega)]
theorem cut_drop {α : Type} (l : List α) (n : Nat) : cutL l (some ((n : Nat) : Int)) none = l.drop n := by
  unfold cutL
  rw [HT.sIx_none, HT.sIx_nat]
  by_cases h : n ≤ l.length
  · rw [Nat.min_eq_left h, List.take_of_length_le (by rw [List.length_drop]; omega)]
  · rw [Nat.min_eq_right (by omega), List.drop_eq_nil_of_le (Nat.le_refl _), List.drop_eq_nil_of_le (by omega), List.take_nil]
theorem cut_drop1 {α : Type} (l : List α) (n : Nat) : cutL l (some ((n : Nat) + 1 : Int)) none = l.drop (n + 1) := cut_drop l (n + 1)
theorem cut_d1 {α : Type} (l : List α) : cutL l (some 1) none = l.drop 1 := cut_drop l 1
theorem cut_t1 {α : Type} (l : List α) : cutL l none (some 1) = l.take 1 := cut_take l 1
theorem itemsT_nil {α : Type} : itemsT ([] : List (R α)) = .ok [] := rfl
theorem itemsT_ok {α : Type} (a : α) (ts : List (R α)) : itemsT (.ok a :: ts) = (itemsT ts).bind fun l => .ok (a :: l) := rfl
/-- a loop that may return, but does not -/
theorem forC_nx {α σ β : Type} {f : α → σ → R (Ctl σ β)} (s : σ) : ∀ xs : List α, (∀ x ∈ xs, f x s = .ok (.nx s)) → forC f xs s = .ok (.nx s)
  | [], _ => rfl
  | x :: xs, h => by
    unfold forC
    rw [h x List.mem_cons_self, R.bind_ok]
    exact forC_nx s xs fun y hy => h y (List.mem_cons_of_mem _ hy)
theorem atT_lt {α : Type} {l : List α} {i : Int} (h0 : 0 ≤ i) (h1 : i < (l.length : Nat)) : ∃ x, atT l i = .ok x ∧ x ∈ l := by
  obtain ⟨x, h2, h3⟩ := atI_mem h0 h1
  exact ⟨x, by unfold atT; rw [h2]; rfl, h3⟩
/-- a record that is none -/
theorem en_take1 (r : TRec) : dSl (en r) none (some 1) = .ok (.tuple [en r.a]) := rfl
theorem not_rec1 (x : D) : ¬ recB (.tuple [x]) := by
  rintro ⟨q, _, h⟩
  unfold Rec.d at h
  simp at h
theorem trec_gd (r : TRec) : ∃ w, gd w 4 (en r) = true ∧ gd w 4 (.tuple [en r.a]) = true := by
  obtain ⟨w, h⟩ := gd_trec r
  obtain ⟨m, e, hw, hk⟩ := gd_kids h
  cases e
  refine ⟨w + 1, ?_, gdTup (by simp) fun x hx => ?_⟩
  · refine gdTup (by show 2 ≤ w + 1; have : 2 ≤ w := hw; omega) fun x hx => ?_
    exact gd_mono (Nat.le_succ w) (Nat.le_refl _) (hk x hx)
  · simp only [List.mem_singleton] at hx
    subst hx
    exact gd_mono (Nat.le_succ w) (Nat.le_refl _) (hk _ (by simp))
end Fc
set_option Elab.async false
set_option linter.all false
set_option maxRecDepth 100000
set_option maxHeartbeats 2000000
namespace Fm
/-! ### settling: bounds gone through in turns -/
section
variable {E : Type} [DecidableEq E]
structure St (E : Type) where
  u : E → Int
  by' : E → Option Int
  mv : Option E
def relax (s : St E) (i : Int) (e : Bd E) : St E := if s.u e.a + e.m < s.u e.b then ⟨fun x => if x = e.b then s.u e.a + e.m else s.u x, fun x => if x = e.b then some i else s.by' x, some e.b⟩ else s
def goes (row : List (Int × Bd E)) (s : St E) : St E := row.foldl (fun s p => relax s p.1 p.2) s
def turn (row : List (Int × Bd E)) (s : St E) : St E := goes row { s with mv := none }
def turns (row : List (Int × Bd E)) : Nat → St E → St E
  | 0, s => s
  | k + 1, s => turn row (turns row k s)
theorem goes_cons (p : Int × Bd E) (row : List (Int × Bd E)) (s : St E) : goes (p :: row) s = goes row (relax s p.1 p.2) := rfl
theorem goes_append (a b : List (Int × Bd E)) (s : St E) : goes (a ++ b) s = goes b (goes a s) := List.foldl_append
theorem goes_mv : ∀ (row : List (Int × Bd E)) (s : St E), s.mv ≠ none → (goes row s).mv ≠ none
  | [], s, h => h
  | p :: row, s, h => by
    rw [goes_cons]
    refine goes_mv row _ ?_
    unfold relax
    split
    · exact fun z => by cases z
    · exact h
theorem goes_none : ∀ (row : List (Int × Bd E)) (s : St E), (goes row s).mv = none → goes row s = s ∧ ∀ p ∈ row, s.u p.2.b ≤ s.u p.2.a + p.2.m
  | [], s, _ => ⟨rfl, fun p h => by cases h⟩
  | p :: row, s, h => by
    rw [goes_cons] at h ⊢
    by_cases c : s.u p.2.a + p.2.m < s.u p.2.b
    · refine absurd h (goes_mv row _ ?_)
      unfold relax
      rw [if_pos c]
      exact fun z => by cases z
    · have e : relax s p.1 p.2 = s := by unfold relax; rw [if_neg c]
      rw [e] at h ⊢
      obtain ⟨h1, h2⟩ := goes_none row s h
      refine ⟨h1, fun q hq => ?_⟩
      rcases List.mem_cons.mp hq with z | z
      · rw [z]; omega
      · exact h2 q z
theorem relax_le (s : St E) (i : Int) (e : Bd E) (x : E) : (relax s i e).u x ≤ s.u x := by
  unfold relax
  split
  · simp only
    split
    · rename_i h1 h2; subst h2; omega
    · exact Int.le_refl _
  · exact Int.le_refl _
theorem goes_le : ∀ (row : List (Int × Bd E)) (s : St E) (x : E), (goes row s).u x ≤ s.u x
  | [], s, x => Int.le_refl _
  | p :: row, s, x => by rw [goes_cons]; exact Int.le_trans (goes_le row _ x) (relax_le s _ _ x)
theorem turn_le (row : List (Int × Bd E)) (s : St E) (x : E) : (turn row s).u x ≤ s.u x := goes_le row _ x
theorem turns_le (row : List (Int × Bd E)) : ∀ (k : Nat) (s : St E) (x : E), (turns row k s).u x ≤ s.u x
  | 0, s, x => Int.le_refl _
  | k + 1, s, x => Int.le_trans (turn_le row _ x) (turns_le row k s x)
def Keep (g : E → Int) (row : List (Int × Bd E)) : Prop := ∀ p ∈ row, g p.2.b ≤ g p.2.a + p.2.m
theorem goes_ge {g : E → Int} : ∀ (row : List (Int × Bd E)) (s : St E), Keep g row → (∀ x, g x ≤ s.u x) → ∀ x, g x ≤ (goes row s).u x
  | [], s, _, h, x => h x
  | p :: row, s, k, h, x => by
    rw [goes_cons]
    refine goes_ge row _ (fun q hq => k q (List.mem_cons_of_mem _ hq)) (fun y => ?_) x
    unfold relax
    split
    · simp only
      split
      · rename_i h1 h2
        subst h2
        have := k p List.mem_cons_self
        have := h p.2.a
        omega
      · exact h y
    · exact h y
theorem goes_tight {g : E → Int} {row : List (Int × Bd E)} {s : St E} (k : Keep g row) (h : ∀ x, g x ≤ s.u x) {p : Int × Bd E} (hp : p ∈ row) (ha : s.u p.2.a = g p.2.a) (ht : g p.2.b = g p.2.a + p.2.m) : (goes row s).u p.2.b = g p.2.b := by
  obtain ⟨pre, post, rfl⟩ := List.append_of_mem hp
  have kp : Keep g pre := fun q hq => k q (List.mem_append_left _ hq)
  have kq : Keep g (p :: post) := fun q hq => k q (List.mem_append_right _ hq)
  have h1 := goes_ge pre s kp h
  have h2 : (goes pre s).u p.2.a = g p.2.a := by
    have := goes_le pre s p.2.a
    have := h1 p.2.a
    omega
  rw [goes_append]
  have h3 := goes_ge (p :: post) (goes pre s) kq h1 p.2.b
  have h4 : (goes (p :: post) (goes pre s)).u p.2.b ≤ g p.2.b := by
    rw [goes_cons]
    refine Int.le_trans (goes_le post _ _) ?_
    unfold relax
    split
    · simp only [if_true]
      omega
    · omega
  omega
/-- the greatest world that is nowhere above 0 -/
structure Top (P : List E) (row : List (Int × Bd E)) (g : E → Int) : Prop where
  keep : Keep g row
  le0 : ∀ x, g x ≤ 0
  top : ∀ v : E → Int, Keep v row → (∀ x, v x ≤ 0) → ∀ x ∈ P, v x ≤ g x
def cnt (P : List E) (g u : E → Int) : Nat := P.countP fun x => decide (u x = g x)
theorem cnt_lt {g u u' : E → Int} : ∀ {P : List E} {b : E}, (∀ x, u x = g x → u' x = g x) → b ∈ P → u b ≠ g b → u' b = g b → cnt P g u < cnt P g u'
  | [], _, _, h, _, _ => by cases h
  | a :: P, b, hs, hb, h1, h2 => by
    have hm : cnt P g u ≤ cnt P g u' := List.countP_mono_left fun x _ hx => decide_eq_true (hs x (of_decide_eq_true hx))
    unfold cnt at *
    rw [List.countP_cons, List.countP_cons]
    rcases List.mem_cons.mp hb with z | z
    · subst z
      simp only [h1, h2, decide_false, decide_true, if_true]
      simp only [Bool.false_eq_true, if_false]
      omega
    · have ih := cnt_lt (P := P) hs z h1 h2
      unfold cnt at ih
      by_cases c : u a = g a
      · simp only [c, hs a c, decide_true, if_true]
        omega
      · simp only [c, decide_false, Bool.false_eq_true, if_false]
        split <;> omega
theorem cnt_full {P : List E} {g u : E → Int} (h : P.length ≤ cnt P g u) : ∀ x ∈ P, u x = g x := by
  have h2 : P.countP (fun x => decide (u x = g x)) = P.length := Nat.le_antisymm List.countP_le_length h
  intro x hx
  exact of_decide_eq_true (List.countP_eq_length.mp h2 x hx)
/-- where not all is settled, a tight bound leads out of what is -/
theorem Top.out {P : List E} {row : List (Int × Bd E)} {g u : E → Int} (T : Top P row g) (he : ∀ p ∈ row, p.2.a ∈ P ∧ p.2.b ∈ P) (hu : ∀ x, g x ≤ u x) (h0 : ∀ x, u x ≤ 0) {b : E} (hb : b ∈ P) (hne : u b ≠ g b) :
    ∃ p ∈ row, u p.2.a = g p.2.a ∧ g p.2.b = g p.2.a + p.2.m ∧ u p.2.b ≠ g p.2.b := by
  apply Classical.byContradiction
  intro hno
  let v : E → Int := fun x => if u x = g x then g x else g x + 1
  have kv : Keep v row := by
    intro p hp
    have k := T.keep p hp
    show (if u p.2.b = g p.2.b then g p.2.b else g p.2.b + 1) ≤ (if u p.2.a = g p.2.a then g p.2.a else g p.2.a + 1) + p.2.m
    by_cases c1 : u p.2.b = g p.2.b
    · rw [if_pos c1]
      split <;> omega
    · rw [if_neg c1]
      by_cases c2 : u p.2.a = g p.2.a
      · rw [if_pos c2]
        have : g p.2.b ≠ g p.2.a + p.2.m := fun e => hno ⟨p, hp, c2, e, c1⟩
        omega
      · rw [if_neg c2]
        omega
  have v0 : ∀ x, v x ≤ 0 := by
    intro x
    show (if u x = g x then g x else g x + 1) ≤ 0
    have := hu x
    have := h0 x
    split
    · omega
    · omega
  have := T.top v kv v0 b hb
  have e : v b = g b + 1 := if_neg hne
  omega
theorem settled_cnt {P : List E} {row : List (Int × Bd E)} {g : E → Int} (T : Top P row g) (he : ∀ p ∈ row, p.2.a ∈ P ∧ p.2.b ∈ P) {s : St E} (h0 : ∀ x, s.u x = 0) : ∀ k, min P.length (k + 1) ≤ cnt P g (turns row k s).u ∧ (∀ x, g x ≤ (turns row k s).u x)
  | 0 => by
    have hg : ∀ x, g x ≤ s.u x := fun x => by rw [h0]; exact T.le0 x
    refine ⟨?_, hg⟩
    show min P.length 1 ≤ cnt P g s.u
    apply Classical.byContradiction
    intro hlt
    have hz : cnt P g s.u = 0 ∧ 0 < P.length := by omega
    have hn : ∀ x ∈ P, s.u x ≠ g x := fun x hx e => by
      have := (List.countP_eq_zero.mp hz.1) x hx
      exact this (decide_eq_true e)
    obtain ⟨b, hb⟩ := List.exists_mem_of_length_pos hz.2
    obtain ⟨p, hp, h1, _, _⟩ := T.out he hg (fun x => by rw [h0]; exact Int.le_refl _) hb (hn b hb)
    exact hn _ (he p hp).1 h1
  | k + 1 => by
    obtain ⟨h1, h2⟩ := settled_cnt T he h0 k
    have h3 : ∀ x, g x ≤ (turns row (k + 1) s).u x := goes_ge row _ T.keep h2
    refine ⟨?_, h3⟩
    have hs : ∀ x, (turns row k s).u x = g x → (turns row (k + 1) s).u x = g x := fun x e => by
      have := turn_le row (turns row k s) x
      have := h3 x
      show (turn row (turns row k s)).u x = g x
      have h3' : g x ≤ (turn row (turns row k s)).u x := h3 x
      omega
    by_cases hall : ∀ x ∈ P, (turns row k s).u x = g x
    · have : cnt P g (turns row (k + 1) s).u = P.length := List.countP_eq_length.mpr fun x hx => decide_eq_true (hs x (hall x hx))
      omega
    · obtain ⟨b, hb⟩ := Classical.not_forall.mp hall
      obtain ⟨hb, hne⟩ := Classical.not_imp.mp hb
      obtain ⟨p, hp, a1, a2, a3⟩ := T.out he h2 (fun x => Int.le_trans (turns_le row k s x) (by rw [h0]; exact Int.le_refl _)) hb hne
      have ht : (turns row (k + 1) s).u p.2.b = g p.2.b := goes_tight (s := { turns row k s with mv := none }) T.keep h2 hp a1 a2
      have := cnt_lt hs (he p hp).2 a3 ht
      omega
/-- after as many turns as there are events, nothing moves and all stands at the top -/
theorem settled_top {P : List E} {row : List (Int × Bd E)} {g : E → Int} (T : Top P row g) (he : ∀ p ∈ row, p.2.a ∈ P ∧ p.2.b ∈ P) (hP : 0 < P.length) {s : St E} (h0 : ∀ x, s.u x = 0) :
    (turns row P.length s).mv = none ∧ ∀ x ∈ P, (turns row P.length s).u x = g x := by
  obtain ⟨n, hn⟩ : ∃ n, P.length = n + 1 := ⟨P.length - 1, by omega⟩
  obtain ⟨h1, h2⟩ := settled_cnt T he h0 n
  have hall := cnt_full (P := P) (g := g) (u := (turns row n s).u) (by omega)
  rw [hn]
  have key : ∀ (row' : List (Int × Bd E)) (s' : St E), (∀ p ∈ row', p ∈ row) → (∀ x ∈ P, s'.u x = g x) → goes row' s' = s' := by
    intro row'
    induction row' with
    | nil => intro s' _ _; rfl
    | cons p row' ih =>
      intro s' hr hs
      rw [goes_cons]
      have hp := hr p List.mem_cons_self
      have e : relax s' p.1 p.2 = s' := by
        unfold relax
        have := T.keep p hp
        rw [if_neg (by rw [hs _ (he p hp).1, hs _ (he p hp).2]; omega)]
      rw [e]
      exact ih s' (fun q hq => hr q (List.mem_cons_of_mem _ hq)) hs
  have e := key row { turns row n s with mv := none } (fun p hp => hp) hall
  have e2 : turns row (n + 1) s = { turns row n s with mv := none } := e
  rw [e2]
  exact ⟨rfl, hall⟩
/-- what does not move keeps the bounds -/
theorem settled_world {row : List (Int × Bd E)} {n : Nat} (hn : 0 < n) {s : St E} (h : (turns row n s).mv = none) : Keep (turns row n s).u row := by
  obtain ⟨k, rfl⟩ : ∃ k, n = k + 1 := ⟨n - 1, by omega⟩
  obtain ⟨h1, h2⟩ := goes_none row _ h
  have e : turns row (k + 1) s = { turns row k s with mv := none } := h1
  rw [e]
  exact h2
end
end Fm
set_option Elab.async false
set_option linter.all false
set_option maxRecDepth 100000
set_option maxHeartbeats 2000000
namespace Fc
open PySem L2 Evl PySem.Spec PyProof.Rows
/-! ### settled, world_of, world, the law's world -/
def enB (row : List TBnd) : List (Int × Fm.Bd TEv) := (enumG 0 row).map fun p => (p.a, bdm p.b)
theorem enB_mem {row : List TBnd} {p : Int × Fm.Bd TEv} (h : p ∈ enB row) : ∃ e ∈ row, p.2 = bdm e := by
  obtain ⟨q, hq, rfl⟩ := List.mem_map.mp h
  exact ⟨q.b, enumG_mem _ _ _ hq, rfl⟩
theorem mem_enB {row : List TBnd} {e : TBnd} (h : e ∈ row) : ∃ p ∈ enB row, p.2 = bdm e := by
  have : ∀ (l : List TBnd) (i : Nat), e ∈ l → ∃ q ∈ enumG i l, q.b = e := by
    intro l
    induction l with
    | nil => intro i h; cases h
    | cons a l ih =>
      intro i h
      rcases List.mem_cons.mp h with z | z
      · exact ⟨⟨(i : Nat), a⟩, List.mem_cons_self, z.symm⟩
      · obtain ⟨q, h1, h2⟩ := ih (i + 1) z
        exact ⟨q, List.mem_cons_of_mem _ h1, h2⟩
  obtain ⟨q, h1, h2⟩ := this row 0 h
  exact ⟨(q.a, bdm q.b), List.mem_map.mpr ⟨q, h1, rfl⟩, by rw [h2]⟩
theorem keep_world {row : List TBnd} {u : TEv → Int} : Fm.Keep u (enB row) ↔ Fm.World (row.map bdm) u := by
  constructor
  · intro h e he
    obtain ⟨x, hx, rfl⟩ := List.mem_map.mp he
    obtain ⟨p, hp, e⟩ := mem_enB hx
    have := h p hp
    rw [e] at this
    omega
  · intro h p hp
    obtain ⟨e, he, e2⟩ := enB_mem hp
    have := h (bdm e) (List.mem_map.mpr ⟨e, he, rfl⟩)
    rw [e2]
    omega
theorem sub_len {α : Type} [DecidableEq α] : ∀ {l P : List α}, l.Nodup → (∀ x ∈ l, x ∈ P) → l.length ≤ P.length
  | [], _, _, _ => Nat.zero_le _
  | a :: l, P, hn, hs => by
    rw [List.nodup_cons] at hn
    have ha := hs a List.mem_cons_self
    have := sub_len (l := l) (P := P.erase a) hn.2 fun x hx => (List.mem_erase_of_ne fun e : x = a => hn.1 (e ▸ hx)).mpr (hs x (List.mem_cons_of_mem _ hx))
    rw [List.length_erase_of_mem ha] at this
    have := List.length_pos_of_mem ha
    rw [List.length_cons]
    omega
abbrev TSt := Dct TEv Int × Dct TEv Int × Option TEv
structure RelS (P : List TEv) (s : TSt) (u : Fm.St TEv) : Prop where
  t : s.1 = fD P u.u
  by' : ∀ k, lkO s.2.1.l k = u.by' k
  nd : (s.2.1.l.map (·.1)).Nodup
  sub : ∀ k ∈ s.2.1.l.map (·.1), k ∈ P
  mv : s.2.2 = u.mv
theorem put_by {P : List TEv} (hl : P.length ≤ 1000) {d : Dct TEv Int} (nd : (d.l.map (·.1)).Nodup) (sub : ∀ k ∈ d.l.map (·.1), k ∈ P) {k : TEv} (hk : k ∈ P) (v : Int) :
    ∃ d', putT d k v = .ok d' ∧ (∀ j, lkO d'.l j = if j = k then some v else lkO d.l j) ∧ (d'.l.map (·.1)).Nodup ∧ ∀ j ∈ d'.l.map (·.1), j ∈ P := by
  have hlen := sub_len nd sub
  rw [List.length_map] at hlen
  refine ⟨⟨putL d.l k v⟩, ?_, fun j => lkO_putL d.l k j v, ?_⟩
  · unfold putT
    rw [if_pos (show szB (d.l.length + 1) = true from decide_eq_true (by omega))]
  · by_cases h : k ∈ d.l.map (·.1)
    · show ((putL d.l k v).map (·.1)).Nodup ∧ ∀ j ∈ (putL d.l k v).map (·.1), j ∈ P
      rw [putL_keys h]
      exact ⟨nd, sub⟩
    · show ((putL d.l k v).map (·.1)).Nodup ∧ ∀ j ∈ (putL d.l k v).map (·.1), j ∈ P
      rw [putL_new h, List.map_append]
      refine ⟨List.nodup_append.mpr ⟨nd, by simp, fun a ha b hb e => ?_⟩, fun j hj => ?_⟩
      · have : b = k := by simpa using hb
        exact h (this ▸ e ▸ ha)
      · rcases List.mem_append.mp hj with z | z
        · exact sub j z
        · have : j = k := by simpa using z
          exact this ▸ hk
theorem turns_comm (row : List (Int × Fm.Bd TEv)) : ∀ (n : Nat) (s : Fm.St TEv), Fm.turns row n (Fm.turn row s) = Fm.turns row (n + 1) s
  | 0, s => rfl
  | n + 1, s => by
    show Fm.turn row (Fm.turns row n (Fm.turn row s)) = _
    rw [turns_comm row n s]; rfl
theorem foldl_turns {α : Type} (row : List (Int × Fm.Bd TEv)) : ∀ (l : List α) (s : Fm.St TEv), l.foldl (fun s _ => Fm.turn row s) s = Fm.turns row l.length s
  | [], s => rfl
  | a :: l, s => by rw [List.foldl_cons, foldl_turns row l, turns_comm]; rfl
def st0 : Fm.St TEv := ⟨fun _ => 0, fun _ => none, none⟩
theorem settled_ok {P : List TEv} (hP : P.Nodup) (hl : P.length ≤ 1000) {row : List TBnd} (he : ∀ e ∈ row, e.a ∈ P ∧ e.b ∈ P) :
    ∃ s : TSt, T_settled P row = .ok ⟨s.1, s.2.1, s.2.2⟩ ∧ RelS P s (Fm.turns (enB row) P.length st0) := by
  unfold T_settled
  simp only [R.bind_ok]
  have e1 : lcT (fun y5 : TEv => R.ok true) (fun x6 => R.ok (⟨x6, 0⟩ : P2 TEv Int)) P = .ok (P.map fun x => ⟨x, 0⟩) := lcT_map (fun x _ => rfl) (by omega)
  have e2 : dictT (P.map fun x => (⟨x, 0⟩ : P2 TEv Int)) = .ok (fD P fun _ => 0) := by
    unfold dictT
    rw [if_pos (decide_eq_true (by rw [List.length_map]; exact hl)), mergeL_nodup _ _ (by rw [List.map_nil, List.nil_append, List.map_map]; exact (List.map_id P).symm ▸ hP), List.map_map]
    rfl
  rw [e1, R.bind_ok, e2, R.bind_ok, rng1_nat (by omega), R.bind_ok]
  refine bind_of (Q := fun z : R (P3 (Dct TEv Int) (Dct TEv Int) (Option TEv)) => ∃ s : TSt, z = .ok ⟨s.1, s.2.1, s.2.2⟩ ∧ RelS P s (Fm.turns (enB row) P.length st0)) ?_
  have hlen : ((List.range P.length).map fun i => ((i : Nat) : Int)).length = P.length := by simp
  generalize ((List.range P.length).map fun i => ((i : Nat) : Int)) = turnsL at *
  have r0 : RelS P (fD P (fun _ => 0), ⟨[]⟩, none) st0 := ⟨rfl, fun _ => rfl, List.nodup_nil, fun k h => (by cases h), rfl⟩
  obtain ⟨s', h1, h2⟩ := forT_rel (f := fun (x10 : Int) (s11 : TSt) => (forT (fun (x27 : P2 Int TBnd) (s28 : TSt) => (((lkT s28.1 x27.b.a).bind fun x43 => R.ok (x43 + x27.b.c)).bind fun x47 => (lkT s28.1 x27.b.b).bind fun x48 => R.ok (decide (x47 < x48))).bind fun x61 =>
      if x61 = true then ((lkT s28.1 x27.b.a).bind fun x51 => R.ok (x51 + x27.b.c)).bind fun x53 => (putT s28.1 x27.b.b x53).bind fun v_times_55 => (putT s28.2.1 x27.b.b x27.a).bind fun v_by_58 => R.ok (v_times_55, v_by_58, some x27.b.b)
      else R.ok (s28.1, s28.2.1, s28.2.2)) (enumG 0 row) (s11.1, s11.2.1, none)).bind fun s34 => R.ok (s34.1, s34.2.1, s34.2.2))
    (g := fun u _ => Fm.turn (enB row) u) (RelS P) turnsL (fD P (fun _ => 0), ⟨[]⟩, none) st0 r0 fun _ _ s u hs => by
      obtain ⟨s2, g1, g2⟩ := forT_rel (f := fun (x27 : P2 Int TBnd) (s28 : TSt) => (((lkT s28.1 x27.b.a).bind fun x43 => R.ok (x43 + x27.b.c)).bind fun x47 => (lkT s28.1 x27.b.b).bind fun x48 => R.ok (decide (x47 < x48))).bind fun x61 =>
          if x61 = true then ((lkT s28.1 x27.b.a).bind fun x51 => R.ok (x51 + x27.b.c)).bind fun x53 => (putT s28.1 x27.b.b x53).bind fun v_times_55 => (putT s28.2.1 x27.b.b x27.a).bind fun v_by_58 => R.ok (v_times_55, v_by_58, some x27.b.b)
          else R.ok (s28.1, s28.2.1, s28.2.2))
        (g := fun (u : Fm.St TEv) (p : P2 Int TBnd) => Fm.relax u p.a (bdm p.b)) (RelS P) (enumG 0 row) (s.1, s.2.1, none) { u with mv := none } ⟨hs.t, hs.by', hs.nd, hs.sub, rfl⟩ fun p hp s u hs => by
          obtain ⟨ha, hb⟩ := he _ (enumG_mem _ _ _ hp)
          rw [hs.t, lkT_fD ha, lkT_fD hb, R.bind_ok, R.bind_ok, R.bind_ok, R.bind_ok]
          unfold Fm.relax
          by_cases c : u.u p.b.a + p.b.c < u.u p.b.b
          · obtain ⟨d', q1, q2, q3, q4⟩ := put_by hl hs.nd hs.sub hb p.a
            have c' : u.u (bdm p.b).a + (bdm p.b).m < u.u (bdm p.b).b := c
            rw [if_pos (decide_eq_true c), if_pos c', R.bind_ok, putT_old hb hl, R.bind_ok, q1, R.bind_ok]
            refine ⟨_, rfl, rfl, fun k => ?_, q3, q4, rfl⟩
            rw [q2]
            show _ = if k = p.b.b then some p.a else u.by' k
            rw [hs.by']
          · have c' : ¬ u.u (bdm p.b).a + (bdm p.b).m < u.u (bdm p.b).b := c
            rw [if_neg (by simpa using c), if_neg c']
            exact ⟨_, rfl, rfl, hs.by', hs.nd, hs.sub, hs.mv⟩
      rw [g1, R.bind_ok]
      refine ⟨_, rfl, ?_⟩
      have e : Fm.turn (enB row) u = (enumG 0 row).foldl (fun (u : Fm.St TEv) (p : P2 Int TBnd) => Fm.relax u p.a (bdm p.b)) { u with mv := none } := by
        unfold Fm.turn Fm.goes enB
        rw [foldl_map']
      rw [e]
      exact g2
  refine ⟨s', h1, s', rfl, ?_⟩
  rw [foldl_turns, hlen] at h2
  exact h2
/-- the greatest world not above 0, from the table -/
def gT (P : List TEv) (t : Fm.Tb TEv) (b : TEv) : Int := (minL (0 :: P.filterMap fun a => t a b)).getD 0
theorem gT_spec (P : List TEv) (t : Fm.Tb TEv) (b : TEv) : gT P t b ≤ 0 ∧ (∀ a ∈ P, ∀ x, t a b = some x → gT P t b ≤ x) ∧ (gT P t b = 0 ∨ ∃ a ∈ P, t a b = some (gT P t b)) := by
  obtain ⟨m, h1, h2, h3⟩ := minL_spec (l := 0 :: P.filterMap fun a => t a b) (by simp)
  have e : gT P t b = m := by unfold gT; rw [h1]; rfl
  rw [e]
  refine ⟨h3 0 List.mem_cons_self, fun a ha x hx => h3 x (List.mem_cons_of_mem _ (List.mem_filterMap.mpr ⟨a, ha, hx⟩)), ?_⟩
  rcases List.mem_cons.mp h2 with z | z
  · exact .inl z
  · exact .inr (List.mem_filterMap.mp z)
theorem gT_top {P : List TEv} {row : List TBnd} {t : Fm.Tb TEv} (T : Fm.Tab P (row.map bdm) t) (he : ∀ e ∈ row, e.a ∈ P ∧ e.b ∈ P) : Fm.Top P (enB row) (gT P t) where
  keep := fun p hp => by
    obtain ⟨e, h1, h2⟩ := enB_mem hp
    rw [h2]
    obtain ⟨ha, hb⟩ := he e h1
    obtain ⟨z, hz, hle⟩ := T.le (bdm e) (List.mem_map.mpr ⟨e, h1, rfl⟩)
    obtain ⟨_, a2, a3⟩ := gT_spec P t e.a
    obtain ⟨_, b2, _⟩ := gT_spec P t e.b
    show gT P t e.b ≤ gT P t e.a + e.c
    have hle : z ≤ e.c := hle
    rcases a3 with h | ⟨c, hc, hx⟩
    · have := b2 e.a ha z hz
      omega
    · obtain ⟨y, hy, hyl⟩ := T.tri c hc e.a ha e.b hb _ _ hx hz
      have := b2 c hc y hy
      omega
  le0 := fun x => (gT_spec P t x).1
  top := fun v kv v0 x hx => by
    obtain ⟨_, _, a3⟩ := gT_spec P t x
    rcases a3 with h | ⟨a, ha, h⟩
    · rw [h]; exact v0 x
    · have := (T.walk a x _ h).world (keep_world.mp kv)
      have := v0 a
      omega
theorem world_of_some {P : List TEv} (hP : P.Nodup) (hl : P.length ≤ 1000) (hp : 0 < P.length) {row : List TBnd} (he : ∀ e ∈ row, e.a ∈ P ∧ e.b ∈ P) {t : Fm.Tb TEv} (T : Fm.Tab P (row.map bdm) t) :
    T_world_of P row = .ok (some ⟨P.map (gT P t)⟩) := by
  obtain ⟨s, h1, h2⟩ := settled_ok hP hl he
  obtain ⟨m1, m2⟩ := Fm.settled_top (gT_top T he) (fun p hp => by
    obtain ⟨e, q1, q2⟩ := enB_mem hp
    rw [q2]
    exact he e q1) hp (s := st0) (fun _ => rfl)
  unfold T_world_of
  simp only [R.bind_ok]
  rw [h1, R.bind_ok]
  have e3 : s.2.2 = none := h2.mv.trans m1
  simp only [e3, h2.t, optK_n]
  rw [lcT_map (g := gT P t) (fun x hx => by rw [lkT_fD hx, m2 x hx]) (by omega)]
  rfl
theorem world_of_none {P : List TEv} (hP : P.Nodup) (hl : P.length ≤ 1000) (hp : 0 < P.length) {row : List TBnd} (he : ∀ e ∈ row, e.a ∈ P ∧ e.b ∈ P) (hno : ∀ u, ¬ Fm.World (row.map bdm) u) :
    T_world_of P row = .ok none := by
  obtain ⟨s, h1, h2⟩ := settled_ok hP hl he
  have hm : (Fm.turns (enB row) P.length st0).mv ≠ none := fun e => hno _ (keep_world.mp (Fm.settled_world hp e))
  unfold T_world_of
  simp only [R.bind_ok]
  rw [h1, R.bind_ok]
  obtain ⟨x, e3⟩ := Option.ne_none_iff_exists'.mp hm
  have e4 : s.2.2 = some x := h2.mv.trans e3
  simp only [e4, optK_s]
  rfl
theorem optL_some (t : TEv → Option Int) : ∀ P : List TEv, optL ((P.filter fun a => (t a).isSome).map t) = some (P.filterMap t)
  | [] => rfl
  | a :: P => by
    have ih := optL_some t P
    cases h : t a with
    | none => rw [List.filter_cons_of_neg (by simp [h]), List.filterMap_cons_none h, ih]
    | some x =>
      rw [List.filter_cons_of_pos (by simp [h]), List.filterMap_cons_some h, List.map_cons, h]
      unfold optL
      rw [ih]
      rfl
theorem law_world_ok (r : TRec) {P : List TEv} (hl : P.length ≤ 1000) {w : TTab} (s : Sh P w) : T_law_world r (some w) P = .ok (some ⟨P.map (gT P (tf w))⟩) := by
  unfold T_law_world
  simp only [R.bind_ok, optK_s, itemsT_nil, itemsT_ok]
  rw [lstT_ok (by simp), R.bind_ok]
  refine bind_ex (fun l => l = P.map (gT P (tf w))) ?_ fun l e => by rw [e]
  refine forT_invQ (fun pre post l => l = pre.map (gT P (tf w))) rfl (fun pre b post l hpre hl' => ?_) (fun d h => h)
  have hb : b ∈ P := hpre ▸ List.mem_append_right _ List.mem_cons_self
  have hpl : pre.length ≤ 1000 := by
    have := congrArg List.length hpre
    rw [List.length_append] at this
    omega
  subst hl'
  rw [lstT_ok (by simp), R.bind_ok]
  rw [lcT_ok (q := fun a => (tf w a b).isSome) (g := fun a => tf w a b) (fun a ha => ⟨by rw [get2 s ha hb]; rfl, fun _ => get2 s ha hb⟩) (by omega), R.bind_ok]
  rw [catT_ok (by rw [List.length_map]; have := List.length_filter_le (fun a => (tf w a b).isSome) P; simp only [List.length_cons, List.length_nil]; omega), R.bind_ok]
  have e : minOT ([some 0] ++ (P.filter fun a => (tf w a b).isSome).map fun a => tf w a b) = .ok (gT P (tf w) b) := by
    unfold minOT
    have : optL ([some 0] ++ (P.filter fun a => (tf w a b).isSome).map fun a => tf w a b) = some (0 :: P.filterMap fun a => tf w a b) := by
      show (optL ((P.filter fun a => (tf w a b).isSome).map fun a => tf w a b)).map (fun r => 0 :: r) = _
      rw [optL_some (fun a => tf w a b) P]
      rfl
    rw [this]
    rfl
  rw [e, R.bind_ok, appT_ok (by rw [List.length_map]; omega), R.bind_ok]
  exact ⟨_, rfl, by rw [List.map_append]; rfl⟩
/-! ### of a record -/
theorem worldT_some {r : Rec} (o : r.Ok) {t : Fm.Tb TEv} (T : Fm.Tab r.P (r.B.map bdm) t) : T_world r.t = .ok (some ⟨r.P.map (gT r.P t)⟩) := by
  unfold T_world
  simp only [R.bind_ok]
  rw [eventsT o, R.bind_ok, boundsT o, R.bind_ok, world_of_some (P_nodup r) (by have := P_len o; omega) (P_pos o) (B_ends o) T]
  rfl
theorem worldT_none {r : Rec} (o : r.Ok) (h : ∀ u, ¬ Fm.World (r.B.map bdm) u) : T_world r.t = .ok none := by
  unfold T_world
  simp only [R.bind_ok]
  rw [eventsT o, R.bind_ok, boundsT o, R.bind_ok, world_of_none (P_nodup r) (by have := P_len o; omega) (P_pos o) (B_ends o) h]
  rfl
theorem has_worldT {r : Rec} {w : Option (Tup Int)} (h : T_world r.t = .ok w) : T_has_world r.t = .ok w.isSome := by
  unfold T_has_world
  simp only [R.bind_ok]
  rw [h]
  rfl
theorem gT_world {P : List TEv} {row : List TBnd} {t : Fm.Tb TEv} (T : Fm.Tab P (row.map bdm) t) (he : ∀ e ∈ row, e.a ∈ P ∧ e.b ∈ P) : Fm.World (row.map bdm) (gT P t) := keep_world.mp (gT_top T he).keep
theorem is_worldT {r : Rec} (o : r.Ok) (u : TEv → Int) : T_is_world r.t (en (Tup.mk (r.P.map u))) = .ok (decide (brk r.B u = [])) := by
  unfold T_is_world
  rw [en_rt, is_world_ok o]
  rfl
theorem moved_byT {r : Rec} (o : r.Ok) {u : TEv → Int} (h : Fm.World (r.B.map bdm) u) (m : Int) : T_moved_by r.t ⟨r.P.map u⟩ m = .ok ⟨r.P.map fun x => u x + m⟩ := by
  unfold T_moved_by
  simp only [R.bind_ok]
  rw [is_worldT o, brk_nil.mpr h, decide_eq_true rfl, R.bind_ok, R.bind_ok, if_neg (by decide), lcT_map (g := fun x => x + m) (fun x _ => rfl) (by rw [List.length_map]; have := P_len o; omega), List.map_map]
  rfl
theorem moved_byT_no {r : Rec} {l : List Int} {m : Int} (h : T_is_world r.t (en (Tup.mk l)) = .ok false) : T_moved_by r.t ⟨l⟩ m = .er "NoWorld" := by
  unfold T_moved_by
  simp only [R.bind_ok]
  rw [h]
  rfl
end Fc
set_option Elab.async false
set_option linter.all false
set_option maxRecDepth 100000
set_option maxHeartbeats 2000000
namespace Fc
open PySem L2 Evl PySem.Spec PyProof.Rows
def bckK (r : R D) : RS := match r with
  | .ok d => .rt d
  | _ => .bad
@[simp] theorem bckK_ok (d : D) : bckK (.ok d) = .rt d := rfl
def tryK (r : RS) (T : Str → R D) : RS := match r with
  | .er c _ => bckK (T c)
  | r => r
@[simp] theorem tryK_rt (d : D) (T : Str → R D) : tryK (.rt d) T = .rt d := rfl
@[simp] theorem tryK_nx (d : En) (T : Str → R D) : tryK (.nx d) T = .nx d := rfl
@[simp] theorem tryK_er (c : Str) (ρ : En) (T : Str → R D) : tryK (.er c ρ) T = bckK (T c) := rfl
@[simp] theorem sTryR_eq (M : DS) (T : Str → R D) (ρ : En) : sTryR M T ρ = tryK (M ρ) T := by
  unfold sTryR tryK bckK
  rfl
def pickK (gs : List (List D → R D)) (d : D) (m : R (List D)) : R D := match d with
  | .int j => (match atI gs j with
    | some g => m.bind g
    | none => .bad)
  | _ => .bad
@[simp] theorem ePick_eq (gs : List (List D → R D)) (mi : DE) (ms : DA) (ρ : En) : ePick gs mi ms ρ = (mi ρ).bind fun d => pickK gs d (ms ρ) := rfl
@[simp] theorem pickK_0 (f g : List D → R D) (m : R (List D)) : pickK [f, g] (.int 0) m = m.bind f := by
  unfold pickK
  simp
@[simp] theorem pickK_1 (f g : List D → R D) (m : R (List D)) : pickK [f, g] (.int 1) m = m.bind g := by
  unfold pickK
  simp
mutual
theorem eqv_refl : ∀ d : D, d.canLay0 = true → PyData.eqv d d = true
  | .none, _ => by simp [PyData.eqv]
  | .bool b, _ => by simp [PyData.eqv]
  | .int i, _ => by simp [PyData.eqv]
  | .str x, _ => by simp [PyData.eqv]
  | .list xs, h => by
    simp only [PyData.eqv]
    exact eqvAll_refl xs (by simpa [PyData.canLay0] using h)
  | .tuple xs, h => by
    simp only [PyData.eqv]
    exact eqvAll_refl xs (by simpa [PyData.canLay0] using h)
  | .dict _, h => by simp [PyData.canLay0] at h
theorem eqvAll_refl : ∀ xs : List D, PyData.canLayAll0 xs = true → PyData.eqvAll xs xs = true
  | [], _ => by simp [PyData.eqvAll]
  | x :: xs, h => by
    have h' : x.canLay0 = true ∧ PyData.canLayAll0 xs = true := by simpa [PyData.canLayAll0] using h
    simp only [PyData.eqvAll, eqv_refl x h'.1, eqvAll_refl xs h'.2, Bool.and_self]
end
theorem dNe_self {w n : Nat} {x : D} (h : gd w n x = true) (hn : n ≤ 64) : dNe x x = .ok (.bool false) := by
  rw [dNe_gd h h hn, eqv_refl x (gd_lay n x h).1]
  rfl
theorem dEq_self {w n : Nat} {x : D} (h : gd w n x = true) (hn : n ≤ 64) : dEq x x = .ok (.bool true) := by
  rw [dEq_gd h h hn, eqv_refl x (gd_lay n x h).1]
end Fc
set_option Elab.async false
set_option linter.all false
set_option maxRecDepth 100000
set_option maxHeartbeats 2000000
namespace Fc
open PySem L2 Evl PySem.Spec PyProof.Rows
/-! ### more helpers for the laws -/
theorem mid (l : List Int) (n : Nat) (v : Int) (h : n < l.length) : (l.take n ++ [v] ++ l.drop (n + 1)).length = l.length := by
  simp only [List.length_append, List.length_take, List.length_drop, List.length_cons, List.length_nil]
  omega
theorem rng_2 : rng1T 2 = .ok [0, 1] := rfl
theorem rng_3 : rng1T 3 = .ok [0, 1, 2] := rfl
theorem world_shift {row : List (Fm.Bd TEv)} (u : TEv → Int) (k : Int) : Fm.World row (fun x => u x + k) ↔ Fm.World row u := by
  refine forall_congr' fun e => forall_congr' fun _ => ?_
  constructor <;> intro h <;> simp only at * <;> omega
theorem gd_ref (k : Int) : gd 10 1 (.tuple [.str "refused", .int k]) = true := gdTup (by simp) fun x hx => by
  simp only [List.mem_cons, List.not_mem_nil, or_false] at hx
  rcases hx with rfl | rfl
  · decide +kernel
  · rfl
theorem neD_ref (k : Int) : neD (.tuple [.str "refused", .int k]) (en (⟨"refused", k⟩ : P2 Str Int)) = .ok false := by
  unfold neD
  show toB (dNe (.tuple [.str "refused", .int k]) (.tuple [.str "refused", .int k])) = _
  rw [dNe_self (gd_ref k) (by decide)]
  rfl
theorem eqD_refL (k : Int) (l : List Int) (h : l.length ≤ 10) : eqD (.list (l.map fun _ => .tuple [.str "refused", .int k])) (.list (l.map fun _ => .tuple [.str "refused", .int k])) = .ok true := by
  unfold eqD
  rw [dEq_self (w := 10) (n := 2) (gdLst (by rw [List.length_map]; exact h) fun x hx => by
    obtain ⟨_, _, rfl⟩ := List.mem_map.mp hx
    exact gd_ref k) (by decide)]
  rfl
theorem en_tupD (l : List Int) : en (Tup.mk (l.map en) : Tup D) = en (Tup.mk l) := by
  show PyData.tuple ((l.map en).map id) = _
  rw [List.map_id]
  rfl
/-- drawn times -/
theorem drawn_times (ns : List Int) (hl : ns.length ≤ 63) {P : List TEv} (hP : P.Nodup) (h : P.length ≤ 1000) {f : Int → R Int} (hf : ∀ x, ∃ y, f x = .ok y) :
    ∃ u : TEv → Int, (rng1T (P.length : Nat)).bind (fun l_ => lcT (fun _ => R.ok true) f l_) = .ok (P.map u) := by
  obtain ⟨ys, h1, h2⟩ := lcT_ex (f := f) (xs := (List.range P.length).map fun i => ((i : Nat) : Int)) (fun x _ => hf x) (by simp; omega)
  obtain ⟨u, rfl⟩ := map_of hP ys (by rw [h2]; simp) ⟨0, trivial⟩
  exact ⟨u, by rw [rng1_nat (by omega), R.bind_ok, h1]⟩
theorem tm_long (P : List TEv) (u : TEv → Int) (x : Int) : tmB P.length (en (Tup.mk (P.map u ++ [x]))) = false := by
  show (decide (((P.map u ++ [x]).map en).length = P.length) && _) = false
  rw [decide_eq_false (by rw [List.length_map, List.length_append, List.length_map, List.length_singleton]; omega), Bool.false_and]
theorem is_worldT_no {r : Rec} (o : r.Ok) {w n : Nat} {x : D} (hg : gd w n x = true) (h : tmB r.P.length x = false) : T_is_world r.t x = .ok false := by
  have := are_times_ok o hg
  rw [h] at this
  unfold T_is_world
  rw [en_rt, is_world_no this]
  rfl
end Fc
set_option Elab.async false
set_option linter.all false
set_option maxRecDepth 100000
set_option maxHeartbeats 4000000

namespace Fc
open PySem L2 Evl PySem.Spec PyProof.Rows
def M_need_event : DS := (sSeq (sDrop (eDef F_need_record (aCons (eV 0) aNil)))
  (sIf (eU dNot (eDef F_is_event (aCons (eBin dIx (eW 0) (eC (.int 0))) (aCons (eV 1) aNil))))
  (sRaise "NoEvent")
  sNext))
def F_need_event : List D → R D := runF 2 2 M_need_event

def M_reading_of : DS := (sSeq (sDrop (eDef F_need_event (aCons (eV 0) (aCons (eV 1) aNil))))
  (sRet (eBin dIx (eBin dIx (eBin dIx (eBin dIx (eW 0) (eC (.int 0))) (eBin dIx (eW 1) (eC (.int 0)))) (eC (.int 2))) (eBin dIx (eW 1) (eC (.int 1))))))
def F_reading_of : List D → R D := runF 2 2 M_reading_of

end Fc
set_option Elab.async false
set_option linter.all false
set_option maxRecDepth 100000
set_option maxHeartbeats 4000000
namespace Fc
open PySem L2 Evl PySem.Spec PyProof.Rows
noncomputable section
def T_need_event (v_record : TRec) (v_event : TEv) : R Unit :=
  (R.bind (R.bind (R.ok v_record : R TRec) fun (x1 : TRec) => T_need_record x1) fun (x2 : Unit) =>
  (R.bind (R.bind (R.bind (R.bind (R.ok v_record : R TRec) fun (x3 : TRec) => (R.ok x3.a : R (Tup TClk))) fun (x4 : (Tup TClk)) => R.bind (R.ok v_event : R TEv) fun (x5 : TEv) => T_is_event x4 x5) fun (x6 : Bool) => (R.ok (!x6) : R Bool)) fun (x7 : Bool) => if x7 = true then
    (R.er "NoEvent" : R Unit)
  else
    (R.ok () : R Unit)))
theorem T_need_event_ok (v_record : TRec) (v_event : TEv) : F_need_event [en v_record, en v_event] = encR (T_need_event v_record v_event) := by
  unfold F_need_event
  refine d_2 ?_
  unfold M_need_event T_need_event
  refine j_drop (e_d1 (e_v (v_record : TRec) rfl) T_need_record_ok) (fun (x2 : Unit) => ?_)
  refine j_last ?_
  refine j_if (e_un (e_d2 (e_ix (e_w (v_record : TRec) rfl) i2_0) (e_v (v_event : TEv) rfl) T_is_event_ok) o_not) ?_ ?_
  · skip
    exact j_raiseS
  · skip
    refine j_next ?_
    exact j_end_F
def T_reading_of (v_record : TRec) (v_event : TEv) : R Int :=
  (R.bind (R.bind (R.ok v_record : R TRec) fun (x1 : TRec) => R.bind (R.ok v_event : R TEv) fun (x2 : TEv) => T_need_event x1 x2) fun (x3 : Unit) =>
  (R.bind (R.bind (R.bind (R.bind (R.bind (R.ok v_record : R TRec) fun (x4 : TRec) => (R.ok x4.a : R (Tup TClk))) fun (x6 : (Tup TClk)) => R.bind (R.bind (R.ok v_event : R TEv) fun (x5 : TEv) => (R.ok x5.a : R Int)) fun (x7 : Int) => (atT (Tup.l x6) x7 : R TClk)) fun (x8 : TClk) => (R.ok x8.c : R (Tup Int))) fun (x10 : (Tup Int)) => R.bind (R.bind (R.ok v_event : R TEv) fun (x9 : TEv) => (R.ok x9.b : R Int)) fun (x11 : Int) => (atT (Tup.l x10) x11 : R Int)) fun (x12 : Int) => (R.ok x12 : R Int)))
theorem T_reading_of_ok (v_record : TRec) (v_event : TEv) : F_reading_of [en v_record, en v_event] = encR (T_reading_of v_record v_event) := by
  unfold F_reading_of
  refine d_2 ?_
  unfold M_reading_of T_reading_of
  refine j_drop (e_d2 (e_v (v_record : TRec) rfl) (e_v (v_event : TEv) rfl) T_need_event_ok) (fun (x3 : Unit) => ?_)
  refine j_last ?_
  exact j_retS iF_rt (e_bin (e_ix (e_bin (e_ix (e_w (v_record : TRec) rfl) i2_0) (e_ix (e_w (v_event : TEv) rfl) i2_0) o_atU) i3_2) (e_ix (e_w (v_event : TEv) rfl) i2_1) o_atU)
end
end Fc
set_option Elab.async false
set_option linter.all false
set_option maxRecDepth 100000
set_option maxHeartbeats 2000000
namespace Fc
open PySem L2 Evl PySem.Spec PyProof.Rows
/-! ### readings -/
theorem need_event_ok {w n : Nat} {x : D} {r : Rec} (o : r.Ok) (h : gd w n x = true) : F_need_event [r.d, x] = if evB r.cs x = true then .ok .none else .er "NoEvent" := by
  have hn := need_rec_ok o
  have he := is_event_ok (cs := r.cs) h
  unfold F_need_event M_need_event
  simp only [runF_2, List.reduceReplicate, Nat.reduceSub]
  have hd : r.d = .tuple [.tuple (r.cs.map Clk.d), .tuple (r.ls.map Ltr.d)] := rfl
  rw [hd] at hn ⊢
  cases hb : evB r.cs x with
  | true => simp [hn, he, hb]
  | false => simp [hn, he, hb]
theorem reading_ok {r : Rec} (o : r.Ok) {e : Ev} {c : Clk} (h1 : r.cs[e.1]? = some c) (h2 : e.2 < c.rs.length) : F_reading_of [r.d, evd e] = .ok (.int c.rs[e.2]) := by
  have he := need_event_ok o (evd_gd e)
  rw [if_pos ((evB_iff r.cs _).mpr ⟨e, ⟨c, h1, h2⟩, rfl⟩)] at he
  have a1 : atI (r.cs.map Clk.d) ((e.1 : Nat) : Int) = some (.tuple [.int c.slow, .int c.fast, .tuple (c.rs.map PyData.int)]) := atI_nat (by rw [List.getElem?_map, h1]; rfl)
  have a2 : atI (c.rs.map PyData.int) ((e.2 : Nat) : Int) = some (.int c.rs[e.2]) := atI_nat (by rw [List.getElem?_map, List.getElem?_eq_getElem h2]; rfl)
  unfold F_reading_of M_reading_of
  simp only [runF_2, List.reduceReplicate, Nat.reduceSub]
  generalize hC : r.cs.map Clk.d = C at *
  have hd : r.d = .tuple [.tuple C, .tuple (r.ls.map Ltr.d)] := by rw [← hC]; rfl
  rw [hd] at he ⊢
  have hv : evd e = .tuple [.int (e.1 : Nat), .int (e.2 : Nat)] := rfl
  rw [hv] at he ⊢
  have hcd : (fun c : Clk => (.tuple [.int c.slow, .int c.fast, .tuple (c.rs.map PyData.int)] : D)) c = .tuple [.int c.slow, .int c.fast, .tuple (c.rs.map PyData.int)] := rfl
  simp [he, a1, a2]
theorem reading_no {w n : Nat} {x : D} {r : Rec} (o : r.Ok) (h : gd w n x = true) (hb : evB r.cs x = false) : F_reading_of [r.d, x] = .er "NoEvent" := by
  have he := need_event_ok o h
  rw [hb, if_neg Bool.false_ne_true] at he
  unfold F_reading_of M_reading_of
  simp only [runF_2, List.reduceReplicate, Nat.reduceSub]
  simp [he]
end Fc
set_option Elab.async false
set_option linter.all false
set_option maxRecDepth 100000
set_option maxHeartbeats 2000000
namespace Fc
open PySem L2 Evl PySem.Spec PyProof.Rows
/-! ### readings, typed -/
def rdE (cs : List Clk) (v : Ev) : Int := ((cs[v.1]?).bind fun c => c.rs[v.2]?).getD 0
theorem rdE_eq {cs : List Clk} {v : Ev} {c : Clk} (h1 : cs[v.1]? = some c) (h2 : v.2 < c.rs.length) : rdE cs v = c.rs[v.2] := by
  unfold rdE
  rw [h1]
  show (c.rs[v.2]?).getD 0 = _
  rw [List.getElem?_eq_getElem h2]
  rfl
theorem readingT {r : Rec} (o : r.Ok) {v : Ev} (h : EvOk r.cs v) : T_reading_of r.t (evT v) = .ok (rdE r.cs v) := by
  obtain ⟨c, h1, h2⟩ := h
  apply encR_inj
  rw [← T_reading_of_ok, en_rt, rdE_eq h1 h2]
  exact (reading_ok o h1 h2).symm
/-- a loop that gathers a truth -/
theorem forT_and {α : Type} {f : α → Bool → R Bool} (q : α → Bool) : ∀ (xs : List α) (s : Bool), (∀ x ∈ xs, ∀ s, f x s = .ok (s && q x)) → forT f xs s = .ok (s && xs.all q)
  | [], s, _ => by simp
  | x :: xs, s, h => by
    rw [forT_cons, h x List.mem_cons_self s, R.bind_ok, forT_and q xs _ fun y hy => h y (List.mem_cons_of_mem _ hy), List.all_cons, Bool.and_assoc]
theorem andR_okb (b : Bool) {t : R Bool} {c : Bool} (h : t = .ok c) : andR (.ok b) t = .ok (b && c) := by
  rw [h]
  cases b <;> rfl
/-! ### a clock's bounds are its readings -/
/-- the times of a clock's places keep its rates -/
def ClkW (s f : Int) (w : Nat → Int) (rs : List Int) : Prop := ∀ k (h : k + 1 < rs.length), s * (rs[k + 1] - rs[k]) ≤ w (k + 1) - w k ∧ w (k + 1) - w k ≤ f * (rs[k + 1] - rs[k])
theorem clkW_iff (i : Nat) (s f : Int) (w : Ev → Int) : ∀ (rs : List Int) (j : Nat), (∀ e ∈ clkBs i s f j rs, w e.2.1 - w e.1 ≤ e.2.2) ↔ ClkW s f (fun k => w (i, j + k)) rs
  | [], j => ⟨fun _ k h => by simp at h, fun _ e h => by simp [clkBs] at h⟩
  | [a], j => ⟨fun _ k h => by simp at h, fun _ e h => by simp [clkBs] at h⟩
  | a :: b :: r, j => by
    have ih := clkW_iff i s f w (b :: r) (j + 1)
    have e1 : (b - a) * f = f * (b - a) := Int.mul_comm _ _
    have e2 : (b - a) * s = s * (b - a) := Int.mul_comm _ _
    constructor
    · intro h k hk
      cases k with
      | zero =>
        have h1 := h _ (show ((i, j), (i, j + 1), (b - a) * f) ∈ clkBs i s f j (a :: b :: r) by simp [clkBs])
        have h2 := h _ (show ((i, j + 1), (i, j), 0 - (b - a) * s) ∈ clkBs i s f j (a :: b :: r) by simp [clkBs])
        simp only at h1 h2
        show s * (b - a) ≤ w (i, j + 1) - w (i, j) ∧ w (i, j + 1) - w (i, j) ≤ f * (b - a)
        exact ⟨by omega, by omega⟩
      | succ k =>
        have h3 := ih.mp (fun e he => h e (by simp only [clkBs, List.mem_cons]; exact .inr (.inr he))) k (by simpa using hk)
        have e3 : j + 1 + (k + 1) = j + (k + 1 + 1) := by omega
        have e4 : j + 1 + k = j + (k + 1) := by omega
        simp only [e3, e4] at h3
        exact h3
    · intro h e he
      simp only [clkBs, List.mem_cons] at he
      have h0 := h 0 (by simp)
      have h0' : s * (b - a) ≤ w (i, j + 1) - w (i, j) ∧ w (i, j + 1) - w (i, j) ≤ f * (b - a) := h0
      rcases he with rfl | rfl | he
      · show w (i, j + 1) - w (i, j) ≤ (b - a) * f
        omega
      · show w (i, j) - w (i, j + 1) ≤ 0 - (b - a) * s
        omega
      · refine ih.mpr (fun k hk => ?_) e he
        have h3 := h (k + 1) (by simpa using hk)
        have e3 : j + 1 + (k + 1) = j + (k + 1 + 1) := by omega
        have e4 : j + 1 + k = j + (k + 1) := by omega
        simp only [e3, e4]
        exact h3
theorem clkW_far {s f : Int} {w : Nat → Int} {rs : List Int} (h : ClkW s f w rs) : ∀ (j d : Nat) (hk : j + d < rs.length), s * (rs[j + d] - rs[j]'(by omega)) ≤ w (j + d) - w j ∧ w (j + d) - w j ≤ f * (rs[j + d] - rs[j]'(by omega))
  | j, 0, hk => by simp
  | j, d + 1, hk => by
    have ih := clkW_far h j d (by omega)
    have h1 := h (j + d) (by omega)
    have e : j + (d + 1) = j + d + 1 := rfl
    simp only [e]
    simp only [Int.mul_sub] at *
    omega
theorem clkW_all {s f : Int} {w : Nat → Int} {rs : List Int} : ClkW s f w rs ↔ ∀ j k (h : j < k) (hk : k < rs.length), s * (rs[k] - rs[j]'(by omega)) ≤ w k - w j ∧ w k - w j ≤ f * (rs[k] - rs[j]'(by omega)) := by
  constructor
  · intro h j k hj hk
    obtain ⟨d, rfl⟩ := Nat.le.dest (Nat.le_of_lt hj)
    exact clkW_far h j d hk
  · intro h k hk
    exact h k (k + 1) (by omega) hk
theorem csW_iff (w : Ev → Int) : ∀ (cs : List Clk) (i : Nat), (∀ e ∈ csBs i cs, w e.2.1 - w e.1 ≤ e.2.2) ↔ ∀ k c, cs[k]? = some c → ClkW c.slow c.fast (fun j => w (i + k, j)) c.rs
  | [], i => ⟨fun _ k c h => by simp at h, fun _ e h => by simp [csBs] at h⟩
  | c :: cs, i => by
    have ih := csW_iff w cs (i + 1)
    have h0 := clkW_iff i c.slow c.fast w c.rs 0
    simp only [Nat.zero_add] at h0
    simp only [csBs, List.mem_append]
    constructor
    · intro h k c' hk
      cases k with
      | zero =>
        have : c = c' := by simpa using hk
        subst this
        exact h0.mp fun e he => h e (.inl he)
      | succ k =>
        have := ih.mp (fun e he => h e (.inr he)) k c' (by simpa using hk)
        have e : i + 1 + k = i + (k + 1) := by omega
        simp only [e] at this
        exact this
    · rintro h e (he | he)
      · exact h0.mpr (h 0 c rfl) e he
      · refine ih.mpr (fun k c' hk => ?_) e he
        have e : i + 1 + k = i + (k + 1) := by omega
        simp only [e]
        exact h (k + 1) c' hk
theorem lsW_iff (w : Ev → Int) : ∀ ls : List Ltr, (∀ e ∈ lsBs ls, w e.2.1 - w e.1 ≤ e.2.2) ↔ ∀ l ∈ ls, l.lo ≤ w l.b - w l.a ∧ ∀ h, l.hi = some h → w l.b - w l.a ≤ h
  | [] => ⟨fun _ l h => (by cases h), fun _ e h => (by simp [lsBs] at h)⟩
  | l :: ls => by
    have ih := lsW_iff w ls
    simp only [lsBs, List.mem_append, ltrBs, List.mem_cons]
    constructor
    · rintro h x (rfl | hx)
      · refine ⟨?_, fun m hm => ?_⟩
        · have := h (x.b, x.a, 0 - x.lo) (.inl (.inl rfl))
          simp only at this
          omega
        · have := h (x.a, x.b, m) (.inl (.inr (by rw [hm]; simp)))
          exact this
      · exact ih.mp (fun e he => h e (.inr he)) x hx
    · rintro h e ((rfl | he) | he)
      · have := (h l (.inl rfl)).1
        show w l.a - w l.b ≤ 0 - l.lo
        omega
      · cases hh : l.hi with
        | none => rw [hh] at he; simp at he
        | some m =>
          rw [hh] at he
          have : e = (l.a, l.b, m) := by simpa using he
          subst this
          exact (h l (.inl rfl)).2 m hh
      · exact ih.mpr (fun x hx => h x (.inr hx)) e he
/-- a world is what keeps the clocks and the letters -/
theorem world_iff {r : Rec} (u : TEv → Int) : Fm.World (r.B.map bdm) u ↔ (∀ k c, r.cs[k]? = some c → ClkW c.slow c.fast (fun j => u (evT (k, j))) c.rs) ∧ ∀ l ∈ r.ls, l.lo ≤ u (evT l.b) - u (evT l.a) ∧ ∀ h, l.hi = some h → u (evT l.b) - u (evT l.a) ≤ h := by
  have h1 := csW_iff (fun v => u (evT v)) r.cs 0
  have h2 := lsW_iff (fun v => u (evT v)) r.ls
  simp only [Nat.zero_add] at h1
  rw [← h1, ← h2]
  unfold Fm.World Rec.B recBs
  constructor
  · intro h
    have q : ∀ e ∈ csBs 0 r.cs ++ lsBs r.ls, u (evT e.2.1) - u (evT e.1) ≤ e.2.2 := fun e he => h (bdm (bT e)) (List.mem_map.mpr ⟨_, List.mem_map.mpr ⟨e, he, rfl⟩, rfl⟩)
    exact ⟨fun e he => q e (List.mem_append_left _ he), fun e he => q e (List.mem_append_right _ he)⟩
  · rintro ⟨a, b⟩ e he
    obtain ⟨x, hx, rfl⟩ := List.mem_map.mp he
    obtain ⟨y, hy, rfl⟩ := List.mem_map.mp hx
    rcases List.mem_append.mp hy with z | z
    · exact a y z
    · exact b y z
/-! ### how many bounds there are -/
theorem clkBs_len' (i : Nat) (s f : Int) : ∀ (rs : List Int) (j : Nat), (clkBs i s f j rs).length = 2 * (rs.length - 1)
  | [], _ => rfl
  | [a], _ => rfl
  | a :: b :: r, j => by
    have := clkBs_len' i s f (b :: r) (j + 1)
    simp only [clkBs, List.length_cons] at *
    omega
theorem csBs_len' : ∀ (cs : List Clk) (i : Nat), (∀ c ∈ cs, c.Ok) → (csBs i cs).length + 2 * cs.length = 2 * (evs i cs).length
  | [], _, _ => rfl
  | c :: cs, i, h => by
    have ih := csBs_len' cs (i + 1) fun x hx => h x (List.mem_cons_of_mem _ hx)
    have h1 := clkBs_len' i c.slow c.fast c.rs 0
    have h2 := (h c List.mem_cons_self).l1
    simp only [csBs, evs, List.length_append, List.length_cons, List.length_map, List.length_range] at *
    omega
theorem lsBs_len' : ∀ ls : List Ltr, (lsBs ls).length = (ls.map fun l => 1 + if l.hi.isSome = true then 1 else 0).sum
  | [] => rfl
  | l :: ls => by
    rw [lsBs, List.length_append, lsBs_len' ls, List.map_cons, List.sum_cons]
    congr 1
    unfold ltrBs
    cases l.hi <;> rfl
end Fc
set_option Elab.async false
set_option linter.all false
set_option maxRecDepth 100000
set_option maxHeartbeats 4000000
namespace Fc
open PySem L2 Evl PySem.Spec PyProof.Rows
theorem zipG_maps (u v : TEv → Int) : ∀ P : List TEv, zipG (P.map u) (P.map v) = P.map fun x => (⟨u x, v x⟩ : P2 Int Int)
  | [] => rfl
  | x :: P => by rw [List.map_cons, List.map_cons, zipG, zipG_maps u v P]; rfl
theorem evs_pw : ∀ (cs : List Clk) (i : Nat), (evs i cs).Pairwise fun a b => a.1 < b.1 ∨ (a.1 = b.1 ∧ a.2 < b.2)
  | [], _ => List.Pairwise.nil
  | c :: cs, i => by
    unfold evs
    rw [List.pairwise_append]
    refine ⟨?_, evs_pw cs (i + 1), fun a ha b hb => ?_⟩
    · rw [List.pairwise_map]
      exact List.pairwise_lt_range.imp fun h => .inr ⟨rfl, h⟩
    · obtain ⟨j, _, rfl⟩ := List.mem_map.mp ha
      obtain ⟨k, h, _⟩ := (evs_mem b cs (i + 1)).mp hb
      left
      show i < b.1
      omega
theorem idxL_ok : ∀ {P : List TEv} {e : TEv}, e ∈ P → ∃ n, idxL P e = some n ∧ P[n]? = some e
  | [], _, h => by cases h
  | a :: P, e, h => by
    unfold idxL
    rw [List.findIdx?_cons]
    by_cases c : a = e
    · exact ⟨0, by simp [c], by simp [c]⟩
    · obtain ⟨n, h1, h2⟩ := idxL_ok (P := P) (e := e) ((List.mem_cons.mp h).resolve_left fun z => c z.symm)
      unfold idxL at h1
      exact ⟨n + 1, by simp [c, h1], by simpa using h2⟩
theorem idxT_ok {P : List TEv} {e : TEv} (h : e ∈ P) : ∃ n : Nat, idxT P e = .ok (n : Nat) ∧ P[n]? = some e := by
  obtain ⟨n, h1, h2⟩ := idxL_ok h
  exact ⟨n, by unfold idxT; rw [h1], h2⟩
theorem set_mid (u : TEv → Int) (e : TEv) (v : Int) : ∀ {P : List TEv} {n : Nat}, P.Nodup → P[n]? = some e → (P.map u).take n ++ [v] ++ (P.map u).drop (n + 1) = P.map (upd u e v)
  | [], n, _, h => by simp at h
  | a :: P, 0, hP, h => by
    rw [List.nodup_cons] at hP
    have : a = e := by simpa using h
    subst this
    have e1 : P.map u = P.map (upd u a v) := List.map_congr_left fun x hx => by unfold upd; rw [if_neg fun z : x = a => hP.1 (z ▸ hx)]
    simp [upd]
    exact fun x hx z => absurd (z ▸ hx) hP.1
  | a :: P, n + 1, hP, h => by
    rw [List.nodup_cons] at hP
    have h' : P[n]? = some e := by simpa using h
    have hne : ¬ a = e := fun z => hP.1 (z ▸ List.mem_of_getElem? h')
    have ih := set_mid u e v hP.2 h'
    rw [List.map_cons, List.map_cons, List.take_succ_cons, List.drop_succ_cons, List.cons_append, List.cons_append, ih]
    unfold upd
    rw [if_neg hne]
theorem atT_P {P : List TEv} {u : TEv → Int} {n : Nat} {e : TEv} (h : P[n]? = some e) : atT (P.map u) (n : Nat) = .ok (u e) := atT_nat (by rw [List.getElem?_map, h]; rfl)
theorem ends_ne {r : Rec} (o : r.Ok) : ∀ e ∈ r.B, e.a ≠ e.b := by
  have h1 : ∀ (i : Nat) (s f : Int) (rs : List Int) (j : Nat), ∀ e ∈ clkBs i s f j rs, e.1 ≠ e.2.1 := by
    intro i s f rs
    induction rs with
    | nil => intro j e h; simp [clkBs] at h
    | cons a r ih =>
      intro j e h
      cases r with
      | nil => simp [clkBs] at h
      | cons b r =>
        simp only [clkBs, List.mem_cons] at h
        rcases h with rfl | rfl | h
        · intro z; simp at z
        · intro z; simp at z
        · exact ih (j + 1) e h
  have h2 : ∀ (cs : List Clk) (i : Nat), ∀ e ∈ csBs i cs, e.1 ≠ e.2.1 := by
    intro cs
    induction cs with
    | nil => intro i e h; simp [csBs] at h
    | cons c cs ih =>
      intro i e h
      simp only [csBs, List.mem_append] at h
      rcases h with h | h
      · exact h1 _ _ _ _ _ e h
      · exact ih _ e h
  have h3 : ∀ ls : List Ltr, (∀ l ∈ ls, l.Ok r.cs) → ∀ e ∈ lsBs ls, e.1 ≠ e.2.1 := by
    intro ls
    induction ls with
    | nil => intro _ e h; simp [lsBs] at h
    | cons l ls ih =>
      intro hl e h
      simp only [lsBs, List.mem_append, ltrBs, List.mem_cons] at h
      have ne := (hl l List.mem_cons_self).ne
      rcases h with (rfl | h) | h
      · exact fun z => ne z.symm
      · cases hh : l.hi with
        | none => rw [hh] at h; simp at h
        | some m =>
          rw [hh] at h
          have : e = (l.a, l.b, m) := by simpa using h
          subst this
          exact ne
      · exact ih (fun x hx => hl x (List.mem_cons_of_mem _ hx)) e h
  intro e he z
  obtain ⟨b, hb, rfl⟩ := List.mem_map.mp he
  have : b.1 = b.2.1 := evT_inj z
  rcases List.mem_append.mp hb with h | h
  · exact h2 _ _ b h this
  · exact h3 r.ls o.ls b h this
theorem brk_mem {B : List TBnd} {u : TEv → Int} {p : P2 Int TBnd} (hp : p ∈ enumG 0 B) (h : p.b.c < u p.b.b - u p.b.a) : p.a ∈ brk B u :=
  List.mem_map.mpr ⟨p, List.mem_filter.mpr ⟨hp, decide_eq_true h⟩, rfl⟩
theorem world_max {row : List (Fm.Bd TEv)} {u v : TEv → Int} (hu : Fm.World row u) (hv : Fm.World row v) : Fm.World row fun x => if v x > u x then v x else u x := by
  intro e he
  have := hu e he
  have := hv e he
  simp only
  split <;> split <;> omega
theorem world_min {row : List (Fm.Bd TEv)} {u v : TEv → Int} (hu : Fm.World row u) (hv : Fm.World row v) : Fm.World row fun x => if v x < u x then v x else u x := by
  intro e he
  have := hu e he
  have := hv e he
  simp only
  split <;> split <;> omega
/-- a world that is nowhere above 0 on the events is under the top -/
theorem under_top {P : List TEv} {row : List TBnd} {g u : TEv → Int} (T : Fm.Top P (enB row) g) (he : ∀ e ∈ row, e.a ∈ P ∧ e.b ∈ P) (hu : Fm.World (row.map bdm) u) (h0 : ∀ x ∈ P, u x ≤ 0) : ∀ x ∈ P, u x ≤ g x := by
  intro x hx
  have k : Fm.Keep (fun x => if x ∈ P then u x else 0) (enB row) := by
    intro p hp
    obtain ⟨e, h1, h2⟩ := enB_mem hp
    rw [h2]
    have q := keep_world.mpr hu p hp
    rw [h2] at q
    show (if e.b ∈ P then u e.b else 0) ≤ (if e.a ∈ P then u e.a else 0) + e.c
    rw [if_pos (he e h1).1, if_pos (he e h1).2]
    exact q
  have := T.top _ k (fun y => by
    show (if y ∈ P then u y else 0) ≤ 0
    split
    · rename_i h; exact h0 y h
    · exact Int.le_refl _) x hx
  simp only [if_pos hx] at this
  exact this
theorem top_zero {P : List TEv} {row : List TBnd} {g : TEv → Int} (T : Fm.Top P (enB row) g) (he : ∀ e ∈ row, e.a ∈ P ∧ e.b ∈ P) (hp : 0 < P.length) : ∃ x ∈ P, g x = 0 := by
  apply Classical.byContradiction
  intro hno
  have hlt : ∀ x ∈ P, g x ≤ -1 := fun x hx => by
    have := T.le0 x
    have : g x ≠ 0 := fun e => hno ⟨x, hx, e⟩
    omega
  obtain ⟨x, hx⟩ := List.exists_mem_of_length_pos hp
  have := under_top T he ((world_shift g 1).mpr (keep_world.mp T.keep)) (fun y hy => by have := hlt y hy; omega) x hx
  omega
/-- in a world, a clock's later place is later -/
theorem world_inc {r : Rec} (o : r.Ok) {u : TEv → Int} (hu : Fm.World (r.B.map bdm) u) {k : Nat} {x y : TEv} (h1 : r.P[k]? = some x) (h2 : r.P[k + 1]? = some y) (h : y.a = x.a) : u x < u y := by
  unfold Rec.P at h1 h2
  rw [List.getElem?_map] at h1 h2
  obtain ⟨a, ha, rfl⟩ := Option.map_eq_some_iff.mp h1
  obtain ⟨b, hb, rfl⟩ := Option.map_eq_some_iff.mp h2
  obtain ⟨la, ea⟩ := List.getElem?_eq_some_iff.mp ha
  obtain ⟨lb, eb⟩ := List.getElem?_eq_some_iff.mp hb
  have pw := List.pairwise_iff_getElem.mp (evs_pw r.cs 0) k (k + 1) la lb (by omega)
  rw [ea, eb] at pw
  have hab : ((b.1 : Nat) : Int) = a.1 := h
  have hlt : a.2 < b.2 := by omega
  have hab' : b.1 = a.1 := by omega
  have hbm : b ∈ evs 0 r.cs := eb ▸ List.getElem_mem lb
  obtain ⟨k', q1, c, q2, q3⟩ := (evs_mem b r.cs 0).mp hbm
  rw [Nat.zero_add] at q1
  have q2' : r.cs[b.1]? = some c := by rw [q1]; exact q2
  have oc := o.cs c (List.mem_of_getElem? q2')
  have W := (world_iff u).mp hu |>.1 b.1 c q2'
  have := (clkW_all.mp W a.2 b.2 hlt q3).1
  have hr := List.pairwise_iff_getElem.mp oc.inc a.2 b.2 (by omega) q3 hlt
  have s1 := oc.s1
  have e1 : evT (b.1, a.2) = evT a := by rw [show (b.1, a.2) = a from Prod.ext hab' rfl]
  have e2 : evT (b.1, b.2) = evT b := rfl
  simp only [e1, e2] at this
  have : 1 ≤ c.slow * (c.rs[b.2] - c.rs[a.2]'(by omega)) := by
    have h1 : (1 : Int) * 1 ≤ c.slow * (c.rs[b.2] - c.rs[a.2]'(by omega)) := Int.mul_le_mul s1 (by omega) (by omega) (by omega)
    omega
  omega
theorem rng2_nat {n : Nat} (h : n ≤ 1000) : rng2T 1 (n : Nat) = .ok ((List.range ((n : Nat) - 1 : Int).toNat).map fun i => 1 + ((i : Nat) : Int)) := by
  unfold rng2T
  rw [if_pos (decide_eq_true (by omega))]
theorem law_T (ns : List Int) (hl : ns.length ≤ 63) : T_law_k21 ⟨ns⟩ = .ok true := by
  obtain ⟨r, er, g⟩ := recordT ns hl 0 5 (by omega)
  have o := g.ok (by decide)
  replace er : T_law_record ⟨ns⟩ 0 5 = .ok r.t := er
  have hP := P_len o
  have hp := P_pos o
  have hB := B_len o
  have ho : ∀ v : TEv → Int, (r.P.map v).length = r.P.length := fun v => List.length_map ..
  have hnd := P_nodup r
  have hends := B_ends o
  unfold T_law_k21
  simp only [R.bind_ok]
  rw [er, R.bind_ok, eventsT o, R.bind_ok, law_boundsT o, R.bind_ok]
  rcases law_table_ok hnd (by omega) hends with ⟨w, h1, hs, hT⟩ | ⟨h1, hno⟩
  rotate_left
  · rw [h1, R.bind_ok, optK_n, has_worldT (worldT_none o hno), worldT_none o hno]
    rfl
  rw [h1, R.bind_ok, optK_s]
  obtain ⟨u1, e1, k1⟩ := drawn_world_ok ns hl 80 hnd (by omega) hs hT
  obtain ⟨u2, e2, k2⟩ := drawn_world_ok ns hl 100 hnd (by omega) hs hT
  have w1 := k1.world hT hends
  have w2 := k2.world hT hends
  have wg := gT_world hT hends
  have top := gT_top hT hends
  rw [e1, R.bind_ok, e2, R.bind_ok]
  simp only [zipG_maps]
  have eh : ((r.P.map fun x => (⟨u1 x, u2 x⟩ : P2 Int Int)).map fun y => if y.b > y.a then y.b else y.a) = r.P.map fun x => if u2 x > u1 x then u2 x else u1 x := by rw [List.map_map]; rfl
  have el : ((r.P.map fun x => (⟨u1 x, u2 x⟩ : P2 Int Int)).map fun y => if y.b < y.a then y.b else y.a) = r.P.map fun x => if u2 x < u1 x then u2 x else u1 x := by rw [List.map_map]; rfl
  rw [lcT_map (g := fun y : P2 Int Int => if y.b > y.a then y.b else y.a) (fun _ _ => rfl) (by rw [List.length_map]; omega), R.bind_ok, R.bind_ok, lcT_map (g := fun y : P2 Int Int => if y.b < y.a then y.b else y.a) (fun _ _ => rfl) (by rw [List.length_map]; omega), R.bind_ok, R.bind_ok, eh, el, worldT_some o hT, R.bind_ok, optK_s]
  refine bind_ex (fun l : List (Tup Int) => ∀ z ∈ l, ∃ v, Fm.World (r.B.map bdm) v ∧ z = ⟨r.P.map v⟩) ?_ fun L hL => ?_
  · simp only [itemsT_ok, itemsT_nil, R.bind_ok]
    rw [tupT_ok (by simp), R.bind_ok]
    refine ⟨_, rfl, fun z hz => ?_⟩
    simp only [List.mem_cons, List.not_mem_nil, or_false] at hz
    rcases hz with rfl | rfl | rfl | rfl | rfl
    · exact ⟨u1, w1, rfl⟩
    · exact ⟨u2, w2, rfl⟩
    · exact ⟨_, world_max w1 w2, rfl⟩
    · exact ⟨_, world_min w1 w2, rfl⟩
    · exact ⟨_, wg, rfl⟩
  rw [forC_nx () L fun z hz => ?_]
  rotate_left
  · obtain ⟨v, hv, rfl⟩ := hL z hz
    rw [is_worldT o, brokenT o, brk_nil.mpr hv]
    refine bind_ex (fun b : Bool => b = false) ⟨false, rfl, rfl⟩ ?_
    rintro _ rfl
    rw [if_neg (by decide)]
    obtain ⟨m, em, hm1, hm2⟩ := maxT_spec (l := r.P.map v) (fun e => by
      have : r.P.length = 0 := by rw [← ho v, e]; rfl
      omega)
    rw [em, R.bind_ok, R.bind_ok, moved_byT o hv, R.bind_ok]
    have hv2 := (world_shift v (0 - m)).mpr hv
    have hle := under_top top hends hv2 (fun x hx => by
      have := hm2 (v x) (List.mem_map.mpr ⟨x, hx, rfl⟩)
      show v x + (0 - m) ≤ 0
      omega)
    refine bind_ex (fun b : Bool => b = false) ⟨false, ?_, rfl⟩ ?_
    · rw [rng1_nat (by omega), R.bind_ok, lcT_ok (q := fun _ => false) (g := fun y : Int => y) (fun y hy => ⟨by
        obtain ⟨i, hi, rfl⟩ := List.mem_map.mp hy
        rw [List.mem_range] at hi
        have hx := List.getElem?_eq_getElem hi
        rw [atT_P hx, atT_P hx, R.bind_ok, R.bind_ok, decide_eq_false]
        have := hle _ (List.getElem_mem hi)
        omega, fun z => by cases z⟩) (by simp; omega), is_worldT o, brk_nil.mpr hv2]
      rw [List.filter_eq_nil_iff.mpr (fun _ _ => by decide)]
      rfl
    rintro _ rfl
    rw [if_neg (by decide), rng2_nat (by omega), R.bind_ok, forC_nx () _ fun y hy => ?_]
    rotate_left
    · obtain ⟨i, hi, rfl⟩ := List.mem_map.mp hy
      rw [List.mem_range] at hi
      have i1 : i + 1 < r.P.length := by omega
      have hx := List.getElem?_eq_getElem (show i < r.P.length by omega)
      have hy := List.getElem?_eq_getElem i1
      have ea : (1 : Int) + ((i : Nat) : Int) = ((i + 1 : Nat) : Int) := by omega
      have eb : (((i + 1 : Nat) : Int)) - 1 = ((i : Nat) : Int) := by omega
      rw [ea, eb, atT_nat hx, atT_nat hy, atT_P hx, atT_P hy]
      simp only [R.bind_ok]
      by_cases c : (r.P[i + 1]).a = (r.P[i]).a
      · have := world_inc o hv hx hy c
        rw [decide_eq_true c, decide_eq_false (show ¬ v (r.P[i + 1]) ≤ v (r.P[i]) by omega)]
        rfl
      · rw [decide_eq_false c]
        rfl
    rw [R.bind_ok, ctlK_nx, forC_nx () _ fun p hp' => ?_]
    rotate_left
    · obtain ⟨ha, hb⟩ := hends _ (enumG_mem _ _ _ hp')
      obtain ⟨ia, ja, ka⟩ := idxT_ok ha
      obtain ⟨ib, jb, kb⟩ := idxT_ok hb
      have ne := ends_ne o _ (enumG_mem _ _ _ hp')
      have hib : ib < r.P.length := (List.getElem?_eq_some_iff.mp kb).1
      rw [jb, R.bind_ok, ja, R.bind_ok, atT_P ka, R.bind_ok, R.bind_ok, R.bind_ok, itemsT_ok, itemsT_nil, R.bind_ok, R.bind_ok, tupT_ok (by simp), R.bind_ok]
      rw [tcatT_ok (by simp only [cut_take, List.length_take, List.length_cons, List.length_nil]; omega), R.bind_ok, tcatT_ok (by simp only [cut_take, cut_drop1, List.length_take, List.length_drop, List.length_append, List.length_cons, List.length_nil, ho]; omega), R.bind_ok]
      simp only [cut_take, cut_drop1]
      rw [set_mid v p.b.b _ hnd kb, brokenT o, R.bind_ok]
      have hm : p.a ∈ brk r.B (upd v p.b.b (v p.b.a + p.b.c + 1)) := brk_mem hp' (by
        unfold upd
        rw [if_pos rfl, if_neg ne]
        omega)
      rw [decide_eq_true hm]
      rfl
    rw [R.bind_ok, ctlK_nx]
  rw [R.bind_ok, ctlK_nx]
  obtain ⟨m, em, hm1, hm2⟩ := maxT_spec (l := r.P.map (gT r.P (tf w))) (fun e => by
    have : r.P.length = 0 := by rw [← ho (gT r.P (tf w)), e]; rfl
    omega)
  have m0 : m = 0 := by
    obtain ⟨x, hx, h0⟩ := top_zero top hends hp
    have := hm2 _ (List.mem_map.mpr ⟨x, hx, rfl⟩)
    obtain ⟨y, _, rfl⟩ := List.mem_map.mp hm1
    have := top.le0 y
    omega
  rw [em, R.bind_ok, m0, moved_byT o w1, R.bind_ok, moved_byT o ((world_shift u1 5).mpr w1), R.bind_ok]
  have e5 : (r.P.map fun x => u1 x + 5 + -5) = r.P.map u1 := List.map_congr_left fun x _ => by omega
  rw [e5]
  simp
theorem law_ok (ns : List Int) (hl : ns.length ≤ 63) : F_law_k21 [.dict [(.none, .list (ns.map PyData.int))]] = .ok (.bool true) := by
  have h := law_T ns hl
  rcases T_law_k21_ok ⟨ns⟩ with z | z
  · rw [h] at z; cases z
  · rw [h] at z
    exact z
end Fc
set_option Elab.async false
set_option linter.all false
set_option maxRecDepth 100000
set_option maxHeartbeats 0

open PySem PySem.W PySem.Calls PyProof.Rows
theorem PySem.Challenge.cw_farclocks_k21_whole_worlds_holds : PySem.Challenge.rw_farclocks_k21_whole_worlds.Holds := by
  w_on; o_law
  refine HandSHeadRun.head_any (r := OpenLaw.row PySem.Challenge.rw_farclocks_k21_whole_worlds) (q := view (OpenLaw.row PySem.Challenge.rw_farclocks_k21_whole_worlds).prog [44]) (H := Wk.hk) (ob := Wk.ob) (M := 6000) (loose := Wk.loose) (d := HandSHeadRun.topDef (OpenLaw.row PySem.Challenge.rw_farclocks_k21_whole_worlds).prog 44) (kwd := []) (fun s => Fc.obsXG_eq (HandSHeadRun.getT_eq s))
    (by kernel_rfl) (fun s => by kernel_rfl) Wk.run (by kernel_rfl) (by kernel_rfl) (by kernel_rfl) (by rfl) (by first | assumption | decide +kernel) (by decide +kernel) ⟨rfl, rfl, rfl, rfl, rfl, by decide +kernel⟩ ?hw ?hc
  case hw => w_witness2
  case hc =>
    refine Fc.walk_law (l := PySem.Challenge.rw_farclocks_k21_whole_worlds) (k := 11) (x := "_law_script") (g := Fc.F_law_k21) rfl (by kernel_rfl) ⟨rfl, by decide, by decide⟩ ?F fun ns hl => Fc.law_ok ns hl
    intro w mg fa h Y G hmg0
    obtain ⟨K, KX, c, cx⟩ := Y
    have hmg : mg ("law" : PySem.Str) = some (.ref fa) := by
      have e : (HandSHeadRun.topDef (OpenLaw.row PySem.Challenge.rw_farclocks_k21_whole_worlds).prog 44).name = ("law" : PySem.Str) := by kernel_rfl
      rw [← e]
      exact hmg0
    have c0 : Wk.C0 K mg := ⟨h, KX, G, c, cx⟩
    have e := hmg.symm.trans (c0.glo 51)
    cases e
    obtain ⟨fd, F⟩ := c.def_ 29 (d := Wk.dd_law) rfl
    have b := L2.FunD.bindsA (ps := ["_law_script"]) F fun _ _ _ _ _ _ us hl => match us, hl with | [_], _ => rfl
    refine ⟨K, fd, KX, fun s v => b s [v] rfl, fun base _ _ => ?_⟩
    exact Wk.ok_law c0 F
