import PyProof.Rows.All
import Wide.All
import OpenK.AllK
import Wide.FinOn
import PyProof.EqAt
import PyProof.EqKinds
import PyProof.TupleCall
import HandS.Base
import HandS.Call
import HandS.List
import HandS.Comp
import HandS.Ends
import HandS.Dict
import HandS.Iter
import HandS.Text
import HandS.Words
import HandS.WordsList
import HandS.WordsDict
import HandS.WordsExc
import HandS.Exc
import HandS.TryOnly
import HandS.ExcOwn
import HandS.IsInst
import HandS.Deep
import HandS.Zip
import HandS.Style
import HandS.TupAny
import HandS.TupLe
import HandS.Flow
import HandS.Defaults
import HandS.Evl
import HandS.TupLen
import HandS.Conv
import HandS.HotCalls
import HandS.ExcIs
import HandS.Head0
import HandS.Head1
import HandS.Head2
import HandS.HeadEnd
import HandS.HeadHook1
import HandS.HeadHook2
import KE.GoesMore
import KE.GoesEnum
import HandS.TupMul
import HandS.SetFor
import HandS.Strs
import KE.KDictZip
import PySem.Challenge.RW_farclocks_k10_bounds
set_option Elab.async false
set_option linter.all false
set_option maxRecDepth 100000
set_option maxHeartbeats 2000000
namespace Fc
open PySem L2 Evl
abbrev D := PyData

/-! ### results -/
inductive R (α : Type) where
  | ok (a : α) | er (c : Str) | bad
def R.bind {α β : Type} : R α → (α → R β) → R β
  | .ok a, f => f a
  | .er c, _ => .er c
  | .bad, _ => .bad
instance : Monad R := { pure := R.ok, bind := R.bind }
@[simp] theorem R.bind_ok {α β : Type} (a : α) (f : α → R β) : (R.ok a).bind f = f a := rfl
@[simp] theorem R.bind_er {α β : Type} (c : Str) (f : α → R β) : (R.er c : R α).bind f = .er c := rfl
@[simp] theorem R.bind_bad {α β : Type} (f : α → R β) : (R.bad : R α).bind f = .bad := rfl

inductive Slot where
  | un | fz (d : D) | ow (d : D)
abbrev En := List Slot
abbrev DE := En → R D

/-! ### what a value stands for -/
def kD : Key → D
  | .inl i => .int i
  | .inr x => .str x
def keyD (k : List Key) : D := .tuple (k.map kD)
mutual
inductive Rp (K : PySem.W.Frag) (H : Hp) : V → D → Prop
  | non : Rp K H .non .none
  | bl (b : Bool) : Rp K H (.bl b) (.bool b)
  | int (i : Int) : Rp K H (.int i) (.int i)
  | str (x : Str) : Rp K H (.str x) (.str x)
  | lst {a : Addr} {xs : List V} {ds : List D} : H a = some (.lst xs) → RpA K H xs ds → Rp K H (.ref a) (.list ds)
  | scr {a : Addr} {ns : List Int} : SqL K H a (ns.map V.int) → Rp K H (.ref a) (.dict [(.none, .list (ns.map PyData.int))])
  | ex (a : Addr) : Rp K H (.ref a) (.dict [(.bool true, .int (a : Nat))])
  | tup {a : Addr} {xs : List V} {ds : List D} : H a = some (.tup xs) → RpA K H xs ds → Rp K H (.ref a) (.tuple ds)
  | dct {a : Addr} {kvs : List (List Key × V)} {es : List (D × D)} : H a = some (.dT kvs) → RpE K H kvs es → Rp K H (.ref a) (.dict es)
inductive RpA (K : PySem.W.Frag) (H : Hp) : List V → List D → Prop
  | nil : RpA K H [] []
  | cons {v : V} {vs : List V} {d : D} {ds : List D} : Rp K H v d → RpA K H vs ds → RpA K H (v :: vs) (d :: ds)
inductive RpE (K : PySem.W.Frag) (H : Hp) : List (List Key × V) → List (D × D) → Prop
  | nil : RpE K H [] []
  | cons {k : List Key} {v : V} {kvs : List (List Key × V)} {d : D} {es : List (D × D)} : Rp K H v d → RpE K H kvs es → RpE K H ((k, v) :: kvs) ((keyD k, d) :: es)
end
section
variable {K : PySem.W.Frag} {H H' : Hp}
mutual
theorem Rp.mono (e : Ex H H') : ∀ {v : V} {d : D}, Rp K H v d → Rp K H' v d
  | _, _, .non => .non
  | _, _, .bl b => .bl b
  | _, _, .int i => .int i
  | _, _, .str x => .str x
  | _, _, .lst h r => .lst (e _ _ h) (RpA.mono e r)
  | _, _, .scr h => .scr (ex_l e h)
  | _, _, .ex a => .ex a
  | _, _, .tup h r => .tup (e _ _ h) (RpA.mono e r)
  | _, _, .dct h r => .dct (e _ _ h) (RpE.mono e r)
theorem RpA.mono (e : Ex H H') : ∀ {vs : List V} {ds : List D}, RpA K H vs ds → RpA K H' vs ds
  | _, _, .nil => .nil
  | _, _, .cons h r => .cons (Rp.mono e h) (RpA.mono e r)
theorem RpE.mono (e : Ex H H') : ∀ {vs : List (List Key × V)} {ds : List (D × D)}, RpE K H vs ds → RpE K H' vs ds
  | _, _, .nil => .nil
  | _, _, .cons h r => .cons (Rp.mono e h) (RpE.mono e r)
end
theorem RpA.length : ∀ {vs : List V} {ds : List D}, RpA K H vs ds → vs.length = ds.length
  | _, _, .nil => rfl
  | _, _, .cons _ r => congrArg (· + 1) (RpA.length r)
theorem RpA.get : ∀ {vs : List V} {ds : List D} {i : Nat} {v : V}, RpA K H vs ds → vs[i]? = some v → ∃ d, ds[i]? = some d ∧ Rp K H v d
  | _, _, _, _, .nil, e => by simp at e
  | _, _, 0, _, .cons h _, e => by simp at e; subst e; exact ⟨_, rfl, h⟩
  | _, _, i + 1, v, .cons _ r, e => by
    obtain ⟨d, h1, h2⟩ := RpA.get (i := i) (v := v) r (by simpa using e)
    exact ⟨d, by simpa using h1, h2⟩
theorem RpA.getD : ∀ {vs : List V} {ds : List D} {i : Nat} {d : D}, RpA K H vs ds → ds[i]? = some d → ∃ v, vs[i]? = some v ∧ Rp K H v d
  | _, _, _, _, .nil, e => by simp at e
  | _, _, 0, _, .cons h _, e => by simp at e; subst e; exact ⟨_, rfl, h⟩
  | _, _, i + 1, d, .cons _ r, e => by
    obtain ⟨v, h1, h2⟩ := RpA.getD (i := i) (d := d) r (by simpa using e)
    exact ⟨v, by simpa using h1, h2⟩
theorem RpA.append : ∀ {vs ws : List V} {ds es : List D}, RpA K H vs ds → RpA K H ws es → RpA K H (vs ++ ws) (ds ++ es)
  | _, _, _, _, .nil, s => s
  | _, _, _, _, .cons h r, s => .cons h (RpA.append r s)
theorem RpA.take : ∀ {vs : List V} {ds : List D} (n : Nat), RpA K H vs ds → RpA K H (vs.take n) (ds.take n)
  | _, _, 0, _ => by simp; exact .nil
  | _, _, n + 1, .nil => by simp; exact .nil
  | _, _, n + 1, .cons h r => by simp; exact .cons h (RpA.take n r)
theorem RpA.drop : ∀ {vs : List V} {ds : List D} (n : Nat), RpA K H vs ds → RpA K H (vs.drop n) (ds.drop n)
  | _, _, 0, r => by simpa using r
  | _, _, n + 1, .nil => by simp; exact .nil
  | _, _, n + 1, .cons h r => by simp; exact RpA.drop n r
theorem RpA.set : ∀ {vs : List V} {ds : List D} {v : V} {d : D} (n : Nat), RpA K H vs ds → Rp K H v d → RpA K H (vs.set n v) (ds.set n d)
  | _, _, _, _, _, .nil, _ => .nil
  | _, _, _, _, 0, .cons h r, s => .cons s r
  | _, _, _, _, n + 1, .cons h r, s => .cons h (RpA.set n r s)
theorem RpA.reverse : ∀ {vs : List V} {ds : List D}, RpA K H vs ds → RpA K H vs.reverse ds.reverse
  | _, _, .nil => .nil
  | _, _, .cons h r => by
    rw [List.reverse_cons, List.reverse_cons]
    exact RpA.append (RpA.reverse r) (.cons h .nil)
theorem RpA.ints : ∀ {ns : List Int}, RpA K H (ns.map V.int) (ns.map PyData.int)
  | [] => .nil
  | n :: r => .cons (.int n) RpA.ints
end

/-! ### growth: (H0, H) to (H0', H'): H0 what is frozen, H all -/
structure Gr (H0 H H0' H' : Hp) : Prop where
  e0 : Ex H0 H0'
  e : Ex H H'
  s : Ex H0' H'
  n : ∀ p, H p ≠ none → H0 p = none → H0' p = none
section
variable {H0 H H1 H2 H3 H4 : Hp}
theorem Gr.refl (h : Ex H0 H) : Gr H0 H H0 H := ⟨Ex.refl _, Ex.refl _, h, fun _ _ h => h⟩
theorem Ex.ne {H H' : Hp} (e : Ex H H') {p : Addr} (h : H p ≠ none) : H' p ≠ none := by
  cases q : H p with
  | none => exact absurd q h
  | some o => rw [e p o q]; exact fun z => nomatch z
theorem Gr.trans (a : Gr H0 H H1 H2) (b : Gr H1 H2 H3 H4) : Gr H0 H H3 H4 :=
  ⟨a.e0.trans b.e0, a.e.trans b.e, b.s, fun p h h0 => b.n p (Ex.ne a.e h) (a.n p h h0)⟩
/-- a new object, known to both -/
theorem Gr.new {p : Addr} {o : HO} (h : Ex H0 H) (hp : H p = none) : Gr H0 H (upd H0 p o) (upd H p o) := by
  have h0 : H0 p = none := fresh_back h hp
  refine ⟨Ex.new h0, Ex.new hp, fun a u e => ?_, fun q hq hq0 => ?_⟩
  · by_cases ha : a = p
    · subst ha; rw [upd_same] at e ⊢; exact e
    · rw [upd_ne ha] at e ⊢; exact h a u e
  · have : q ≠ p := fun z => hq (z ▸ hp)
    rw [upd_ne this]; exact hq0
/-- the rest of the heap grows -/
theorem Gr.side {H' : Hp} (h : Ex H0 H) (e : Ex H H') : Gr H0 H H0 H' := ⟨Ex.refl _, e, h.trans e, fun _ _ h => h⟩
/-- an object that is young is frozen -/
theorem Gr.freeze {p : Addr} {o : HO} (g : Gr H0 H H1 H2) (hp : H2 p = some o) (hn : H p = none) (h1 : H1 p = none) : Gr H0 H (upd H1 p o) H2 :=
  ⟨g.e0.trans (Ex.new h1), g.e, fun a u e => by
    by_cases ha : a = p
    · subst ha; rw [upd_same] at e; rw [hp]; exact e
    · rw [upd_ne ha] at e; exact g.s a u e, fun q hq hq0 => by
    have : q ≠ p := fun z => hq (z ▸ hn)
    rw [upd_ne this]; exact g.n q hq hq0⟩
/-- a young object that is not frozen is changed -/
theorem Gr.mut {p : Addr} {o : HO} (g : Gr H0 H H1 H2) (hn : H p = none) (h1 : H1 p = none) : Gr H0 H H1 (upd H2 p o) :=
  ⟨g.e0, fun a u e => by rw [upd_ne (ne_of_none e hn)]; exact g.e a u e, fun a u e => by rw [upd_ne (ne_of_none e h1)]; exact g.s a u e, g.n⟩
end

/-! ### environments -/
/-- an owned object's content -/
def OwnO (K : PySem.W.Frag) (H0 : Hp) (o : HO) (d : D) : Prop :=
  (∃ xs ds, o = .lst xs ∧ d = .list ds ∧ RpA K H0 xs ds) ∨ ∃ kvs es, o = .dT kvs ∧ d = .dict es ∧ RpE K H0 kvs es
theorem OwnO.mono {K : PySem.W.Frag} {H H' : Hp} {o : HO} {d : D} (e : Ex H H') (h : OwnO K H o d) : OwnO K H' o d := by
  rcases h with ⟨xs, ds, h1, h2, h3⟩ | ⟨kvs, es, h1, h2, h3⟩
  · exact .inl ⟨xs, ds, h1, h2, h3.mono e⟩
  · exact .inr ⟨kvs, es, h1, h2, h3.mono e⟩
theorem OwnO.rp {K : PySem.W.Frag} {H : Hp} {p : Addr} {o : HO} {d : D} (hp : H p = none) (h : OwnO K H o d) : Rp K (upd H p o) (.ref p) d := by
  have e : Ex H (upd H p o) := Ex.new hp
  rcases h with ⟨xs, ds, rfl, rfl, h3⟩ | ⟨kvs, es, rfl, rfl, h3⟩
  · exact .lst upd_same (h3.mono e)
  · exact .dct upd_same (h3.mono e)
abbrev Bs := Hp × Hp
structure Rl (K : PySem.W.Frag) (B : Bs) (ρ : En) (σ : L2.St) (H0 H : Hp) : Prop where
  gr : Gr B.1 B.2 H0 H
  len : σ.length = ρ.length
  fz : ∀ (i : Nat) (d : D), ρ[i]? = some (Slot.fz d) → ∃ v, σ[i]? = some (some v) ∧ Rp K H0 v d
  ow : ∀ (i : Nat) (d : D), ρ[i]? = some (Slot.ow d) → ∃ p o, σ[i]? = some (some (.ref p)) ∧ B.2 p = none ∧ H0 p = none ∧ H p = some o ∧ OwnO K H0 o d
  uq : ∀ (i j : Nat) (d e : D) (p : Addr), ρ[i]? = some (Slot.ow d) → ρ[j]? = some (Slot.ow e) → σ[i]? = some (some (.ref p)) → σ[j]? = some (some (.ref p)) → i = j
section
variable {K : PySem.W.Frag} {B : Bs} {ρ : En} {σ : L2.St} {H0 H H0' H' : Hp}
theorem Rl.s (r : Rl K B ρ σ H0 H) : Ex H0 H := r.gr.s
theorem Rl.grow (r : Rl K B ρ σ H0 H) (g : Gr H0 H H0' H') : Rl K B ρ σ H0' H' where
  gr := r.gr.trans g
  len := r.len
  fz := fun i d h => by
    obtain ⟨v, h1, h2⟩ := r.fz i d h
    exact ⟨v, h1, h2.mono g.e0⟩
  ow := fun i d h => by
    obtain ⟨p, o, h1, h2, h3, h4, h5⟩ := r.ow i d h
    exact ⟨p, o, h1, h2, g.n p (by rw [h4]; exact fun z => nomatch z) h3, g.e _ _ h4, h5.mono g.e0⟩
  uq := r.uq
theorem get_set {α : Type} {l : List α} {i j : Nat} {x : α} : (l.set i x)[j]? = if i = j then (if j < l.length then some x else none) else l[j]? := by
  by_cases h : i = j
  · subst h
    by_cases hl : i < l.length
    · simp [hl]
    · simp [hl]
  · simp [h]
/-- a slot gets a frozen value -/
theorem Rl.setF (r : Rl K B ρ σ H0 H) {i : Nat} {v : V} {d : D} (h : Rp K H0 v d) : Rl K B (ρ.set i (.fz d)) (σ.set i (some v)) H0 H where
  gr := r.gr
  len := by simp [r.len]
  fz := fun j e hj => by
    rw [get_set] at hj
    rw [get_set]
    by_cases hij : i = j
    · subst hij
      rw [if_pos rfl] at hj ⊢
      by_cases hl : i < ρ.length
      · rw [if_pos hl] at hj
        rw [if_pos (by rw [r.len]; exact hl)]
        simp at hj; subst hj
        exact ⟨v, rfl, h⟩
      · rw [if_neg hl] at hj; cases hj
    · rw [if_neg hij] at hj ⊢
      exact r.fz j e hj
  ow := fun j e hj => by
    rw [get_set] at hj
    by_cases hij : i = j
    · subst hij
      rw [if_pos rfl] at hj
      by_cases hl : i < ρ.length
      · rw [if_pos hl] at hj; simp at hj
      · rw [if_neg hl] at hj; cases hj
    · rw [if_neg hij] at hj
      rw [get_set, if_neg hij]
      exact r.ow j e hj
  uq := fun j k e f p hj hk sj sk => by
    rw [get_set] at hj hk sj sk
    by_cases hij : i = j
    · rw [if_pos hij] at hj
      split at hj <;> simp at hj
    · by_cases hik : i = k
      · rw [if_pos hik] at hk
        split at hk <;> simp at hk
      · rw [if_neg hij] at hj sj
        rw [if_neg hik] at hk sk
        exact r.uq j k e f p hj hk sj sk
/-- a slot gets a young object of its own -/
theorem Rl.setO (r : Rl K B ρ σ H0 H) {i : Nat} {p : Addr} {o : HO} {d : D} (hb : B.2 p = none) (h0 : H0 p = none) (hp : H p = some o) (h : OwnO K H0 o d)
    (hn : ∀ (j : Nat) (e : D), ρ[j]? = some (.ow e) → σ[j]? ≠ some (some (.ref p))) : Rl K B (ρ.set i (.ow d)) (σ.set i (some (.ref p))) H0 H where
  gr := r.gr
  len := by simp [r.len]
  fz := fun j e hj => by
    rw [get_set] at hj
    by_cases hij : i = j
    · rw [if_pos hij] at hj
      split at hj <;> simp at hj
    · rw [if_neg hij] at hj
      rw [get_set, if_neg hij]
      exact r.fz j e hj
  ow := fun j e hj => by
    rw [get_set] at hj
    rw [get_set]
    by_cases hij : i = j
    · subst hij
      rw [if_pos rfl] at hj ⊢
      by_cases hl : i < ρ.length
      · rw [if_pos hl] at hj
        rw [if_pos (by rw [r.len]; exact hl)]
        simp at hj; subst hj
        exact ⟨p, o, rfl, hb, h0, hp, h⟩
      · rw [if_neg hl] at hj; cases hj
    · rw [if_neg hij] at hj ⊢
      exact r.ow j e hj
  uq := fun j k e f q hj hk sj sk => by
    rw [get_set] at hj hk sj sk
    by_cases hij : i = j
    · by_cases hik : i = k
      · exact hij.symm.trans hik
      · rw [if_pos hij] at sj
        rw [if_neg hik] at hk sk
        split at sj
        · simp at sj
          subst sj
          exact absurd sk (hn k f hk)
        · cases sj
    · by_cases hik : i = k
      · rw [if_neg hij] at hj sj
        rw [if_pos hik] at sk
        split at sk
        · simp at sk
          subst sk
          exact absurd sj (hn j e hj)
        · cases sk
      · rw [if_neg hij] at hj sj
        rw [if_neg hik] at hk sk
        exact r.uq j k e f q hj hk sj sk
/-- an owned object is changed -/
theorem Rl.mutO (r : Rl K B ρ σ H0 H) {i : Nat} {p : Addr} {o : HO} {d d' : D} (hi : ρ[i]? = some (.ow d)) (hs : σ[i]? = some (some (.ref p))) (h : OwnO K H0 o d') : Rl K B (ρ.set i (.ow d')) σ H0 (upd H p o) := by
  obtain ⟨p', o', q1, q2, q3, q4, q5⟩ := r.ow i d hi
  rw [hs] at q1
  simp at q1
  subst q1
  refine ⟨r.gr.mut q2 q3, by simp [r.len], fun j e hj => ?_, fun j e hj => ?_, fun j k e f q hj hk sj sk => ?_⟩
  · rw [get_set] at hj
    by_cases hij : i = j
    · rw [if_pos hij] at hj
      split at hj <;> simp at hj
    · rw [if_neg hij] at hj
      exact r.fz j e hj
  · rw [get_set] at hj
    by_cases hij : i = j
    · subst hij
      rw [if_pos rfl] at hj
      split at hj
      · simp at hj
        subst hj
        exact ⟨p, o, hs, q2, q3, upd_same, h⟩
      · cases hj
    · rw [if_neg hij] at hj
      obtain ⟨p2, o2, t1, t2, t3, t4, t5⟩ := r.ow j e hj
      have ne : p2 ≠ p := fun z => by
        subst z
        exact hij (r.uq i j d e p2 hi hj hs t1)
      exact ⟨p2, o2, t1, t2, t3, by rw [upd_ne ne]; exact t4, t5⟩
  · have hj' : ∃ e', ρ[j]? = some (.ow e') := by
      rw [get_set] at hj
      by_cases hij : i = j
      · exact ⟨d, hij ▸ hi⟩
      · rw [if_neg hij] at hj; exact ⟨e, hj⟩
    have hk' : ∃ e', ρ[k]? = some (.ow e') := by
      rw [get_set] at hk
      by_cases hik : i = k
      · exact ⟨d, hik ▸ hi⟩
      · rw [if_neg hik] at hk; exact ⟨f, hk⟩
    obtain ⟨e', he⟩ := hj'
    obtain ⟨f', hf⟩ := hk'
    exact r.uq j k e' f' q he hf sj sk
/-- an owned object is frozen -/
theorem Rl.frz (r : Rl K B ρ σ H0 H) {i : Nat} {d : D} (hi : ρ[i]? = some (.ow d)) : ∃ p o, σ[i]? = some (some (.ref p)) ∧ H p = some o ∧ H0 p = none ∧ Rl K B (ρ.set i (.fz d)) σ (upd H0 p o) H ∧ Rp K (upd H0 p o) (.ref p) d := by
  obtain ⟨p, o, q1, q2, q3, q4, q5⟩ := r.ow i d hi
  have rp := OwnO.rp q3 q5
  have e : Ex H0 (upd H0 p o) := Ex.new q3
  refine ⟨p, o, q1, q4, q3, ⟨r.gr.freeze q4 q2 q3, by simp [r.len], fun j f hj => ?_, fun j f hj => ?_, fun j k f g q hj hk sj sk => ?_⟩, rp⟩
  · rw [get_set] at hj
    by_cases hij : i = j
    · subst hij
      rw [if_pos rfl] at hj
      split at hj
      · simp at hj
        subst hj
        exact ⟨.ref p, q1, rp⟩
      · cases hj
    · rw [if_neg hij] at hj
      obtain ⟨v, h1, h2⟩ := r.fz j f hj
      exact ⟨v, h1, h2.mono e⟩
  · rw [get_set] at hj
    by_cases hij : i = j
    · rw [if_pos hij] at hj
      split at hj <;> simp at hj
    · rw [if_neg hij] at hj
      obtain ⟨p2, o2, t1, t2, t3, t4, t5⟩ := r.ow j f hj
      have ne : p2 ≠ p := fun z => by
        subst z
        exact hij (r.uq i j d f p2 hi hj q1 t1)
      exact ⟨p2, o2, t1, t2, by rw [upd_ne ne]; exact t3, t4, t5.mono e⟩
  · rw [get_set] at hj hk
    by_cases hij : i = j
    · rw [if_pos hij] at hj
      split at hj <;> simp at hj
    · by_cases hik : i = k
      · rw [if_pos hik] at hk
        split at hk <;> simp at hk
      · rw [if_neg hij] at hj
        rw [if_neg hik] at hk
        exact r.uq j k f g q hj hk sj sk
/-- slots forgotten -/
theorem Rl.setU (r : Rl K B ρ σ H0 H) {i : Nat} {x : Option V} : Rl K B (ρ.set i .un) (σ.set i x) H0 H where
  gr := r.gr
  len := by simp [r.len]
  fz := fun j e hj => by
    rw [get_set] at hj
    by_cases hij : i = j
    · rw [if_pos hij] at hj
      split at hj <;> simp at hj
    · rw [if_neg hij] at hj
      rw [get_set, if_neg hij]
      exact r.fz j e hj
  ow := fun j e hj => by
    rw [get_set] at hj
    by_cases hij : i = j
    · rw [if_pos hij] at hj
      split at hj <;> simp at hj
    · rw [if_neg hij] at hj
      rw [get_set, if_neg hij]
      exact r.ow j e hj
  uq := fun j k e f q hj hk sj sk => by
    rw [get_set] at hj hk sj sk
    by_cases hij : i = j
    · rw [if_pos hij] at hj
      split at hj <;> simp at hj
    · by_cases hik : i = k
      · rw [if_pos hik] at hk
        split at hk <;> simp at hk
      · rw [if_neg hij] at hj sj
        rw [if_neg hik] at hk sk
        exact r.uq j k e f q hj hk sj sk
end
end Fc
set_option Elab.async false
set_option linter.all false
set_option maxRecDepth 100000
set_option maxHeartbeats 2000000
namespace Fc
open PySem L2 Evl
abbrev Fr := PySem.W.Frag
/-! ### readings -/
def WC (mg : Str → Option Value) (W : WX) (c : Str) (σ : L2.St) (H : Hp) : Prop := ∀ C, mg c = some (Value.ref C) → W (.ref C) none σ H
def Out {α : Type} (r : R α) (k : α → Prop) (e : Str → Prop) : Prop := match r with
  | .ok a => k a
  | .er c => e c
  | .bad => False
/-- what follows a value: it is frozen (false), or a young list, dict (true) -/
def Kq (k : Bool) (K : Fr) (H0 H : Hp) (d : D) (Q : VK) : Prop := match k with
  | false => ∀ v H0' H', Gr H0 H H0' H' → Rp K H0' v d → Q v H'
  | true => ∀ p o H0' H', Gr H0 H H0' H' → H' p = some o → H p = none → H0' p = none → OwnO K H0' o d → Q (.ref p) H'
theorem Kq.own {K : Fr} {H0 H : Hp} {d : D} {Q : VK} (h : Kq false K H0 H d Q) : Kq true K H0 H d Q := fun p o H0' H' g hp hn h0 ho =>
  h (.ref p) (upd H0' p o) H' (g.freeze hp hn h0) (OwnO.rp h0 ho)
theorem Kq.down {k : Bool} {K : Fr} {H0 H : Hp} {d : D} {Q : VK} (h : Kq k K H0 H d Q) : Kq true K H0 H d Q := by
  cases k with
  | false => exact h.own
  | true => exact h
theorem Kq.grow {k : Bool} {K : Fr} {H0 H H1 H2 : Hp} {d : D} {Q : VK} (h : Kq k K H0 H d Q) (g : Gr H0 H H1 H2) : Kq k K H1 H2 d Q := by
  cases k with
  | false => exact fun v H0' H' g' r => h v H0' H' (g.trans g') r
  | true => exact fun p o H0' H' g' h1 h2 h3 h4 => h p o H0' H' (g.trans g') h1 (fresh_back g.e h2) h3 h4
def tE (k : Bool) (K : Fr) (mg : Str → Option Value) (W : WX) (m : DE) : TE := fun σ H Q => ∃ B ρ H0, Rl K B ρ σ H0 H ∧
  Out (m ρ) (fun d => Kq k K H0 H d Q) (fun c => ∀ H', Ex H H' → WC mg W c σ H')
/-- a value that is frozen, or stands in an owned slot -/
def Vw (K : Fr) (ρ : En) (σ : L2.St) (H0 : Hp) (v : V) (d : D) : Prop := Rp K H0 v d ∨ ∃ (i : Nat) (p : Addr), ρ[i]? = some (Slot.ow d) ∧ σ[i]? = some (some (.ref p)) ∧ v = .ref p
def tW (K : Fr) (mg : Str → Option Value) (W : WX) (m : DE) : TE := fun σ H Q => ∃ B ρ H0, Rl K B ρ σ H0 H ∧
  Out (m ρ) (fun d => ∀ v H0' H', Gr H0 H H0' H' → Vw K ρ σ H0' v d → Q v H') (fun c => ∀ H', Ex H H' → WC mg W c σ H')
/-- a value, as it may be read now -/
def Vx (K : Fr) (H0 H : Hp) (v : V) (d : D) : Prop := Rp K H0 v d ∨ ∃ p o, v = .ref p ∧ H p = some o ∧ OwnO K H0 o d
theorem Vw.vx {K : Fr} {B : Bs} {ρ : En} {σ : L2.St} {H0 H : Hp} {v : V} {d : D} (r : Rl K B ρ σ H0 H) (h : Vw K ρ σ H0 v d) : Vx K H0 H v d := by
  rcases h with h | ⟨i, p, h1, h2, rfl⟩
  · exact .inl h
  · obtain ⟨q, o, q1, q2, q3, q4, q5⟩ := r.ow i d h1
    rw [h2] at q1
    simp at q1
    subst q1
    exact .inr ⟨p, o, rfl, q4, q5⟩
theorem Vw.mono {K : Fr} {ρ : En} {σ : L2.St} {H0 H1 : Hp} {v : V} {d : D} (e : Ex H0 H1) (h : Vw K ρ σ H0 v d) : Vw K ρ σ H1 v d := by
  rcases h with h | h
  · exact .inl (h.mono e)
  · exact .inr h
section
variable {K : Fr} {H0 H : Hp} {v : V}
theorem Rp.int_ {i : Int} (h : Rp K H0 v (.int i)) : v = .int i := by cases h; rfl
theorem Vx.non (h : Vx K H0 H v .none) : v = .non := by
  rcases h with h | ⟨p, o, _, _, h⟩
  · cases h; rfl
  · rcases h with ⟨_, _, _, q, _⟩ | ⟨_, _, _, q, _⟩ <;> cases q
theorem Vx.bl {b : Bool} (h : Vx K H0 H v (.bool b)) : v = .bl b := by
  rcases h with h | ⟨p, o, _, _, h⟩
  · cases h; rfl
  · rcases h with ⟨_, _, _, q, _⟩ | ⟨_, _, _, q, _⟩ <;> cases q
theorem Vx.int {i : Int} (h : Vx K H0 H v (.int i)) : v = .int i := by
  rcases h with h | ⟨p, o, _, _, h⟩
  · cases h; rfl
  · rcases h with ⟨_, _, _, q, _⟩ | ⟨_, _, _, q, _⟩ <;> cases q
theorem Vx.str {x : Str} (h : Vx K H0 H v (.str x)) : v = .str x := by
  rcases h with h | ⟨p, o, _, _, h⟩
  · cases h; rfl
  · rcases h with ⟨_, _, _, q, _⟩ | ⟨_, _, _, q, _⟩ <;> cases q
theorem Vx.lst {ds : List D} (s : Ex H0 H) (h : Vx K H0 H v (.list ds)) : ∃ a xs, v = .ref a ∧ H a = some (.lst xs) ∧ RpA K H0 xs ds := by
  rcases h with h | ⟨p, o, rfl, hp, h⟩
  · cases h with
    | lst h r => exact ⟨_, _, rfl, s _ _ h, r⟩
  · rcases h with ⟨xs, ds', rfl, q, r⟩ | ⟨_, _, _, q, _⟩
    · cases q
      exact ⟨p, xs, rfl, hp, r⟩
    · cases q
theorem Vx.tup {ds : List D} (s : Ex H0 H) (h : Vx K H0 H v (.tuple ds)) : ∃ a xs, v = .ref a ∧ H0 a = some (.tup xs) ∧ H a = some (.tup xs) ∧ RpA K H0 xs ds := by
  rcases h with h | ⟨p, o, rfl, hp, h⟩
  · cases h with
    | tup h r => exact ⟨_, _, rfl, h, s _ _ h, r⟩
  · rcases h with ⟨xs, ds', rfl, q, r⟩ | ⟨_, _, _, q, _⟩ <;> cases q
/-- the script: unwrapped -/
def unS : D → D
  | .dict [(.none, l)] => l
  | d => d
theorem RpE.no_none {kvs : List (List Key × V)} {l : D} {es : List (D × D)} : ¬ RpE K H0 kvs ((.none, l) :: es) := fun h => by
  generalize q : ((PyData.none, l) :: es) = zs at h
  cases h with
  | nil => cases q
  | cons h r => cases q
theorem Vx.dct {es : List (D × D)} (s : Ex H0 H) (h : Vx K H0 H v (.dict es)) (hx : ∀ a : Addr, es ≠ [(.bool true, .int (a : Nat))] := by intro a z; cases z) : (∃ a kvs, v = .ref a ∧ H a = some (.dT kvs) ∧ RpE K H0 kvs es) ∨ ∃ (a : Addr) (ns : List Int), v = .ref a ∧ es = [(.none, .list (ns.map PyData.int))] ∧ SqL K H a (ns.map V.int) := by
  rcases h with h | ⟨p, o, rfl, hp, h⟩
  · cases h with
    | dct h r => exact .inl ⟨_, _, rfl, s _ _ h, r⟩
    | scr h => exact .inr ⟨_, _, rfl, rfl, ex_l s h⟩
    | ex a => exact (hx a rfl).elim
  · rcases h with ⟨xs, ds', rfl, q, r⟩ | ⟨kvs, es', rfl, q, r⟩
    · cases q
    · cases q
      exact .inl ⟨p, kvs, rfl, hp, r⟩
mutual
theorem Rp.dp (s : Ex H0 H) : ∀ {v : V} {d : D}, Rp K H0 v d → d.canLay0 = true → Dp K H v d
  | _, _, .non, _ => .non
  | _, _, .bl b, _ => .bl b
  | _, _, .int i, _ => .int i
  | _, _, .str x, _ => .str x
  | _, _, .lst h r, c => .lst (SqL.of (s _ _ h)) (RpA.dp s r (by simpa [PyData.canLay0] using c))
  | _, _, .tup h r, c => .tup (SqT.of (s _ _ h)) (RpA.dp s r (by simpa [PyData.canLay0] using c))
  | _, _, .dct h r, c => by simp [PyData.canLay0] at c
  | _, _, .scr h, c => by simp [PyData.canLay0] at c
  | _, _, .ex a, c => by simp [PyData.canLay0] at c
theorem RpA.dp (s : Ex H0 H) : ∀ {vs : List V} {ds : List D}, RpA K H0 vs ds → PyData.canLayAll0 ds = true → DpAll K H vs ds
  | _, _, .nil, _ => .nil
  | _, _, .cons h r, c => by
    have c' := Bool.and_eq_true_iff.mp (by simpa [PyData.canLayAll0] using c)
    exact .cons (Rp.dp s h c'.1) (RpA.dp s r c'.2)
end
theorem DpAll.ints {ns : List Int} : DpAll K H (ns.map V.int) (ns.map PyData.int) := by
  induction ns with
  | nil => exact .nil
  | cons n r ih => exact .cons (.int n) ih
theorem Vx.dp {d : D} (s : Ex H0 H) (h : Vx K H0 H v d) (c : (unS d).canLay0 = true) : Dp K H v (unS d) := by
  rcases h with h | ⟨p, o, rfl, hp, h⟩
  · cases h with
    | scr h => exact .lst (ex_l s h) DpAll.ints
    | dct h r =>
      exfalso
      unfold unS at c
      split at c
      · rename_i z
        cases z
        exact RpE.no_none r
      · simp [PyData.canLay0] at c
    | ex a => simp [unS, PyData.canLay0] at c
    | _ => exact Rp.dp s (by first | assumption | (constructor <;> assumption)) c
  · rcases h with ⟨xs, ds, rfl, rfl, r⟩ | ⟨kvs, es, rfl, rfl, r⟩
    · exact .lst (SqL.of hp) (r.dp s (by simpa [unS, PyData.canLay0] using c))
    · exfalso
      unfold unS at c
      split at c
      · rename_i z
        cases z
        exact RpE.no_none r
      · simp [PyData.canLay0] at c
end
/-! ### weakening -/
theorem _root_.L2.PE.wk {X : Cx} {e : Expr} {t t' : TE} (h : PE X e t) (k : ∀ σ H Q, t' σ H Q → t σ H Q) : PE X e t' := ⟨fun pins s σ H Q I q => h.run pins s σ H Q I (k σ H Q q)⟩
theorem _root_.L2.PT.wk {X : Cx} {e : Expr} {t t' : TT} (h : PT X e t) (k : ∀ σ H Q, t' σ H Q → t σ H Q) : PT X e t' := ⟨fun pins s σ H Q I q => h.run pins s σ H Q I (k σ H Q q)⟩
theorem _root_.L2.PA.wk {X : Cx} {e : List Expr} {t t' : TA} (h : PA X e t) (k : ∀ σ H Q, t' σ H Q → t σ H Q) : PA X e t' := ⟨fun ps pins s σ H Q I q => h.run ps pins s σ H Q I (k σ H Q q)⟩
abbrev PD (X : Cx) (W : WX) (e : Expr) (m : DE) : Prop := PE X e (tE false X.K X.mg W m)
abbrev PF (X : Cx) (W : WX) (e : Expr) (m : DE) : Prop := PE X e (tE true X.K X.mg W m)
abbrev PB (X : Cx) (W : WX) (e : Expr) (m : DE) : Prop := PE X e (tW X.K X.mg W m)
theorem Out.imp {α : Type} {r : R α} {k k' : α → Prop} {e e' : Str → Prop} (h : Out r k e) (hk : ∀ a, k a → k' a) (he : ∀ c, e c → e' c) : Out r k' e' := by
  cases r with
  | ok a => exact hk a h
  | er c => exact he c h
  | bad => exact h
section
variable {X : Cx} {W : WX} {e a b c : Expr} {m ma mb mc : DE} {pos : Pos}
theorem fd (h : PF X W e m) : PD X W e m := h.wk fun σ H Q ⟨B, ρ, H0, r, o⟩ => ⟨B, ρ, H0, r, o.imp (fun _ k => Kq.own k) fun _ k => k⟩
theorem db (h : PD X W e m) : PB X W e m := h.wk fun σ H Q ⟨B, ρ, H0, r, o⟩ => ⟨B, ρ, H0, r, o.imp (fun _ k v H0' H' g rp => k v H0' H' g (.inl rp)) fun _ k => k⟩
theorem fb (h : PF X W e m) : PB X W e m := db (fd h)
/-! ### names, constants -/
def eC (d : D) : DE := fun _ => .ok d
def eV (i : Nat) : DE := fun ρ => match ρ[i]? with
  | some (.fz d) => .ok d
  | _ => .bad
def eW (i : Nat) : DE := fun ρ => match ρ[i]? with
  | some (.fz d) => .ok d
  | some (.ow d) => .ok d
  | _ => .bad
theorem pd_const {v : V} {d : D} (h : PE X e (tC v)) (hr : ∀ H, Rp X.K H v d) : PD X W e (eC d) := h.wk fun σ H Q ⟨B, ρ, H0, r, o⟩ => o v H0 H (Gr.refl r.s) (hr H0)
theorem pd_int {i : Int} {j : Nat} : PD X W (.Constant (.int i) j pos) (eC (.int i)) := pd_const pe_int fun _ => .int i
theorem pd_bl {i : Bool} {j : Nat} : PD X W (.Constant (.bool i) j pos) (eC (.bool i)) := pd_const pe_bl fun _ => .bl i
theorem pd_non {j : Nat} : PD X W (.Constant .none j pos) (eC .none) := pd_const pe_non fun _ => .non
theorem pd_str {x : Str} {j : Nat} : PD X W (.Constant (.str x) j pos) (eC (.str x)) := pd_const pe_str fun _ => .str x
theorem pd_gint {x : Str} {i : Int} (hg : Gl X x) (hm : ∃ t, X.mg x = some (.int i t)) (hd : (x == ("__debug__" : Str)) = false := by decide) : PD X W (.Name x pos) (eC (.int i)) := by
  obtain ⟨t, hm⟩ := hm
  exact pd_const (pe_glob hg hm (v := .int i) ⟨t, rfl⟩ hd) fun _ => .int i
theorem pd_gstr {x z : Str} (hg : Gl X x) (hm : ∃ t, X.mg x = some (.str z t)) (hd : (x == ("__debug__" : Str)) = false := by decide) : PD X W (.Name x pos) (eC (.str z)) := by
  obtain ⟨t, hm⟩ := hm
  exact pd_const (pe_glob hg hm (v := .str z) ⟨t, rfl⟩ hd) fun _ => .str z
theorem dv (i : Nat) {x : Str} (hN : X.N[i]? = some x := by rfl) (hv : Vis X.env.scope x := by first | exact Or.inl rfl | exact Or.inr (Or.inl rfl) | exact Or.inr (Or.inr rfl)) (hd : (x == ("__debug__" : Str)) = false := by decide)
    (hcd : (x == ("__classdict__" : Str)) = false := by decide) : PD X W (.Name x pos) (eV i) := (pe_var hN hv hd hcd).wk fun σ H Q ⟨B, ρ, H0, r, o⟩ => by
  unfold eV at o
  split at o
  · rename_i d h
    obtain ⟨v, h1, h2⟩ := r.fz i d h
    exact ⟨v, h1, o v H0 H (Gr.refl r.s) h2⟩
  · exact o.elim
theorem bv (i : Nat) {x : Str} (hN : X.N[i]? = some x := by rfl) (hv : Vis X.env.scope x := by first | exact Or.inl rfl | exact Or.inr (Or.inl rfl) | exact Or.inr (Or.inr rfl)) (hd : (x == ("__debug__" : Str)) = false := by decide)
    (hcd : (x == ("__classdict__" : Str)) = false := by decide) : PB X W (.Name x pos) (eW i) := (pe_var hN hv hd hcd).wk fun σ H Q ⟨B, ρ, H0, r, o⟩ => by
  unfold eW at o
  split at o
  · rename_i d h
    obtain ⟨v, h1, h2⟩ := r.fz i d h
    exact ⟨v, h1, o v H0 H (Gr.refl r.s) (.inl h2)⟩
  · rename_i d h
    obtain ⟨p, q, h1, _⟩ := r.ow i d h
    exact ⟨.ref p, h1, o _ H0 H (Gr.refl r.s) (.inr ⟨i, p, h, h1, rfl⟩)⟩
  · exact o.elim
/-! ### operators -/
def OpD (k : Bool) (X : Cx) (f : Value → Value → Sem Value) (op : D → D → R D) : Prop := ∃ r : R2, OpR X f r ∧ ∀ H0 H x y dx dy d, Ex H0 H → Vx X.K H0 H x dx → Vx X.K H0 H y dy → op dx dy = .ok d → ∀ Q, Kq k X.K H0 H d Q → r x y H Q
def IxD (k : Bool) (X : Cx) (op : D → D → R D) : Prop := ∃ r : R2, IxR X r ∧ ∀ H0 H x y dx dy d, Ex H0 H → Vx X.K H0 H x dx → Vx X.K H0 H y dy → op dx dy = .ok d → ∀ Q, Kq k X.K H0 H d Q → r x y H Q
/-- never an error of its own -/
def Calm2 (op : D → D → R D) : Prop := ∀ x y c, op x y ≠ .er c
def eBin (op : D → D → R D) (ma mb : DE) : DE := fun ρ => (ma ρ).bind fun x => (mb ρ).bind fun y => op x y
theorem t_bin {k : Bool} {K : Fr} {mg : Str → Option Value} {op : D → D → R D} {r : R2} (cm : Calm2 op)
    (hr : ∀ H0 H x y dx dy d, Ex H0 H → Vx K H0 H x dx → Vx K H0 H y dy → op dx dy = .ok d → ∀ Q, Kq k K H0 H d Q → r x y H Q) {σ : L2.St} {H : Hp} {Q : VK}
    (h : tE k K mg W (eBin op ma mb) σ H Q) : tOp r (tW K mg W ma) (tW K mg W mb) σ H Q := by
  obtain ⟨B, ρ, H0, rl, o⟩ := h
  refine ⟨B, ρ, H0, rl, ?_⟩
  unfold eBin at o
  cases ha : ma ρ with
  | bad => rw [ha] at o; exact o
  | er c => rw [ha] at o; exact o
  | ok da =>
    rw [ha] at o
    intro x H1 H2 g1 vx
    have rl2 := rl.grow g1
    refine ⟨B, ρ, H1, rl2, ?_⟩
    cases hb : mb ρ with
    | bad => rw [R.bind_ok, hb] at o; exact o
    | er c => rw [R.bind_ok, hb] at o; exact fun H' e => o H' (g1.e.trans e)
    | ok db =>
      rw [R.bind_ok, hb, R.bind_ok] at o
      intro y H3 H4 g2 vy
      have rl3 := rl2.grow g2
      cases hc : op da db with
      | bad => rw [hc] at o; exact o.elim
      | er c => exact absurd hc (cm _ _ _)
      | ok d =>
        rw [hc] at o
        exact hr H3 H4 x y da db d rl3.s (Vw.vx rl3 (vx.mono g2.e0)) (Vw.vx rl3 vy) hc Q (Kq.grow o (g1.trans g2))
theorem pd_bin {k : Bool} {op : Operator} {f : D → D → R D} (ho : OpD k X (binaryOp op) f) (cm : Calm2 f) (ha : PB X W a ma) (hb : PB X W b mb) : PE X (.BinOp a op b pos) (tE k X.K X.mg W (eBin f ma mb)) := by
  obtain ⟨r, h1, h2⟩ := ho
  exact (pe_op h1 ha hb).wk fun σ H Q h => t_bin cm h2 h
theorem pd_cmp {op : CmpOp} {f : D → D → R D} (ho : OpD false X (compareOp op) f) (cm : Calm2 f) (hm : behindInMarks op b = false) (ha : PB X W a ma) (hb : PB X W b mb) : PD X W (.Compare a [op] [b] pos) (eBin f ma mb) := by
  obtain ⟨r, h1, h2⟩ := ho
  exact (pe_cmpR h1 ha hb hm).wk fun σ H Q h => t_bin cm h2 h
theorem pd_ix {f : D → D → R D} (ho : IxD false X f) (cm : Calm2 f) (hs : PlainIx b) (ha : PB X W a ma) (hb : PB X W b mb) : PD X W (.Subscript a b pos) (eBin f ma mb) := by
  obtain ⟨r, h1, h2⟩ := ho
  exact (pe_ix h1 ha hb hs).wk fun σ H Q h => t_bin cm h2 h
theorem OpD.or {k : Bool} {f : Value → Value → Sem Value} {p q pq : D → D → R D} (h : OpD k X f p) (h' : OpD k X f q) (hpq : ∀ x y d, pq x y = .ok d → p x y = .ok d ∨ q x y = .ok d) : OpD k X f pq := by
  obtain ⟨r, h1, h2⟩ := h
  obtain ⟨r', h1', h2'⟩ := h'
  refine ⟨_, h1.or h1', fun H0 H x y dx dy d s vx vy e Q kq => ?_⟩
  rcases hpq dx dy d e with e | e
  · exact .inl (h2 H0 H x y dx dy d s vx vy e Q kq)
  · exact .inr (h2' H0 H x y dx dy d s vx vy e Q kq)
theorem IxD.or {k : Bool} {p q pq : D → D → R D} (h : IxD k X p) (h' : IxD k X q) (hpq : ∀ x y d, pq x y = .ok d → p x y = .ok d ∨ q x y = .ok d) : IxD k X pq := by
  obtain ⟨r, h1, h2⟩ := h
  obtain ⟨r', h1', h2'⟩ := h'
  refine ⟨_, h1.or h1', fun H0 H x y dx dy d s vx vy e Q kq => ?_⟩
  rcases hpq dx dy d e with e | e
  · exact .inl (h2 H0 H x y dx dy d s vx vy e Q kq)
  · exact .inr (h2' H0 H x y dx dy d s vx vy e Q kq)
theorem OpD.dn {f : Value → Value → Sem Value} {p : D → D → R D} (h : OpD true X f p) : OpD false X f p := by
  obtain ⟨r, h1, h2⟩ := h
  exact ⟨r, h1, fun H0 H x y dx dy d s vx vy e Q kq => h2 H0 H x y dx dy d s vx vy e Q kq.own⟩
/-- ints to an int, a truth -/
def dI (C : Int → Int → Bool) (g : Int → Int → D) : D → D → R D
  | .int i, .int j => if C i j = true then .ok (g i j) else .bad
  | _, _ => .bad
theorem dI_ok {C : Int → Int → Bool} {g : Int → Int → D} {x y d : D} (h : dI C g x y = .ok d) : ∃ i j, x = .int i ∧ y = .int j ∧ C i j = true ∧ d = g i j := by
  unfold dI at h
  split at h
  · rename_i i j
    by_cases hc : C i j = true
    · rw [if_pos hc] at h
      cases h
      exact ⟨i, j, rfl, rfl, hc, rfl⟩
    · rw [if_neg hc] at h; cases h
  · cases h
theorem dI_calm {C : Int → Int → Bool} {g : Int → Int → D} : Calm2 (dI C g) := fun x y c h => by
  unfold dI at h
  split at h
  · split at h <;> cases h
  · cases h
theorem opD_I {f : Value → Value → Sem Value} {C : Int → Int → Prop} {Cb : Int → Int → Bool} {g : Int → Int → V} {gd : Int → Int → D} (ho : OpR X f (rI C g)) (hC : ∀ i j, Cb i j = true → C i j) (hg : ∀ i j H, Rp X.K H (g i j) (gd i j)) : OpD false X f (dI Cb gd) :=
  ⟨_, ho, fun H0 H x y dx dy d s vx vy e Q kq => by
    obtain ⟨i, j, rfl, rfl, hc, rfl⟩ := dI_ok e
    exact ⟨i, j, vx.int, vy.int, hC i j hc, kq _ H0 H (Gr.refl s) (hg i j H0)⟩⟩
theorem opD_I0 {f : Value → Value → Sem Value} {g : Int → Int → V} {gd : Int → Int → D} (ho : OpR X f (rI0 g)) (hg : ∀ i j H, Rp X.K H (g i j) (gd i j)) : OpD false X f (dI (fun _ _ => true) gd) :=
  ⟨_, ho, fun H0 H x y dx dy d s vx vy e Q kq => by
    obtain ⟨i, j, rfl, rfl, hc, rfl⟩ := dI_ok e
    exact ⟨i, j, vx.int, vy.int, kq _ H0 H (Gr.refl s) (hg i j H0)⟩⟩
end
end Fc
set_option Elab.async false
set_option linter.all false
set_option maxRecDepth 100000
set_option maxHeartbeats 2000000
namespace Fc
open PySem L2 Evl PySem.Spec PyProof.Rows
section
variable {X : Cx} {W : WX} {e a b c : Expr} {m ma mb mc : DE} {pos : Pos}
def orD (p q : D → D → R D) : D → D → R D := fun x y => match p x y with
  | .ok d => .ok d
  | _ => q x y
theorem OpD.orD {k : Bool} {f : Value → Value → Sem Value} {p q : D → D → R D} (h : OpD k X f p) (h' : OpD k X f q) : OpD k X f (Fc.orD p q) := h.or h' fun x y d e => by
  unfold Fc.orD at e
  split at e
  · rename_i z hz
    cases e
    exact .inl hz
  · exact .inr e
theorem IxD.orD {k : Bool} {p q : D → D → R D} (h : IxD k X p) (h' : IxD k X q) : IxD k X (Fc.orD p q) := h.or h' fun x y d e => by
  unfold Fc.orD at e
  split at e
  · rename_i z hz
    cases e
    exact .inl hz
  · exact .inr e
theorem OpD.imp {k : Bool} {f : Value → Value → Sem Value} {p q : D → D → R D} (h : OpD k X f q) (hp : ∀ x y d, p x y = .ok d → q x y = .ok d) : OpD k X f p := by
  obtain ⟨r, h1, h2⟩ := h
  exact ⟨r, h1, fun H0 H x y dx dy d s vx vy e Q kq => h2 H0 H x y dx dy d s vx vy (hp _ _ _ e) Q kq⟩
theorem IxD.imp {k : Bool} {p q : D → D → R D} (h : IxD k X q) (hp : ∀ x y d, p x y = .ok d → q x y = .ok d) : IxD k X p := by
  obtain ⟨r, h1, h2⟩ := h
  exact ⟨r, h1, fun H0 H x y dx dy d s vx vy e Q kq => h2 H0 H x y dx dy d s vx vy (hp _ _ _ e) Q kq⟩
/-! ### sums, products -/
def dAddI : D → D → R D := dI (fun _ _ => true) fun i j => .int (i + j)
def dSub : D → D → R D := dI (fun _ _ => true) fun i j => .int (i - j)
def dMulI : D → D → R D := dI (fun i j => decide (-(2 ^ 64) < i ∧ i < 2 ^ 64) || decide (-(2 ^ 64) < j ∧ j < 2 ^ 64)) fun i j => .int (i * j)
def dMod : D → D → R D := dI (fun _ j => decide (0 < j)) fun i j => .int (i % j)
def dFdiv : D → D → R D := dI (fun _ j => decide (0 < j ∧ j < 1073741824)) fun i j => .int (i / j)
theorem od_addI : OpD false X (binaryOp .Add) dAddI := opD_I0 op_add fun i j _ => .int _
theorem od_sub : OpD false X (binaryOp .Sub) dSub := opD_I0 op_sub fun i j _ => .int _
theorem od_mulI : OpD false X (binaryOp .Mult) dMulI := opD_I op_mul (fun i j h => by simp only [Bool.or_eq_true, decide_eq_true_eq] at h; exact h) fun i j _ => .int _
theorem od_mod : OpD false X (binaryOp .Mod) dMod := opD_I op_mod (fun i j h => of_decide_eq_true h) fun i j _ => .int _
theorem od_fdiv : OpD false X (binaryOp .FloorDiv) dFdiv := opD_I op_fdiv (fun i j h => (of_decide_eq_true h : 0 < j ∧ j < 1073741824)) fun i j _ => .int _
def szB (n : Nat) : Bool := decide (n ≤ 100000)
theorem szB_ok {n : Nat} (h : szB n = true) : n ≤ sizeLine := sz_of (of_decide_eq_true h)
theorem szB_lt {n : Nat} (h : szB n = true) : n < sizeLine := Nat.lt_of_le_of_lt (of_decide_eq_true h) (by decide)
def dAddS : D → D → R D
  | .str x, .str y => if szB (x.length + y.length) = true then .ok (.str (x ++ y)) else .bad
  | _, _ => .bad
theorem od_addS : OpD false X (binaryOp .Add) dAddS := ⟨_, op_add_str, fun H0 H x y dx dy d s vx vy e Q kq => by
  unfold dAddS at e
  split at e
  · split at e
    · rename_i h
      cases e
      exact ⟨_, _, vx.str, vy.str, szB_ok h, kq _ H0 H (Gr.refl s) (.str _)⟩
    · cases e
  · cases e⟩
/-- lists: a new one -/
def dCat : D → D → R D
  | .list x, .list y => if szB (x.length + y.length) = true then .ok (.list (x ++ y)) else .bad
  | _, _ => .bad
theorem Kq.newL {K : Fr} {H0 H : Hp} {Q : VK} {xs : List V} {ds : List D} (s : Ex H0 H) (kq : Kq true K H0 H (.list ds) Q) (r : RpA K H0 xs ds) {p : Addr} (hp : H p = none) : Q (.ref p) (upd H p (.lst xs)) :=
  kq p _ H0 (upd H p (.lst xs)) (Gr.side s (Ex.new hp)) upd_same hp (fresh_back s hp) (.inl ⟨xs, ds, rfl, rfl, r⟩)
theorem Kq.newT {K : Fr} {H0 H : Hp} {Q : VK} {xs : List V} {ds : List D} (s : Ex H0 H) (kq : Kq false K H0 H (.tuple ds) Q) (r : RpA K H0 xs ds) {p : Addr} (hp : H p = none) : Q (.ref p) (upd H p (.tup xs)) :=
  kq _ (upd H0 p (.tup xs)) (upd H p (.tup xs)) (Gr.new s hp) (.tup upd_same (r.mono (Ex.new (fresh_back s hp))))
theorem od_cat : OpD true X (binaryOp .Add) dCat := ⟨_, op_cat, fun H0 H x y dx dy d s vx vy e Q kq => by
  unfold dCat at e
  split at e
  · split at e
    · rename_i h
      cases e
      obtain ⟨p, xs, rfl, hp, rp⟩ := vx.lst s
      obtain ⟨q, ys, rfl, hq, rq⟩ := vy.lst s
      exact ⟨p, q, xs, ys, rfl, rfl, hp, hq, szB_ok (by rw [rp.length, rq.length]; exact h), fun l hl => kq.newL s (rp.append rq) hl⟩
    · cases e
  · cases e⟩
def dCatT : D → D → R D
  | .tuple x, .tuple y => if szB (x.length + y.length) = true then .ok (.tuple (x ++ y)) else .bad
  | _, _ => .bad
theorem od_catT : OpD false X (binaryOp .Add) dCatT := ⟨_, op_catA, fun H0 H x y dx dy d s vx vy e Q kq => by
  unfold dCatT at e
  split at e
  · split at e
    · rename_i h
      cases e
      obtain ⟨p, xs, rfl, hp0, hp, rp⟩ := vx.tup s
      obtain ⟨q, ys, rfl, hq0, hq, rq⟩ := vy.tup s
      refine ⟨p, q, xs, ys, rfl, rfl, SqT.of hp, SqT.of hq, szB_ok (by rw [rp.length, rq.length]; exact h), fun z => ?_, fun _ z => ?_, fun _ _ l hl => kq.newT s (rp.append rq) hl⟩
      · subst z
        cases rp
        exact kq _ H0 H (Gr.refl s) (.tup hq0 rq)
      · subst z
        cases rq
        rw [List.append_nil] at kq
        exact kq _ H0 H (Gr.refl s) (.tup hp0 rp)
    · cases e
  · cases e⟩
def dAdd (x y : D) : R D := match x, y with
  | .int i, .int j => .ok (.int (i + j))
  | .str x, .str y => if szB (x.length + y.length) = true then .ok (.str (x ++ y)) else .bad
  | .list x, .list y => if szB (x.length + y.length) = true then .ok (.list (x ++ y)) else .bad
  | .tuple x, .tuple y => if szB (x.length + y.length) = true then .ok (.tuple (x ++ y)) else .bad
  | _, _ => .bad
theorem od_add : OpD false X (binaryOp .Add) dAdd :=
  ((od_addI.orD od_addS).orD (od_cat.dn.orD od_catT)).imp fun x y d h => by
    unfold dAdd at h
    split at h
    · cases h; rfl
    · split at h
      · rename_i hz
        cases h
        simp [orD, dAddI, dI, dAddS, hz]
      · cases h
    · split at h
      · rename_i hz
        cases h
        simp [orD, dAddI, dI, dAddS, dCat, hz]
      · cases h
    · split at h
      · rename_i hz
        cases h
        simp [orD, dAddI, dI, dAddS, dCat, dCatT, hz]
      · cases h
    · cases h
theorem cm_add : Calm2 dAdd := fun x y c h => by
  unfold dAdd at h
  split at h <;> first | cases h | (split at h <;> cases h)
theorem cm_cat : Calm2 dCat := fun x y c h => by
  unfold dCat at h
  split at h <;> first | cases h | (split at h <;> cases h)
/-- lists, tuples times a number -/
def dRep : D → D → R D
  | .list x, .int k => if decide (-1000 ≤ k ∧ k ≤ 1000 ∧ x.length ≤ 100) = true then .ok (.list (List.replicate k.toNat x).flatten) else .bad
  | _, _ => .bad
theorem RpA.rep {K : Fr} {H : Hp} {xs : List V} {ds : List D} (r : RpA K H xs ds) : ∀ k : Nat, RpA K H (List.replicate k xs).flatten (List.replicate k ds).flatten
  | 0 => .nil
  | k + 1 => by
    rw [List.replicate_succ, List.replicate_succ, List.flatten_cons, List.flatten_cons]
    exact r.append (RpA.rep r k)
theorem od_rep : OpD true X (binaryOp .Mult) dRep := ⟨_, op_rep, fun H0 H x y dx dy d s vx vy e Q kq => by
  unfold dRep at e
  split at e
  · split at e
    · rename_i xs k h
      cases e
      have h := of_decide_eq_true h
      obtain ⟨p, xs, rfl, hp, rp⟩ := vx.lst s
      have hl := rp.length
      refine ⟨p, _, xs, rfl, vy.int, hp, by omega, by omega, sz_of ?_, fun l hl => kq.newL s (rp.rep _) hl⟩
      exact Nat.le_trans (Nat.mul_le_mul (by omega : xs.length ≤ 100) (by omega : k.toNat ≤ 1000)) (by decide)
    · cases e
  · cases e⟩
def dMul (x y : D) : R D := match x, y with
  | .list xs, y => dRep (.list xs) y
  | x, y => dMulI x y
theorem od_mul : OpD false X (binaryOp .Mult) dMul := OpD.or od_rep.dn od_mulI fun x y d h => by
  unfold dMul at h
  split at h
  · exact .inl h
  · exact .inr h
theorem cm_rep : Calm2 dRep := fun x y c h => by
  unfold dRep at h
  split at h <;> first | cases h | (split at h <;> cases h)
theorem cm_mul : Calm2 dMul := fun x y c h => by
  unfold dMul at h
  split at h
  · exact cm_rep _ _ _ h
  · exact dI_calm _ _ _ h
/-! ### comparisons -/
def dLt : D → D → R D := dI (fun _ _ => true) fun i j => .bool (decide (i < j))
def dLe : D → D → R D := dI (fun _ _ => true) fun i j => .bool (decide (i ≤ j))
def dGt : D → D → R D := dI (fun _ _ => true) fun i j => .bool (decide (j < i))
def dGe : D → D → R D := dI (fun _ _ => true) fun i j => .bool (decide (j ≤ i))
theorem od_lt : OpD false X (compareOp .Lt) dLt := opD_I0 op_lt fun i j _ => .bl _
theorem od_le : OpD false X (compareOp .LtE) dLe := opD_I0 op_le fun i j _ => .bl _
theorem od_gt : OpD false X (compareOp .Gt) dGt := opD_I0 op_gt fun i j _ => .bl _
theorem od_ge : OpD false X (compareOp .GtE) dGe := opD_I0 op_ge fun i j _ => .bl _
def dEq (x y : D) : R D := if (SeqAt.shaped (unS x) && SeqAt.shaped (unS y)) = true then .ok (.bool (PyData.eqv (unS x) (unS y))) else .bad
def dNe (x y : D) : R D := if (SeqAt.shaped (unS x) && SeqAt.shaped (unS y)) = true then .ok (.bool (!PyData.eqv (unS x) (unS y))) else .bad
theorem od_eq (hu : X.A.units + 100 < cLine) : OpD false X (compareOp .Eq) dEq := ⟨_, op_eqD (by omega), fun H0 H x y dx dy d s vx vy e Q kq => by
  unfold dEq at e
  split at e
  · rename_i h
    cases e
    obtain ⟨h1, h2⟩ := Bool.and_eq_true_iff.mp h
    exact ⟨_, _, vx.dp s (SeqAt.canLay_of_shaped h1), vy.dp s (SeqAt.canLay_of_shaped h2), h1, h2, kq _ H0 H (Gr.refl s) (.bl _)⟩
  · cases e⟩
theorem od_ne (hu : X.A.units + 100 < cLine) : OpD false X (compareOp .NotEq) dNe := ⟨_, op_neD (by omega), fun H0 H x y dx dy d s vx vy e Q kq => by
  unfold dNe at e
  split at e
  · rename_i h
    cases e
    obtain ⟨h1, h2⟩ := Bool.and_eq_true_iff.mp h
    exact ⟨_, _, vx.dp s (SeqAt.canLay_of_shaped h1), vy.dp s (SeqAt.canLay_of_shaped h2), h1, h2, kq _ H0 H (Gr.refl s) (.bl _)⟩
  · cases e⟩
theorem cm_eq : Calm2 dEq := fun x y c h => by
  unfold dEq at h
  split at h <;> cases h
theorem cm_ne : Calm2 dNe := fun x y c h => by
  unfold dNe at h
  split at h <;> cases h
/-! ### keys of dicts -/
def keyI : D → Option Key
  | .int i => some (.inl i)
  | .str x => some (.inr x)
  | _ => none
def keyL : List D → Option (List Key)
  | [] => some []
  | d :: ds => match keyI d, keyL ds with
    | some k, some r => some (k :: r)
    | _, _ => none
def keyOf : D → Option (List Key)
  | .tuple ds => keyL ds
  | _ => none
theorem keyI_rp {K : Fr} {H : Hp} {v : V} {d : D} {k : Key} (r : Rp K H v d) (h : keyI d = some k) : v = kV k ∧ d = kD k := by
  cases r with
  | int i => cases h; exact ⟨rfl, rfl⟩
  | str x => cases h; exact ⟨rfl, rfl⟩
  | _ => cases h
theorem keyL_rp {K : Fr} {H : Hp} : ∀ {vs : List V} {ds : List D} {k : List Key}, RpA K H vs ds → keyL ds = some k → vs = k.map kV ∧ PyData.tuple ds = keyD k
  | _, _, k, .nil, h => by
    unfold keyL at h
    cases h
    exact ⟨rfl, rfl⟩
  | _, _, k, .cons (v := v) (vs := vs) (d := d) (ds := ds) r rs, h => by
    unfold keyL at h
    cases h1 : keyI d with
    | none => rw [h1] at h; cases h
    | some q =>
      cases h2 : keyL ds with
      | none => rw [h1, h2] at h; cases h
      | some t =>
        rw [h1, h2] at h
        cases h
        obtain ⟨a1, a2⟩ := keyI_rp r h1
        obtain ⟨b1, b2⟩ := keyL_rp rs h2
        have b3 : ds = t.map kD := PyData.tuple.inj b2
        exact ⟨by rw [a1, b1]; rfl, by rw [a2, b3]; rfl⟩
    
/-- what a dict's entries tell of a key -/
def lkE (es : List (D × D)) (k : List Key) : Option D := (es.find? fun e => decide (keyOf e.1 = some k)).map (·.2)
theorem keyOf_keyD : ∀ k : List Key, keyOf (keyD k) = some k
  | [] => rfl
  | q :: k => by
    have ih : keyL (k.map kD) = some k := keyOf_keyD k
    show keyL (kD q :: k.map kD) = some (q :: k)
    unfold keyL
    rw [ih]
    cases q <;> rfl
theorem RpE.lk {K : Fr} {H : Hp} (k : List Key) : ∀ {kvs : List (List Key × V)} {es : List (D × D)}, RpE K H kvs es → (∃ v d, valV kvs k = some v ∧ lkE es k = some d ∧ Rp K H v d) ∨ (valV kvs k = none ∧ lkE es k = none)
  | _, _, .nil => .inr ⟨rfl, rfl⟩
  | _, _, .cons (k := q) (v := v) (d := d) (kvs := kvs) (es := es) h r => by
    by_cases e : q = k
    · subst e
      refine .inl ⟨v, d, valV_pos rfl, ?_, h⟩
      unfold lkE
      rw [List.find?_cons, keyOf_keyD]
      simp
    · have e2 : lkE ((keyD q, d) :: es) k = lkE es k := by
        unfold lkE
        rw [List.find?_cons, keyOf_keyD]
        have : decide (some q = some k) = false := decide_eq_false fun z => e (Option.some.inj z)
        simp only [this]
      rw [valV_neg (p := (q, v)) (show ¬ (q, v).1 = k from e), e2]
      exact RpE.lk k r
/-- an entry stored -/
def putE (es : List (D × D)) (k : List Key) (d : D) : List (D × D) :=
  if (es.any fun e => decide (keyOf e.1 = some k)) = true then es.map (fun e => if keyOf e.1 = some k then (e.1, d) else e) else es ++ [(keyD k, d)]
theorem RpE.any {K : Fr} {H : Hp} (k : List Key) : ∀ {kvs : List (List Key × V)} {es : List (D × D)}, RpE K H kvs es → (kvs.any fun kv => decide (kv.1 = k)) = es.any fun e => decide (keyOf e.1 = some k)
  | _, _, .nil => rfl
  | _, _, .cons (k := q) h r => by
    rw [List.any_cons, List.any_cons, RpE.any k r]
    show (decide (q = k) || _) = (decide (keyOf (keyD q) = some k) || _)
    rw [keyOf_keyD]
    congr 1
    exact decide_eq_decide.mpr ⟨fun e => by rw [e], fun e => Option.some.inj e⟩
theorem RpE.mapP {K : Fr} {H : Hp} {k : List Key} {v : V} {d : D} (hv : Rp K H v d) : ∀ {kvs : List (List Key × V)} {es : List (D × D)}, RpE K H kvs es →
    RpE K H (kvs.map fun kv => if kv.1 = k then (kv.1, v) else kv) (es.map fun e => if keyOf e.1 = some k then (e.1, d) else e)
  | _, _, .nil => .nil
  | _, _, .cons (k := q) (v := w) (d := f) h r => by
    rw [List.map_cons, List.map_cons]
    by_cases e : q = k
    · have e2 : keyOf (keyD q, f).1 = some k := by rw [← e]; exact keyOf_keyD q
      rw [if_pos e2, if_pos (show (q, w).1 = k from e)]
      exact .cons hv (RpE.mapP hv r)
    · have e2 : ¬ keyOf (keyD q, f).1 = some k := by
        show ¬ keyOf (keyD q) = some k
        rw [keyOf_keyD]
        exact fun z => e (Option.some.inj z)
      rw [if_neg e2, if_neg (show ¬ (q, w).1 = k from e)]
      exact .cons h (RpE.mapP hv r)
theorem RpE.append {K : Fr} {H : Hp} : ∀ {kvs kws : List (List Key × V)} {es fs : List (D × D)}, RpE K H kvs es → RpE K H kws fs → RpE K H (kvs ++ kws) (es ++ fs)
  | _, _, _, _, .nil, s => s
  | _, _, _, _, .cons h r, s => .cons h (RpE.append r s)
theorem RpE.length {K : Fr} {H : Hp} : ∀ {kvs : List (List Key × V)} {es : List (D × D)}, RpE K H kvs es → kvs.length = es.length
  | _, _, .nil => rfl
  | _, _, .cons _ r => congrArg (· + 1) (RpE.length r)
theorem RpE.put {K : Fr} {H : Hp} {k : List Key} {v : V} {d : D} {kvs : List (List Key × V)} {es : List (D × D)} (r : RpE K H kvs es) (hv : Rp K H v d) : RpE K H (putK kvs k v) (putE es k d) := by
  unfold putK putE
  rw [RpE.any k r]
  split
  · exact r.mapP hv
  · exact r.append (.cons hv .nil)
/-- a key as it stands -/
theorem Vx.key {K : Fr} {H0 H : Hp} {v : V} {d : D} {k : List Key} (s : Ex H0 H) (h : Vx K H0 H v d) (hk : keyOf d = some k) : ∃ b, v = .ref b ∧ H b = some (.tup (k.map kV)) ∧ d = keyD k := by
  cases d with
  | tuple ds =>
    obtain ⟨a, xs, rfl, h0, h1, r⟩ := h.tup s
    obtain ⟨e1, e2⟩ := keyL_rp r hk
    subst e1
    exact ⟨a, rfl, h1, e2⟩
  | _ => cases hk
/-- all keys are tuples (no script) -/
def okE (es : List (D × D)) : Bool := es.all fun e => (keyOf e.1).isSome
theorem Vx.dctO {K : Fr} {H0 H : Hp} {v : V} {es : List (D × D)} (s : Ex H0 H) (h : Vx K H0 H v (.dict es)) (ho : okE es = true) : ∃ a kvs, v = .ref a ∧ H a = some (.dT kvs) ∧ RpE K H0 kvs es := by
  rcases h.dct s (fun a z => by subst z; cases ho) with h | ⟨a, ns, rfl, rfl, hs⟩
  · exact h
  · cases ho
/-! ### x in y -/
def inD (x y : D) : Option Bool := match y with
  | .list ds => if (SeqAt.shaped x && SeqAt.shaped (.list ds)) = true then some (ds.any fun z => PyData.eqv z x) else none
  | .tuple ds => if (SeqAt.shaped x && SeqAt.shaped (.list ds)) = true then some (ds.any fun z => PyData.eqv z x) else none
  | .dict es => match keyOf x with
    | some k => if okE es = true then some (lkE es k).isSome else none
    | none => none
  | .str z => match x with
    | .str y => match y.cps.toList with
      | [c] => some (decide (c ∈ z.cps.toList))
      | _ => none
    | _ => none
  | _ => none
def dIn (x y : D) : R D := match inD x y with
  | some b => .ok (.bool b)
  | none => .bad
def dNotIn (x y : D) : R D := match inD x y with
  | some b => .ok (.bool (!b))
  | none => .bad
def rInB (X : Cx) (neg : Bool) : R2 := fun x y H Q => (∃ d ds, Dp X.K H x d ∧ (Dp X.K H y (.list ds) ∨ Dp X.K H y (.tuple ds)) ∧ SeqAt.shaped d = true ∧ SeqAt.shaped (.list ds) = true ∧ Q (.bl (xor neg (ds.any fun z => PyData.eqv z d))) H) ∨
  (∃ a o, y = .ref a ∧ DGet H a x o ∧ Q (.bl (xor neg o.isSome)) H) ∨ (∃ (c : Nat) (z : Str), x = .str ⟨#[c]⟩ ∧ y = .str z ∧ Q (.bl (xor neg (decide (c ∈ z.cps.toList)))) H)
theorem shaped_tup {ds : List D} (h : SeqAt.shaped (.list ds) = true) : PyData.canLayAll0 ds = true := SeqAt.canLay_of_shaped (d := .list ds) h
theorem op_inB (hu : X.A.units + 65 < cLine) : OpR X (compareOp .In) (rInB X false) := by
  intro pins s σ H x y v u Q I rx ry h
  rcases h with ⟨d, ds, hd, he, sd, se, q⟩ | ⟨a, o, rfl, g, q⟩ | ⟨c, z, rfl, rfl, q⟩
  · simp only [Bool.false_xor] at q
    obtain ⟨as, r1⟩ := Dp.reads I d x v hd rx
    rcases he with he | he
    · obtain ⟨bs, r2⟩ := Dp.reads I (.list ds) y u he ry
      exact SeqAt.in_list_reads r2 r1 (SeqAt.canLay_of_shaped se) (SeqAt.canLay_of_shaped sd) (room_in_shaped sd hu) ⟨.bl _, H, I, rfl, q⟩
    · obtain ⟨bs, r2⟩ := Dp.reads I (.tuple ds) y u he ry
      exact SeqAt.in_tuple_reads r2 r1 (SeqAt.canLay_of_shaped se) (SeqAt.canLay_of_shaped sd) (room_in_shaped sd hu) ⟨.bl _, H, I, rfl, q⟩
  · simp only [Bool.false_xor] at q
    obtain rfl : u = Value.ref a := ry
    exact d_in (by omega) I g rx fun s3 I3 => ⟨.bl o.isSome, H, I3, rfl, q⟩
  · simp only [Bool.false_xor] at q
    exact op_in_sign pins s σ H _ _ v u Q I rx ry ⟨c, z, rfl, rfl, q⟩
theorem op_notInB (hu : X.A.units + 65 < cLine) : OpR X (compareOp .NotIn) (rInB X true) := by
  intro pins s σ H x y v u Q I rx ry h
  rcases h with ⟨d, ds, hd, he, sd, se, q⟩ | ⟨a, o, rfl, g, q⟩ | ⟨c, z, rfl, rfl, q⟩
  · simp only [Bool.true_xor] at q
    obtain ⟨as, r1⟩ := Dp.reads I d x v hd rx
    rcases he with he | he
    · obtain ⟨bs, r2⟩ := Dp.reads I (.list ds) y u he ry
      exact SeqAt.notIn_list_reads r2 r1 (SeqAt.canLay_of_shaped se) (SeqAt.canLay_of_shaped sd) (room_in_shaped sd hu) ⟨.bl _, H, I, rfl, q⟩
    · obtain ⟨bs, r2⟩ := Dp.reads I (.tuple ds) y u he ry
      exact SeqAt.notIn_tuple_reads r2 r1 (SeqAt.canLay_of_shaped se) (SeqAt.canLay_of_shaped sd) (room_in_shaped sd hu) ⟨.bl _, H, I, rfl, q⟩
  · simp only [Bool.true_xor] at q
    obtain rfl : u = Value.ref a := ry
    exact d_notIn (by omega) I g rx fun s3 I3 => ⟨.bl (!o.isSome), H, I3, rfl, q⟩
  · simp only [Bool.true_xor] at q
    exact op_notIn_sign pins s σ H _ _ v u Q I rx ry ⟨c, z, rfl, rfl, q⟩
theorem str_one {y : Str} {c : Nat} (h : y.cps.toList = [c]) : y = ⟨#[c]⟩ := by
  cases y with
  | mk cps =>
    have : cps = #[c] := by
      apply Array.toList_inj.mp
      exact h
    rw [this]
theorem inB_of {neg bb : Bool} {H0 H : Hp} {x y : V} {dx dy : D} (s : Ex H0 H) (vx : Vx X.K H0 H x dx) (vy : Vx X.K H0 H y dy) (e : inD dx dy = some bb) {Q : VK} (kq : Kq false X.K H0 H (.bool (xor neg bb)) Q) : rInB X neg x y H Q := by
  unfold inD at e
  split at e
  · split at e
    · rename_i h
      cases e
      obtain ⟨h1, h2⟩ := Bool.and_eq_true_iff.mp h
      have hx : (unS dx).canLay0 = true := by
        unfold unS
        split
        · simp [SeqAt.shaped, PyData.canLay0] at h1
        · exact SeqAt.canLay_of_shaped h1
      have ex : unS dx = dx := by
        unfold unS
        split
        · simp [SeqAt.shaped, PyData.canLay0] at h1
        · rfl
      refine .inl ⟨dx, _, ex ▸ vx.dp s hx, .inl (vy.dp s (SeqAt.canLay_of_shaped h2)), h1, h2, kq _ H0 H (Gr.refl s) (.bl _)⟩
    · cases e
  · split at e
    · rename_i h
      cases e
      obtain ⟨h1, h2⟩ := Bool.and_eq_true_iff.mp h
      have hx : (unS dx).canLay0 = true := by
        unfold unS
        split
        · simp [SeqAt.shaped, PyData.canLay0] at h1
        · exact SeqAt.canLay_of_shaped h1
      have ex : unS dx = dx := by
        unfold unS
        split
        · simp [SeqAt.shaped, PyData.canLay0] at h1
        · rfl
      refine .inl ⟨dx, _, ex ▸ vx.dp s hx, .inr (vy.dp s (by show PyData.canLay0 (.tuple _) = true; unfold PyData.canLay0; exact shaped_tup h2)), h1, h2, kq _ H0 H (Gr.refl s) (.bl _)⟩
    · cases e
  · split at e
    · split at e
      · rename_i es _ k hk ho
        cases e
        obtain ⟨b, rfl, hb, rfl⟩ := vx.key s hk
        obtain ⟨a, kvs, rfl, ha, r⟩ := vy.dctO s ho
        refine .inr (.inl ⟨a, _, rfl, DGet.t ha hb, ?_⟩)
        have : (valV kvs k).isSome = (lkE es k).isSome := by
          rcases RpE.lk _ r with ⟨v, d, h1, h2, _⟩ | ⟨h1, h2⟩ <;> rw [h1, h2] <;> rfl
        rw [this]
        exact kq _ H0 H (Gr.refl s) (.bl _)
      · cases e
    · cases e
  · split at e
    · split at e
      · rename_i hc
        cases e
        have := str_one hc
        subst this
        exact .inr (.inr ⟨_, _, vx.str, vy.str, kq _ H0 H (Gr.refl s) (.bl _)⟩)
      · cases e
    · cases e
  · cases e
end
end Fc
set_option Elab.async false
set_option linter.all false
set_option maxRecDepth 100000
set_option maxHeartbeats 2000000
namespace Fc
open PySem L2 Evl PySem.Spec PyProof.Rows
theorem _root_.L2.Room.u {k : Nat} {A : Around} (r : Room k A) : A.units + 100 < cLine := by have := r.un; omega
section
variable {X : Cx} {W : WX} {e a b c : Expr} {es : List Expr} {m ma mb mc : DE} {pos : Pos}
/-! ### in -/
theorem od_in (hu : X.A.units + 100 < cLine) : OpD false X (compareOp .In) dIn := ⟨_, op_inB (by omega), fun H0 H x y dx dy d s vx vy e Q kq => by
  unfold dIn at e
  split at e
  · rename_i bb h
    cases e
    exact inB_of (neg := false) s vx vy h (by rw [Bool.false_xor]; exact kq)
  · cases e⟩
theorem od_notIn (hu : X.A.units + 100 < cLine) : OpD false X (compareOp .NotIn) dNotIn := ⟨_, op_notInB (by omega), fun H0 H x y dx dy d s vx vy e Q kq => by
  unfold dNotIn at e
  split at e
  · rename_i bb h
    cases e
    exact inB_of (neg := true) s vx vy h (by rw [Bool.true_xor]; exact kq)
  · cases e⟩
theorem cm_in : Calm2 dIn := fun x y c h => by
  unfold dIn at h
  split at h <;> cases h
theorem cm_notIn : Calm2 dNotIn := fun x y c h => by
  unfold dNotIn at h
  split at h <;> cases h
/-! ### subscripts -/
def dIx (x y : D) : R D := match x, y with
  | .list ds, .int i => match atI ds i with
    | some d => .ok d
    | none => .bad
  | .tuple ds, .int i => match atI ds i with
    | some d => .ok d
    | none => .bad
  | .str z, .int i => if szB z.length = true then (match atI z.cps.toList i with
    | some c => .ok (.str ⟨#[c]⟩)
    | none => .bad) else .bad
  | .dict [(.none, .list ds)], .int i => match atI ds i with
    | some d => .ok d
    | none => .bad
  | .dict es, .tuple ks => match keyL ks with
    | some k => match lkE es k with
      | some d => .ok d
      | none => .bad
    | none => .bad
  | _, _ => .bad
theorem cm_ix : Calm2 dIx := fun x y c h => by
  unfold dIx at h
  repeat' first
    | cases h
    | split at h
theorem RpA.at_ {K : Fr} {H : Hp} {vs : List V} {ds : List D} {i : Int} {d : D} (r : RpA K H vs ds) (h : atI ds i = some d) : ∃ v, atI vs i = some v ∧ Rp K H v d := by
  unfold atI at h ⊢
  rw [r.length]
  cases q : ixN ds.length i with
  | none => rw [q] at h; cases h
  | some j =>
    rw [q] at h
    exact r.getD h
def rIxB (X : Cx) : R2 := fun x y H Q => rIx X.K x y H Q ∨ ∃ a v, x = .ref a ∧ DGet H a y (some v) ∧ Q v H
theorem ix_dT (hu : X.A.units + 1 < cLine) : IxR X (fun x y H Q => ∃ a v, x = .ref a ∧ DGet H a y (some v) ∧ Q v H) := by
  intro value slice pins s σ H x y v u Q I rx ry h hs
  obtain ⟨a, z, rfl, g, q⟩ := h
  obtain rfl : v = Value.ref a := rx
  exact tail_any (dict_typeIs I g) PySem.F.slot_dict_getitem.lookup (d_getItem hu I g ry fun w' s3 I3 rw' => ⟨z, H, I3, rw', q⟩) hs
theorem od_ix (hu : X.A.units + 100 < cLine) : IxD false X dIx := ⟨rIxB X, ix_seq.or (ix_dT (by omega)), fun H0 H x y dx dy d s vx vy e Q kq => by
  unfold dIx at e
  split at e
  · split at e
    · rename_i z hz
      cases e
      obtain ⟨p, xs, rfl, hp, rp⟩ := vx.lst s
      obtain ⟨v, h1, h2⟩ := rp.at_ hz
      exact .inl (.inl ⟨p, xs, _, v, rfl, vy.int, SqL.of hp, h1, kq v H0 H (Gr.refl s) h2⟩)
    · cases e
  · split at e
    · rename_i z hz
      cases e
      obtain ⟨p, xs, rfl, hp0, hp, rp⟩ := vx.tup s
      obtain ⟨v, h1, h2⟩ := rp.at_ hz
      exact .inl (.inr (.inl ⟨p, xs, _, v, rfl, vy.int, SqT.of hp, h1, kq v H0 H (Gr.refl s) h2⟩))
    · cases e
  · split at e
    · split at e
      · rename_i hz _ c hc
        cases e
        exact .inl (.inr (.inr ⟨_, _, c, vx.str, vy.int, szB_ok hz, hc, kq _ H0 H (Gr.refl s) (.str _)⟩))
      · cases e
    · cases e
  · split at e
    · rename_i ds i z hz
      cases e
      rcases vx.dct s with ⟨a, kvs, rfl, ha, r⟩ | ⟨a, ns, rfl, e2, hs⟩
      · exact (RpE.no_none r).elim
      · simp at e2
        subst e2
        obtain ⟨v, h1, h2⟩ := (RpA.ints (K := X.K) (H := H0) (ns := ns)).at_ hz
        exact .inl (.inl ⟨a, _, _, v, rfl, vy.int, hs, h1, kq v H0 H (Gr.refl s) h2⟩)
    · cases e
  · split at e
    · split at e
      · rename_i _ k hk _ z hz
        cases e
        obtain ⟨b, rfl, hb, _⟩ := vy.key s (k := k) hk
        rcases vx.dct s (fun a q => by subst q; simp [lkE, keyOf] at hz) with ⟨a, kvs, rfl, ha, r⟩ | ⟨a, ns, rfl, rfl, hs⟩
        · rcases RpE.lk k r with ⟨v, d, h1, h2, h3⟩ | ⟨h1, h2⟩
          · rw [h2] at hz
            cases hz
            exact .inr ⟨a, v, rfl, by rw [← h1]; exact DGet.t ha hb, kq v H0 H (Gr.refl s) h3⟩
          · rw [h2] at hz; cases hz
        · exfalso
          unfold lkE at hz
          simp [keyOf] at hz
      · cases e
    · cases e
  · cases e⟩
/-! ### is None, minus -/
def isN : D → Bool
  | .none => true
  | _ => false
theorem Vx.isN {K : Fr} {H0 H : Hp} {v : V} {d : D} (h : Vx K H0 H v d) : decide (v = .non) = Fc.isN d := by
  rcases h with h | ⟨p, o, rfl, _, h⟩
  · cases h <;> rfl
  · rcases h with ⟨_, _, _, rfl, _⟩ | ⟨_, _, _, rfl, _⟩ <;> rfl
def eU (f : D → R D) (ma : DE) : DE := fun ρ => (ma ρ).bind f
def dIsN (d : D) : R D := .ok (.bool (isN d))
def dNotN (d : D) : R D := .ok (.bool (!isN d))
theorem t_un {k : Bool} {K : Fr} {mg : Str → Option Value} {f : D → R D} {t : V → Hp → VK → Prop} (cm : ∀ d c, f d ≠ .er c)
    (hr : ∀ H0 H x dx d, Ex H0 H → Vx K H0 H x dx → f dx = .ok d → ∀ Q, Kq k K H0 H d Q → t x H Q) {σ : L2.St} {H : Hp} {Q : VK} (h : tE k K mg W (eU f ma) σ H Q) : tW K mg W ma σ H fun x H1 => t x H1 Q := by
  obtain ⟨B, ρ, H0, rl, o⟩ := h
  refine ⟨B, ρ, H0, rl, ?_⟩
  unfold eU at o
  cases ha : ma ρ with
  | bad => rw [ha] at o; exact o
  | er c => rw [ha] at o; exact o
  | ok da =>
    rw [ha] at o
    intro x H1 H2 g1 vx
    have rl2 := rl.grow g1
    cases hc : f da with
    | bad => rw [R.bind_ok, hc] at o; exact o.elim
    | er c => exact absurd hc (cm _ _)
    | ok d =>
      rw [R.bind_ok, hc] at o
      exact hr H1 H2 x da d rl2.s (Vw.vx rl2 vx) hc Q (Kq.grow o g1)
theorem pd_isN {j : Nat} {pos' : Pos} (ha : PB X W a ma) : PD X W (.Compare a [.Is] [.Constant .none j pos'] pos) (eU dIsN ma) := (pe_cmp (pc_isN ha) rfl).wk fun σ H Q h =>
  t_un (t := fun x H1 Q => Q (.bl (decide (x = .non))) H1) (fun d c z => by cases (show R.ok _ = R.er c from z)) (fun H0 H x dx d s vx e Q kq => by cases e; rw [vx.isN]; exact kq _ H0 H (Gr.refl s) (.bl _)) h
theorem pd_notN {j : Nat} {pos' : Pos} (ha : PB X W a ma) : PD X W (.Compare a [.IsNot] [.Constant .none j pos'] pos) (eU dNotN ma) := (pe_cmp (pc_notN ha) rfl).wk fun σ H Q h =>
  t_un (t := fun x H1 Q => Q (.bl (!decide (x = .non))) H1) (fun d c z => by cases (show R.ok _ = R.er c from z)) (fun H0 H x dx d s vx e Q kq => by cases e; rw [vx.isN]; exact kq _ H0 H (Gr.refl s) (.bl _)) h
def dNeg : D → R D
  | .int i => .ok (.int (-i))
  | _ => .bad
theorem pd_neg (ha : PB X W a ma) : PD X W (.UnaryOp .USub a pos) (eU dNeg ma) := (pe_un un_neg ha).wk fun σ H Q h =>
  t_un (t := fun x H1 Q => ∃ i, x = .int i ∧ Q (.int (-i)) H1) (fun d c z => by unfold dNeg at z; split at z <;> cases z) (fun H0 H x dx d s vx e Q kq => by
    unfold dNeg at e
    split at e
    · cases e; exact ⟨_, vx.int, kq _ H0 H (Gr.refl s) (.int _)⟩
    · cases e) h
/-! ### tests -/
def tT (K : Fr) (mg : Str → Option Value) (W : WX) (m : DE) : TT := fun σ H Q => ∃ B ρ H0, Rl K B ρ σ H0 H ∧
  Out (m ρ) (fun d => ∃ b, d = .bool b ∧ ∀ H0' H', Gr H0 H H0' H' → Q b H') (fun c => ∀ H', Ex H H' → WC mg W c σ H')
abbrev PTd (X : Cx) (W : WX) (e : Expr) (m : DE) : Prop := PT X e (tT X.K X.mg W m)
theorem td (h : PD X W e m) (he : ∀ whole, isTrue e X.env whole = (do let v ← whole; standAt e.pos; holding [v] (truthy v)) := by intro _; rfl) : PTd X W e m := (pt_val h he).wk fun σ H Q ⟨B, ρ, H0, r, o⟩ =>
  ⟨B, ρ, H0, r, o.imp (fun d ⟨b, e, k⟩ v H0' H' g rp => by subst e; cases rp; exact ⟨b, rfl, k H0' H' g⟩) fun _ k => k⟩
theorem td_cmp {op : CmpOp} {f : D → D → R D} (ho : OpD false X (compareOp op) f) (cm : Calm2 f) (hm : behindInMarks op b = false) (ha : PB X W a ma) (hb : PB X W b mb) : PTd X W (.Compare a [op] [b] pos) (eBin f ma mb) := by
  obtain ⟨r, h1, h2⟩ := ho
  refine (pt_cmpR h1 ha hb hm).wk fun σ H Q h => ?_
  show tOp r (tW X.K X.mg W ma) (tW X.K X.mg W mb) σ H fun x H1 => ∃ k, x = .bl k ∧ Q k H1
  refine t_bin (k := false) cm h2 ?_
  obtain ⟨B, ρ, H0, r, o⟩ := h
  exact ⟨B, ρ, H0, r, o.imp (fun d ⟨b, e, k⟩ v H0' H' g rp => by subst e; cases rp; exact ⟨b, rfl, k H0' H' g⟩) fun _ k => k⟩
theorem td_isN {j : Nat} {pos' : Pos} (ha : PB X W a ma) : PTd X W (.Compare a [.Is] [.Constant .none j pos'] pos) (eU dIsN ma) := (pt_cmp (pc_isN ha) rfl).wk fun σ H Q h => by
  show tIsN (tW X.K X.mg W ma) σ H fun x H1 => ∃ c, x = .bl c ∧ Q c H1
  refine t_un (k := false) (K := X.K) (mg := X.mg) (Q := fun x H1 => ∃ c, x = V.bl c ∧ Q c H1) (f := dIsN) (t := fun x H1 Q => Q (.bl (decide (x = .non))) H1) (fun d c z => by cases (show R.ok _ = R.er c from z)) (fun H0 H x dx d s vx e Q kq => by cases e; rw [vx.isN]; exact kq _ H0 H (Gr.refl s) (.bl _)) ?_
  obtain ⟨B, ρ, H0, r, o⟩ := h
  exact ⟨B, ρ, H0, r, o.imp (fun d ⟨b, e, k⟩ v H0' H' g rp => by subst e; cases rp; exact ⟨b, rfl, k H0' H' g⟩) fun _ k => k⟩
theorem td_notN {j : Nat} {pos' : Pos} (ha : PB X W a ma) : PTd X W (.Compare a [.IsNot] [.Constant .none j pos'] pos) (eU dNotN ma) := (pt_cmp (pc_notN ha) rfl).wk fun σ H Q h => by
  show tNotN (tW X.K X.mg W ma) σ H fun x H1 => ∃ c, x = .bl c ∧ Q c H1
  refine t_un (k := false) (K := X.K) (mg := X.mg) (Q := fun x H1 => ∃ c, x = V.bl c ∧ Q c H1) (f := dNotN) (t := fun x H1 Q => Q (.bl (!decide (x = .non))) H1) (fun d c z => by cases (show R.ok _ = R.er c from z)) (fun H0 H x dx d s vx e Q kq => by cases e; rw [vx.isN]; exact kq _ H0 H (Gr.refl s) (.bl _)) ?_
  obtain ⟨B, ρ, H0, r, o⟩ := h
  exact ⟨B, ρ, H0, r, o.imp (fun d ⟨b, e, k⟩ v H0' H' g rp => by subst e; cases rp; exact ⟨b, rfl, k H0' H' g⟩) fun _ k => k⟩
/-- and, or, not, if -/
def dNot : D → R D
  | .bool b => .ok (.bool (!b))
  | _ => .bad
def eAnd (ma mb : DE) : DE := fun ρ => (ma ρ).bind fun d => match d with
  | .bool true => mb ρ
  | .bool false => .ok (.bool false)
  | _ => .bad
def eOr (ma mb : DE) : DE := fun ρ => (ma ρ).bind fun d => match d with
  | .bool true => .ok (.bool true)
  | .bool false => mb ρ
  | _ => .bad
def eIf (mc ma mb : DE) : DE := fun ρ => (mc ρ).bind fun d => match d with
  | .bool true => ma ρ
  | .bool false => mb ρ
  | _ => .bad
theorem td_not (ha : PTd X W a ma) : PTd X W (.UnaryOp .Not a pos) (eU dNot ma) := (pt_not ha).wk fun σ H Q ⟨B, ρ, H0, r, o⟩ => by
  refine ⟨B, ρ, H0, r, ?_⟩
  unfold eU at o
  cases h : ma ρ with
  | bad => rw [h] at o; exact o
  | er c => rw [h] at o; exact o
  | ok d =>
    rw [h, R.bind_ok] at o
    unfold dNot at o
    split at o
    · obtain ⟨b, e, k⟩ := o
      cases e
      exact ⟨_, rfl, k⟩
    · exact o.elim
abbrev PWd (X : Cx) (W : WX) (e : Expr) (m : DE) : Prop := PW X e (tT X.K X.mg W m)
theorem _root_.L2.PW.wk {X : Cx} {e : Expr} {t t' : TT} (h : PW X e t) (k : ∀ σ H Q, t' σ H Q → t σ H Q) : PW X e t' := ⟨fun wh pins s σ H Q I q => h.run wh pins s σ H Q I (k σ H Q q)⟩
theorem t_and {σ : L2.St} {H : Hp} {Q : Bool → Hp → Prop} {K : Fr} {mg : Str → Option Value} (h : tT K mg W (eAnd ma mb) σ H Q) : tAnd (tT K mg W ma) (tT K mg W mb) σ H Q := by
  obtain ⟨B, ρ, H0, r, o⟩ := h
  refine ⟨B, ρ, H0, r, ?_⟩
  unfold eAnd at o
  cases ha : ma ρ with
  | bad => rw [ha] at o; exact o
  | er c => rw [ha] at o; exact o
  | ok d =>
    rw [ha, R.bind_ok] at o
    split at o
    · refine ⟨true, rfl, fun H1 H2 g => ?_⟩
      refine iteT ?_
      exact ⟨B, ρ, H1, r.grow g, o.imp (fun d ⟨b, e, k⟩ => ⟨b, e, fun H3 H4 g2 => k H3 H4 (g.trans g2)⟩) fun c k H' e => k H' (g.e.trans e)⟩
    · obtain ⟨b, e, k⟩ := o
      cases e
      refine ⟨false, rfl, fun H1 H2 g => ?_⟩
      refine iteF ?_
      exact k H1 H2 g
    · exact o.elim
theorem t_or {σ : L2.St} {H : Hp} {Q : Bool → Hp → Prop} {K : Fr} {mg : Str → Option Value} (h : tT K mg W (eOr ma mb) σ H Q) : tOr (tT K mg W ma) (tT K mg W mb) σ H Q := by
  obtain ⟨B, ρ, H0, r, o⟩ := h
  refine ⟨B, ρ, H0, r, ?_⟩
  unfold eOr at o
  cases ha : ma ρ with
  | bad => rw [ha] at o; exact o
  | er c => rw [ha] at o; exact o
  | ok d =>
    rw [ha, R.bind_ok] at o
    split at o
    · obtain ⟨b, e, k⟩ := o
      cases e
      refine ⟨true, rfl, fun H1 H2 g => ?_⟩
      refine iteT ?_
      exact k H1 H2 g
    · refine ⟨false, rfl, fun H1 H2 g => ?_⟩
      refine iteF ?_
      exact ⟨B, ρ, H1, r.grow g, o.imp (fun d ⟨b, e, k⟩ => ⟨b, e, fun H3 H4 g2 => k H3 H4 (g.trans g2)⟩) fun c k H' e => k H' (g.e.trans e)⟩
    · exact o.elim
theorem wd_and1 (ha : PTd X W a ma) : PWd X W (.BoolOp .And [a] pos) ma := pw_and1 ha
theorem wd_or1 (ha : PTd X W a ma) : PWd X W (.BoolOp .Or [a] pos) ma := pw_or1 ha
theorem wd_and (ha : PTd X W a ma) (hb : PWd X W (.BoolOp .And (b :: es) pos) mb) : PWd X W (.BoolOp .And (a :: b :: es) pos) (eAnd ma mb) := (pw_and ha hb).wk fun _ _ _ h => t_and h
theorem wd_or (ha : PTd X W a ma) (hb : PWd X W (.BoolOp .Or (b :: es) pos) mb) : PWd X W (.BoolOp .Or (a :: b :: es) pos) (eOr ma mb) := (pw_or ha hb).wk fun _ _ _ h => t_or h
/-- as values -/
theorem pd_not (ha : PD X W a ma) : PD X W (.UnaryOp .Not a pos) (eU dNot ma) := (pe_not (db ha)).wk fun σ H Q h =>
  t_un (t := fun x H1 Q => ∃ c, x = .bl c ∧ Q (.bl (!c)) H1) (fun d c z => by unfold dNot at z; split at z <;> cases z) (fun H0 H x dx d s vx e Q kq => by
    unfold dNot at e
    split at e
    · cases e; exact ⟨_, vx.bl, kq _ H0 H (Gr.refl s) (.bl _)⟩
    · cases e) h
theorem pd_one {op : BoolOp} (h : PD X W a ma) : PD X W (.BoolOp op [a] pos) ma := pe_one h
theorem pd_and (ha : PD X W a ma) (hb : PD X W (.BoolOp .And (b :: es) pos) mb) : PD X W (.BoolOp .And (a :: b :: es) pos) (eAnd ma mb) := (pe_and ha hb).wk fun σ H Q ⟨B, ρ, H0, r, o⟩ => by
  refine ⟨B, ρ, H0, r, ?_⟩
  unfold eAnd at o
  cases h : ma ρ with
  | bad => rw [h] at o; exact o
  | er c => rw [h] at o; exact o
  | ok d =>
    rw [h, R.bind_ok] at o
    intro v H1 H2 g rp
    split at o
    · cases rp
      refine ⟨true, rfl, ?_⟩
      refine iteT ?_
      exact ⟨B, ρ, H1, r.grow g, o.imp (fun d k => Kq.grow (k := false) k g) fun c k H' e => k H' (g.e.trans e)⟩
    · cases rp
      refine ⟨false, rfl, ?_⟩
      refine iteF ?_
      exact o _ H1 H2 g (.bl _)
    · exact o.elim
theorem pd_or (ha : PD X W a ma) (hb : PD X W (.BoolOp .Or (b :: es) pos) mb) : PD X W (.BoolOp .Or (a :: b :: es) pos) (eOr ma mb) := (pe_or ha hb).wk fun σ H Q ⟨B, ρ, H0, r, o⟩ => by
  refine ⟨B, ρ, H0, r, ?_⟩
  unfold eOr at o
  cases h : ma ρ with
  | bad => rw [h] at o; exact o
  | er c => rw [h] at o; exact o
  | ok d =>
    rw [h, R.bind_ok] at o
    intro v H1 H2 g rp
    split at o
    · cases rp
      refine ⟨true, rfl, ?_⟩
      refine iteT ?_
      exact o _ H1 H2 g (.bl _)
    · cases rp
      refine ⟨false, rfl, ?_⟩
      refine iteF ?_
      exact ⟨B, ρ, H1, r.grow g, o.imp (fun d k => Kq.grow (k := false) k g) fun c k H' e => k H' (g.e.trans e)⟩
    · exact o.elim
theorem pd_if {k : Bool} (hc : PTd X W c mc) (ha : PE X a (tE k X.K X.mg W ma)) (hb : PE X b (tE k X.K X.mg W mb)) : PE X (.IfExp c a b pos) (tE k X.K X.mg W (eIf mc ma mb)) := (pe_ifExp hc ha hb).wk fun σ H Q ⟨B, ρ, H0, r, o⟩ => by
  refine ⟨B, ρ, H0, r, ?_⟩
  unfold eIf at o
  cases h : mc ρ with
  | bad => rw [h] at o; exact o
  | er c => rw [h] at o; exact o
  | ok d =>
    rw [h, R.bind_ok] at o
    split at o
    · refine ⟨true, rfl, fun H1 H2 g => ?_⟩
      refine iteT ?_
      exact ⟨B, ρ, H1, r.grow g, o.imp (fun d k => Kq.grow k g) fun c k H' e => k H' (g.e.trans e)⟩
    · refine ⟨false, rfl, fun H1 H2 g => ?_⟩
      refine iteF ?_
      exact ⟨B, ρ, H1, r.grow g, o.imp (fun d k => Kq.grow k g) fun c k H' e => k H' (g.e.trans e)⟩
    · exact o.elim
/-- a < b <= c -/
def eChain (f g : D → D → R D) (ma mb mc : DE) : DE := fun ρ => (ma ρ).bind fun x => (mb ρ).bind fun y => (f x y).bind fun d => match d with
  | .bool true => (mc ρ).bind fun z => g y z
  | .bool false => .ok (.bool false)
  | _ => .bad
theorem t_chain {K : Fr} {mg : Str → Option Value} {f g : D → D → R D} {r r' : R2} (cm : Calm2 f) (cm' : Calm2 g)
    (hr : ∀ H0 H x y dx dy d, Ex H0 H → Vx K H0 H x dx → Vx K H0 H y dy → f dx dy = .ok d → ∀ Q, Kq false K H0 H d Q → r x y H Q)
    (hr' : ∀ H0 H x y dx dy d, Ex H0 H → Vx K H0 H x dx → Vx K H0 H y dy → g dx dy = .ok d → ∀ Q, Kq false K H0 H d Q → r' x y H Q) {σ : L2.St} {H : Hp} {Q : VK}
    (h : tE false K mg W (eChain f g ma mb mc) σ H Q) : tChain r r' (tW K mg W ma) (tW K mg W mb) (tW K mg W mc) σ H Q := by
  obtain ⟨B, ρ, H0, rl, o⟩ := h
  refine ⟨B, ρ, H0, rl, ?_⟩
  unfold eChain at o
  cases ha : ma ρ with
  | bad => rw [ha] at o; exact o
  | er c => rw [ha] at o; exact o
  | ok da =>
    rw [ha] at o
    intro x H1 H2 g1 vx
    have rl2 := rl.grow g1
    refine ⟨B, ρ, H1, rl2, ?_⟩
    cases hb : mb ρ with
    | bad => rw [R.bind_ok, hb] at o; exact o
    | er c => rw [R.bind_ok, hb] at o; exact fun H' e => o H' (g1.e.trans e)
    | ok db =>
      rw [R.bind_ok, hb, R.bind_ok] at o
      intro y H3 H4 g2 vy
      have rl3 := rl2.grow g2
      cases hc : f da db with
      | bad => rw [hc] at o; exact o.elim
      | er c => exact absurd hc (cm _ _ _)
      | ok d =>
        rw [hc, R.bind_ok] at o
        refine hr H3 H4 x y da db d rl3.s (Vw.vx rl3 (vx.mono g2.e0)) (Vw.vx rl3 vy) hc _ fun v H5 H6 g3 rp => ?_
        have rl4 := rl3.grow g3
        split at o
        · cases rp
          refine ⟨true, rfl, ?_⟩
          refine iteT ?_
          refine ⟨B, ρ, H5, rl4, ?_⟩
          cases hd : mc ρ with
          | bad => rw [hd] at o; exact o
          | er c => rw [hd] at o; exact fun H' e => o H' (((g1.trans g2).trans g3).e.trans e)
          | ok dc =>
            rw [hd, R.bind_ok] at o
            intro z H7 H8 g4 vz
            have rl5 := rl4.grow g4
            cases he : g db dc with
            | bad => rw [he] at o; exact o.elim
            | er c => exact absurd he (cm' _ _ _)
            | ok d =>
              rw [he] at o
              exact hr' H7 H8 y z db dc d rl5.s (Vw.vx rl5 (vy.mono (g3.trans g4).e0)) (Vw.vx rl5 vz) he Q (Kq.grow (k := false) o (((g1.trans g2).trans g3).trans g4))
        · cases rp
          refine ⟨false, rfl, ?_⟩
          refine iteF ?_
          exact o _ H5 H6 ((g1.trans g2).trans g3) (.bl _)
        · exact o.elim
theorem pd_chain {op op' : CmpOp} {f g : D → D → R D} (ho : OpD false X (compareOp op) f) (ho' : OpD false X (compareOp op') g) (cm : Calm2 f) (cm' : Calm2 g) (ha : PB X W a ma) (hb : PB X W b mb) (hc : PB X W c mc)
    (hm : lastMarks [op, op'] [b, c] = false := by with_unfolding_all rfl) : PD X W (.Compare a [op, op'] [b, c] pos) (eChain f g ma mb mc) := by
  obtain ⟨r, h1, h2⟩ := ho
  obtain ⟨r', h1', h2'⟩ := ho'
  exact (pe_chain h1 h1' ha hb hc hm).wk fun σ H Q h => t_chain cm cm' h2 h2' h
theorem td_chain {op op' : CmpOp} {f g : D → D → R D} (ho : OpD false X (compareOp op) f) (ho' : OpD false X (compareOp op') g) (cm : Calm2 f) (cm' : Calm2 g) (ha : PB X W a ma) (hb : PB X W b mb) (hc : PB X W c mc)
    (hm : lastMarks [op, op'] [b, c] = false := by with_unfolding_all rfl) : PTd X W (.Compare a [op, op'] [b, c] pos) (eChain f g ma mb mc) := by
  obtain ⟨r, h1, h2⟩ := ho
  obtain ⟨r', h1', h2'⟩ := ho'
  refine (pt_chain h1 h1' ha hb hc hm).wk fun σ H Q h => ?_
  show tChain r r' _ _ _ σ H fun x H1 => ∃ k, x = .bl k ∧ Q k H1
  refine t_chain cm cm' h2 h2' ?_
  obtain ⟨B, ρ, H0, r, o⟩ := h
  exact ⟨B, ρ, H0, r, o.imp (fun d ⟨b, e, k⟩ v H0' H' g rp => by subst e; cases rp; exact ⟨b, rfl, k H0' H' g⟩) fun _ k => k⟩
/-! ### arguments, displays -/
abbrev DA := En → R (List D)
def tAf (K : Fr) (mg : Str → Option Value) (W : WX) (m : DA) : TA := fun σ H Q => ∃ B ρ H0, Rl K B ρ σ H0 H ∧
  Out (m ρ) (fun ds => ∀ vs H0' H', Gr H0 H H0' H' → RpA K H0' vs ds → Q vs H') (fun c => ∀ H', Ex H H' → WC mg W c σ H')
inductive VwA (K : Fr) (ρ : En) (σ : L2.St) (H0 : Hp) : List V → List D → Prop
  | nil : VwA K ρ σ H0 [] []
  | cons {v : V} {vs : List V} {d : D} {ds : List D} : Vw K ρ σ H0 v d → VwA K ρ σ H0 vs ds → VwA K ρ σ H0 (v :: vs) (d :: ds)
inductive VxA (K : Fr) (H0 H : Hp) : List V → List D → Prop
  | nil : VxA K H0 H [] []
  | cons {v : V} {vs : List V} {d : D} {ds : List D} : Vx K H0 H v d → VxA K H0 H vs ds → VxA K H0 H (v :: vs) (d :: ds)
theorem VwA.mono {K : Fr} {ρ : En} {σ : L2.St} {H0 H1 : Hp} (e : Ex H0 H1) : ∀ {vs : List V} {ds : List D}, VwA K ρ σ H0 vs ds → VwA K ρ σ H1 vs ds
  | _, _, .nil => .nil
  | _, _, .cons h r => .cons (h.mono e) (VwA.mono e r)
theorem VwA.vx {K : Fr} {B : Bs} {ρ : En} {σ : L2.St} {H0 H : Hp} (rl : Rl K B ρ σ H0 H) : ∀ {vs : List V} {ds : List D}, VwA K ρ σ H0 vs ds → VxA K H0 H vs ds
  | _, _, .nil => .nil
  | _, _, .cons h r => .cons (Vw.vx rl h) (VwA.vx rl r)
def tAw (K : Fr) (mg : Str → Option Value) (W : WX) (m : DA) : TA := fun σ H Q => ∃ B ρ H0, Rl K B ρ σ H0 H ∧
  Out (m ρ) (fun ds => ∀ vs H0' H', Gr H0 H H0' H' → VwA K ρ σ H0' vs ds → Q vs H') (fun c => ∀ H', Ex H H' → WC mg W c σ H')
abbrev PAf (X : Cx) (W : WX) (es : List Expr) (m : DA) : Prop := PA X es (tAf X.K X.mg W m)
abbrev PAw (X : Cx) (W : WX) (es : List Expr) (m : DA) : Prop := PA X es (tAw X.K X.mg W m)
def aNil : DA := fun _ => .ok []
def aCons (ma : DE) (mr : DA) : DA := fun ρ => (ma ρ).bind fun d => (mr ρ).bind fun ds => .ok (d :: ds)
theorem af_nil : PAf X W [] aNil := pa_nil.wk fun σ H Q ⟨B, ρ, H0, r, o⟩ => o [] H0 H (Gr.refl r.s) .nil
theorem aw_nil : PAw X W [] aNil := pa_nil.wk fun σ H Q ⟨B, ρ, H0, r, o⟩ => o [] H0 H (Gr.refl r.s) .nil
theorem af_cons {mr : DA} (ha : PD X W e ma) (hr : PAf X W es mr) (hs : starEach (e :: es) X.env = (false, eval e X.env) :: starEach es X.env := by rfl) : PAf X W (e :: es) (aCons ma mr) := (pa_cons ha hr hs).wk fun σ H Q ⟨B, ρ, H0, r, o⟩ => by
  refine ⟨B, ρ, H0, r, ?_⟩
  unfold aCons at o
  cases h : ma ρ with
  | bad => rw [h] at o; exact o
  | er c => rw [h] at o; exact o
  | ok d =>
    rw [h, R.bind_ok] at o
    intro v H1 H2 g rp
    refine ⟨B, ρ, H1, r.grow g, ?_⟩
    cases h2 : mr ρ with
    | bad => rw [h2] at o; exact o
    | er c => rw [h2] at o; exact fun H' e => o H' (g.e.trans e)
    | ok ds =>
      rw [h2, R.bind_ok] at o
      exact fun vs H3 H4 g2 rs => o (v :: vs) H3 H4 (g.trans g2) (.cons (rp.mono g2.e0) rs)
theorem aw_cons {mr : DA} (ha : PB X W e ma) (hr : PAw X W es mr) (hs : starEach (e :: es) X.env = (false, eval e X.env) :: starEach es X.env := by rfl) : PAw X W (e :: es) (aCons ma mr) := (pa_cons ha hr hs).wk fun σ H Q ⟨B, ρ, H0, r, o⟩ => by
  refine ⟨B, ρ, H0, r, ?_⟩
  unfold aCons at o
  cases h : ma ρ with
  | bad => rw [h] at o; exact o
  | er c => rw [h] at o; exact o
  | ok d =>
    rw [h, R.bind_ok] at o
    intro v H1 H2 g rp
    refine ⟨B, ρ, H1, r.grow g, ?_⟩
    cases h2 : mr ρ with
    | bad => rw [h2] at o; exact o
    | er c => rw [h2] at o; exact fun H' e => o H' (g.e.trans e)
    | ok ds =>
      rw [h2, R.bind_ok] at o
      exact fun vs H3 H4 g2 rs => o (v :: vs) H3 H4 (g.trans g2) (.cons (rp.mono g2.e0) rs)
def eTup (ms : DA) : DE := fun ρ => (ms ρ).bind fun ds => if szB ds.length = true then .ok (.tuple ds) else .bad
def eLst (ms : DA) : DE := fun ρ => (ms ρ).bind fun ds => if szB ds.length = true then .ok (.list ds) else .bad
theorem pd_tup {ms : DA} {j : Nat} (h : PAf X W es ms) : PD X W (.Tuple es j pos) (eTup ms) := (pe_tup h).wk fun σ H Q ⟨B, ρ, H0, r, o⟩ => by
  refine ⟨B, ρ, H0, r, ?_⟩
  unfold eTup at o
  cases h : ms ρ with
  | bad => rw [h] at o; exact o
  | er c => rw [h] at o; exact o
  | ok ds =>
    rw [h, R.bind_ok] at o
    intro vs H1 H2 g rs
    split at o
    · rename_i hz
      exact ⟨szB_ok (by rw [rs.length]; exact hz), fun p hp => (Kq.grow (k := false) o g).newT g.s rs hp⟩
    · exact o.elim
theorem pf_lst {ms : DA} (h : PAf X W es ms) : PF X W (.List es pos) (eLst ms) := (pe_lst h).wk fun σ H Q ⟨B, ρ, H0, r, o⟩ => by
  refine ⟨B, ρ, H0, r, ?_⟩
  unfold eLst at o
  cases h : ms ρ with
  | bad => rw [h] at o; exact o
  | er c => rw [h] at o; exact o
  | ok ds =>
    rw [h, R.bind_ok] at o
    intro vs H1 H2 g rs
    split at o
    · rename_i hz
      exact ⟨szB_ok (by rw [rs.length]; exact hz), fun p hp => (Kq.grow (k := true) o g).newL g.s rs hp⟩
    · exact o.elim
/-! ### calls of built-ins -/
def CalD (k : Bool) (X : Cx) (f : Value) (op : List D → R D) : Prop := ∃ r : List V → Hp → VK → Prop, CallR X f r ∧ ∀ H0 H xs ds d, Ex H0 H → VxA X.K H0 H xs ds → op ds = .ok d → ∀ Q, Kq k X.K H0 H d Q → r xs H Q
def Calm1 (op : List D → R D) : Prop := ∀ ds c, op ds ≠ .er c
def eCall (op : List D → R D) (ms : DA) : DE := fun ρ => (ms ρ).bind op
theorem t_call {k : Bool} {K : Fr} {mg : Str → Option Value} {op : List D → R D} {ms : DA} {r : List V → Hp → VK → Prop} (cm : Calm1 op)
    (hr : ∀ H0 H xs ds d, Ex H0 H → VxA K H0 H xs ds → op ds = .ok d → ∀ Q, Kq k K H0 H d Q → r xs H Q) {σ : L2.St} {H : Hp} {Q : VK} (h : tE k K mg W (eCall op ms) σ H Q) : tAw K mg W ms σ H fun xs H1 => r xs H1 Q := by
  obtain ⟨B, ρ, H0, rl, o⟩ := h
  refine ⟨B, ρ, H0, rl, ?_⟩
  unfold eCall at o
  cases ha : ms ρ with
  | bad => rw [ha] at o; exact o
  | er c => rw [ha] at o; exact o
  | ok ds =>
    rw [ha, R.bind_ok] at o
    intro xs H1 H2 g1 vx
    have rl2 := rl.grow g1
    cases hc : op ds with
    | bad => rw [hc] at o; exact o.elim
    | er c => exact absurd hc (cm _ _)
    | ok d =>
      rw [hc] at o
      exact hr H1 H2 xs ds d rl2.s (VwA.vx rl2 vx) hc Q (Kq.grow o g1)
theorem pd_callB {k : Bool} {x : Str} {p : Pos} {id : String} {op : List D → R D} {ms : DA} (hc : CalD k X (.builtin id) op) (cm : Calm1 op) (hg : Gl X x) (hm : X.mg x = none) (hv : bootBuiltins x = some (.builtin id)) (ha : PAw X W (e :: es) ms) (hn : x ≠ "__name__" := by decide) (hdb : (x == ("__debug__" : Str)) = false := by decide)
    (he : starEach (e :: es) X.env = (false, eval e X.env) :: starEach es X.env := by rfl) (hpl : (backTo pos (starEach es X.env)).any (·.1) = false := by rfl) : PE X (.Call (.Name x p) (e :: es) [] pos) (tE k X.K X.mg W (eCall op ms)) := by
  obtain ⟨r, h1, h2⟩ := hc
  exact (pe_callB h1 hg hm hv ha hn hdb he hpl).wk fun σ H Q h => t_call cm h2 h
theorem pd_callTy {k : Bool} {x : Str} {p : Pos} {T : String} {op : List D → R D} {ms : DA} (hc : CalD k X (.type T) op) (cm : Calm1 op) (hg : Gl X x) (hm : X.mg x = none) (hv : bootBuiltins x = some (.type T)) (ha : PAw X W (e :: es) ms) (hn : x ≠ "__name__" := by decide) (hdb : (x == ("__debug__" : Str)) = false := by decide)
    (he : starEach (e :: es) X.env = (false, eval e X.env) :: starEach es X.env := by rfl) (hpl : (backTo pos (starEach es X.env)).any (·.1) = false := by rfl) : PE X (.Call (.Name x p) (e :: es) [] pos) (tE k X.K X.mg W (eCall op ms)) := by
  obtain ⟨r, h1, h2⟩ := hc
  exact (pe_callTy h1 hg hm hv ha hn hdb he hpl).wk fun σ H Q h => t_call cm h2 h
end
end Fc
set_option Elab.async false
set_option linter.all false
set_option maxRecDepth 100000
set_option maxHeartbeats 2000000
namespace Fc
open PySem L2 Evl PySem.Spec PyProof.Rows
/-! ### statements: results -/
inductive RS where
  | nx (ρ : En) | rt (d : D) | bk (ρ : En) | ct (ρ : En) | er (c : Str) (ρ : En) | bad
abbrev DS := En → RS
def EndS (K : Fr) (mg : Str → Option Value) (W : WX) (B : Bs) (E : Ends) : RS → Prop
  | .nx ρ => ∀ σ H0 H, Rl K B ρ σ H0 H → E.nx σ H
  | .bk ρ => ∀ σ H0 H, Rl K B ρ σ H0 H → E.bk σ H
  | .ct ρ => ∀ σ H0 H, Rl K B ρ σ H0 H → E.ct σ H
  | .rt d => ∀ v H0 H, Gr B.1 B.2 H0 H → Rp K H0 v d → E.rt v H
  | .er c ρ => ∀ σ H0 H, Rl K B ρ σ H0 H → WC mg W c σ H
  | .bad => False
def tS (K : Fr) (mg : Str → Option Value) (W : WX) (M : DS) : TS := fun E σ H => ∃ B ρ H0, Rl K B ρ σ H0 H ∧ EndS K mg W B E (M ρ)
abbrev SD (X : Cx) (W : WX) (st : Stmt) (M : DS) : Prop := PS X st (tS X.K X.mg W M)
abbrev SsD (X : Cx) (W : WX) (st : List Stmt) (M : DS) : Prop := PSs X st (tS X.K X.mg W M)
theorem _root_.L2.PS.wk {X : Cx} {st : Stmt} {t t' : TS} (h : PS X st t) (k : ∀ E σ H, t' E σ H → t E σ H) : PS X st t' := ⟨fun pins s σ H E I q => h.run pins s σ H E I (k E σ H q)⟩
theorem _root_.L2.PSs.wk {X : Cx} {st : List Stmt} {t t' : TS} (h : PSs X st t) (k : ∀ E σ H, t' E σ H → t E σ H) : PSs X st t' := ⟨fun pins s σ H E I q => h.run pins s σ H E I (k E σ H q)⟩
section
variable {X : Cx} {W : WX} {e a b c o tg it : Expr} {es : List Expr} {m ma mb mc : DE} {pos : Pos} {st : Stmt} {rest body els : List Stmt} {M N : DS}
variable {K : Fr} {mg : Str → Option Value} {B : Bs} {ρ : En} {σ : L2.St} {H0 H : Hp} {E : Ends}
def sNext : DS := fun ρ => .nx ρ
def sSeq (M N : DS) : DS := fun ρ => match M ρ with
  | .nx ρ' => N ρ'
  | r => r
theorem sd_nil : SsD X W [] sNext := pss_nil.wk fun E σ H ⟨B, ρ, H0, r, o⟩ => o σ H0 H r
theorem ends_seq {r : RS} (h : EndS K mg W B E (match r with | .nx ρ' => N ρ' | r => r)) : EndS K mg W B { E with nx := tS K mg W N E } r := by
  cases r with
  | nx ρ => exact fun σ H0 H rl => ⟨B, ρ, H0, rl, h⟩
  | _ => exact h
theorem sd_cons (h1 : SD X W st M) (h2 : SsD X W rest N) : SsD X W (st :: rest) (sSeq M N) := (pss_cons h1 h2).wk fun E σ H ⟨B, ρ, H0, r, o⟩ => ⟨B, ρ, H0, r, ends_seq o⟩
theorem sd_one (h1 : SD X W st M) : SsD X W [st] M := pss_one h1
theorem sd_pass : SD X W (.Pass pos) sNext := ps_pass.wk fun E σ H ⟨B, ρ, H0, r, o⟩ => o σ H0 H r
theorem sd_brk : SD X W (.Break pos) (fun ρ => .bk ρ) := ps_break.wk fun E σ H ⟨B, ρ, H0, r, o⟩ => o σ H0 H r
theorem sd_cnt : SD X W (.Continue pos) (fun ρ => .ct ρ) := ps_continue.wk fun E σ H ⟨B, ρ, H0, r, o⟩ => o σ H0 H r
theorem sd_doc {x : Str} {j : Nat} {pos' : Pos} : SD X W (.Expr (.Constant (.str x) j pos) pos') sNext := ps_doc.wk fun E σ H ⟨B, ρ, H0, r, o⟩ => o σ H0 H r
/-- an expression, then what is made of its value -/
def sE (m : DE) (k : D → DS) : DS := fun ρ => match m ρ with
  | .ok d => k d ρ
  | .er c => .er c ρ
  | .bad => .bad
theorem ends_er {c : Str} {ρ : En} (r : Rl K B ρ σ H0 H) (h : EndS K mg W B E (.er c ρ)) : ∀ H', Ex H H' → WC mg W c σ H' := fun H' e => h σ H0 H' (r.grow (Gr.side r.s e))
theorem t_sE {k : D → DS} {kd : Bool} {Q : VK} (h : tS K mg W (sE m k) E σ H) (hq : ∀ B ρ H0 H d, Rl K B ρ σ H0 H → EndS K mg W B E (k d ρ) → Kq kd K H0 H d Q) : tE kd K mg W m σ H Q := by
  obtain ⟨B, ρ, H0, r, o⟩ := h
  refine ⟨B, ρ, H0, r, ?_⟩
  unfold sE at o
  cases h : m ρ with
  | bad => rw [h] at o; exact o
  | er c => rw [h] at o; exact ends_er r o
  | ok d => rw [h] at o; exact hq B ρ H0 H d r o
def sRet (m : DE) : DS := sE m fun d _ => .rt d
theorem sd_ret (h : PD X W e m) : SD X W (.Return (some e) pos) (sRet m) := (ps_ret h).wk fun E σ H q => t_sE (kd := false) q fun B ρ H0 H d r k v H0' H' g rp => k v H0' H' (r.gr.trans g) rp
theorem sd_retN : SD X W (.Return none pos) (fun _ => .rt .none) := ps_retN.wk fun E σ H ⟨B, ρ, H0, r, o⟩ => o .non H0 H r.gr .non
def sDrop (m : DE) : DS := sE m fun _ ρ => .nx ρ
theorem sd_drop (h : PD X W e m) (hs : swapsWith e none pos.line X.env = pure false := by rfl) : SD X W (.Expr e pos) (sDrop m) := (ps_expr h hs).wk fun E σ H q =>
  t_sE (kd := false) q fun B ρ H0 H d r k v H0' H' g rp => k σ H0' H' (r.grow g)
def sAsg (i : Nat) (m : DE) : DS := sE m fun d ρ => .nx (ρ.set i (.fz d))
def sOwn (i : Nat) (m : DE) : DS := sE m fun d ρ => .nx (ρ.set i (.ow d))
theorem sd_set {i : Nat} {x : Str} {pos' : Pos} (hN : X.N.Nodup) (hi : X.N[i]? = some x) (hx : Loc X.env.scope x) (he : PD X W e m) (hs : swapsWith e (some (.Name x pos')) pos.line X.env = pure false := by rfl)
    (hf : X.fn x = true ∨ X.env.scope.names.lookup x = some .local := by first | exact .inl rfl | exact .inr rfl | assumption) : SD X W (.Assign [.Name x pos'] e pos) (sAsg i m) := (ps_set hN hi hx he hs hf).wk fun E σ H q =>
  t_sE (kd := false) q fun B ρ H0 H d r k v H0' H' g rp => k _ H0' H' ((r.grow g).setF rp)
theorem own_new {B : Bs} {p : Addr} {H0' H' : Hp} {ob : HO} (r : Rl K B ρ σ H0 H) (g : Gr H0 H H0' H') (hn : H p = none) (hp : H' p = some ob) (h0 : H0' p = none) {d : D} (ho : OwnO K H0' ob d) (i : Nat) : Rl K B (ρ.set i (.ow d)) (σ.set i (some (.ref p))) H0' H' :=
  (r.grow g).setO (fresh_back r.gr.e hn) h0 hp ho fun j e hj hs => by
    obtain ⟨q, o, q1, q2, q3, q4, q5⟩ := r.ow j e hj
    rw [hs] at q1
    simp at q1
    subst q1
    rw [hn] at q4
    cases q4
theorem sd_own {i : Nat} {x : Str} {pos' : Pos} (hN : X.N.Nodup) (hi : X.N[i]? = some x) (hx : Loc X.env.scope x) (he : PF X W e m) (hs : swapsWith e (some (.Name x pos')) pos.line X.env = pure false := by rfl)
    (hf : X.fn x = true ∨ X.env.scope.names.lookup x = some .local := by first | exact .inl rfl | exact .inr rfl | assumption) : SD X W (.Assign [.Name x pos'] e pos) (sOwn i m) := (ps_set hN hi hx he hs hf).wk fun E σ H q =>
  t_sE (kd := true) q fun B ρ H0 H d r k p ob H0' H' g hp hn h0 ho => k _ H0' H' (own_new r g hn hp h0 ho i)
def sIf (mc : DE) (M N : DS) : DS := sE mc fun d => match d with
  | .bool true => M
  | .bool false => N
  | _ => fun _ => .bad
theorem sd_if {c : Expr} {a b : List Stmt} (hc : PTd X W c mc) (ha : SsD X W a M) (hb : SsD X W b N) : SD X W (.If c a b pos) (sIf mc M N) := (ps_if hc ha hb).wk fun E σ H ⟨B, ρ, H0, r, o⟩ => by
  refine ⟨B, ρ, H0, r, ?_⟩
  unfold sIf sE at o
  cases h : mc ρ with
  | bad => rw [h] at o; exact o
  | er c => rw [h] at o; exact ends_er r o
  | ok d =>
    rw [h] at o
    simp only at o
    split at o
    · exact ⟨true, rfl, fun H0' H' g => iteT ⟨B, ρ, H0', r.grow g, o⟩⟩
    · exact ⟨false, rfl, fun H0' H' g => iteF ⟨B, ρ, H0', r.grow g, o⟩⟩
    · exact o.elim
/-- an owned slot is frozen from here on -/
def frz (i : Nat) (ρ : En) : En := match ρ[i]? with
  | some (.ow d) => ρ.set i (.fz d)
  | _ => ρ
theorem frzE (r : Rl K B ρ σ H0 H) (i : Nat) : ∃ H0', Rl K B (frz i ρ) σ H0' H := by
  unfold frz
  split
  · rename_i d h
    obtain ⟨p, o, _, _, _, r', _⟩ := r.frz h
    exact ⟨_, r'⟩
  · exact ⟨H0, r⟩
def sFrz (i : Nat) (M : DS) : DS := fun ρ => M (frz i ρ)
theorem sd_frz (i : Nat) (h : SD X W st M) : SD X W st (sFrz i M) := h.wk fun E σ H ⟨B, ρ, H0, r, o⟩ => by
  obtain ⟨H0', r'⟩ := frzE r i
  exact ⟨B, _, H0', r', o⟩
/-! ### targets -/
abbrev DG := D → En → Option En
abbrev DGs := List D → En → Option En
/-- the slots that are stored: is -/
def tG (K : Fr) (is : List Nat) (g : DG) : TG := fun v σ H Q => ∃ B ρ H0 d, Rl K B ρ σ H0 H ∧ Rp K H0 v d ∧ match g d ρ with
  | some ρ' => ∀ σ', Rl K B ρ' σ' H0 H → σ'.length = σ.length → (∀ j, j ∉ is → σ'[j]? = σ[j]?) → Q σ' H
  | none => False
def tGs (K : Fr) (is : List Nat) (g : DGs) : TGs := fun vs σ H Q => ∃ B ρ H0 ds, Rl K B ρ σ H0 H ∧ RpA K H0 vs ds ∧ match g ds ρ with
  | some ρ' => ∀ σ', Rl K B ρ' σ' H0 H → σ'.length = σ.length → (∀ j, j ∉ is → σ'[j]? = σ[j]?) → Q σ' H
  | none => False
abbrev GD (X : Cx) (tg : Expr) (is : List Nat) (g : DG) : Prop := PG X tg (tG X.K is g)
abbrev GsD (X : Cx) (tg : List Expr) (is : List Nat) (g : DGs) : Prop := PGs X tg (tGs X.K is g)
theorem _root_.L2.PG.wk {X : Cx} {tg : Expr} {t t' : TG} (h : PG X tg t) (k : ∀ v σ H Q, t' v σ H Q → t v σ H Q) : PG X tg t' := ⟨fun pins s σ H v u Q I r q => h.run pins s σ H v u Q I r (k v σ H Q q)⟩
theorem _root_.L2.PGs.wk {X : Cx} {tg : List Expr} {t t' : TGs} (h : PGs X tg t) (k : ∀ v σ H Q, t' v σ H Q → t v σ H Q) : PGs X tg t' := ⟨by
  intro pins s σ H vs us Q I r q
  exact h.run pins s σ H vs us Q I r (k vs σ H Q q)⟩
def gN (i : Nat) : DG := fun d ρ => some (ρ.set i (.fz d))
def gNilD : DGs := fun ds ρ => match ds with
  | [] => some ρ
  | _ => none
def gConsD (g : DG) (gs : DGs) : DGs := fun ds ρ => match ds with
  | d :: ds => (g d ρ).bind fun ρ' => gs ds ρ'
  | [] => none
def gTupD (n : Nat) (gs : DGs) : DG := fun d ρ => match d with
  | .tuple ds => if ds.length = n then gs ds ρ else none
  | _ => none
def gLstD (n : Nat) (gs : DGs) : DG := fun d ρ => match d with
  | .list ds => if ds.length = n then gs ds ρ else none
  | _ => none
theorem gd_name {i : Nat} {x : Str} (hN : X.N.Nodup) (hi : X.N[i]? = some x) (hx : Loc X.env.scope x) (hf : X.fn x = true ∨ X.env.scope.names.lookup x = some .local := by first | exact .inl rfl | exact .inr rfl | assumption) : GD X (.Name x pos) [i] (gN i) :=
  (pg_name hN hi hx hf).wk fun v σ H Q ⟨B, ρ, H0, d, r, rp, k⟩ => k _ (r.setF rp) (by simp) fun j hj => by
    rw [get_set, if_neg]
    exact fun z => hj (by simp [z])
theorem gds_nil : GsD X [] [] gNilD := pgs_nil.wk fun vs σ H Q ⟨B, ρ, H0, ds, r, rp, k⟩ => by
  unfold gNilD at k
  split at k
  · rename_i h
    split at h
    · cases h
      cases rp
      exact ⟨rfl, k _ r rfl fun _ _ => rfl⟩
    · cases h
  · exact k.elim
theorem gds_cons {g : DG} {gs : DGs} {i1 i2 : List Nat} (h1 : GD X e i1 g) (h2 : GsD X es i2 gs) (hs : ((assignEach (e :: es) X.env).map (·.2)) = assign e X.env :: (assignEach es X.env).map (·.2) := by rfl) : GsD X (e :: es) (i1 ++ i2) (gConsD g gs) := (pgs_cons h1 h2 hs).wk fun vs σ H Q ⟨B, ρ, H0, ds, r, rp, k⟩ => by
  unfold gConsD at k
  cases rp with
  | nil => exact k.elim
  | @cons v vs d ds h rs =>
    refine ⟨v, vs, rfl, ?_⟩
    simp only at k
    cases h1 : g d ρ with
    | none => rw [h1] at k; exact k.elim
    | some ρ1 =>
      rw [h1] at k
      refine ⟨B, ρ, H0, d, r, h, ?_⟩
      rw [h1]
      intro σ' r' l' n'
      refine ⟨B, ρ1, H0, ds, r', rs, ?_⟩
      replace k : match gs ds ρ1 with
        | some ρ' => ∀ σ', Rl X.K B ρ' σ' H0 H → σ'.length = σ.length → (∀ j, j ∉ i1 ++ i2 → σ'[j]? = σ[j]?) → Q σ' H
        | none => False := k
      cases h2 : gs ds ρ1 with
      | none => rw [h2] at k; exact k.elim
      | some ρ2 =>
        rw [h2] at k
        exact fun σ2 r2 l2 n2 => k σ2 r2 (l2.trans l') fun j hj => by
          simp only [List.mem_append, not_or] at hj
          exact (n2 j hj.2).trans (n' j hj.1)
theorem gd_tup {gs : DGs} {is : List Nat} {j n : Nat} (hc : X.calm = true) (h : GsD X es is gs) (hn : (assignEach es X.env).length = n := by rfl) (hst : (assignEach es X.env).findIdx? (·.1) = none := by rfl) : GD X (.Tuple es j pos) is (gTupD n gs) :=
  (pg_tup hc h hn hst).wk fun v σ H Q ⟨B, ρ, H0, d, r, rp, k⟩ => by
  unfold gTupD at k
  cases rp with
  | tup h rs =>
    simp only at k
    split at k
    · rename_i ρ' hg
      split at hg
      · rename_i hl
        refine ⟨_, _, rfl, SqT.of (r.s _ _ h), rs.length.trans hl, B, ρ, H0, _, r, rs, ?_⟩
        rw [hg]
        exact k
      · cases hg
    · exact k.elim
  | _ => exact k.elim
theorem gd_lst {gs : DGs} {is : List Nat} {j n : Nat} (hc : X.calm = true) (h : GsD X es is gs) (hn : (assignEach es X.env).length = n := by rfl) (hst : (assignEach es X.env).findIdx? (·.1) = none := by rfl) : GD X (.Tuple es j pos) is (gLstD n gs) :=
  (pg_lst hc h hn hst).wk fun v σ H Q ⟨B, ρ, H0, d, r, rp, k⟩ => by
  unfold gLstD at k
  cases rp with
  | lst h rs =>
    simp only at k
    split at k
    · rename_i ρ' hg
      split at hg
      · rename_i hl
        refine ⟨_, _, rfl, SqL.of (r.s _ _ h), rs.length.trans hl, B, ρ, H0, _, r, rs, ?_⟩
        rw [hg]
        exact k
      · cases hg
    · exact k.elim
  | _ => exact k.elim
def sAsgG (g : DG) (m : DE) : DS := sE m fun d ρ => match g d ρ with
  | some ρ' => .nx ρ'
  | none => .bad
theorem sd_asg {g : DG} {is : List Nat} (he : PD X W e m) (hg : GD X tg is g) (hs : swapsWithSole [tg] e pos.line X.env = pure false := by rfl) (hw : swappedStores [tg] e X.env = pure none := by rfl) (h1 : (assignEach [tg] X.env).map (·.2) = [assign tg X.env] := by rfl) : SD X W (.Assign [tg] e pos) (sAsgG g m) :=
  (ps_asg he hg hs hw h1).wk fun E σ H q => t_sE (kd := false) q fun B ρ H0 H d r k v H0' H' gr rp => by
    refine ⟨B, ρ, H0', d, r.grow gr, rp, ?_⟩
    cases h : g d ρ with
    | none => rw [h] at k; exact k.elim
    | some ρ' => rw [h] at k; exact fun σ' r' _ _ => k σ' H0' H' r'
/-- a, b = e1, e2 -/
def sPar (i j : Nat) (ma mb : DE) : DS := fun ρ => match (aCons ma (aCons mb aNil)) ρ with
  | .ok [x, y] => .nx ((ρ.set i (.fz x)).set j (.fz y))
  | .er c => .er c ρ
  | _ => .bad
/-! ### what is walked -/
def ItOk (K : Fr) (J : It) (H0 : Hp) (ds : List D) : Prop := ∀ i, (∀ H, Ex H0 H → ds.length ≤ i → J.stop i H) ∧
  ∀ H d, Ex H0 H → ds[i]? = some d → J.go i H ∧ ∀ x H', J.yld i H x H' → (H' = H ∧ Rp K H0 x d) ∨ (∃ p vs es, H p = none ∧ H' = upd H p (.tup vs) ∧ x = .ref p ∧ d = .tuple es ∧ RpA K H0 vs es) ∨ ∀ Hc, Ex H0 Hc → Ex Hc H → ∃ Hc', Gr Hc H Hc' H' ∧ Rp K Hc' x d
abbrev DI := En → R (List D)
def tIt (K : Fr) (mg : Str → Option Value) (W : WX) (m : DI) : TI := fun σ H Rc => ∃ B ρ H0, Rl K B ρ σ H0 H ∧ Out (m ρ) (fun ds => ∀ J H0' H', Gr H0 H H0' H' → ItOk K J H0' ds → Rc J H') (fun c => ∀ H', Ex H H' → WC mg W c σ H')
abbrev ID (X : Cx) (W : WX) (tg it : Expr) (m : DI) : Prop := PI X tg it (tIt X.K X.mg W m)
theorem _root_.L2.PI.wk {X : Cx} {tg it : Expr} {t t' : TI} (h : PI X tg it t) (k : ∀ σ H R, t' σ H R → t σ H R) : PI X tg it t' := ⟨fun pins s σ H R I q => h.run pins s σ H R I (k σ H R q)⟩
theorem _root_.L2.PI.or {X : Cx} {tg it : Expr} {t t' : TI} (h : PI X tg it t) (h' : PI X tg it t') : PI X tg it (fun σ H R => t σ H R ∨ t' σ H R) := ⟨fun pins s σ H R I q => by
  rcases q with q | q
  · exact h.run pins s σ H R I q
  · exact h'.run pins s σ H R I q⟩
def dSeq : D → R (List D)
  | .list ds => .ok ds
  | .tuple ds => .ok ds
  | .str x => .ok (x.cps.toList.map fun c => .str ⟨#[c]⟩)
  | _ => .bad
def iSeq (m : DE) : DI := fun ρ => (m ρ).bind dSeq
theorem itok_list {a : Addr} {xs : List V} {ds : List D} (h : H0 a = some (.lst xs)) (rs : RpA K H0 xs ds) : ItOk K (Itl K a) H0 ds := fun i => ⟨fun H e hi => ⟨xs, SqL.of (e _ _ h), by rw [rs.length]; exact hi⟩, fun H d e hd => by
  obtain ⟨v, h1, h2⟩ := rs.getD hd
  refine ⟨⟨xs, v, SqL.of (e _ _ h), h1⟩, fun x H' y => .inl ?_⟩
  obtain ⟨y1, y2⟩ := y
  refine ⟨y1, ?_⟩
  have := y2 xs (SqL.of (e _ _ h))
  rw [h1] at this
  cases this
  exact h2⟩
theorem itok_tup {a : Addr} {xs : List V} {ds : List D} (h : H0 a = some (.tup xs)) (rs : RpA K H0 xs ds) : ItOk K (Itt K a) H0 ds := fun i => ⟨fun H e hi => ⟨xs, SqT.of (e _ _ h), by rw [rs.length]; exact hi⟩, fun H d e hd => by
  obtain ⟨v, h1, h2⟩ := rs.getD hd
  refine ⟨⟨xs, v, SqT.of (e _ _ h), h1⟩, fun x H' y => .inl ?_⟩
  obtain ⟨y1, y2⟩ := y
  refine ⟨y1, ?_⟩
  have := y2 xs (SqT.of (e _ _ h))
  rw [h1] at this
  cases this
  exact h2⟩
theorem itok_str {x : Str} : ItOk K (Its x) H0 (x.cps.toList.map fun c => .str ⟨#[c]⟩) := fun i => ⟨fun H e hi => by
  show x.cps.size ≤ i
  simpa using hi, fun H d e hd => by
  rw [List.getElem?_map] at hd
  obtain ⟨c, h1, h2⟩ := Option.map_eq_some_iff.mp hd
  have hi : i < x.cps.size := by
    have := (List.getElem?_eq_some_iff.mp h1).1
    simpa using this
  refine ⟨hi, fun v H' y => .inl ?_⟩
  obtain ⟨y1, c', y2, y3⟩ := y
  refine ⟨y1, ?_⟩
  have : x.cps[i]? = some c := by rw [← h1]; simp
  rw [this] at y2
  cases y2
  rw [y3, ← h2]
  exact .str _⟩
theorem id_seq (h : PD X W e m) : ID X W tg e (iSeq m) := ((pi_list h).or ((pi_tup h).or (pi_str h))).wk fun σ H Rc ⟨B, ρ, H0, r, o⟩ => by
  unfold iSeq at o
  cases hm : m ρ with
  | bad => rw [hm] at o; exact o.elim
  | er c => rw [hm] at o; exact .inl ⟨B, ρ, H0, r, by rw [hm]; exact o⟩
  | ok d =>
    rw [hm, R.bind_ok] at o
    unfold dSeq at o
    split at o
    · refine .inl ⟨B, ρ, H0, r, ?_⟩
      rw [hm]
      intro v H1 H2 g rp
      cases rp with
      | lst h rs => exact ⟨_, rfl, ⟨_, SqL.of (g.s _ _ h)⟩, o _ H1 H2 g (itok_list h rs)⟩
    · refine .inr (.inl ⟨B, ρ, H0, r, ?_⟩)
      rw [hm]
      intro v H1 H2 g rp
      cases rp with
      | tup h rs => exact ⟨_, rfl, ⟨_, SqT.of (g.s _ _ h)⟩, o _ H1 H2 g (itok_tup h rs)⟩
    · refine .inr (.inr ⟨B, ρ, H0, r, ?_⟩)
      rw [hm]
      intro v H1 H2 g rp
      cases rp with
      | str x => exact ⟨_, rfl, o _ H1 H2 g itok_str⟩
    · exact o.elim
def rngD (lo : Int) (n : Nat) : List D := (List.range n).map fun i => .int (lo + (i : Nat))
theorem itok_rng {lo : Int} {n : Nat} : ItOk K (Itr lo n) H0 (rngD lo n) := fun i => ⟨fun H e hi => by unfold rngD at hi; rw [List.length_map, List.length_range] at hi; exact hi, fun H d e hd => by
  unfold rngD at hd
  rw [List.getElem?_map] at hd
  obtain ⟨j, h1, h2⟩ := Option.map_eq_some_iff.mp hd
  have hi : i < n := by
    have := (List.getElem?_eq_some_iff.mp h1).1
    rw [List.length_range] at this
    exact this
  rw [List.getElem?_range hi] at h1
  cases h1
  refine ⟨hi, fun x H' y => .inl ⟨y.1, ?_⟩⟩
  rw [y.2, ← h2]
  exact .int _⟩
def dRng1 : List D → R (List D)
  | [.int n] => if decide (-100000 ≤ n ∧ n ≤ 100000) = true then .ok (rngD 0 n.toNat) else .bad
  | _ => .bad
def dRng2 : List D → R (List D)
  | [.int a, .int b] => if decide (-100000 ≤ a ∧ a ≤ 100000 ∧ -100000 ≤ b ∧ b ≤ 100000) = true then .ok (rngD a (b - a).toNat) else .bad
  | _ => .bad
def iArgs (f : List D → R (List D)) (ms : DA) : DI := fun ρ => (ms ρ).bind f
theorem VwA.one {K : Fr} {B : Bs} {ρ : En} {σ : L2.St} {H0 H : Hp} {vs : List V} {d : D} (r : Rl K B ρ σ H0 H) (h : VwA K ρ σ H0 vs [d]) : ∃ v, vs = [v] ∧ Vx K H0 H v d := by
  cases h with
  | cons h t => cases t; exact ⟨_, rfl, Vw.vx r h⟩
theorem id_rng1 {ms : DA} {p : Pos} (hg : Gl X "range") (hm : X.mg "range" = none) (ha : PAw X W [a] ms) (hs : starEach [a] X.env = [(false, eval a X.env)] := by rfl) : ID X W tg (.Call (.Name "range" p) [a] [] pos) (iArgs dRng1 ms) := (pi_range1 hg hm ha hs).wk fun σ H Rc ⟨B, ρ, H0, r, o⟩ => by
  refine ⟨B, ρ, H0, r, ?_⟩
  unfold iArgs at o
  cases h : ms ρ with
  | bad => rw [h] at o; exact o
  | er c => rw [h] at o; exact o
  | ok ds =>
    rw [h, R.bind_ok] at o
    intro vs H1 H2 g va
    unfold dRng1 at o
    split at o
    · split at o
      · rename_i n hn
        obtain ⟨v, rfl, vx⟩ := va.one (r.grow g)
        have hn := of_decide_eq_true hn
        exact ⟨n, by rw [vx.int], by omega, by omega, o _ H1 H2 g itok_rng⟩
      · exact o.elim
    · exact o.elim
theorem id_rng2 {ms : DA} {p : Pos} (hg : Gl X "range") (hm : X.mg "range" = none) (ha : PAw X W [a, b] ms) (hs : starEach [a, b] X.env = [(false, eval a X.env), (false, eval b X.env)] := by rfl) (hs2 : starEach [b] X.env = [(false, eval b X.env)] := by rfl) :
    ID X W tg (.Call (.Name "range" p) [a, b] [] pos) (iArgs dRng2 ms) := (pi_range2 hg hm ha hs hs2).wk fun σ H Rc ⟨B, ρ, H0, r, o⟩ => by
  refine ⟨B, ρ, H0, r, ?_⟩
  unfold iArgs at o
  cases h : ms ρ with
  | bad => rw [h] at o; exact o
  | er c => rw [h] at o; exact o
  | ok ds =>
    rw [h, R.bind_ok] at o
    intro vs H1 H2 g va
    unfold dRng2 at o
    split at o
    · split at o
      · rename_i n m hn
        have rl := r.grow g
        cases va with
        | cons h1 t =>
          cases t with
          | cons h2 t =>
            cases t
            have hn := of_decide_eq_true hn
            exact ⟨_, _, by rw [(Vw.vx rl h1).int, (Vw.vx rl h2).int], ⟨by omega, by omega, by omega, by omega⟩, o _ H1 H2 g itok_rng⟩
      · exact o.elim
    · exact o.elim
/-! ### loops -/
def forL (g : DG) (M : DS) : List D → DS
  | [], ρ => .nx ρ
  | d :: ds, ρ => match g d ρ with
    | none => .bad
    | some ρ1 => match M ρ1 with
      | .nx ρ2 => forL g M ds ρ2
      | .ct ρ2 => forL g M ds ρ2
      | .bk ρ2 => .nx ρ2
      | r => r
def sFor (it : DI) (g : DG) (M : DS) : DS := fun ρ => match it ρ with
  | .ok ds => forL g M ds ρ
  | .er c => .er c ρ
  | .bad => .bad
theorem getElem?_drop {α : Type} {l : List α} {i : Nat} {x : α} (h : l[i]? = some x) : l.drop i = x :: l.drop (i + 1) := by
  obtain ⟨h1, h2⟩ := List.getElem?_eq_some_iff.mp h
  rw [List.drop_eq_getElem_cons h1, h2]
/-- what is frozen by now stays so: the base taken anew -/
theorem rebase {H1 H2 : Hp} (hb : Gr B.1 B.2 H1 H2) (r : Rl K B ρ σ H0 H) (e : Ex H1 H0) : Rl K (H1, B.2) ρ σ H0 H :=
  ⟨⟨e, r.gr.e, r.gr.s, fun p h h1 => r.gr.n p h (by
    cases q : B.1 p with
    | none => rfl
    | some o =>
      have z : H1 p = none := h1
      rw [hb.e0 p o q] at z; cases z)⟩, r.len, r.fz, r.ow, r.uq⟩
theorem grbase {H1 H2 : Hp} (hb : Gr B.1 B.2 H1 H2) (g : Gr H1 B.2 H0 H) : Gr B.1 B.2 H0 H := ⟨hb.e0.trans g.e0, g.e, g.s, fun p h h1 => g.n p h (hb.n p h h1)⟩
theorem unbase {H1 H2 : Hp} (hb : Gr B.1 B.2 H1 H2) (r : Rl K (H1, B.2) ρ σ H0 H) : Rl K B ρ σ H0 H := ⟨grbase hb r.gr, r.len, r.fz, r.ow, r.uq⟩
theorem ends_base {H1 H2 : Hp} (hb : Gr B.1 B.2 H1 H2) {r : RS} (h : EndS K mg W B E r) : EndS K mg W (H1, B.2) E r := by
  cases r with
  | nx ρ => exact fun σ H0 H rl => h σ H0 H (unbase hb rl)
  | bk ρ => exact fun σ H0 H rl => h σ H0 H (unbase hb rl)
  | ct ρ => exact fun σ H0 H rl => h σ H0 H (unbase hb rl)
  | er c ρ => exact fun σ H0 H rl => h σ H0 H (unbase hb rl)
  | rt d => exact fun v H0 H g rp => h v H0 H (grbase hb g) rp
  | bad => exact h
/-- a walk over data: the loop's word -/
theorem for_data {J : It} {ds : List D} {is : List Nat} {g : DG} {H1 : Hp} (hJ : ItOk K J H1 ds) (rl : Rl K B ρ σ H1 H) (h : EndS K mg W B E (forL g M ds ρ)) :
    ∃ Wd : Nat → Nat → L2.St → Hp → Prop, (∃ m, Wd 0 m σ H) ∧ ∀ i m σ H, Wd i m σ H →
      (J.stop i H ∧ E.nx σ H) ∨ (J.go i H ∧ ∃ Nx : L2.St → Hp → Prop, (∀ σ' H', Nx σ' H' → ∃ m', m' < m ∧ Wd (i + 1) m' σ' H') ∧ ∀ x H', J.yld i H x H' → tG K is g x σ H' fun σ2 H2 => tS K mg W M { E with nx := Nx, ct := Nx, bk := E.nx } σ2 H2) := by
  have hb := rl.gr
  replace h := ends_base hb h
  refine ⟨fun i m σ H => m = ds.length - i ∧ i ≤ ds.length ∧ ∃ ρ H0, Rl K (H1, B.2) ρ σ H0 H ∧ EndS K mg W (H1, B.2) E (forL g M (ds.drop i) ρ), ⟨_, rfl, Nat.zero_le _, ρ, H1, rebase hb rl (Ex.refl _), by rw [List.drop_zero]; exact h⟩, ?_⟩
  rintro i m σ H ⟨rfl, hi, ρ, H0, r, k⟩
  have e : Ex H1 H0 := r.gr.e0
  by_cases hlt : i < ds.length
  · have hd : ds[i]? = some ds[i] := List.getElem?_eq_getElem hlt
    obtain ⟨hgo, hy⟩ := (hJ i).2 H _ (e.trans r.s) hd
    rw [getElem?_drop hd] at k
    unfold forL at k
    refine .inr ⟨hgo, fun σ' H' => ∃ ρ H0, Rl K (H1, B.2) ρ σ' H0 H' ∧ EndS K mg W (H1, B.2) E (forL g M (ds.drop (i + 1)) ρ), fun σ' H' z => ⟨ds.length - (i + 1), by omega, rfl, by omega, z⟩, fun x H' y => ?_⟩
    have go : ∀ H0', Rl K (H1, B.2) ρ σ H0' H' → Rp K H0' x ds[i] → tG K is g x σ H' fun σ2 H2 => tS K mg W M { E with nx := fun σ' H' => ∃ ρ H0, Rl K (H1, B.2) ρ σ' H0 H' ∧ EndS K mg W (H1, B.2) E (forL g M (ds.drop (i + 1)) ρ), ct := fun σ' H' => ∃ ρ H0, Rl K (H1, B.2) ρ σ' H0 H' ∧ EndS K mg W (H1, B.2) E (forL g M (ds.drop (i + 1)) ρ), bk := E.nx } σ2 H2 := by
      intro H0' r' rp
      refine ⟨(H1, B.2), ρ, H0', _, r', rp, ?_⟩
      cases hg : g ds[i] ρ with
      | none => rw [hg] at k; exact k.elim
      | some ρ1 =>
        rw [hg] at k
        intro σ2 r2 _ _
        refine ⟨(H1, B.2), ρ1, H0', r2, ?_⟩
        simp only at k
        cases hM : M ρ1 with
        | nx ρ2 => rw [hM] at k; exact fun σ3 H3 H4 r3 => ⟨ρ2, H3, r3, k⟩
        | ct ρ2 => rw [hM] at k; exact fun σ3 H3 H4 r3 => ⟨ρ2, H3, r3, k⟩
        | bk ρ2 => rw [hM] at k; exact k
        | rt d => rw [hM] at k; exact k
        | er c ρ2 => rw [hM] at k; exact k
        | bad => rw [hM] at k; exact k
    rcases hy x H' y with ⟨rfl, rp⟩ | ⟨p, vs, es, hp, rfl, rfl, hd', rs⟩ | hg
    · exact go H0 r (rp.mono e)
    · refine go (upd H0 p (.tup vs)) (r.grow (Gr.new r.s hp)) ?_
      rw [hd']
      exact .tup upd_same ((rs.mono e).mono (Ex.new (fresh_back r.s hp)))
    · obtain ⟨Hc, g1, rp⟩ := hg H0 e r.s
      exact go Hc (r.grow g1) rp
  · have : i = ds.length := by omega
    subst this
    rw [List.drop_length] at k
    exact .inl ⟨(hJ _).1 H (e.trans r.s) (Nat.le_refl _), k σ H0 H r⟩
theorem sd_for {g : DG} {is : List Nat} {mi : DI} (hp : PassesOwn (model X.prog X.w) X.A X.env X.xe) (hc : X.calm = true) (hi : ID X W tg it mi) (hg : GD X tg is g) (hb : SsD X W body M)
    (hs : ∀ x, foldedSetIterable it X.env x = pure x := by intro _; rfl) : SD X W (.For tg it body [] pos) (sFor mi g M) := (ps_for hp hc hi hg hb hs).wk fun E σ H ⟨B, ρ, H0, r, o⟩ => by
  refine ⟨B, ρ, H0, r, ?_⟩
  unfold sFor at o
  cases h : mi ρ with
  | bad => rw [h] at o; exact o
  | er c => rw [h] at o; exact ends_er r o
  | ok ds =>
    rw [h] at o
    intro J H1 H2 g1 hJ
    exact for_data hJ (r.grow g1) o
def whileN (mc : DE) (M : DS) : Nat → DS
  | 0, _ => .bad
  | n + 1, ρ => match mc ρ with
    | .ok (.bool true) => (match M ρ with
      | .nx ρ2 => whileN mc M n ρ2
      | .ct ρ2 => whileN mc M n ρ2
      | .bk ρ2 => .nx ρ2
      | r => r)
    | .ok (.bool false) => .nx ρ
    | .er c => .er c ρ
    | _ => .bad
theorem sd_while (n : Nat) {c : Expr} (hp : PassesOwn (model X.prog X.w) X.A X.env X.xe) (hc : PTd X W c mc) (hb : SsD X W body M) : SD X W (.While c body [] pos) (whileN mc M n) := (ps_while hp hc hb).wk fun E σ H ⟨B, ρ, H0, r, o⟩ => by
  refine ⟨fun n σ H => ∃ ρ H0, Rl X.K B ρ σ H0 H ∧ EndS X.K X.mg W B E (whileN mc M n ρ), ⟨n, ρ, H0, r, o⟩, ?_⟩
  rintro m σ H ⟨ρ, H0, r, k⟩
  cases m with
  | zero => exact k.elim
  | succ n =>
    unfold whileN at k
    refine ⟨B, ρ, H0, r, ?_⟩
    split at k
    · rename_i hm
      rw [hm]
      refine ⟨true, rfl, fun H1 H2 g => iteT ?_⟩
      refine ⟨fun σ' H' => ∃ ρ H0, Rl X.K B ρ σ' H0 H' ∧ EndS X.K X.mg W B E (whileN mc M n ρ), fun σ' H' z => ⟨n, Nat.lt_succ_self _, z⟩, B, ρ, H1, r.grow g, ?_⟩
      cases hM : M ρ with
      | nx ρ2 => rw [hM] at k; exact fun σ3 H3 H4 r3 => ⟨ρ2, H3, r3, k⟩
      | ct ρ2 => rw [hM] at k; exact fun σ3 H3 H4 r3 => ⟨ρ2, H3, r3, k⟩
      | bk ρ2 => rw [hM] at k; exact k
      | rt d => rw [hM] at k; exact k
      | er c ρ2 => rw [hM] at k; exact k
      | bad => rw [hM] at k; exact k
    · rename_i hm
      rw [hm]
      exact ⟨false, rfl, fun H1 H2 g => iteF (k σ H1 H2 (r.grow g))⟩
    · rename_i c hm
      rw [hm]
      exact ends_er r k
    · exact k.elim
end
end Fc
set_option Elab.async false
set_option linter.all false
set_option maxRecDepth 100000
set_option maxHeartbeats 2000000
namespace Fc
open PySem L2 Evl PySem.Spec PyProof.Rows
section
variable {X : Cx} {W : WX} {e a b c o tg it elt : Expr} {es : List Expr} {m ma mb mc mt : DE} {pos : Pos} {st : Stmt} {rest body els : List Stmt} {M N : DS}
variable {K : Fr} {mg : Str → Option Value} {B : Bs} {ρ : En} {σ : L2.St} {H0 H : Hp} {E : Ends}
/-! ### comprehensions -/
def wipeE (ρ : En) : List Nat → En
  | [] => ρ
  | v :: vs => (wipeE ρ vs).set v .un
theorem Rl.wipe (r : Rl K B ρ σ H0 H) : ∀ vs : List Nat, Rl K B (wipeE ρ vs) (L2.wipe σ vs) H0 H
  | [] => r
  | v :: vs => (Rl.wipe r vs).setU
theorem wipe_get (σ : L2.St) (j : Nat) : ∀ vs : List Nat, (L2.wipe σ vs)[j]? = if j ∈ vs then (if j < σ.length then some none else none) else σ[j]?
  | [] => by simp [L2.wipe]
  | v :: vs => by
    unfold L2.wipe
    rw [get_set, wipe_length, wipe_get σ j vs]
    by_cases h : v = j
    · subst h; simp
    · have : ¬ j = v := fun z => h z.symm
      simp [h, this]
theorem wipe_eq {σ σ2 : L2.St} {is vs : List Nat} (hl : σ2.length = (L2.wipe σ vs).length) (h : ∀ j, j ∉ is → σ2[j]? = (L2.wipe σ vs)[j]?) (hs : ∀ i ∈ is, i ∈ vs) : L2.wipe σ2 vs = L2.wipe σ vs := by
  apply List.ext_getElem?
  intro j
  rw [wipe_length] at hl
  rw [wipe_get σ2, wipe_get σ, hl]
  by_cases hj : j ∈ vs
  · simp [hj]
  · have : j ∉ is := fun z => hj (hs j z)
    have q := h j this
    rw [wipe_get] at q
    simp only [hj, if_false] at q ⊢
    exact q
def lcStep (g : DG) (t m : DE) (vs : List Nat) (ρ : En) (d : D) : Option (Option D) := match g d (wipeE ρ vs) with
  | none => none
  | some ρ1 => match t ρ1 with
    | .ok (.bool true) => (match m ρ1 with
      | .ok x => some (some x)
      | _ => none)
    | .ok (.bool false) => some none
    | _ => none
def lcL (g : DG) (t m : DE) (vs : List Nat) (ρ : En) : List D → Option (List D)
  | [] => some []
  | d :: ds => match lcStep g t m vs ρ d with
    | none => none
    | some o => match lcL g t m vs ρ ds with
      | none => none
      | some r => some (o.toList ++ r)
def eLc (it : DI) (g : DG) (t m : DE) (vs : List Nat) : DE := fun ρ => match it ρ with
  | .ok ds => (match lcL g t m vs ρ ds with
    | some rs => if szB rs.length = true then .ok (.list rs) else .bad
    | none => .bad)
  | .er c => .er c
  | .bad => .bad
def W0 : WX := fun _ _ _ _ => False
theorem wc0 {c : Str} {σ : L2.St} {H : Hp} : WC mg W0 c σ H → ∀ C, mg c = some (Value.ref C) → False := fun h C hC => h C hC
/-- the new list at Dl is kept from the block -/
theorem Rl.guard {Dl : Addr} {xs : List V} (r : Rl K B ρ σ H0 H) (h : H Dl = some (.lst xs)) (h0 : H0 Dl = none) (hn : ∀ (j : Nat) (e : D), ρ[j]? = some (Slot.ow e) → σ[j]? ≠ some (some (V.ref Dl))) : Rl K (B.1, upd B.2 Dl (.lst xs)) ρ σ H0 H := by
  refine ⟨⟨r.gr.e0, fun q u z => ?_, r.gr.s, fun q z z1 => ?_⟩, r.len, r.fz, fun i d hi => ?_, r.uq⟩
  · have z' : upd B.2 Dl (.lst xs) q = some u := z
    by_cases hq : q = Dl
    · subst hq; rw [upd_same] at z'; rw [h]; exact z'
    · rw [upd_ne hq] at z'; exact r.gr.e q u z'
  · by_cases hq : q = Dl
    · subst hq; exact h0
    · have z' : upd B.2 Dl (.lst xs) q ≠ none := z
      rw [upd_ne hq] at z'
      exact r.gr.n q z' z1
  · obtain ⟨p, ob, q1, q2, q3, q4, q5⟩ := r.ow i d hi
    have ne : p ≠ Dl := fun z => hn i d hi (z ▸ q1)
    exact ⟨p, ob, q1, by show upd B.2 Dl _ p = none; rw [upd_ne ne]; exact q2, q3, q4, q5⟩
theorem Rl.guarded {Dl : Addr} {xs : List V} (r : Rl K (B.1, upd B.2 Dl (.lst xs)) ρ σ H0 H) (hB : B.1 Dl = none) : H Dl = some (.lst xs) ∧ H0 Dl = none ∧ ∀ (j : Nat) (e : D), ρ[j]? = some (Slot.ow e) → σ[j]? ≠ some (some (V.ref Dl)) := by
  refine ⟨r.gr.e Dl _ upd_same, r.gr.n Dl (by show upd B.2 Dl _ Dl ≠ none; rw [upd_same]; exact fun z => nomatch z) hB, fun j e hj hs => ?_⟩
  obtain ⟨p, ob, q1, q2, q3, q4, q5⟩ := r.ow j e hj
  rw [hs] at q1
  simp at q1
  subst q1
  have : upd B.2 Dl (.lst xs) Dl = none := q2
  rw [upd_same] at this
  cases this
theorem Rl.unguard {Dl : Addr} {xs : List V} (r : Rl K (B.1, upd B.2 Dl (.lst xs)) ρ σ H0 H) (hB : B.2 Dl = none) : Rl K B ρ σ H0 H := by
  refine ⟨⟨r.gr.e0, fun q u z => ?_, r.gr.s, fun q z z1 => ?_⟩, r.len, r.fz, fun i d hi => ?_, r.uq⟩
  · have hq : q ≠ Dl := fun y => by rw [y, hB] at z; cases z
    exact r.gr.e q u (by show upd B.2 Dl _ q = some u; rw [upd_ne hq]; exact z)
  · have hq : q ≠ Dl := fun y => z (by rw [y]; exact hB)
    exact r.gr.n q (by show upd B.2 Dl _ q ≠ none; rw [upd_ne hq]; exact z) z1
  · obtain ⟨p, ob, q1, q2, q3, q4, q5⟩ := r.ow i d hi
    have q2' : upd B.2 Dl (.lst xs) p = none := q2
    have ne : p ≠ Dl := fun z => by rw [z, upd_same] at q2'; cases q2'
    rw [upd_ne ne] at q2'
    exact ⟨p, ob, q1, q2', q3, q4, q5⟩
theorem Rl.grown {Dl : Addr} {xs ys : List V} (r : Rl K B ρ σ H0 H) (h : H Dl = some (.lst xs)) (hB : B.2 Dl = none) (h0 : H0 Dl = none) (hn : ∀ (j : Nat) (e : D), ρ[j]? = some (Slot.ow e) → σ[j]? ≠ some (some (V.ref Dl))) : Rl K B ρ σ H0 (upd H Dl (.lst ys)) :=
  ⟨r.gr.mut hB h0, r.len, r.fz, fun i d hi => by
    obtain ⟨p, ob, q1, q2, q3, q4, q5⟩ := r.ow i d hi
    have ne : p ≠ Dl := fun z => hn i d hi (z ▸ q1)
    exact ⟨p, ob, q1, q2, q3, by rw [upd_ne ne]; exact q4, q5⟩, r.uq⟩
theorem lc_data {J : It} {ds rs : List D} {is vs : List Nat} {g : DG} {Hs0 Hs H1 H2 : Hp} {Q : VK} (hJ : ItOk K J H1 ds) (rl : Rl K B ρ σ H1 H2) (gr : Gr Hs0 Hs H1 H2) (hrs : lcL g mt m vs ρ ds = some rs) (hz : szB rs.length = true) (hsub : ∀ i ∈ is, i ∈ vs)
    (hq : Kq true K Hs0 Hs (.list rs) Q) (Dl : Addr) (hD : H2 Dl = none) :
    ∃ Wd : Nat → Nat → Hp → Prop, (∃ m, Wd 0 m (upd H2 Dl (.lst []))) ∧ ∀ i k H, Wd i k H →
      (J.stop i H ∧ Q (.ref Dl) H) ∨ (J.go i H ∧ ∃ Nx : Hp → Prop, (∀ H', Nx H' → ∃ m', m' < k ∧ Wd (i + 1) m' H') ∧ ∀ x H', J.yld i H x H' → tG K is g x (L2.wipe σ vs) H' fun σ2 H2 => L2.wipe σ2 vs = L2.wipe σ vs ∧ tT K mg W0 mt σ2 H2 fun b H3 =>
        if b = true then tE false K mg W0 m σ2 H3 fun y H4 => ∃ acc, H4 Dl = some (.lst acc) ∧ acc.length < sizeLine ∧ Nx (upd H4 Dl (.lst (acc ++ [y]))) else Nx H3) := by
  have hB2 : B.2 Dl = none := fresh_back rl.gr.e hD
  have hH1 : H1 Dl = none := fresh_back rl.s hD
  have hB1 : B.1 Dl = none := fresh_back rl.gr.e0 hH1
  have hHs : Hs Dl = none := fresh_back gr.e hD
  have hb := rl.gr
  let Bd : List V → Bs := fun acc => (H1, upd B.2 Dl (.lst acc))
  let Inv' : Nat → Hp → Prop := fun i H => ∃ H0 acc done rest, Rl K (Bd acc) ρ σ H0 H ∧ Gr Hs0 Hs H0 H ∧ RpA K H0 acc done ∧ lcL g mt m vs ρ (ds.drop i) = some rest ∧ done ++ rest = rs
  have own_ne : ∀ (j : Nat) (e : D), ρ[j]? = some (Slot.ow e) → σ[j]? ≠ some (some (V.ref Dl)) := fun j e hj hs => by
    obtain ⟨p, ob, q1, q2, q3, q4, q5⟩ := rl.ow j e hj
    rw [hs] at q1
    simp at q1
    subst q1
    rw [hD] at q4
    cases q4
  have start : Inv' 0 (upd H2 Dl (.lst [])) := by
    have r1 : Rl K (H1, B.2) ρ σ H1 (upd H2 Dl (.lst [])) := (rebase hb rl (Ex.refl _)).grow (Gr.side rl.s (Ex.new hD))
    exact ⟨H1, [], [], rs, r1.guard upd_same hH1 own_ne, gr.trans (Gr.side rl.s (Ex.new hD)), .nil, by rw [List.drop_zero]; exact hrs, rfl⟩
  refine ⟨fun i k H => k = ds.length - i ∧ i ≤ ds.length ∧ Inv' i H, ⟨_, rfl, Nat.zero_le _, start⟩, ?_⟩
  rintro i k H ⟨rfl, hi, H0, acc, done, rst, r, g0, ra, hl, hd⟩
  obtain ⟨gD, gD0, gN⟩ := r.guarded (B := (H1, B.2)) hH1
  have e : Ex H1 H0 := r.gr.e0
  by_cases hlt : i < ds.length
  · have hdi : ds[i]? = some ds[i] := List.getElem?_eq_getElem hlt
    obtain ⟨hgo, hy⟩ := (hJ i).2 H _ (e.trans r.s) hdi
    rw [getElem?_drop hdi] at hl
    unfold lcL at hl
    refine .inr ⟨hgo, Inv' (i + 1), fun H' z => ⟨ds.length - (i + 1), by omega, rfl, by omega, z⟩, fun x H' y => ?_⟩
    cases hst : lcStep g mt m vs ρ ds[i] with
    | none => rw [hst] at hl; cases hl
    | some oo =>
      rw [hst] at hl
      cases hlr : lcL g mt m vs ρ (ds.drop (i + 1)) with
      | none => rw [hlr] at hl; cases hl
      | some r2 =>
        rw [hlr] at hl
        simp only [Option.some.injEq] at hl
        subst hl
        have go : ∀ H0', Gr H0 H H0' H' → Rp K H0' x ds[i] → tG K is g x (L2.wipe σ vs) H' fun σ2 H2 => L2.wipe σ2 vs = L2.wipe σ vs ∧ tT K mg W0 mt σ2 H2 fun b H3 =>
            if b = true then tE false K mg W0 m σ2 H3 fun y H4 => ∃ acc, H4 Dl = some (.lst acc) ∧ acc.length < sizeLine ∧ Inv' (i + 1) (upd H4 Dl (.lst (acc ++ [y]))) else Inv' (i + 1) H3 := by
          intro H0' gg rp
          have r' := r.grow gg
          refine ⟨Bd acc, wipeE ρ vs, H0', _, r'.wipe vs, rp, ?_⟩
          unfold lcStep at hst
          cases hg : g ds[i] (wipeE ρ vs) with
          | none => rw [hg] at hst; cases hst
          | some ρ1 =>
            rw [hg] at hst
            intro σ2 rr2 l2 n2
            refine ⟨wipe_eq l2 n2 hsub, Bd acc, ρ1, H0', rr2, ?_⟩
            simp only at hst
            split at hst
            · rename_i ht
              rw [ht]
              refine ⟨true, rfl, fun H3 H4 g3 => iteT ?_⟩
              split at hst
              · rename_i xd hm
                simp only [Option.some.injEq] at hst
                subst hst
                refine ⟨Bd acc, ρ1, H3, rr2.grow g3, ?_⟩
                rw [hm]
                intro v H5 H6 g5 rv
                have rB := (r'.grow g3).grow g5
                obtain ⟨gD5, gD05, gN5⟩ := rB.guarded (B := (H1, B.2)) hH1
                have hlen : acc.length = done.length := ra.length
                have hlen2 : done.length ≤ rs.length := by rw [← hd, List.length_append]; omega
                have hz' := of_decide_eq_true hz
                refine ⟨acc, gD5, sz_lt (by
                  have : (done ++ ((some xd).toList ++ r2)).length = rs.length := by rw [hd]
                  simp at this
                  omega), H5, acc ++ [v], done ++ [xd], r2, ?_, ?_, ((ra.mono gg.e0).mono (g3.e0.trans g5.e0)).append (.cons rv .nil), hlr, by rw [← hd]; simp⟩
                · exact ((rB.unguard (B := (H1, B.2)) hB2).grown gD5 hB2 gD05 gN5).guard upd_same gD05 gN5
                · exact (((g0.trans gg).trans g3).trans g5).mut hHs gD05
              · cases hst
            · rename_i ht
              rw [ht]
              refine ⟨false, rfl, fun H3 H4 g3 => iteF ?_⟩
              simp only [Option.some.injEq] at hst
              subst hst
              exact ⟨H3, acc, done, r2, r'.grow g3, (g0.trans gg).trans g3, (ra.mono gg.e0).mono g3.e0, hlr, by rw [← hd]; simp⟩
            · cases hst
        rcases hy x H' y with ⟨rfl, rp⟩ | ⟨p, vs', es, hp, rfl, rfl, hd', rs'⟩ | hg
        · exact go H0 (Gr.refl r.s) (rp.mono e)
        · refine go (upd H0 p (.tup vs')) (Gr.new r.s hp) ?_
          rw [hd']
          exact .tup upd_same ((rs'.mono e).mono (Ex.new (fresh_back r.s hp)))
        · obtain ⟨Hc, g1, rp⟩ := hg H0 e r.s
          exact go Hc g1 rp
  · have : i = ds.length := by omega
    subst this
    rw [List.drop_length] at hl
    unfold lcL at hl
    cases hl
    rw [List.append_nil] at hd
    subst hd
    exact .inl ⟨(hJ _).1 H (e.trans r.s) (Nat.le_refl _), hq Dl _ H0 H g0 gD hHs gD0 (.inl ⟨acc, done, rfl, rfl, ra⟩)⟩
abbrev PTsD (X : Cx) (ifs : List Expr) (m : DE) : Prop := PTs X ifs (tT X.K X.mg W0 m)
def eT : DE := fun _ => .ok (.bool true)
theorem tds_nil : PTsD X [] eT := ⟨fun pins s σ H Q I ⟨B, ρ, H0, r, b, eb, k⟩ => pts_nil.run pins s σ H Q I (by
  cases eb
  exact k H0 H (Gr.refl r.s))⟩
theorem tds_one (h : PTd X W0 c mc) : PTsD X [c] mc := pts_one h
theorem t_lc {mi : DI} {is vs : List Nat} {g : DG} (hsub : ∀ i ∈ is, i ∈ vs) {Q : VK} (h : tE true K mg W (eLc mi g mt m vs) σ H Q) : tLc (tIt K mg W mi) (tG K is g) (tT K mg W0 mt) (tE false K mg W0 m) vs σ H Q := by
  obtain ⟨B, ρ, H0, rl, o⟩ := h
  refine ⟨B, ρ, H0, rl, ?_⟩
  unfold eLc at o
  cases hi : mi ρ with
  | bad => rw [hi] at o; exact o
  | er c => rw [hi] at o; exact o
  | ok ds =>
    rw [hi] at o
    simp only at o
    cases hrs : lcL g mt m vs ρ ds with
    | none => rw [hrs] at o; exact o.elim
    | some rs =>
      rw [hrs] at o
      simp only at o
      split at o
      · rename_i hz
        intro J H1 H2 g1 hJ Dl hD
        exact lc_data hJ (rl.grow g1) g1 hrs hz hsub o Dl hD
      · exact o.elim
theorem pf_lc {ifs : List Expr} {scope : Scope} {own : List (Str × Nat)} {mi : DI} {is : List Nat} {g : DG} (hc : X.calm = true) (hN : X.N.Nodup) (hi : ID X W tg it mi) (ok : BlkOk X.N X.env.scope scope own)
    (hg : ∀ (s : Shared) (H : Hp) (C : Addr) (cl : List (Str × Addr)) (fp : List Addr), GD (X.blk s H scope (compEnvC scope cl C X.env) fp) tg is g) (ht : ∀ (s : Shared) (H : Hp) (C : Addr) (cl : List (Str × Addr)) (fp : List Addr), PTsD (X.blk s H scope (compEnvC scope cl C X.env) fp) ifs mt)
    (he : ∀ (s : Shared) (H : Hp) (C : Addr) (cl : List (Str × Addr)) (fp : List Addr), PD (X.blk s H scope (compEnvC scope cl C X.env) fp) W0 elt m) (hsub : ∀ i ∈ is, i ∈ own.map (·.2) := by decide) (hs : ∀ x, foldedSetIterable it X.env x = pure x := by intro _; rfl) :
    PF X W (.ListComp elt [⟨tg, it, ifs, 0⟩] scope pos) (eLc mi g mt m (own.map (·.2))) := (pe_lc hc hN hi ok hg ht he hs).wk fun σ H Q h => t_lc hsub h
theorem sd_setLc {i : Nat} {y : Str} {py spos : Pos} {ifs : List Expr} {scope : Scope} {own : List (Str × Nat)} {mi : DI} {is : List Nat} {g : DG} (hc : X.calm = true) (hN : X.N.Nodup) (hy : X.N[i]? = some y) (hyl : X.env.scope.names.lookup y = some .local)
    (hsw : swapsWith (.ListComp elt [⟨tg, it, ifs, 0⟩] scope pos) (some (.Name y py)) spos.line X.env = pure true) (hi : ID X W tg it mi) (ok : BlkOk X.N X.env.scope scope own)
    (hg : ∀ (s : Shared) (H : Hp) (C : Addr) (cl : List (Str × Addr)) (fp : List Addr), GD (X.blk s H scope (compEnvC scope cl C X.env) fp) tg is g) (ht : ∀ (s : Shared) (H : Hp) (C : Addr) (cl : List (Str × Addr)) (fp : List Addr), PTsD (X.blk s H scope (compEnvC scope cl C X.env) fp) ifs mt)
    (he : ∀ (s : Shared) (H : Hp) (C : Addr) (cl : List (Str × Addr)) (fp : List Addr), PD (X.blk s H scope (compEnvC scope cl C X.env) fp) W0 elt m) (hsub : ∀ i ∈ is, i ∈ own.map (·.2) := by decide) (hs : ∀ x, foldedSetIterable it X.env x = pure x := by intro _; rfl) :
    SD X W (.Assign [.Name y py] (.ListComp elt [⟨tg, it, ifs, 0⟩] scope pos) spos) (sOwn i (eLc mi g mt m (own.map (·.2)))) := (ps_setLc hc hN hy hyl hsw hi ok hg ht he hs).wk fun E σ H q =>
  t_lc hsub (t_sE (kd := true) q fun B ρ H0 H d r k p ob H0' H' g hp hn h0 ho => k _ H0' H' (own_new r g hn hp h0 ho i))
/-- .. whose list is frozen at once -/
theorem sd_setLcF {i : Nat} {y : Str} {py spos : Pos} {ifs : List Expr} {scope : Scope} {own : List (Str × Nat)} {mi : DI} {is : List Nat} {g : DG} (hc : X.calm = true) (hN : X.N.Nodup) (hy : X.N[i]? = some y) (hyl : X.env.scope.names.lookup y = some .local)
    (hsw : swapsWith (.ListComp elt [⟨tg, it, ifs, 0⟩] scope pos) (some (.Name y py)) spos.line X.env = pure true) (hi : ID X W tg it mi) (ok : BlkOk X.N X.env.scope scope own)
    (hg : ∀ (s : Shared) (H : Hp) (C : Addr) (cl : List (Str × Addr)) (fp : List Addr), GD (X.blk s H scope (compEnvC scope cl C X.env) fp) tg is g) (ht : ∀ (s : Shared) (H : Hp) (C : Addr) (cl : List (Str × Addr)) (fp : List Addr), PTsD (X.blk s H scope (compEnvC scope cl C X.env) fp) ifs mt)
    (he : ∀ (s : Shared) (H : Hp) (C : Addr) (cl : List (Str × Addr)) (fp : List Addr), PD (X.blk s H scope (compEnvC scope cl C X.env) fp) W0 elt m) (hsub : ∀ i ∈ is, i ∈ own.map (·.2) := by decide) (hs : ∀ x, foldedSetIterable it X.env x = pure x := by intro _; rfl) :
    SD X W (.Assign [.Name y py] (.ListComp elt [⟨tg, it, ifs, 0⟩] scope pos) spos) (sAsg i (eLc mi g mt m (own.map (·.2)))) := (ps_setLc hc hN hy hyl hsw hi ok hg ht he hs).wk fun E σ H q =>
  t_lc hsub (t_sE (kd := true) q fun B ρ H0 H d r k => Kq.own (Q := fun x H1 => gName i x σ H1 E.nx) fun v H0' H' g rp => k _ H0' H' ((r.grow g).setF rp))
/-! ### defs -/
/-- what a def promises: on data ds it comes to f ds -/
def spD (K : Fr) (mg : Str → Option Value) (n : Nat) (f : List D → R D) : Sp := fun vs H Q E => vs.length = n ∧ ∃ ds H0, Ex H0 H ∧ RpA K H0 vs ds ∧ Out (f ds) (fun d => Kq false K H0 H d Q) (fun c => ∀ H', Ex H H' → ∀ C, mg c = some (Value.ref C) → E (.ref C) none H')
abbrev FnD (P : Program) (w : World) (K : Fr) (mg : Str → Option Value) (base : Heap) (k : Nat) (f : Addr) (fd : FuncData) (ps : List Str) (g : List D → R D) : Prop := FnOk P w K mg base (L2.CX P w) k f fd ps (spD K mg ps.length g)
def eDef (g : List D → R D) (ms : DA) : DE := fun ρ => (ms ρ).bind g
theorem t_def {k : Nat} {n : Nat} {g : List D → R D} {ms : DA} (hlen : ∀ ρ ds, ms ρ = .ok ds → ds.length = n) {Q : VK} (h : tE false K mg W (eDef g ms) σ H Q) : tAf K mg W ms σ H fun vs H1 => spD K mg n g vs H1 Q (WE W σ) := by
  obtain ⟨B, ρ, H0, rl, o⟩ := h
  refine ⟨B, ρ, H0, rl, ?_⟩
  unfold eDef at o
  cases ha : ms ρ with
  | bad => rw [ha] at o; exact o
  | er c => rw [ha] at o; exact o
  | ok ds =>
    rw [ha, R.bind_ok] at o
    intro vs H1 H2 g1 ra
    exact ⟨ra.length.trans (hlen ρ ds ha), ds, H1, g1.s, ra, o.imp (fun d k => Kq.grow (k := false) k g1) fun c k H' e => k H' (g1.e.trans e)⟩
theorem aNil_len : ∀ ρ ds, aNil ρ = .ok ds → ds.length = 0 := fun ρ ds h => by cases h; rfl
theorem aCons_len {ma : DE} {mr : DA} {n : Nat} (h : ∀ ρ ds, mr ρ = .ok ds → ds.length = n) : ∀ ρ ds, aCons ma mr ρ = .ok ds → ds.length = n + 1 := fun ρ ds q => by
  unfold aCons at q
  cases h1 : ma ρ with
  | bad => rw [h1] at q; cases q
  | er c => rw [h1] at q; cases q
  | ok d =>
    rw [h1, R.bind_ok] at q
    cases h2 : mr ρ with
    | bad => rw [h2] at q; cases q
    | er c => rw [h2] at q; cases q
    | ok ds' =>
      rw [h2, R.bind_ok] at q
      cases q
      rw [List.length_cons, h ρ ds' h2]
theorem pd_def {x : Str} {p : Pos} {k : Nat} {f : Addr} {fd : FuncData} {ps : List Str} {g : List D → R D} {ms : DA} (F : FnD X.prog X.w X.K X.mg X.base k f fd ps g) (tk : Takes X W) (hr : Room k X.A) (hg : Gl X x) (hm : X.mg x = some (.ref f)) (hk : PySem.W.keepIn X.K (.ref f) = true) (hb : Binds X.K fd ps [])
    (hlen : ∀ ρ ds, ms ρ = .ok ds → ds.length = ps.length) (ha : PAf X W (e :: es) ms) (hdb : (x == ("__debug__" : Str)) = false := by decide) (he : starEach (e :: es) X.env = (false, eval e X.env) :: starEach es X.env := by rfl) (hpl : (backTo pos (starEach es X.env)).any (·.1) = false := by rfl) :
    PD X W (.Call (.Name x p) (e :: es) [] pos) (eDef g ms) := (pe_callS F hr hg hm hk hb (fun σ => passAt tk σ) ha hdb he hpl).wk fun σ H Q h => t_def (k := k) hlen h
theorem pd_def0 {x : Str} {p : Pos} {k : Nat} {f : Addr} {fd : FuncData} {ps : List Str} {g : List D → R D} (F : FnD X.prog X.w X.K X.mg X.base k f fd ps g) (tk : Takes X W) (hr : Room k X.A) (hg : Gl X x) (hm : X.mg x = some (.ref f)) (hk : PySem.W.keepIn X.K (.ref f) = true) (hb : Binds X.K fd ps [])
    (hlen : ps.length = 0) (hdb : (x == ("__debug__" : Str)) = false := by decide) : PD X W (.Call (.Name x p) [] [] pos) (eDef g aNil) := by
  refine ⟨fun pins s σ H Q I h => ?_⟩
  have q := t_def (k := k) (n := ps.length) (fun ρ ds z => by rw [hlen]; exact aNil_len ρ ds z) h
  obtain ⟨B, ρ, H0, rl, o⟩ := q
  refine wpAny_Call_Name_kw (ld_glob I hg hm ?_ hdb)
  exact PySem.W.callWith_K0 I.kIn hk (run_fnS (us := []) F hr hb (passAt tk σ) I .nil (o [] H0 H (Gr.refl rl.s) .nil))
/-! ### a def's body -/
/-- a body run on data: N names, the first of them parameters -/
def runF (N n : Nat) (M : DS) (ds : List D) : R D := if ds.length = n then (match M (ds.map Slot.fz ++ List.replicate (N - n) Slot.un) with
  | .nx _ => .ok .none
  | .rt d => .ok d
  | .er c _ => .er c
  | _ => .bad) else .bad
theorem rl_start {N : List Str} {n : Nat} {vs : List V} {ds : List D} (s : Ex H0 H) (ra : RpA K H0 vs ds) (hl : vs.length = n) : Rl K (H0, H) (ds.map Slot.fz ++ List.replicate (N.length - n) Slot.un) (L2.start N vs) H0 H where
  gr := Gr.refl s
  len := by
    unfold L2.start
    have := ra.length
    simp [this]
    omega
  fz := fun i d h => by
    unfold L2.start
    rw [List.getElem?_append] at h ⊢
    split at h
    · rename_i hi
      rw [List.getElem?_map] at h
      obtain ⟨d', h1, h2⟩ := Option.map_eq_some_iff.mp h
      cases h2
      obtain ⟨v, h3, h4⟩ := ra.getD h1
      refine ⟨v, ?_, h4⟩
      rw [if_pos (by simpa [ra.length] using hi), List.getElem?_map, h3]
      rfl
    · rw [List.getElem?_replicate] at h
      split at h <;> cases h
  ow := fun i d h => by
    rw [List.getElem?_append] at h
    split at h
    · rw [List.getElem?_map] at h
      obtain ⟨d', h1, h2⟩ := Option.map_eq_some_iff.mp h
      cases h2
    · rw [List.getElem?_replicate] at h
      split at h <;> cases h
  uq := fun i j d e p h => by
    rw [List.getElem?_append] at h
    split at h
    · rw [List.getElem?_map] at h
      obtain ⟨d', h1, h2⟩ := Option.map_eq_some_iff.mp h
      cases h2
    · rw [List.getElem?_replicate] at h
      split at h <;> cases h
theorem fn_d {P : Program} {w : World} {base : Heap} {x qual : Str} {params : Arguments} {scope : Scope} {f : Addr} {fd : FuncData} {N ps : List Str} {k : Nat} {dvs : List V} {kws : List (Str × V)} (F : FunD K x qual params body scope dvs kws f fd) (S : FnScope N ps scope)
    (hb : ∀ (cdv : Value) (A : Around) (outer : List Env) (s : Shared) (H : Hp) (E : XK), Room k (A.deeper (envOfC qual scope s.heap.objs.size f cdv)) →
      SsD (cxOf (L2.CX P w) P w K mg base N qual scope f cdv A outer s H E) (fun cls d _ H => E cls d H) body M) : FnD P w K mg base (k + 1) f fd ps (runF N.length ps.length M) := by
  refine F.ok S (fun vs H Q E h => h.1) fun cdv A outer s H vs Q E hr h => ⟨_, hb cdv A outer s H E hr, ?_⟩
  obtain ⟨hl, ds, H0, s0, ra, o⟩ := h
  refine ⟨(H0, H), _, H0, rl_start s0 ra hl, ?_⟩
  unfold runF at o
  rw [if_pos (ra.length.symm.trans hl)] at o
  show EndS K mg _ (H0, H) _ (M (ds.map Slot.fz ++ List.replicate (N.length - ps.length) Slot.un))
  cases hM : M (ds.map Slot.fz ++ List.replicate (N.length - ps.length) Slot.un) with
  | nx ρ => rw [hM] at o; exact fun σ H1 H2 rl => o .non H1 H2 rl.gr .non
  | rt d => rw [hM] at o; exact fun v H1 H2 g rp => o v H1 H2 g rp
  | er c ρ => rw [hM] at o; exact fun σ H1 H2 rl C hC => o H2 rl.gr.e C hC
  | bk ρ => rw [hM] at o; exact o.elim
  | ct ρ => rw [hM] at o; exact o.elim
  | bad => rw [hM] at o; exact o.elim
/-- nothing is promised -/
theorem fn_bad {P : Program} {w : World} {base : Heap} {f : Addr} {fd : FuncData} {ps : List Str} {k : Nat} : FnD P w K mg base k f fd ps (fun _ => .bad) := ⟨fun vs H Q E h => h.1, fun _ _ _ _ _ _ _ _ _ _ _ _ _ h => by
  obtain ⟨_, _, _, _, _, o⟩ := h
  exact o.elim⟩
/-! ### raise X('..') -/
def sRaise (c : Str) : DS := fun ρ => .er c ρ
structure ExcF (K : Fr) (mg : Str → Option Value) (x : Str) (C : Addr) : Prop where
  g : mg x = some (.ref C)
  q : ∃ bm, (∃ B newId initId, ExcBaseFacts B newId initId bm ∧ PySem.W.excIn K C bm newId = true)
  k : PySem.W.keepIn K (.ref C) = true
  s : PySem.W.subIn K (.ref C) (.type "BaseException") = some true
  t : PySem.W.typeIn K (.ref C) = some (.type "type")
theorem sd_raise {x z : Str} {C : Addr} {j : Nat} {p p2 pos' : Pos} (F : ExcF X.K X.mg x C) (hc : X.calm = true) (tk : Takes X W) (hg : Gl X x) (hdb : (x == ("__debug__" : Str)) = false := by decide) :
    SD X W (.Raise (some (.Call (.Name x p) [.Constant (.str z) j p2] [] pos)) none pos') (sRaise x) := by
  obtain ⟨bm, B, n1, n2, q1, q2⟩ := F.q
  exact (ps_raise hc tk (pmk_own q1 q2 F.g F.k (raises_own F.s F.t) hg hdb)).wk fun E σ H ⟨B, ρ, H0, r, o⟩ => o σ H0 H r C F.g
/-! ### an owned list grows -/
def sApp (i : Nat) (m : DE) : DS := fun ρ => match ρ[i]? with
  | some (.ow (.list ds)) => sE m (fun d ρ => if szB (ds.length + 1) = true then .nx (ρ.set i (.ow (.list (ds ++ [d])))) else .bad) ρ
  | _ => .bad
theorem own_at {i : Nat} {d : D} (r : Rl K B ρ σ H0 H) (h : ρ[i]? = some (Slot.ow d)) : ∃ p o, σ[i]? = some (some (.ref p)) ∧ H p = some o ∧ OwnO K H0 o d := by
  obtain ⟨p, ob, q1, _, _, q4, q5⟩ := r.ow i d h
  exact ⟨p, ob, q1, q4, q5⟩
theorem sd_app {i : Nat} {x : Str} {p1 apos cpos : Pos} (hx : PE X (.Name x p1) (tVar i)) (he : PD X W e m) (hsw : swapsWith (.Call (.Attribute (.Name x p1) "append" apos) [e] [] cpos) none pos.line X.env = pure false := by rfl)
    (hbase : attributeBase (.Name x p1) "append" X.env (eval (.Name x p1) X.env) = eval (.Name x p1) X.env := by rfl)
    (hfew : ((backTo cpos (starEach [e] X.env)).all (fun x => !x.1) && (backToKw cpos (keywordEach [] X.env)).all (fun x => x.1.isSome)
      && decide ([e].length + ([] : List Keyword).length + (if ([] : List Keyword).isEmpty then 0 else 1) < 30)) = true := by rfl)
    (hline : (apos.endLine == cpos.line) = true := by rfl) (hs : starEach [e] X.env = (false, eval e X.env) :: starEach [] X.env := by rfl) :
    SD X W (.Expr (.Call (.Attribute (.Name x p1) "append" apos) [e] [] cpos) pos) (sApp i m) :=
  (ps_expr (pe_bm PySem.F.plainAttrs_list PySem.F.slot_list_append PySem.F.type_list_append mt_append hx (pa_cons he pa_nil hs) hbase hfew hline hs rfl) hsw).wk fun E σ H q => by
    obtain ⟨B, ρ, H0, r, o⟩ := q
    unfold sApp at o
    split at o
    · rename_i l hi
      obtain ⟨p, ob, q1, q4, q5⟩ := own_at r hi
      rcases q5 with ⟨xs, ds, rfl, e2, rs⟩ | ⟨_, _, _, e2, _⟩
      · cases e2
        refine ⟨.ref p, q1, .inl ⟨rfl, xs, SqL.of q4⟩, B, ρ, H0, r, ?_⟩
        unfold sE at o
        cases hm : m ρ with
        | bad => rw [hm] at o; exact o.elim
        | er c => rw [hm] at o; exact ends_er r o
        | ok d =>
          rw [hm] at o
          simp only at o
          split at o
          · rename_i hz
            intro v H1 H2 g rp
            have r2 := r.grow g
            refine ⟨p, xs, v, rfl, rfl, g.e _ _ q4, ?_, ?_⟩
            · have := of_decide_eq_true hz
              rw [rs.length]
              exact sz_lt (by omega)
            · exact o _ H1 _ (r2.mutO hi q1 (.inl ⟨_, _, rfl, rfl, (rs.mono g.e0).append (.cons rp .nil)⟩))
          · exact o.elim
      · cases e2
    · exact o.elim
end
end Fc
set_option Elab.async false
set_option linter.all false
set_option maxRecDepth 100000
set_option maxHeartbeats 2000000
namespace Fc
open PySem L2 Evl PySem.Spec PyProof.Rows
section
variable {X : Cx} {W : WX} {e a b c o tg it elt : Expr} {es : List Expr} {m ma mb mc mt : DE} {pos : Pos} {st : Stmt} {rest body els : List Stmt} {M N : DS}
variable {K : Fr} {mg : Str → Option Value} {B : Bs} {ρ : En} {σ : L2.St} {H0 H : Hp} {E : Ends}
theorem VxA.one' {vs : List V} {d : D} (h : VxA K H0 H vs [d]) : ∃ v, vs = [v] ∧ Vx K H0 H v d := by
  cases h with
  | cons h t => cases t; exact ⟨_, rfl, h⟩
theorem VxA.two {vs : List V} {d f : D} (h : VxA K H0 H vs [d, f]) : ∃ v w, vs = [v, w] ∧ Vx K H0 H v d ∧ Vx K H0 H w f := by
  cases h with
  | cons h t =>
    cases t with
    | cons h2 t => cases t; exact ⟨_, _, rfl, h, h2⟩
/-! ### len -/
def dLen : List D → R D
  | [.list ds] => .ok (.int ds.length)
  | [.tuple ds] => .ok (.int ds.length)
  | [.str x] => if szB x.length = true then .ok (.int x.length) else .bad
  | [.dict [(.none, .list ds)]] => .ok (.int ds.length)
  | [.dict es] => if okE es = true then .ok (.int es.length) else .bad
  | _ => .bad
theorem cd_len : CalD false X (.builtin "len") dLen := ⟨_, call_len.or call_len_dT, fun H0 H xs ds d s va e Q kq => by
  unfold dLen at e
  split at e
  · cases e
    obtain ⟨v, rfl, vx⟩ := va.one'
    obtain ⟨a, ys, rfl, ha, r⟩ := vx.lst s
    exact .inl ⟨_, _, rfl, .inl ⟨ys, SqL.of ha, rfl⟩, by rw [r.length]; exact kq _ H0 H (Gr.refl s) (.int _)⟩
  · cases e
    obtain ⟨v, rfl, vx⟩ := va.one'
    obtain ⟨a, ys, rfl, h0, ha, r⟩ := vx.tup s
    exact .inl ⟨_, _, rfl, .inr ⟨ys, SqT.of ha, rfl⟩, by rw [r.length]; exact kq _ H0 H (Gr.refl s) (.int _)⟩
  · split at e
    · rename_i hz
      cases e
      obtain ⟨v, rfl, vx⟩ := va.one'
      exact .inl ⟨_, _, rfl, by rw [vx.str]; exact ⟨szB_ok hz, rfl⟩, kq _ H0 H (Gr.refl s) (.int _)⟩
    · cases e
  · cases e
    obtain ⟨v, rfl, vx⟩ := va.one'
    rcases vx.dct s with ⟨a, kvs, rfl, ha, r⟩ | ⟨a, ns, rfl, e2, hs⟩
    · exact (RpE.no_none r).elim
    · simp at e2
      subst e2
      exact .inl ⟨_, _, rfl, .inl ⟨_, hs, rfl⟩, by
        have : (ns.map V.int).length = (ns.map PyData.int).length := by simp
        rw [this]; exact kq _ H0 H (Gr.refl s) (.int _)⟩
  · split at e
    · rename_i ho
      cases e
      obtain ⟨v, rfl, vx⟩ := va.one'
      obtain ⟨a, kvs, rfl, ha, r⟩ := vx.dctO s ho
      exact .inr ⟨a, kvs, rfl, ha, by rw [r.length]; exact kq _ H0 H (Gr.refl s) (.int _)⟩
    · cases e
  · cases e⟩
theorem cm_len : Calm1 dLen := fun ds c h => by
  unfold dLen at h
  repeat' first
    | cases h
    | split at h
/-! ### isinstance with a built-in class -/
def tyN : D → String
  | .none => "NoneType"
  | .bool _ => "bool"
  | .int _ => "int"
  | .str _ => "str"
  | .list _ => "list"
  | .tuple _ => "tuple"
  | .dict [(.none, _)] => "list"
  | .dict _ => "dict"
def isT (T : String) (d : D) : Bool := tyN d == T || (T == "int" && tyN d == "bool")
def dIsI (T : String) (d : D) : R D := match d with
  | .dict _ => .bad
  | _ => .ok (.bool (isT T d))
def okT : List String := ["int", "bool", "str", "list", "tuple"]
theorem kit_tab : ∀ t ∈ ["NoneType", "bool", "int", "str", "list", "tuple"], ∀ T ∈ okT, kitB t T = some (t == T || (T == "int" && t == "bool")) := by decide +kernel
theorem tyX_of {v : V} {d : D} (s : Ex H0 H) (h : Vx K H0 H v d) (hd : ∀ es, d ≠ .dict es) : TyX K H v (.type (tyN d)) ∧ tyN d ∈ ["NoneType", "bool", "int", "str", "list", "tuple"] := by
  cases d with
  | none => rw [h.non]; exact ⟨.base .non, by decide⟩
  | bool b => rw [h.bl]; exact ⟨.base (.bl b), by simp [tyN]⟩
  | int i => rw [h.int]; exact ⟨.base (.int i), by simp [tyN]⟩
  | str x => rw [h.str]; exact ⟨.base (.str x), by simp [tyN]⟩
  | list ds => obtain ⟨a, xs, rfl, ha, _⟩ := h.lst s; exact ⟨.base (.lst ha), by simp [tyN]⟩
  | tuple ds => obtain ⟨a, xs, rfl, _, ha, _⟩ := h.tup s; exact ⟨.base (.tup ha), by simp [tyN]⟩
  | dict es => exact (hd es rfl).elim
theorem pd_isI {T : Str} {p p2 : Pos} (ma : DE) {Ts : String} (hT : Ts ∈ okT) (hg : Gl X "isinstance") (hm : X.mg "isinstance" = none) (hgT : Gl X T) (hmT : X.mg T = none) (hbT : bootBuiltins T = some (.type Ts)) (ha : PB X W a ma) (hn : T ≠ "__name__" := by decide) (hd : (T == ("__debug__" : Str)) = false := by decide)
    (he : starEach (a :: [.Name T p2]) X.env = (false, eval a X.env) :: starEach [.Name T p2] X.env := by rfl) (he2 : starEach [.Name T p2] X.env = (false, eval (.Name T p2) X.env) :: starEach [] X.env := by rfl) (hpl : (backTo pos (starEach [.Name T p2] X.env)).any (·.1) = false := by rfl) :
    PD X W (.Call (.Name "isinstance" p) [a, .Name T p2] [] pos) (eU (dIsI Ts) ma) :=
  (pe_callB call_isi hg hm PyProof.Rows.boot_isinstance (pa_cons ha (pa_cons (pe_bltn hgT hmT hbT (v := .ty Ts) rfl hn hd) pa_nil he2) he) (by decide) (by decide) he hpl).wk fun σ H Q h => by
    show tW X.K X.mg W ma σ H fun x H1 => rIsi X.K [x, .ty Ts] H1 Q
    refine t_un (k := false) (f := dIsI Ts) (t := fun x H1 Q => rIsi X.K [x, .ty Ts] H1 Q) (fun d c z => by unfold dIsI at z; split at z <;> cases z) (fun H0 H x dx d s vx e Q kq => ?_) h
    have hd : ∀ es, dx ≠ .dict es := fun es z => by subst z; cases e
    have e2 : d = .bool (isT Ts dx) := by
      unfold dIsI at e
      split at e
      · cases e
      · cases e; rfl
    subst e2
    obtain ⟨ty, mem⟩ := tyX_of s vx hd
    exact ⟨x, .ty Ts, _, _, _, rfl, .ty Ts, ty, kit_ty (kit_tab _ mem _ hT), kq _ H0 H (Gr.refl s) (.bl _)⟩
/-! ### lists of truths, of numbers -/
def boolsOf : List D → Option (List Bool)
  | [] => some []
  | .bool b :: ds => (boolsOf ds).map (b :: ·)
  | _ :: _ => none
def intsOf : List D → Option (List Int)
  | [] => some []
  | .int b :: ds => (intsOf ds).map (b :: ·)
  | _ :: _ => none
theorem boolsOf_rp : ∀ {vs : List V} {ds : List D} {bs : List Bool}, RpA K H vs ds → boolsOf ds = some bs → vs = bs.map V.bl
  | _, _, _, .nil, h => by cases h; rfl
  | _, _, _, .cons (d := d) h r, q => by
    cases d with
    | bool b =>
      unfold boolsOf at q
      obtain ⟨r2, h1, h2⟩ := Option.map_eq_some_iff.mp q
      cases h
      rw [← h2, boolsOf_rp r h1]
      rfl
    | _ => cases q
theorem intsOf_rp : ∀ {vs : List V} {ds : List D} {bs : List Int}, RpA K H vs ds → intsOf ds = some bs → vs = bs.map V.int
  | _, _, _, .nil, h => by cases h; rfl
  | _, _, _, .cons (d := d) h r, q => by
    cases d with
    | int b =>
      unfold intsOf at q
      obtain ⟨r2, h1, h2⟩ := Option.map_eq_some_iff.mp q
      cases h
      rw [← h2, intsOf_rp r h1]
      rfl
    | _ => cases q
@[simp] theorem boolsOf_map (bs : List Bool) : boolsOf (bs.map PyData.bool) = some bs := by
  induction bs with
  | nil => rfl
  | cons b bs ih => simp [boolsOf, ih]
@[simp] theorem intsOf_map (bs : List Int) : intsOf (bs.map PyData.int) = some bs := by
  induction bs with
  | nil => rfl
  | cons b bs ih => simp [intsOf, ih]
def dAll : List D → R D
  | [.list ds] => match boolsOf ds with
    | some bs => .ok (.bool (bs.all id))
    | none => .bad
  | _ => .bad
theorem cd_all (hc : X.calm = true) : CalD false X (.builtin "all") dAll := ⟨_, cr_all hc, fun H0 H xs ds d s va e Q kq => by
  unfold dAll at e
  split at e
  · split at e
    · rename_i bs hb
      cases e
      obtain ⟨v, rfl, vx⟩ := va.one'
      obtain ⟨a, ys, rfl, ha, r⟩ := vx.lst s
      have := boolsOf_rp r hb
      subst this
      exact ⟨a, bs, rfl, SqL.of ha, kq _ H0 H (Gr.refl s) (.bl _)⟩
    · cases e
  · cases e⟩
theorem cm_all : Calm1 dAll := fun ds c h => by
  unfold dAll at h
  repeat' first
    | cases h
    | split at h
def dSum : List D → R D
  | [.list ds] => match intsOf ds with
    | some bs => .ok (.int bs.sum)
    | none => .bad
  | _ => .bad
theorem cd_sum (hc : X.calm = true) : CalD false X (.builtin "sum") dSum := ⟨_, cr_sum hc, fun H0 H xs ds d s va e Q kq => by
  unfold dSum at e
  split at e
  · split at e
    · rename_i bs hb
      cases e
      obtain ⟨v, rfl, vx⟩ := va.one'
      obtain ⟨a, ys, rfl, ha, r⟩ := vx.lst s
      have := intsOf_rp r hb
      subst this
      exact ⟨a, bs, rfl, SqL.of ha, kq _ H0 H (Gr.refl s) (.int _)⟩
    · cases e
  · cases e⟩
theorem cm_sum : Calm1 dSum := fun ds c h => by
  unfold dSum at h
  repeat' first
    | cases h
    | split at h
def maxL : List Int → Option Int
  | [] => none
  | x :: xs => some (xs.foldl (fun a b => if a < b then b else a) x)
def minL : List Int → Option Int
  | [] => none
  | x :: xs => some (xs.foldl (fun a b => if b < a then b else a) x)
theorem maxL_of : ∀ (xs : List Int) (x m : Int), m ∈ x :: xs → (∀ y ∈ x :: xs, y ≤ m) → xs.foldl (fun a b => if a < b then b else a) x = m
  | [], x, m, h, _ => by simp at h; exact h.symm
  | y :: xs, x, m, h, k => by
    show xs.foldl _ (if x < y then y else x) = m
    have k1 := k x (by simp)
    have k2 := k y (by simp)
    refine maxL_of xs _ m ?_ fun z hz => ?_
    · simp only [List.mem_cons] at h ⊢
      rcases h with h | h | h
      · left; split <;> omega
      · left; split <;> omega
      · exact .inr h
    · simp only [List.mem_cons] at hz
      rcases hz with hz | hz
      · rw [hz]; split <;> omega
      · exact k z (by simp [hz])
theorem minL_of : ∀ (xs : List Int) (x m : Int), m ∈ x :: xs → (∀ y ∈ x :: xs, m ≤ y) → xs.foldl (fun a b => if b < a then b else a) x = m
  | [], x, m, h, _ => by simp at h; exact h.symm
  | y :: xs, x, m, h, k => by
    show xs.foldl _ (if y < x then y else x) = m
    have k1 := k x (by simp)
    have k2 := k y (by simp)
    refine minL_of xs _ m ?_ fun z hz => ?_
    · simp only [List.mem_cons] at h ⊢
      rcases h with h | h | h
      · left; split <;> omega
      · left; split <;> omega
      · exact .inr h
    · simp only [List.mem_cons] at hz
      rcases hz with hz | hz
      · rw [hz]; split <;> omega
      · exact k z (by simp [hz])
def dMin : List D → R D
  | [.list ds] => match (intsOf ds).bind minL with
    | some m => .ok (.int m)
    | none => .bad
  | [.int i, .int j] => .ok (.int (if j < i then j else i))
  | _ => .bad
def dMax : List D → R D
  | [.list ds] => match (intsOf ds).bind maxL with
    | some m => .ok (.int m)
    | none => .bad
  | [.int i, .int j] => .ok (.int (if j > i then j else i))
  | _ => .bad
theorem cd_min (hc : X.calm = true) : CalD false X (.builtin "min") dMin := ⟨_, (cr_min hc).or (call_min2 hc), fun H0 H xs ds d s va e Q kq => by
  unfold dMin at e
  split at e
  · split at e
    · rename_i m hb
      cases e
      obtain ⟨v, rfl, vx⟩ := va.one'
      obtain ⟨a, ys, rfl, ha, r⟩ := vx.lst s
      obtain ⟨ns, h1, h2⟩ := Option.bind_eq_some_iff.mp hb
      have := intsOf_rp r h1
      subst this
      refine .inl ⟨a, ns, rfl, SqL.of ha, ?_, fun m' h3 h4 => ?_⟩
      · cases ns with
        | nil => cases h2
        | cons x xs => simp
      · cases ns with
        | nil => cases h2
        | cons x xs =>
          have := minL_of xs x m' h3 h4
          have h2' : some _ = some m := h2
          rw [this] at h2'
          cases h2'
          exact kq _ H0 H (Gr.refl s) (.int _)
    · cases e
  · cases e
    obtain ⟨v, w, rfl, vx, vy⟩ := va.two
    exact .inr ⟨_, _, by rw [vx.int, vy.int], kq _ H0 H (Gr.refl s) (.int _)⟩
  · cases e⟩
theorem cd_max (hc : X.calm = true) : CalD false X (.builtin "max") dMax := ⟨_, (cr_max hc).or (call_max2 hc), fun H0 H xs ds d s va e Q kq => by
  unfold dMax at e
  split at e
  · split at e
    · rename_i m hb
      cases e
      obtain ⟨v, rfl, vx⟩ := va.one'
      obtain ⟨a, ys, rfl, ha, r⟩ := vx.lst s
      obtain ⟨ns, h1, h2⟩ := Option.bind_eq_some_iff.mp hb
      have := intsOf_rp r h1
      subst this
      refine .inl ⟨a, ns, rfl, SqL.of ha, ?_, fun m' h3 h4 => ?_⟩
      · cases ns with
        | nil => cases h2
        | cons x xs => simp
      · cases ns with
        | nil => cases h2
        | cons x xs =>
          have := maxL_of xs x m' h3 h4
          have h2' : some _ = some m := h2
          rw [this] at h2'
          cases h2'
          exact kq _ H0 H (Gr.refl s) (.int _)
    · cases e
  · cases e
    obtain ⟨v, w, rfl, vx, vy⟩ := va.two
    exact .inr ⟨_, _, by rw [vx.int, vy.int], kq _ H0 H (Gr.refl s) (.int _)⟩
  · cases e⟩
theorem cm_min : Calm1 dMin := fun ds c h => by
  unfold dMin at h
  repeat' first
    | cases h
    | split at h
theorem cm_max : Calm1 dMax := fun ds c h => by
  unfold dMax at h
  repeat' first
    | cases h
    | split at h
/-! ### tuple(..), list(..), int(..), abs, str -/
def dTupOf : List D → R D
  | [.list ds] => .ok (.tuple ds)
  | [.tuple ds] => .ok (.tuple ds)
  | _ => .bad
theorem cd_tup : CalD false X (.type "tuple") dTupOf := ⟨_, call_tuple_of, fun H0 H xs ds d s va e Q kq => by
  unfold dTupOf at e
  split at e
  · cases e
    obtain ⟨v, rfl, vx⟩ := va.one'
    obtain ⟨a, ys, rfl, ha, r⟩ := vx.lst s
    exact ⟨a, ys, rfl, .inl ⟨SqL.of ha, fun l hl => kq.newT s r hl⟩⟩
  · cases e
    obtain ⟨v, rfl, vx⟩ := va.one'
    obtain ⟨a, ys, rfl, h0, ha, r⟩ := vx.tup s
    exact ⟨a, ys, rfl, .inr ⟨SqT.of ha, kq _ H0 H (Gr.refl s) (.tup h0 r)⟩⟩
  · cases e⟩
theorem cm_tup : Calm1 dTupOf := fun ds c h => by
  unfold dTupOf at h
  repeat' first
    | cases h
    | split at h
def dLstOf : List D → R D
  | [.list ds] => .ok (.list ds)
  | [.tuple ds] => .ok (.list ds)
  | _ => .bad
theorem cd_lst : CalD true X (.type "list") dLstOf := ⟨_, call_list_of, fun H0 H xs ds d s va e Q kq => by
  unfold dLstOf at e
  split at e
  · cases e
    obtain ⟨v, rfl, vx⟩ := va.one'
    obtain ⟨a, ys, rfl, ha, r⟩ := vx.lst s
    exact ⟨a, ys, rfl, .inl (SqL.of ha), fun l hl => kq.newL s r hl⟩
  · cases e
    obtain ⟨v, rfl, vx⟩ := va.one'
    obtain ⟨a, ys, rfl, h0, ha, r⟩ := vx.tup s
    exact ⟨a, ys, rfl, .inr (SqT.of ha), fun l hl => kq.newL s r hl⟩
  · cases e⟩
theorem cm_lst : Calm1 dLstOf := fun ds c h => by
  unfold dLstOf at h
  repeat' first
    | cases h
    | split at h
def dInt : List D → R D
  | [.int i] => .ok (.int i)
  | [.bool b] => .ok (.int (if b then 1 else 0))
  | [.str x] => match PySem.intText? x with
    | some n => if decide (x.length ≤ 640) = true then .ok (.int n) else .bad
    | none => .bad
  | _ => .bad
theorem cd_int : CalD false X (.type "int") dInt := ⟨_, call_int1.or call_int_str, fun H0 H xs ds d s va e Q kq => by
  unfold dInt at e
  split at e
  · cases e
    obtain ⟨v, rfl, vx⟩ := va.one'
    exact .inl (.inl ⟨_, by rw [vx.int], kq _ H0 H (Gr.refl s) (.int _)⟩)
  · cases e
    obtain ⟨v, rfl, vx⟩ := va.one'
    exact .inl (.inr ⟨_, by rw [vx.bl], kq _ H0 H (Gr.refl s) (.int _)⟩)
  · split at e
    · rename_i n hn
      split at e
      · rename_i hl
        cases e
        obtain ⟨v, rfl, vx⟩ := va.one'
        exact .inr ⟨_, n, by rw [vx.str], hn, of_decide_eq_true hl, kq _ H0 H (Gr.refl s) (.int _)⟩
      · cases e
    · cases e
  · cases e⟩
theorem cm_int : Calm1 dInt := fun ds c h => by
  unfold dInt at h
  repeat' first
    | cases h
    | split at h
def dAbs : List D → R D
  | [.int i] => .ok (.int (if i < 0 then -i else i))
  | _ => .bad
theorem cd_abs : CalD false X (.builtin "abs") dAbs := ⟨_, call_abs, fun H0 H xs ds d s va e Q kq => by
  unfold dAbs at e
  split at e
  · cases e
    obtain ⟨v, rfl, vx⟩ := va.one'
    exact ⟨_, by rw [vx.int], kq _ H0 H (Gr.refl s) (.int _)⟩
  · cases e⟩
theorem cm_abs : Calm1 dAbs := fun ds c h => by
  unfold dAbs at h
  repeat' first
    | cases h
    | split at h
def dStr : List D → R D
  | [.int i] => if decide (i.natAbs.log2 < 1920) = true then .ok (.str (toString i)) else .bad
  | _ => .bad
theorem cd_str : CalD false X (.type "str") dStr := ⟨_, call_str_int, fun H0 H xs ds d s va e Q kq => by
  unfold dStr at e
  split at e
  · split at e
    · rename_i h
      cases e
      obtain ⟨v, rfl, vx⟩ := va.one'
      exact ⟨_, by rw [vx.int], of_decide_eq_true h, kq _ H0 H (Gr.refl s) (.str _)⟩
    · cases e
  · cases e⟩
theorem cm_str : Calm1 dStr := fun ds c h => by
  unfold dStr at h
  repeat' first
    | cases h
    | split at h
/-! ### slices -/
def cutL {α : Type} (xs : List α) (lo hi : Option Int) : List α := (xs.drop (HT.sIx xs.length 0 lo)).take (HT.sIx xs.length xs.length hi - HT.sIx xs.length 0 lo)
def dSl (d : D) (lo hi : Option Int) : R D := match d with
  | .list ds => .ok (.list (cutL ds lo hi))
  | .tuple ds => .ok (.tuple (cutL ds lo hi))
  | .str z => if szB z.length = true then .ok (.str (cutS z lo hi)) else .bad
  | _ => .bad
def dSlL (d : D) (lo hi : Option Int) : R D := match d with
  | .list ds => .ok (.list (cutL ds lo hi))
  | _ => .bad
theorem RpA.cut {vs : List V} {ds : List D} (r : RpA K H vs ds) (lo hi : Option Int) : RpA K H (cutV vs lo hi) (cutL ds lo hi) := by
  unfold cutV cutL
  rw [r.length]
  exact (r.drop _).take _
def SlD (k : Bool) (X : Cx) (f : D → Option Int → Option Int → R D) : Prop := ∃ r, SlR X r ∧ ∀ H0 H x dx lo hi d, Ex H0 H → Vx X.K H0 H x dx → f dx lo hi = .ok d → ∀ Q, Kq k X.K H0 H d Q → r x lo hi H Q
theorem sl_any : SlD false X dSl := ⟨_, sl_list.or (sl_tupA.or sl_str), fun H0 H x dx lo hi d s vx e Q kq => by
  unfold dSl at e
  split at e
  · cases e
    obtain ⟨a, ys, rfl, ha, r⟩ := vx.lst s
    exact .inl ⟨a, ys, rfl, SqL.of ha, fun p hp => (Kq.own kq).newL s (r.cut lo hi) hp⟩
  · cases e
    obtain ⟨a, ys, rfl, h0, ha, r⟩ := vx.tup s
    refine .inr (.inl ⟨a, ys, rfl, SqT.of ha, fun z => ?_, fun _ p hp => kq.newT s (r.cut lo hi) hp⟩)
    refine kq _ H0 H (Gr.refl s) (.tup h0 ?_)
    have q := r.cut lo hi
    unfold cutV at q
    rw [z.1, z.2] at q
    simpa using q
  · split at e
    · rename_i hz
      cases e
      exact .inr (.inr ⟨_, vx.str, szB_ok hz, kq _ H0 H (Gr.refl s) (.str _)⟩)
    · cases e
  · cases e⟩
theorem sl_lst : SlD true X dSlL := ⟨_, sl_list, fun H0 H x dx lo hi d s vx e Q kq => by
  unfold dSlL at e
  split at e
  · cases e
    obtain ⟨a, ys, rfl, ha, r⟩ := vx.lst s
    exact ⟨a, ys, rfl, SqL.of ha, fun p hp => kq.newL s (r.cut lo hi) hp⟩
  · cases e⟩
abbrev DO := En → R (Option Int)
def tOi (K : Fr) (mg : Str → Option Value) (W : WX) (m : DO) : TO := fun σ H Q => ∃ B ρ H0, Rl K B ρ σ H0 H ∧ Out (m ρ) (fun i => ∀ H0' H', Gr H0 H H0' H' → Q i H') (fun c => ∀ H', Ex H H' → WC mg W c σ H')
abbrev POd (X : Cx) (W : WX) (e : Option Expr) (m : DO) : Prop := PO X e (tOi X.K X.mg W m)
theorem _root_.L2.PO.wk {X : Cx} {e : Option Expr} {t t' : TO} (h : PO X e t) (k : ∀ σ H Q, t' σ H Q → t σ H Q) : PO X e t' := ⟨fun pins s σ H Q I q => h.run pins s σ H Q I (k σ H Q q)⟩
def oNone : DO := fun _ => .ok none
def oSome (m : DE) : DO := fun ρ => (m ρ).bind fun d => match d with
  | .int i => .ok (some i)
  | _ => .bad
theorem pod_none : POd X W none oNone := po_none.wk fun σ H Q ⟨B, ρ, H0, r, o⟩ => o H0 H (Gr.refl r.s)
theorem pod_some (h : PD X W e m) : POd X W (some e) (oSome m) := (po_some h).wk fun σ H Q ⟨B, ρ, H0, r, o⟩ => by
  refine ⟨B, ρ, H0, r, ?_⟩
  unfold oSome at o
  cases hm : m ρ with
  | bad => rw [hm] at o; exact o
  | er c => rw [hm] at o; exact o
  | ok d =>
    rw [hm, R.bind_ok] at o
    split at o
    · intro v H1 H2 g rp
      cases rp
      exact ⟨_, rfl, o H1 H2 g⟩
    · exact o.elim
def eSl (f : D → Option Int → Option Int → R D) (ma : DE) (ml mh : DO) : DE := fun ρ => (ma ρ).bind fun x => (ml ρ).bind fun lo => (mh ρ).bind fun hi => f x lo hi
theorem pd_sl {k : Bool} {f : D → Option Int → Option Int → R D} {lo hi : Option Expr} {ml mh : DO} {p2 : Pos} (hs : SlD k X f) (cm : ∀ d l h c, f d l h ≠ .er c) (ha : PB X W a ma) (hl : POd X W lo ml) (hh : POd X W hi mh) : PE X (.Subscript a (.Slice lo hi none p2) pos) (tE k X.K X.mg W (eSl f ma ml mh)) := by
  obtain ⟨r, h1, h2⟩ := hs
  refine (pe_slice h1 ha hl hh).wk fun σ H Q ⟨B, ρ, H0, rl, o⟩ => ?_
  refine ⟨B, ρ, H0, rl, ?_⟩
  unfold eSl at o
  cases hm : ma ρ with
  | bad => rw [hm] at o; exact o
  | er c => rw [hm] at o; exact o
  | ok da =>
    rw [hm, R.bind_ok] at o
    intro x H1 H2 g1 vx
    refine ⟨B, ρ, H1, rl.grow g1, ?_⟩
    cases hm2 : ml ρ with
    | bad => rw [hm2] at o; exact o
    | er c => rw [hm2] at o; exact fun H' e => o H' (g1.e.trans e)
    | ok l =>
      rw [hm2, R.bind_ok] at o
      intro H3 H4 g2
      refine ⟨B, ρ, H3, (rl.grow g1).grow g2, ?_⟩
      cases hm3 : mh ρ with
      | bad => rw [hm3] at o; exact o
      | er c => rw [hm3] at o; exact fun H' e => o H' ((g1.trans g2).e.trans e)
      | ok h =>
        rw [hm3, R.bind_ok] at o
        intro H5 H6 g3
        have rl3 := ((rl.grow g1).grow g2).grow g3
        cases hf : f da l h with
        | bad => rw [hf] at o; exact o.elim
        | er c => exact absurd hf (cm _ _ _ _)
        | ok d =>
          rw [hf] at o
          exact h2 H5 H6 x da l h d rl3.s (Vw.vx rl3 (vx.mono (g2.trans g3).e0)) hf Q (Kq.grow o ((g1.trans g2).trans g3))
theorem cm_sl : ∀ d l h c, dSl d l h ≠ .er c := fun d l h c z => by
  unfold dSl at z
  repeat' first
    | cases z
    | split at z
theorem cm_slL : ∀ d l h c, dSlL d l h ≠ .er c := fun d l h c z => by
  unfold dSlL at z
  repeat' first
    | cases z
    | split at z
end
end Fc
set_option Elab.async false
set_option linter.all false
set_option maxRecDepth 100000
set_option maxHeartbeats 2000000
namespace Fc
open PySem L2 Evl PySem.Spec PyProof.Rows
/-- facts of exception classes -/
inductive Fx where
  | exc (x : Str)
  | kit (x y : Str) (b : Bool)
  | kitT (x : Str) (T : String) (b : Bool)
def Fx.ok (K : Fr) : Fx → Bool
  | .exc x => He.eqO (PySem.W.findIn K (.ref (He.ga K x)) "__getattribute__") (some (some (.builtin "BaseException.__getattribute__"))) && (He.eqO (PySem.W.findIn K (.ref (He.ga K x)) "__getattr__") (some none) && (decide (PySem.W.subIn K (.ref (He.ga K x)) (.type "BaseException") = some true) &&
    (PySem.W.hasDictIn K (He.ga K x) && (He.eqO (PySem.W.findIn K (.ref (He.ga K x)) "__class__") (some (some (.builtin "object.__class__"))) && (He.eqO (PySem.W.specialIn K (.builtin "object.__class__") "__get__") (some (some (.builtin "getset_descriptor.__get__"))) &&
    (decide (PySem.W.takesIn K (.builtin "object.__class__") = some true) && decide (PySem.W.mroIn K (He.ga K x) (.type "object") = some true)))))))
  | .kit x y b => decide (PySem.W.kitOne K (.ref (He.ga K x)) (.ref (He.ga K y)) = some b)
  | .kitT x T b => decide (PySem.W.kitOne K (.ref (He.ga K x)) (.type T) = some b)
theorem Fx.exc_ok {K : Fr} {x : Str} (h : (Fx.exc x).ok K = true) : ExcC K (He.ga K x) := by
  obtain ⟨h1, h⟩ := He.ba h
  obtain ⟨h2, h⟩ := He.ba h
  obtain ⟨h3, h⟩ := He.ba h
  obtain ⟨h4, h⟩ := He.ba h
  obtain ⟨h5, h⟩ := He.ba h
  obtain ⟨h6, h⟩ := He.ba h
  obtain ⟨h7, h8⟩ := He.ba h
  exact ⟨He.eqO_ok h1, He.eqO_ok h2, of_decide_eq_true h3, h4, He.eqO_ok h5, He.eqO_ok h6, of_decide_eq_true h7, of_decide_eq_true h8⟩
def obsX (fa : List He.Fa) (fn : List He.DefD) (fx : List Fx) (K : Fr) : He.AlD × Bool := (He.obsD fa fn K, fx.all fun p => p.ok K)
def obsXG (n : Nat) (fa : List He.Fa) (fn : List He.DefD) (fx : List Fx) (g : Addr → Option Obj) : He.AlD × Bool := obsX fa fn fx (He.frG g (He.asD g n))
def hookX (n : Nat) (fa : List He.Fa) (fn : List He.DefD) (fx : List Fx) : PySem.W.Hook where
  α := He.AlD × Bool
  obs := fun s => obsXG n fa fn fx s.heap.get?
  val := fun _ => (He.valD fn, true)
  says := fun _ h => ∃ K : Fr, K.In h ∧ He.SaysD fa fn K ∧ (fx.all fun p => p.ok K) = true
  of := fun _ _ e => ⟨_, He.frG_in, congrArg (fun z : He.AlD × Bool => z.1) e, congrArg (fun z : He.AlD × Bool => z.2) e⟩
  keeps := fun _ _ _ ⟨K, hK, c⟩ k => ⟨K, PySem.W.Frag.In.keeps hK k, c⟩
theorem obsXG_eq {n : Nat} {fa : List He.Fa} {fn : List He.DefD} {fx : List Fx} {g : Addr → Option Obj} {s : Shared} (h : ∀ a, g a = s.heap.get? a) : obsXG n fa fn fx g = (hookX n fa fn fx).obs s := by
  have e : g = s.heap.get? := funext h
  rw [e] <;> rfl
/-- what the head tells -/
def Cc (fa : List He.Fa) (fn : List He.DefD) (fx : List Fx) (K : Fr) (mg : Str → Option Value) : Prop := ∃ h : Heap, K.In h ∧ h.Ns mainGlobals mg ∧ He.SaysD fa fn K ∧ (fx.all fun p => p.ok K) = true
section
variable {fa : List He.Fa} {fn : List He.DefD} {fx : List Fx} {K : Fr} {mg : Str → Option Value}
theorem Cc.glo (c : Cc fa fn fx K mg) (i : Nat) {x : Str} (h : fa[i]? = some (.glo x) := by rfl) : mg x = some (.ref (He.ga K x)) := by
  obtain ⟨hp, X, G, s, _⟩ := c
  exact He.glo_ok X G (s.fact i h)
theorem Cc.free (c : Cc fa fn fx K mg) (i : Nat) {x : Str} (h : fa[i]? = some (.free x) := by rfl) : mg x = none := by
  obtain ⟨hp, X, G, s, _⟩ := c
  exact He.free_ok X G (s.fact i h)
theorem Cc.int (c : Cc fa fn fx K mg) (i : Nat) {x : Str} {n : Int} (h : fa[i]? = some (.int x n) := by rfl) : ∃ t, mg x = some (.int n t) := by
  obtain ⟨hp, X, G, s, _⟩ := c
  exact He.int_ok X G (s.fact i h)
theorem Cc.str (c : Cc fa fn fx K mg) (i : Nat) {x z : Str} (h : fa[i]? = some (.str x z) := by rfl) : ∃ t, mg x = some (.str z t) := by
  obtain ⟨hp, X, G, s, _⟩ := c
  exact He.str_ok X G (s.fact i h)
theorem Cc.exc (c : Cc fa fn fx K mg) (i j : Nat) {x : Str} (h : fa[i]? = some (.exc x) := by rfl) (hj : fa[j]? = some (.glo x) := by rfl) : ExcF K mg x (He.ga K x) := by
  have g := c.glo j hj
  obtain ⟨hp, X, G, s, _⟩ := c
  obtain ⟨q, k, s1, t⟩ := He.exc_ok (s.fact i h)
  exact ⟨g, ⟨_, _, _, _, PySem.F.excBase_ValueError, q⟩, k, s1, t⟩
theorem Cc.exm (c : Cc fa fn fx K mg) (i : Nat) {x y : Str} {b : Bool} (h : fa[i]? = some (.exm x y b) := by rfl) : PySem.W.exmOne K (.ref (He.ga K x)) (.ref (He.ga K y)) = some b := by
  obtain ⟨hp, X, G, s, _⟩ := c
  exact He.exm_ok (s.fact i h)
theorem Cc.def_ (c : Cc fa fn fx K mg) (i : Nat) {d : He.DefD} (h : fn[i]? = some d := by rfl) : ∃ fd, FunD K d.name d.qual d.params d.body d.scope (d.dvs K) (d.kws K) (He.fAd K d.at_) fd := by
  obtain ⟨hp, X, G, s, _⟩ := c
  exact s.def_ i h
theorem Cc.fxo (c : Cc fa fn fx K mg) (i : Nat) {p : Fx} (h : fx[i]? = some p := by rfl) : p.ok K = true := by
  obtain ⟨hp, X, G, s, q⟩ := c
  exact List.all_eq_true.mp q p (List.mem_of_getElem? h)
theorem Cc.kit (c : Cc fa fn fx K mg) (i : Nat) {x y : Str} {b : Bool} (h : fx[i]? = some (.kit x y b) := by rfl) : PySem.W.kitOne K (.ref (He.ga K x)) (.ref (He.ga K y)) = some b := of_decide_eq_true (c.fxo i h)
theorem Cc.kitT (c : Cc fa fn fx K mg) (i : Nat) {x : Str} {T : String} {b : Bool} (h : fx[i]? = some (.kitT x T b) := by rfl) : PySem.W.kitOne K (.ref (He.ga K x)) (.type T) = some b := of_decide_eq_true (c.fxo i h)
theorem Cc.excC (c : Cc fa fn fx K mg) (i : Nat) {x : Str} (h : fx[i]? = some (.exc x) := by rfl) : ExcC K (He.ga K x) := Fx.exc_ok (c.fxo i h)
/-- a def that keeps its promise, as callers take it -/
def OkF (P : Program) (w : World) (K : Fr) (mg : Str → Option Value) (base : Heap) (k : Nat) (x : Str) (ps : List Str) (g : List D → R D) : Prop :=
  ∃ fd, FnD P w K mg base k (He.ga K x) fd ps g ∧ Binds K fd ps [] ∧ mg x = some (.ref (He.ga K x)) ∧ PySem.W.keepIn K (.ref (He.ga K x)) = true
end
section
variable {X : Cx} {W : WX} {e : Expr} {es : List Expr} {pos p : Pos} {k : Nat} {x : Str} {ps : List Str} {g : List D → R D} {ms : DA}
theorem pd_ok (G : OkF X.prog X.w X.K X.mg X.base k x ps g) (tk : Takes X W) (hr : Room k X.A) (hg : Gl X x) (hlen : ∀ ρ ds, ms ρ = .ok ds → ds.length = ps.length) (ha : PAf X W (e :: es) ms) (hdb : (x == ("__debug__" : Str)) = false := by decide)
    (he : starEach (e :: es) X.env = (false, eval e X.env) :: starEach es X.env := by rfl) (hpl : (backTo pos (starEach es X.env)).any (·.1) = false := by rfl) : PD X W (.Call (.Name x p) (e :: es) [] pos) (eDef g ms) := by
  obtain ⟨fd, F, b, m, kp⟩ := G
  exact pd_def F tk hr hg m kp b hlen ha hdb he hpl
theorem pd_ok0 (G : OkF X.prog X.w X.K X.mg X.base k x [] g) (tk : Takes X W) (hr : Room k X.A) (hg : Gl X x) (hdb : (x == ("__debug__" : Str)) = false := by decide) : PD X W (.Call (.Name x p) [] [] pos) (eDef g aNil) := by
  obtain ⟨fd, F, b, m, kp⟩ := G
  exact pd_def0 F tk hr hg m kp b rfl hdb
end
end Fc
set_option Elab.async false
set_option linter.all false
set_option maxRecDepth 100000
set_option maxHeartbeats 2000000
namespace Fc
open PySem L2 Evl PySem.Spec PyProof.Rows
/-! ### enumerate(tuple) -/
theorem meets_enum1 {v : Value} {o : Obj} {H : Heap → Prop} (B : Begins v o H) :
    Meets (Builtin.«enumerate.__new__» ⟨[.type "enumerate", v], []⟩) (fun _ R s => H s.heap ∧
      R (.ok (.ret (.ref (s.heap.push o).objs.size))) { s with heap := (s.heap.push o).push { cls := .type "enumerate", data := .fields #[.none, .bool false, .ref s.heap.objs.size, rawInt 0, .none, .none] } }) :=
  .of_wp fun prog w A R s h => by
    obtain ⟨hp, g, d, tk, os⟩ := s
    obtain ⟨h1, h⟩ := h
    have hsub := sub_enumerate
    have q1 : ∀ {A' : Around} {E : Value → Shared → Prop} {Q : Value → Shared → Prop}, Q (.ref hp.objs.size) ⟨hp.push o, g, d, tk, os⟩ → wpAny (model prog w) A' (pyIter v) Q E ⟨hp, g, d, tk, os⟩ :=
      fun q => B.iter prog w _ _ ⟨hp, g, d, tk, os⟩ _ h1 q
    wp_walk using q1
    refine wpAny_stack_any fun st => wpAny_pure ?_
    split
    · rename_i c _ _ _ _ _
      cases (c == Value.type "enumerate")
      · wp_walk using q1
        exact ⟨_, rfl, h⟩
      · wp_walk using q1
        exact ⟨_, rfl, h⟩
    · wp_walk using q1
      exact ⟨_, rfl, h⟩
section
variable {prog : Program} {w : World} {A : Around} {E : Value → Shared → Prop} {s : Shared}
theorem call_enumT {l : Addr} {items : Array Value} {Q : Value → Shared → Prop} (hL : s.heap.IsTuple l items)
    (h : ∀ h', IsEnum h' (s.heap.objs.size + 1) s.heap.objs.size 0 .none → h'.IsTupleIter s.heap.objs.size l 0 → h'.objs.size = s.heap.objs.size + 2 →
      (∀ b o, s.heap.get? b = some o → h'.get? b = some o) → Q (.ref (s.heap.objs.size + 1)) { s with heap := h' }) :
    wpAny (model prog w) A (call (.type "enumerate") [.ref l]) Q E s := by
  refine callType_new F.called_enumerate (by decide) (F.typeCall_enumerate_1 _) (F.newCall_enumerate_1 _) (fun obj => F.args_object_init_2 obj _) F.entry_enumerate_new
    (meets_enum1 (begins_tuple l items)) ⟨hL, ?_⟩
  have hz : (s.heap.push { cls := .type "tuple_iterator", data := .fields #[.ref l, .int 0 0] }).objs.size = s.heap.objs.size + 1 := Heap.size_push ..
  show _ ∧ _
  rw [hz]
  have he : IsEnum ((s.heap.push { cls := .type "tuple_iterator", data := .fields #[.ref l, .int 0 0] }).push
      { cls := .type "enumerate", data := .fields #[.none, .bool false, .ref s.heap.objs.size, rawInt 0, .none, .none] }) (s.heap.objs.size + 1) s.heap.objs.size 0 .none := by
    have := Heap.get?_push_size (s.heap.push { cls := .type "tuple_iterator", data := .fields #[.ref l, .int 0 0] })
      (o := { cls := .type "enumerate", data := .fields #[.none, .bool false, .ref s.heap.objs.size, rawInt 0, .none, .none] }) rfl
    rw [hz] at this
    exact this
  exact ⟨⟨_, he, rfl⟩, h _ he ⟨_, Heap.get?_push_of_some _ (Heap.get?_push_size _ rfl), rfl, rfl⟩ (by rw [Heap.size_push, hz]) fun b o x => Heap.get?_push_of_some _ (Heap.get?_push_of_some _ x)⟩
end
def IteT (K : Fr) (a : Addr) : It :=
  ⟨fun i H => ∃ (xs : List V) (x : V), SqT K H a xs ∧ xs[i]? = some x, fun i H v H' => ∃ T x, v = .ref T ∧ H T = none ∧ H' = upd H T (.tup [.int (i : Nat), x]) ∧ ∀ xs, SqT K H a xs → xs[i]? = some x, fun i H => ∃ xs : List V, SqT K H a xs ∧ xs.length ≤ i⟩
theorem turn_enumT {P : Program} {w : World} {K : Fr} {elts : List Expr} {kk : Nat} {tpos : Pos} (a e it : Addr) (hae : a ≠ e) (hai : a ≠ it) :
    Turn P w K (.Tuple elts kk tpos) (IteT K a) [e, it] e (fun i h => (∃ old, IsEnum h e it ((i : Nat) : Int) old) ∧ h.IsTupleIter it a i ∧ e ≠ it) where
  mem := by simp
  obj := fun i h st b hb => by
    obtain ⟨⟨old, he⟩, ⟨o, ho, hc, hd⟩, _⟩ := st
    have e' : b = e ∨ b = it := by simpa using hb
    rcases e' with z | z
    · rw [z]; exact ⟨_, he, fun v q => nomatch q⟩
    · rw [z]; exact ⟨o, ho, fun v q => by rw [hd] at q; cases q⟩
  keep := fun i h h' st k => let ⟨⟨old, he⟩, hi, hne⟩ := st; ⟨⟨old, k e (by simp) _ he⟩, hi.at fun o q => k it (by simp) o q, hne⟩
  item := by
    intro X hP hw hK hc i pins s σ H E I hf st hg
    subst hP hw hK
    obtain ⟨⟨old, he⟩, hit, hne⟩ := st
    obtain ⟨xs, x, hq, hx⟩ := hg
    obtain ⟨its, rv, p, hz⟩ := I.tuple hq
    obtain ⟨u, hu, ru⟩ := rv.get hx
    have hel : e < s.heap.objs.size := Heap.lt_size he
    have hil : it < s.heap.objs.size := by obtain ⟨_, q, _⟩ := hit; exact Heap.lt_size q
    have hi : i < its.toArray.size := by
      have := (List.getElem?_eq_some_iff.mp hu).1
      simpa using this
    have hef : e ∉ [it, a] := by simp [hne, Ne.symm hae]
    have hd : X.A.in1.handled = none := I.ok.hd hc
    refine wpAny_pyNext_enum_itemD (Draws.tuple (prog := X.prog) (w := X.w) (A := X.A.in1) hd it a hai its.toArray) he ⟨hit, p⟩ hi hne hef fun v h' tk hv ho hst hT hsz hk => ?_
    have hv : its.toArray[i]? = some v := hv
    have hvu : v = u := by
      have h1 : its[i]? = some v := by simpa using hv
      rw [h1] at hu
      exact Option.some.inj hu
    subst hvu
    refine ⟨_, rfl, wpAny_letOwnedTupleGo_enum (s := { s with heap := h', toks := tk + 1 }) ho fun h'' he' sb => ?_⟩
    have hT2 : h''.get? s.heap.objs.size = some { cls := .type "tuple", data := .seq #[.int i tk, v] } := (sb.2 _ (Nat.ne_of_gt hel)).trans hT
    have new : ObjOk X.prog X.w (upd H s.heap.objs.size (.tup [.int (i : Nat), x])) h'' s.heap.objs.size (.tup [.int (i : Nat), x]) :=
      ⟨by show 2 ≤ sizeLine; decide, [.int i tk, v], .cons ⟨_, rfl⟩ (.cons ru .nil), ⟨_, hT2, rfl, _, rfl⟩⟩
    have I1 : Inv X pins σ (upd H s.heap.objs.size (.tup [.int (i : Nat), x])) { s with heap := h'', toks := tk + 1 } :=
      I.turnedNew (ch := [e, it]) (fun b ob hb q => (sb.2 b (fun z => hb (by simp [z]))).trans (hk b ob (fun z => hb (by simp [z])) (fun z => hb (by simp [z])) q)) hf (Nat.le_refl _) new
    refine ⟨.ref s.heap.objs.size, _, I1, rfl, ⟨_, x, rfl, I.hok.fresh (Nat.le_refl _), rfl, fun ys hy => by rw [I.tuple_inj hy hq]; exact hx⟩, ⟨⟨v, ?_⟩, hst.1.at fun o q => (sb.2 it (Ne.symm hne)).trans q, hne⟩, fun b hb => ?_⟩
    · have e1 : ((i + 1 : Nat) : Int) = (i : Int) + 1 := by omega
      rw [e1]; exact he'
    · have hb' : b < s.heap.objs.size := by
        have e' : b = e ∨ b = it := by simpa using hb
        rcases e' with z | z
        · rw [z]; exact hel
        · rw [z]; exact hil
      rw [upd_ne (Nat.ne_of_lt hb')]
      exact (hf b hb).1
  done := by
    intro X hP hw hK hc i pins s σ H E I hf st hg
    subst hP hw hK
    obtain ⟨⟨old, he⟩, hit, hne⟩ := st
    obtain ⟨xs, hq, hx⟩ := hg
    obtain ⟨its, rv, p, hz⟩ := I.tuple hq
    obtain ⟨f0, f1, f2, f3, f4, f5⟩ := hf it (by simp)
    have hl := rv.length
    have hT : s.TypeIs (.ref e) "enumerate" := ⟨_, he, rfl⟩
    unfold pyNext
    refine wpAny_bind (wpAny_attempt (wpAny_callSpecial?_slot (name := Str.ofString "__next__") hT F.slot_enumerate_next
      (wpAny_call_entry F.slot_enumerate_next hT F.entry_enumerate_next ?_ (F.args_enumerate_next_1 _))))
    show wpAny _ _ (field (.ref e) 2 >>= _) _ _ _
    refine wpAny_bind (wpAny_field he rfl (x := .ref it) rfl ?_)
    refine wpAny_bind (wpAny_nextOf_tuple_end (items := its.toArray) (i := i) (I.ok.hd hc) hit p (by simp; omega) fun h' x he' hx' => ?_)
    obtain ⟨o, ho, hc'⟩ := hx'
    refine wpAny_bind (wpAny_isInstance (T := "StopIteration") (b := true) ⟨o, ho, hc'⟩ isSubtype_stop ?_)
    exact wpAny_pure ⟨rfl, I.turned (t' := s.toks) (fun b o hb q => he' b o hb q) f0 f1 f3 f4 f5⟩
  self := fun A i s Q E st h => let ⟨⟨_, he⟩, _⟩ := st; wpAny_pyIter_enum he h
def iEnumT (K : Fr) (ta : TA) : TI := fun σ H R => ta σ H fun vs H1 => ∃ a xs, vs = [.ref a] ∧ SqT K H1 a xs ∧ R (IteT K a) H1
theorem pi_enumT {X : Cx} {e : Expr} {ta : TA} {p pos tpos : Pos} {elts : List Expr} {kk : Nat} (hg : Gl X "enumerate") (hm : X.mg "enumerate" = none) (ha : PA X [e] ta) (hs : starEach [e] X.env = [(false, eval e X.env)] := by rfl) :
    PI X (.Tuple elts kk tpos) (.Call (.Name "enumerate" p) [e] [] pos) (iEnumT X.K ta) := by
  refine ⟨fun pins s σ H R I h => ?_⟩
  refine Call_ (ld_blt I hg hm boot_enumerate (PyProof.Rows.callWith_type1 (thn (ha.run pos pins s σ H _ I h) fun us s1 ⟨vs, H1, I1, r1, q1⟩ => ?_) hs rfl))
  obtain ⟨a, xs, ex, hq, q⟩ := q1
  subst ex
  cases r1 with
  | cons r rr =>
    cases rr
    cases r
    obtain ⟨its, rv, p', hz⟩ := I1.tuple hq
    have hla : a < s1.heap.objs.size := by obtain ⟨o, ho, _⟩ := id p'; exact Heap.lt_size ho
    refine call_enumT (show s1.heap.IsTuple a its.toArray from p') fun h' he hit hsz hk => wpAny_pyIter_enum he ?_
    have I2 : Inv X pins σ H1 { s1 with heap := h' } := I1.kept (t' := s1.toks) hk
    refine ⟨s1.heap.objs.size + 1, [s1.heap.objs.size + 1, s1.heap.objs.size], _, _, H1, rfl, I2, turn_enumT a (s1.heap.objs.size + 1) s1.heap.objs.size (Nat.ne_of_lt (Nat.lt_succ_of_lt hla)) (Nat.ne_of_lt hla), ⟨⟨.none, he⟩, hit, Nat.succ_ne_self _⟩, fun b hb => ?_, q⟩
    have e' : b = s1.heap.objs.size + 1 ∨ b = s1.heap.objs.size := by simpa using hb
    have hle : s1.heap.objs.size ≤ b := by
      rcases e' with z | z
      · rw [z]; exact Nat.le_add_right _ _
      · rw [z]; exact Nat.le_refl _
    exact I1.fpOk hle (I1.hok.fresh hle)
/-! ### the iterators as data -/
section
variable {X : Cx} {W : WX} {e a b c o tg it elt : Expr} {es : List Expr} {m ma mb mc mt : DE} {pos : Pos}
variable {K : Fr} {mg : Str → Option Value} {B : Bs} {ρ : En} {σ : L2.St} {H0 H : Hp}
def enumD (i : Nat) : List D → List D
  | [] => []
  | d :: ds => .tuple [.int (i : Nat), d] :: enumD (i + 1) ds
theorem enumD_length : ∀ (ds : List D) (i : Nat), (enumD i ds).length = ds.length
  | [], _ => rfl
  | _ :: ds, i => congrArg (· + 1) (enumD_length ds (i + 1))
theorem enumD_get : ∀ (ds : List D) (i j : Nat) {d : D}, (enumD i ds)[j]? = some d → ∃ x, ds[j]? = some x ∧ d = .tuple [.int ((i + j : Nat) : Int), x]
  | [], _, _, _, h => by simp [enumD] at h
  | d :: ds, i, 0, _, h => by simp [enumD] at h; exact ⟨d, rfl, h.symm⟩
  | d :: ds, i, j + 1, _, h => by
    obtain ⟨x, h1, h2⟩ := enumD_get ds (i + 1) j (by simpa [enumD] using h)
    refine ⟨x, by simpa using h1, ?_⟩
    rw [h2, show i + 1 + j = i + (j + 1) by omega]
theorem itok_enum {a : Addr} {xs : List V} {ds : List D} (h : H0 a = some (.lst xs)) (rs : RpA K H0 xs ds) : ItOk K (Ite K a) H0 (enumD 0 ds) := fun i => ⟨fun H e hi => ⟨xs, SqL.of (e _ _ h), by rw [rs.length]; rw [enumD_length] at hi; exact hi⟩, fun H d e hd => by
  obtain ⟨x, h1, h2⟩ := enumD_get ds 0 i hd
  obtain ⟨v, h3, h4⟩ := rs.getD h1
  refine ⟨⟨xs, v, SqL.of (e _ _ h), h3⟩, fun x' H' y => .inr (.inl ?_)⟩
  obtain ⟨T, x2, y1, y2, y3, y4⟩ := y
  have := y4 xs (SqL.of (e _ _ h))
  rw [h3] at this
  cases this
  rw [Nat.zero_add] at h2
  exact ⟨T, _, _, y2, y3, y1, h2, .cons (.int _) (.cons h4 .nil)⟩⟩
theorem itok_enumT {a : Addr} {xs : List V} {ds : List D} (h : H0 a = some (.tup xs)) (rs : RpA K H0 xs ds) : ItOk K (IteT K a) H0 (enumD 0 ds) := fun i => ⟨fun H e hi => ⟨xs, SqT.of (e _ _ h), by rw [rs.length]; rw [enumD_length] at hi; exact hi⟩, fun H d e hd => by
  obtain ⟨x, h1, h2⟩ := enumD_get ds 0 i hd
  obtain ⟨v, h3, h4⟩ := rs.getD h1
  refine ⟨⟨xs, v, SqT.of (e _ _ h), h3⟩, fun x' H' y => .inr (.inl ?_)⟩
  obtain ⟨T, x2, y1, y2, y3, y4⟩ := y
  have := y4 xs (SqT.of (e _ _ h))
  rw [h3] at this
  cases this
  rw [Nat.zero_add] at h2
  exact ⟨T, _, _, y2, y3, y1, h2, .cons (.int _) (.cons h4 .nil)⟩⟩
def dEnum : List D → R (List D)
  | [.list ds] => .ok (enumD 0 ds)
  | [.tuple ds] => .ok (enumD 0 ds)
  | _ => .bad
theorem id_enum {ms : DA} {p tpos : Pos} {elts : List Expr} {kk : Nat} (hg : Gl X "enumerate") (hm : X.mg "enumerate" = none) (ha : PAf X W [a] ms) (hs : starEach [a] X.env = [(false, eval a X.env)] := by rfl) :
    ID X W (.Tuple elts kk tpos) (.Call (.Name "enumerate" p) [a] [] pos) (iArgs dEnum ms) := ((pi_enum hg hm ha hs).or (pi_enumT hg hm ha hs)).wk fun σ H Rc ⟨B, ρ, H0, r, o⟩ => by
  unfold iArgs at o
  cases h : ms ρ with
  | bad => rw [h] at o; exact o.elim
  | er c => rw [h] at o; exact .inl ⟨B, ρ, H0, r, by rw [h]; exact o⟩
  | ok ds =>
    rw [h, R.bind_ok] at o
    unfold dEnum at o
    split at o
    · refine .inl ⟨B, ρ, H0, r, ?_⟩
      rw [h]
      intro vs H1 H2 g va
      cases va with
      | cons rp t =>
        cases t
        cases rp with
        | lst h1 h2 => exact ⟨_, _, rfl, SqL.of (g.s _ _ h1), o _ H1 H2 g (itok_enum h1 h2)⟩
    · refine .inr ⟨B, ρ, H0, r, ?_⟩
      rw [h]
      intro vs H1 H2 g va
      cases va with
      | cons rp t =>
        cases t
        cases rp with
        | tup h1 h2 => exact ⟨_, _, rfl, SqT.of (g.s _ _ h1), o _ H1 H2 g (itok_enumT h1 h2)⟩
    · exact o.elim
def zipD : List D → List D → List D
  | x :: xs, y :: ys => .tuple [x, y] :: zipD xs ys
  | _, _ => []
theorem zipD_get : ∀ (xs ys : List D) (j : Nat) {d : D}, (zipD xs ys)[j]? = some d → ∃ x y, xs[j]? = some x ∧ ys[j]? = some y ∧ d = .tuple [x, y]
  | [], _, _, _, h => by simp [zipD] at h
  | _ :: _, [], _, _, h => by simp [zipD] at h
  | x :: xs, y :: ys, 0, _, h => by simp [zipD] at h; exact ⟨x, y, rfl, rfl, h.symm⟩
  | x :: xs, y :: ys, j + 1, _, h => by
    obtain ⟨a, b, h1, h2, h3⟩ := zipD_get xs ys j (by simpa [zipD] using h)
    exact ⟨a, b, by simpa using h1, by simpa using h2, h3⟩
theorem zipD_end : ∀ (xs ys : List D) (j : Nat), (zipD xs ys).length ≤ j → xs.length ≤ j ∨ ys.length ≤ j
  | [], _, _, _ => .inl (Nat.zero_le _)
  | _ :: _, [], _, _ => .inr (Nat.zero_le _)
  | x :: xs, y :: ys, 0, h => by simp [zipD] at h
  | x :: xs, y :: ys, j + 1, h => by
    rcases zipD_end xs ys j (by simpa [zipD] using h) with q | q
    · exact .inl (by simpa using q)
    · exact .inr (by simpa using q)
theorem itok_zip {a b : Addr} {xs ys : List V} {ds fs : List D} (h : H0 a = some (.lst xs)) (rs : RpA K H0 xs ds) (h' : H0 b = some (.lst ys)) (rs' : RpA K H0 ys fs) : ItOk K (Itz K a b) H0 (zipD ds fs) := fun i => ⟨fun H e hi => ⟨xs, ys, SqL.of (e _ _ h), SqL.of (e _ _ h'), by rw [rs.length, rs'.length]; exact zipD_end _ _ _ hi⟩, fun H d e hd => by
  obtain ⟨x, y, h1, h2, h3⟩ := zipD_get ds fs i hd
  obtain ⟨v, h4, h5⟩ := rs.getD h1
  obtain ⟨w, h6, h7⟩ := rs'.getD h2
  refine ⟨⟨xs, ys, v, w, SqL.of (e _ _ h), SqL.of (e _ _ h'), h4, h6⟩, fun x' H' q => .inr (.inl ?_)⟩
  obtain ⟨T, x2, y2, q1, q2, q3, q4, q5⟩ := q
  have e1 := q4 xs (SqL.of (e _ _ h))
  have e2 := q5 ys (SqL.of (e _ _ h'))
  rw [h4] at e1
  rw [h6] at e2
  cases e1
  cases e2
  exact ⟨T, _, _, q2, q3, q1, h3, .cons h5 (.cons h7 .nil)⟩⟩
theorem itok_zipT {a b : Addr} {xs ys : List V} {ds fs : List D} (h : H0 a = some (.tup xs)) (rs : RpA K H0 xs ds) (h' : H0 b = some (.tup ys)) (rs' : RpA K H0 ys fs) : ItOk K (RZ.ItzT K a b) H0 (zipD ds fs) := fun i => ⟨fun H e hi => ⟨xs, ys, SqT.of (e _ _ h), SqT.of (e _ _ h'), by rw [rs.length, rs'.length]; exact zipD_end _ _ _ hi⟩, fun H d e hd => by
  obtain ⟨x, y, h1, h2, h3⟩ := zipD_get ds fs i hd
  obtain ⟨v, h4, h5⟩ := rs.getD h1
  obtain ⟨w, h6, h7⟩ := rs'.getD h2
  refine ⟨⟨xs, ys, v, w, SqT.of (e _ _ h), SqT.of (e _ _ h'), h4, h6⟩, fun x' H' q => .inr (.inl ?_)⟩
  obtain ⟨T, x2, y2, q1, q2, q3, q4, q5⟩ := q
  have e1 := q4 xs (SqT.of (e _ _ h))
  have e2 := q5 ys (SqT.of (e _ _ h'))
  rw [h4] at e1
  rw [h6] at e2
  cases e1
  cases e2
  exact ⟨T, _, _, q2, q3, q1, h3, .cons h5 (.cons h7 .nil)⟩⟩
def dZip : List D → R (List D)
  | [.list ds, .list es] => .ok (zipD ds es)
  | [.tuple ds, .tuple es] => .ok (zipD ds es)
  | _ => .bad
theorem id_zip {ms : DA} {p tpos : Pos} {elts : List Expr} {kk : Nat} (hg : Gl X "zip") (hm : X.mg "zip" = none) (ha : PAf X W [a, b] ms)
    (hs : starEach [a, b] X.env = (false, eval a X.env) :: starEach [b] X.env := by rfl) (hpl : (backTo pos (starEach [b] X.env)).any (·.1) = false := by rfl) :
    ID X W (.Tuple elts kk tpos) (.Call (.Name "zip" p) [a, b] [] pos) (iArgs dZip ms) := (RZ.pi_zipA hg hm ha hs hpl).wk fun σ H Rc ⟨B, ρ, H0, r, o⟩ => by
  unfold iArgs at o
  refine ⟨B, ρ, H0, r, ?_⟩
  cases h : ms ρ with
  | bad => rw [h] at o; exact o.elim
  | er c => rw [h] at o; exact o
  | ok ds =>
    rw [h, R.bind_ok] at o
    intro vs H1 H2 g va
    unfold dZip at o
    split at o
    · cases va with
      | cons rp t =>
        cases t with
        | cons rp' t =>
          cases t
          cases rp with
          | lst h1 h2 =>
            cases rp' with
            | lst h3 h4 => exact ⟨_, _, _, _, rfl, .inl ⟨SqL.of (g.s _ _ h1), SqL.of (g.s _ _ h3), o _ H1 H2 g (itok_zip h1 h2 h3 h4)⟩⟩
    · cases va with
      | cons rp t =>
        cases t with
        | cons rp' t =>
          cases t
          cases rp with
          | tup h1 h2 =>
            cases rp' with
            | tup h3 h4 => exact ⟨_, _, _, _, rfl, .inr ⟨SqT.of (g.s _ _ h1), SqT.of (g.s _ _ h3), o _ H1 H2 g (itok_zipT h1 h2 h3 h4)⟩⟩
    · exact o.elim
end
end Fc
set_option Elab.async false
set_option linter.all false
set_option maxRecDepth 100000
set_option maxHeartbeats 2000000
namespace Fc
open PySem L2 Evl PySem.Spec PyProof.Rows HT
/-! ### t[::-1] -/
theorem rev_adjust (n : Nat) : Builtin.Slice.sliceAdjust none none (-1) (n : Int) = ((n : Int) - 1, -1) := by
  unfold Builtin.Slice.sliceAdjust
  rfl
theorem rev_places (n : Nat) : Builtin.Slice.slicePlaces ((n : Int) - 1) (-1) (-1) = n := by
  unfold Builtin.Slice.slicePlaces
  rw [if_neg (by decide)]
  by_cases h : (n : Int) - 1 > -1
  · rw [if_pos h, show (-(-1 : Int)) = 1 by decide, Int.ediv_one]
    omega
  · rw [if_neg h]
    show (0 : Nat) = n
    omega
theorem rev_pick (xs : Array Value) : ((List.range xs.size).filterMap fun (m : Nat) => xs[(((xs.size : Int) - 1) + (m : Int) * (-1)).toNat]?).toArray = xs.toList.reverse.toArray := by
  have e : (List.range xs.size).filterMap (fun (m : Nat) => xs[(((xs.size : Int) - 1) + (m : Int) * (-1)).toNat]?) = ((List.range xs.size).map fun k => xs.size - 1 - k).filterMap (xs[·]?) := by
    rw [List.filterMap_map]
    have ext : ∀ (l : List Nat), (∀ m ∈ l, m < xs.size) → l.filterMap (fun (m : Nat) => xs[(((xs.size : Int) - 1) + (m : Int) * (-1)).toNat]?) = l.filterMap ((xs[·]?) ∘ fun k => xs.size - 1 - k) := by
      intro l
      induction l with
      | nil => intro _; rfl
      | cons a l ih =>
        intro h
        have hm := h a (by simp)
        have e2 : (((xs.size : Int) - 1) + (a : Int) * (-1)).toNat = xs.size - 1 - a := by omega
        rw [List.filterMap_cons, List.filterMap_cons, ih fun m hm => h m (List.mem_cons_of_mem _ hm), e2] <;> rfl
    exact ext _ fun m hm => List.mem_range.mp hm
  rw [e, PySem.W.krv_range, List.filterMap_reverse, PySem.W.krv_all]
section
variable {prog : Program} {w : World} {A : Around} {E : Value → Shared → Prop} {s : Shared}
theorem getItem_tuple_rev {t sl : Addr} {items : Array Value} {vl vu vs : Value} {Q : Value → Shared → Prop} (ht : IsTup s.heap t items) (hs : s.heap.IsSliceOf sl vl vu vs) (pl : IsPart vl none) (pu : IsPart vu none) (ps : IsPart vs (some (-1)))
    (h : Q (.ref s.heap.objs.size) { s with heap := s.heap.push { cls := .type "tuple", data := .seq items.toList.reverse.toArray } })
    (hsz : items.size ≤ sizeLine) : wpAny (model prog w) A (getItem (.ref t) (.ref sl)) Q E s := by
  have htake : sizeOk (.seq items.toList.reverse.toArray) := by
    show items.toList.reverse.toArray.size ≤ sizeLine
    rw [List.size_toArray, List.length_reverse, Array.length_toList]
    omega
  obtain ⟨os, hos, hcs, hds⟩ := id hs
  have hTs : s.TypeIs (.ref sl) "slice" := ⟨os, hos, hcs⟩
  unfold getItem
  try with_reducible refine wpAny_holding ?_
  first | refine wpAny_bind (wpAny_pure ?_) | skip
  refine wpAny_bind (wpAny_sequenceKey ht.typeIs (by decide) ?_)
  refine wpAny_bind (wpAny_callSpecial?_slot (name := Str.ofString "__getitem__") ht.typeIs PyProof.Rows.slot_tuple_getitem
    (wpAny_call_entry PyProof.Rows.slot_tuple_getitem ht.typeIs entry_tuple_getitem ?_ (args_tuple_getitem _ _)))
  show wpAny _ _ (Builtin.Tuple.tupleItemsOf (.ref t) >>= _) _ _ s
  refine wpAny_bind (tupleItemsOf_ ht ?_)
  refine wpAny_bind (wpAny_typeOf hTs ?_)
  rw [if_pos (by decide)]
  refine wpAny_bind ?_
  unfold Builtin.Slice.sliceApplied Builtin.Slice.sliceFields
  refine wpAny_bind (wpAny_bind (wpAny_field hos hds (x := vl) rfl (wpAny_bind (wpAny_field hos hds (x := vu) rfl (wpAny_bind (wpAny_field hos hds (x := vs) rfl (wpAny_pure ?_)))))))
  refine wpAny_bind (slicePart_ ps ?_)
  show wpAny _ _ (if ((-1 : Int) == 0) = true then _ else _) _ _ s
  rw [if_neg (by decide)]
  refine wpAny_bind (slicePart_ pl (wpAny_bind (slicePart_ pu (wpAny_bind (wpAny_pure ?_)))))
  show wpAny _ _ (match Builtin.Slice.sliceAdjust none none (-1) (items.size : Int) with | (lo, hi) => pure (lo, (-1 : Int), Builtin.Slice.slicePlaces lo hi (-1))) _ _ s
  rw [rev_adjust]
  show wpAny _ _ (pure (((items.size : Int) - 1), (-1 : Int), Builtin.Slice.slicePlaces ((items.size : Int) - 1) (-1) (-1))) _ _ s
  rw [rev_places]
  refine wpAny_pure ?_
  have hno : ¬ ((((items.size : Int) - 1) == 0 && (-1 : Int) == 1 && items.size == items.size) = true) := by
    intro q
    rw [Bool.and_eq_true, Bool.and_eq_true] at q
    have := eq_of_beq q.1.2
    omega
  show wpAny _ _ (if (((items.size : Int) - 1) == 0 && (-1 : Int) == 1 && items.size == items.size) = true then _ else _) _ _ s
  rw [if_neg hno, rev_pick]
  first
    | exact wpAny_bind (m := Builtin.Tuple.tupleExact _) (wpAny_newObj_type (wpAny_pure ⟨_, rfl, wpAny_pure h⟩) htake)
    | exact wpAny_bind (m := Builtin.Tuple.tupleExact _) (wpAny_newObj_type (wpAny_bind (wpAny_pure (wpAny_pure ⟨_, rfl, wpAny_pure h⟩))) htake)
    | exact wpAny_bind (wpAny_bind (m := Builtin.Tuple.tupleExact _) (wpAny_newObj_type (wpAny_pure (wpAny_pure ⟨_, rfl, wpAny_pure h⟩)) htake))
    | exact wpAny_bind (wpAny_bind (m := Builtin.Tuple.tupleExact _) (wpAny_newObj_type (wpAny_pure ⟨_, rfl, wpAny_pure h⟩) htake))
end
def tRevT (K : Fr) (te : TE) : TE := fun σ H Q => te σ H fun x H1 => ∃ a xs, x = .ref a ∧ SqT K H1 a xs ∧ ∀ p, H1 p = none → Q (.ref p) (upd H1 p (.tup xs.reverse))
theorem pe_revT {X : Cx} {e : Expr} {te : TE} {k : Nat} {p1 p2 p3 pos : Pos} (he : PE X e te) : PE X (.Subscript e (.Slice none none (some (.UnaryOp .USub (.Constant (.int 1) k p1) p2)) p3) pos) (tRevT X.K te) := by
  refine ⟨fun pins s σ H Q I h => ?_⟩
  refine Subscript_ (thn (he.run pins s σ H _ I h) fun v s1 ⟨x, H1, I1, r1, q1⟩ => ?_)
  obtain ⟨a, xs, ex, hx, q⟩ := q1
  subst ex
  cases r1
  have hst : PO X (some (.UnaryOp .USub (.Constant (.int 1) k p1) p2)) (tPart (tUn (rU fun i => .int (-i)) (tC (.int 1)))) := po_some (pe_un un_neg pe_int)
  refine wpAny_Slice (thn (po_none.run pins s1 σ H1 (fun o H2 => o = none ∧ H2 = H1) I1 ⟨rfl, rfl⟩) fun vl s2 ⟨l, H2, I2, pl, el, e2⟩ => ?_)
  subst el e2
  refine thn (po_none.run pins s2 σ H2 (fun o H3 => o = none ∧ H3 = H2) I2 ⟨rfl, rfl⟩) fun vu s3 ⟨u, H3, I3, pu, eu, e3⟩ => ?_
  subst eu e3
  refine thn (hst.run pins s3 σ H3 (fun o H4 => o = some (-1) ∧ H4 = H3) I3 ⟨1, rfl, -1, rfl, rfl, rfl⟩) fun vs s4 ⟨o, H4, I4, ps, eo, e4⟩ => ?_
  subst eo e4
  have I5 : Inv X pins σ H4 { s4 with heap := s4.heap.push { cls := .type "slice", data := .fields #[vl, vu, vs] } } := I4.kept (t' := s4.toks) fun b ob q => Heap.get?_push_of_some _ q
  obtain ⟨its, r, ht, hz⟩ := I5.tuple hx
  have hlen := r.length
  show wpAny (model X.prog X.w) X.A (subscriptTail e (.Slice none none (some (.UnaryOp .USub (.Constant (.int 1) k p1) p2)) p3) (.ref a) (.ref s4.heap.objs.size)) (EP X pins σ Q) X.xe { s4 with heap := s4.heap.push { cls := .type "slice", data := .fields #[vl, vu, vs] } }
  refine tail_any (ops := [.ref a, .ref s4.heap.objs.size]) (show IsTup _ a its.toArray from ht).typeIs (PyProof.Rows.slot_tuple_getitem.lookup) ?_ (by with_unfolding_all rfl)
  refine getItem_tuple_rev (show IsTup _ a its.toArray from ht) (Heap.IsSliceOf.new _ vl vu vs) pl pu ps ?_ (by rw [List.size_toArray]; omega)
  refine ⟨.ref _, _, I5.laid (t' := s4.toks) (o := .tup xs.reverse) (fun b ob q => Heap.get?_push_of_some _ q) (Nat.le_refl _) ?_, rfl, q _ (I5.hok.fresh (Nat.le_refl _))⟩
  exact ⟨by rw [List.length_reverse]; exact hz, _, r.reverse, IsTup.new _ _⟩
section
variable {X : Cx} {W : WX} {e a b c o tg it elt : Expr} {es : List Expr} {m ma mb mc mt : DE} {pos p1 p2 p3 p q : Pos}
variable {K : Fr} {mg : Str → Option Value} {B : Bs} {ρ : En} {σ : L2.St} {H0 H : Hp}
def dRevT : D → R D
  | .tuple ds => .ok (.tuple ds.reverse)
  | _ => .bad
def dRevL : D → R D
  | .list ds => .ok (.list ds.reverse)
  | _ => .bad
def dRev : D → R D
  | .tuple ds => .ok (.tuple ds.reverse)
  | .list ds => .ok (.list ds.reverse)
  | _ => .bad
theorem _root_.L2.PE.or {X : Cx} {e : Expr} {t t' : TE} (h : PE X e t) (h' : PE X e t') : PE X e (fun σ H R => t σ H R ∨ t' σ H R) := ⟨fun pins s σ H R I q => by
  rcases q with q | q
  · exact h.run pins s σ H R I q
  · exact h'.run pins s σ H R I q⟩
theorem eU_or {f g h : D → R D} (H : ∀ d, (∀ y, h d = .ok y → f d = .ok y ∨ g d = .ok y)) (hc : ∀ d c, h d ≠ .er c) {k : Bool} {K : Fr} {mg : Str → Option Value} {σ : L2.St} {H1 : Hp} {Q : VK} (q : tE k K mg W (eU h ma) σ H1 Q) : tE k K mg W (eU f ma) σ H1 Q ∨ tE k K mg W (eU g ma) σ H1 Q := by
  obtain ⟨B, ρ, H0, r, o⟩ := q
  unfold eU at o
  cases hm : ma ρ with
  | bad => rw [hm] at o; exact o.elim
  | er c => rw [hm] at o; exact .inl ⟨B, ρ, H0, r, by unfold eU; rw [hm]; exact o⟩
  | ok d =>
    rw [hm, R.bind_ok] at o
    cases hd : h d with
    | bad => rw [hd] at o; exact o.elim
    | er c => exact absurd hd (hc d c)
    | ok y =>
      rw [hd] at o
      rcases H d y hd with z | z
      · exact .inl ⟨B, ρ, H0, r, by unfold eU; rw [hm, R.bind_ok, z]; exact o⟩
      · exact .inr ⟨B, ρ, H0, r, by unfold eU; rw [hm, R.bind_ok, z]; exact o⟩
theorem pf_rev {k : Nat} (ha : PB X W a ma) : PF X W (.Subscript a (.Slice none none (some (.UnaryOp .USub (.Constant (.int 1) k p1) p2)) p3) pos) (eU dRevL ma) := (pe_revL ha).wk fun σ H Q h =>
  t_un (t := fun x H1 Q => ∃ a xs, x = .ref a ∧ SqL X.K H1 a xs ∧ ∀ p, H1 p = none → Q (.ref p) (upd H1 p (.lst xs.reverse))) (fun d c z => by unfold dRevL at z; split at z <;> cases z) (fun H0 H x dx d s vx e Q kq => by
    unfold dRevL at e
    split at e
    · cases e
      obtain ⟨p, xs, rfl, hp, rp⟩ := vx.lst s
      exact ⟨p, xs, rfl, SqL.of hp, fun l hl => kq.newL s rp.reverse hl⟩
    · cases e) h
theorem pd_revT {k : Nat} (ha : PB X W a ma) : PD X W (.Subscript a (.Slice none none (some (.UnaryOp .USub (.Constant (.int 1) k p1) p2)) p3) pos) (eU dRevT ma) := (pe_revT ha).wk fun σ H Q h =>
  t_un (t := fun x H1 Q => ∃ a xs, x = .ref a ∧ SqT X.K H1 a xs ∧ ∀ p, H1 p = none → Q (.ref p) (upd H1 p (.tup xs.reverse))) (fun d c z => by unfold dRevT at z; split at z <;> cases z) (fun H0 H x dx d s vx e Q kq => by
    unfold dRevT at e
    split at e
    · cases e
      obtain ⟨p, xs, rfl, _, hp, rp⟩ := vx.tup s
      exact ⟨p, xs, rfl, SqT.of hp, fun l hl => kq.newT s rp.reverse hl⟩
    · cases e) h
theorem pd_rev {k : Nat} (ha : PB X W a ma) : PD X W (.Subscript a (.Slice none none (some (.UnaryOp .USub (.Constant (.int 1) k p1) p2)) p3) pos) (eU dRev ma) := ((fd (pf_rev (W := W) ha)).or (pd_revT ha)).wk fun σ H Q h =>
  eU_or (f := dRevL) (g := dRevT) (h := dRev) (fun d y z => by
    unfold dRev at z
    split at z
    · exact .inr z
    · exact .inl z
    · cases z) (fun d c z => by unfold dRev at z; split at z <;> cases z) h
/-! ### tuples times a number -/
def dRepT : D → D → R D
  | .tuple x, .int k => if decide (2 ≤ k ∧ k ≤ 1000 ∧ 1 ≤ x.length ∧ x.length ≤ 100) = true then .ok (.tuple (List.replicate k.toNat x).flatten) else .bad
  | _, _ => .bad
theorem od_repT : OpD false X (binaryOp .Mult) dRepT := ⟨_, op_repT, fun H0 H x y dx dy d s vx vy e Q kq => by
  unfold dRepT at e
  split at e
  · split at e
    · rename_i xs k h
      cases e
      have h := of_decide_eq_true h
      obtain ⟨p, xs, rfl, _, hp, rp⟩ := vx.tup s
      have hl := rp.length
      refine ⟨p, _, xs, rfl, vy.int, SqT.of hp, fun z => ?_, h.1, h.2.1, by omega, fun l hl => kq.newT s (rp.rep _) hl⟩
      rw [z] at hl
      have := h.2.2.1
      rw [← hl] at this
      exact absurd this (by decide)
    · cases e
  · cases e⟩
def dMulA (x y : D) : R D := match x, y with
  | .tuple xs, y => dRepT (.tuple xs) y
  | x, y => dMul x y
theorem od_mulA : OpD false X (binaryOp .Mult) dMulA := OpD.or od_repT od_mul fun x y d h => by
  unfold dMulA at h
  split at h
  · exact .inl h
  · exact .inr h
theorem cm_mulA : Calm2 dMulA := fun x y c h => by
  unfold dMulA at h
  split at h
  · unfold dRepT at h
    split at h <;> first | cases h | (split at h <;> cases h)
  · exact cm_mul _ _ _ h
/-! ### sorted(set(t)), t a tuple of ints -/
def insU (x : Int) : List Int → List Int
  | [] => [x]
  | y :: ys => if x < y then x :: y :: ys else if y < x then y :: insU x ys else y :: ys
def sortU : List Int → List Int
  | [] => []
  | x :: xs => insU x (sortU xs)
theorem insU_mem (x k : Int) : ∀ l : List Int, k ∈ insU x l ↔ k = x ∨ k ∈ l
  | [] => by simp [insU]
  | y :: ys => by
    unfold insU
    split
    · simp
    · split
      · rw [List.mem_cons, insU_mem x k ys, List.mem_cons]
        constructor
        · rintro (h | h | h) <;> simp [h]
        · rintro (h | h | h) <;> simp [h]
      · have : x = y := by omega
        subst this
        simp
theorem insU_srt (x : Int) : ∀ l : List Int, l.Pairwise (· < ·) → (insU x l).Pairwise (· < ·)
  | [], _ => by simp [insU]
  | y :: ys, h => by
    obtain ⟨h1, h2⟩ := List.pairwise_cons.mp h
    unfold insU
    split
    · rename_i hx
      refine List.pairwise_cons.mpr ⟨fun k hk => ?_, h⟩
      rcases List.mem_cons.mp hk with z | z
      · omega
      · have := h1 k z; omega
    · split
      · rename_i hx
        refine List.pairwise_cons.mpr ⟨fun k hk => ?_, insU_srt x ys h2⟩
        rcases (insU_mem x k ys).mp hk with z | z
        · omega
        · exact h1 k z
      · exact h
theorem sortU_mem (k : Int) : ∀ l : List Int, k ∈ sortU l ↔ k ∈ l
  | [] => by simp [sortU]
  | x :: xs => by
    unfold sortU
    rw [insU_mem, sortU_mem k xs, List.mem_cons]
theorem sortU_srt : ∀ l : List Int, (sortU l).Pairwise (· < ·)
  | [] => .nil
  | x :: xs => insU_srt x _ (sortU_srt xs)
theorem srt_uniq : ∀ {l r : List Int}, l.Pairwise (· < ·) → r.Pairwise (· < ·) → (∀ k, k ∈ l ↔ k ∈ r) → l = r
  | [], [], _, _, _ => rfl
  | [], y :: ys, _, _, h => absurd ((h y).mpr (by simp)) (by simp)
  | x :: xs, [], _, _, h => absurd ((h x).mp (by simp)) (by simp)
  | x :: xs, y :: ys, h1, h2, h => by
    obtain ⟨a1, a2⟩ := List.pairwise_cons.mp h1
    obtain ⟨b1, b2⟩ := List.pairwise_cons.mp h2
    have e : x = y := by
      rcases List.mem_cons.mp ((h x).mp (by simp)) with z | z
      · exact z
      · rcases List.mem_cons.mp ((h y).mpr (by simp)) with z' | z'
        · exact z'.symm
        · have := b1 x z
          have := a1 y z'
          omega
    subst e
    have : xs = ys := srt_uniq a2 b2 fun k => by
      constructor
      · intro hk
        rcases List.mem_cons.mp ((h k).mp (List.mem_cons_of_mem _ hk)) with z | z
        · have := a1 k hk
          omega
        · exact z
      · intro hk
        rcases List.mem_cons.mp ((h k).mpr (List.mem_cons_of_mem _ hk)) with z | z
        · have := b1 k hk
          omega
        · exact z
    rw [this]
def rSetI (K : Fr) (w : World) : List V → Hp → VK → Prop := fun vs H Q => ∃ (a : Addr) (ns : List Int), vs = [V.ref a] ∧ SqT K H a (ns.map V.int) ∧ ns.length ≤ 1000 ∧ ∀ p S n, (∀ k, S k = decide (k ∈ ns)) → n ≤ ns.length → H p = none → Q (.ref p) (upd H p (SetO w p S n))
theorem cr_setI (hc : X.calm = true) : CallR X (.type "set") (rSetI X.K X.w) := by
  intro pins s σ H xs us Q I r h
  obtain ⟨a, ns, rfl, hq, hl, q⟩ := h
  rw [Vals.ref1 r]
  obtain ⟨its, rv, pt, hz⟩ := I.tuple hq
  have hi : IntsAre its.toArray.toList ns := ints_of_vals rv
  refine call_set_tupI ns (I.ok.hd hc) (show s.heap.IsTuple a its.toArray from pt) hi (by unfold scanBound; omega) fun h' tk c R1 hcn k => ?_
  exact ⟨.ref s.heap.objs.size, upd H s.heap.objs.size (SetO X.w s.heap.objs.size (fun j => decide (j ∈ ns)) c), I.laid (t' := tk) k (Nat.le_refl _) (setO_new R1), rfl, q _ _ _ (fun _ => rfl) hcn (I.hok.fresh (Nat.le_refl _))⟩
def dSortSet : D → R D
  | .tuple ds => match intsOf ds with
    | some ns => if decide (ns.length ≤ 60) = true then .ok (.list ((sortU ns).map .int)) else .bad
    | none => .bad
  | _ => .bad
theorem rp_ints (ns : List Int) : RpA K H (ns.map V.int) (ns.map PyData.int) := by
  induction ns with
  | nil => exact .nil
  | cons n ns ih => exact .cons (.int n) ih
theorem pf_sortset (hc : X.calm = true) (hu : X.A.units + 100 < cLine) (hg : Gl X "sorted") (hm : X.mg "sorted" = none) (hg2 : Gl X "set") (hm2 : X.mg "set" = none) (ha : PB X W a ma)
    (hs : starEach [.Call (.Name "set" p) [a] [] q] X.env = [(false, eval (.Call (.Name "set" p) [a] [] q) X.env)] := by rfl) (hs2 : starEach [a] X.env = [(false, eval a X.env)] := by rfl) :
    PF X W (.Call (.Name "sorted" p1) [.Call (.Name "set" p) [a] [] q] [] pos) (eU dSortSet ma) := by
  have h1 := pe_callTy (pos := q) (p := p) (cr_setI hc) hg2 hm2 PyProof.Rows.boot_set (pa_cons ha pa_nil hs2) (by decide) (by decide) hs2 rfl
  have h2 := pe_callB (pos := pos) (p := p1) (cr_sortedSet hc) hg hm (by decide +kernel) (pa_cons h1 pa_nil hs) (by decide) (by decide) hs rfl
  refine h2.wk fun σ H Q h => ?_
  exact t_un (t := fun x H1 Q => rSetI X.K X.w [x] H1 fun y H2 => rSortedSet X.w [y] H2 Q) (fun d c z => by unfold dSortSet at z; split at z <;> first | cases z | (split at z <;> first | cases z | (split at z <;> cases z))) (fun H0 H x dx d s vx e Q kq => by
    unfold dSortSet at e
    split at e
    · split at e
      · split at e
        · rename_i ds ns hns hl
          cases e
          have hl := of_decide_eq_true hl
          obtain ⟨t, xs, rfl, _, ht, rp⟩ := vx.tup s
          have hx := intsOf_rp rp hns
          subst hx
          refine ⟨t, ns, rfl, SqT.of ht, by omega, fun p S n hS hn hp => ⟨p, S, n, rfl, upd_same, by omega, fun ns' p2 srt mem _ hp2 => ?_⟩⟩
          have e1 : ns' = sortU ns := srt_uniq srt (sortU_srt ns) fun k => by rw [mem, hS, sortU_mem, decide_eq_true_eq]
          subst e1
          have g : Gr H0 H H0 (upd H p (SetO X.w p S n)) := ⟨Ex.refl _, Ex.new hp, s.trans (Ex.new hp), fun _ _ h => h⟩
          exact (kq.grow g).newL (s.trans (Ex.new hp)) (rp_ints _) hp2
        · cases e
      · cases e
    · cases e) h
end
end Fc
set_option Elab.async false
set_option linter.all false
set_option maxRecDepth 100000
set_option maxHeartbeats 2000000
namespace Fc
open PySem L2 Evl PySem.Spec PyProof.Rows
theorem cx_none {P : Program} {w : World} {H : Hp} {s : Shared} {e : Value} {s' : Shared} (h : L2.CX P w [] H s (fun _ _ _ => False) e s') : False := by
  obtain ⟨a, B, H', cls, d, _, _, _, _, _, _, _, z⟩ := h
  exact z
/-- the law's row, its promise told by a function over data -/
theorem walk_law {l : PySem.W.OpenLaw} {k : Nat} {q : Program} {loose : List Str} {XP : (Str → Option Value) → Heap → Prop} {YP : World → Heap → Prop} {d : DefRec} {x : Str} {g : List D → R D}
    (hn : l.most = some 63) (hdf : d.params.defaults = []) (hr : Room k callerA)
    (F : ∀ (w : World) (mg : Str → Option Value) (fa : Addr) (h : Heap), YP w h → h.Ns mainGlobals mg → mg d.name = some (.ref fa) →
      ∃ (K : Fr) (fd : FuncData), K.In h ∧ (∀ (s : Shared) (u : Value), BindsTo s fd ⟨[u], []⟩ [(x, u)]) ∧ ∀ base : Heap, K.In base → base.Ns mainGlobals mg → FnD l.prog w K mg base k fa fd [x] g)
    (hg : ∀ ns : List Int, ns.length ≤ 63 → g [.dict [(.none, .list (ns.map PyData.int))]] = .ok (.bool true)) :
    PySem.W.WalkO q loose XP YP l.row.toRowW d [] (fun f vs => PySem.call f vs) := by
  refine Att.attach_call hn hdf fun w s₀ s₁ mg mb fa o pm cd doc a vs ns G Y ho hd hcd hmg hobj hints hlen gz => ?_
  obtain ⟨K, fd, KX, hb, hF⟩ := F w mg fa _ Y G.T.g hmg
  refine law_call KX G.T.g G.T.b G.T.builtins G.T.nolimit gz hobj hints (Nat.le_trans hlen (by decide)) hr hF hb (fun H hO hS => ?_) fun H e s' => cx_none
  refine ⟨rfl, _, H, Ex.refl H, .cons (.scr hS) .nil, ?_⟩
  rw [hg ns hlen]
  intro v H0 H' gr rp
  cases rp
  rfl
end Fc
set_option Elab.async false
set_option linter.all false
set_option maxRecDepth 100000
set_option maxHeartbeats 2000000
namespace Fc
open PySem L2 Evl PySem.Spec PyProof.Rows
/-! ### a def called where an exception is handled: its object is p's -/
structure FnP (P : Program) (w : World) (K : Fr) (mg : Str → Option Value) (base : Heap) (k : Nat) (f : Addr) (fd : FuncData) (ps : List Str) (p : Addr × Obj) (sp : Sp) : Prop where
  len : ∀ vs H Q E, sp vs H Q E → vs.length = ps.length
  run : ∀ (A : Around) (outer : List PySem.Env) (s : Shared) (H : Hp) (args : Args) (us : List Value) (vs : List V) (Q : VK), L2H.RoomH k A → L2H.PinOk outer H s p → Env0 P w K mg base A outer s H → BindsTo s fd args (ps.zip us) → Vals vs us → sp vs H Q L2.E0 →
    codeAny (model P w) A (.call (.ref f) args) (CR L2.CX0 outer P w H s Q L2.E0) s
abbrev cxP (P : Program) (w : World) (K : Fr) (mg : Str → Option Value) (base : Heap) (N : List Str) (qual : Str) (scope : Scope) (f : Addr) (cd : Value) (A : Around) (outer : List PySem.Env) (s : Shared) (H : Hp) (p : Addr × Obj) : Cx :=
  L2H.cxH L2.CX0 P w K mg base N qual scope f cd A outer s H L2.E0 p
theorem fnP_of {P : Program} {w : World} {K : Fr} {mg : Str → Option Value} {base : Heap} {x qual : Str} {params : Arguments} {body : List Stmt} {scope : Scope} {dvs : List V} {kws : List (Str × V)} {f : Addr} {fd : FuncData} {N ps : List Str} {k : Nat} {p : Addr × Obj} {sp : Sp}
    (F : FunD K x qual params body scope dvs kws f fd) (S : FnScope N ps scope) (len : ∀ vs H Q E, sp vs H Q E → vs.length = ps.length)
    (hbody : ∀ (cdv : Value) (A : Around) (outer : List PySem.Env) (s : Shared) (H : Hp) (vs : List V) (Q : VK), L2H.RoomH k (A.deeper (envOfC qual scope s.heap.objs.size f cdv)) → sp vs H Q L2.E0 →
      ∃ t, PSs (cxP P w K mg base N qual scope f cdv A outer s H p) body t ∧ t { nx := fun _ H' => Q .non H', rt := Q } (L2.start N vs) H) :
    FnP P w K mg base (k + 1) f fd ps p sp := by
  obtain ⟨oc, od, dV, kV, doc, pm, an, cdv, ct, osl, rfl, lk, hcd, _, _⟩ := F.ex
  refine ⟨len, fun A outer s H args us vs Q hr hpin e0 hb r hsp => ?_⟩
  have hl := len _ _ _ _ hsp
  have KX : K.In s.heap := e0.mod.kin.keeps fun b o e => (e0.bs b o e).1
  have lim : s.heap.NoLimit := e0.mod.nolimit.keeps fun b o e => (e0.bs b o e).1
  have hkind : ∀ y ∈ ps.zip us, scope.names.lookup y.1 = some .local ∨ (scope.names.lookup y.1 = some .cell ∧ ((cellsFrom (s.heap.objs.size + 1) scope.names []).lookup y.1).isSome = true) := fun ⟨n, v⟩ hy => by
    rcases S.par n (List.of_mem_zip hy).1 with q | q
    · exact .inl q
    · exact .inr ⟨q, PySem.W.cellsFrom_some _ _ _ (.inl q)⟩
  refine codeAny_call_function hr.depth (KX _ _ lk) rfl S.co S.gen rfl (PySem.W.codeRec_of KX hcd) (hb _ _ _ _ ?_)
  refine wpAny_newFunctionEnv_cells S.kind hkind fun env he s1 x => ?_
  subst he
  refine ⟨lim.keeps x.toInCall.keep, codeAny_func ?_⟩
  obtain ⟨t, ht, hq⟩ := hbody cdv A outer s H vs Q (hr.deeper _) hsp
  have I : Inv (cxP P w K mg base N qual scope f cdv A outer s H p) [] (L2.start N vs) H s1 := L2H.inv_startH S hpin e0 hl r x
  refine wpAny_mono (ht.run [] s1 (L2.start N vs) H _ I hq) (fun fl s' hs => ?_) fun e s' hs => hs
  cases fl with
  | ret u =>
    obtain ⟨v, σ', H', J, rv, q⟩ := hs
    exact ⟨v, H', J.os, J.bare, J.base, J.hok, rv, q⟩
  | next =>
    obtain ⟨σ', H', J, q⟩ := hs
    exact ⟨.non, H', J.os, J.bare, J.base, J.hok, rfl, q⟩
  | brk =>
    obtain ⟨_, _, _, q⟩ := hs
    exact False.elim q
  | cont =>
    obtain ⟨_, _, _, q⟩ := hs
    exact False.elim q
section
variable {X : Cx} {k : Nat} {f : Addr} {fd : FuncData} {ps : List Str} {sp : Sp} {x : Str} {q pos : Pos} {e : Expr} {es : List Expr} {t : TA} {p : Addr × Obj}
theorem pe_callP (F : FnP X.prog X.w X.K X.mg X.base k f fd ps p sp) (hr : L2H.RoomH k X.A) (hp : p ∈ X.pn) (hg : Gl X x) (hm : X.mg x = some (.ref f)) (hk : PySem.W.keepIn X.K (.ref f) = true) (hb : Binds X.K fd ps [])
    (ha : PA X (e :: es) t) (hdb : (x == ("__debug__" : Str)) = false := by decide) (he : starEach (e :: es) X.env = (false, eval e X.env) :: starEach es X.env := by rfl) (hpl : (backTo pos (starEach es X.env)).any (·.1) = false := by rfl) :
    PE X (.Call (.Name x q) (e :: es) [] pos) (fun σ H Q => t σ H fun vs H1 => sp vs H1 Q L2.E0) := by
  refine ⟨fun pins s σ H Q I h => ?_⟩
  refine wpAny_Call_Name_kw (ld_glob I hg hm ?_ hdb)
  refine PySem.W.callWith_K (h₀ := X.base) I.ok.mod.kin hk (thn (ha.run pos pins s σ H _ I h) fun us s1 ⟨vs, H1, I1, r, hsp⟩ => ⟨I1.kIn, ?_⟩) he hpl
  have hl : us.length = ps.length := by rw [← r.length]; exact F.len _ _ _ _ hsp
  have b := hb s1 us I1.kIn (by rw [List.append_nil]; exact hl)
  rw [List.append_nil] at b
  have P1 := I1.pin p (List.mem_append_left _ hp)
  have hpin : L2H.PinOk X.stack H1 s1 p := ⟨P1.1, P1.2.1, fun hm => (List.mem_cons.mp (I1.stkSub p.1 hm)).elim P1.2.2.1 P1.2.2.2.1, P1.2.2.2.2⟩
  refine wpAny_call (codeAny_mono (F.run X.A X.stack s1 H1 ⟨us, []⟩ us vs Q hr hpin I1.env0 b r hsp) fun r s' hq => ?_)
  cases r with
  | error e => exact hq.elim
  | ok fl =>
    cases fl with
    | ret u => exact I1.after hq
    | next => exact False.elim hq
    | brk => exact False.elim hq
    | cont => exact False.elim hq
/-- isinstance(e, c), e's object pinned -/
theorem call_isP {a D : Addr} {oe : Obj} (C : ExcC X.K D) (hz : Zc (.ref D) none oe) (hf : ∃ vs, oe.data = .fields vs) (hp : (a, oe) ∈ X.pn) : CallR X (.builtin "isinstance") (rIsE X.K D a) := by
  intro pins s σ H xs us Q I r h
  obtain ⟨c, cv, b, rfl, hcv, e, q⟩ := h
  cases r with
  | cons rx rr =>
    cases rr with
    | cons rt rr =>
      cases rr
      cases rx
      have ec := hcv _ rt
      subst ec
      obtain ⟨hget, _⟩ := I.pin (a, oe) (List.mem_append_left _ hp)
      obtain ⟨vs, hv⟩ := hf
      have J : PySem.W.InstAt s.heap a oe D none := by
        obtain ⟨oc, od, oda, osl⟩ := oe
        obtain ⟨h1, h2⟩ := hz
        dsimp only at h1 h2 hv
        subst h1 h2 hv
        exact ⟨hget, rfl, rfl, trivial⟩
      exact PySem.W.kia_one (PySem.W.handS_kitx_exc C.hg C.hk C.hs C.hd C.ha C.hn C.ht C.hm) I.kIn J e (fun z => nomatch z) fun tk => ⟨.bl b, H, I.kept (t' := tk) fun _ _ z => z, rfl, q⟩
end
end Fc
set_option Elab.async false
set_option linter.all false
set_option maxRecDepth 100000
set_option maxHeartbeats 2000000
namespace Fc
open PySem L2 Evl PySem.Spec PyProof.Rows
/-- an exception's object, as data -/
def exD (a : Addr) : D := .dict [(.bool true, .int (a : Nat))]
def spX (K : Fr) (a : Addr) (g : List D → R D) : Sp := fun vs H Q E => vs = [.ref a] ∧ ∃ d H0, Ex H0 H ∧ g [exD a] = .ok d ∧ Kq false K H0 H d Q
theorem fn_dP {P : Program} {w : World} {K : Fr} {mg : Str → Option Value} {base : Heap} {x qual : Str} {params : Arguments} {body : List Stmt} {scope : Scope} {f : Addr} {fd : FuncData} {N : List Str} {y : Str} {k : Nat} {dvs : List V} {kws : List (Str × V)} {p : Addr × Obj} {M : DS}
    (F : FunD K x qual params body scope dvs kws f fd) (S : FnScope N [y] scope)
    (hb : ∀ (cdv : Value) (A : Around) (outer : List PySem.Env) (s : Shared) (H : Hp), L2H.RoomH k (A.deeper (envOfC qual scope s.heap.objs.size f cdv)) → SsD (cxP P w K mg base N qual scope f cdv A outer s H p) W0 body M) :
    FnP P w K mg base (k + 1) f fd [y] p (spX K p.1 (runF N.length 1 M)) := by
  refine fnP_of F S (fun vs H Q E h => by rw [h.1]; rfl) fun cdv A outer s H vs Q hr h => ⟨_, hb cdv A outer s H hr, ?_⟩
  obtain ⟨rfl, d, H0, s0, o, kq⟩ := h
  refine ⟨(H0, H), _, H0, rl_start (N := N) (n := 1) (ds := [exD p.1]) s0 (.cons (.ex p.1) .nil) rfl, ?_⟩
  unfold runF at o
  rw [if_pos (show [exD p.1].length = 1 from rfl)] at o
  refine show EndS K mg W0 (H0, H) { nx := fun _ H' => Q .non H', rt := Q } (M ([exD p.1].map Slot.fz ++ List.replicate (N.length - 1) Slot.un)) from ?_
  cases hM : M ([exD p.1].map Slot.fz ++ List.replicate (N.length - 1) Slot.un) with
  | nx ρ =>
    rw [hM] at o
    cases o
    exact fun σ H1 H2 rl => kq .non H1 H2 rl.gr .non
  | rt d' =>
    rw [hM] at o
    cases o
    exact fun v H1 H2 g rp => kq v H1 H2 g rp
  | er c ρ => rw [hM] at o; cases o
  | bk ρ => rw [hM] at o; cases o
  | ct ρ => rw [hM] at o; cases o
  | bad => rw [hM] at o; cases o
section
variable {X : Cx} {W : WX} {e a b c o tg it elt : Expr} {es : List Expr} {m ma mb mc mt : DE} {pos p1 p2 p3 p q : Pos}
variable {K : Fr} {mg : Str → Option Value} {B : Bs} {ρ : En} {σ : L2.St} {H0 H : Hp}
theorem Vx.ex {v : V} {a : Addr} (h : Vx K H0 H v (exD a)) : v = .ref a := by
  unfold exD at h
  rcases h with h | ⟨p, ob, rfl, _, h⟩
  · generalize q : [(PyData.bool true, PyData.int ((a : Nat) : Int))] = es at h
    generalize q2 : (PyData.dict es) = dd at h
    cases h with
    | ex a2 =>
      cases q2
      simp only [List.cons.injEq, Prod.mk.injEq, PyData.int.injEq, and_true, true_and] at q
      have : a = a2 := Int.ofNat.inj q
      rw [this]
    | dct h r =>
      cases q2
      subst q
      generalize q3 : [(PyData.bool true, PyData.int ((a : Nat) : Int))] = es at r
      cases r with
      | nil => cases q3
      | cons h r => cases q3
    | scr h =>
      cases q2
      cases q
    | _ => cases q2
  · rcases h with ⟨xs, ds', rfl, q, r⟩ | ⟨kvs, es', rfl, q, r⟩
    · cases q
    · cases q
      generalize q3 : [(PyData.bool true, PyData.int ((a : Nat) : Int))] = es at r
      cases r with
      | nil => cases q3
      | cons h r => cases q3
/-- isinstance(e, C): the object's class is known -/
def dIsE (a : Addr) (b : Bool) : D → R D
  | .dict [(.bool true, .int i)] => if i = (a : Nat) then .ok (.bool b) else .bad
  | _ => .bad
theorem pd_isEv {x : Str} {v : V} {cv : Value} {a0 D0 : Addr} {oe : Obj} {r : Bool} (C : ExcC X.K D0) (hz : Zc (.ref D0) none oe) (hf : ∃ vs, oe.data = .fields vs) (hp : (a0, oe) ∈ X.pn) (hg : Gl X "isinstance") (hm : X.mg "isinstance" = none)
    (hc : PE X (.Name x p2) (tC v)) (hcv : ∀ u, RelV v u → u = cv) (hk : PySem.W.kitOne X.K (.ref D0) cv = some r) (ha : PB X W a ma)
    (he : starEach (a :: [.Name x p2]) X.env = (false, eval a X.env) :: starEach [.Name x p2] X.env := by rfl) (he2 : starEach [.Name x p2] X.env = (false, eval (.Name x p2) X.env) :: starEach [] X.env := by rfl) (hpl : (backTo pos (starEach [.Name x p2] X.env)).any (·.1) = false := by rfl) :
    PD X W (.Call (.Name "isinstance" p) [a, .Name x p2] [] pos) (eU (dIsE a0 r) ma) :=
  (pe_callB (call_isP C hz hf hp) hg hm PyProof.Rows.boot_isinstance (pa_cons ha (pa_cons hc pa_nil he2) he) (by decide) (by decide) he hpl).wk fun σ H Q h => by
    refine t_un (k := false) (f := dIsE a0 r) (t := fun x H1 Q => rIsE X.K D0 a0 [x, v] H1 Q) (fun d c z => by unfold dIsE at z; split at z <;> first | cases z | (split at z <;> cases z)) (fun H0 H x dx d s vx e Q kq => ?_) h
    unfold dIsE at e
    split at e
    · split at e
      · rename_i i hi
        cases e
        subst hi
        have := vx.ex
        subst this
        exact ⟨v, cv, r, rfl, hcv, hk, kq _ H0 H (Gr.refl s) (.bl _)⟩
      · cases e
    · cases e
/-- isinstance(e, C), C a class of the module -/
theorem pd_isE {x : Str} {a0 D0 D1 : Addr} {oe : Obj} {r : Bool} (C : ExcC X.K D0) (hz : Zc (.ref D0) none oe) (hf : ∃ vs, oe.data = .fields vs) (hp : (a0, oe) ∈ X.pn) (hg : Gl X "isinstance") (hm : X.mg "isinstance" = none)
    (hgx : Gl X x) (hmx : X.mg x = some (.ref D1)) (hk : PySem.W.kitOne X.K (.ref D0) (.ref D1) = some r) (ha : PB X W a ma) (hd : (x == ("__debug__" : Str)) = false := by decide)
    (he : starEach (a :: [.Name x p2]) X.env = (false, eval a X.env) :: starEach [.Name x p2] X.env := by rfl) (he2 : starEach [.Name x p2] X.env = (false, eval (.Name x p2) X.env) :: starEach [] X.env := by rfl) (hpl : (backTo pos (starEach [.Name x p2] X.env)).any (·.1) = false := by rfl) :
    PD X W (.Call (.Name "isinstance" p) [a, .Name x p2] [] pos) (eU (dIsE a0 r) ma) :=
  pd_isEv (v := .ref D1) (cv := .ref D1) C hz hf hp hg hm (pe_glob hgx hmx rfl hd) (fun u h => h) hk ha he he2 hpl
theorem pd_isEt {T : Str} {Ts : String} {a0 D0 : Addr} {oe : Obj} {r : Bool} (C : ExcC X.K D0) (hz : Zc (.ref D0) none oe) (hf : ∃ vs, oe.data = .fields vs) (hp : (a0, oe) ∈ X.pn) (hg : Gl X "isinstance") (hm : X.mg "isinstance" = none)
    (hgT : Gl X T) (hmT : X.mg T = none) (hbT : bootBuiltins T = some (.type Ts)) (hk : PySem.W.kitOne X.K (.ref D0) (.type Ts) = some r) (ha : PB X W a ma) (hn : T ≠ "__name__" := by decide) (hd : (T == ("__debug__" : Str)) = false := by decide)
    (he : starEach (a :: [.Name T p2]) X.env = (false, eval a X.env) :: starEach [.Name T p2] X.env := by rfl) (he2 : starEach [.Name T p2] X.env = (false, eval (.Name T p2) X.env) :: starEach [] X.env := by rfl) (hpl : (backTo pos (starEach [.Name T p2] X.env)).any (·.1) = false := by rfl) :
    PD X W (.Call (.Name "isinstance" p) [a, .Name T p2] [] pos) (eU (dIsE a0 r) ma) :=
  pd_isEv (v := .ty Ts) (cv := .type Ts) C hz hf hp hg hm (pe_bltn hgT hmT hbT rfl hn hd) (fun u h => h) hk ha he he2 hpl
/-! ### methods of lists with one argument -/
def isL : D → Bool
  | .list _ => true
  | _ => false
def eMet (op : D → D → R D) (ma mb : DE) : DE := fun ρ => (ma ρ).bind fun x => if isL x = true then (mb ρ).bind fun y => op x y else .bad
def MtD (X : Cx) (id : String) (op : D → D → R D) : Prop := ∃ r, MtR X id r ∧ ∀ H0 H x y dx dy d, Ex H0 H → Vx X.K H0 H x dx → Vx X.K H0 H y dy → op dx dy = .ok d → ∀ Q, Kq false X.K H0 H d Q → r x [y] H Q
theorem pd_met {name : Str} {id : String} {op : D → D → R D} {apos : Pos} (slot : PySem.Slot "list" name id) (hty : typeOf (.builtin id) = pure (.type "method_descriptor")) (hm : MtD X id op) (cm : Calm2 op) (ha : PB X W a ma) (hb : PB X W b mb)
    (hbase : attributeBase a name X.env (eval a X.env) = eval a X.env := by rfl)
    (hfew : ((backTo pos (starEach [b] X.env)).all (fun x => !x.1) && (backToKw pos (keywordEach [] X.env)).all (fun x => x.1.isSome)
      && decide ([b].length + ([] : List Keyword).length + (if ([] : List Keyword).isEmpty then 0 else 1) < 30)) = true := by rfl)
    (hline : (apos.endLine == pos.line) = true := by rfl) (hs : starEach [b] X.env = (false, eval b X.env) :: starEach [] X.env := by rfl) (hplain : (backTo pos (starEach [] X.env)).any (·.1) = false := by rfl) :
    PD X W (.Call (.Attribute a name apos) [b] [] pos) (eMet op ma mb) := by
  obtain ⟨r, h1, h2⟩ := hm
  refine (pe_bm PySem.F.plainAttrs_list slot hty h1 ha (pa_cons hb pa_nil hs) hbase hfew hline hs hplain).wk fun σ H Q h => ?_
  obtain ⟨B, ρ, H0, rl, o⟩ := h
  refine ⟨B, ρ, H0, rl, ?_⟩
  unfold eMet at o
  cases ha : ma ρ with
  | bad => rw [ha] at o; exact o
  | er c => rw [ha] at o; exact o
  | ok da =>
    rw [ha, R.bind_ok] at o
    intro x H1 H2 g1 vx
    have rl2 := rl.grow g1
    cases hl : isL da with
    | false => rw [hl, if_neg Bool.false_ne_true] at o; exact o.elim
    | true =>
      rw [hl, if_pos rfl] at o
      refine ⟨?_, B, ρ, H1, rl2, ?_⟩
      · cases da with
        | list ds =>
          obtain ⟨a, xs, rfl, hp, _⟩ := (Vw.vx rl2 vx).lst rl2.s
          exact .inl ⟨rfl, xs, SqL.of hp⟩
        | _ => cases hl
      · cases hb : mb ρ with
        | bad => rw [hb] at o; exact o
        | er c => rw [hb] at o; exact fun H' e => o H' (g1.e.trans e)
        | ok db =>
          rw [hb, R.bind_ok] at o
          intro y H3 H4 g2 vy
          have rl3 := rl2.grow g2
          cases hc : op da db with
          | bad => rw [hc] at o; exact o.elim
          | er c => exact absurd hc (cm _ _ _)
          | ok d =>
            rw [hc] at o
            exact h2 H3 H4 x y da db d rl3.s (Vw.vx rl3 (vx.mono g2.e0)) (Vw.vx rl3 vy) hc Q (Kq.grow o (g1.trans g2))
end
end Fc
set_option Elab.async false
set_option linter.all false
set_option maxRecDepth 100000
set_option maxHeartbeats 2000000
namespace Fc
open PySem L2 Evl PySem.Spec PyProof.Rows
/-! ### xs.count(y), xs.index(y) over data -/
def rCountD (K : Fr) : V → List V → Hp → VK → Prop := fun x xs H Q => ∃ (a : Addr) (y : V) (d : PyData) (ds : List PyData), x = V.ref a ∧ xs = [y] ∧ Dp K H (V.ref a) (.list ds) ∧ Dp K H y d ∧ SeqAt.shaped (.list ds) = true ∧ SeqAt.shaped d = true ∧ Q (.int (ds.countP fun z => PyData.eqv z d : Nat)) H
theorem mt_countD {X : Cx} (hu : X.A.units + 65 < cLine) : MtR X "list.count" (rCountD X.K) := by
  intro pins s σ H x xs v us Q I rx rxs h
  obtain ⟨a, y, d, ds, rfl, rfl, hl, hy, sl, sd, q⟩ := h
  cases rx
  cases rxs with
  | cons ry rt =>
    rename_i uy ut
    cases rt
    obtain ⟨bs, r1⟩ := Dp.reads I d y uy hy ry
    have hxs : PyData.canLayAll0 ds = true := SeqAt.canLay_of_shaped sl
    have hroom : X.A.units + 1 + min (PyData.depthAll ds) d.depth < cLine := room_in_shaped sd hu
    cases hl with
    | lst hs ha =>
      obtain ⟨its, rv, ⟨⟨cls, dd, data, sls⟩, n, ho, hc, hdn, hdt⟩, hlen⟩ := I.list hs
      simp only at hc hdt
      subst hc hdt
      obtain ⟨as, h4⟩ := Dp.readsAll I ds _ its ha rv
      have hmap : its.map (SeqAt.readOf s.heap) = ds := SeqAt.readsAll_map ds its as hxs h4
      refine call_meets PySem.F.slot_list_count ⟨_, ho, rfl⟩ PySem.F.entry_list_count (PySem.F.args_list_count_2 _ _)
        (SeqAt.list_countAt a its.toArray n dd sls uy (fun u => PyData.eqv (SeqAt.readOf s.heap u) d)) ⟨ho, SeqAt.items_eqAt (vs := its.toArray) (show ReadsAll s.heap its.toArray.toList ds as from h4) r1 hxs (SeqAt.canLay_of_shaped sd) hroom, ?_⟩
      refine ⟨.int (ds.countP fun z => PyData.eqv z d : Nat), H, I.tok _, ⟨s.toks, ?_⟩, q⟩
      have : its.toArray.toList.countP (fun u => PyData.eqv (SeqAt.readOf s.heap u) d) = ds.countP fun z => PyData.eqv z d := by
        rw [← hmap, List.countP_map] <;> rfl
      rw [this]
def dCount (x y : D) : R D := match x with
  | .list ds => if (SeqAt.shaped (.list ds) && SeqAt.shaped y) = true then .ok (.int (ds.countP fun z => PyData.eqv z y : Nat)) else .bad
  | _ => .bad
def dIndex (x y : D) : R D := match x with
  | .list ds => if (SeqAt.shaped (.list ds) && SeqAt.shaped y) = true then (match ds.findIdx? fun z => PyData.eqv z y with
    | some j => .ok (.int (j : Nat))
    | none => .bad) else .bad
  | _ => .bad
theorem cm_count : Calm2 dCount := fun x y c h => by
  unfold dCount at h
  split at h <;> first | cases h | (split at h <;> cases h)
theorem cm_index : Calm2 dIndex := fun x y c h => by
  unfold dIndex at h
  split at h
  · split at h
    · split at h <;> cases h
    · cases h
  · cases h
section
variable {X : Cx} {W : WX} {e a b c o tg it elt : Expr} {es : List Expr} {m ma mb mc mt : DE} {pos p1 p2 p3 p q : Pos}
variable {K : Fr} {mg : Str → Option Value} {B : Bs} {ρ : En} {σ : L2.St} {H0 H : Hp} {E : Ends}
theorem shaped_uns {d : D} (h : SeqAt.shaped d = true) : unS d = d := by
  cases d with
  | dict es =>
    have := SeqAt.canLay_of_shaped h
    simp [PyData.canLay0] at this
  | _ => rfl
theorem Vx.dps {v : V} {d : D} (s : Ex H0 H) (h : Vx K H0 H v d) (c : SeqAt.shaped d = true) : Dp K H v d := by
  have e := shaped_uns c
  have := h.dp s (by rw [e]; exact SeqAt.canLay_of_shaped c)
  rw [e] at this
  exact this
theorem md_count (hu : X.A.units + 100 < cLine) : MtD X "list.count" dCount := ⟨_, mt_countD (by omega), fun H0 H x y dx dy d s vx vy e Q kq => by
  unfold dCount at e
  split at e
  · split at e
    · rename_i ds h
      cases e
      obtain ⟨h1, h2⟩ := Bool.and_eq_true_iff.mp h
      have hl := vx.dps s h1
      obtain ⟨a, xs, rfl, _, _⟩ := vx.lst s
      exact ⟨a, y, dy, ds, rfl, rfl, hl, vy.dps s h2, h1, h2, kq _ H0 H (Gr.refl s) (.int _)⟩
    · cases e
  · cases e⟩
theorem md_index (hu : X.A.units + 100 < cLine) : MtD X "list.index" dIndex := ⟨_, mt_indexD (by omega), fun H0 H x y dx dy d s vx vy e Q kq => by
  unfold dIndex at e
  split at e
  · split at e
    · rename_i ds h
      obtain ⟨h1, h2⟩ := Bool.and_eq_true_iff.mp h
      split at e
      · rename_i j hj
        cases e
        have hl := vx.dps s h1
        obtain ⟨a, xs, rfl, _, _⟩ := vx.lst s
        obtain ⟨hjl, h3, h4⟩ := List.findIdx?_eq_some_iff_getElem.mp hj
        refine ⟨a, y, dy, ds, j, ds[j], rfl, rfl, hl, vy.dps s h2, h1, h2, List.getElem?_eq_getElem hjl, h3, fun m z hm hz => ?_, kq _ H0 H (Gr.refl s) (.int _)⟩
        obtain ⟨hml, rfl⟩ := List.getElem?_eq_some_iff.mp hz
        simpa using h4 m hm
      · cases e
    · cases e
  · cases e⟩
theorem pd_count {apos : Pos} (hu : X.A.units + 100 < cLine) (ha : PB X W a ma) (hb : PB X W b mb)
    (hbase : attributeBase a "count" X.env (eval a X.env) = eval a X.env := by rfl)
    (hfew : ((backTo pos (starEach [b] X.env)).all (fun x => !x.1) && (backToKw pos (keywordEach [] X.env)).all (fun x => x.1.isSome)
      && decide ([b].length + ([] : List Keyword).length + (if ([] : List Keyword).isEmpty then 0 else 1) < 30)) = true := by rfl)
    (hline : (apos.endLine == pos.line) = true := by rfl) (hs : starEach [b] X.env = (false, eval b X.env) :: starEach [] X.env := by rfl) (hplain : (backTo pos (starEach [] X.env)).any (·.1) = false := by rfl) :
    PD X W (.Call (.Attribute a "count" apos) [b] [] pos) (eMet dCount ma mb) := pd_met PySem.F.slot_list_count PySem.F.type_list_count (md_count hu) cm_count ha hb hbase hfew hline hs hplain
theorem pd_index {apos : Pos} (hu : X.A.units + 100 < cLine) (ha : PB X W a ma) (hb : PB X W b mb)
    (hbase : attributeBase a "index" X.env (eval a X.env) = eval a X.env := by rfl)
    (hfew : ((backTo pos (starEach [b] X.env)).all (fun x => !x.1) && (backToKw pos (keywordEach [] X.env)).all (fun x => x.1.isSome)
      && decide ([b].length + ([] : List Keyword).length + (if ([] : List Keyword).isEmpty then 0 else 1) < 30)) = true := by rfl)
    (hline : (apos.endLine == pos.line) = true := by rfl) (hs : starEach [b] X.env = (false, eval b X.env) :: starEach [] X.env := by rfl) (hplain : (backTo pos (starEach [] X.env)).any (·.1) = false := by rfl) :
    PD X W (.Call (.Attribute a "index" apos) [b] [] pos) (eMet dIndex ma mb) := pd_met PySem.F.slot_list_index PySem.F.type_list_index (md_index hu) cm_index ha hb hbase hfew hline hs hplain
/-! ### try: .. except C as e: return f(e) -/
def sTryR (M : DS) (T : Str → R D) : DS := fun ρ => match M ρ with
  | .er c _ => (match T c with
    | .ok d => .rt d
    | _ => .bad)
  | r => r
/-- what is known of f, called in the suite: of an exception of the class c it makes T c -/
structure TryF (P : Program) (w : World) (K : Fr) (mg : Str → Option Value) (base : Heap) (k : Nat) (f : Str) (cl : Value) (T : Str → R D) : Prop where
  fn : ∃ (fa : Addr) (fd : FuncData) (y : Str), mg f = some (.ref fa) ∧ PySem.W.keepIn K (.ref fa) = true ∧ Binds K fd [y] [] ∧
    ∀ (c : Str) (d : D), T c = .ok d → ∀ C, mg c = some (.ref C) → PySem.W.exmOne K (.ref C) cl = some true ∧
      ∀ (a : Addr) (oe : Obj), Zc (.ref C) none oe → (∃ vs, oe.data = .fields vs) → ∃ g, FnP P w K mg base k fa fd [y] (a, oe) (spX K a g) ∧ g [exD a] = .ok d
theorem sd_tryR {x n f : Str} {cl : Value} {i k : Nat} {body : List Stmt} {np pos' pe1 pe2 pe3 pr : Pos} {M : DS} {T : Str → R D} (hs : X.stack = X.env :: X.outer) (hfr : X.env.frame = some X.env.locals) (hN : X.N.Nodup) (hi : X.N[i]? = some n) (hln : X.env.kindOf n = some .local) (hnl : X.env.scope.names.lookup n = some .local)
    (hc : Names X x cl) (tk : Takes X W) (hr : L2H.RoomH k X.A) (F : TryF X.prog X.w X.K X.mg X.base k f cl T) (hgf : Gl X f) (hd : (f == ("__debug__" : Str)) = false) (hdn : (n == ("__debug__" : Str)) = false) (hdc : (n == ("__classdict__" : Str)) = false)
    (hb : ∀ (W' : WX) (pn : List (Addr × Obj)) (xe : Value → Shared → Prop), Takes (X.tr pn xe) W' → PassesOwn (model X.prog X.w) X.A X.env xe → SsD (X.tr pn xe) W' body M)
    (hse : ∀ a pn, starEach [.Name n pe1] (X.suite a pn).env = (false, eval (.Name n pe1) (X.suite a pn).env) :: starEach [] (X.suite a pn).env := by intro _ _; rfl) (hpl : ∀ a pn, (backTo pe3 (starEach [] (X.suite a pn).env)).any (·.1) = false := by intro _ _; rfl) :
    SD X W (.Try body [.ExceptHandler (some (.Name x np)) (some n) [.Return (some (.Call (.Name f pe2) [.Name n pe1] [] pe3)) pr] pos'] [] [] pos) (sTryR M T) := by
  obtain ⟨fa, fd, y, hm, hk, hbd, hT⟩ := F.fn
  let ts : Addr → Value → Option Addr → TS := fun a cls dd => fun E σ H => dd = none ∧ ∃ c C d, cls = .ref C ∧ X.mg c = some (.ref C) ∧ T c = .ok d ∧ (∃ σ0 : L2.St, σ = σ0.set i (some (.ref a))) ∧ ∃ H0, Ex H0 H ∧ Kq false X.K H0 H d E.rt
  refine (ps_try_as (ts := ts) (tb := fun W' => tS X.K X.mg W' M) hs hfr hN hi hln hc tk (fun W' pn xe t p => hb W' pn xe t p) fun a oe cls dd pn hz hv => ?_).wk fun E σ H ⟨B, ρ, H0, rl, o⟩ => ⟨B, ρ, H0, rl, ?_⟩
  · refine ⟨fun pins s σ H E I h => ?_⟩
    obtain ⟨rfl, c, C, d, rfl, hcC, hTc, ⟨σ0, hσ0⟩, H0, s0, kq⟩ := h
    have hσ : σ[i]? = some (some (.ref a)) := by
      have hl : σ.length = X.N.length := I.len
      have hin := (List.getElem?_eq_some_iff.mp hi).1
      have hil : i < σ0.length := by
        rw [hσ0, List.length_set] at hl
        omega
      rw [hσ0]
      simp [hil]
    obtain ⟨_, hF⟩ := hT c d hTc C hcC
    obtain ⟨g, hF, hg⟩ := hF a oe hz hv
    have hp := pe_callP (X := X.suite a ((a, oe) :: pn)) (x := f) (q := pe2) (pos := pe3) (e := .Name n pe1) (es := []) hF ⟨hr.dp, hr.un⟩ List.mem_cons_self hgf hm hk hbd (pa_cons (pv i hi (.inl hnl) hdn hdc) pa_nil (hse _ _)) hd (hse _ _) (hpl _ _)
    exact (pss_one (ps_ret (pos := pr) hp)).run pins s σ H E I ⟨.ref a, hσ, rfl, d, H0, s0, hg, kq⟩
  · unfold sTryR at o
    cases hM : M ρ with
    | nx ρ' => rw [hM] at o; exact o
    | bk ρ' => rw [hM] at o; exact o
    | ct ρ' => rw [hM] at o; exact o
    | rt d => rw [hM] at o; exact o
    | bad => rw [hM] at o; exact o
    | er c ρ' =>
      rw [hM] at o
      cases hTc : T c with
      | bad => simp only [hTc] at o; exact o.elim
      | er c' => simp only [hTc] at o; exact o.elim
      | ok d =>
        simp only [hTc] at o
        intro σ1 H1 H2 rl2 C hC
        refine ⟨true, (hT c d hTc C hC).1, fun _ a ha => ?_, fun z => nomatch z⟩
        exact ⟨rfl, c, C, d, rfl, hC, hTc, ⟨_, rfl⟩, H1, rl2.s, fun v H0' H' g rp => o v H0' H' (rl2.gr.trans g) rp⟩
end
end Fc
set_option Elab.async false
set_option linter.all false
set_option maxRecDepth 100000
set_option maxHeartbeats 2000000
namespace Fc
open PySem L2 Evl PySem.Spec PyProof.Rows
section
variable {X : Cx} {W : WX} {e a b c o tg it elt : Expr} {es : List Expr} {m ma mb mc mt : DE} {pos p1 p2 p3 p q : Pos}
variable {K : Fr} {mg : Str → Option Value} {B : Bs} {ρ : En} {σ : L2.St} {H0 H : Hp} {E : Ends}
/-! ### an owned list is extended -/
def sExt (i : Nat) (m : DE) : DS := fun ρ => match ρ[i]? with
  | some (.ow (.list ds)) => sE m (fun d ρ => match d with
    | .list es => if szB (ds.length + es.length) = true then .nx (ρ.set i (.ow (.list (ds ++ es)))) else .bad
    | _ => .bad) ρ
  | _ => .bad
theorem sd_ext {i : Nat} {x : Str} {apos cpos : Pos} (hx : PE X (.Name x p1) (tVar i)) (he : PD X W e m) (hsw : swapsWith (.Call (.Attribute (.Name x p1) "extend" apos) [e] [] cpos) none pos.line X.env = pure false := by rfl)
    (hbase : attributeBase (.Name x p1) "extend" X.env (eval (.Name x p1) X.env) = eval (.Name x p1) X.env := by rfl)
    (hfew : ((backTo cpos (starEach [e] X.env)).all (fun x => !x.1) && (backToKw cpos (keywordEach [] X.env)).all (fun x => x.1.isSome)
      && decide ([e].length + ([] : List Keyword).length + (if ([] : List Keyword).isEmpty then 0 else 1) < 30)) = true := by rfl)
    (hline : (apos.endLine == cpos.line) = true := by rfl) (hs : starEach [e] X.env = (false, eval e X.env) :: starEach [] X.env := by rfl) :
    SD X W (.Expr (.Call (.Attribute (.Name x p1) "extend" apos) [e] [] cpos) pos) (sExt i m) :=
  (ps_expr (pe_bm PySem.F.plainAttrs_list PySem.F.slot_list_extend PySem.F.type_list_extend mt_extend hx (pa_cons he pa_nil hs) hbase hfew hline hs rfl) hsw).wk fun E σ H q => by
    obtain ⟨B, ρ, H0, r, o⟩ := q
    unfold sExt at o
    split at o
    · rename_i l hi
      obtain ⟨p, ob, q1, q4, q5⟩ := own_at r hi
      rcases q5 with ⟨xs, ds, rfl, e2, rs⟩ | ⟨_, _, _, e2, _⟩
      · cases e2
        refine ⟨.ref p, q1, .inl ⟨rfl, xs, SqL.of q4⟩, B, ρ, H0, r, ?_⟩
        unfold sE at o
        cases hm : m ρ with
        | bad => rw [hm] at o; exact o.elim
        | er c => rw [hm] at o; exact ends_er r o
        | ok d =>
          rw [hm] at o
          simp only at o
          split at o
          · rename_i es
            split at o
            · rename_i hz
              intro v H1 H2 g rp
              have r2 := r.grow g
              cases rp with
              | lst h1 h2 =>
                rename_i b ys
                refine ⟨p, b, xs, ys, rfl, rfl, g.e _ _ q4, g.s _ _ h1, szB_ok (by rw [rs.length, h2.length]; exact hz), ?_⟩
                exact o _ H1 _ (r2.mutO hi q1 (.inl ⟨_, _, rfl, rfl, (rs.mono g.e0).append h2⟩))
            · exact o.elim
          · exact o.elim
      · cases e2
    · exact o.elim
/-! ### list(range(..)) -/
def rgB (a b : Int) : Bool := decide (-100000 ≤ a ∧ a ≤ 100000 ∧ -100000 ≤ b ∧ b ≤ 100000)
def dLRg1 : D → R D
  | .int n => if rgB 0 n = true then .ok (.list (rngD 0 n.toNat)) else .bad
  | _ => .bad
def dLRg2 : D → D → R D
  | .int a, .int b => if rgB a b = true then .ok (.list (rngD a (b - a).toNat)) else .bad
  | _, _ => .bad
theorem rgB_ok {a b : Int} (h : rgB a b = true) : RgOk a b := by
  have h := of_decide_eq_true h
  exact ⟨by omega, by omega, by omega, by omega, by omega⟩
theorem rgV_rp (a : Int) (n : Nat) : RpA K H ((List.range n).map fun i => V.int (a + (i : Nat))) (rngD a n) := by
  unfold rngD
  induction List.range n with
  | nil => exact .nil
  | cons x l ih => exact .cons (.int _) ih
theorem pf_listRg1 (hc : X.calm = true) (hg : Gl X "list") (hm : X.mg "list" = none) (hg2 : Gl X "range") (hm2 : X.mg "range" = none) (ha : PB X W a ma)
    (na : starEach [a] X.env = (false, eval a X.env) :: starEach [] X.env := by rfl) (nb : starEach [.Call (.Name "range" p) [a] [] q] X.env = (false, eval (.Call (.Name "range" p) [a] [] q) X.env) :: starEach [] X.env := by rfl) :
    PF X W (.Call (.Name "list" p1) [.Call (.Name "range" p) [a] [] q] [] pos) (eU dLRg1 ma) := (pe_listRg hc hg hm (prg_1 hg2 hm2 ha na) nb).wk fun σ H Q h =>
  t_un (t := fun x H1 Q => ∃ n, x = .int n ∧ (RgOk 0 n ∧ ∀ q, H1 q = none → Q (.ref q) (upd H1 q (.lst (rgV 0 n))))) (fun d c z => by unfold dLRg1 at z; split at z <;> first | cases z | (split at z <;> cases z)) (fun H0 H x dx d s vx e Q kq => by
    unfold dLRg1 at e
    split at e
    · split at e
      · rename_i n hn
        cases e
        refine ⟨n, vx.int, rgB_ok hn, fun l hl => ?_⟩
        have := rgV_rp (K := X.K) (H := H0) 0 n.toNat
        have e2 : rgV 0 n = (List.range n.toNat).map fun i => V.int (0 + (i : Nat)) := by
          unfold rgV
          rw [Int.sub_zero]
        rw [e2]
        exact kq.newL s this hl
      · cases e
    · cases e) h
theorem pf_listRg2 (hc : X.calm = true) (hg : Gl X "list") (hm : X.mg "list" = none) (hg2 : Gl X "range") (hm2 : X.mg "range" = none) (ha : PB X W a ma) (hb : PB X W b mb)
    (na : starEach [a, b] X.env = (false, eval a X.env) :: starEach [b] X.env := by rfl) (nb : starEach [b] X.env = (false, eval b X.env) :: starEach [] X.env := by rfl) (hp : (backTo q (starEach [b] X.env)).any (·.1) = false := by rfl)
    (nc : starEach [.Call (.Name "range" p) [a, b] [] q] X.env = (false, eval (.Call (.Name "range" p) [a, b] [] q) X.env) :: starEach [] X.env := by rfl) :
    PF X W (.Call (.Name "list" p1) [.Call (.Name "range" p) [a, b] [] q] [] pos) (eBin dLRg2 ma mb) := (pe_listRg hc hg hm (prg_2 hg2 hm2 ha hb na nb hp) nc).wk fun σ H Q h =>
  t_bin (r := fun x y H1 Q => ∃ i j, x = .int i ∧ y = .int j ∧ (RgOk i j ∧ ∀ q, H1 q = none → Q (.ref q) (upd H1 q (.lst (rgV i j))))) (fun x y c z => by unfold dLRg2 at z; split at z <;> first | cases z | (split at z <;> cases z)) (fun H0 H x y dx dy d s vx vy e Q kq => by
    unfold dLRg2 at e
    split at e
    · split at e
      · rename_i i j hn
        cases e
        exact ⟨i, j, vx.int, vy.int, rgB_ok hn, fun l hl => kq.newL s (rgV_rp i (j - i).toNat) hl⟩
      · cases e
    · cases e) h
/-! ### a, b = e1, e2 -/
theorem sd_par {i j : Nat} {x y : Str} {px py pt : Pos} {kt k2 : Nat} {pt2 : Pos} (hc : X.calm = true) (hN : X.N.Nodup) (hi : X.N[i]? = some x) (hj : X.N[j]? = some y) (hij : i ≠ j)
    (hx : X.env.scope.names.lookup x = some .local) (hy : X.env.scope.names.lookup y = some .local) (ha : PD X W a ma) (hb : PD X W b mb)
    (h1 : starEach [a, b] X.env = (false, eval a X.env) :: starEach [b] X.env := by rfl) (h2 : starEach [b] X.env = (false, eval b X.env) :: starEach [] X.env := by rfl)
    (hw : swappedStores [.Tuple [.Name x px, .Name y py] kt pt] (.Tuple [a, b] k2 pt2) X.env = pure (some [x, y]) := by rfl)
    (hs : swapsWithSole [.Tuple [.Name x px, .Name y py] kt pt] (.Tuple [a, b] k2 pt2) pos.line X.env = pure false := by rfl) :
    SD X W (.Assign [.Tuple [.Name x px, .Name y py] kt pt] (.Tuple [a, b] k2 pt2) pos) (sPar i j ma mb) := (ps_par hc hN hi hj hij hx hy (af_cons ha (af_cons hb af_nil h2) h1) hw hs).wk fun E σ H ⟨B, ρ, H0, r, o⟩ => by
  refine ⟨B, ρ, H0, r, ?_⟩
  unfold sPar at o
  cases h : aCons ma (aCons mb aNil) ρ with
  | bad => rw [h] at o; exact o.elim
  | er c => rw [h] at o; exact ends_er r o
  | ok ds =>
    rw [h] at o
    intro vs H1 H2 g ra
    split at o
    · rename_i z
      cases z
      cases ra with
      | cons rx ra =>
        cases ra with
        | cons ry ra =>
          cases ra
          exact ⟨_, _, rfl, o _ H1 H2 (((r.grow g).setF rx).setF ry)⟩
    · rename_i z
      cases z
    · exact o.elim
/-! ### [f, g][i](args) -/
inductive Pk (X : Cx) (k n : Nat) : List Expr → List (List D → R D) → Prop
  | nil : Pk X k n [] []
  | cons {es : List Expr} {gs : List (List D → R D)} {x : Str} {p : Pos} {k' : Nat} {ps : List Str} {g : List D → R D} : OkF X.prog X.w X.K X.mg X.base k' x ps g → k' ≤ k → ps.length = n → Gl X x → (x == ("__debug__" : Str)) = false → starEach (.Name x p :: es) X.env = (false, eval (.Name x p) X.env) :: starEach es X.env → Pk X k n es gs → Pk X k n (.Name x p :: es) (g :: gs)
def ePick (gs : List (List D → R D)) (mi : DE) (ms : DA) : DE := fun ρ => (mi ρ).bind fun d => match d with
  | .int j => (match atI gs j with
    | some g => (ms ρ).bind g
    | none => .bad)
  | _ => .bad
/-- what the functions' list holds -/
def PkV (X : Cx) (k n : Nat) (v : V) (g : List D → R D) : Prop := ∃ (f : Addr) (fd : FuncData) (k' : Nat) (ps : List Str), v = .ref f ∧ k' ≤ k ∧ ps.length = n ∧ FnD X.prog X.w X.K X.mg X.base k' f fd ps g ∧ Binds X.K fd ps [] ∧ PySem.W.keepIn X.K (.ref f) = true
theorem Pk.args {k n : Nat} : ∀ {es : List Expr} {gs : List (List D → R D)}, Pk X k n es gs → ∃ vs : List V, vs.length = gs.length ∧ (∀ (j : Nat) (g : List D → R D), gs[j]? = some g → ∃ v, vs[j]? = some v ∧ PkV X k n v g) ∧ PA X es (fun σ H Q => Q vs H)
  | _, _, .nil => ⟨[], rfl, fun j g h => by simp at h, pa_nil⟩
  | _, _, .cons (g := g) (p := p) o hk hn hg hd hs r => by
    obtain ⟨vs, h1, h2, h3⟩ := Pk.args r
    obtain ⟨fd, F, b, m, kp⟩ := o
    refine ⟨.ref _ :: vs, by simp [h1], fun j g' h => ?_, (pa_cons (pe_glob (v := .ref _) hg m rfl hd) h3 hs)⟩
    cases j with
    | zero =>
      simp only [List.getElem?_cons_zero, Option.some.injEq] at h
      subst h
      exact ⟨_, rfl, _, _, _, _, rfl, hk, hn, F, b, kp⟩
    | succ j => exact h2 j g' (by simpa using h)
end
end Fc
set_option Elab.async false
set_option linter.all false
set_option maxRecDepth 100000
set_option maxHeartbeats 2000000
namespace Fc
open PySem L2 Evl PySem.Spec PyProof.Rows
section
variable {X : Cx} {W : WX} {e a b c o tg it elt ie : Expr} {es as : List Expr} {m ma mb mc mt mi : DE} {ms : DA} {pos p1 p2 p3 p q : Pos} {gs : List (List D → R D)}
theorem pd_pick {k n : Nat} {lp : Pos} (G : Pk X k n es gs) (tk : Takes X W) (hr : Room k X.A) (hz : es.length ≤ 100) (hgl : gs.length ≤ 100) (hi : PB X W ie mi) (hs : PlainIx ie) (hlen : ∀ ρ ds, ms ρ = .ok ds → ds.length = n) (ha : PAf X W (a :: as) ms)
    (he : starEach (a :: as) X.env = (false, eval a X.env) :: starEach as X.env := by rfl) (hpl : (backTo pos (starEach as X.env)).any (·.1) = false := by rfl)
    (hev : eval (.Call (.Subscript (.List es lp) ie p1) (a :: as) [] pos) X.env = (do callWith pos (← eval (.Subscript (.List es lp) ie p1) X.env) [] (backTo pos (starEach (a :: as) X.env)) (backToKw pos (keywordEach [] X.env))) := by rfl) :
    PD X W (.Call (.Subscript (.List es lp) ie p1) (a :: as) [] pos) (ePick gs mi ms) := by
  obtain ⟨vs, hvl, hv, hpa⟩ := G.args
  have hf := pe_ix (pos := p1) ix_list (pe_lst (pos := lp) hpa) hi hs
  refine ⟨fun pins s σ H Q I h => ?_⟩
  obtain ⟨B, ρ, H0, rl, o⟩ := h
  unfold ePick at o
  have step : tOp (rIxL X.K) (tLst fun σ H Q => Q vs H) (tW X.K X.mg W mi) σ H fun v H1 => ∃ g, PkV X k n v g ∧ tE false X.K X.mg W (eDef g ms) σ H1 Q := by
    refine ⟨Nat.le_trans (by omega : vs.length ≤ 100) (by decide), fun l hl => ?_⟩
    have g0 : Gr H0 H H0 (upd H l (.lst vs)) := ⟨Ex.refl _, Ex.new hl, rl.s.trans (Ex.new hl), fun _ _ h => h⟩
    have rl1 := rl.grow g0
    refine ⟨B, ρ, H0, rl1, ?_⟩
    cases hm : mi ρ with
    | bad => rw [hm] at o; exact o.elim
    | er c => rw [hm] at o; exact fun H' e => o H' (g0.e.trans e)
    | ok d =>
      rw [hm, R.bind_ok] at o
      intro y H1 H2 g vy
      split at o
      · rename_i j
        split at o
        · rename_i g' hg'
          obtain ⟨jn, j1, j2, j3, _, _⟩ := atI_get hg'
          obtain ⟨v, v1, v2⟩ := hv jn g' j2
          have e1 : atI vs j = some v := by
            unfold atI at hg' ⊢
            rw [hvl]
            cases hix : ixN gs.length j with
            | none => rw [hix] at hg'; cases hg'
            | some jm =>
              have := (ixN_seq hix).1
              rw [j1] at this
              cases this
              exact v1
          have hl2 : H2 l = some (.lst vs) := g.e _ _ upd_same
          refine ⟨l, vs, j, v, rfl, (Vw.vx (rl1.grow g) vy).int, SqL.of hl2, e1, g', v2, B, ρ, H1, rl1.grow g, ?_⟩
          unfold eDef
          exact o.imp (fun d kq => Kq.grow (k := false) kq (g0.trans g)) fun c kq H' e => kq H' ((g0.e.trans g.e).trans e)
        · exact o.elim
      · exact o.elim
  refine Call_ (thn (hf.run pins s σ H _ I step) fun f s1 ⟨v, H1, I1, r1, g', pk, q1⟩ => ?_) hev
  obtain ⟨fa, fd, k', ps, rfl, hk', hn, F, hb, kp⟩ := pk
  obtain rfl : f = Value.ref fa := r1
  have q2 := t_def (k := k') (n := ps.length) (fun ρ ds z => by rw [hn]; exact hlen ρ ds z) q1
  refine PySem.W.callWith_K (h₀ := X.base) I1.ok.mod.kin kp (thn (ha.run pos pins s1 σ H1 _ I1 q2) fun us s2 ⟨vs2, H2, I2, r2, q3⟩ => ⟨I2.kIn, ?_⟩) he hpl
  exact run_fnS F (hr.mono hk') hb (passAt tk σ) I2 r2 q3
end
end Fc
set_option Elab.async false
set_option linter.all false
set_option maxRecDepth 100000
set_option maxHeartbeats 2000000
namespace Fc
open PySem L2 Evl PySem.Spec PyProof.Rows
open RZ (nextOf_tuple_item nextOf_tuple_end)
/-! ### enumerate(zip(s, t)), s and t tuples -/
abbrev IsZipG (h : Heap) (z TI TO : Addr) (c : Value) (f : Bool) : Prop := h.get? z = some { cls := .type "zip", dict := none, data := .fields #[c, .bool f, .bool false, .ref TI, .ref TO], slots := #[] }
def outV (c : Value) : Prop := c = .none ∨ ∃ T : Addr, c = rawInt T
structure ZS (h : Heap) (z TI TO i1 i2 l1 l2 : Addr) (k : Nat) : Prop where
  z : ∃ c f, IsZipG h z TI TO c f ∧ outV c
  ti : IsPair h TI (.ref i1) (.ref i2)
  to : ∃ a b, IsPair h TO a b
  h1 : h.IsTupleIter i1 l1 k
  h2 : h.IsTupleIter i2 l2 k
section
variable {prog : Program} {w : World} {A : Around} {E : Value → Shared → Prop} {s : Shared}
theorem alive_any {a : Addr} {Q : Option Obj → Shared → Prop} (h : Q (s.heap.get? a) s) : wpAny (model prog w) A (loadIfAlive a) Q E s := fun _ _ _ => h
theorem isFreeG {z TI TO : Addr} {c : Value} {f : Bool} {Q : Bool → Shared → Prop} (hz : IsZipG s.heap z TI TO c f) (hc : outV c) (hT : Q true s)
    (hF : ∀ h', IsZipG h' z TI TO c true → Heap.SameBut z s.heap h' → Q false { s with heap := h' }) : wpAny (model prog w) A (Builtin.SmallTypes.ownedTupleIsFree (.ref z)) Q E s := by
  unfold Builtin.SmallTypes.ownedTupleIsFree
  rcases hc with rfl | ⟨T, rfl⟩
  · exact wpAny_bind (wpAny_field hz rfl (x := .none) rfl (wpAny_pure hT))
  · refine wpAny_bind (wpAny_field hz rfl (x := rawInt T) rfl ?_)
    show wpAny _ _ (loadIfAlive ((T : Int).toNat) >>= _) _ _ _
    rw [Int.toNat_natCast]
    refine wpAny_bind (alive_any ?_)
    cases hg : s.heap.get? T with
    | none =>
      simp only [Option.isNone_none, if_true]
      exact wpAny_pure hT
    | some oT =>
      simp only [Option.isNone_some, Bool.false_eq_true, if_false]
      refine wpAny_bind (wpAny_field hz rfl (x := .bool f) rfl ?_)
      cases f with
      | true =>
        rw [if_neg (show ¬ ((Value.bool true != Value.bool true) = true) from Bool.false_ne_true)]
        exact wpAny_pure (hF s.heap hz (Heap.SameBut.refl _ _))
      | false =>
        rw [if_pos (show (Value.bool false != Value.bool true) = true from rfl)]
        exact wpAny_bind (wpAny_setField_rec hz (by simp) fun h₁ hz₁ hs₁ => wpAny_pure (hF h₁ hz₁ hs₁))
theorem zipZ_item {z TI TO i1 i2 l1 l2 : Addr} {k : Nat} {xs ys : Array Value} {x y : Value} {Q : Value → Shared → Prop} (D : ZipApart z TI TO i1 i2 l1 l2)
    (S : ZS s.heap z TI TO i1 i2 l1 l2 k) (hl1 : s.heap.IsTuple l1 xs) (hl2 : s.heap.IsTuple l2 ys) (hx : xs[k]? = some x) (hy : ys[k]? = some y)
    (hQ : ∀ h', ZS h' z TI TO i1 i2 l1 l2 (k + 1) → IsPair h' s.heap.objs.size x y → h'.objs.size = s.heap.objs.size + 1 →
      (∀ c o, c ≠ z → c ≠ TO → c ≠ i1 → c ≠ i2 → s.heap.get? c = some o → h'.get? c = some o) → Q (.ref s.heap.objs.size) { s with heap := h' }) :
    wpAny (model prog w) A (Builtin.«zip.__next__» ⟨[.ref z], []⟩) (fun fin s' => ∃ v, fin = .done (.ret v) ∧ Q v s') E s := by
  obtain ⟨⟨c, f, hz, hc⟩, hTI, ⟨a, b, hTO⟩, h1, h2⟩ := S
  show wpAny _ _ (field (.ref z) 2 >>= _) _ _ _
  refine wpAny_bind (wpAny_field hz rfl (x := .bool false) rfl ?_)
  show wpAny _ _ (field (.ref z) 3 >>= _) _ _ _
  refine wpAny_bind (wpAny_field hz rfl (x := .ref TI) rfl ?_)
  refine wpAny_bind (wpAny_seqItems hTI rfl ?_)
  show wpAny _ _ (Builtin.SmallTypes.ownedTupleIsFree (.ref z) >>= _) _ _ _
  refine wpAny_bind (isFreeG hz hc ?_ fun h₁ hz₁ hs₁ => ?_)
  · -- its tuple is free
    simp only [if_true]
    refine wpAny_bind (wpAny_rule ?_)
    refine wpAny_bind (wpAny_field hz rfl (x := .ref TO) rfl ?_)
    refine wpAny_bind (wpAny_setField_rec hz (by simp) fun h₁ hz₁ hs₁ => ?_)
    replace hz₁ : IsZipG h₁ z TI TO .ellipsis f := hz₁
    refine wpAny_bind ?_
    simp only [List.zipIdx_cons, List.zipIdx_nil, List.forIn_cons, List.forIn_nil]
    refine wpAny_bind (wpAny_bind (wpAny_onRaise ?_))
    show wpAny _ _ (Builtin.SmallTypes.nextOf (.ref i1) >>= _) _ _ _
    refine wpAny_bind (nextOf_tuple_item (h1.extBut hs₁.extBut D.i1z) (hl1.extBut hs₁.extBut D.l1z) hx fun h₂ h1₂ hs₂ => wpAny_pure ?_)
    have hTO₂ : IsPair h₂ TO a b := hs₂.extBut _ _ D.TOi1 (hs₁.extBut _ _ D.TOz hTO)
    refine wpAny_bind (wpAny_seqItems hTO₂ rfl ?_)
    refine wpAny_bind (wpAny_updateSeq_pair hTO₂ fun h₃ hTO₃ hs₃ => ?_)
    replace hTO₃ : IsPair h₃ TO x b := hTO₃
    refine wpAny_bind (wpAny_letGo (wpAny_pure ?_))
    refine wpAny_bind (wpAny_bind (wpAny_onRaise ?_))
    show wpAny _ _ (Builtin.SmallTypes.nextOf (.ref i2) >>= _) _ _ _
    refine wpAny_bind (nextOf_tuple_item (((h2.extBut hs₁.extBut D.i2z).extBut hs₂.extBut D.i12.symm).extBut hs₃.extBut D.TOi2.symm)
      (((hl2.extBut hs₁.extBut D.l2z).extBut hs₂.extBut D.l2i1).extBut hs₃.extBut D.l2TO) hy fun h₄ h2₄ hs₄ => wpAny_pure ?_)
    have hTO₄ : IsPair h₄ TO x b := hs₄.extBut _ _ D.TOi2 hTO₃
    refine wpAny_bind (wpAny_seqItems hTO₄ rfl ?_)
    refine wpAny_bind (wpAny_updateSeq_pair hTO₄ fun h₅ hTO₅ hs₅ => ?_)
    replace hTO₅ : IsPair h₅ TO x y := hTO₅
    refine wpAny_bind (wpAny_letGo (wpAny_pure (wpAny_pure ?_)))
    refine wpAny_bind (wpAny_seqItems hTO₅ rfl ?_)
    refine wpAny_bind (wpAny_newTuple ?_)
    have hsz : h₅.objs.size = s.heap.objs.size := by rw [hs₅.1, hs₄.1, hs₃.1, hs₂.1, hs₁.1]
    have hz₅ : IsZipG h₅ z TI TO .ellipsis f := hs₅.extBut _ _ D.TOz.symm (hs₄.extBut _ _ D.i2z.symm (hs₃.extBut _ _ D.TOz.symm (hs₂.extBut _ _ D.i1z.symm hz₁)))
    have hk₅ : ∀ c o, c ≠ z → c ≠ TO → c ≠ i1 → c ≠ i2 → s.heap.get? c = some o → h₅.get? c = some o := fun c o c1 c2 c3 c4 e =>
      hs₅.extBut _ _ c2 (hs₄.extBut _ _ c4 (hs₃.extBut _ _ c2 (hs₂.extBut _ _ c3 (hs₁.extBut _ _ c1 e))))
    have h1₅ : h₅.IsTupleIter i1 l1 (k + 1) := ((h1₂.extBut hs₃.extBut D.TOi1.symm).extBut hs₄.extBut D.i12).extBut hs₅.extBut D.TOi1.symm
    have h2₅ : h₅.IsTupleIter i2 l2 (k + 1) := h2₄.extBut hs₅.extBut D.TOi2.symm
    have hzlt : z < h₅.objs.size := Heap.lt_size hz₅
    show wpAny _ _ (Builtin.SmallTypes.ownedTupleHandOut (.ref z) (.ref h₅.objs.size) >>= _) _ _ _
    refine wpAny_bind ?_
    unfold Builtin.SmallTypes.ownedTupleHandOut
    have hz₆ : IsZipG (h₅.push { cls := .type "tuple", data := .seq #[x, y] }) z TI TO .ellipsis f := Heap.get?_push_of_some _ hz₅
    refine wpAny_bind (wpAny_setField_rec hz₆ (by simp) fun h₇ hz₇ hs₇ => ?_)
    replace hz₇ : IsZipG h₇ z TI TO (rawInt h₅.objs.size) f := hz₇
    refine wpAny_setField_rec hz₇ (by simp) fun h₈ hz₈ hs₈ => ?_
    replace hz₈ : IsZipG h₈ z TI TO (rawInt h₅.objs.size) false := hz₈
    have up : ∀ c o, c ≠ z → h₅.get? c = some o → h₈.get? c = some o := fun c o c1 e => hs₈.extBut _ _ c1 (hs₇.extBut _ _ c1 (Heap.get?_push_of_some _ e))
    have hT₈ : IsPair h₈ h₅.objs.size x y := hs₈.extBut _ _ (Nat.ne_of_gt hzlt) (hs₇.extBut _ _ (Nat.ne_of_gt hzlt) (Heap.get?_push_size _ rfl))
    have hz8 : h₈.objs.size = h₅.objs.size + 1 := by rw [hs₈.1, hs₇.1, Heap.size_push]
    have hTI₈ : IsPair h₈ TI (.ref i1) (.ref i2) := up _ _ D.TIz (hk₅ _ _ D.TIz D.TITO D.TIi1 D.TIi2 hTI)
    rw [hsz] at hT₈ hz8
    refine wpAny_pure ⟨_, rfl, ?_⟩
    show Q (.ref h₅.objs.size) _
    rw [hsz]
    exact hQ h₈ ⟨⟨_, _, hz₈, .inr ⟨_, rfl⟩⟩, hTI₈, ⟨_, _, up _ _ D.TOz hTO₅⟩, h1₅.at fun o e => up _ o D.i1z e, h2₅.at fun o e => up _ o D.i2z e⟩ hT₈ hz8 fun c o c1 c2 c3 c4 e => up c o c1 (hk₅ c o c1 c2 c3 c4 e)
  · -- its tuple is held
    simp only [Bool.false_eq_true, if_false]
    refine wpAny_bind ?_
    rw [← Array.forIn_toList]
    simp only [List.forIn_cons, List.forIn_nil]
    refine wpAny_bind (wpAny_bind (wpAny_holding ?_))
    show wpAny _ _ (Builtin.SmallTypes.nextOf (.ref i1) >>= _) _ _ _
    refine wpAny_bind (nextOf_tuple_item (s := { s with heap := h₁ }) (h1.extBut hs₁.extBut D.i1z) (hl1.extBut hs₁.extBut D.l1z) hx fun h₂ h1₂ hs₂ => wpAny_pure ?_)
    refine wpAny_pure ?_
    refine wpAny_bind (wpAny_bind (wpAny_holding ?_))
    show wpAny _ _ (Builtin.SmallTypes.nextOf (.ref i2) >>= _) _ _ _
    refine wpAny_bind (nextOf_tuple_item (s := { s with heap := h₂ }) ((h2.extBut hs₁.extBut D.i2z).extBut hs₂.extBut D.i12.symm) ((hl2.extBut hs₁.extBut D.l2z).extBut hs₂.extBut D.l2i1) hy fun h₃ h2₃ hs₃ => wpAny_pure ?_)
    refine wpAny_pure (wpAny_pure ?_)
    show wpAny _ _ (newTuple [x, y] >>= _) _ _ _
    refine wpAny_bind (wpAny_newTuple ?_)
    have hsz : h₃.objs.size = s.heap.objs.size := by rw [hs₃.1, hs₂.1, hs₁.1]
    have hz₃ : IsZipG h₃ z TI TO c true := hs₃.extBut _ _ D.i2z.symm (hs₂.extBut _ _ D.i1z.symm hz₁)
    have hk : ∀ c o, c ≠ z → c ≠ i1 → c ≠ i2 → s.heap.get? c = some o → h₃.get? c = some o := fun c o c1 c2 c3 e => hs₃.extBut _ _ c3 (hs₂.extBut _ _ c2 (hs₁.extBut _ _ c1 e))
    have h1₃ : h₃.IsTupleIter i1 l1 (k + 1) := h1₂.extBut hs₃.extBut D.i12
    refine wpAny_pure ⟨_, rfl, ?_⟩
    show Q (.ref h₃.objs.size) _
    have hp : IsPair (h₃.push { cls := .type "tuple", data := .seq #[x, y] }) h₃.objs.size x y := Heap.get?_push_size _ rfl
    have hz4 : (h₃.push { cls := .type "tuple", data := .seq #[x, y] }).objs.size = h₃.objs.size + 1 := Heap.size_push ..
    rw [hsz] at hp hz4 ⊢
    exact hQ _ ⟨⟨c, true, Heap.get?_push_of_some _ hz₃, hc⟩, Heap.get?_push_of_some _ (hk _ _ D.TIz D.TIi1 D.TIi2 hTI), ⟨a, b, Heap.get?_push_of_some _ (hk _ _ D.TOz D.TOi1 D.TOi2 hTO)⟩, h1₃.at fun o e => Heap.get?_push_of_some _ e, h2₃.at fun o e => Heap.get?_push_of_some _ e⟩ hp hz4 fun c o c1 _ c2 c3 e => Heap.get?_push_of_some _ (hk c o c1 c2 c3 e)
theorem zipZ_end {z TI TO i1 i2 l1 l2 : Addr} {k : Nat} {xs ys : Array Value} {Q : Fin → Shared → Prop} (hh : A.handled = none) (D : ZipApart z TI TO i1 i2 l1 l2)
    (S : ZS s.heap z TI TO i1 i2 l1 l2 k) (hl1 : s.heap.IsTuple l1 xs) (hl2 : s.heap.IsTuple l2 ys) (hend : xs[k]? = none ∨ ys[k]? = none)
    (hE : ∀ h' e, (∀ c o, c ≠ z → c ≠ TO → c ≠ i1 → c ≠ i2 → s.heap.get? c = some o → h'.get? c = some o) → (∃ o, h'.get? e = some o ∧ o.cls = .type "StopIteration") → E (.ref e) { s with heap := h' }) :
    wpAny (model prog w) A (Builtin.«zip.__next__» ⟨[.ref z], []⟩) Q E s := by
  obtain ⟨⟨c, f, hz, hc⟩, hTI, ⟨a, b, hTO⟩, h1, h2⟩ := S
  show wpAny _ _ (field (.ref z) 2 >>= _) _ _ _
  refine wpAny_bind (wpAny_field hz rfl (x := .bool false) rfl ?_)
  show wpAny _ _ (field (.ref z) 3 >>= _) _ _ _
  refine wpAny_bind (wpAny_field hz rfl (x := .ref TI) rfl ?_)
  refine wpAny_bind (wpAny_seqItems hTI rfl ?_)
  show wpAny _ _ (Builtin.SmallTypes.ownedTupleIsFree (.ref z) >>= _) _ _ _
  refine wpAny_bind (isFreeG hz hc ?_ fun h₁ hz₁ hs₁ => ?_)
  · simp only [if_true]
    refine wpAny_bind (wpAny_rule ?_)
    refine wpAny_bind (wpAny_field hz rfl (x := .ref TO) rfl ?_)
    refine wpAny_bind (wpAny_setField_rec hz (by simp) fun h₁ hz₁ hs₁ => ?_)
    replace hz₁ : IsZipG h₁ z TI TO .ellipsis f := hz₁
    refine wpAny_bind ?_
    simp only [List.zipIdx_cons, List.zipIdx_nil, List.forIn_cons, List.forIn_nil]
    refine wpAny_bind (wpAny_bind (wpAny_onRaise ?_))
    show wpAny _ _ (Builtin.SmallTypes.nextOf (.ref i1) >>= _) _ _ _
    cases hx : xs[k]? with
    | none =>
      refine wpAny_bind (nextOf_tuple_end hh (h1.extBut hs₁.extBut D.i1z) (hl1.extBut hs₁.extBut D.l1z) hx fun h₂ e hs₂ he => ?_)
      obtain ⟨oe, hoe, hce⟩ := he
      have hz₂ : IsZipG h₂ z TI TO .ellipsis f := hs₂ _ _ D.i1z.symm hz₁
      have hez : e ≠ z := fun x => by subst x; rw [hz₂] at hoe; cases hoe; simp at hce
      refine wpAny_setField_rec hz₂ (by simp) fun h₃ _ hs₃ => hE h₃ e (fun c o c1 _ c3 _ x => hs₃.extBut _ _ c1 (hs₂ _ _ c3 (hs₁.extBut _ _ c1 x))) ⟨oe, hs₃.extBut _ _ hez hoe, hce⟩
    | some x =>
      have hy : ys[k]? = none := by rcases hend with h | h; rw [hx] at h; cases h; exact h
      refine wpAny_bind (nextOf_tuple_item (h1.extBut hs₁.extBut D.i1z) (hl1.extBut hs₁.extBut D.l1z) hx fun h₂ h1₂ hs₂ => wpAny_pure ?_)
      have hTO₂ : IsPair h₂ TO a b := hs₂.extBut _ _ D.TOi1 (hs₁.extBut _ _ D.TOz hTO)
      refine wpAny_bind (wpAny_seqItems hTO₂ rfl ?_)
      refine wpAny_bind (wpAny_updateSeq_pair hTO₂ fun h₃ hTO₃ hs₃ => ?_)
      refine wpAny_bind (wpAny_letGo (wpAny_pure ?_))
      refine wpAny_bind (wpAny_bind (wpAny_onRaise ?_))
      show wpAny _ _ (Builtin.SmallTypes.nextOf (.ref i2) >>= _) _ _ _
      refine wpAny_bind (nextOf_tuple_end hh (((h2.extBut hs₁.extBut D.i2z).extBut hs₂.extBut D.i12.symm).extBut hs₃.extBut D.TOi2.symm)
        (((hl2.extBut hs₁.extBut D.l2z).extBut hs₂.extBut D.l2i1).extBut hs₃.extBut D.l2TO) hy fun h₄ e hs₄ he => ?_)
      obtain ⟨oe, hoe, hce⟩ := he
      have hz₄ : IsZipG h₄ z TI TO .ellipsis f := hs₄ _ _ D.i2z.symm (hs₃.extBut _ _ D.TOz.symm (hs₂.extBut _ _ D.i1z.symm hz₁))
      have hez : e ≠ z := fun x => by subst x; rw [hz₄] at hoe; cases hoe; simp at hce
      refine wpAny_setField_rec hz₄ (by simp) fun h₅ _ hs₅ => hE h₅ e (fun c o c1 c2 c3 c4 x => hs₅.extBut _ _ c1 (hs₄ _ _ c4 (hs₃.extBut _ _ c2 (hs₂.extBut _ _ c3 (hs₁.extBut _ _ c1 x))))) ⟨oe, hs₅.extBut _ _ hez hoe, hce⟩
  · simp only [Bool.false_eq_true, if_false]
    refine wpAny_bind ?_
    rw [← Array.forIn_toList]
    simp only [List.forIn_cons, List.forIn_nil]
    refine wpAny_bind (wpAny_bind (wpAny_holding ?_))
    show wpAny _ _ (Builtin.SmallTypes.nextOf (.ref i1) >>= _) _ _ _
    cases hx : xs[k]? with
    | none =>
      refine wpAny_bind (nextOf_tuple_end (s := { s with heap := h₁ }) hh (h1.extBut hs₁.extBut D.i1z) (hl1.extBut hs₁.extBut D.l1z) hx fun h₂ e hs₂ he => ?_)
      exact hE h₂ e (fun c o c1 _ c2 _ x => hs₂ _ _ c2 (hs₁.extBut _ _ c1 x)) he
    | some x =>
      have hy : ys[k]? = none := by rcases hend with h | h; rw [hx] at h; cases h; exact h
      refine wpAny_bind (nextOf_tuple_item (s := { s with heap := h₁ }) (h1.extBut hs₁.extBut D.i1z) (hl1.extBut hs₁.extBut D.l1z) hx fun h₂ h1₂ hs₂ => wpAny_pure ?_)
      refine wpAny_pure ?_
      refine wpAny_bind (wpAny_bind (wpAny_holding ?_))
      show wpAny _ _ (Builtin.SmallTypes.nextOf (.ref i2) >>= _) _ _ _
      refine wpAny_bind (nextOf_tuple_end (s := { s with heap := h₂ }) hh ((h2.extBut hs₁.extBut D.i2z).extBut hs₂.extBut D.i12.symm) ((hl2.extBut hs₁.extBut D.l2z).extBut hs₂.extBut D.l2i1) hy fun h₃ e hs₃ he => ?_)
      exact hE h₃ e (fun c o c1 _ c2 c3 x => hs₃ _ _ c3 (hs₂.extBut _ _ c2 (hs₁.extBut _ _ c1 x))) he
theorem zipZ_nextOf {z TI TO i1 i2 l1 l2 : Addr} {k : Nat} {xs ys : Array Value} {x y : Value} {Q : Value → Shared → Prop} (D : ZipApart z TI TO i1 i2 l1 l2)
    (S : ZS s.heap z TI TO i1 i2 l1 l2 k) (hl1 : s.heap.IsTuple l1 xs) (hl2 : s.heap.IsTuple l2 ys) (hx : xs[k]? = some x) (hy : ys[k]? = some y)
    (hQ : ∀ h', ZS h' z TI TO i1 i2 l1 l2 (k + 1) → IsPair h' s.heap.objs.size x y → h'.objs.size = s.heap.objs.size + 1 →
      (∀ c o, c ≠ z → c ≠ TO → c ≠ i1 → c ≠ i2 → s.heap.get? c = some o → h'.get? c = some o) → Q (.ref s.heap.objs.size) { s with heap := h' }) :
    wpAny (model prog w) A (Builtin.SmallTypes.nextOf (.ref z)) Q E s := by
  have hT : s.TypeIs (.ref z) "zip" := by obtain ⟨⟨c, f, hz, _⟩, _⟩ := S; exact ⟨_, hz, rfl⟩
  unfold Builtin.SmallTypes.nextOf
  exact wpAny_bind (wpAny_callSpecial?_slot (name := Str.ofString "__next__") hT F.slot_zip_next
    (wpAny_call_entry F.slot_zip_next hT F.entry_zip_next
      (zipZ_item D S hl1 hl2 hx hy fun h' a1 a2 a3 a4 => wpAny_pure (hQ h' a1 a2 a3 a4)) (F.args_zip_next_1 _)))
theorem zipZ_nextEnd {z TI TO i1 i2 l1 l2 : Addr} {k : Nat} {xs ys : Array Value} {Q : Value → Shared → Prop} (hh : A.handled = none) (D : ZipApart z TI TO i1 i2 l1 l2)
    (S : ZS s.heap z TI TO i1 i2 l1 l2 k) (hl1 : s.heap.IsTuple l1 xs) (hl2 : s.heap.IsTuple l2 ys) (hend : xs[k]? = none ∨ ys[k]? = none)
    (hE : ∀ h' e, (∀ c o, c ≠ z → c ≠ TO → c ≠ i1 → c ≠ i2 → s.heap.get? c = some o → h'.get? c = some o) → (∃ o, h'.get? e = some o ∧ o.cls = .type "StopIteration") → E (.ref e) { s with heap := h' }) :
    wpAny (model prog w) A (Builtin.SmallTypes.nextOf (.ref z)) Q E s := by
  have hT : s.TypeIs (.ref z) "zip" := by obtain ⟨⟨c, f, hz, _⟩, _⟩ := S; exact ⟨_, hz, rfl⟩
  unfold Builtin.SmallTypes.nextOf
  exact wpAny_bind (wpAny_callSpecial?_slot (name := Str.ofString "__next__") hT F.slot_zip_next
    (wpAny_call_entry F.slot_zip_next hT F.entry_zip_next (zipZ_end (A := A.in1) hh D S hl1 hl2 hend hE) (F.args_zip_next_1 _)))
/-- enumerate's own turn over a zip -/
theorem enumZ_next {e z TI TO i1 i2 l1 l2 : Addr} {k : Nat} {xs ys : Array Value} {x y old : Value} {Q : Option Value → Shared → Prop} (D : ZipApart z TI TO i1 i2 l1 l2)
    (he : IsEnum s.heap e z ((k : Nat) : Int) old) (S : ZS s.heap z TI TO i1 i2 l1 l2 k) (hl1 : s.heap.IsTuple l1 xs) (hl2 : s.heap.IsTuple l2 ys) (hx : xs[k]? = some x) (hy : ys[k]? = some y)
    (n1 : e ≠ z) (n2 : e ≠ TI) (n3 : e ≠ TO) (n4 : e ≠ i1) (n5 : e ≠ i2)
    (hQ : ∀ h', IsEnumOut h' e z ((k : Int) + 1) (.ref s.heap.objs.size) (s.heap.objs.size + 1) → ZS h' z TI TO i1 i2 l1 l2 (k + 1) → IsPair h' s.heap.objs.size x y →
      h'.get? (s.heap.objs.size + 1) = some { cls := .type "tuple", data := .seq #[.int k s.toks, .ref s.heap.objs.size] } → h'.objs.size = s.heap.objs.size + 2 →
      (∀ c o, c ≠ e → c ≠ z → c ≠ TO → c ≠ i1 → c ≠ i2 → s.heap.get? c = some o → h'.get? c = some o) → Q (some (.ref (s.heap.objs.size + 1))) { s with heap := h', toks := s.toks + 1 }) :
    wpAny (model prog w) A (pyNext (.ref e)) Q E s := by
  have hT : s.TypeIs (.ref e) "enumerate" := ⟨_, he, rfl⟩
  unfold pyNext
  refine wpAny_bind (wpAny_attempt (wpAny_callSpecial?_slot (name := Str.ofString "__next__") hT F.slot_enumerate_next
    (wpAny_call_entry F.slot_enumerate_next hT F.entry_enumerate_next ?_ (F.args_enumerate_next_1 _))))
  obtain ⟨hp, g, d, tk, os⟩ := s
  show wpAny _ _ (field (.ref e) 2 >>= _) _ _ _
  refine wpAny_bind (wpAny_field he rfl (x := .ref z) rfl ?_)
  refine wpAny_bind (zipZ_nextOf D S hl1 hl2 hx hy fun h₁ S₁ hp₁ hz₁ hk₁ => ?_)
  have hel : e < hp.objs.size := Heap.lt_size he
  have he₁ : IsEnum h₁ e z k old := hk₁ _ _ n1 n3 n4 n5 he
  show wpAny _ _ (field (.ref e) 3 >>= _) _ _ ⟨h₁, g, d, tk, os⟩
  refine wpAny_bind (wpAny_field he₁ rfl (x := rawInt k) rfl ?_)
  show wpAny _ _ (field (.ref e) 4 >>= _) _ _ ⟨h₁, g, d, tk, os⟩
  refine wpAny_bind (wpAny_field he₁ rfl (x := .none) rfl ?_)
  show wpAny _ _ (mkInt k >>= _) _ _ ⟨h₁, g, d, tk, os⟩
  refine wpAny_bind (wpAny_mkInt ?_)
  show wpAny _ _ (setField (.ref e) 3 (rawInt ((k : Int) + 1)) >>= _) _ _ ⟨h₁, g, d, tk + 1, os⟩
  refine wpAny_bind (wpAny_setField_rec he₁ (by simp) fun h₂ he₂ hs₂ => ?_)
  replace hs₂ : Heap.SameBut e h₁ h₂ := hs₂
  replace he₂ : IsEnum h₂ e z ((k : Int) + 1) old := he₂
  show wpAny _ _ (setField (.ref e) 4 .none >>= _) _ _ ⟨h₂, g, d, tk + 1, os⟩
  refine wpAny_bind (wpAny_setField_rec he₂ (by simp) fun h₃ he₃ hs₃ => ?_)
  replace hs₃ : Heap.SameBut e h₂ h₃ := hs₃
  replace he₃ : IsEnum h₃ e z ((k : Int) + 1) old := he₃
  show wpAny _ _ (newTuple [.int k tk, .ref hp.objs.size] >>= _) _ _ ⟨h₃, g, d, tk + 1, os⟩
  refine wpAny_bind (wpAny_newTuple ?_)
  have hsz : h₃.objs.size = hp.objs.size + 1 := by rw [hs₃.1, hs₂.1, hz₁]
  have he₄ : IsEnum (h₃.push { cls := .type "tuple", data := .seq #[.int k tk, .ref hp.objs.size] }) e z ((k : Int) + 1) old := Heap.get?_push_of_some _ he₃
  have up₄ : ∀ c o, c ≠ e → h₁.get? c = some o → (h₃.push { cls := .type "tuple", data := .seq #[.int k tk, .ref hp.objs.size] }).get? c = some o := fun c o hc x => Heap.get?_push_of_some _ (hs₃.extBut c o hc (hs₂.extBut c o hc x))
  have ht₄ : (h₃.push { cls := .type "tuple", data := .seq #[.int k tk, .ref hp.objs.size] }).get? (hp.objs.size + 1) = some { cls := .type "tuple", data := .seq #[.int k tk, .ref hp.objs.size] } := by rw [← hsz]; exact Heap.get?_push_size _ rfl
  have hz₄ : (h₃.push { cls := .type "tuple", data := .seq #[.int k tk, .ref hp.objs.size] }).objs.size = hp.objs.size + 2 := by rw [Heap.size_push, hsz]
  generalize h₃.push { cls := .type "tuple", data := .seq #[.int k tk, .ref hp.objs.size] } = h₄ at he₄ up₄ ht₄ hz₄
  show wpAny _ _ (Builtin.SmallTypes.ownedTupleIsFree (.ref e) >>= _) _ _ ⟨h₄, g, d, tk + 1, os⟩
  rw [hsz]
  clear he₃ hs₃ he₂ hs₂ he₁ hsz
  have ne1 : hp.objs.size + 1 ≠ e := Nat.ne_of_gt (Nat.lt_succ_of_lt hel)
  refine wpAny_bind ?_
  unfold Builtin.SmallTypes.ownedTupleIsFree
  refine wpAny_bind (wpAny_field he₄ rfl (x := .none) rfl (wpAny_pure ?_))
  simp only [if_true]
  refine wpAny_bind (wpAny_rule ?_)
  refine wpAny_bind (wpAny_field he₄ rfl (x := old) rfl ?_)
  refine wpAny_bind (wpAny_setField_rec he₄ (by simp) fun h₅ he₅ hs₅ => ?_)
  replace hs₅ : Heap.SameBut e h₄ h₅ := hs₅
  replace he₅ : IsEnum h₅ e z ((k : Int) + 1) (.ref hp.objs.size) := he₅
  show wpAny _ _ (Builtin.SmallTypes.ownedTupleHandOut (.ref e) (.ref (hp.objs.size + 1)) >>= _) _ _ ⟨h₅, g, d, tk + 1, os⟩
  refine wpAny_bind ?_
  unfold Builtin.SmallTypes.ownedTupleHandOut
  refine wpAny_bind (wpAny_setField_rec he₅ (by simp) fun h₆ he₆ hs₆ => ?_)
  replace hs₆ : Heap.SameBut e h₅ h₆ := hs₆
  replace he₆ : IsEnumOut h₆ e z ((k : Int) + 1) (.ref hp.objs.size) (hp.objs.size + 1) := he₆
  refine wpAny_setField_rec he₆ (by simp) fun h₇ he₇ hs₇ => ?_
  replace hs₇ : Heap.SameBut e h₆ h₇ := hs₇
  replace he₇ : IsEnumOut h₇ e z ((k : Int) + 1) (.ref hp.objs.size) (hp.objs.size + 1) := he₇
  have up : ∀ c o, c ≠ e → h₁.get? c = some o → h₇.get? c = some o := fun c o hc x => hs₇.extBut c o hc (hs₆.extBut c o hc (hs₅.extBut c o hc (up₄ c o hc x)))
  obtain ⟨⟨cz, fz, gz, oz⟩, gTI, ⟨ga, gb, gTO⟩, g1, g2⟩ := S₁
  refine wpAny_bind (wpAny_letGo (wpAny_pure ⟨_, rfl, wpAny_pure (hQ h₇ he₇ ⟨⟨cz, fz, up _ _ (Ne.symm n1) gz, oz⟩, up _ _ (Ne.symm n2) gTI, ⟨ga, gb, up _ _ (Ne.symm n3) gTO⟩, g1.at fun o x => up _ o (Ne.symm n4) x, g2.at fun o x => up _ o (Ne.symm n5) x⟩ (up _ _ (Nat.ne_of_gt hel) hp₁) ?_ ?_ ?_)⟩))
  · exact hs₇.extBut _ _ ne1 (hs₆.extBut _ _ ne1 (hs₅.extBut _ _ ne1 ht₄))
  · rw [hs₇.1, hs₆.1, hs₅.1, hz₄]
  · exact fun c o c0 c1 c2 c3 c4 x => up c o c0 (hk₁ c o c1 c2 c3 c4 x)
theorem enumZ_end {e z TI TO i1 i2 l1 l2 : Addr} {k : Nat} {i : Int} {xs ys : Array Value} {old : Value} {Q : Option Value → Shared → Prop} (hh : A.handled = none) (D : ZipApart z TI TO i1 i2 l1 l2)
    (he : IsEnum s.heap e z i old) (S : ZS s.heap z TI TO i1 i2 l1 l2 k) (hl1 : s.heap.IsTuple l1 xs) (hl2 : s.heap.IsTuple l2 ys) (hend : xs[k]? = none ∨ ys[k]? = none)
    (hQ : ∀ h', (∀ c o, c ≠ z → c ≠ TO → c ≠ i1 → c ≠ i2 → s.heap.get? c = some o → h'.get? c = some o) → Q none { s with heap := h' }) :
    wpAny (model prog w) A (pyNext (.ref e)) Q E s := by
  have hT : s.TypeIs (.ref e) "enumerate" := ⟨_, he, rfl⟩
  unfold pyNext
  refine wpAny_bind (wpAny_attempt (wpAny_callSpecial?_slot (name := Str.ofString "__next__") hT F.slot_enumerate_next
    (wpAny_call_entry F.slot_enumerate_next hT F.entry_enumerate_next ?_ (F.args_enumerate_next_1 _))))
  show wpAny _ _ (field (.ref e) 2 >>= _) _ _ _
  refine wpAny_bind (wpAny_field he rfl (x := .ref z) rfl ?_)
  refine wpAny_bind (zipZ_nextEnd (A := A.in1) hh D S hl1 hl2 hend fun h' x he' hx' => ?_)
  obtain ⟨o, ho, hc⟩ := hx'
  refine wpAny_bind (wpAny_isInstance (T := "StopIteration") (b := true) ⟨o, ho, hc⟩ isSubtype_stop ?_)
  exact wpAny_pure (hQ _ he')
end
end Fc
set_option Elab.async false
set_option linter.all false
set_option maxRecDepth 100000
set_option maxHeartbeats 2000000
namespace Fc
open PySem L2 Evl PySem.Spec PyProof.Rows
section
variable {X : Cx} {pins : List (Addr × Obj)} {σ : L2.St} {H : Hp} {s : Shared} {h' : Heap}
theorem turnedNew2 {t' : Nat} {ch : List Addr} {T T2 : Addr} {ob ob2 : HO} (I : Inv X pins σ H s) (k : ∀ b o, b ∉ ch → s.heap.get? b = some o → h'.get? b = some o) (hf : ∀ b ∈ ch, FpOk X pins H b) (hT : s.heap.objs.size ≤ T) (hT2 : s.heap.objs.size ≤ T2) (ne : T ≠ T2)
    (new : ObjOk X.prog X.w (upd (upd H T ob) T2 ob2) h' T ob) (new2 : ObjOk X.prog X.w (upd (upd H T ob) T2 ob2) h' T2 ob2) : Inv X pins σ (upd (upd H T ob) T2 ob2) { s with heap := h', toks := t' } := by
  have hn : H T = none := I.hok.fresh hT
  have hn2 : H T2 = none := I.hok.fresh hT2
  have up : ∀ {b : Addr} {u : HO}, H b = some u → upd (upd H T ob) T2 ob2 b = some u := fun {b u} e => by
    rw [upd_ne (ne_of_none e hn2), upd_ne (ne_of_none e hn)]; exact e
  have nit : ∀ b u, H b = some u → b ∉ ch := fun b u e z => by
    have q := (hf b z).1
    rw [q] at e; cases e
  refine I.step (g' := s.gens) (d' := s.drawn) (ch := ch) (fun b hb => ⟨(hf b hb).2.2.2.1, (hf b hb).2.1, (hf b hb).2.2.2.2.1, (hf b hb).2.2.2.2.2⟩) (fun b o _ _ hc e _ => k b o hc e) (fun b o _ _ hc e _ => ⟨o.slots, k b o hc e⟩)
    (fun b o _ e n => ?_) (fun b o hc e => ⟨o, k b o hc e⟩) (fun b xs e => up e) (fun b o u e => up e) (fun b ps e => ⟨#[], ?_⟩) (fun m hm => ?_) (fun b u e => ?_) I.bare
  · rw [upd_ne (Nat.ne_of_lt (Nat.lt_of_lt_of_le (Heap.lt_size e) hT2)), upd_ne (Nat.ne_of_lt (Nat.lt_of_lt_of_le (Heap.lt_size e) hT))]; exact n
  · rw [up e]; simp
  · obtain ⟨o, es, ep, ho, r⟩ := hm
    exact ⟨o, es, ep, k _ o (fun z => (hf _ z).2.1 rfl) ho, r⟩
  · by_cases hb2 : b = T2
    · subst hb2
      rw [upd_same] at e
      cases e
      exact new2
    · rw [upd_ne hb2] at e
      by_cases hb : b = T
      · subst hb
        rw [upd_same] at e
        cases e
        exact new
      · rw [upd_ne hb] at e
        refine (I.hok b u e).stay (fun c v hc q => k c v ?_ q) (fun c q => up q) fun c xs q => up q
        rcases hc with z | z
        · rw [z]; exact nit b u e
        · exact nit c _ z
end
/-- enumerate(zip(a, b)), the tuples at a and b -/
def ItzE (K : Fr) (a b : Addr) : It :=
  ⟨fun i H => ∃ (xs ys : List V) (x y : V), SqT K H a xs ∧ SqT K H b ys ∧ xs[i]? = some x ∧ ys[i]? = some y,
    fun i H v H' => ∃ T T2 x y, v = .ref T2 ∧ T ≠ T2 ∧ H T = none ∧ H T2 = none ∧ H' = upd (upd H T (.tup [x, y])) T2 (.tup [.int (i : Nat), .ref T]) ∧ (∀ xs, SqT K H a xs → xs[i]? = some x) ∧ ∀ ys, SqT K H b ys → ys[i]? = some y,
    fun i H => ∃ xs ys : List V, SqT K H a xs ∧ SqT K H b ys ∧ (xs.length ≤ i ∨ ys.length ≤ i)⟩
theorem turn_enumZ {P : Program} {w : World} {K : Fr} {elts : List Expr} {kk : Nat} {tpos : Pos} {a b e z TI TO i1 i2 : Addr} (D : ZipApart z TI TO i1 i2 a b) (n1 : e ≠ z) (n2 : e ≠ TI) (n3 : e ≠ TO) (n4 : e ≠ i1) (n5 : e ≠ i2) :
    Turn P w K (.Tuple elts kk tpos) (ItzE K a b) [e, z, TI, TO, i1, i2] e (fun i h => (∃ old, IsEnum h e z ((i : Nat) : Int) old) ∧ ZS h z TI TO i1 i2 a b i) where
  mem := by simp
  obj := fun i h st c hc => by
    obtain ⟨⟨old, he⟩, ⟨⟨cz, fz, hz, _⟩, hTI, ⟨x, y, hTO⟩, ⟨o1, e1, _, d1⟩, ⟨o2, e2, _, d2⟩⟩⟩ := st
    have e' : c = e ∨ c = z ∨ c = TI ∨ c = TO ∨ c = i1 ∨ c = i2 := by simpa using hc
    rcases e' with q | q | q | q | q | q
    · rw [q]; exact ⟨_, he, fun v q => nomatch q⟩
    · rw [q]; exact ⟨_, hz, fun v q => nomatch q⟩
    · rw [q]; exact ⟨_, hTI, fun v q => nomatch q⟩
    · rw [q]; exact ⟨_, hTO, fun v q => nomatch q⟩
    · rw [q]; exact ⟨o1, e1, fun v q => by rw [d1] at q; cases q⟩
    · rw [q]; exact ⟨o2, e2, fun v q => by rw [d2] at q; cases q⟩
  keep := fun i h h' st k => by
    obtain ⟨⟨old, he⟩, ⟨⟨cz, fz, hz, oz⟩, hTI, ⟨x, y, hTO⟩, h1, h2⟩⟩ := st
    exact ⟨⟨old, k e (by simp) _ he⟩, ⟨⟨cz, fz, k z (by simp) _ hz, oz⟩, k TI (by simp) _ hTI, ⟨x, y, k TO (by simp) _ hTO⟩, h1.at fun o q => k i1 (by simp) o q, h2.at fun o q => k i2 (by simp) o q⟩⟩
  item := by
    intro X hP hw hK hc i pins s σ H E I hf st hg
    subst hP hw hK
    obtain ⟨⟨old, he⟩, S⟩ := st
    obtain ⟨xs, ys, x, y, hqx, hqy, hx, hy⟩ := hg
    obtain ⟨its, rv, p, _⟩ := I.tuple hqx
    obtain ⟨its2, rv2, p2, _⟩ := I.tuple hqy
    obtain ⟨u, hu, ru⟩ := rv.get hx
    obtain ⟨u2, hu2, ru2⟩ := rv2.get hy
    have hel : e < s.heap.objs.size := Heap.lt_size he
    refine enumZ_next D he S (show s.heap.IsTuple a its.toArray from p) (show s.heap.IsTuple b its2.toArray from p2) (x := u) (y := u2) (by simpa using hu) (by simpa using hu2) n1 n2 n3 n4 n5 fun h' ho S' hT hT2 hsz hk => ?_
    refine ⟨_, rfl, wpAny_letOwnedTupleGo_enum (s := { s with heap := h', toks := s.toks + 1 }) ho fun h'' he' sb => ?_⟩
    have nT : s.heap.objs.size ≠ e := Nat.ne_of_gt hel
    have nT2 : s.heap.objs.size + 1 ≠ e := Nat.ne_of_gt (Nat.lt_succ_of_lt hel)
    have gT : h''.get? s.heap.objs.size = some { cls := .type "tuple", data := .seq #[u, u2] } := (sb.2 _ nT).trans hT
    have gT2 : h''.get? (s.heap.objs.size + 1) = some { cls := .type "tuple", data := .seq #[.int i s.toks, .ref s.heap.objs.size] } := (sb.2 _ nT2).trans hT2
    have hne : s.heap.objs.size ≠ s.heap.objs.size + 1 := Nat.ne_of_lt (Nat.lt_succ_self _)
    have fr1 : H s.heap.objs.size = none := I.hok.fresh (Nat.le_refl _)
    have fr2 : H (s.heap.objs.size + 1) = none := I.hok.fresh (Nat.le_succ _)
    have I1 : Inv X pins σ (upd (upd H s.heap.objs.size (.tup [x, y])) (s.heap.objs.size + 1) (.tup [.int (i : Nat), .ref s.heap.objs.size])) { s with heap := h'', toks := s.toks + 1 } :=
      turnedNew2 (ch := [e, z, TI, TO, i1, i2]) I (fun c o hb q => (sb.2 c (fun q' => hb (by simp [q']))).trans (hk c o (fun q' => hb (by simp [q'])) (fun q' => hb (by simp [q'])) (fun q' => hb (by simp [q'])) (fun q' => hb (by simp [q'])) (fun q' => hb (by simp [q'])) q)) hf (Nat.le_refl _) (Nat.le_succ _) hne
        ⟨by show 2 ≤ sizeLine; decide, [u, u2], .cons ru (.cons ru2 .nil), ⟨_, gT, rfl, _, rfl⟩⟩
        ⟨by show 2 ≤ sizeLine; decide, [.int i s.toks, .ref s.heap.objs.size], .cons ⟨_, rfl⟩ (.cons rfl .nil), ⟨_, gT2, rfl, _, rfl⟩⟩
    obtain ⟨⟨cz, fz, hz, oz⟩, hTI, ⟨ga, gb, hTO⟩, h1, h2⟩ := S'
    refine ⟨.ref (s.heap.objs.size + 1), _, I1, rfl, ⟨_, _, x, y, rfl, hne, fr1, fr2, rfl, fun l hl => by rw [I.tuple_inj hl hqx]; exact hx, fun l hl => by rw [I.tuple_inj hl hqy]; exact hy⟩, ⟨⟨.ref s.heap.objs.size, ?_⟩, ⟨⟨cz, fz, (sb.2 _ (Ne.symm n1)).trans hz, oz⟩, (sb.2 _ (Ne.symm n2)).trans hTI, ⟨ga, gb, (sb.2 _ (Ne.symm n3)).trans hTO⟩, h1.at fun o q => (sb.2 _ (Ne.symm n4)).trans q, h2.at fun o q => (sb.2 _ (Ne.symm n5)).trans q⟩⟩, fun c hcm => ?_⟩
    · have e1 : ((i + 1 : Nat) : Int) = (i : Int) + 1 := by omega
      rw [e1]; exact he'
    · have hlt : c < s.heap.objs.size := by
        obtain ⟨⟨_, _, gz, _⟩, gTI, ⟨_, _, gTO⟩, ⟨_, g1, _⟩, ⟨_, g2, _⟩⟩ := S
        have e' : c = e ∨ c = z ∨ c = TI ∨ c = TO ∨ c = i1 ∨ c = i2 := by simpa using hcm
        rcases e' with q | q | q | q | q | q
        · rw [q]; exact hel
        · rw [q]; exact Heap.lt_size gz
        · rw [q]; exact Heap.lt_size gTI
        · rw [q]; exact Heap.lt_size gTO
        · rw [q]; exact Heap.lt_size g1
        · rw [q]; exact Heap.lt_size g2
      rw [upd_ne (Nat.ne_of_lt (Nat.lt_succ_of_lt hlt)), upd_ne (Nat.ne_of_lt hlt)]
      exact (hf c hcm).1
  done := by
    intro X hP hw hK hc i pins s σ H E I hf st hg
    subst hP hw hK
    obtain ⟨⟨old, he⟩, S⟩ := st
    obtain ⟨xs, ys, hqx, hqy, hend⟩ := hg
    obtain ⟨its, rv, p, _⟩ := I.tuple hqx
    obtain ⟨its2, rv2, p2, _⟩ := I.tuple hqy
    have l1 := rv.length
    have l2 := rv2.length
    have hend : its.toArray[i]? = none ∨ its2.toArray[i]? = none := by
      rcases hend with q | q
      · exact .inl (by simp; omega)
      · exact .inr (by simp; omega)
    exact enumZ_end (I.ok.hd hc) D he S (show s.heap.IsTuple a its.toArray from p) (show s.heap.IsTuple b its2.toArray from p2) hend fun h' hk => ⟨rfl, I.turnedL (t' := s.toks) (ch := [e, z, TI, TO, i1, i2]) (fun c o hb q =>
      hk c o (fun q' => hb (by simp [q'])) (fun q' => hb (by simp [q'])) (fun q' => hb (by simp [q'])) (fun q' => hb (by simp [q'])) q) hf⟩
  self := fun A i s Q E st h => let ⟨⟨_, he⟩, _⟩ := st; wpAny_pyIter_enum he h
theorem meets_enumZ (z TI TO : Addr) :
    Meets (Builtin.«enumerate.__new__» ⟨[.type "enumerate", .ref z], []⟩) (fun _ R s => IsZip s.heap z TI TO .none ∧
      R (.ok (.ret (.ref s.heap.objs.size))) { s with heap := s.heap.push { cls := .type "enumerate", data := .fields #[.none, .bool false, .ref z, rawInt 0, .none, .none] } }) :=
  .of_wp fun prog w A R s h => by
    obtain ⟨hp, g, d, tk, os⟩ := s
    obtain ⟨h1, h⟩ := h
    have hsub := sub_enumerate
    have q1 : ∀ {A' : Around} {E : Value → Shared → Prop} {Q : Value → Shared → Prop}, Q (.ref z) ⟨hp, g, d, tk, os⟩ → wpAny (model prog w) A' (pyIter (.ref z)) Q E ⟨hp, g, d, tk, os⟩ :=
      fun q => wpAny_pyIter_zip (s := ⟨hp, g, d, tk, os⟩) h1 q
    wp_walk using q1
    refine wpAny_stack_any fun st => wpAny_pure ?_
    split
    · rename_i c _ _ _ _ _
      cases (c == Value.type "enumerate")
      · wp_walk using q1
        exact ⟨_, rfl, h⟩
      · wp_walk using q1
        exact ⟨_, rfl, h⟩
    · wp_walk using q1
      exact ⟨_, rfl, h⟩
theorem call_enumZ {prog : Program} {w : World} {A : Around} {E : Value → Shared → Prop} {s : Shared} {z TI TO : Addr} {Q : Value → Shared → Prop} (hz : IsZip s.heap z TI TO .none)
    (h : ∀ h', IsEnum h' s.heap.objs.size z 0 .none → h'.objs.size = s.heap.objs.size + 1 → (∀ b o, s.heap.get? b = some o → h'.get? b = some o) → Q (.ref s.heap.objs.size) { s with heap := h' }) :
    wpAny (model prog w) A (call (.type "enumerate") [.ref z]) Q E s := by
  refine callType_new F.called_enumerate (by decide) (F.typeCall_enumerate_1 _) (F.newCall_enumerate_1 _) (fun obj => F.args_object_init_2 obj _) F.entry_enumerate_new (meets_enumZ z TI TO) ⟨hz, ?_⟩
  have he : IsEnum (s.heap.push { cls := .type "enumerate", data := .fields #[.none, .bool false, .ref z, rawInt 0, .none, .none] }) s.heap.objs.size z 0 .none := Heap.get?_push_size _ rfl
  exact ⟨⟨_, he, rfl⟩, h _ he (Heap.size_push ..) fun b o x => Heap.get?_push_of_some _ x⟩
def iEnumZ (K : Fr) (ta : TA) : TI := fun σ H R => ta σ H fun vs H1 => ∃ a b xs ys, vs = [.ref a, .ref b] ∧ SqT K H1 a xs ∧ SqT K H1 b ys ∧ R (ItzE K a b) H1
theorem pi_enumZ {X : Cx} {e e2 : Expr} {ta : TA} {p pos tpos q qpos : Pos} {elts : List Expr} {kk : Nat} (hg : Gl X "enumerate") (hm : X.mg "enumerate" = none) (hg2 : Gl X "zip") (hm2 : X.mg "zip" = none) (ha : PA X [e, e2] ta)
    (hs : starEach [e, e2] X.env = (false, eval e X.env) :: starEach [e2] X.env := by rfl) (hpl : (backTo qpos (starEach [e2] X.env)).any (·.1) = false := by rfl)
    (hs2 : starEach [.Call (.Name "zip" q) [e, e2] [] qpos] X.env = (false, eval (.Call (.Name "zip" q) [e, e2] [] qpos) X.env) :: starEach [] X.env := by rfl) :
    PI X (.Tuple elts kk tpos) (.Call (.Name "enumerate" p) [.Call (.Name "zip" q) [e, e2] [] qpos] [] pos) (iEnumZ X.K ta) := by
  refine ⟨fun pins s σ H R I h => ?_⟩
  refine Call_ (ld_blt I hg hm boot_enumerate (PyProof.Rows.callWith_type1 (args_cons ?_ hs2) hs2 rfl))
  refine Call_ (ld_blt I hg2 hm2 PyProof.Rows.boot_zip (PyProof.Rows.callWith_type1 (thn (ha.run qpos pins s σ H _ I h) fun us s1 ⟨vs, H1, I1, r1, q1⟩ => ?_) hs hpl))
  obtain ⟨a, b, xs, ys, ex, hqx, hqy, hR⟩ := q1
  subst ex
  cases r1 with
  | cons r rr =>
    cases rr with
    | cons r' rr =>
      cases rr
      cases r
      cases r'
      obtain ⟨its, rv, p1, _⟩ := I1.tuple hqx
      obtain ⟨its2, rv2, p2, _⟩ := I1.tuple hqy
      obtain ⟨o1, ho1, _⟩ := id p1
      obtain ⟨o2, ho2, _⟩ := id p2
      refine RZ.call_zipT (show s1.heap.IsTuple a its.toArray from p1) (show s1.heap.IsTuple b its2.toArray from p2) fun h' hz hTI hTO h1 h2 hsz hk => args_nil ?_
      refine call_enumZ (s := { s1 with heap := h' }) hz fun h2' he hsz2 hk2 => wpAny_pyIter_enum (s := { s1 with heap := h2' }) he ?_
      have I2 : Inv X pins σ H1 { s1 with heap := h2' } := I1.kept (t' := s1.toks) fun b o x => hk2 b o (hk b o x)
      have hsz3 : h'.objs.size = s1.heap.objs.size + 5 := hsz
      have he2 : IsEnum h2' h'.objs.size (s1.heap.objs.size + 4) 0 .none := he
      rw [hsz3] at he2
      have D := PySem.W.ktu_apart s1.heap.objs.size a b (Heap.lt_size ho1) (Heap.lt_size ho2)
      have ne : ∀ j, j < 5 → s1.heap.objs.size + 5 ≠ s1.heap.objs.size + j := fun j hj => Nat.ne_of_gt (Nat.add_lt_add_left hj _)
      refine ⟨s1.heap.objs.size + 5, [s1.heap.objs.size + 5, s1.heap.objs.size + 4, s1.heap.objs.size + 2, s1.heap.objs.size + 3, s1.heap.objs.size, s1.heap.objs.size + 1], _, _, H1, ?_, I2, turn_enumZ D (ne 4 (by decide)) (ne 2 (by decide)) (ne 3 (by decide)) (ne 0 (by decide)) (ne 1 (by decide)),
        ⟨⟨.none, he2⟩, ⟨⟨.none, false, hk2 _ _ hz, .inl rfl⟩, hk2 _ _ hTI, ⟨_, _, hk2 _ _ hTO⟩, h1.at fun o q => hk2 _ o q, h2.at fun o q => hk2 _ o q⟩⟩, fun c hcm => ?_, hR⟩
      · show Value.ref h'.objs.size = _
        rw [hsz3]
      · have hle : s1.heap.objs.size ≤ c := by
          have e' : c = s1.heap.objs.size + 5 ∨ c = s1.heap.objs.size + 4 ∨ c = s1.heap.objs.size + 2 ∨ c = s1.heap.objs.size + 3 ∨ c = s1.heap.objs.size ∨ c = s1.heap.objs.size + 1 := by simpa using hcm
          rcases e' with z | z | z | z | z | z
          · rw [z]; exact Nat.le_add_right _ _
          · rw [z]; exact Nat.le_add_right _ _
          · rw [z]; exact Nat.le_add_right _ _
          · rw [z]; exact Nat.le_add_right _ _
          · rw [z]; exact Nat.le_refl _
          · rw [z]; exact Nat.le_add_right _ _
        exact I1.fpOk hle (I1.hok.fresh hle)
/-! as data -/
def dEnumZip : List D → R (List D)
  | [.tuple ds, .tuple es] => .ok (enumD 0 (zipD ds es))
  | _ => .bad
theorem itok_enumZ {K : Fr} {H0 : Hp} {a b : Addr} {xs ys : List V} {ds fs : List D} (h : H0 a = some (.tup xs)) (rs : RpA K H0 xs ds) (h' : H0 b = some (.tup ys)) (rs' : RpA K H0 ys fs) : ItOk K (ItzE K a b) H0 (enumD 0 (zipD ds fs)) := fun i => ⟨fun H e hi => ⟨xs, ys, SqT.of (e _ _ h), SqT.of (e _ _ h'), by rw [rs.length, rs'.length]; rw [enumD_length] at hi; exact zipD_end _ _ _ hi⟩, fun H d e hd => by
  obtain ⟨pr, hpr, hd2⟩ := enumD_get _ 0 i hd
  obtain ⟨x, y, h1, h2, h3⟩ := zipD_get ds fs i hpr
  obtain ⟨v, h4, h5⟩ := rs.getD h1
  obtain ⟨w, h6, h7⟩ := rs'.getD h2
  refine ⟨⟨xs, ys, v, w, SqT.of (e _ _ h), SqT.of (e _ _ h'), h4, h6⟩, fun x' H' q => .inr (.inr fun Hc ec es => ?_)⟩
  obtain ⟨T, T2, x2, y2, q1, hne, qT, qT2, q3, q4, q5⟩ := q
  have e1 := q4 xs (SqT.of (e _ _ h))
  have e2 := q5 ys (SqT.of (e _ _ h'))
  rw [h4] at e1
  rw [h6] at e2
  cases e1
  cases e2
  have g1 : Gr Hc H (upd Hc T (.tup [v, w])) (upd H T (.tup [v, w])) := Gr.new es qT
  have qT2' : upd H T (.tup [v, w]) T2 = none := by rw [upd_ne (Ne.symm hne)]; exact qT2
  have g2 : Gr (upd Hc T (.tup [v, w])) (upd H T (.tup [v, w])) (upd (upd Hc T (.tup [v, w])) T2 (.tup [.int (i : Nat), .ref T])) (upd (upd H T (.tup [v, w])) T2 (.tup [.int (i : Nat), .ref T])) := Gr.new g1.s qT2'
  refine ⟨_, by rw [q3]; exact g1.trans g2, ?_⟩
  rw [q1, hd2, h3, Nat.zero_add]
  have ex1 : Ex H0 (upd Hc T (.tup [v, w])) := ec.trans g1.e0
  have ex2 : Ex (upd Hc T (.tup [v, w])) (upd (upd Hc T (.tup [v, w])) T2 (.tup [.int (i : Nat), .ref T])) := g2.e0
  exact .tup upd_same (.cons (.int _) (.cons (.tup (ex2 _ _ upd_same) ((RpA.cons h5 (.cons h7 .nil)).mono (ex1.trans ex2))) .nil))⟩
section
variable {X : Cx} {W : WX} {a b : Expr} {pos : Pos}
theorem id_enumzip {ms : DA} {p tpos q qpos : Pos} {elts : List Expr} {kk : Nat} (hg : Gl X "enumerate") (hm : X.mg "enumerate" = none) (hg2 : Gl X "zip") (hm2 : X.mg "zip" = none) (ha : PAf X W [a, b] ms)
    (hs : starEach [a, b] X.env = (false, eval a X.env) :: starEach [b] X.env := by rfl) (hpl : (backTo qpos (starEach [b] X.env)).any (·.1) = false := by rfl)
    (hs2 : starEach [.Call (.Name "zip" q) [a, b] [] qpos] X.env = (false, eval (.Call (.Name "zip" q) [a, b] [] qpos) X.env) :: starEach [] X.env := by rfl) :
    ID X W (.Tuple elts kk tpos) (.Call (.Name "enumerate" p) [.Call (.Name "zip" q) [a, b] [] qpos] [] pos) (iArgs dEnumZip ms) := (pi_enumZ hg hm hg2 hm2 ha hs hpl hs2).wk fun σ H Rc ⟨B, ρ, H0, r, o⟩ => by
  unfold iArgs at o
  refine ⟨B, ρ, H0, r, ?_⟩
  cases h : ms ρ with
  | bad => rw [h] at o; exact o.elim
  | er c => rw [h] at o; exact o
  | ok ds =>
    rw [h, R.bind_ok] at o
    intro vs H1 H2 g va
    unfold dEnumZip at o
    split at o
    · cases va with
      | cons rp t =>
        cases t with
        | cons rp' t =>
          cases t
          cases rp with
          | tup h1 h2 =>
            cases rp' with
            | tup h3 h4 => exact ⟨_, _, _, _, rfl, SqT.of (g.s _ _ h1), SqT.of (g.s _ _ h3), o _ H1 H2 g (itok_enumZ h1 h2 h3 h4)⟩
    · exact o.elim
end
end Fc
set_option Elab.async false
set_option linter.all false
set_option maxRecDepth 100000
set_option maxHeartbeats 2000000
namespace Fc
open PySem L2 Evl PySem.Spec PyProof.Rows
/-! ### the functions over data, made ready to be reckoned with -/
def boolK {α : Type} (d : D) (a b z : α) : α := match d with
  | .bool true => a
  | .bool false => b
  | _ => z
@[simp] theorem boolK_b {α : Type} (c : Bool) (a b z : α) : boolK (.bool c) a b z = if c = true then a else b := by cases c <;> rfl
def rK (r : R D) (k : D → RS) (ρ : En) : RS := match r with
  | .ok d => k d
  | .er c => .er c ρ
  | .bad => .bad
@[simp] theorem rK_ok (d : D) (k : D → RS) (ρ : En) : rK (.ok d) k ρ = k d := rfl
@[simp] theorem rK_er (c : Str) (k : D → RS) (ρ : En) : rK (.er c) k ρ = .er c ρ := rfl
@[simp] theorem rK_bad (k : D → RS) (ρ : En) : rK .bad k ρ = .bad := rfl
@[simp] theorem rK_ite (c : Prop) [Decidable c] (a b : R D) (k : D → RS) (ρ : En) : rK (if c then a else b) k ρ = if c then rK a k ρ else rK b k ρ := by split <;> rfl
def seqK (r : RS) (N : DS) : RS := match r with
  | .nx ρ => N ρ
  | r => r
@[simp] theorem seqK_nx (ρ : En) (N : DS) : seqK (.nx ρ) N = N ρ := rfl
@[simp] theorem seqK_rt (d : D) (N : DS) : seqK (.rt d) N = .rt d := rfl
@[simp] theorem seqK_bk (ρ : En) (N : DS) : seqK (.bk ρ) N = .bk ρ := rfl
@[simp] theorem seqK_ct (ρ : En) (N : DS) : seqK (.ct ρ) N = .ct ρ := rfl
@[simp] theorem seqK_er (c : Str) (ρ : En) (N : DS) : seqK (.er c ρ) N = .er c ρ := rfl
@[simp] theorem seqK_bad (N : DS) : seqK .bad N = .bad := rfl
@[simp] theorem seqK_ite (c : Prop) [Decidable c] (a b : RS) (N : DS) : seqK (if c then a else b) N = if c then seqK a N else seqK b N := by split <;> rfl
def endF (r : RS) : R D := match r with
  | .nx _ => .ok .none
  | .rt d => .ok d
  | .er c _ => .er c
  | _ => .bad
@[simp] theorem endF_nx (ρ : En) : endF (.nx ρ) = .ok .none := rfl
@[simp] theorem endF_rt (d : D) : endF (.rt d) = .ok d := rfl
@[simp] theorem endF_er (c : Str) (ρ : En) : endF (.er c ρ) = .er c := rfl
@[simp] theorem endF_ite (c : Prop) [Decidable c] (a b : RS) : endF (if c then a else b) = if c then endF a else endF b := by split <;> rfl
@[simp] theorem bind_ite {α β : Type} (c : Prop) [Decidable c] (a b : R α) (k : α → R β) : (if c then a else b).bind k = if c then a.bind k else b.bind k := by split <;> rfl
theorem runF_eq (N n : Nat) (M : DS) (ds : List D) (h : ds.length = n) : runF N n M ds = endF (M (ds.map Slot.fz ++ List.replicate (N - n) Slot.un)) := by
  unfold runF
  rw [if_pos h]
  rfl
theorem runF_1 (N : Nat) (M : DS) (a : D) : runF N 1 M [a] = endF (M (.fz a :: List.replicate (N - 1) Slot.un)) := runF_eq N 1 M [a] rfl
theorem runF_2 (N : Nat) (M : DS) (a b : D) : runF N 2 M [a, b] = endF (M (.fz a :: .fz b :: List.replicate (N - 2) Slot.un)) := runF_eq N 2 M [a, b] rfl
theorem runF_3 (N : Nat) (M : DS) (a b c : D) : runF N 3 M [a, b, c] = endF (M (.fz a :: .fz b :: .fz c :: List.replicate (N - 3) Slot.un)) := runF_eq N 3 M [a, b, c] rfl
theorem runF_4 (N : Nat) (M : DS) (a b c d : D) : runF N 4 M [a, b, c, d] = endF (M (.fz a :: .fz b :: .fz c :: .fz d :: List.replicate (N - 4) Slot.un)) := runF_eq N 4 M [a, b, c, d] rfl
theorem runF_5 (N : Nat) (M : DS) (a b c d e : D) : runF N 5 M [a, b, c, d, e] = endF (M (.fz a :: .fz b :: .fz c :: .fz d :: .fz e :: List.replicate (N - 5) Slot.un)) := runF_eq N 5 M [a, b, c, d, e] rfl
@[simp] theorem sE_eq (m : DE) (k : D → DS) (ρ : En) : sE m k ρ = rK (m ρ) (fun d => k d ρ) ρ := rfl
@[simp] theorem sSeq_eq (M N : DS) (ρ : En) : sSeq M N ρ = seqK (M ρ) N := rfl
@[simp] theorem sRet_eq (m : DE) (ρ : En) : sRet m ρ = rK (m ρ) (fun d => .rt d) ρ := rfl
@[simp] theorem sDrop_eq (m : DE) (ρ : En) : sDrop m ρ = rK (m ρ) (fun _ => .nx ρ) ρ := rfl
@[simp] theorem sAsg_eq (i : Nat) (m : DE) (ρ : En) : sAsg i m ρ = rK (m ρ) (fun d => .nx (ρ.set i (.fz d))) ρ := rfl
@[simp] theorem sOwn_eq (i : Nat) (m : DE) (ρ : En) : sOwn i m ρ = rK (m ρ) (fun d => .nx (ρ.set i (.ow d))) ρ := rfl
@[simp] theorem sNext_eq (ρ : En) : sNext ρ = .nx ρ := rfl
@[simp] theorem sFrz_eq (i : Nat) (M : DS) (ρ : En) : sFrz i M ρ = M (frz i ρ) := rfl
@[simp] theorem sIf_eq (m : DE) (M N : DS) (ρ : En) : sIf m M N ρ = rK (m ρ) (fun d => boolK d (M ρ) (N ρ) .bad) ρ := by
  unfold sIf sE rK
  cases m ρ with
  | ok d =>
    simp only
    cases d with
    | bool b => cases b <;> rfl
    | _ => rfl
  | er c => rfl
  | bad => rfl
@[simp] theorem eC_eq (d : D) (ρ : En) : eC d ρ = .ok d := rfl
def rdV (s : Option Slot) : R D := match s with
  | some (.fz d) => .ok d
  | _ => .bad
def rdW (s : Option Slot) : R D := match s with
  | some (.fz d) => .ok d
  | some (.ow d) => .ok d
  | _ => .bad
@[simp] theorem rdV_fz (d : D) : rdV (some (.fz d)) = .ok d := rfl
@[simp] theorem rdW_fz (d : D) : rdW (some (.fz d)) = .ok d := rfl
@[simp] theorem rdW_ow (d : D) : rdW (some (.ow d)) = .ok d := rfl
@[simp] theorem eV_eq (i : Nat) (ρ : En) : eV i ρ = rdV ρ[i]? := rfl
@[simp] theorem eW_eq (i : Nat) (ρ : En) : eW i ρ = rdW ρ[i]? := rfl
@[simp] theorem eBin_eq (op : D → D → R D) (ma mb : DE) (ρ : En) : eBin op ma mb ρ = (ma ρ).bind fun x => (mb ρ).bind fun y => op x y := rfl
@[simp] theorem eU_eq (f : D → R D) (ma : DE) (ρ : En) : eU f ma ρ = (ma ρ).bind f := rfl
@[simp] theorem eAnd_eq (ma mb : DE) (ρ : En) : eAnd ma mb ρ = (ma ρ).bind fun d => boolK d (mb ρ) (.ok (.bool false)) .bad := by
  unfold eAnd boolK
  rfl
@[simp] theorem eOr_eq (ma mb : DE) (ρ : En) : eOr ma mb ρ = (ma ρ).bind fun d => boolK d (.ok (.bool true)) (mb ρ) .bad := by
  unfold eOr boolK
  rfl
@[simp] theorem eIf_eq (mc ma mb : DE) (ρ : En) : eIf mc ma mb ρ = (mc ρ).bind fun d => boolK d (ma ρ) (mb ρ) .bad := by
  unfold eIf boolK
  rfl
@[simp] theorem eChain_eq (f g : D → D → R D) (ma mb mc : DE) (ρ : En) : eChain f g ma mb mc ρ = (ma ρ).bind fun x => (mb ρ).bind fun y => (f x y).bind fun d => boolK d ((mc ρ).bind fun z => g y z) (.ok (.bool false)) .bad := by
  unfold eChain boolK
  rfl
@[simp] theorem aNil_eq (ρ : En) : aNil ρ = .ok [] := rfl
@[simp] theorem aCons_eq (ma : DE) (mr : DA) (ρ : En) : aCons ma mr ρ = (ma ρ).bind fun d => (mr ρ).bind fun ds => .ok (d :: ds) := rfl
@[simp] theorem eDef_eq (g : List D → R D) (ms : DA) (ρ : En) : eDef g ms ρ = (ms ρ).bind g := rfl
@[simp] theorem eCall_eq (g : List D → R D) (ms : DA) (ρ : En) : eCall g ms ρ = (ms ρ).bind g := rfl
@[simp] theorem eTup_eq (ms : DA) (ρ : En) : eTup ms ρ = (ms ρ).bind fun ds => if szB ds.length = true then .ok (.tuple ds) else .bad := rfl
@[simp] theorem eLst_eq (ms : DA) (ρ : En) : eLst ms ρ = (ms ρ).bind fun ds => if szB ds.length = true then .ok (.list ds) else .bad := rfl
@[simp] theorem iArgs_eq (f : List D → R (List D)) (ms : DA) (ρ : En) : iArgs f ms ρ = (ms ρ).bind f := rfl
@[simp] theorem iSeq_eq (m : DE) (ρ : En) : iSeq m ρ = (m ρ).bind dSeq := rfl
@[simp] theorem dSeq_l (ds : List D) : dSeq (.list ds) = .ok ds := rfl
@[simp] theorem dSeq_t (ds : List D) : dSeq (.tuple ds) = .ok ds := rfl
@[simp] theorem gN_eq (i : Nat) (d : D) (ρ : En) : gN i d ρ = some (ρ.set i (.fz d)) := rfl
@[simp] theorem eT_eq (ρ : En) : eT ρ = .ok (.bool true) := rfl
@[simp] theorem eSl_eq (f : D → Option Int → Option Int → R D) (ma : DE) (ml mh : DO) (ρ : En) : eSl f ma ml mh ρ = (ma ρ).bind fun x => (ml ρ).bind fun lo => (mh ρ).bind fun hi => f x lo hi := rfl
@[simp] theorem oNone_eq (ρ : En) : oNone ρ = .ok none := rfl
def toI (d : D) : R (Option Int) := match d with
  | .int i => .ok (some i)
  | _ => .bad
@[simp] theorem toI_i (i : Int) : toI (.int i) = .ok (some i) := rfl
@[simp] theorem oSome_eq (m : DE) (ρ : En) : oSome m ρ = (m ρ).bind toI := rfl
/-! ### the operators at ints -/
@[simp] theorem dAdd_i (a b : Int) : dAdd (.int a) (.int b) = .ok (.int (a + b)) := rfl
@[simp] theorem dSub_i (a b : Int) : dSub (.int a) (.int b) = .ok (.int (a - b)) := rfl
@[simp] theorem dLt_i (a b : Int) : dLt (.int a) (.int b) = .ok (.bool (decide (a < b))) := rfl
@[simp] theorem dLe_i (a b : Int) : dLe (.int a) (.int b) = .ok (.bool (decide (a ≤ b))) := rfl
@[simp] theorem dGt_i (a b : Int) : dGt (.int a) (.int b) = .ok (.bool (decide (b < a))) := rfl
@[simp] theorem dGe_i (a b : Int) : dGe (.int a) (.int b) = .ok (.bool (decide (b ≤ a))) := rfl
@[simp] theorem dNeg_i (a : Int) : dNeg (.int a) = .ok (.int (-a)) := rfl
@[simp] theorem dNot_b (b : Bool) : dNot (.bool b) = .ok (.bool (!b)) := rfl
@[simp] theorem dIsN_eq (d : D) : dIsN d = .ok (.bool (isN d)) := rfl
@[simp] theorem dNotN_eq (d : D) : dNotN d = .ok (.bool (!isN d)) := rfl
@[simp] theorem isN_i (i : Int) : isN (.int i) = false := rfl
@[simp] theorem isN_t (i : List D) : isN (.tuple i) = false := rfl
@[simp] theorem isN_l (i : List D) : isN (.list i) = false := rfl
@[simp] theorem isN_b (i : Bool) : isN (.bool i) = false := rfl
@[simp] theorem isN_s (i : Str) : isN (.str i) = false := rfl
@[simp] theorem isN_n : isN .none = true := rfl
theorem dMul_i (a b : Int) (h : (decide (-(2 ^ 64) < a ∧ a < 2 ^ 64) || decide (-(2 ^ 64) < b ∧ b < 2 ^ 64)) = true) : dMul (.int a) (.int b) = .ok (.int (a * b)) := by
  show dMulI (.int a) (.int b) = _
  simp only [dMulI, dI]
  rw [if_pos h]
theorem dMod_i (a b : Int) (h : 0 < b) : dMod (.int a) (.int b) = .ok (.int (a % b)) := by
  simp only [dMod, dI]
  rw [if_pos (decide_eq_true h)]
theorem dFdiv_i (a b : Int) (h : 0 < b ∧ b < 1073741824) : dFdiv (.int a) (.int b) = .ok (.int (a / b)) := by
  simp only [dFdiv, dI]
  rw [if_pos (decide_eq_true h)]
@[simp] theorem shaped_i (a : Int) : SeqAt.shaped (.int a) = true := by simp [SeqAt.shaped, PyData.canLay0, PyData.depth]
@[simp] theorem shaped_b (a : Bool) : SeqAt.shaped (.bool a) = true := by simp [SeqAt.shaped, PyData.canLay0, PyData.depth]
@[simp] theorem shaped_n : SeqAt.shaped .none = true := by simp [SeqAt.shaped, PyData.canLay0, PyData.depth]
@[simp] theorem unS_i (a : Int) : unS (.int a) = .int a := rfl
@[simp] theorem unS_b (a : Bool) : unS (.bool a) = .bool a := rfl
@[simp] theorem unS_n : unS .none = .none := rfl
@[simp] theorem unS_l (a : List D) : unS (.list a) = .list a := rfl
@[simp] theorem unS_t (a : List D) : unS (.tuple a) = .tuple a := rfl
@[simp] theorem unS_s (a : Str) : unS (.str a) = .str a := rfl
@[simp] theorem unS_scr (l : D) : unS (.dict [(.none, l)]) = l := rfl
@[simp] theorem dEq_i (a b : Int) : dEq (.int a) (.int b) = .ok (.bool (a == b)) := by simp [dEq, PyData.eqv]
@[simp] theorem dNe_i (a b : Int) : dNe (.int a) (.int b) = .ok (.bool (!(a == b))) := by simp [dNe, PyData.eqv]
@[simp] theorem dEq_b (a b : Bool) : dEq (.bool a) (.bool b) = .ok (.bool (a == b)) := by simp [dEq, PyData.eqv]
@[simp] theorem dNe_b (a b : Bool) : dNe (.bool a) (.bool b) = .ok (.bool (!(a == b))) := by simp [dNe, PyData.eqv]
@[simp] theorem dLen_l (ds : List D) : dLen [.list ds] = .ok (.int ds.length) := rfl
@[simp] theorem dLen_t (ds : List D) : dLen [.tuple ds] = .ok (.int ds.length) := rfl
@[simp] theorem dLen_scr (ds : List D) : dLen [.dict [(.none, .list ds)]] = .ok (.int ds.length) := rfl
def atR {α : Type} (o : Option α) (f : α → D) : R D := match o with
  | some a => .ok (f a)
  | none => .bad
@[simp] theorem atR_s {α : Type} (a : α) (f : α → D) : atR (some a) f = .ok (f a) := rfl
@[simp] theorem dIx_l (ds : List D) (i : Int) : dIx (.list ds) (.int i) = atR (atI ds i) id := by
  unfold dIx atR
  simp only
  cases atI ds i <;> rfl
@[simp] theorem dIx_t (ds : List D) (i : Int) : dIx (.tuple ds) (.int i) = atR (atI ds i) id := by
  unfold dIx atR
  simp only
  cases atI ds i <;> rfl
@[simp] theorem dIx_scr (ds : List D) (i : Int) : dIx (.dict [(.none, .list ds)]) (.int i) = atR (atI ds i) id := by
  unfold dIx atR
  simp only
  cases atI ds i <;> rfl
@[simp] theorem dSl_l (ds : List D) (a b : Option Int) : dSl (.list ds) a b = .ok (.list (cutL ds a b)) := rfl
@[simp] theorem dSl_t (ds : List D) (a b : Option Int) : dSl (.tuple ds) a b = .ok (.tuple (cutL ds a b)) := rfl
theorem dAdd_t (x y : List D) (h : x.length + y.length ≤ 100000) : dAdd (.tuple x) (.tuple y) = .ok (.tuple (x ++ y)) := by
  show (if szB _ = true then _ else _) = _
  rw [if_pos (show szB _ = true from decide_eq_true h)]
theorem dAdd_l (x y : List D) (h : x.length + y.length ≤ 100000) : dAdd (.list x) (.list y) = .ok (.list (x ++ y)) := by
  show (if szB _ = true then _ else _) = _
  rw [if_pos (show szB _ = true from decide_eq_true h)]
@[simp] theorem szB_lit (n : Nat) : szB n = decide (n ≤ 100000) := rfl
/-! ### loops -/
def stepK (Post : RS → Prop) (I : En → Prop) (r : RS) : Prop := match r with
  | .nx ρ => I ρ
  | .ct ρ => I ρ
  | .bk ρ => Post (.nx ρ)
  | r => Post r
theorem forL_post {g : DG} {M : DS} {Post : RS → Prop} (I : List D → En → Prop) (hend : ∀ ρ, I [] ρ → Post (.nx ρ)) (step : ∀ d ds ρ, I (d :: ds) ρ → ∃ ρ1, g d ρ = some ρ1 ∧ stepK Post (I ds) (M ρ1)) : ∀ ds ρ, I ds ρ → Post (forL g M ds ρ)
  | [], ρ, h => hend ρ h
  | d :: ds, ρ, h => by
    obtain ⟨ρ1, h1, h2⟩ := step d ds ρ h
    unfold forL
    rw [h1]
    simp only
    cases hM : M ρ1 with
    | nx ρ2 => rw [hM] at h2; exact forL_post I hend step ds ρ2 h2
    | ct ρ2 => rw [hM] at h2; exact forL_post I hend step ds ρ2 h2
    | bk ρ2 => rw [hM] at h2; exact h2
    | rt d => rw [hM] at h2; exact h2
    | er c ρ2 => rw [hM] at h2; exact h2
    | bad => rw [hM] at h2; exact h2
theorem sFor_post {it : DI} {g : DG} {M : DS} {ρ : En} {ds : List D} {Post : RS → Prop} (hi : it ρ = .ok ds) (I : List D → En → Prop) (h0 : I ds ρ) (hend : ∀ ρ, I [] ρ → Post (.nx ρ)) (step : ∀ d ds ρ, I (d :: ds) ρ → ∃ ρ1, g d ρ = some ρ1 ∧ stepK Post (I ds) (M ρ1)) : Post (sFor it g M ρ) := by
  unfold sFor
  rw [hi]
  exact forL_post I hend step ds ρ h0
theorem lcL_map {g : DG} {t m : DE} {vs : List Nat} {ρ : En} {f : D → Option D} : ∀ {ds : List D}, (∀ d ∈ ds, lcStep g t m vs ρ d = some (f d)) → lcL g t m vs ρ ds = some (ds.filterMap f)
  | [], _ => rfl
  | d :: ds, h => by
    unfold lcL
    rw [h d (by simp)]
    simp only
    rw [lcL_map fun x hx => h x (List.mem_cons_of_mem _ hx)]
    simp only [List.filterMap_cons]
    cases f d <;> rfl
theorem eLc_map {it : DI} {g : DG} {t m : DE} {vs : List Nat} {ρ : En} {ds : List D} {f : D → Option D} (hi : it ρ = .ok ds) (h : ∀ d ∈ ds, lcStep g t m vs ρ d = some (f d)) (hl : ds.length ≤ 100000) : eLc it g t m vs ρ = .ok (.list (ds.filterMap f)) := by
  unfold eLc
  rw [hi]
  simp only
  rw [lcL_map h]
  simp only
  rw [if_pos]
  exact decide_eq_true (Nat.le_trans (List.length_filterMap_le _ _) hl)
def lcK (o : Option En) (t m : DE) : Option (Option D) := match o with
  | none => none
  | some ρ => match t ρ with
    | .ok d => boolK d (match m ρ with | .ok x => some (some x) | _ => none) (some none) none
    | _ => none
theorem lcStep_eq (g : DG) (t m : DE) (vs : List Nat) (ρ : En) (d : D) : lcStep g t m vs ρ d = lcK (g d (wipeE ρ vs)) t m := by
  unfold lcStep lcK
  cases g d (wipeE ρ vs) with
  | none => rfl
  | some ρ1 =>
    simp only
    cases t ρ1 with
    | ok d =>
      simp only
      cases d with
      | bool b => cases b <;> rfl
      | _ => rfl
    | _ => rfl
theorem lcK_map {ρ : En} {t m : DE} {b : Bool} {d : D} (ht : t ρ = .ok (.bool b)) (hm : b = true → m ρ = .ok d) : lcK (some ρ) t m = some (if b = true then some d else none) := by
  unfold lcK
  simp only
  rw [ht]
  cases b with
  | false => rfl
  | true => simp only [boolK, hm]; rfl
theorem dIsE_ex (a : Addr) (b : Bool) : dIsE a b (exD a) = .ok (.bool b) := by simp [dIsE, exD]
end Fc
set_option Elab.async false
set_option linter.all false
set_option maxRecDepth 100000
set_option maxHeartbeats 4000000

namespace Fc
open PySem L2 Evl PySem.Spec PyProof.Rows
def M_law_cell : DS := (sSeq (sIf (eBin dEq (eW 0) (eLst aNil))
  (sRet (eBin dMul (eC (.int 7)) (eW 1)))
  sNext)
  (sRet (eBin dAdd (eBin dIx (eW 0) (eBin dMod (eW 1) (eCall dLen (aCons (eW 0) aNil)))) (eBin dMul (eC (.int 6553)) (eBin dFdiv (eW 1) (eCall dLen (aCons (eW 0) aNil)))))))
def F_law_cell : List D → R D := runF 2 2 M_law_cell

def M_law_drawn : DS := (sSeq (sAsg 3 (eBin dMod (eBin dAdd (eBin dMul (eBin dMod (eDef F_law_cell (aCons (eV 0) (aCons (eV 1) aNil))) (eC (.int 2147483563))) (eC (.int 69069))) (eBin dMul (eC (.int 104723)) (eBin dAdd (eW 1) (eC (.int 1))))) (eC (.int 2147483563))))
  (sSeq (sAsg 3 (eBin dMod (eBin dAdd (eBin dMul (eW 3) (eW 3)) (eBin dFdiv (eW 3) (eC (.int 3)))) (eC (.int 2147483399))))
  (sRet (eBin dMod (eBin dFdiv (eBin dMod (eBin dAdd (eBin dMul (eW 3) (eW 3)) (eBin dFdiv (eW 3) (eC (.int 7)))) (eC (.int 2147483647))) (eC (.int 11))) (eW 2)))))
def F_law_drawn : List D → R D := runF 4 3 M_law_drawn

def B_law_clock_1 : DS := (sAsg 3 (eBin dAdd (eW 3) (eTup (aCons (eBin dAdd (eBin dAdd (eBin dIx (eW 3) (eU dNeg (eC (.int 1)))) (eC (.int 1))) (eDef F_law_drawn (aCons (eV 0) (aCons (eBin dAdd (eBin dAdd (eW 1) (eC (.int 3))) (eW 4)) (aCons (eC (.int 5)) aNil))))) aNil))))
def L_law_clock_1 : DS := (sFor (iArgs dRng1 (aCons (eDef F_law_drawn (aCons (eV 0) (aCons (eBin dAdd (eW 1) (eC (.int 1))) (aCons (eC (.int 3)) aNil)))) aNil)) (gN 4) B_law_clock_1)
def M_law_clock : DS := (sSeq (sAsg 2 (eBin dAdd (eC (.int 1)) (eDef F_law_drawn (aCons (eV 0) (aCons (eV 1) (aCons (eC (.int 3)) aNil))))))
  (sSeq (sAsg 3 (eTup (aCons (eDef F_law_drawn (aCons (eV 0) (aCons (eBin dAdd (eW 1) (eC (.int 2))) (aCons (eC (.int 6)) aNil)))) aNil)))
  (sSeq L_law_clock_1
  (sRet (eTup (aCons (eV 2) (aCons (eBin dAdd (eW 2) (eDef F_law_drawn (aCons (eV 0) (aCons (eBin dAdd (eW 1) (eC (.int 6))) (aCons (eC (.int 3)) aNil))))) (aCons (eV 3) aNil))))))))
def F_law_clock : List D → R D := runF 5 2 M_law_clock

def C_law_events_1 : DE := (eLc (iArgs dRng1 (aCons (eCall dLen (aCons (eBin dIx (eW 3) (eC (.int 2))) aNil)) aNil)) (gN 4) eT (eTup (aCons (eV 2) (aCons (eV 4) aNil))) [4])
def B_law_events_1 : DS := (sAsg 1 (eBin dAdd (eW 1) C_law_events_1))
def L_law_events_1 : DS := (sFor (iArgs dEnum (aCons (eV 0) aNil)) (gTupD 2 (gConsD (gN 2) (gConsD (gN 3) gNilD))) B_law_events_1)
def M_law_events : DS := (sSeq (sAsg 1 (eLst aNil))
  (sSeq L_law_events_1
  (sRet (eV 1))))
def F_law_events : List D → R D := runF 5 1 M_law_events

def M_law_letter : DS := (sSeq (sAsg 3 (eDef F_law_events (aCons (eV 2) aNil)))
  (sSeq (sIf (eBin dLt (eCall dLen (aCons (eW 3) aNil)) (eC (.int 2)))
  (sRet (eC .none))
  sNext)
  (sSeq (sAsg 4 (eDef F_law_drawn (aCons (eV 0) (aCons (eV 1) (aCons (eCall dLen (aCons (eW 3) aNil)) aNil)))))
  (sSeq (sAsg 5 (eBin dMod (eBin dAdd (eBin dAdd (eW 4) (eC (.int 1))) (eDef F_law_drawn (aCons (eV 0) (aCons (eBin dAdd (eW 1) (eC (.int 1))) (aCons (eBin dSub (eCall dLen (aCons (eW 3) aNil)) (eC (.int 1))) aNil))))) (eCall dLen (aCons (eW 3) aNil))))
  (sSeq (sAsg 6 (eDef F_law_drawn (aCons (eV 0) (aCons (eBin dAdd (eW 1) (eC (.int 2))) (aCons (eC (.int 8)) aNil)))))
  (sSeq (sAsg 7 (eIf (eBin dEq (eDef F_law_drawn (aCons (eV 0) (aCons (eBin dAdd (eW 1) (eC (.int 3))) (aCons (eC (.int 3)) aNil)))) (eC (.int 0))) (eC .none) (eBin dAdd (eW 6) (eDef F_law_drawn (aCons (eV 0) (aCons (eBin dAdd (eW 1) (eC (.int 4))) (aCons (eC (.int 9)) aNil)))))))
  (sRet (eTup (aCons (eBin dIx (eW 3) (eW 4)) (aCons (eBin dIx (eW 3) (eW 5)) (aCons (eV 6) (aCons (eV 7) aNil))))))))))))
def F_law_letter : List D → R D := runF 8 3 M_law_letter

def C_law_record_1 : DE := (eLc (iArgs dRng1 (aCons (eBin dAdd (eC (.int 1)) (eDef F_law_drawn (aCons (eV 0) (aCons (eV 1) (aCons (eC (.int 3)) aNil))))) aNil)) (gN 5) eT (eDef F_law_clock (aCons (eV 0) (aCons (eBin dAdd (eBin dAdd (eW 1) (eC (.int 1))) (eBin dMul (eC (.int 8)) (eW 5))) aNil))) [5])
def B_law_record_1 : DS := (sSeq (sAsg 6 (eDef F_law_letter (aCons (eV 0) (aCons (eBin dAdd (eBin dAdd (eW 1) (eC (.int 31))) (eBin dMul (eC (.int 6)) (eW 5))) (aCons (eV 3) aNil)))))
  (sAsg 4 (eBin dAdd (eW 4) (eBin dMul (eLst (aCons (eV 6) aNil)) (eCall dInt (aCons (eU dNotN (eW 6)) aNil))))))
def L_law_record_1 : DS := (sFor (iArgs dRng1 (aCons (eDef F_law_drawn (aCons (eV 0) (aCons (eBin dAdd (eW 1) (eC (.int 30))) (aCons (eBin dAdd (eW 2) (eC (.int 1))) aNil)))) aNil)) (gN 5) B_law_record_1)
def M_law_record : DS := (sSeq (sAsg 3 (eCall dTupOf (aCons C_law_record_1 aNil)))
  (sSeq (sAsg 4 (eLst aNil))
  (sSeq L_law_record_1
  (sRet (eTup (aCons (eV 3) (aCons (eCall dTupOf (aCons (eW 4) aNil)) aNil)))))))
def F_law_record : List D → R D := runF 7 3 M_law_record

def M_is_number : DS := (sRet (eAnd (eU (dIsI "int") (eW 0)) (eAnd (eU dNot (eU (dIsI "bool") (eW 0))) (eChain dLe dLe (eW 1) (eW 0) (eW 2)))))
def F_is_number : List D → R D := runF 3 3 M_is_number

def C_is_clock_1 : DE := (eLc (iSeq (eV 1)) (gN 2) eT (eDef F_is_number (aCons (eV 2) (aCons (eC (.int 0)) (aCons (eC (.int 99)) aNil)))) [2])
def C_is_clock_2 : DE := (eLc (iArgs dZip (aCons (eV 1) (aCons (eSl dSl (eW 1) (oSome (eC (.int 1))) oNone) aNil))) (gTupD 2 (gConsD (gN 2) (gConsD (gN 3) gNilD))) eT (eBin dLt (eW 2) (eW 3)) [2, 3])
def M_is_clock : DS := (sSeq (sIf (eOr (eU dNot (eU (dIsI "tuple") (eW 0))) (eOr (eBin dNe (eCall dLen (aCons (eW 0) aNil)) (eC (.int 3))) (eU dNot (eDef F_is_number (aCons (eBin dIx (eW 0) (eC (.int 0))) (aCons (eC (.int 1)) (aCons (eC (.int 9)) aNil)))))))
  (sRet (eC (.bool false)))
  sNext)
  (sSeq (sIf (eOr (eU dNot (eDef F_is_number (aCons (eBin dIx (eW 0) (eC (.int 1))) (aCons (eBin dIx (eW 0) (eC (.int 0))) (aCons (eC (.int 9)) aNil))))) (eU dNot (eU (dIsI "tuple") (eBin dIx (eW 0) (eC (.int 2))))))
  (sRet (eC (.bool false)))
  sNext)
  (sSeq (sAsg 1 (eBin dIx (eW 0) (eC (.int 2))))
  (sSeq (sIf (eOr (eU dNot (eChain dLe dLe (eC (.int 1)) (eCall dLen (aCons (eW 1) aNil)) (eC (.int 4)))) (eU dNot (eCall dAll (aCons C_is_clock_1 aNil))))
  (sRet (eC (.bool false)))
  sNext)
  (sRet (eCall dAll (aCons C_is_clock_2 aNil)))))))
def F_is_clock : List D → R D := runF 4 1 M_is_clock

def M_is_event : DS := (sSeq (sIf (eOr (eU dNot (eU (dIsI "tuple") (eW 1))) (eOr (eBin dNe (eCall dLen (aCons (eW 1) aNil)) (eC (.int 2))) (eU dNot (eDef F_is_number (aCons (eBin dIx (eW 1) (eC (.int 0))) (aCons (eC (.int 0)) (aCons (eBin dSub (eCall dLen (aCons (eW 0) aNil)) (eC (.int 1))) aNil)))))))
  (sRet (eC (.bool false)))
  sNext)
  (sRet (eDef F_is_number (aCons (eBin dIx (eW 1) (eC (.int 1))) (aCons (eC (.int 0)) (aCons (eBin dSub (eCall dLen (aCons (eBin dIx (eBin dIx (eW 0) (eBin dIx (eW 1) (eC (.int 0)))) (eC (.int 2))) aNil)) (eC (.int 1))) aNil))))))
def F_is_event : List D → R D := runF 2 2 M_is_event

def M_is_letter : DS := (sSeq (sIf (eOr (eU dNot (eU (dIsI "tuple") (eW 1))) (eOr (eBin dNe (eCall dLen (aCons (eW 1) aNil)) (eC (.int 4))) (eU dNot (eDef F_is_number (aCons (eBin dIx (eW 1) (eC (.int 2))) (aCons (eC (.int 0)) (aCons (eC (.int 999)) aNil)))))))
  (sRet (eC (.bool false)))
  sNext)
  (sSeq (sIf (eOr (eU dNot (eDef F_is_event (aCons (eV 0) (aCons (eBin dIx (eW 1) (eC (.int 0))) aNil)))) (eOr (eU dNot (eDef F_is_event (aCons (eV 0) (aCons (eBin dIx (eW 1) (eC (.int 1))) aNil)))) (eBin dEq (eBin dIx (eW 1) (eC (.int 0))) (eBin dIx (eW 1) (eC (.int 1))))))
  (sRet (eC (.bool false)))
  sNext)
  (sRet (eOr (eU dIsN (eBin dIx (eW 1) (eC (.int 3)))) (eDef F_is_number (aCons (eBin dIx (eW 1) (eC (.int 3))) (aCons (eBin dIx (eW 1) (eC (.int 2))) (aCons (eC (.int 999)) aNil))))))))
def F_is_letter : List D → R D := runF 2 2 M_is_letter

def C_is_record_1 : DE := (eLc (iSeq (eBin dIx (eW 0) (eC (.int 0)))) (gN 1) eT (eDef F_is_clock (aCons (eV 1) aNil)) [1])
def C_is_record_2 : DE := (eLc (iSeq (eBin dIx (eW 0) (eC (.int 1)))) (gN 1) eT (eDef F_is_letter (aCons (eBin dIx (eW 0) (eC (.int 0))) (aCons (eV 1) aNil))) [1])
def M_is_record : DS := (sSeq (sIf (eOr (eU dNot (eU (dIsI "tuple") (eW 0))) (eOr (eBin dNe (eCall dLen (aCons (eW 0) aNil)) (eC (.int 2))) (eU dNot (eU (dIsI "tuple") (eBin dIx (eW 0) (eC (.int 0)))))))
  (sRet (eC (.bool false)))
  sNext)
  (sSeq (sIf (eOr (eU dNot (eChain dLe dLe (eC (.int 1)) (eCall dLen (aCons (eBin dIx (eW 0) (eC (.int 0))) aNil)) (eC (.int 4)))) (eU dNot (eCall dAll (aCons C_is_record_1 aNil))))
  (sRet (eC (.bool false)))
  sNext)
  (sSeq (sIf (eOr (eU dNot (eU (dIsI "tuple") (eBin dIx (eW 0) (eC (.int 1))))) (eBin dGt (eCall dLen (aCons (eBin dIx (eW 0) (eC (.int 1))) aNil)) (eC (.int 8))))
  (sRet (eC (.bool false)))
  sNext)
  (sRet (eCall dAll (aCons C_is_record_2 aNil))))))
def F_is_record : List D → R D := runF 2 1 M_is_record

def M_need_record : DS := (sIf (eU dNot (eDef F_is_record (aCons (eV 0) aNil)))
  (sRaise "NoRecord")
  sNext)
def F_need_record : List D → R D := runF 1 1 M_need_record

def C_events_1 : DE := (eLc (iArgs dRng1 (aCons (eCall dLen (aCons (eBin dIx (eW 3) (eC (.int 2))) aNil)) aNil)) (gN 4) eT (eTup (aCons (eV 2) (aCons (eV 4) aNil))) [4])
def B_events_1 : DS := (sExt 1 C_events_1)
def L_events_1 : DS := (sFor (iArgs dEnum (aCons (eBin dIx (eW 0) (eC (.int 0))) aNil)) (gTupD 2 (gConsD (gN 2) (gConsD (gN 3) gNilD))) B_events_1)
def M_events : DS := (sSeq (sDrop (eDef F_need_record (aCons (eV 0) aNil)))
  (sSeq (sOwn 1 (eLst aNil))
  (sSeq L_events_1
  (sFrz 1 (sRet (eV 1))))))
def F_events : List D → R D := runF 5 1 M_events

def B_clock_bounds_1 : DS := (sSeq (sAsg 8 (eBin dSub (eBin dIx (eW 7) (eC (.int 1))) (eBin dIx (eW 7) (eC (.int 0)))))
  (sSeq (sApp 5 (eTup (aCons (eTup (aCons (eV 0) (aCons (eV 6) aNil))) (aCons (eTup (aCons (eV 0) (aCons (eBin dAdd (eW 6) (eC (.int 1))) aNil))) (aCons (eBin dMul (eW 8) (eW 3)) aNil)))))
  (sApp 5 (eTup (aCons (eTup (aCons (eV 0) (aCons (eBin dAdd (eW 6) (eC (.int 1))) aNil))) (aCons (eTup (aCons (eV 0) (aCons (eV 6) aNil))) (aCons (eBin dSub (eC (.int 0)) (eBin dMul (eW 8) (eW 2))) aNil)))))))
def L_clock_bounds_1 : DS := (sFor (iArgs dEnumZip (aCons (eV 4) (aCons (eSl dSl (eW 4) (oSome (eC (.int 1))) oNone) aNil))) (gTupD 2 (gConsD (gN 6) (gConsD (gN 7) gNilD))) B_clock_bounds_1)
def M_clock_bounds : DS := (sSeq (sAsgG (gTupD 3 (gConsD (gN 2) (gConsD (gN 3) (gConsD (gN 4) gNilD)))) (eV 1))
  (sSeq (sOwn 5 (eLst aNil))
  (sSeq L_clock_bounds_1
  (sFrz 5 (sRet (eV 5))))))
def F_clock_bounds : List D → R D := runF 9 2 M_clock_bounds

def M_letter_bounds : DS := (sSeq (sAsgG (gTupD 4 (gConsD (gN 1) (gConsD (gN 2) (gConsD (gN 3) (gConsD (gN 4) gNilD))))) (eV 0))
  (sSeq (sAsg 5 (eLst (aCons (eTup (aCons (eV 2) (aCons (eV 1) (aCons (eBin dSub (eC (.int 0)) (eW 3)) aNil)))) aNil)))
  (sRet (eIf (eU dIsN (eW 4)) (eV 5) (eBin dAdd (eW 5) (eLst (aCons (eTup (aCons (eV 1) (aCons (eV 2) (aCons (eV 4) aNil)))) aNil)))))))
def F_letter_bounds : List D → R D := runF 6 1 M_letter_bounds

def B_bounds_1 : DS := (sExt 1 (eDef F_clock_bounds (aCons (eV 2) (aCons (eV 3) aNil))))
def L_bounds_1 : DS := (sFor (iArgs dEnum (aCons (eBin dIx (eW 0) (eC (.int 0))) aNil)) (gTupD 2 (gConsD (gN 2) (gConsD (gN 3) gNilD))) B_bounds_1)
def B_bounds_2 : DS := (sExt 1 (eDef F_letter_bounds (aCons (eV 4) aNil)))
def L_bounds_2 : DS := (sFor (iSeq (eBin dIx (eW 0) (eC (.int 1)))) (gN 4) B_bounds_2)
def M_bounds : DS := (sSeq (sDrop (eDef F_need_record (aCons (eV 0) aNil)))
  (sSeq (sOwn 1 (eLst aNil))
  (sSeq L_bounds_1
  (sSeq L_bounds_2
  (sFrz 1 (sRet (eV 1)))))))
def F_bounds : List D → R D := runF 5 1 M_bounds

def M_need_event : DS := (sSeq (sDrop (eDef F_need_record (aCons (eV 0) aNil)))
  (sIf (eU dNot (eDef F_is_event (aCons (eBin dIx (eW 0) (eC (.int 0))) (aCons (eV 1) aNil))))
  (sRaise "NoEvent")
  sNext))
def F_need_event : List D → R D := runF 2 2 M_need_event

def M_reading_of : DS := (sSeq (sDrop (eDef F_need_event (aCons (eV 0) (aCons (eV 1) aNil))))
  (sRet (eBin dIx (eBin dIx (eBin dIx (eBin dIx (eW 0) (eC (.int 0))) (eBin dIx (eW 1) (eC (.int 0)))) (eC (.int 2))) (eBin dIx (eW 1) (eC (.int 1))))))
def F_reading_of : List D → R D := runF 2 2 M_reading_of

def M_of_letter : DS := (sSeq (sDrop (eDef F_need_record (aCons (eV 0) aNil)))
  (sSeq (sIf (eU dNot (eDef F_is_number (aCons (eV 1) (aCons (eC (.int 0)) (aCons (eBin dSub (eCall dLen (aCons (eBin dIx (eW 0) (eC (.int 1))) aNil)) (eC (.int 1))) aNil)))))
  (sRaise "NoNumber")
  sNext)
  (sSeq (sAsg 2 (eCall dLen (aCons (eDef F_bounds (aCons (eTup (aCons (eBin dIx (eW 0) (eC (.int 0))) (aCons (eSl dSl (eBin dIx (eW 0) (eC (.int 1))) oNone (oSome (eV 1))) aNil))) aNil)) aNil)))
  (sRet (eBin dLRg2 (eW 2) (eBin dAdd (eW 2) (eCall dLen (aCons (eDef F_letter_bounds (aCons (eBin dIx (eBin dIx (eW 0) (eC (.int 1))) (eW 1)) aNil)) aNil))))))))
def F_of_letter : List D → R D := runF 3 2 M_of_letter

def M_law_refused (HA : Addr) (HB1 HB2 HB3 HB4 HB5 HB6 HB7 : Bool) : DS := (sSeq (sAsg 1 (eLst (aCons (eU (dIsE HA HB1) (eW 0)) (aCons (eU (dIsE HA HB2) (eW 0)) (aCons (eU (dIsE HA HB3) (eW 0)) aNil)))))
  (sSeq (sAsg 1 (eBin dAdd (eW 1) (eLst (aCons (eU (dIsE HA HB4) (eW 0)) (aCons (eU (dIsE HA HB5) (eW 0)) (aCons (eU (dIsE HA HB6) (eW 0)) aNil))))))
  (sSeq (sIf (eOr (eBin dNe (eMet dCount (eW 1) (eC (.bool true))) (eC (.int 1))) (eU dNot (eU (dIsE HA HB7) (eW 0))))
  (sRet (eTup (aCons (eC (.str "refused")) (aCons (eU dNeg (eC (.int 1))) aNil))))
  sNext)
  (sRet (eTup (aCons (eC (.str "refused")) (aCons (eMet dIndex (eW 1) (eC (.bool true))) aNil)))))))
def F_law_refused (HA : Addr) (HB1 HB2 HB3 HB4 HB5 HB6 HB7 : Bool) : List D → R D := runF 2 1 (M_law_refused HA HB1 HB2 HB3 HB4 HB5 HB6 HB7)
def T_law_refused : Str → R D := fun c => if c = "NoRecord" then .ok (.tuple [.str "refused", .int 0]) else if c = "NoEvent" then .ok (.tuple [.str "refused", .int 1]) else if c = "NoNumber" then .ok (.tuple [.str "refused", .int 2]) else if c = "NoWorld" then .ok (.tuple [.str "refused", .int 3]) else if c = "Barred" then .ok (.tuple [.str "refused", .int 4]) else if c = "Nothing" then .ok (.tuple [.str "refused", .int 5]) else .bad
theorem refused_NoRecord (a : Addr) : ∃ d, T_law_refused "NoRecord" = .ok d ∧ F_law_refused a true false false false false false true [exD a] = .ok d := by
  refine ⟨_, rfl, ?_⟩
  simp [F_law_refused, M_law_refused, runF_1, dIsE_ex, dCount, dIndex, eMet, isL, SeqAt.shaped, PyData.canLay0, PyData.canLayAll0, PyData.depth, PyData.depthAll, PyData.eqv, List.findIdx?_cons, dAdd_l]
theorem refused_NoEvent (a : Addr) : ∃ d, T_law_refused "NoEvent" = .ok d ∧ F_law_refused a false true false false false false true [exD a] = .ok d := by
  refine ⟨_, rfl, ?_⟩
  simp [F_law_refused, M_law_refused, runF_1, dIsE_ex, dCount, dIndex, eMet, isL, SeqAt.shaped, PyData.canLay0, PyData.canLayAll0, PyData.depth, PyData.depthAll, PyData.eqv, List.findIdx?_cons, dAdd_l]
theorem refused_NoNumber (a : Addr) : ∃ d, T_law_refused "NoNumber" = .ok d ∧ F_law_refused a false false true false false false true [exD a] = .ok d := by
  refine ⟨_, rfl, ?_⟩
  simp [F_law_refused, M_law_refused, runF_1, dIsE_ex, dCount, dIndex, eMet, isL, SeqAt.shaped, PyData.canLay0, PyData.canLayAll0, PyData.depth, PyData.depthAll, PyData.eqv, List.findIdx?_cons, dAdd_l]
theorem refused_NoWorld (a : Addr) : ∃ d, T_law_refused "NoWorld" = .ok d ∧ F_law_refused a false false false true false false true [exD a] = .ok d := by
  refine ⟨_, rfl, ?_⟩
  simp [F_law_refused, M_law_refused, runF_1, dIsE_ex, dCount, dIndex, eMet, isL, SeqAt.shaped, PyData.canLay0, PyData.canLayAll0, PyData.depth, PyData.depthAll, PyData.eqv, List.findIdx?_cons, dAdd_l]
theorem refused_Barred (a : Addr) : ∃ d, T_law_refused "Barred" = .ok d ∧ F_law_refused a false false false false true false true [exD a] = .ok d := by
  refine ⟨_, rfl, ?_⟩
  simp [F_law_refused, M_law_refused, runF_1, dIsE_ex, dCount, dIndex, eMet, isL, SeqAt.shaped, PyData.canLay0, PyData.canLayAll0, PyData.depth, PyData.depthAll, PyData.eqv, List.findIdx?_cons, dAdd_l]
theorem refused_Nothing (a : Addr) : ∃ d, T_law_refused "Nothing" = .ok d ∧ F_law_refused a false false false false false true true [exD a] = .ok d := by
  refine ⟨_, rfl, ?_⟩
  simp [F_law_refused, M_law_refused, runF_1, dIsE_ex, dCount, dIndex, eMet, isL, SeqAt.shaped, PyData.canLay0, PyData.canLayAll0, PyData.depth, PyData.depthAll, PyData.eqv, List.findIdx?_cons, dAdd_l]

def M_law_told_k10 : DS := (sTryR (sSeq (sIf (eBin dLt (eW 0) (eC (.int 2)))
  (sRet (ePick [F_events, F_bounds] (eW 0) (aCons (eV 1) aNil)))
  sNext)
  (sRet (eIf (eBin dEq (eW 0) (eC (.int 2))) (eDef F_reading_of (aCons (eV 1) (aCons (eV 2) aNil))) (eDef F_of_letter (aCons (eV 1) (aCons (eV 2) aNil)))))) T_law_refused)
def F_law_told_k10 : List D → R D := runF 4 3 M_law_told_k10

def B_law_bounds_1 : DS := (sSeq (sAsg 7 (eBin dSub (eBin dIx (eW 5) (eW 6)) (eBin dIx (eW 5) (eBin dSub (eW 6) (eC (.int 1))))))
  (sSeq (sApp 1 (eTup (aCons (eTup (aCons (eV 2) (aCons (eBin dSub (eW 6) (eC (.int 1))) aNil))) (aCons (eTup (aCons (eV 2) (aCons (eV 6) aNil))) (aCons (eBin dMul (eW 4) (eW 7)) aNil)))))
  (sApp 1 (eTup (aCons (eTup (aCons (eV 2) (aCons (eV 6) aNil))) (aCons (eTup (aCons (eV 2) (aCons (eBin dSub (eW 6) (eC (.int 1))) aNil))) (aCons (eBin dSub (eC (.int 0)) (eBin dMul (eW 3) (eW 7))) aNil)))))))
def L_law_bounds_1 : DS := (sFor (iArgs dRng2 (aCons (eC (.int 1)) (aCons (eCall dLen (aCons (eW 5) aNil)) aNil))) (gN 6) B_law_bounds_1)
def B_law_bounds_2 : DS := L_law_bounds_1
def L_law_bounds_2 : DS := (sFor (iArgs dEnum (aCons (eBin dIx (eW 0) (eC (.int 0))) aNil)) (gTupD 2 (gConsD (gN 2) (gConsD (gTupD 3 (gConsD (gN 3) (gConsD (gN 4) (gConsD (gN 5) gNilD)))) gNilD))) B_law_bounds_2)
def B_law_bounds_3 : DS := (sSeq (sApp 1 (eTup (aCons (eV 9) (aCons (eV 8) (aCons (eBin dSub (eC (.int 0)) (eW 10)) aNil)))))
  (sIf (eU dNotN (eW 11))
  (sApp 1 (eTup (aCons (eV 8) (aCons (eV 9) (aCons (eV 11) aNil)))))
  sNext))
def L_law_bounds_3 : DS := (sFor (iSeq (eBin dIx (eW 0) (eC (.int 1)))) (gTupD 4 (gConsD (gN 8) (gConsD (gN 9) (gConsD (gN 10) (gConsD (gN 11) gNilD))))) B_law_bounds_3)
def M_law_bounds : DS := (sSeq (sOwn 1 (eLst aNil))
  (sSeq L_law_bounds_2
  (sSeq L_law_bounds_3
  (sFrz 1 (sRet (eV 1))))))
def F_law_bounds : List D → R D := runF 12 1 M_law_bounds

def C_law_k10_1 : DE := (eLc (iSeq (eV 2)) (gN 9) eT (eDef F_law_told_k10 (aCons (eC (.int 2)) (aCons (eV 1) (aCons (eV 9) aNil)))) [9])
def C_law_k10_2 : DE := (eLc (iSeq (eV 2)) (gTupD 2 (gConsD (gN 10) (gConsD (gN 11) gNilD))) eT (eBin dIx (eBin dIx (eBin dIx (eBin dIx (eW 1) (eC (.int 0))) (eW 10)) (eC (.int 2))) (eW 11)) [10, 11])
def B_law_k10_1 : DS := (sSeq (sAsg 6 (eBin dAdd (eC (.int 1)) (eCall dInt (aCons (eU dNotN (eBin dIx (eW 5) (eC (.int 3)))) aNil))))
  (sSeq (sIf (eBin dNe (eDef F_law_told_k10 (aCons (eC (.int 3)) (aCons (eV 1) (aCons (eV 4) aNil)))) (eBin dLRg2 (eW 3) (eBin dAdd (eW 3) (eW 6))))
  (sRet (eC (.bool false)))
  sNext)
  (sAsg 3 (eBin dAdd (eW 3) (eW 6)))))
def L_law_k10_1 : DS := (sFor (iArgs dEnum (aCons (eBin dIx (eW 1) (eC (.int 1))) aNil)) (gTupD 2 (gConsD (gN 4) (gConsD (gN 5) gNilD))) B_law_k10_1)
def C_law_k10_3 : DE := (eLc (iArgs dRng1 (aCons (eC (.int 4)) aNil)) (gN 12) eT (eDef F_law_told_k10 (aCons (eV 12) (aCons (eV 8) (aCons (eV 7) aNil)))) [12])
def M_law_k10 : DS := (sSeq (sAsg 1 (eDef F_law_record (aCons (eV 0) (aCons (eC (.int 0)) (aCons (eC (.int 6)) aNil)))))
  (sSeq (sAsg 2 (eDef F_law_events (aCons (eBin dIx (eW 1) (eC (.int 0))) aNil)))
  (sSeq (sIf (eOr (eBin dNe (eDef F_law_told_k10 (aCons (eC (.int 0)) (aCons (eV 1) (aCons (eC .none) aNil)))) (eW 2)) (eBin dNe (eDef F_law_told_k10 (aCons (eC (.int 1)) (aCons (eV 1) (aCons (eC .none) aNil)))) (eDef F_law_bounds (aCons (eV 1) aNil))))
  (sRet (eC (.bool false)))
  sNext)
  (sSeq (sIf (eBin dNe C_law_k10_1 C_law_k10_2)
  (sRet (eC (.bool false)))
  sNext)
  (sSeq (sAsg 3 (eCall dLen (aCons (eDef F_law_bounds (aCons (eTup (aCons (eBin dIx (eW 1) (eC (.int 0))) (aCons (eTup aNil) aNil))) aNil)) aNil)))
  (sSeq L_law_k10_1
  (sSeq (sAsg 7 (eBin dIx (eLst (aCons (eC .none) (aCons (eTup (aCons (eC (.int 0)) aNil)) (aCons (eTup (aCons (eC (.int 9)) (aCons (eC (.int 0)) aNil))) (aCons (eTup (aCons (eC (.int 0)) (aCons (eC (.int 9)) aNil))) (aCons (eTup (aCons (eC (.int 0)) (aCons (eU dNeg (eC (.int 1))) aNil))) (aCons (eLst (aCons (eC (.int 0)) (aCons (eC (.int 0)) aNil))) (aCons (eTup (aCons (eC (.bool true)) (aCons (eC (.int 0)) aNil))) (aCons (eC (.str "0.0")) (aCons (eTup (aCons (eC (.int 0)) (aCons (eC (.int 0)) (aCons (eC (.int 0)) aNil)))) aNil)))))))))) (eDef F_law_drawn (aCons (eV 0) (aCons (eC (.int 80)) (aCons (eC (.int 9)) aNil))))))
  (sSeq (sIf (eBin dNe (eDef F_law_told_k10 (aCons (eC (.int 2)) (aCons (eV 1) (aCons (eV 7) aNil)))) (eTup (aCons (eC (.str "refused")) (aCons (eC (.int 1)) aNil))))
  (sRet (eC (.bool false)))
  sNext)
  (sSeq (sAsg 7 (eBin dIx (eLst (aCons (eU dNeg (eC (.int 1))) (aCons (eCall dLen (aCons (eBin dIx (eW 1) (eC (.int 1))) aNil)) (aCons (eC (.bool true)) (aCons (eC .none) (aCons (eC (.str "0")) aNil)))))) (eDef F_law_drawn (aCons (eV 0) (aCons (eC (.int 81)) (aCons (eC (.int 5)) aNil))))))
  (sSeq (sIf (eBin dNe (eDef F_law_told_k10 (aCons (eC (.int 3)) (aCons (eV 1) (aCons (eV 7) aNil)))) (eTup (aCons (eC (.str "refused")) (aCons (eC (.int 2)) aNil))))
  (sRet (eC (.bool false)))
  sNext)
  (sSeq (sAsg 8 (eBin dIx (eLst (aCons (eC .none) (aCons (eTup aNil) (aCons (eSl dSl (eW 1) oNone (oSome (eC (.int 1)))) (aCons (eU dRev (eW 1)) (aCons (eBin dAdd (eW 1) (eTup (aCons (eTup aNil) aNil))) aNil)))))) (eDef F_law_drawn (aCons (eV 0) (aCons (eC (.int 82)) (aCons (eC (.int 5)) aNil))))))
  (sRet (eBin dEq C_law_k10_3 (eBin dMul (eLst (aCons (eTup (aCons (eC (.str "refused")) (aCons (eC (.int 0)) aNil))) aNil)) (eC (.int 4))))))))))))))))
def F_law_k10 : List D → R D := runF 13 1 M_law_k10

end Fc
set_option Elab.async false
set_option linter.all false
set_option maxRecDepth 100000
set_option maxHeartbeats 4000000

namespace Wk
open PySem L2 Evl Fc PySem.Spec PyProof.Rows
def top (i : Nat) : Stmt := PySem.Challenge.pw_farclocks_k10_bounds.main.body.getD i (.Pass ⟨0, 0, 0, 0⟩)
def dd_law_cell : He.DefD := ⟨("_law_cell", none), "_law_cell", "_law_cell", defArgs (top 30), defBody (top 30), defScope (top 30), [], []⟩
def dd_law_drawn : He.DefD := ⟨("_law_drawn", none), "_law_drawn", "_law_drawn", defArgs (top 31), defBody (top 31), defScope (top 31), [], []⟩
def dd_law_clock : He.DefD := ⟨("_law_clock", none), "_law_clock", "_law_clock", defArgs (top 32), defBody (top 32), defScope (top 32), [], []⟩
def dd_law_events : He.DefD := ⟨("_law_events", none), "_law_events", "_law_events", defArgs (top 34), defBody (top 34), defScope (top 34), [], []⟩
def dd_law_letter : He.DefD := ⟨("_law_letter", none), "_law_letter", "_law_letter", defArgs (top 33), defBody (top 33), defScope (top 33), [], []⟩
def dd_law_record : He.DefD := ⟨("_law_record", none), "_law_record", "_law_record", defArgs (top 35), defBody (top 35), defScope (top 35), [], []⟩
def dd_is_number : He.DefD := ⟨("is_number", none), "is_number", "is_number", defArgs (top 15), defBody (top 15), defScope (top 15), [], []⟩
def dd_is_clock : He.DefD := ⟨("is_clock", none), "is_clock", "is_clock", defArgs (top 16), defBody (top 16), defScope (top 16), [], []⟩
def dd_is_event : He.DefD := ⟨("is_event", none), "is_event", "is_event", defArgs (top 17), defBody (top 17), defScope (top 17), [], []⟩
def dd_is_letter : He.DefD := ⟨("is_letter", none), "is_letter", "is_letter", defArgs (top 18), defBody (top 18), defScope (top 18), [], []⟩
def dd_is_record : He.DefD := ⟨("is_record", none), "is_record", "is_record", defArgs (top 19), defBody (top 19), defScope (top 19), [], []⟩
def dd_need_record : He.DefD := ⟨("need_record", none), "need_record", "need_record", defArgs (top 20), defBody (top 20), defScope (top 20), [], []⟩
def dd_events : He.DefD := ⟨("events", none), "events", "events", defArgs (top 21), defBody (top 21), defScope (top 21), [], []⟩
def dd_clock_bounds : He.DefD := ⟨("clock_bounds", none), "clock_bounds", "clock_bounds", defArgs (top 25), defBody (top 25), defScope (top 25), [], []⟩
def dd_letter_bounds : He.DefD := ⟨("letter_bounds", none), "letter_bounds", "letter_bounds", defArgs (top 26), defBody (top 26), defScope (top 26), [], []⟩
def dd_bounds : He.DefD := ⟨("bounds", none), "bounds", "bounds", defArgs (top 27), defBody (top 27), defScope (top 27), [], []⟩
def dd_need_event : He.DefD := ⟨("need_event", none), "need_event", "need_event", defArgs (top 22), defBody (top 22), defScope (top 22), [], []⟩
def dd_reading_of : He.DefD := ⟨("reading_of", none), "reading_of", "reading_of", defArgs (top 23), defBody (top 23), defScope (top 23), [], []⟩
def dd_of_letter : He.DefD := ⟨("of_letter", none), "of_letter", "of_letter", defArgs (top 28), defBody (top 28), defScope (top 28), [], []⟩
def dd_law_refused : He.DefD := ⟨("_law_refused", none), "_law_refused", "_law_refused", defArgs (top 37), defBody (top 37), defScope (top 37), [], []⟩
def dd_law_told : He.DefD := ⟨("_law_told", none), "_law_told", "_law_told", defArgs (top 38), defBody (top 38), defScope (top 38), [], []⟩
def dd_law_bounds : He.DefD := ⟨("_law_bounds", none), "_law_bounds", "_law_bounds", defArgs (top 36), defBody (top 36), defScope (top 36), [], []⟩
def dd_law : He.DefD := ⟨("law", none), "law", "law", defArgs (top 39), defBody (top 39), defScope (top 39), [], []⟩
def fn : List He.DefD := [dd_law_cell, dd_law_drawn, dd_law_clock, dd_law_events, dd_law_letter, dd_law_record, dd_is_number, dd_is_clock, dd_is_event, dd_is_letter, dd_is_record, dd_need_record, dd_events, dd_clock_bounds, dd_letter_bounds, dd_bounds, dd_need_event, dd_reading_of, dd_of_letter, dd_law_refused, dd_law_told, dd_law_bounds, dd_law]
def fa : List He.Fa := [.free "isinstance", .free "int", .free "bool", .free "tuple", .free "len", .int "MOST_RATE" 9, .int "MOST_READINGS" 4, .int "MOST_READING" 99, .free "all", .free "zip", .int "MOST_TIME" 999, .int "MOST_CLOCKS" 4, .int "MOST_LETTERS" 8, .exc "NoRecord", .glo "NoRecord", .free "enumerate", .free "range", .exc "NoEvent", .glo "NoEvent", .exc "NoNumber", .glo "NoNumber", .free "list", .glo "NoWorld", .glo "Barred", .glo "Nothing", .free "ValueError", .glo "ClockError", .glo "_law_cell", .glo "_law_drawn", .glo "_law_clock", .glo "_law_events", .glo "_law_letter", .glo "_law_record", .glo "is_number", .glo "is_clock", .glo "is_event", .glo "is_letter", .glo "is_record", .glo "need_record", .glo "events", .glo "clock_bounds", .glo "letter_bounds", .glo "bounds", .glo "need_event", .glo "reading_of", .glo "of_letter", .glo "_law_refused", .glo "_law_told", .glo "_law_bounds", .glo "law", .exm "NoRecord" "ClockError" true, .exm "NoEvent" "ClockError" true, .exm "NoNumber" "ClockError" true, .exm "NoWorld" "ClockError" true, .exm "Barred" "ClockError" true, .exm "Nothing" "ClockError" true]
def fx : List Fx := [.exc "NoRecord", .kitT "NoRecord" "ValueError" true, .kit "NoRecord" "NoRecord" true, .kit "NoRecord" "NoNumber" false, .kit "NoRecord" "NoEvent" false, .kit "NoRecord" "Nothing" false, .kit "NoRecord" "NoWorld" false, .kit "NoRecord" "Barred" false, .exc "NoEvent", .kitT "NoEvent" "ValueError" true, .kit "NoEvent" "NoRecord" false, .kit "NoEvent" "NoNumber" false, .kit "NoEvent" "NoEvent" true, .kit "NoEvent" "Nothing" false, .kit "NoEvent" "NoWorld" false, .kit "NoEvent" "Barred" false, .exc "NoNumber", .kitT "NoNumber" "ValueError" true, .kit "NoNumber" "NoRecord" false, .kit "NoNumber" "NoNumber" true, .kit "NoNumber" "NoEvent" false, .kit "NoNumber" "Nothing" false, .kit "NoNumber" "NoWorld" false, .kit "NoNumber" "Barred" false, .exc "NoWorld", .kitT "NoWorld" "ValueError" true, .kit "NoWorld" "NoRecord" false, .kit "NoWorld" "NoNumber" false, .kit "NoWorld" "NoEvent" false, .kit "NoWorld" "Nothing" false, .kit "NoWorld" "NoWorld" true, .kit "NoWorld" "Barred" false, .exc "Barred", .kitT "Barred" "ValueError" true, .kit "Barred" "NoRecord" false, .kit "Barred" "NoNumber" false, .kit "Barred" "NoEvent" false, .kit "Barred" "Nothing" false, .kit "Barred" "NoWorld" false, .kit "Barred" "Barred" true, .exc "Nothing", .kitT "Nothing" "ValueError" true, .kit "Nothing" "NoRecord" false, .kit "Nothing" "NoNumber" false, .kit "Nothing" "NoEvent" false, .kit "Nothing" "Nothing" true, .kit "Nothing" "NoWorld" false, .kit "Nothing" "Barred" false]
abbrev C0 (K : Fr) (mg : Str → Option Value) : Prop := Cc fa fn fx K mg
section
variable {P : Program} {w : World} {K : Fr} {mg : Str → Option Value} {base : Heap}
theorem sc_law_cell : FnScope ["_law_script", "_law_k"] ["_law_script", "_law_k"] (defScope (top 30)) := ⟨rfl, rfl, rfl, by decide +kernel, rfl, by decide +kernel, by decide +kernel⟩
theorem ok_law_cell (c : C0 K mg) : OkF P w K mg base 1 "_law_cell" ["_law_script", "_law_k"] F_law_cell := by
  obtain ⟨fdn, F⟩ := c.def_ 0
  refine ⟨fdn, fn_d F sc_law_cell fun cdv A outer s H E hr => ?_, F.bindsN (ps := ["_law_script", "_law_k"]) fun _ _ _ _ _ _ us hl => match us, hl with | [_, _], _ => rfl, c.glo 27, F.kp⟩
  have tk : Takes (cxOf (L2.CX P w) P w K mg base ["_law_script", "_law_k"] "_law_cell" (defScope (top 30)) (He.ga K "_law_cell") cdv A outer s H E) (fun cls d _ H => E cls d H) := takes_of rfl rfl rfl rfl
  have hp := passes_of (X := cxOf (L2.CX P w) P w K mg base ["_law_script", "_law_k"] "_law_cell" (defScope (top 30)) (He.ga K "_law_cell") cdv A outer s H E) rfl
  have hu := hr.u
  exact (sd_cons (sd_if (td_cmp (od_eq hu) cm_eq (nomark _) (bv 0) (fb (pf_lst af_nil)))
      (sd_one (sd_ret (pd_bin od_mul cm_mul (db pd_int) (bv 1))))
      sd_nil)
      (sd_one (sd_ret (pd_bin od_add cm_add (db (pd_ix (od_ix hu) cm_ix (fun _ _ => rfl) (bv 0) (db (pd_bin od_mod dI_calm (bv 1) (db (pd_callB cd_len cm_len rfl (c.free 4) (by decide +kernel) (aw_cons (bv 0) aw_nil))))))) (db (pd_bin od_mul cm_mul (db pd_int) (db (pd_bin od_fdiv dI_calm (bv 1) (db (pd_callB cd_len cm_len rfl (c.free 4) (by decide +kernel) (aw_cons (bv 0) aw_nil)))))))))))
theorem sc_law_drawn : FnScope ["_law_script", "_law_k", "_law_many", "_law_cell_here"] ["_law_script", "_law_k", "_law_many"] (defScope (top 31)) := ⟨rfl, rfl, rfl, by decide +kernel, rfl, by decide +kernel, by decide +kernel⟩
theorem ok_law_drawn (c : C0 K mg) : OkF P w K mg base 2 "_law_drawn" ["_law_script", "_law_k", "_law_many"] F_law_drawn := by
  obtain ⟨fdn, F⟩ := c.def_ 1
  refine ⟨fdn, fn_d F sc_law_drawn fun cdv A outer s H E hr => ?_, F.bindsN (ps := ["_law_script", "_law_k", "_law_many"]) fun _ _ _ _ _ _ us hl => match us, hl with | [_, _, _], _ => rfl, c.glo 28, F.kp⟩
  have tk : Takes (cxOf (L2.CX P w) P w K mg base ["_law_script", "_law_k", "_law_many", "_law_cell_here"] "_law_drawn" (defScope (top 31)) (He.ga K "_law_drawn") cdv A outer s H E) (fun cls d _ H => E cls d H) := takes_of rfl rfl rfl rfl
  have hp := passes_of (X := cxOf (L2.CX P w) P w K mg base ["_law_script", "_law_k", "_law_many", "_law_cell_here"] "_law_drawn" (defScope (top 31)) (He.ga K "_law_drawn") cdv A outer s H E) rfl
  have hu := hr.u
  exact (sd_cons (sd_set sc_law_drawn.nd rfl (.inl rfl) (pd_bin od_mod dI_calm (db (pd_bin od_add cm_add (db (pd_bin od_mul cm_mul (db (pd_bin od_mod dI_calm (db (pd_ok (ok_law_cell c) tk (hr.mono (by decide)) rfl (aCons_len (aCons_len aNil_len)) (af_cons (dv 0) (af_cons (dv 1) af_nil)))) (db pd_int))) (db pd_int))) (db (pd_bin od_mul cm_mul (db pd_int) (db (pd_bin od_add cm_add (bv 1) (db pd_int))))))) (db pd_int)))
      (sd_cons (sd_set sc_law_drawn.nd rfl (.inl rfl) (pd_bin od_mod dI_calm (db (pd_bin od_add cm_add (db (pd_bin od_mul cm_mul (bv 3) (bv 3))) (db (pd_bin od_fdiv dI_calm (bv 3) (db pd_int))))) (db pd_int)))
      (sd_one (sd_ret (pd_bin od_mod dI_calm (db (pd_bin od_fdiv dI_calm (db (pd_bin od_mod dI_calm (db (pd_bin od_add cm_add (db (pd_bin od_mul cm_mul (bv 3) (bv 3))) (db (pd_bin od_fdiv dI_calm (bv 3) (db pd_int))))) (db pd_int))) (db pd_int))) (bv 2))))))
theorem sc_law_clock : FnScope ["_law_script", "_law_at", "_law_slow", "_law_readings", "_law_k"] ["_law_script", "_law_at"] (defScope (top 32)) := ⟨rfl, rfl, rfl, by decide +kernel, rfl, by decide +kernel, by decide +kernel⟩
theorem ok_law_clock (c : C0 K mg) : OkF P w K mg base 3 "_law_clock" ["_law_script", "_law_at"] F_law_clock := by
  obtain ⟨fdn, F⟩ := c.def_ 2
  refine ⟨fdn, fn_d F sc_law_clock fun cdv A outer s H E hr => ?_, F.bindsN (ps := ["_law_script", "_law_at"]) fun _ _ _ _ _ _ us hl => match us, hl with | [_, _], _ => rfl, c.glo 29, F.kp⟩
  have tk : Takes (cxOf (L2.CX P w) P w K mg base ["_law_script", "_law_at", "_law_slow", "_law_readings", "_law_k"] "_law_clock" (defScope (top 32)) (He.ga K "_law_clock") cdv A outer s H E) (fun cls d _ H => E cls d H) := takes_of rfl rfl rfl rfl
  have hp := passes_of (X := cxOf (L2.CX P w) P w K mg base ["_law_script", "_law_at", "_law_slow", "_law_readings", "_law_k"] "_law_clock" (defScope (top 32)) (He.ga K "_law_clock") cdv A outer s H E) rfl
  have hu := hr.u
  exact (sd_cons (sd_set sc_law_clock.nd rfl (.inl rfl) (pd_bin od_add cm_add (db pd_int) (db (pd_ok (ok_law_drawn c) tk (hr.mono (by decide)) rfl (aCons_len (aCons_len (aCons_len aNil_len))) (af_cons (dv 0) (af_cons (dv 1) (af_cons pd_int af_nil)))))))
      (sd_cons (sd_set sc_law_clock.nd rfl (.inl rfl) (pd_tup (af_cons (pd_ok (ok_law_drawn c) tk (hr.mono (by decide)) rfl (aCons_len (aCons_len (aCons_len aNil_len))) (af_cons (dv 0) (af_cons (pd_bin od_add cm_add (bv 1) (db pd_int)) (af_cons pd_int af_nil)))) af_nil)))
      (sd_cons (sd_for hp rfl (id_rng1 rfl (c.free 16) (aw_cons (db (pd_ok (ok_law_drawn c) tk (hr.mono (by decide)) rfl (aCons_len (aCons_len (aCons_len aNil_len))) (af_cons (dv 0) (af_cons (pd_bin od_add cm_add (bv 1) (db pd_int)) (af_cons pd_int af_nil))))) aw_nil)) (gd_name sc_law_clock.nd rfl (.inl rfl))
      (sd_one (sd_set sc_law_clock.nd rfl (.inl rfl) (pd_bin od_add cm_add (bv 3) (db (pd_tup (af_cons (pd_bin od_add cm_add (db (pd_bin od_add cm_add (db (pd_ix (od_ix hu) cm_ix (fun _ _ => rfl) (bv 3) (db (pd_neg (db pd_int))))) (db pd_int))) (db (pd_ok (ok_law_drawn c) tk (hr.mono (by decide)) rfl (aCons_len (aCons_len (aCons_len aNil_len))) (af_cons (dv 0) (af_cons (pd_bin od_add cm_add (db (pd_bin od_add cm_add (bv 1) (db pd_int))) (bv 4)) (af_cons pd_int af_nil)))))) af_nil)))))))
      (sd_one (sd_ret (pd_tup (af_cons (dv 2) (af_cons (pd_bin od_add cm_add (bv 2) (db (pd_ok (ok_law_drawn c) tk (hr.mono (by decide)) rfl (aCons_len (aCons_len (aCons_len aNil_len))) (af_cons (dv 0) (af_cons (pd_bin od_add cm_add (bv 1) (db pd_int)) (af_cons pd_int af_nil)))))) (af_cons (dv 3) af_nil)))))))))
theorem sc_law_events : FnScope ["_law_clocks", "_law_found", "_law_number", "_law_clock_here", "_law_place"] ["_law_clocks"] (defScope (top 34)) := ⟨rfl, rfl, rfl, by decide +kernel, rfl, by decide +kernel, by decide +kernel⟩
theorem ok_law_events (c : C0 K mg) : OkF P w K mg base 1 "_law_events" ["_law_clocks"] F_law_events := by
  obtain ⟨fdn, F⟩ := c.def_ 3
  refine ⟨fdn, fn_d F sc_law_events fun cdv A outer s H E hr => ?_, F.bindsN (ps := ["_law_clocks"]) fun _ _ _ _ _ _ us hl => match us, hl with | [_], _ => rfl, c.glo 30, F.kp⟩
  have tk : Takes (cxOf (L2.CX P w) P w K mg base ["_law_clocks", "_law_found", "_law_number", "_law_clock_here", "_law_place"] "_law_events" (defScope (top 34)) (He.ga K "_law_events") cdv A outer s H E) (fun cls d _ H => E cls d H) := takes_of rfl rfl rfl rfl
  have hp := passes_of (X := cxOf (L2.CX P w) P w K mg base ["_law_clocks", "_law_found", "_law_number", "_law_clock_here", "_law_place"] "_law_events" (defScope (top 34)) (He.ga K "_law_events") cdv A outer s H E) rfl
  have hu := hr.u
  exact (sd_cons (sd_set sc_law_events.nd rfl (.inl rfl) (fd (pf_lst af_nil)))
      (sd_cons (sd_for hp rfl (id_enum rfl (c.free 15) (af_cons (dv 0) af_nil)) (gd_tup rfl (gds_cons (gd_name sc_law_events.nd rfl (.inr rfl)) (gds_cons (gd_name sc_law_events.nd rfl (.inl rfl)) gds_nil)))
      (sd_one (sd_set sc_law_events.nd rfl (.inl rfl) (pd_bin od_add cm_add (bv 1) (fb (pf_lc (own := [("_law_place", 4)]) rfl sc_law_events.nd (id_rng1 rfl (c.free 16) (aw_cons (db (pd_callB cd_len cm_len rfl (c.free 4) (by decide +kernel) (aw_cons (db (pd_ix (od_ix hu) cm_ix (fun _ _ => rfl) (bv 3) (db pd_int))) aw_nil))) aw_nil)) (blkOk_by (own := [("_law_place", 4)]) (by show blkC ["_law_clocks", "_law_found", "_law_number", "_law_clock_here", "_law_place"] (defScope (top 34)) _ _ = true; decide +kernel)) (fun _ _ _ _ _ => (gd_name sc_law_events.nd rfl (.inl rfl))) (fun _ _ _ _ _ => tds_nil) (fun _ _ _ _ _ => (pd_tup (af_cons (dv 2) (af_cons (dv 4) af_nil))))))))))
      (sd_one (sd_ret (dv 1)))))
theorem sc_law_letter : FnScope ["_law_script", "_law_at", "_law_clocks", "_law_row", "_law_place", "_law_other", "_law_least", "_law_most"] ["_law_script", "_law_at", "_law_clocks"] (defScope (top 33)) := ⟨rfl, rfl, rfl, by decide +kernel, rfl, by decide +kernel, by decide +kernel⟩
theorem ok_law_letter (c : C0 K mg) : OkF P w K mg base 3 "_law_letter" ["_law_script", "_law_at", "_law_clocks"] F_law_letter := by
  obtain ⟨fdn, F⟩ := c.def_ 4
  refine ⟨fdn, fn_d F sc_law_letter fun cdv A outer s H E hr => ?_, F.bindsN (ps := ["_law_script", "_law_at", "_law_clocks"]) fun _ _ _ _ _ _ us hl => match us, hl with | [_, _, _], _ => rfl, c.glo 31, F.kp⟩
  have tk : Takes (cxOf (L2.CX P w) P w K mg base ["_law_script", "_law_at", "_law_clocks", "_law_row", "_law_place", "_law_other", "_law_least", "_law_most"] "_law_letter" (defScope (top 33)) (He.ga K "_law_letter") cdv A outer s H E) (fun cls d _ H => E cls d H) := takes_of rfl rfl rfl rfl
  have hp := passes_of (X := cxOf (L2.CX P w) P w K mg base ["_law_script", "_law_at", "_law_clocks", "_law_row", "_law_place", "_law_other", "_law_least", "_law_most"] "_law_letter" (defScope (top 33)) (He.ga K "_law_letter") cdv A outer s H E) rfl
  have hu := hr.u
  exact (sd_cons (sd_set sc_law_letter.nd rfl (.inl rfl) (pd_ok (ok_law_events c) tk (hr.mono (by decide)) rfl (aCons_len aNil_len) (af_cons (dv 2) af_nil)))
      (sd_cons (sd_if (td_cmp od_lt dI_calm (nomark _) (db (pd_callB cd_len cm_len rfl (c.free 4) (by decide +kernel) (aw_cons (bv 3) aw_nil))) (db pd_int))
      (sd_one (sd_ret pd_non))
      sd_nil)
      (sd_cons (sd_set sc_law_letter.nd rfl (.inl rfl) (pd_ok (ok_law_drawn c) tk (hr.mono (by decide)) rfl (aCons_len (aCons_len (aCons_len aNil_len))) (af_cons (dv 0) (af_cons (dv 1) (af_cons (pd_callB cd_len cm_len rfl (c.free 4) (by decide +kernel) (aw_cons (bv 3) aw_nil)) af_nil)))))
      (sd_cons (sd_set sc_law_letter.nd rfl (.inl rfl) (pd_bin od_mod dI_calm (db (pd_bin od_add cm_add (db (pd_bin od_add cm_add (bv 4) (db pd_int))) (db (pd_ok (ok_law_drawn c) tk (hr.mono (by decide)) rfl (aCons_len (aCons_len (aCons_len aNil_len))) (af_cons (dv 0) (af_cons (pd_bin od_add cm_add (bv 1) (db pd_int)) (af_cons (pd_bin od_sub dI_calm (db (pd_callB cd_len cm_len rfl (c.free 4) (by decide +kernel) (aw_cons (bv 3) aw_nil))) (db pd_int)) af_nil))))))) (db (pd_callB cd_len cm_len rfl (c.free 4) (by decide +kernel) (aw_cons (bv 3) aw_nil)))))
      (sd_cons (sd_set sc_law_letter.nd rfl (.inl rfl) (pd_ok (ok_law_drawn c) tk (hr.mono (by decide)) rfl (aCons_len (aCons_len (aCons_len aNil_len))) (af_cons (dv 0) (af_cons (pd_bin od_add cm_add (bv 1) (db pd_int)) (af_cons pd_int af_nil)))))
      (sd_cons (sd_set sc_law_letter.nd rfl (.inl rfl) (pd_if (td_cmp (od_eq hu) cm_eq (nomark _) (db (pd_ok (ok_law_drawn c) tk (hr.mono (by decide)) rfl (aCons_len (aCons_len (aCons_len aNil_len))) (af_cons (dv 0) (af_cons (pd_bin od_add cm_add (bv 1) (db pd_int)) (af_cons pd_int af_nil))))) (db pd_int)) pd_non (pd_bin od_add cm_add (bv 6) (db (pd_ok (ok_law_drawn c) tk (hr.mono (by decide)) rfl (aCons_len (aCons_len (aCons_len aNil_len))) (af_cons (dv 0) (af_cons (pd_bin od_add cm_add (bv 1) (db pd_int)) (af_cons pd_int af_nil))))))))
      (sd_one (sd_ret (pd_tup (af_cons (pd_ix (od_ix hu) cm_ix (fun _ _ => rfl) (bv 3) (bv 4)) (af_cons (pd_ix (od_ix hu) cm_ix (fun _ _ => rfl) (bv 3) (bv 5)) (af_cons (dv 6) (af_cons (dv 7) af_nil)))))))))))))
theorem sc_law_record : FnScope ["_law_script", "_law_at", "_law_most", "_law_clocks", "_law_letters", "_law_k", "_law_letter_here"] ["_law_script", "_law_at", "_law_most"] (defScope (top 35)) := ⟨rfl, rfl, rfl, by decide +kernel, rfl, by decide +kernel, by decide +kernel⟩
theorem ok_law_record (c : C0 K mg) : OkF P w K mg base 4 "_law_record" ["_law_script", "_law_at", "_law_most"] F_law_record := by
  obtain ⟨fdn, F⟩ := c.def_ 5
  refine ⟨fdn, fn_d F sc_law_record fun cdv A outer s H E hr => ?_, F.bindsN (ps := ["_law_script", "_law_at", "_law_most"]) fun _ _ _ _ _ _ us hl => match us, hl with | [_, _, _], _ => rfl, c.glo 32, F.kp⟩
  have tk : Takes (cxOf (L2.CX P w) P w K mg base ["_law_script", "_law_at", "_law_most", "_law_clocks", "_law_letters", "_law_k", "_law_letter_here"] "_law_record" (defScope (top 35)) (He.ga K "_law_record") cdv A outer s H E) (fun cls d _ H => E cls d H) := takes_of rfl rfl rfl rfl
  have hp := passes_of (X := cxOf (L2.CX P w) P w K mg base ["_law_script", "_law_at", "_law_most", "_law_clocks", "_law_letters", "_law_k", "_law_letter_here"] "_law_record" (defScope (top 35)) (He.ga K "_law_record") cdv A outer s H E) rfl
  have hu := hr.u
  exact (sd_cons (sd_set sc_law_record.nd rfl (.inl rfl) (pd_callTy cd_tup cm_tup rfl (c.free 3) (by decide +kernel) (aw_cons (fb (pf_lc (own := [("_law_k", 5)]) rfl sc_law_record.nd (id_rng1 rfl (c.free 16) (aw_cons (db (pd_bin od_add cm_add (db pd_int) (db (pd_ok (ok_law_drawn c) tk (hr.mono (by decide)) rfl (aCons_len (aCons_len (aCons_len aNil_len))) (af_cons (dv 0) (af_cons (dv 1) (af_cons pd_int af_nil))))))) aw_nil)) (blkOk_by (own := [("_law_k", 5)]) (by show blkC ["_law_script", "_law_at", "_law_most", "_law_clocks", "_law_letters", "_law_k", "_law_letter_here"] (defScope (top 35)) _ _ = true; decide +kernel)) (fun _ _ _ _ _ => (gd_name sc_law_record.nd rfl (.inl rfl))) (fun _ _ _ _ _ => tds_nil) (fun _ _ _ _ _ => (pd_ok (ok_law_clock c) takes0 (hr.mono (by decide)) rfl (aCons_len (aCons_len aNil_len)) (af_cons (dv 0) (af_cons (pd_bin od_add cm_add (db (pd_bin od_add cm_add (bv 1) (db pd_int))) (db (pd_bin od_mul cm_mul (db pd_int) (bv 5)))) af_nil)))))) aw_nil)))
      (sd_cons (sd_set sc_law_record.nd rfl (.inl rfl) (fd (pf_lst af_nil)))
      (sd_cons (sd_for hp rfl (id_rng1 rfl (c.free 16) (aw_cons (db (pd_ok (ok_law_drawn c) tk (hr.mono (by decide)) rfl (aCons_len (aCons_len (aCons_len aNil_len))) (af_cons (dv 0) (af_cons (pd_bin od_add cm_add (bv 1) (db pd_int)) (af_cons (pd_bin od_add cm_add (bv 2) (db pd_int)) af_nil))))) aw_nil)) (gd_name sc_law_record.nd rfl (.inl rfl))
      (sd_cons (sd_set sc_law_record.nd rfl (.inl rfl) (pd_ok (ok_law_letter c) tk (hr.mono (by decide)) rfl (aCons_len (aCons_len (aCons_len aNil_len))) (af_cons (dv 0) (af_cons (pd_bin od_add cm_add (db (pd_bin od_add cm_add (bv 1) (db pd_int))) (db (pd_bin od_mul cm_mul (db pd_int) (bv 5)))) (af_cons (dv 3) af_nil)))))
      (sd_one (sd_set sc_law_record.nd rfl (.inl rfl) (pd_bin od_add cm_add (bv 4) (db (pd_bin od_mul cm_mul (fb (pf_lst (af_cons (dv 6) af_nil))) (db (pd_callTy cd_int cm_int rfl (c.free 1) (by decide +kernel) (aw_cons (db (pd_notN (bv 6))) aw_nil))))))))))
      (sd_one (sd_ret (pd_tup (af_cons (dv 3) (af_cons (pd_callTy cd_tup cm_tup rfl (c.free 3) (by decide +kernel) (aw_cons (bv 4) aw_nil)) af_nil))))))))
theorem sc_is_number : FnScope ["thing", "low", "high"] ["thing", "low", "high"] (defScope (top 15)) := ⟨rfl, rfl, rfl, by decide +kernel, rfl, by decide +kernel, by decide +kernel⟩
theorem ok_is_number (c : C0 K mg) : OkF P w K mg base 1 "is_number" ["thing", "low", "high"] F_is_number := by
  obtain ⟨fdn, F⟩ := c.def_ 6
  refine ⟨fdn, fn_d F sc_is_number fun cdv A outer s H E hr => ?_, F.bindsN (ps := ["thing", "low", "high"]) fun _ _ _ _ _ _ us hl => match us, hl with | [_, _, _], _ => rfl, c.glo 33, F.kp⟩
  have tk : Takes (cxOf (L2.CX P w) P w K mg base ["thing", "low", "high"] "is_number" (defScope (top 15)) (He.ga K "is_number") cdv A outer s H E) (fun cls d _ H => E cls d H) := takes_of rfl rfl rfl rfl
  have hp := passes_of (X := cxOf (L2.CX P w) P w K mg base ["thing", "low", "high"] "is_number" (defScope (top 15)) (He.ga K "is_number") cdv A outer s H E) rfl
  have hu := hr.u
  exact (sd_one (sd_ret (pd_and (pd_isI (Ts := "int") (eW 0) (by decide) rfl (c.free 0) rfl (c.free 1) (by decide +kernel) (bv 0)) (pd_and (pd_not (pd_isI (Ts := "bool") (eW 0) (by decide) rfl (c.free 0) rfl (c.free 2) (by decide +kernel) (bv 0))) (pd_one (pd_chain od_le od_le dI_calm dI_calm (bv 1) (bv 0) (bv 2)))))))
theorem sc_is_clock : FnScope ["thing", "readings", "one", "other"] ["thing"] (defScope (top 16)) := ⟨rfl, rfl, rfl, by decide +kernel, rfl, by decide +kernel, by decide +kernel⟩
theorem ok_is_clock (c : C0 K mg) : OkF P w K mg base 2 "is_clock" ["thing"] F_is_clock := by
  obtain ⟨fdn, F⟩ := c.def_ 7
  refine ⟨fdn, fn_d F sc_is_clock fun cdv A outer s H E hr => ?_, F.bindsN (ps := ["thing"]) fun _ _ _ _ _ _ us hl => match us, hl with | [_], _ => rfl, c.glo 34, F.kp⟩
  have tk : Takes (cxOf (L2.CX P w) P w K mg base ["thing", "readings", "one", "other"] "is_clock" (defScope (top 16)) (He.ga K "is_clock") cdv A outer s H E) (fun cls d _ H => E cls d H) := takes_of rfl rfl rfl rfl
  have hp := passes_of (X := cxOf (L2.CX P w) P w K mg base ["thing", "readings", "one", "other"] "is_clock" (defScope (top 16)) (He.ga K "is_clock") cdv A outer s H E) rfl
  have hu := hr.u
  exact (sd_cons (sd_if (PW.pt (wd_or (td_not (td (pd_isI (Ts := "tuple") (eW 0) (by decide) rfl (c.free 0) rfl (c.free 3) (by decide +kernel) (bv 0)))) (wd_or (td_cmp (od_ne hu) cm_ne (nomark _) (db (pd_callB cd_len cm_len rfl (c.free 4) (by decide +kernel) (aw_cons (bv 0) aw_nil))) (db pd_int)) (wd_or1 (td_not (td (pd_ok (ok_is_number c) tk (hr.mono (by decide)) rfl (aCons_len (aCons_len (aCons_len aNil_len))) (af_cons (pd_ix (od_ix hu) cm_ix (fun _ _ => rfl) (bv 0) (db pd_int)) (af_cons pd_int (af_cons (pd_gint rfl (c.int 5)) af_nil))))))))))
      (sd_one (sd_ret pd_bl))
      sd_nil)
      (sd_cons (sd_if (PW.pt (wd_or (td_not (td (pd_ok (ok_is_number c) tk (hr.mono (by decide)) rfl (aCons_len (aCons_len (aCons_len aNil_len))) (af_cons (pd_ix (od_ix hu) cm_ix (fun _ _ => rfl) (bv 0) (db pd_int)) (af_cons (pd_ix (od_ix hu) cm_ix (fun _ _ => rfl) (bv 0) (db pd_int)) (af_cons (pd_gint rfl (c.int 5)) af_nil)))))) (wd_or1 (td_not (td (pd_isI (Ts := "tuple") (eBin dIx (eW 0) (eC (.int 2))) (by decide) rfl (c.free 0) rfl (c.free 3) (by decide +kernel) (db (pd_ix (od_ix hu) cm_ix (fun _ _ => rfl) (bv 0) (db pd_int)))))))))
      (sd_one (sd_ret pd_bl))
      sd_nil)
      (sd_cons (sd_set sc_is_clock.nd rfl (.inl rfl) (pd_ix (od_ix hu) cm_ix (fun _ _ => rfl) (bv 0) (db pd_int)))
      (sd_cons (sd_if (PW.pt (wd_or (td_not (td_chain od_le od_le dI_calm dI_calm (db pd_int) (db (pd_callB cd_len cm_len rfl (c.free 4) (by decide +kernel) (aw_cons (bv 1) aw_nil))) (db (pd_gint rfl (c.int 6))))) (wd_or1 (td_not (td (pd_callB (cd_all rfl) cm_all rfl (c.free 8) (by decide +kernel) (aw_cons (fb (pf_lc (own := [("one", 2)]) rfl sc_is_clock.nd (id_seq (dv 1)) (blkOk_by (own := [("one", 2)]) (by show blkC ["thing", "readings", "one", "other"] (defScope (top 16)) _ _ = true; decide +kernel)) (fun _ _ _ _ _ => (gd_name sc_is_clock.nd rfl (.inl rfl))) (fun _ _ _ _ _ => tds_nil) (fun _ _ _ _ _ => (pd_ok (ok_is_number c) takes0 (hr.mono (by decide)) rfl (aCons_len (aCons_len (aCons_len aNil_len))) (af_cons (dv 2) (af_cons pd_int (af_cons (pd_gint rfl (c.int 7)) af_nil))))))) aw_nil)))))))
      (sd_one (sd_ret pd_bl))
      sd_nil)
      (sd_one (sd_ret (pd_callB (cd_all rfl) cm_all rfl (c.free 8) (by decide +kernel) (aw_cons (fb (pf_lc (own := [("one", 2), ("other", 3)]) rfl sc_is_clock.nd (id_zip rfl (c.free 9) (af_cons (dv 1) (af_cons (pd_sl sl_any cm_sl (bv 1) (pod_some pd_int) pod_none) af_nil))) (blkOk_by (own := [("one", 2), ("other", 3)]) (by show blkC ["thing", "readings", "one", "other"] (defScope (top 16)) _ _ = true; decide +kernel)) (fun _ _ _ _ _ => (gd_tup rfl (gds_cons (gd_name sc_is_clock.nd rfl (.inl rfl)) (gds_cons (gd_name sc_is_clock.nd rfl (.inl rfl)) gds_nil)))) (fun _ _ _ _ _ => tds_nil) (fun _ _ _ _ _ => (pd_cmp od_lt dI_calm (nomark _) (bv 2) (bv 3))))) aw_nil))))))))
theorem sc_is_event : FnScope ["clocks", "thing"] ["clocks", "thing"] (defScope (top 17)) := ⟨rfl, rfl, rfl, by decide +kernel, rfl, by decide +kernel, by decide +kernel⟩
theorem ok_is_event (c : C0 K mg) : OkF P w K mg base 2 "is_event" ["clocks", "thing"] F_is_event := by
  obtain ⟨fdn, F⟩ := c.def_ 8
  refine ⟨fdn, fn_d F sc_is_event fun cdv A outer s H E hr => ?_, F.bindsN (ps := ["clocks", "thing"]) fun _ _ _ _ _ _ us hl => match us, hl with | [_, _], _ => rfl, c.glo 35, F.kp⟩
  have tk : Takes (cxOf (L2.CX P w) P w K mg base ["clocks", "thing"] "is_event" (defScope (top 17)) (He.ga K "is_event") cdv A outer s H E) (fun cls d _ H => E cls d H) := takes_of rfl rfl rfl rfl
  have hp := passes_of (X := cxOf (L2.CX P w) P w K mg base ["clocks", "thing"] "is_event" (defScope (top 17)) (He.ga K "is_event") cdv A outer s H E) rfl
  have hu := hr.u
  exact (sd_cons (sd_if (PW.pt (wd_or (td_not (td (pd_isI (Ts := "tuple") (eW 1) (by decide) rfl (c.free 0) rfl (c.free 3) (by decide +kernel) (bv 1)))) (wd_or (td_cmp (od_ne hu) cm_ne (nomark _) (db (pd_callB cd_len cm_len rfl (c.free 4) (by decide +kernel) (aw_cons (bv 1) aw_nil))) (db pd_int)) (wd_or1 (td_not (td (pd_ok (ok_is_number c) tk (hr.mono (by decide)) rfl (aCons_len (aCons_len (aCons_len aNil_len))) (af_cons (pd_ix (od_ix hu) cm_ix (fun _ _ => rfl) (bv 1) (db pd_int)) (af_cons pd_int (af_cons (pd_bin od_sub dI_calm (db (pd_callB cd_len cm_len rfl (c.free 4) (by decide +kernel) (aw_cons (bv 0) aw_nil))) (db pd_int)) af_nil))))))))))
      (sd_one (sd_ret pd_bl))
      sd_nil)
      (sd_one (sd_ret (pd_ok (ok_is_number c) tk (hr.mono (by decide)) rfl (aCons_len (aCons_len (aCons_len aNil_len))) (af_cons (pd_ix (od_ix hu) cm_ix (fun _ _ => rfl) (bv 1) (db pd_int)) (af_cons pd_int (af_cons (pd_bin od_sub dI_calm (db (pd_callB cd_len cm_len rfl (c.free 4) (by decide +kernel) (aw_cons (db (pd_ix (od_ix hu) cm_ix (fun _ _ => rfl) (db (pd_ix (od_ix hu) cm_ix (fun _ _ => rfl) (bv 0) (db (pd_ix (od_ix hu) cm_ix (fun _ _ => rfl) (bv 1) (db pd_int))))) (db pd_int))) aw_nil))) (db pd_int)) af_nil)))))))
theorem sc_is_letter : FnScope ["clocks", "thing"] ["clocks", "thing"] (defScope (top 18)) := ⟨rfl, rfl, rfl, by decide +kernel, rfl, by decide +kernel, by decide +kernel⟩
theorem ok_is_letter (c : C0 K mg) : OkF P w K mg base 3 "is_letter" ["clocks", "thing"] F_is_letter := by
  obtain ⟨fdn, F⟩ := c.def_ 9
  refine ⟨fdn, fn_d F sc_is_letter fun cdv A outer s H E hr => ?_, F.bindsN (ps := ["clocks", "thing"]) fun _ _ _ _ _ _ us hl => match us, hl with | [_, _], _ => rfl, c.glo 36, F.kp⟩
  have tk : Takes (cxOf (L2.CX P w) P w K mg base ["clocks", "thing"] "is_letter" (defScope (top 18)) (He.ga K "is_letter") cdv A outer s H E) (fun cls d _ H => E cls d H) := takes_of rfl rfl rfl rfl
  have hp := passes_of (X := cxOf (L2.CX P w) P w K mg base ["clocks", "thing"] "is_letter" (defScope (top 18)) (He.ga K "is_letter") cdv A outer s H E) rfl
  have hu := hr.u
  exact (sd_cons (sd_if (PW.pt (wd_or (td_not (td (pd_isI (Ts := "tuple") (eW 1) (by decide) rfl (c.free 0) rfl (c.free 3) (by decide +kernel) (bv 1)))) (wd_or (td_cmp (od_ne hu) cm_ne (nomark _) (db (pd_callB cd_len cm_len rfl (c.free 4) (by decide +kernel) (aw_cons (bv 1) aw_nil))) (db pd_int)) (wd_or1 (td_not (td (pd_ok (ok_is_number c) tk (hr.mono (by decide)) rfl (aCons_len (aCons_len (aCons_len aNil_len))) (af_cons (pd_ix (od_ix hu) cm_ix (fun _ _ => rfl) (bv 1) (db pd_int)) (af_cons pd_int (af_cons (pd_gint rfl (c.int 10)) af_nil))))))))))
      (sd_one (sd_ret pd_bl))
      sd_nil)
      (sd_cons (sd_if (PW.pt (wd_or (td_not (td (pd_ok (ok_is_event c) tk (hr.mono (by decide)) rfl (aCons_len (aCons_len aNil_len)) (af_cons (dv 0) (af_cons (pd_ix (od_ix hu) cm_ix (fun _ _ => rfl) (bv 1) (db pd_int)) af_nil))))) (wd_or (td_not (td (pd_ok (ok_is_event c) tk (hr.mono (by decide)) rfl (aCons_len (aCons_len aNil_len)) (af_cons (dv 0) (af_cons (pd_ix (od_ix hu) cm_ix (fun _ _ => rfl) (bv 1) (db pd_int)) af_nil))))) (wd_or1 (td_cmp (od_eq hu) cm_eq (nomark _) (db (pd_ix (od_ix hu) cm_ix (fun _ _ => rfl) (bv 1) (db pd_int))) (db (pd_ix (od_ix hu) cm_ix (fun _ _ => rfl) (bv 1) (db pd_int))))))))
      (sd_one (sd_ret pd_bl))
      sd_nil)
      (sd_one (sd_ret (pd_or (pd_isN (db (pd_ix (od_ix hu) cm_ix (fun _ _ => rfl) (bv 1) (db pd_int)))) (pd_one (pd_ok (ok_is_number c) tk (hr.mono (by decide)) rfl (aCons_len (aCons_len (aCons_len aNil_len))) (af_cons (pd_ix (od_ix hu) cm_ix (fun _ _ => rfl) (bv 1) (db pd_int)) (af_cons (pd_ix (od_ix hu) cm_ix (fun _ _ => rfl) (bv 1) (db pd_int)) (af_cons (pd_gint rfl (c.int 10)) af_nil))))))))))
theorem sc_is_record : FnScope ["thing", "one"] ["thing"] (defScope (top 19)) := ⟨rfl, rfl, rfl, by decide +kernel, rfl, by decide +kernel, by decide +kernel⟩
theorem ok_is_record (c : C0 K mg) : OkF P w K mg base 4 "is_record" ["thing"] F_is_record := by
  obtain ⟨fdn, F⟩ := c.def_ 10
  refine ⟨fdn, fn_d F sc_is_record fun cdv A outer s H E hr => ?_, F.bindsN (ps := ["thing"]) fun _ _ _ _ _ _ us hl => match us, hl with | [_], _ => rfl, c.glo 37, F.kp⟩
  have tk : Takes (cxOf (L2.CX P w) P w K mg base ["thing", "one"] "is_record" (defScope (top 19)) (He.ga K "is_record") cdv A outer s H E) (fun cls d _ H => E cls d H) := takes_of rfl rfl rfl rfl
  have hp := passes_of (X := cxOf (L2.CX P w) P w K mg base ["thing", "one"] "is_record" (defScope (top 19)) (He.ga K "is_record") cdv A outer s H E) rfl
  have hu := hr.u
  exact (sd_cons (sd_if (PW.pt (wd_or (td_not (td (pd_isI (Ts := "tuple") (eW 0) (by decide) rfl (c.free 0) rfl (c.free 3) (by decide +kernel) (bv 0)))) (wd_or (td_cmp (od_ne hu) cm_ne (nomark _) (db (pd_callB cd_len cm_len rfl (c.free 4) (by decide +kernel) (aw_cons (bv 0) aw_nil))) (db pd_int)) (wd_or1 (td_not (td (pd_isI (Ts := "tuple") (eBin dIx (eW 0) (eC (.int 0))) (by decide) rfl (c.free 0) rfl (c.free 3) (by decide +kernel) (db (pd_ix (od_ix hu) cm_ix (fun _ _ => rfl) (bv 0) (db pd_int))))))))))
      (sd_one (sd_ret pd_bl))
      sd_nil)
      (sd_cons (sd_if (PW.pt (wd_or (td_not (td_chain od_le od_le dI_calm dI_calm (db pd_int) (db (pd_callB cd_len cm_len rfl (c.free 4) (by decide +kernel) (aw_cons (db (pd_ix (od_ix hu) cm_ix (fun _ _ => rfl) (bv 0) (db pd_int))) aw_nil))) (db (pd_gint rfl (c.int 11))))) (wd_or1 (td_not (td (pd_callB (cd_all rfl) cm_all rfl (c.free 8) (by decide +kernel) (aw_cons (fb (pf_lc (own := [("one", 1)]) rfl sc_is_record.nd (id_seq (pd_ix (od_ix hu) cm_ix (fun _ _ => rfl) (bv 0) (db pd_int))) (blkOk_by (own := [("one", 1)]) (by show blkC ["thing", "one"] (defScope (top 19)) _ _ = true; decide +kernel)) (fun _ _ _ _ _ => (gd_name sc_is_record.nd rfl (.inl rfl))) (fun _ _ _ _ _ => tds_nil) (fun _ _ _ _ _ => (pd_ok (ok_is_clock c) takes0 (hr.mono (by decide)) rfl (aCons_len aNil_len) (af_cons (dv 1) af_nil))))) aw_nil)))))))
      (sd_one (sd_ret pd_bl))
      sd_nil)
      (sd_cons (sd_if (PW.pt (wd_or (td_not (td (pd_isI (Ts := "tuple") (eBin dIx (eW 0) (eC (.int 1))) (by decide) rfl (c.free 0) rfl (c.free 3) (by decide +kernel) (db (pd_ix (od_ix hu) cm_ix (fun _ _ => rfl) (bv 0) (db pd_int)))))) (wd_or1 (td_cmp od_gt dI_calm (nomark _) (db (pd_callB cd_len cm_len rfl (c.free 4) (by decide +kernel) (aw_cons (db (pd_ix (od_ix hu) cm_ix (fun _ _ => rfl) (bv 0) (db pd_int))) aw_nil))) (db (pd_gint rfl (c.int 12)))))))
      (sd_one (sd_ret pd_bl))
      sd_nil)
      (sd_one (sd_ret (pd_callB (cd_all rfl) cm_all rfl (c.free 8) (by decide +kernel) (aw_cons (fb (pf_lc (own := [("one", 1)]) rfl sc_is_record.nd (id_seq (pd_ix (od_ix hu) cm_ix (fun _ _ => rfl) (bv 0) (db pd_int))) (blkOk_by (own := [("one", 1)]) (by show blkC ["thing", "one"] (defScope (top 19)) _ _ = true; decide +kernel)) (fun _ _ _ _ _ => (gd_name sc_is_record.nd rfl (.inl rfl))) (fun _ _ _ _ _ => tds_nil) (fun _ _ _ _ _ => (pd_ok (ok_is_letter c) takes0 (hr.mono (by decide)) rfl (aCons_len (aCons_len aNil_len)) (af_cons (pd_ix (od_ix hu) cm_ix (fun _ _ => rfl) (bv 0) (db pd_int)) (af_cons (dv 1) af_nil)))))) aw_nil)))))))
theorem sc_need_record : FnScope ["record"] ["record"] (defScope (top 20)) := ⟨rfl, rfl, rfl, by decide +kernel, rfl, by decide +kernel, by decide +kernel⟩
theorem ok_need_record (c : C0 K mg) : OkF P w K mg base 5 "need_record" ["record"] F_need_record := by
  obtain ⟨fdn, F⟩ := c.def_ 11
  refine ⟨fdn, fn_d F sc_need_record fun cdv A outer s H E hr => ?_, F.bindsN (ps := ["record"]) fun _ _ _ _ _ _ us hl => match us, hl with | [_], _ => rfl, c.glo 38, F.kp⟩
  have tk : Takes (cxOf (L2.CX P w) P w K mg base ["record"] "need_record" (defScope (top 20)) (He.ga K "need_record") cdv A outer s H E) (fun cls d _ H => E cls d H) := takes_of rfl rfl rfl rfl
  have hp := passes_of (X := cxOf (L2.CX P w) P w K mg base ["record"] "need_record" (defScope (top 20)) (He.ga K "need_record") cdv A outer s H E) rfl
  have hu := hr.u
  exact (sd_one (sd_if (td_not (td (pd_ok (ok_is_record c) tk (hr.mono (by decide)) rfl (aCons_len aNil_len) (af_cons (dv 0) af_nil))))
      (sd_one (sd_raise (c.exc 13 14) rfl tk rfl))
      sd_nil))
theorem sc_events : FnScope ["record", "found", "number", "clock", "place"] ["record"] (defScope (top 21)) := ⟨rfl, rfl, rfl, by decide +kernel, rfl, by decide +kernel, by decide +kernel⟩
theorem ok_events (c : C0 K mg) : OkF P w K mg base 6 "events" ["record"] F_events := by
  obtain ⟨fdn, F⟩ := c.def_ 12
  refine ⟨fdn, fn_d F sc_events fun cdv A outer s H E hr => ?_, F.bindsN (ps := ["record"]) fun _ _ _ _ _ _ us hl => match us, hl with | [_], _ => rfl, c.glo 39, F.kp⟩
  have tk : Takes (cxOf (L2.CX P w) P w K mg base ["record", "found", "number", "clock", "place"] "events" (defScope (top 21)) (He.ga K "events") cdv A outer s H E) (fun cls d _ H => E cls d H) := takes_of rfl rfl rfl rfl
  have hp := passes_of (X := cxOf (L2.CX P w) P w K mg base ["record", "found", "number", "clock", "place"] "events" (defScope (top 21)) (He.ga K "events") cdv A outer s H E) rfl
  have hu := hr.u
  exact (sd_cons (sd_drop (pd_ok (ok_need_record c) tk (hr.mono (by decide)) rfl (aCons_len aNil_len) (af_cons (dv 0) af_nil)))
      (sd_cons (sd_own sc_events.nd rfl (.inl rfl) (pf_lst af_nil))
      (sd_cons (sd_for hp rfl (id_enum rfl (c.free 15) (af_cons (pd_ix (od_ix hu) cm_ix (fun _ _ => rfl) (bv 0) (db pd_int)) af_nil)) (gd_tup rfl (gds_cons (gd_name sc_events.nd rfl (.inr rfl)) (gds_cons (gd_name sc_events.nd rfl (.inl rfl)) gds_nil)))
      (sd_one (sd_ext (pv 1) (fd (pf_lc (own := [("place", 4)]) rfl sc_events.nd (id_rng1 rfl (c.free 16) (aw_cons (db (pd_callB cd_len cm_len rfl (c.free 4) (by decide +kernel) (aw_cons (db (pd_ix (od_ix hu) cm_ix (fun _ _ => rfl) (bv 3) (db pd_int))) aw_nil))) aw_nil)) (blkOk_by (own := [("place", 4)]) (by show blkC ["record", "found", "number", "clock", "place"] (defScope (top 21)) _ _ = true; decide +kernel)) (fun _ _ _ _ _ => (gd_name sc_events.nd rfl (.inl rfl))) (fun _ _ _ _ _ => tds_nil) (fun _ _ _ _ _ => (pd_tup (af_cons (dv 2) (af_cons (dv 4) af_nil)))))))))
      (sd_one (sd_frz 1 (sd_ret (dv 1)))))))
theorem sc_clock_bounds : FnScope ["number", "clock", "slow", "fast", "readings", "found", "place", "both", "steps"] ["number", "clock"] (defScope (top 25)) := ⟨rfl, rfl, rfl, by decide +kernel, rfl, by decide +kernel, by decide +kernel⟩
theorem ok_clock_bounds (c : C0 K mg) : OkF P w K mg base 1 "clock_bounds" ["number", "clock"] F_clock_bounds := by
  obtain ⟨fdn, F⟩ := c.def_ 13
  refine ⟨fdn, fn_d F sc_clock_bounds fun cdv A outer s H E hr => ?_, F.bindsN (ps := ["number", "clock"]) fun _ _ _ _ _ _ us hl => match us, hl with | [_, _], _ => rfl, c.glo 40, F.kp⟩
  have tk : Takes (cxOf (L2.CX P w) P w K mg base ["number", "clock", "slow", "fast", "readings", "found", "place", "both", "steps"] "clock_bounds" (defScope (top 25)) (He.ga K "clock_bounds") cdv A outer s H E) (fun cls d _ H => E cls d H) := takes_of rfl rfl rfl rfl
  have hp := passes_of (X := cxOf (L2.CX P w) P w K mg base ["number", "clock", "slow", "fast", "readings", "found", "place", "both", "steps"] "clock_bounds" (defScope (top 25)) (He.ga K "clock_bounds") cdv A outer s H E) rfl
  have hu := hr.u
  exact (sd_cons (sd_asg (dv 1) (gd_tup rfl (gds_cons (gd_name sc_clock_bounds.nd rfl (.inl rfl)) (gds_cons (gd_name sc_clock_bounds.nd rfl (.inl rfl)) (gds_cons (gd_name sc_clock_bounds.nd rfl (.inl rfl)) gds_nil)))))
      (sd_cons (sd_own sc_clock_bounds.nd rfl (.inl rfl) (pf_lst af_nil))
      (sd_cons (sd_for hp rfl (id_enumzip rfl (c.free 15) rfl (c.free 9) (af_cons (dv 4) (af_cons (pd_sl sl_any cm_sl (bv 4) (pod_some pd_int) pod_none) af_nil))) (gd_tup rfl (gds_cons (gd_name sc_clock_bounds.nd rfl (.inl rfl)) (gds_cons (gd_name sc_clock_bounds.nd rfl (.inl rfl)) gds_nil)))
      (sd_cons (sd_set sc_clock_bounds.nd rfl (.inl rfl) (pd_bin od_sub dI_calm (db (pd_ix (od_ix hu) cm_ix (fun _ _ => rfl) (bv 7) (db pd_int))) (db (pd_ix (od_ix hu) cm_ix (fun _ _ => rfl) (bv 7) (db pd_int)))))
      (sd_cons (sd_app (pv 5) (pd_tup (af_cons (pd_tup (af_cons (dv 0) (af_cons (dv 6) af_nil))) (af_cons (pd_tup (af_cons (dv 0) (af_cons (pd_bin od_add cm_add (bv 6) (db pd_int)) af_nil))) (af_cons (pd_bin od_mul cm_mul (bv 8) (bv 3)) af_nil)))))
      (sd_one (sd_app (pv 5) (pd_tup (af_cons (pd_tup (af_cons (dv 0) (af_cons (pd_bin od_add cm_add (bv 6) (db pd_int)) af_nil))) (af_cons (pd_tup (af_cons (dv 0) (af_cons (dv 6) af_nil))) (af_cons (pd_bin od_sub dI_calm (db pd_int) (db (pd_bin od_mul cm_mul (bv 8) (bv 2)))) af_nil)))))))))
      (sd_one (sd_frz 5 (sd_ret (dv 5)))))))
theorem sc_letter_bounds : FnScope ["letter", "one", "other", "least", "most", "found"] ["letter"] (defScope (top 26)) := ⟨rfl, rfl, rfl, by decide +kernel, rfl, by decide +kernel, by decide +kernel⟩
theorem ok_letter_bounds (c : C0 K mg) : OkF P w K mg base 1 "letter_bounds" ["letter"] F_letter_bounds := by
  obtain ⟨fdn, F⟩ := c.def_ 14
  refine ⟨fdn, fn_d F sc_letter_bounds fun cdv A outer s H E hr => ?_, F.bindsN (ps := ["letter"]) fun _ _ _ _ _ _ us hl => match us, hl with | [_], _ => rfl, c.glo 41, F.kp⟩
  have tk : Takes (cxOf (L2.CX P w) P w K mg base ["letter", "one", "other", "least", "most", "found"] "letter_bounds" (defScope (top 26)) (He.ga K "letter_bounds") cdv A outer s H E) (fun cls d _ H => E cls d H) := takes_of rfl rfl rfl rfl
  have hp := passes_of (X := cxOf (L2.CX P w) P w K mg base ["letter", "one", "other", "least", "most", "found"] "letter_bounds" (defScope (top 26)) (He.ga K "letter_bounds") cdv A outer s H E) rfl
  have hu := hr.u
  exact (sd_cons (sd_asg (dv 0) (gd_tup rfl (gds_cons (gd_name sc_letter_bounds.nd rfl (.inl rfl)) (gds_cons (gd_name sc_letter_bounds.nd rfl (.inl rfl)) (gds_cons (gd_name sc_letter_bounds.nd rfl (.inl rfl)) (gds_cons (gd_name sc_letter_bounds.nd rfl (.inl rfl)) gds_nil))))))
      (sd_cons (sd_set sc_letter_bounds.nd rfl (.inl rfl) (fd (pf_lst (af_cons (pd_tup (af_cons (dv 2) (af_cons (dv 1) (af_cons (pd_bin od_sub dI_calm (db pd_int) (bv 3)) af_nil)))) af_nil))))
      (sd_one (sd_ret (pd_if (td_isN (bv 4)) (dv 5) (pd_bin od_add cm_add (bv 5) (fb (pf_lst (af_cons (pd_tup (af_cons (dv 1) (af_cons (dv 2) (af_cons (dv 4) af_nil)))) af_nil)))))))))
theorem sc_bounds : FnScope ["record", "found", "number", "clock", "letter"] ["record"] (defScope (top 27)) := ⟨rfl, rfl, rfl, by decide +kernel, rfl, by decide +kernel, by decide +kernel⟩
theorem ok_bounds (c : C0 K mg) : OkF P w K mg base 6 "bounds" ["record"] F_bounds := by
  obtain ⟨fdn, F⟩ := c.def_ 15
  refine ⟨fdn, fn_d F sc_bounds fun cdv A outer s H E hr => ?_, F.bindsN (ps := ["record"]) fun _ _ _ _ _ _ us hl => match us, hl with | [_], _ => rfl, c.glo 42, F.kp⟩
  have tk : Takes (cxOf (L2.CX P w) P w K mg base ["record", "found", "number", "clock", "letter"] "bounds" (defScope (top 27)) (He.ga K "bounds") cdv A outer s H E) (fun cls d _ H => E cls d H) := takes_of rfl rfl rfl rfl
  have hp := passes_of (X := cxOf (L2.CX P w) P w K mg base ["record", "found", "number", "clock", "letter"] "bounds" (defScope (top 27)) (He.ga K "bounds") cdv A outer s H E) rfl
  have hu := hr.u
  exact (sd_cons (sd_drop (pd_ok (ok_need_record c) tk (hr.mono (by decide)) rfl (aCons_len aNil_len) (af_cons (dv 0) af_nil)))
      (sd_cons (sd_own sc_bounds.nd rfl (.inl rfl) (pf_lst af_nil))
      (sd_cons (sd_for hp rfl (id_enum rfl (c.free 15) (af_cons (pd_ix (od_ix hu) cm_ix (fun _ _ => rfl) (bv 0) (db pd_int)) af_nil)) (gd_tup rfl (gds_cons (gd_name sc_bounds.nd rfl (.inl rfl)) (gds_cons (gd_name sc_bounds.nd rfl (.inl rfl)) gds_nil)))
      (sd_one (sd_ext (pv 1) (pd_ok (ok_clock_bounds c) tk (hr.mono (by decide)) rfl (aCons_len (aCons_len aNil_len)) (af_cons (dv 2) (af_cons (dv 3) af_nil))))))
      (sd_cons (sd_for hp rfl (id_seq (pd_ix (od_ix hu) cm_ix (fun _ _ => rfl) (bv 0) (db pd_int))) (gd_name sc_bounds.nd rfl (.inl rfl))
      (sd_one (sd_ext (pv 1) (pd_ok (ok_letter_bounds c) tk (hr.mono (by decide)) rfl (aCons_len aNil_len) (af_cons (dv 4) af_nil)))))
      (sd_one (sd_frz 1 (sd_ret (dv 1))))))))
theorem sc_need_event : FnScope ["record", "event"] ["record", "event"] (defScope (top 22)) := ⟨rfl, rfl, rfl, by decide +kernel, rfl, by decide +kernel, by decide +kernel⟩
theorem ok_need_event (c : C0 K mg) : OkF P w K mg base 6 "need_event" ["record", "event"] F_need_event := by
  obtain ⟨fdn, F⟩ := c.def_ 16
  refine ⟨fdn, fn_d F sc_need_event fun cdv A outer s H E hr => ?_, F.bindsN (ps := ["record", "event"]) fun _ _ _ _ _ _ us hl => match us, hl with | [_, _], _ => rfl, c.glo 43, F.kp⟩
  have tk : Takes (cxOf (L2.CX P w) P w K mg base ["record", "event"] "need_event" (defScope (top 22)) (He.ga K "need_event") cdv A outer s H E) (fun cls d _ H => E cls d H) := takes_of rfl rfl rfl rfl
  have hp := passes_of (X := cxOf (L2.CX P w) P w K mg base ["record", "event"] "need_event" (defScope (top 22)) (He.ga K "need_event") cdv A outer s H E) rfl
  have hu := hr.u
  exact (sd_cons (sd_drop (pd_ok (ok_need_record c) tk (hr.mono (by decide)) rfl (aCons_len aNil_len) (af_cons (dv 0) af_nil)))
      (sd_one (sd_if (td_not (td (pd_ok (ok_is_event c) tk (hr.mono (by decide)) rfl (aCons_len (aCons_len aNil_len)) (af_cons (pd_ix (od_ix hu) cm_ix (fun _ _ => rfl) (bv 0) (db pd_int)) (af_cons (dv 1) af_nil)))))
      (sd_one (sd_raise (c.exc 17 18) rfl tk rfl))
      sd_nil)))
theorem sc_reading_of : FnScope ["record", "event"] ["record", "event"] (defScope (top 23)) := ⟨rfl, rfl, rfl, by decide +kernel, rfl, by decide +kernel, by decide +kernel⟩
theorem ok_reading_of (c : C0 K mg) : OkF P w K mg base 7 "reading_of" ["record", "event"] F_reading_of := by
  obtain ⟨fdn, F⟩ := c.def_ 17
  refine ⟨fdn, fn_d F sc_reading_of fun cdv A outer s H E hr => ?_, F.bindsN (ps := ["record", "event"]) fun _ _ _ _ _ _ us hl => match us, hl with | [_, _], _ => rfl, c.glo 44, F.kp⟩
  have tk : Takes (cxOf (L2.CX P w) P w K mg base ["record", "event"] "reading_of" (defScope (top 23)) (He.ga K "reading_of") cdv A outer s H E) (fun cls d _ H => E cls d H) := takes_of rfl rfl rfl rfl
  have hp := passes_of (X := cxOf (L2.CX P w) P w K mg base ["record", "event"] "reading_of" (defScope (top 23)) (He.ga K "reading_of") cdv A outer s H E) rfl
  have hu := hr.u
  exact (sd_cons (sd_drop (pd_ok (ok_need_event c) tk (hr.mono (by decide)) rfl (aCons_len (aCons_len aNil_len)) (af_cons (dv 0) (af_cons (dv 1) af_nil))))
      (sd_one (sd_ret (pd_ix (od_ix hu) cm_ix (fun _ _ => rfl) (db (pd_ix (od_ix hu) cm_ix (fun _ _ => rfl) (db (pd_ix (od_ix hu) cm_ix (fun _ _ => rfl) (db (pd_ix (od_ix hu) cm_ix (fun _ _ => rfl) (bv 0) (db pd_int))) (db (pd_ix (od_ix hu) cm_ix (fun _ _ => rfl) (bv 1) (db pd_int))))) (db pd_int))) (db (pd_ix (od_ix hu) cm_ix (fun _ _ => rfl) (bv 1) (db pd_int)))))))
theorem sc_of_letter : FnScope ["record", "number", "first"] ["record", "number"] (defScope (top 28)) := ⟨rfl, rfl, rfl, by decide +kernel, rfl, by decide +kernel, by decide +kernel⟩
theorem ok_of_letter (c : C0 K mg) : OkF P w K mg base 7 "of_letter" ["record", "number"] F_of_letter := by
  obtain ⟨fdn, F⟩ := c.def_ 18
  refine ⟨fdn, fn_d F sc_of_letter fun cdv A outer s H E hr => ?_, F.bindsN (ps := ["record", "number"]) fun _ _ _ _ _ _ us hl => match us, hl with | [_, _], _ => rfl, c.glo 45, F.kp⟩
  have tk : Takes (cxOf (L2.CX P w) P w K mg base ["record", "number", "first"] "of_letter" (defScope (top 28)) (He.ga K "of_letter") cdv A outer s H E) (fun cls d _ H => E cls d H) := takes_of rfl rfl rfl rfl
  have hp := passes_of (X := cxOf (L2.CX P w) P w K mg base ["record", "number", "first"] "of_letter" (defScope (top 28)) (He.ga K "of_letter") cdv A outer s H E) rfl
  have hu := hr.u
  exact (sd_cons (sd_drop (pd_ok (ok_need_record c) tk (hr.mono (by decide)) rfl (aCons_len aNil_len) (af_cons (dv 0) af_nil)))
      (sd_cons (sd_if (td_not (td (pd_ok (ok_is_number c) tk (hr.mono (by decide)) rfl (aCons_len (aCons_len (aCons_len aNil_len))) (af_cons (dv 1) (af_cons pd_int (af_cons (pd_bin od_sub dI_calm (db (pd_callB cd_len cm_len rfl (c.free 4) (by decide +kernel) (aw_cons (db (pd_ix (od_ix hu) cm_ix (fun _ _ => rfl) (bv 0) (db pd_int))) aw_nil))) (db pd_int)) af_nil))))))
      (sd_one (sd_raise (c.exc 19 20) rfl tk rfl))
      sd_nil)
      (sd_cons (sd_set sc_of_letter.nd rfl (.inl rfl) (pd_callB cd_len cm_len rfl (c.free 4) (by decide +kernel) (aw_cons (db (pd_ok (ok_bounds c) tk (hr.mono (by decide)) rfl (aCons_len aNil_len) (af_cons (pd_tup (af_cons (pd_ix (od_ix hu) cm_ix (fun _ _ => rfl) (bv 0) (db pd_int)) (af_cons (pd_sl sl_any cm_sl (db (pd_ix (od_ix hu) cm_ix (fun _ _ => rfl) (bv 0) (db pd_int))) pod_none (pod_some (dv 1))) af_nil))) af_nil))) aw_nil)))
      (sd_one (sd_ret (fd (pf_listRg2 rfl rfl (c.free 21) rfl (c.free 16) (bv 2) (db (pd_bin od_add cm_add (bv 2) (db (pd_callB cd_len cm_len rfl (c.free 4) (by decide +kernel) (aw_cons (db (pd_ok (ok_letter_bounds c) tk (hr.mono (by decide)) rfl (aCons_len aNil_len) (af_cons (pd_ix (od_ix hu) cm_ix (fun _ _ => rfl) (db (pd_ix (od_ix hu) cm_ix (fun _ _ => rfl) (bv 0) (db pd_int))) (bv 1)) af_nil))) aw_nil))))))))))))
theorem sc_law_refused : FnScope ["_law_e", "_law_flags"] ["_law_e"] (defScope (top 37)) := ⟨rfl, rfl, rfl, by decide +kernel, rfl, by decide +kernel, by decide +kernel⟩
theorem okp_law_refused_NoRecord (c : C0 K mg) {fdn : FuncData} (F : FunD K dd_law_refused.name dd_law_refused.qual dd_law_refused.params dd_law_refused.body dd_law_refused.scope (dd_law_refused.dvs K) (dd_law_refused.kws K) (He.fAd K dd_law_refused.at_) fdn) {a : Addr} {oe : Obj} (hz : Zc (.ref (He.ga K "NoRecord")) none oe) (hv : ∃ vs, oe.data = .fields vs) :
    FnP P w K mg base 1 (He.ga K "_law_refused") fdn ["_law_e"] (a, oe) (spX K a (F_law_refused a true false false false false false true)) := by
  refine fn_dP (p := (a, oe)) F sc_law_refused fun cdv A outer s H hr => ?_
  have hu : A.units + 3 + 100 < cLine := by have := hr.un; show A.units + 3 + 100 < cLine; have h2 : A.units + 3 + 16 * 0 + 200 < cLine := this; omega
  exact (sd_cons (sd_set sc_law_refused.nd rfl (.inl rfl) (fd (pf_lst (af_cons (pd_isE (c.excC 0) hz hv List.mem_cons_self rfl (c.free 0) rfl (c.glo 14) (c.kit 2) (bv 0)) (af_cons (pd_isE (c.excC 0) hz hv List.mem_cons_self rfl (c.free 0) rfl (c.glo 18) (c.kit 4) (bv 0)) (af_cons (pd_isE (c.excC 0) hz hv List.mem_cons_self rfl (c.free 0) rfl (c.glo 20) (c.kit 3) (bv 0)) af_nil))))))
      (sd_cons (sd_set sc_law_refused.nd rfl (.inl rfl) (pd_bin od_add cm_add (bv 1) (fb (pf_lst (af_cons (pd_isE (c.excC 0) hz hv List.mem_cons_self rfl (c.free 0) rfl (c.glo 22) (c.kit 6) (bv 0)) (af_cons (pd_isE (c.excC 0) hz hv List.mem_cons_self rfl (c.free 0) rfl (c.glo 23) (c.kit 7) (bv 0)) (af_cons (pd_isE (c.excC 0) hz hv List.mem_cons_self rfl (c.free 0) rfl (c.glo 24) (c.kit 5) (bv 0)) af_nil)))))))
      (sd_cons (sd_if (PW.pt (wd_or (td_cmp (od_ne hu) cm_ne (nomark _) (db (pd_count hu (bv 1) (db pd_bl))) (db pd_int)) (wd_or1 (td_not (td (pd_isEt (Ts := "ValueError") (c.excC 0) hz hv List.mem_cons_self rfl (c.free 0) rfl (c.free 25) (by decide +kernel) (c.kitT 1) (bv 0)))))))
      (sd_one (sd_ret (pd_tup (af_cons pd_str (af_cons (pd_neg (db pd_int)) af_nil)))))
      sd_nil)
      (sd_one (sd_ret (pd_tup (af_cons pd_str (af_cons (pd_index hu (bv 1) (db pd_bl)) af_nil))))))))
theorem okp_law_refused_NoEvent (c : C0 K mg) {fdn : FuncData} (F : FunD K dd_law_refused.name dd_law_refused.qual dd_law_refused.params dd_law_refused.body dd_law_refused.scope (dd_law_refused.dvs K) (dd_law_refused.kws K) (He.fAd K dd_law_refused.at_) fdn) {a : Addr} {oe : Obj} (hz : Zc (.ref (He.ga K "NoEvent")) none oe) (hv : ∃ vs, oe.data = .fields vs) :
    FnP P w K mg base 1 (He.ga K "_law_refused") fdn ["_law_e"] (a, oe) (spX K a (F_law_refused a false true false false false false true)) := by
  refine fn_dP (p := (a, oe)) F sc_law_refused fun cdv A outer s H hr => ?_
  have hu : A.units + 3 + 100 < cLine := by have := hr.un; show A.units + 3 + 100 < cLine; have h2 : A.units + 3 + 16 * 0 + 200 < cLine := this; omega
  exact (sd_cons (sd_set sc_law_refused.nd rfl (.inl rfl) (fd (pf_lst (af_cons (pd_isE (c.excC 8) hz hv List.mem_cons_self rfl (c.free 0) rfl (c.glo 14) (c.kit 10) (bv 0)) (af_cons (pd_isE (c.excC 8) hz hv List.mem_cons_self rfl (c.free 0) rfl (c.glo 18) (c.kit 12) (bv 0)) (af_cons (pd_isE (c.excC 8) hz hv List.mem_cons_self rfl (c.free 0) rfl (c.glo 20) (c.kit 11) (bv 0)) af_nil))))))
      (sd_cons (sd_set sc_law_refused.nd rfl (.inl rfl) (pd_bin od_add cm_add (bv 1) (fb (pf_lst (af_cons (pd_isE (c.excC 8) hz hv List.mem_cons_self rfl (c.free 0) rfl (c.glo 22) (c.kit 14) (bv 0)) (af_cons (pd_isE (c.excC 8) hz hv List.mem_cons_self rfl (c.free 0) rfl (c.glo 23) (c.kit 15) (bv 0)) (af_cons (pd_isE (c.excC 8) hz hv List.mem_cons_self rfl (c.free 0) rfl (c.glo 24) (c.kit 13) (bv 0)) af_nil)))))))
      (sd_cons (sd_if (PW.pt (wd_or (td_cmp (od_ne hu) cm_ne (nomark _) (db (pd_count hu (bv 1) (db pd_bl))) (db pd_int)) (wd_or1 (td_not (td (pd_isEt (Ts := "ValueError") (c.excC 8) hz hv List.mem_cons_self rfl (c.free 0) rfl (c.free 25) (by decide +kernel) (c.kitT 9) (bv 0)))))))
      (sd_one (sd_ret (pd_tup (af_cons pd_str (af_cons (pd_neg (db pd_int)) af_nil)))))
      sd_nil)
      (sd_one (sd_ret (pd_tup (af_cons pd_str (af_cons (pd_index hu (bv 1) (db pd_bl)) af_nil))))))))
theorem okp_law_refused_NoNumber (c : C0 K mg) {fdn : FuncData} (F : FunD K dd_law_refused.name dd_law_refused.qual dd_law_refused.params dd_law_refused.body dd_law_refused.scope (dd_law_refused.dvs K) (dd_law_refused.kws K) (He.fAd K dd_law_refused.at_) fdn) {a : Addr} {oe : Obj} (hz : Zc (.ref (He.ga K "NoNumber")) none oe) (hv : ∃ vs, oe.data = .fields vs) :
    FnP P w K mg base 1 (He.ga K "_law_refused") fdn ["_law_e"] (a, oe) (spX K a (F_law_refused a false false true false false false true)) := by
  refine fn_dP (p := (a, oe)) F sc_law_refused fun cdv A outer s H hr => ?_
  have hu : A.units + 3 + 100 < cLine := by have := hr.un; show A.units + 3 + 100 < cLine; have h2 : A.units + 3 + 16 * 0 + 200 < cLine := this; omega
  exact (sd_cons (sd_set sc_law_refused.nd rfl (.inl rfl) (fd (pf_lst (af_cons (pd_isE (c.excC 16) hz hv List.mem_cons_self rfl (c.free 0) rfl (c.glo 14) (c.kit 18) (bv 0)) (af_cons (pd_isE (c.excC 16) hz hv List.mem_cons_self rfl (c.free 0) rfl (c.glo 18) (c.kit 20) (bv 0)) (af_cons (pd_isE (c.excC 16) hz hv List.mem_cons_self rfl (c.free 0) rfl (c.glo 20) (c.kit 19) (bv 0)) af_nil))))))
      (sd_cons (sd_set sc_law_refused.nd rfl (.inl rfl) (pd_bin od_add cm_add (bv 1) (fb (pf_lst (af_cons (pd_isE (c.excC 16) hz hv List.mem_cons_self rfl (c.free 0) rfl (c.glo 22) (c.kit 22) (bv 0)) (af_cons (pd_isE (c.excC 16) hz hv List.mem_cons_self rfl (c.free 0) rfl (c.glo 23) (c.kit 23) (bv 0)) (af_cons (pd_isE (c.excC 16) hz hv List.mem_cons_self rfl (c.free 0) rfl (c.glo 24) (c.kit 21) (bv 0)) af_nil)))))))
      (sd_cons (sd_if (PW.pt (wd_or (td_cmp (od_ne hu) cm_ne (nomark _) (db (pd_count hu (bv 1) (db pd_bl))) (db pd_int)) (wd_or1 (td_not (td (pd_isEt (Ts := "ValueError") (c.excC 16) hz hv List.mem_cons_self rfl (c.free 0) rfl (c.free 25) (by decide +kernel) (c.kitT 17) (bv 0)))))))
      (sd_one (sd_ret (pd_tup (af_cons pd_str (af_cons (pd_neg (db pd_int)) af_nil)))))
      sd_nil)
      (sd_one (sd_ret (pd_tup (af_cons pd_str (af_cons (pd_index hu (bv 1) (db pd_bl)) af_nil))))))))
theorem okp_law_refused_NoWorld (c : C0 K mg) {fdn : FuncData} (F : FunD K dd_law_refused.name dd_law_refused.qual dd_law_refused.params dd_law_refused.body dd_law_refused.scope (dd_law_refused.dvs K) (dd_law_refused.kws K) (He.fAd K dd_law_refused.at_) fdn) {a : Addr} {oe : Obj} (hz : Zc (.ref (He.ga K "NoWorld")) none oe) (hv : ∃ vs, oe.data = .fields vs) :
    FnP P w K mg base 1 (He.ga K "_law_refused") fdn ["_law_e"] (a, oe) (spX K a (F_law_refused a false false false true false false true)) := by
  refine fn_dP (p := (a, oe)) F sc_law_refused fun cdv A outer s H hr => ?_
  have hu : A.units + 3 + 100 < cLine := by have := hr.un; show A.units + 3 + 100 < cLine; have h2 : A.units + 3 + 16 * 0 + 200 < cLine := this; omega
  exact (sd_cons (sd_set sc_law_refused.nd rfl (.inl rfl) (fd (pf_lst (af_cons (pd_isE (c.excC 24) hz hv List.mem_cons_self rfl (c.free 0) rfl (c.glo 14) (c.kit 26) (bv 0)) (af_cons (pd_isE (c.excC 24) hz hv List.mem_cons_self rfl (c.free 0) rfl (c.glo 18) (c.kit 28) (bv 0)) (af_cons (pd_isE (c.excC 24) hz hv List.mem_cons_self rfl (c.free 0) rfl (c.glo 20) (c.kit 27) (bv 0)) af_nil))))))
      (sd_cons (sd_set sc_law_refused.nd rfl (.inl rfl) (pd_bin od_add cm_add (bv 1) (fb (pf_lst (af_cons (pd_isE (c.excC 24) hz hv List.mem_cons_self rfl (c.free 0) rfl (c.glo 22) (c.kit 30) (bv 0)) (af_cons (pd_isE (c.excC 24) hz hv List.mem_cons_self rfl (c.free 0) rfl (c.glo 23) (c.kit 31) (bv 0)) (af_cons (pd_isE (c.excC 24) hz hv List.mem_cons_self rfl (c.free 0) rfl (c.glo 24) (c.kit 29) (bv 0)) af_nil)))))))
      (sd_cons (sd_if (PW.pt (wd_or (td_cmp (od_ne hu) cm_ne (nomark _) (db (pd_count hu (bv 1) (db pd_bl))) (db pd_int)) (wd_or1 (td_not (td (pd_isEt (Ts := "ValueError") (c.excC 24) hz hv List.mem_cons_self rfl (c.free 0) rfl (c.free 25) (by decide +kernel) (c.kitT 25) (bv 0)))))))
      (sd_one (sd_ret (pd_tup (af_cons pd_str (af_cons (pd_neg (db pd_int)) af_nil)))))
      sd_nil)
      (sd_one (sd_ret (pd_tup (af_cons pd_str (af_cons (pd_index hu (bv 1) (db pd_bl)) af_nil))))))))
theorem okp_law_refused_Barred (c : C0 K mg) {fdn : FuncData} (F : FunD K dd_law_refused.name dd_law_refused.qual dd_law_refused.params dd_law_refused.body dd_law_refused.scope (dd_law_refused.dvs K) (dd_law_refused.kws K) (He.fAd K dd_law_refused.at_) fdn) {a : Addr} {oe : Obj} (hz : Zc (.ref (He.ga K "Barred")) none oe) (hv : ∃ vs, oe.data = .fields vs) :
    FnP P w K mg base 1 (He.ga K "_law_refused") fdn ["_law_e"] (a, oe) (spX K a (F_law_refused a false false false false true false true)) := by
  refine fn_dP (p := (a, oe)) F sc_law_refused fun cdv A outer s H hr => ?_
  have hu : A.units + 3 + 100 < cLine := by have := hr.un; show A.units + 3 + 100 < cLine; have h2 : A.units + 3 + 16 * 0 + 200 < cLine := this; omega
  exact (sd_cons (sd_set sc_law_refused.nd rfl (.inl rfl) (fd (pf_lst (af_cons (pd_isE (c.excC 32) hz hv List.mem_cons_self rfl (c.free 0) rfl (c.glo 14) (c.kit 34) (bv 0)) (af_cons (pd_isE (c.excC 32) hz hv List.mem_cons_self rfl (c.free 0) rfl (c.glo 18) (c.kit 36) (bv 0)) (af_cons (pd_isE (c.excC 32) hz hv List.mem_cons_self rfl (c.free 0) rfl (c.glo 20) (c.kit 35) (bv 0)) af_nil))))))
      (sd_cons (sd_set sc_law_refused.nd rfl (.inl rfl) (pd_bin od_add cm_add (bv 1) (fb (pf_lst (af_cons (pd_isE (c.excC 32) hz hv List.mem_cons_self rfl (c.free 0) rfl (c.glo 22) (c.kit 38) (bv 0)) (af_cons (pd_isE (c.excC 32) hz hv List.mem_cons_self rfl (c.free 0) rfl (c.glo 23) (c.kit 39) (bv 0)) (af_cons (pd_isE (c.excC 32) hz hv List.mem_cons_self rfl (c.free 0) rfl (c.glo 24) (c.kit 37) (bv 0)) af_nil)))))))
      (sd_cons (sd_if (PW.pt (wd_or (td_cmp (od_ne hu) cm_ne (nomark _) (db (pd_count hu (bv 1) (db pd_bl))) (db pd_int)) (wd_or1 (td_not (td (pd_isEt (Ts := "ValueError") (c.excC 32) hz hv List.mem_cons_self rfl (c.free 0) rfl (c.free 25) (by decide +kernel) (c.kitT 33) (bv 0)))))))
      (sd_one (sd_ret (pd_tup (af_cons pd_str (af_cons (pd_neg (db pd_int)) af_nil)))))
      sd_nil)
      (sd_one (sd_ret (pd_tup (af_cons pd_str (af_cons (pd_index hu (bv 1) (db pd_bl)) af_nil))))))))
theorem okp_law_refused_Nothing (c : C0 K mg) {fdn : FuncData} (F : FunD K dd_law_refused.name dd_law_refused.qual dd_law_refused.params dd_law_refused.body dd_law_refused.scope (dd_law_refused.dvs K) (dd_law_refused.kws K) (He.fAd K dd_law_refused.at_) fdn) {a : Addr} {oe : Obj} (hz : Zc (.ref (He.ga K "Nothing")) none oe) (hv : ∃ vs, oe.data = .fields vs) :
    FnP P w K mg base 1 (He.ga K "_law_refused") fdn ["_law_e"] (a, oe) (spX K a (F_law_refused a false false false false false true true)) := by
  refine fn_dP (p := (a, oe)) F sc_law_refused fun cdv A outer s H hr => ?_
  have hu : A.units + 3 + 100 < cLine := by have := hr.un; show A.units + 3 + 100 < cLine; have h2 : A.units + 3 + 16 * 0 + 200 < cLine := this; omega
  exact (sd_cons (sd_set sc_law_refused.nd rfl (.inl rfl) (fd (pf_lst (af_cons (pd_isE (c.excC 40) hz hv List.mem_cons_self rfl (c.free 0) rfl (c.glo 14) (c.kit 42) (bv 0)) (af_cons (pd_isE (c.excC 40) hz hv List.mem_cons_self rfl (c.free 0) rfl (c.glo 18) (c.kit 44) (bv 0)) (af_cons (pd_isE (c.excC 40) hz hv List.mem_cons_self rfl (c.free 0) rfl (c.glo 20) (c.kit 43) (bv 0)) af_nil))))))
      (sd_cons (sd_set sc_law_refused.nd rfl (.inl rfl) (pd_bin od_add cm_add (bv 1) (fb (pf_lst (af_cons (pd_isE (c.excC 40) hz hv List.mem_cons_self rfl (c.free 0) rfl (c.glo 22) (c.kit 46) (bv 0)) (af_cons (pd_isE (c.excC 40) hz hv List.mem_cons_self rfl (c.free 0) rfl (c.glo 23) (c.kit 47) (bv 0)) (af_cons (pd_isE (c.excC 40) hz hv List.mem_cons_self rfl (c.free 0) rfl (c.glo 24) (c.kit 45) (bv 0)) af_nil)))))))
      (sd_cons (sd_if (PW.pt (wd_or (td_cmp (od_ne hu) cm_ne (nomark _) (db (pd_count hu (bv 1) (db pd_bl))) (db pd_int)) (wd_or1 (td_not (td (pd_isEt (Ts := "ValueError") (c.excC 40) hz hv List.mem_cons_self rfl (c.free 0) rfl (c.free 25) (by decide +kernel) (c.kitT 41) (bv 0)))))))
      (sd_one (sd_ret (pd_tup (af_cons pd_str (af_cons (pd_neg (db pd_int)) af_nil)))))
      sd_nil)
      (sd_one (sd_ret (pd_tup (af_cons pd_str (af_cons (pd_index hu (bv 1) (db pd_bl)) af_nil))))))))
theorem tryf_law_refused (c : C0 K mg) : TryF P w K mg base 1 "_law_refused" (.ref (He.ga K "ClockError")) T_law_refused := by
  obtain ⟨fdn, F⟩ := c.def_ 19
  refine ⟨⟨_, fdn, "_law_e", c.glo 46, F.kp, F.bindsN (ps := ["_law_e"]) fun _ _ _ _ _ _ us hl => match us, hl with | [_], _ => rfl, fun cn d hT C hC => ?_⟩⟩
  by_cases h0 : cn = ("NoRecord" : Str)
  · subst h0
    have gC := hC.symm.trans (c.glo 14)
    cases gC
    refine ⟨c.exm 50, fun a oe hz hv => ⟨_, okp_law_refused_NoRecord c F hz hv, ?_⟩⟩
    obtain ⟨d', e1, e2⟩ := refused_NoRecord a
    rw [e2, ← e1]
    exact hT
  by_cases h1 : cn = ("NoEvent" : Str)
  · subst h1
    have gC := hC.symm.trans (c.glo 18)
    cases gC
    refine ⟨c.exm 51, fun a oe hz hv => ⟨_, okp_law_refused_NoEvent c F hz hv, ?_⟩⟩
    obtain ⟨d', e1, e2⟩ := refused_NoEvent a
    rw [e2, ← e1]
    exact hT
  by_cases h2 : cn = ("NoNumber" : Str)
  · subst h2
    have gC := hC.symm.trans (c.glo 20)
    cases gC
    refine ⟨c.exm 52, fun a oe hz hv => ⟨_, okp_law_refused_NoNumber c F hz hv, ?_⟩⟩
    obtain ⟨d', e1, e2⟩ := refused_NoNumber a
    rw [e2, ← e1]
    exact hT
  by_cases h3 : cn = ("NoWorld" : Str)
  · subst h3
    have gC := hC.symm.trans (c.glo 22)
    cases gC
    refine ⟨c.exm 53, fun a oe hz hv => ⟨_, okp_law_refused_NoWorld c F hz hv, ?_⟩⟩
    obtain ⟨d', e1, e2⟩ := refused_NoWorld a
    rw [e2, ← e1]
    exact hT
  by_cases h4 : cn = ("Barred" : Str)
  · subst h4
    have gC := hC.symm.trans (c.glo 23)
    cases gC
    refine ⟨c.exm 54, fun a oe hz hv => ⟨_, okp_law_refused_Barred c F hz hv, ?_⟩⟩
    obtain ⟨d', e1, e2⟩ := refused_Barred a
    rw [e2, ← e1]
    exact hT
  by_cases h5 : cn = ("Nothing" : Str)
  · subst h5
    have gC := hC.symm.trans (c.glo 24)
    cases gC
    refine ⟨c.exm 55, fun a oe hz hv => ⟨_, okp_law_refused_Nothing c F hz hv, ?_⟩⟩
    obtain ⟨d', e1, e2⟩ := refused_Nothing a
    rw [e2, ← e1]
    exact hT
  exfalso
  unfold T_law_refused at hT
  simp [h0, h1, h2, h3, h4, h5] at hT
theorem sc_law_told : FnScope ["_law_ask", "_law_record_here", "_law_thing", "_law_e"] ["_law_ask", "_law_record_here", "_law_thing"] (defScope (top 38)) := ⟨rfl, rfl, rfl, by decide +kernel, rfl, by decide +kernel, by decide +kernel⟩
theorem ok_law_told (c : C0 K mg) : OkF P w K mg base 8 "_law_told" ["_law_ask", "_law_record_here", "_law_thing"] F_law_told_k10 := by
  obtain ⟨fdn, F⟩ := c.def_ 20
  refine ⟨fdn, fn_d F sc_law_told fun cdv A outer s H E hr => ?_, F.bindsN (ps := ["_law_ask", "_law_record_here", "_law_thing"]) fun _ _ _ _ _ _ us hl => match us, hl with | [_, _, _], _ => rfl, c.glo 47, F.kp⟩
  have tk : Takes (cxOf (L2.CX P w) P w K mg base ["_law_ask", "_law_record_here", "_law_thing", "_law_e"] "_law_told" (defScope (top 38)) (He.ga K "_law_told") cdv A outer s H E) (fun cls d _ H => E cls d H) := takes_of rfl rfl rfl rfl
  have hp := passes_of (X := cxOf (L2.CX P w) P w K mg base ["_law_ask", "_law_record_here", "_law_thing", "_law_e"] "_law_told" (defScope (top 38)) (He.ga K "_law_told") cdv A outer s H E) rfl
  have hu := hr.u
  exact (sd_one (sd_tryR (i := 3) rfl rfl sc_law_told.nd rfl rfl rfl ⟨rfl, rfl, .inl (c.glo 26)⟩ tk (L2H.roomH_of (hr.mono (by decide))) (tryf_law_refused c) rfl rfl rfl rfl (fun W_ pn_ xe_ tk hp =>
      (sd_cons (sd_if (td_cmp od_lt dI_calm (nomark _) (bv 0) (db pd_int))
      (sd_one (sd_ret (pd_pick (k := 7) (n := 1) (.cons (ok_events c) (by decide) rfl rfl rfl rfl (.cons (ok_bounds c) (by decide) rfl rfl rfl rfl .nil)) tk (hr.mono (by decide)) (by decide) (by decide) (bv 0) (fun _ _ => rfl) (aCons_len aNil_len) (af_cons (dv 1) af_nil))))
      sd_nil)
      (sd_one (sd_ret (pd_if (td_cmp (od_eq hu) cm_eq (nomark _) (bv 0) (db pd_int)) (pd_ok (ok_reading_of c) tk (hr.mono (by decide)) rfl (aCons_len (aCons_len aNil_len)) (af_cons (dv 1) (af_cons (dv 2) af_nil))) (pd_ok (ok_of_letter c) tk (hr.mono (by decide)) rfl (aCons_len (aCons_len aNil_len)) (af_cons (dv 1) (af_cons (dv 2) af_nil))))))))))
theorem sc_law_bounds : FnScope ["_law_record_here", "_law_found", "_law_number", "_law_slow", "_law_fast", "_law_readings", "_law_k", "_law_steps", "_law_one", "_law_other", "_law_least", "_law_most"] ["_law_record_here"] (defScope (top 36)) := ⟨rfl, rfl, rfl, by decide +kernel, rfl, by decide +kernel, by decide +kernel⟩
theorem ok_law_bounds (c : C0 K mg) : OkF P w K mg base 1 "_law_bounds" ["_law_record_here"] F_law_bounds := by
  obtain ⟨fdn, F⟩ := c.def_ 21
  refine ⟨fdn, fn_d F sc_law_bounds fun cdv A outer s H E hr => ?_, F.bindsN (ps := ["_law_record_here"]) fun _ _ _ _ _ _ us hl => match us, hl with | [_], _ => rfl, c.glo 48, F.kp⟩
  have tk : Takes (cxOf (L2.CX P w) P w K mg base ["_law_record_here", "_law_found", "_law_number", "_law_slow", "_law_fast", "_law_readings", "_law_k", "_law_steps", "_law_one", "_law_other", "_law_least", "_law_most"] "_law_bounds" (defScope (top 36)) (He.ga K "_law_bounds") cdv A outer s H E) (fun cls d _ H => E cls d H) := takes_of rfl rfl rfl rfl
  have hp := passes_of (X := cxOf (L2.CX P w) P w K mg base ["_law_record_here", "_law_found", "_law_number", "_law_slow", "_law_fast", "_law_readings", "_law_k", "_law_steps", "_law_one", "_law_other", "_law_least", "_law_most"] "_law_bounds" (defScope (top 36)) (He.ga K "_law_bounds") cdv A outer s H E) rfl
  have hu := hr.u
  exact (sd_cons (sd_own sc_law_bounds.nd rfl (.inl rfl) (pf_lst af_nil))
      (sd_cons (sd_for hp rfl (id_enum rfl (c.free 15) (af_cons (pd_ix (od_ix hu) cm_ix (fun _ _ => rfl) (bv 0) (db pd_int)) af_nil)) (gd_tup rfl (gds_cons (gd_name sc_law_bounds.nd rfl (.inl rfl)) (gds_cons (gd_tup rfl (gds_cons (gd_name sc_law_bounds.nd rfl (.inl rfl)) (gds_cons (gd_name sc_law_bounds.nd rfl (.inl rfl)) (gds_cons (gd_name sc_law_bounds.nd rfl (.inl rfl)) gds_nil)))) gds_nil)))
      (sd_one (sd_for hp rfl (id_rng2 rfl (c.free 16) (aw_cons (db pd_int) (aw_cons (db (pd_callB cd_len cm_len rfl (c.free 4) (by decide +kernel) (aw_cons (bv 5) aw_nil))) aw_nil))) (gd_name sc_law_bounds.nd rfl (.inl rfl))
      (sd_cons (sd_set sc_law_bounds.nd rfl (.inl rfl) (pd_bin od_sub dI_calm (db (pd_ix (od_ix hu) cm_ix (fun _ _ => rfl) (bv 5) (bv 6))) (db (pd_ix (od_ix hu) cm_ix (fun _ _ => rfl) (bv 5) (db (pd_bin od_sub dI_calm (bv 6) (db pd_int)))))))
      (sd_cons (sd_app (pv 1) (pd_tup (af_cons (pd_tup (af_cons (dv 2) (af_cons (pd_bin od_sub dI_calm (bv 6) (db pd_int)) af_nil))) (af_cons (pd_tup (af_cons (dv 2) (af_cons (dv 6) af_nil))) (af_cons (pd_bin od_mul cm_mul (bv 4) (bv 7)) af_nil)))))
      (sd_one (sd_app (pv 1) (pd_tup (af_cons (pd_tup (af_cons (dv 2) (af_cons (dv 6) af_nil))) (af_cons (pd_tup (af_cons (dv 2) (af_cons (pd_bin od_sub dI_calm (bv 6) (db pd_int)) af_nil))) (af_cons (pd_bin od_sub dI_calm (db pd_int) (db (pd_bin od_mul cm_mul (bv 3) (bv 7)))) af_nil)))))))))))
      (sd_cons (sd_for hp rfl (id_seq (pd_ix (od_ix hu) cm_ix (fun _ _ => rfl) (bv 0) (db pd_int))) (gd_tup rfl (gds_cons (gd_name sc_law_bounds.nd rfl (.inl rfl)) (gds_cons (gd_name sc_law_bounds.nd rfl (.inl rfl)) (gds_cons (gd_name sc_law_bounds.nd rfl (.inl rfl)) (gds_cons (gd_name sc_law_bounds.nd rfl (.inl rfl)) gds_nil)))))
      (sd_cons (sd_app (pv 1) (pd_tup (af_cons (dv 9) (af_cons (dv 8) (af_cons (pd_bin od_sub dI_calm (db pd_int) (bv 10)) af_nil)))))
      (sd_one (sd_if (td_notN (bv 11))
      (sd_one (sd_app (pv 1) (pd_tup (af_cons (dv 8) (af_cons (dv 9) (af_cons (dv 11) af_nil))))))
      sd_nil))))
      (sd_one (sd_frz 1 (sd_ret (dv 1)))))))
theorem sc_law : FnScope ["_law_script", "_law_record_here", "_law_row", "_law_ahead", "_law_number", "_law_letter_here", "_law_many", "_law_odd", "_law_bad", "_law_event", "_law_clock_here", "_law_place", "_law_ask"] ["_law_script"] (defScope (top 39)) := ⟨rfl, rfl, rfl, by decide +kernel, rfl, by decide +kernel, by decide +kernel⟩
theorem ok_law (c : C0 K mg) {fdn : FuncData} (F : FunD K dd_law.name dd_law.qual dd_law.params dd_law.body dd_law.scope (dd_law.dvs K) (dd_law.kws K) (He.fAd K dd_law.at_) fdn) : FnD P w K mg base 9 (He.ga K "law") fdn ["_law_script"] F_law_k10 := by
  refine fn_d F sc_law fun cdv A outer s H E hr => ?_
  have tk : Takes (cxOf (L2.CX P w) P w K mg base ["_law_script", "_law_record_here", "_law_row", "_law_ahead", "_law_number", "_law_letter_here", "_law_many", "_law_odd", "_law_bad", "_law_event", "_law_clock_here", "_law_place", "_law_ask"] "law" (defScope (top 39)) (He.ga K "law") cdv A outer s H E) (fun cls d _ H => E cls d H) := takes_of rfl rfl rfl rfl
  have hp := passes_of (X := cxOf (L2.CX P w) P w K mg base ["_law_script", "_law_record_here", "_law_row", "_law_ahead", "_law_number", "_law_letter_here", "_law_many", "_law_odd", "_law_bad", "_law_event", "_law_clock_here", "_law_place", "_law_ask"] "law" (defScope (top 39)) (He.ga K "law") cdv A outer s H E) rfl
  have hu := hr.u
  exact (sd_cons (sd_set sc_law.nd rfl (.inr rfl) (pd_ok (ok_law_record c) tk (hr.mono (by decide)) rfl (aCons_len (aCons_len (aCons_len aNil_len))) (af_cons (dv 0) (af_cons pd_int (af_cons pd_int af_nil)))))
      (sd_cons (sd_set sc_law.nd rfl (.inl rfl) (pd_ok (ok_law_events c) tk (hr.mono (by decide)) rfl (aCons_len aNil_len) (af_cons (pd_ix (od_ix hu) cm_ix (fun _ _ => rfl) (bv 1) (db pd_int)) af_nil)))
      (sd_cons (sd_if (PW.pt (wd_or (td_cmp (od_ne hu) cm_ne (nomark _) (db (pd_ok (ok_law_told c) tk (hr.mono (by decide)) rfl (aCons_len (aCons_len (aCons_len aNil_len))) (af_cons pd_int (af_cons (dv 1) (af_cons pd_non af_nil))))) (bv 2)) (wd_or1 (td_cmp (od_ne hu) cm_ne (nomark _) (db (pd_ok (ok_law_told c) tk (hr.mono (by decide)) rfl (aCons_len (aCons_len (aCons_len aNil_len))) (af_cons pd_int (af_cons (dv 1) (af_cons pd_non af_nil))))) (db (pd_ok (ok_law_bounds c) tk (hr.mono (by decide)) rfl (aCons_len aNil_len) (af_cons (dv 1) af_nil)))))))
      (sd_one (sd_ret pd_bl))
      sd_nil)
      (sd_cons (sd_if (td_cmp (od_ne hu) cm_ne (nomark _) (fb (pf_lc (own := [("_law_event", 9)]) rfl sc_law.nd (id_seq (dv 2)) (blkOk_by (own := [("_law_event", 9)]) (by show blkC ["_law_script", "_law_record_here", "_law_row", "_law_ahead", "_law_number", "_law_letter_here", "_law_many", "_law_odd", "_law_bad", "_law_event", "_law_clock_here", "_law_place", "_law_ask"] (defScope (top 39)) _ _ = true; decide +kernel)) (fun _ _ _ _ _ => (gd_name sc_law.nd rfl (.inl rfl))) (fun _ _ _ _ _ => tds_nil) (fun _ _ _ _ _ => (pd_ok (ok_law_told c) takes0 (hr.mono (by decide)) rfl (aCons_len (aCons_len (aCons_len aNil_len))) (af_cons pd_int (af_cons (dv 1) (af_cons (dv 9) af_nil))))))) (fb (pf_lc (own := [("_law_clock_here", 10), ("_law_place", 11)]) rfl sc_law.nd (id_seq (dv 2)) (blkOk_by (own := [("_law_clock_here", 10), ("_law_place", 11)]) (by show blkC ["_law_script", "_law_record_here", "_law_row", "_law_ahead", "_law_number", "_law_letter_here", "_law_many", "_law_odd", "_law_bad", "_law_event", "_law_clock_here", "_law_place", "_law_ask"] (defScope (top 39)) _ _ = true; decide +kernel)) (fun _ _ _ _ _ => (gd_tup rfl (gds_cons (gd_name sc_law.nd rfl (.inl rfl)) (gds_cons (gd_name sc_law.nd rfl (.inl rfl)) gds_nil)))) (fun _ _ _ _ _ => tds_nil) (fun _ _ _ _ _ => (pd_ix (od_ix hu) cm_ix (fun _ _ => rfl) (db (pd_ix (od_ix hu) cm_ix (fun _ _ => rfl) (db (pd_ix (od_ix hu) cm_ix (fun _ _ => rfl) (db (pd_ix (od_ix hu) cm_ix (fun _ _ => rfl) (bv 1) (db pd_int))) (bv 10))) (db pd_int))) (bv 11))))))
      (sd_one (sd_ret pd_bl))
      sd_nil)
      (sd_cons (sd_set sc_law.nd rfl (.inl rfl) (pd_callB cd_len cm_len rfl (c.free 4) (by decide +kernel) (aw_cons (db (pd_ok (ok_law_bounds c) tk (hr.mono (by decide)) rfl (aCons_len aNil_len) (af_cons (pd_tup (af_cons (pd_ix (od_ix hu) cm_ix (fun _ _ => rfl) (bv 1) (db pd_int)) (af_cons (pd_tup af_nil) af_nil))) af_nil))) aw_nil)))
      (sd_cons (sd_for hp rfl (id_enum rfl (c.free 15) (af_cons (pd_ix (od_ix hu) cm_ix (fun _ _ => rfl) (bv 1) (db pd_int)) af_nil)) (gd_tup rfl (gds_cons (gd_name sc_law.nd rfl (.inl rfl)) (gds_cons (gd_name sc_law.nd rfl (.inl rfl)) gds_nil)))
      (sd_cons (sd_set sc_law.nd rfl (.inl rfl) (pd_bin od_add cm_add (db pd_int) (db (pd_callTy cd_int cm_int rfl (c.free 1) (by decide +kernel) (aw_cons (db (pd_notN (db (pd_ix (od_ix hu) cm_ix (fun _ _ => rfl) (bv 5) (db pd_int))))) aw_nil)))))
      (sd_cons (sd_if (td_cmp (od_ne hu) cm_ne (nomark _) (db (pd_ok (ok_law_told c) tk (hr.mono (by decide)) rfl (aCons_len (aCons_len (aCons_len aNil_len))) (af_cons pd_int (af_cons (dv 1) (af_cons (dv 4) af_nil))))) (fb (pf_listRg2 rfl rfl (c.free 21) rfl (c.free 16) (bv 3) (db (pd_bin od_add cm_add (bv 3) (bv 6))))))
      (sd_one (sd_ret pd_bl))
      sd_nil)
      (sd_one (sd_set sc_law.nd rfl (.inl rfl) (pd_bin od_add cm_add (bv 3) (bv 6)))))))
      (sd_cons (sd_set sc_law.nd rfl (.inr rfl) (pd_ix (od_ix hu) cm_ix (fun _ _ => rfl) (fb (pf_lst (af_cons pd_non (af_cons (pd_tup (af_cons pd_int af_nil)) (af_cons (pd_tup (af_cons pd_int (af_cons pd_int af_nil))) (af_cons (pd_tup (af_cons pd_int (af_cons pd_int af_nil))) (af_cons (pd_tup (af_cons pd_int (af_cons (pd_neg (db pd_int)) af_nil))) (af_cons (fd (pf_lst (af_cons pd_int (af_cons pd_int af_nil)))) (af_cons (pd_tup (af_cons pd_bl (af_cons pd_int af_nil))) (af_cons pd_str (af_cons (pd_tup (af_cons pd_int (af_cons pd_int (af_cons pd_int af_nil)))) af_nil))))))))))) (db (pd_ok (ok_law_drawn c) tk (hr.mono (by decide)) rfl (aCons_len (aCons_len (aCons_len aNil_len))) (af_cons (dv 0) (af_cons pd_int (af_cons pd_int af_nil)))))))
      (sd_cons (sd_if (td_cmp (od_ne hu) cm_ne (nomark _) (db (pd_ok (ok_law_told c) tk (hr.mono (by decide)) rfl (aCons_len (aCons_len (aCons_len aNil_len))) (af_cons pd_int (af_cons (dv 1) (af_cons (dv 7) af_nil))))) (db (pd_tup (af_cons pd_str (af_cons pd_int af_nil)))))
      (sd_one (sd_ret pd_bl))
      sd_nil)
      (sd_cons (sd_set sc_law.nd rfl (.inr rfl) (pd_ix (od_ix hu) cm_ix (fun _ _ => rfl) (fb (pf_lst (af_cons (pd_neg (db pd_int)) (af_cons (pd_callB cd_len cm_len rfl (c.free 4) (by decide +kernel) (aw_cons (db (pd_ix (od_ix hu) cm_ix (fun _ _ => rfl) (bv 1) (db pd_int))) aw_nil)) (af_cons pd_bl (af_cons pd_non (af_cons pd_str af_nil))))))) (db (pd_ok (ok_law_drawn c) tk (hr.mono (by decide)) rfl (aCons_len (aCons_len (aCons_len aNil_len))) (af_cons (dv 0) (af_cons pd_int (af_cons pd_int af_nil)))))))
      (sd_cons (sd_if (td_cmp (od_ne hu) cm_ne (nomark _) (db (pd_ok (ok_law_told c) tk (hr.mono (by decide)) rfl (aCons_len (aCons_len (aCons_len aNil_len))) (af_cons pd_int (af_cons (dv 1) (af_cons (dv 7) af_nil))))) (db (pd_tup (af_cons pd_str (af_cons pd_int af_nil)))))
      (sd_one (sd_ret pd_bl))
      sd_nil)
      (sd_cons (sd_set sc_law.nd rfl (.inr rfl) (pd_ix (od_ix hu) cm_ix (fun _ _ => rfl) (fb (pf_lst (af_cons pd_non (af_cons (pd_tup af_nil) (af_cons (pd_sl sl_any cm_sl (bv 1) pod_none (pod_some pd_int)) (af_cons (pd_rev (bv 1)) (af_cons (pd_bin od_add cm_add (bv 1) (db (pd_tup (af_cons (pd_tup af_nil) af_nil)))) af_nil))))))) (db (pd_ok (ok_law_drawn c) tk (hr.mono (by decide)) rfl (aCons_len (aCons_len (aCons_len aNil_len))) (af_cons (dv 0) (af_cons pd_int (af_cons pd_int af_nil)))))))
      (sd_one (sd_ret (pd_cmp (od_eq hu) cm_eq (nomark _) (fb (pf_lc (own := [("_law_ask", 12)]) rfl sc_law.nd (id_rng1 rfl (c.free 16) (aw_cons (db pd_int) aw_nil)) (blkOk_by (own := [("_law_ask", 12)]) (by show blkC ["_law_script", "_law_record_here", "_law_row", "_law_ahead", "_law_number", "_law_letter_here", "_law_many", "_law_odd", "_law_bad", "_law_event", "_law_clock_here", "_law_place", "_law_ask"] (defScope (top 39)) _ _ = true; decide +kernel)) (fun _ _ _ _ _ => (gd_name sc_law.nd rfl (.inl rfl))) (fun _ _ _ _ _ => tds_nil) (fun _ _ _ _ _ => (pd_ok (ok_law_told c) takes0 (hr.mono (by decide)) rfl (aCons_len (aCons_len (aCons_len aNil_len))) (af_cons (dv 12) (af_cons (dv 8) (af_cons (dv 7) af_nil))))))) (db (pd_bin od_mul cm_mul (fb (pf_lst (af_cons (pd_tup (af_cons pd_str (af_cons pd_int af_nil))) af_nil))) (db pd_int)))))))))))))))))
end
end Wk
set_option Elab.async false
set_option linter.all false
set_option maxRecDepth 100000
set_option maxHeartbeats 0

namespace Wk
open PySem L2 Evl Fc PySem.Spec PyProof.Rows
def loose : List Str := (["ClockError", "NoRecord", "NoEvent", "NoNumber", "NoWorld", "Barred", "Nothing", "MOST_CLOCKS", "MOST_READINGS", "MOST_READING", "MOST_RATE", "MOST_LETTERS", "MOST_TIME", "is_number", "is_clock", "is_event", "is_letter", "is_record", "need_record", "events", "need_event", "reading_of", "clock_bounds", "letter_bounds", "bounds", "of_letter", "_law_cell", "_law_drawn", "_law_clock", "_law_letter"] : List Str) ++ (["_law_events", "_law_record", "_law_bounds", "_law_refused", "_law_told"] : List Str)
abbrev Rw : PySem.W.OpenRow := PySem.W.OpenLaw.row PySem.Challenge.rw_farclocks_k10_bounds
abbrev hk : PySem.W.Hook := hookX 5 fa fn fx
def ob (s : PySem.W.SharedT) : He.AlD × Bool := obsXG 5 fa fn fx (HandSHeadRun.getT s)
theorem run (w : World) : HandSHeadRun.RunEq Rw (PySem.W.view Rw.prog [39]) hk ob 6000 loose w := by
  intro os
  kernel_rfl
end Wk
set_option Elab.async false
set_option linter.all false
set_option maxRecDepth 100000
set_option maxHeartbeats 2000000
namespace Fc
open PySem L2 Evl PySem.Spec PyProof.Rows
/-! ### the script and what is drawn of it -/
abbrev scD (ns : List Int) : D := .dict [(.none, .list (ns.map PyData.int))]
theorem shaped_ints (ns : List Int) : SeqAt.shaped (.list (ns.map PyData.int)) = true := by
  have h1 : ∀ l : List Int, PyData.canLayAll0 (l.map PyData.int) = true ∧ PyData.depthAll (l.map PyData.int) = 0 := by
    intro l
    induction l with
    | nil => exact ⟨rfl, rfl⟩
    | cons a l ih => simp [PyData.canLayAll0, PyData.depthAll, PyData.canLay0, PyData.depth, ih.1, ih.2]
  simp [SeqAt.shaped, PyData.canLay0, PyData.depth, h1 ns]
theorem atI_lt {α : Type} {xs : List α} {i : Int} (h0 : 0 ≤ i) (h1 : i < xs.length) : ∃ (h : i.toNat < xs.length), atI xs i = some xs[i.toNat] := by
  have h : i.toNat < xs.length := by omega
  refine ⟨h, ?_⟩
  have e : ((i.toNat : Nat) : Int) = i := by omega
  have := atI_nat (List.getElem?_eq_getElem h)
  rw [e] at this
  exact this
theorem law_cell_ok (ns : List Int) (hl : ns.length ≤ 63) (k : Int) : ∃ c : Int, F_law_cell [scD ns, .int k] = .ok (.int c) := by
  unfold F_law_cell M_law_cell
  simp only [runF_2, Nat.sub_self, List.replicate_zero]
  cases ns with
  | nil =>
    refine ⟨7 * k, ?_⟩
    simp [dEq, shaped_ints, PyData.eqv, PyData.eqvAll, SeqAt.shaped, PyData.canLay0, PyData.canLayAll0, PyData.depth, PyData.depthAll, dMul_i]
  | cons n ns =>
    have hl' : (List.map PyData.int (n :: ns)).length = ns.length + 1 := by simp
    have hpos : (0 : Int) < ((List.map PyData.int (n :: ns)).length : Nat) := by omega
    obtain ⟨h1, h2⟩ := atI_lt (xs := List.map PyData.int (n :: ns)) (Int.emod_nonneg k (by omega)) (Int.emod_lt_of_pos k hpos)
    have hn : dEq (scD (n :: ns)) (.list []) = .ok (.bool false) := by
      have := shaped_ints (n :: ns)
      unfold dEq scD
      rw [unS_scr, this]
      rfl
    have hb : ((List.map PyData.int (n :: ns)).length : Int) < 1073741824 := by
      have : (n :: ns).length ≤ 63 := hl
      rw [List.length_map]
      omega
    obtain ⟨v, hv⟩ : ∃ v : Int, atI (List.map PyData.int (n :: ns)) (k % ((List.map PyData.int (n :: ns)).length : Int)) = some (.int v) := ⟨_, by rw [h2, List.getElem_map]⟩
    refine ⟨v + 6553 * (k / ((List.map PyData.int (n :: ns)).length : Int)), ?_⟩
    have hm := dMul_i 6553 (k / ((List.map PyData.int (n :: ns)).length : Int)) (by simp)
    have hd := dMod_i k _ hpos
    have hf := dFdiv_i k _ ⟨hpos, hb⟩
    unfold scD at hn ⊢
    clear hl hl' hb h1 h2 hpos
    generalize List.map PyData.int (n :: ns) = L at *
    simp [hn, hd, hf, hm, hv]
theorem law_drawn_ok (ns : List Int) (hl : ns.length ≤ 63) (k m : Int) (hm : 0 < m) : ∃ r : Int, 0 ≤ r ∧ r < m ∧ F_law_drawn [scD ns, .int k, .int m] = .ok (.int r) := by
  obtain ⟨c, hc⟩ := law_cell_ok ns hl k
  unfold F_law_drawn M_law_drawn
  simp only [runF_3, List.reduceReplicate, Nat.reduceSub]
  have q1 := Int.emod_nonneg ((c % 2147483563) * 69069 + 104723 * (k + 1)) (show (2147483563 : Int) ≠ 0 by decide)
  have q2 := Int.emod_lt_of_pos ((c % 2147483563) * 69069 + 104723 * (k + 1)) (show (0 : Int) < 2147483563 by decide)
  generalize hx : ((c % 2147483563) * 69069 + 104723 * (k + 1)) % 2147483563 = x at q1 q2
  have q3 := Int.emod_nonneg (x * x + x / 3) (show (2147483399 : Int) ≠ 0 by decide)
  have q4 := Int.emod_lt_of_pos (x * x + x / 3) (show (0 : Int) < 2147483399 by decide)
  generalize hy : (x * x + x / 3) % 2147483399 = y at q3 q4
  refine ⟨((y * y + y / 7) % 2147483647 / 11) % m, Int.emod_nonneg _ (by omega), Int.emod_lt_of_pos _ hm, ?_⟩
  have hxx : dMul (.int x) (.int x) = .ok (.int (x * x)) := dMul_i _ _ (by simp; omega)
  have hyy : dMul (.int y) (.int y) = .ok (.int (y * y)) := dMul_i _ _ (by simp; omega)
  simp [hc, dMod_i, dMul_i, dFdiv_i, hx, hxx, hy, hyy, dMod_i _ _ hm]
end Fc
set_option Elab.async false
set_option linter.all false
set_option maxRecDepth 100000
set_option maxHeartbeats 2000000
namespace Fc
open PySem L2 Evl PySem.Spec PyProof.Rows
/-! ### data of a bounded shape -/
def leafB (w : Nat) : D → Bool
  | .none => true
  | .bool _ => true
  | .int _ => true
  | .str x => PyData.strOk x && decide (x.length ≤ w)
  | _ => false
def gd (w : Nat) : Nat → D → Bool
  | 0, d => leafB w d
  | n + 1, d => match d with
    | .list xs => decide (xs.length ≤ w) && xs.all (gd w n)
    | .tuple xs => decide (xs.length ≤ w) && xs.all (gd w n)
    | d => leafB w d
theorem gd_lay {w : Nat} : ∀ (n : Nat) (d : D), gd w n d = true → d.canLay0 = true ∧ d.depth ≤ n
  | 0, d, h => by
    cases d <;> simp_all [gd, leafB, PyData.canLay0, PyData.depth]
  | n + 1, d, h => by
    have all : ∀ xs : List D, xs.all (gd w n) = true → PyData.canLayAll0 xs = true ∧ PyData.depthAll xs ≤ n := by
      intro xs
      induction xs with
      | nil => intro _; exact ⟨rfl, Nat.zero_le _⟩
      | cons x xs ih =>
        intro h
        rw [List.all_cons, Bool.and_eq_true] at h
        obtain ⟨a, b⟩ := gd_lay n x h.1
        obtain ⟨c, e⟩ := ih h.2
        simp only [PyData.canLayAll0, PyData.depthAll, a, c, Bool.and_self, true_and]
        exact Nat.max_le.mpr ⟨b, e⟩
    cases d with
    | list xs =>
      simp only [gd, Bool.and_eq_true] at h
      obtain ⟨a, b⟩ := all xs h.2
      simp only [PyData.canLay0, PyData.depth, a, true_and]
      omega
    | tuple xs =>
      simp only [gd, Bool.and_eq_true] at h
      obtain ⟨a, b⟩ := all xs h.2
      simp only [PyData.canLay0, PyData.depth, a, true_and]
      omega
    | dict es => simp [gd, leafB] at h
    | str x => simp_all [gd, leafB, PyData.canLay0, PyData.depth]
    | _ => simp [PyData.canLay0, PyData.depth]
theorem gd_shaped {w n : Nat} {d : D} (h : gd w n d = true) (hn : n ≤ 64) : SeqAt.shaped d = true := by
  obtain ⟨a, b⟩ := gd_lay n d h
  unfold SeqAt.shaped
  rw [a, decide_eq_true (Nat.le_trans b hn)] <;> rfl
theorem gd_dict {w n : Nat} {es : List (D × D)} (h : gd w n (.dict es) = true) : False := by
  cases n <;> simp [gd, leafB] at h
theorem gd_kids {w n : Nat} {xs : List D} (h : gd w n (.tuple xs) = true) : ∃ m, n = m + 1 ∧ xs.length ≤ w ∧ ∀ x ∈ xs, gd w m x = true := by
  cases n with
  | zero => simp [gd, leafB] at h
  | succ m =>
    simp only [gd, Bool.and_eq_true, decide_eq_true_eq, List.all_eq_true] at h
    exact ⟨m, rfl, h.1, h.2⟩
theorem gd_kidsL {w n : Nat} {xs : List D} (h : gd w n (.list xs) = true) : ∃ m, n = m + 1 ∧ xs.length ≤ w ∧ ∀ x ∈ xs, gd w m x = true := by
  cases n with
  | zero => simp [gd, leafB] at h
  | succ m =>
    simp only [gd, Bool.and_eq_true, decide_eq_true_eq, List.all_eq_true] at h
    exact ⟨m, rfl, h.1, h.2⟩
theorem gd_leaf {w v : Nat} (hv : w ≤ v) {d : D} (h : leafB w d = true) : leafB v d = true := by
  cases d <;> simp_all [leafB]
  exact Nat.le_trans h.2 hv
theorem gd_mono {w v : Nat} (hv : w ≤ v) : ∀ {n m : Nat}, n ≤ m → ∀ {d : D}, gd w n d = true → gd v m d = true
  | 0, 0, _, d, h => gd_leaf hv h
  | 0, m + 1, _, d, h => by
    have h : leafB w d = true := h
    cases d with
    | list xs => simp [leafB] at h
    | tuple xs => simp [leafB] at h
    | _ => exact gd_leaf hv h
  | n + 1, 0, e, d, h => absurd e (by omega)
  | n + 1, m + 1, e, d, h => by
    cases d with
    | list xs =>
      simp only [gd, Bool.and_eq_true, decide_eq_true_eq, List.all_eq_true] at h ⊢
      exact ⟨Nat.le_trans h.1 hv, fun x hx => gd_mono hv (by omega) (h.2 x hx)⟩
    | tuple xs =>
      simp only [gd, Bool.and_eq_true, decide_eq_true_eq, List.all_eq_true] at h ⊢
      exact ⟨Nat.le_trans h.1 hv, fun x hx => gd_mono hv (by omega) (h.2 x hx)⟩
    | dict es => exact (gd_dict h).elim
    | none => rfl
    | bool b => rfl
    | int b => rfl
    | str x => exact gd_leaf (d := .str x) hv h
theorem gdTup {w n : Nat} {xs : List D} (hl : xs.length ≤ w) (h : ∀ x ∈ xs, gd w n x = true) : gd w (n + 1) (.tuple xs) = true := by
  simp only [gd, Bool.and_eq_true, decide_eq_true_eq, List.all_eq_true]
  exact ⟨hl, h⟩
theorem gdLst {w n : Nat} {xs : List D} (hl : xs.length ≤ w) (h : ∀ x ∈ xs, gd w n x = true) : gd w (n + 1) (.list xs) = true := by
  simp only [gd, Bool.and_eq_true, decide_eq_true_eq, List.all_eq_true]
  exact ⟨hl, h⟩
/-! ### isinstance -/
@[simp] theorem isI_n (T : String) : dIsI T .none = .ok (.bool (isT T .none)) := rfl
@[simp] theorem isI_b (T : String) (b : Bool) : dIsI T (.bool b) = .ok (.bool (isT T (.bool b))) := rfl
@[simp] theorem isI_i (T : String) (b : Int) : dIsI T (.int b) = .ok (.bool (isT T (.int b))) := rfl
@[simp] theorem isI_s (T : String) (b : Str) : dIsI T (.str b) = .ok (.bool (isT T (.str b))) := rfl
@[simp] theorem isI_l (T : String) (b : List D) : dIsI T (.list b) = .ok (.bool (isT T (.list b))) := rfl
@[simp] theorem isI_t (T : String) (b : List D) : dIsI T (.tuple b) = .ok (.bool (isT T (.tuple b))) := rfl
@[simp] theorem isT_n (T : String) : isT T .none = ("NoneType" == T || (T == "int" && "NoneType" == "bool")) := rfl
@[simp] theorem isT_b (T : String) (b : Bool) : isT T (.bool b) = ("bool" == T || (T == "int" && "bool" == "bool")) := rfl
@[simp] theorem isT_i (T : String) (b : Int) : isT T (.int b) = ("int" == T || (T == "int" && "int" == "bool")) := rfl
@[simp] theorem isT_s (T : String) (b : Str) : isT T (.str b) = ("str" == T || (T == "int" && "str" == "bool")) := rfl
@[simp] theorem isT_l (T : String) (b : List D) : isT T (.list b) = ("list" == T || (T == "int" && "list" == "bool")) := rfl
@[simp] theorem isT_t (T : String) (b : List D) : isT T (.tuple b) = ("tuple" == T || (T == "int" && "tuple" == "bool")) := rfl
/-! ### places of short lists -/
@[simp] theorem atI_0 {α : Type} (a : α) (r : List α) : atI (a :: r) 0 = some a := by have := atI_nat (xs := a :: r) (j := 0) (v := a) rfl; simpa using this
@[simp] theorem atI_1 {α : Type} (a b : α) (r : List α) : atI (a :: b :: r) 1 = some b := by have := atI_nat (xs := a :: b :: r) (j := 1) (v := b) rfl; simpa using this
@[simp] theorem atI_2 {α : Type} (a b c : α) (r : List α) : atI (a :: b :: c :: r) 2 = some c := by have := atI_nat (xs := a :: b :: c :: r) (j := 2) (v := c) rfl; simpa using this
@[simp] theorem atI_3 {α : Type} (a b c d : α) (r : List α) : atI (a :: b :: c :: d :: r) 3 = some d := by have := atI_nat (xs := a :: b :: c :: d :: r) (j := 3) (v := d) rfl; simpa using this
theorem boolsOf_mapP {α : Type} (l : List α) (p : α → Bool) : boolsOf (l.map fun x => .bool (p x)) = some (l.map p) := by
  induction l with
  | nil => rfl
  | cons a l ih => simp [boolsOf, ih]
@[simp] theorem dAll_map {α : Type} (l : List α) (p : α → Bool) : dAll [.list (l.map fun x => .bool (p x))] = .ok (.bool (l.all p)) := by
  have e : (l.map p).all id = l.all p := by
    induction l with
    | nil => rfl
    | cons a l ih => simp [List.all_map]
  unfold dAll
  simp only [boolsOf_mapP, e]
theorem fm_some {α β : Type} (l : List α) (f : α → β) : l.filterMap (fun x => some (f x)) = l.map f := by
  induction l with
  | nil => rfl
  | cons a l ih => simp
theorem fm_if {α : Type} (l : List α) (p : α → Bool) : l.filterMap (fun x => if p x = true then some x else none) = l.filter p := by
  induction l with
  | nil => rfl
  | cons a l ih => by_cases h : p a = true <;> simp [h, ih]
/-! ### numbers -/
def numB (lo hi : Int) : D → Bool
  | .int i => decide (lo ≤ i) && decide (i ≤ hi)
  | _ => false
@[simp] theorem numB_i (lo hi i : Int) : numB lo hi (.int i) = (decide (lo ≤ i) && decide (i ≤ hi)) := rfl
theorem numB_true {lo hi : Int} {d : D} (h : numB lo hi d = true) : ∃ i, d = .int i ∧ lo ≤ i ∧ i ≤ hi := by
  cases d with
  | int i =>
    simp only [numB, Bool.and_eq_true, decide_eq_true_eq] at h
    exact ⟨i, rfl, h.1, h.2⟩
  | _ => simp [numB] at h
theorem is_number_ok {w n : Nat} {x : D} (h : gd w n x = true) (lo hi : Int) : F_is_number [x, .int lo, .int hi] = .ok (.bool (numB lo hi x)) := by
  cases x with
  | dict es => exact (gd_dict h).elim
  | int i =>
    by_cases h1 : lo ≤ i <;> simp [F_is_number, M_is_number, runF_3, numB, h1]
  | _ => simp [F_is_number, M_is_number, runF_3, numB]
theorem is_number_i (i lo hi : Int) : F_is_number [.int i, .int lo, .int hi] = .ok (.bool (numB lo hi (.int i))) := is_number_ok (w := 0) (n := 0) rfl lo hi
/-! ### clocks -/
structure Clk where
  slow : Int
  fast : Int
  rs : List Int
def Clk.d (c : Clk) : D := .tuple [.int c.slow, .int c.fast, .tuple (c.rs.map PyData.int)]
structure Clk.Ok (c : Clk) : Prop where
  s1 : 1 ≤ c.slow
  sf : c.slow ≤ c.fast
  f9 : c.fast ≤ 9
  l1 : 1 ≤ c.rs.length
  l4 : c.rs.length ≤ 4
  r0 : ∀ r ∈ c.rs, 0 ≤ r ∧ r ≤ 99
  inc : c.rs.Pairwise (· < ·)
/-- rising -/
def incB : List Int → Bool
  | a :: b :: r => decide (a < b) && incB (b :: r)
  | _ => true
theorem incB_iff : ∀ l : List Int, incB l = true ↔ l.Pairwise (· < ·)
  | [] => by simp [incB]
  | [a] => by simp [incB]
  | a :: b :: r => by
    have ih := incB_iff (b :: r)
    simp only [incB, Bool.and_eq_true, decide_eq_true_eq, ih]
    constructor
    · rintro ⟨h, p⟩
      refine List.pairwise_cons.mpr ⟨fun x hx => ?_, p⟩
      rcases List.mem_cons.mp hx with z | z
      · omega
      · have := (List.pairwise_cons.mp p).1 x z; omega
    · intro p
      obtain ⟨h, p⟩ := List.pairwise_cons.mp p
      exact ⟨h b (by simp), p⟩
def clkB : D → Bool
  | .tuple [.int a, b, .tuple rs] => numB 1 9 (.int a) && numB a 9 b && decide (1 ≤ rs.length) && decide (rs.length ≤ 4) && rs.all (numB 0 99) && (match intsOf rs with | some ns => incB ns | none => false)
  | _ => false
theorem all_numB {lo hi : Int} {rs : List D} (h : rs.all (numB lo hi) = true) : ∃ ns : List Int, rs = ns.map PyData.int ∧ ∀ r ∈ ns, lo ≤ r ∧ r ≤ hi := by
  induction rs with
  | nil => exact ⟨[], rfl, by simp⟩
  | cons a rs ih =>
    rw [List.all_cons, Bool.and_eq_true] at h
    obtain ⟨ns, rfl, h2⟩ := ih h.2
    obtain ⟨i, rfl, h3⟩ := numB_true h.1
    exact ⟨i :: ns, rfl, fun r hr => by
      rcases List.mem_cons.mp hr with z | z
      · rw [z]; exact h3
      · exact h2 r z⟩
theorem numB_all {lo hi : Int} {ns : List Int} (h : ∀ r ∈ ns, lo ≤ r ∧ r ≤ hi) : (ns.map PyData.int).all (numB lo hi) = true := by
  rw [List.all_map, List.all_eq_true]
  intro x hx
  have := h x hx
  simp [numB, this]
theorem clkB_iff (x : D) : clkB x = true ↔ ∃ c : Clk, c.Ok ∧ x = c.d := by
  constructor
  · intro h
    unfold clkB at h
    split at h
    · rename_i a b rs
      simp only [Bool.and_eq_true, decide_eq_true_eq, numB_i] at h
      obtain ⟨⟨⟨⟨⟨h1, h2⟩, h3⟩, h4⟩, h5⟩, h6⟩ := h
      obtain ⟨i, rfl, h7, h8⟩ := numB_true h2
      obtain ⟨ns, rfl, h9⟩ := all_numB h5
      rw [List.length_map] at h3 h4
      simp only [intsOf_map] at h6
      exact ⟨⟨a, i, ns⟩, ⟨h1.1, h7, h8, h3, h4, h9, (incB_iff _).mp h6⟩, rfl⟩
    · cases h
  · rintro ⟨c, o, rfl⟩
    have e := (incB_iff c.rs).mpr o.inc
    have e2 := numB_all o.r0
    have h1 := o.s1
    have h2 := o.sf
    have h3 := o.f9
    have h4 := o.l1
    have h5 := o.l4
    have h6 : c.slow ≤ 9 := by omega
    simp [clkB, Clk.d, e, e2, h1, h2, h3, h4, h5, h6]
theorem zip_inc : ∀ (ns : List Int), ((zipD (ns.map PyData.int) ((ns.map PyData.int).drop 1)).all fun p => match p with | .tuple [.int a, .int b] => decide (a < b) | _ => false) = incB ns
  | [] => rfl
  | [a] => rfl
  | a :: b :: r => by
    have ih := zip_inc (b :: r)
    simp only [List.map_cons, List.drop_succ_cons, List.drop_zero] at ih ⊢
    simp only [zipD, List.all_cons, ih, incB]
/-- all([p(x) for x in xs]) -/
theorem all_lc {it : DI} {g : DG} {t m : DE} {vs : List Nat} {ρ : En} {ds : List D} {p : D → Bool} (hi : it ρ = .ok ds) (h : ∀ d ∈ ds, lcStep g t m vs ρ d = some (some (.bool (p d)))) (hl : ds.length ≤ 100000) : ∃ L, eLc it g t m vs ρ = .ok (.list L) ∧ dAll [.list L] = .ok (.bool (ds.all p)) :=
  ⟨_, eLc_map (f := fun d => some (.bool (p d))) hi h hl, by rw [fm_some]; exact dAll_map ds p⟩
theorem C_is_clock_1_ok {w n : Nat} {rs : List D} (h : ∀ x ∈ rs, gd w n x = true) (hl : rs.length ≤ 4) (s0 s2 s3 : Slot) : ∃ L, C_is_clock_1 [s0, .fz (.tuple rs), s2, s3] = .ok (.list L) ∧ dAll [.list L] = .ok (.bool (rs.all (numB 0 99))) := by
  refine all_lc (by simp) (fun x hx => ?_) (by omega)
  rw [lcStep_eq]
  simp [wipeE]
  rw [lcK_map (b := true) rfl fun _ => by simp; exact is_number_ok (h x hx) 0 99]
  rfl
end Fc
set_option Elab.async false
set_option linter.all false
set_option maxRecDepth 100000
set_option maxHeartbeats 2000000
namespace Fc
open PySem L2 Evl PySem.Spec PyProof.Rows
@[simp] theorem gTup2 (i j : Nat) (a b : D) (ρ : En) : gTupD 2 (gConsD (gN i) (gConsD (gN j) gNilD)) (.tuple [a, b]) ρ = some ((ρ.set i (.fz a)).set j (.fz b)) := rfl
theorem cutL_1 {α : Type} (xs : List α) : cutL xs (some 1) none = xs.drop 1 := by
  unfold cutL
  rw [HT.sIx_none]
  have e : HT.sIx xs.length 0 (some 1) = min 1 xs.length := HT.sIx_nat xs.length 0 1
  rw [e]
  cases xs with
  | nil => rfl
  | cons a l =>
    have : min 1 (a :: l).length = 1 := by simp
    rw [this]
    simp
theorem zipD_mem : ∀ {xs ys : List D} {d : D}, d ∈ zipD xs ys → ∃ x y, d = .tuple [x, y] ∧ x ∈ xs ∧ y ∈ ys
  | [], _, _, h => by simp [zipD] at h
  | _ :: _, [], _, h => by simp [zipD] at h
  | x :: xs, y :: ys, d, h => by
    rcases List.mem_cons.mp (by simpa [zipD] using h : d ∈ .tuple [x, y] :: zipD xs ys) with z | z
    · exact ⟨x, y, z, by simp, by simp⟩
    · obtain ⟨a, b, h1, h2, h3⟩ := zipD_mem z
      exact ⟨a, b, h1, List.mem_cons_of_mem _ h2, List.mem_cons_of_mem _ h3⟩
theorem zipD_length : ∀ (xs ys : List D), (zipD xs ys).length ≤ xs.length
  | [], _ => Nat.le_refl _
  | _ :: _, [] => Nat.zero_le _
  | x :: xs, y :: ys => Nat.succ_le_succ (zipD_length xs ys)
theorem C_is_clock_2_ok (ns : List Int) (hl : ns.length ≤ 4) (s0 s2 s3 : Slot) : ∃ L, C_is_clock_2 [s0, .fz (.tuple (ns.map PyData.int)), s2, s3] = .ok (.list L) ∧ dAll [.list L] = .ok (.bool (incB ns)) := by
  rw [← zip_inc]
  refine all_lc (by simp [cutL_1, dZip]) (fun x hx => ?_) ?_
  · obtain ⟨a, b, rfl, ha, hb⟩ := zipD_mem hx
    obtain ⟨i, _, rfl⟩ := List.mem_map.mp ha
    obtain ⟨j, _, rfl⟩ := List.mem_map.mp (List.mem_of_mem_drop hb)
    rw [lcStep_eq]
    simp [wipeE]
    rw [lcK_map (b := true) rfl fun _ => by simp; rfl]
    rfl
  · have := zipD_length (ns.map PyData.int) ((ns.map PyData.int).drop 1)
    rw [List.length_map] at this
    omega
theorem is_clock_ok {w n : Nat} {x : D} (h : gd w n x = true) : F_is_clock [x] = .ok (.bool (clkB x)) := by
  unfold F_is_clock M_is_clock
  cases x with
  | dict es => exact (gd_dict h).elim
  | tuple xs =>
    obtain ⟨m, rfl, _, hk⟩ := gd_kids h
    match xs, hk with
    | [], _ => simp [runF_1, clkB]
    | [_], _ => simp [runF_1, clkB]
    | [_, _], _ => simp [runF_1, clkB]
    | a :: b :: c :: e :: r, _ =>
      have : (((r.length : Int) + 1 + 1 + 1 + 1) == 3) = false := by
        rw [beq_eq_false_iff_ne]; omega
      simp [runF_1, clkB, this]
    | [a, b, c], hk =>
      have ga := hk a (by simp)
      have gb := hk b (by simp)
      have gc := hk c (by simp)
      have e1 := is_number_ok ga 1 9
      by_cases h1 : numB 1 9 a = true
      · obtain ⟨i, rfl, h2, h3⟩ := numB_true h1
        have e2 := is_number_ok gb i 9
        by_cases h4 : numB i 9 b = true
        · cases c with
          | dict es => exact (gd_dict gc).elim
          | tuple rs =>
            obtain ⟨m2, rfl, _, hk2⟩ := gd_kids gc
            by_cases h5 : 1 ≤ rs.length
            · by_cases h6 : rs.length ≤ 4
              · obtain ⟨L, e3, e3'⟩ := C_is_clock_1_ok hk2 h6 (.fz (.tuple [.int i, b, .tuple rs])) .un .un
                by_cases h7 : rs.all (numB 0 99) = true
                · obtain ⟨ns, rfl, h8⟩ := all_numB h7
                  obtain ⟨L2, e4, e4'⟩ := C_is_clock_2_ok ns (by simpa using h6) (.fz (.tuple [.int i, b, .tuple (ns.map PyData.int)])) .un .un
                  have i5 : (1 : Int) ≤ ((ns.length : Nat) : Int) := by rw [List.length_map] at h5; omega
                  have i6 : ((ns.length : Nat) : Int) ≤ 4 := by rw [List.length_map] at h6; omega
                  rw [List.length_map] at h5 h6
                  simp only [runF_1, List.reduceReplicate, Nat.reduceSub]
                  simp [e1, e2, e3, e3', e4, e4',  h1, h2, h3, h4, h5, h6, h7, i5, i6, clkB]
                · have i5 : (1 : Int) ≤ ((rs.length : Nat) : Int) := by omega
                  have i6 : ((rs.length : Nat) : Int) ≤ 4 := by omega
                  have h7 : rs.all (numB 0 99) = false := by simpa using h7
                  simp only [runF_1, List.reduceReplicate, Nat.reduceSub]
                  simp [e1, e2, e3, e3', h1, h2, h3, h4, h5, h6, h7, i5, i6, clkB]
              · have i6 : ¬ ((rs.length : Nat) : Int) ≤ 4 := by omega
                have i5 : (1 : Int) ≤ ((rs.length : Nat) : Int) := by omega
                simp [runF_1, e1, e2, h1, h2, h3, h4, h5, h6, i5, i6, clkB]
            · have i5 : ¬ (1 : Int) ≤ ((rs.length : Nat) : Int) := by omega
              simp [runF_1, e1, e2, h1, h2, h3, h4, h5, i5, clkB]
          | _ => simp [runF_1, e1, e2, h1, h2, h3, h4, clkB]
        · have h4 : numB i 9 b = false := by simpa using h4
          have : clkB (.tuple [.int i, b, c]) = false := by
            unfold clkB
            split
            · rename_i q; cases q; simp [h4]
            · rfl
          simp [runF_1, e1, e2, h1, h2, h3, h4, this]
      · have h1 : numB 1 9 a = false := by simpa using h1
        have : clkB (.tuple [a, b, c]) = false := by
          unfold clkB
          split
          · rename_i q; cases q; simp [h1]
          · rfl
        simp [runF_1, e1, h1, this]
  | _ => simp [runF_1, clkB]
end Fc
set_option Elab.async false
set_option linter.all false
set_option maxRecDepth 100000
set_option maxHeartbeats 2000000
namespace Fc
open PySem L2 Evl PySem.Spec PyProof.Rows
/-! ### events, letters, records -/
abbrev Ev := Nat × Nat
def evd (e : Ev) : D := .tuple [.int (e.1 : Nat), .int (e.2 : Nat)]
structure Ltr where
  a : Ev
  b : Ev
  lo : Int
  hi : Option Int
def optD : Option Int → D
  | some h => .int h
  | none => .none
def Ltr.d (l : Ltr) : D := .tuple [evd l.a, evd l.b, .int l.lo, optD l.hi]
structure Rec where
  cs : List Clk
  ls : List Ltr
def Rec.d (r : Rec) : D := .tuple [.tuple (r.cs.map Clk.d), .tuple (r.ls.map Ltr.d)]
def EvOk (cs : List Clk) (e : Ev) : Prop := ∃ c, cs[e.1]? = some c ∧ e.2 < c.rs.length
structure Ltr.Ok (cs : List Clk) (l : Ltr) : Prop where
  ea : EvOk cs l.a
  eb : EvOk cs l.b
  ne : l.a ≠ l.b
  lo0 : 0 ≤ l.lo
  lo9 : l.lo ≤ 999
  hi : ∀ h, l.hi = some h → l.lo ≤ h ∧ h ≤ 999
structure Rec.Ok (r : Rec) : Prop where
  c1 : 1 ≤ r.cs.length
  c4 : r.cs.length ≤ 4
  cs : ∀ c ∈ r.cs, c.Ok
  l8 : r.ls.length ≤ 8
  ls : ∀ l ∈ r.ls, l.Ok r.cs
def evB (cs : List Clk) : D → Bool
  | .tuple [.int i, b] => numB 0 ((cs.length : Nat) - 1) (.int i) && (match cs[i.toNat]? with
    | some c => numB 0 ((c.rs.length : Nat) - 1) b
    | none => false)
  | _ => false
def letB (cs : List Clk) : D → Bool
  | .tuple [a, b, .int lo, hi] => numB 0 999 (.int lo) && evB cs a && evB cs b && !(PyData.eqv a b) && (isN hi || numB lo 999 hi)
  | _ => false
theorem evd_inj {a b : Ev} (h : evd a = evd b) : a = b := by
  simp only [evd, PyData.tuple.injEq, List.cons.injEq, PyData.int.injEq, and_true] at h
  exact Prod.ext (by omega) (by omega)
theorem eqv_evd (a b : Ev) : PyData.eqv (evd a) (evd b) = decide (a = b) := by
  simp only [evd, PyData.eqv, PyData.eqvAll, Bool.and_true]
  by_cases h : a = b
  · subst h; simp
  · simp only [h, decide_false]
    rw [Bool.and_eq_false_iff, beq_eq_false_iff_ne, beq_eq_false_iff_ne]
    by_cases h1 : a.1 = b.1
    · right
      intro q
      exact h (Prod.ext h1 (by omega))
    · left
      omega
theorem evB_iff (cs : List Clk) (x : D) : evB cs x = true ↔ ∃ e : Ev, EvOk cs e ∧ x = evd e := by
  constructor
  · intro h
    unfold evB at h
    split at h
    · rename_i i b
      rw [Bool.and_eq_true] at h
      obtain ⟨h1, h2⟩ := h
      split at h2
      · rename_i c hc
        obtain ⟨j, rfl, h3, h4⟩ := numB_true h2
        simp only [numB_i, Bool.and_eq_true, decide_eq_true_eq] at h1
        refine ⟨(i.toNat, j.toNat), ⟨c, hc, ?_⟩, ?_⟩
        · show j.toNat < _
          omega
        · have e1 : ((i.toNat : Nat) : Int) = i := by omega
          have e2 : ((j.toNat : Nat) : Int) = j := by omega
          simp only [evd, e1, e2]
      · cases h2
    · cases h
  · rintro ⟨e, ⟨c, h1, h2⟩, rfl⟩
    have h3 : e.1 < cs.length := (List.getElem?_eq_some_iff.mp h1).1
    have i1 : ((e.1 : Nat) : Int) ≤ (cs.length : Nat) - 1 := by omega
    have i2 : ((e.2 : Nat) : Int) ≤ (c.rs.length : Nat) - 1 := by omega
    simp [evB, evd, h1, i1, i2]
theorem letB_iff (cs : List Clk) (x : D) : letB cs x = true ↔ ∃ l : Ltr, l.Ok cs ∧ x = l.d := by
  constructor
  · intro h
    unfold letB at h
    split at h
    · rename_i a b lo hi
      simp only [Bool.and_eq_true, numB_i, decide_eq_true_eq, Bool.or_eq_true, Bool.not_eq_true'] at h
      obtain ⟨⟨⟨⟨h1, h2⟩, h3⟩, h4⟩, h5⟩ := h
      obtain ⟨ea, ha, rfl⟩ := (evB_iff cs a).mp h2
      obtain ⟨eb, hb, rfl⟩ := (evB_iff cs b).mp h3
      rw [eqv_evd, decide_eq_false_iff_not] at h4
      rcases h5 with h5 | h5
      · have : hi = .none := by
          cases hi <;> first | rfl | cases h5
        subst this
        exact ⟨⟨ea, eb, lo, none⟩, ⟨ha, hb, h4, h1.1, h1.2, fun h z => nomatch z⟩, rfl⟩
      · obtain ⟨k, rfl, h6, h7⟩ := numB_true h5
        exact ⟨⟨ea, eb, lo, some k⟩, ⟨ha, hb, h4, h1.1, h1.2, fun h z => by cases z; exact ⟨h6, h7⟩⟩, rfl⟩
    · cases h
  · rintro ⟨l, o, rfl⟩
    have h1 := (evB_iff cs _).mpr ⟨l.a, o.ea, rfl⟩
    have h2 := (evB_iff cs _).mpr ⟨l.b, o.eb, rfl⟩
    have h3 := eqv_evd l.a l.b
    have h4 : decide (l.a = l.b) = false := decide_eq_false o.ne
    cases hh : l.hi with
    | none => simp [letB, Ltr.d, optD, hh, h1, h2, h3, h4, o.lo0, o.lo9]
    | some k =>
      have := o.hi k hh
      simp [letB, Ltr.d, optD, hh, h1, h2, h3, h4, o.lo0, o.lo9, this]
theorem clks_of : ∀ {cds : List D}, cds.all clkB = true → ∃ cs : List Clk, cds = cs.map Clk.d ∧ ∀ c ∈ cs, c.Ok
  | [], _ => ⟨[], rfl, by simp⟩
  | x :: xs, h => by
    rw [List.all_cons, Bool.and_eq_true] at h
    obtain ⟨c, o, rfl⟩ := (clkB_iff x).mp h.1
    obtain ⟨cs, rfl, h2⟩ := clks_of h.2
    exact ⟨c :: cs, rfl, fun y hy => by
      rcases List.mem_cons.mp hy with z | z
      · rw [z]; exact o
      · exact h2 y z⟩
theorem ltrs_of {cs : List Clk} : ∀ {lds : List D}, lds.all (letB cs) = true → ∃ ls : List Ltr, lds = ls.map Ltr.d ∧ ∀ l ∈ ls, l.Ok cs
  | [], _ => ⟨[], rfl, by simp⟩
  | x :: xs, h => by
    rw [List.all_cons, Bool.and_eq_true] at h
    obtain ⟨c, o, rfl⟩ := (letB_iff cs x).mp h.1
    obtain ⟨cs, rfl, h2⟩ := ltrs_of h.2
    exact ⟨c :: cs, rfl, fun y hy => by
      rcases List.mem_cons.mp hy with z | z
      · rw [z]; exact o
      · exact h2 y z⟩
theorem clks_all {cs : List Clk} (h : ∀ c ∈ cs, c.Ok) : (cs.map Clk.d).all clkB = true := by
  rw [List.all_eq_true]
  intro x hx
  obtain ⟨c, hc, rfl⟩ := List.mem_map.mp hx
  exact (clkB_iff _).mpr ⟨c, h c hc, rfl⟩
theorem ltrs_all {cs : List Clk} {ls : List Ltr} (h : ∀ l ∈ ls, l.Ok cs) : (ls.map Ltr.d).all (letB cs) = true := by
  rw [List.all_eq_true]
  intro x hx
  obtain ⟨c, hc, rfl⟩ := List.mem_map.mp hx
  exact (letB_iff cs _).mpr ⟨c, h c hc, rfl⟩
/-! ### what the program's tests answer -/
theorem is_event_ok {w n : Nat} {x : D} {cs : List Clk} (h : gd w n x = true) : F_is_event [.tuple (cs.map Clk.d), x] = .ok (.bool (evB cs x)) := by
  unfold F_is_event M_is_event
  cases x with
  | dict es => exact (gd_dict h).elim
  | tuple xs =>
    obtain ⟨m, rfl, _, hk⟩ := gd_kids h
    match xs, hk with
    | [], _ => simp [runF_2, evB]
    | [_], _ => simp [runF_2, evB]
    | a :: b :: c :: r, _ =>
      have : (((r.length : Int) + 1 + 1 + 1) == 2) = false := by
        rw [beq_eq_false_iff_ne]; omega
      simp [runF_2, evB, this]
    | [a, b], hk =>
      have e1 := is_number_ok (hk a (by simp)) 0 ((cs.length : Nat) - 1)
      by_cases h1 : numB 0 ((cs.length : Nat) - 1) a = true
      · obtain ⟨i, rfl, h2, h3⟩ := numB_true h1
        have hi : i.toNat < cs.length := by omega
        have hc : cs[i.toNat]? = some cs[i.toNat] := List.getElem?_eq_getElem hi
        obtain ⟨h4, h5⟩ := atI_lt (xs := cs.map Clk.d) h2 (by rw [List.length_map]; omega)
        rw [List.getElem_map] at h5
        have e2 := is_number_ok (hk b (by simp)) 0 ((cs[i.toNat].rs.length : Nat) - 1)
        simp [runF_2, evB, e1, h1, h2, h3, h5, hc, Clk.d, e2]
      · have h1 : numB 0 ((cs.length : Nat) - 1) a = false := by simpa using h1
        have : evB cs (.tuple [a, b]) = false := by
          unfold evB
          split
          · rename_i q; cases q; simp [h1]
          · rfl
        simp [runF_2, e1, h1, this]
  | _ => simp [runF_2, evB]
theorem dEq_gd {w n : Nat} {x y : D} (h : gd w n x = true) (h' : gd w n y = true) (hn : n ≤ 64) : dEq x y = .ok (.bool (PyData.eqv x y)) := by
  have a := gd_shaped h hn
  have b := gd_shaped h' hn
  have e1 : unS x = x := by
    cases x with
    | dict es => exact (gd_dict h).elim
    | _ => rfl
  have e2 : unS y = y := by
    cases y with
    | dict es => exact (gd_dict h').elim
    | _ => rfl
  unfold dEq
  rw [e1, e2, a, b] <;> rfl
theorem dNe_gd {w n : Nat} {x y : D} (h : gd w n x = true) (h' : gd w n y = true) (hn : n ≤ 64) : dNe x y = .ok (.bool (!PyData.eqv x y)) := by
  have a := gd_shaped h hn
  have b := gd_shaped h' hn
  have e1 : unS x = x := by
    cases x with
    | dict es => exact (gd_dict h).elim
    | _ => rfl
  have e2 : unS y = y := by
    cases y with
    | dict es => exact (gd_dict h').elim
    | _ => rfl
  unfold dNe
  rw [e1, e2, a, b] <;> rfl
theorem is_letter_ok {w n : Nat} {x : D} {cs : List Clk} (h : gd w n x = true) (hn : n ≤ 64) : F_is_letter [.tuple (cs.map Clk.d), x] = .ok (.bool (letB cs x)) := by
  unfold F_is_letter M_is_letter
  cases x with
  | dict es => exact (gd_dict h).elim
  | tuple xs =>
    obtain ⟨m, rfl, _, hk⟩ := gd_kids h
    match xs, hk with
    | [], _ => simp [runF_2, letB]
    | [_], _ => simp [runF_2, letB]
    | [_, _], _ => simp [runF_2, letB]
    | [_, _, _], _ => simp [runF_2, letB]
    | a :: b :: c :: e :: f :: r, _ =>
      have : (((r.length : Int) + 1 + 1 + 1 + 1 + 1) == 4) = false := by
        rw [beq_eq_false_iff_ne]; omega
      simp [runF_2, letB, this]
    | [a, b, c, e], hk =>
      have e1 := is_number_ok (hk c (by simp)) 0 999
      by_cases h1 : numB 0 999 c = true
      · obtain ⟨lo, rfl, h2, h3⟩ := numB_true h1
        have e2 := is_event_ok (cs := cs) (hk a (by simp))
        have e3 := is_event_ok (cs := cs) (hk b (by simp))
        have e4 := dEq_gd (hk a (by simp)) (hk b (by simp)) (by omega)
        have e5 := is_number_ok (hk e (by simp)) lo 999
        cases h4 : evB cs a with
        | false => simp [runF_2, letB, e1, e2, h1, h2, h3, h4]
        | true =>
          cases h5 : evB cs b with
          | false => simp [runF_2, letB, e1, e2, e3, h1, h2, h3, h4, h5]
          | true =>
            cases h6 : PyData.eqv a b with
            | true => simp [runF_2, letB, e1, e2, e3, e4, h1, h2, h3, h4, h5, h6]
            | false =>
              cases h7 : isN e with
              | true => simp [runF_2, letB, e1, e2, e3, e4, h1, h2, h3, h4, h5, h6, h7]
              | false => simp [runF_2, letB, e1, e2, e3, e4, e5, h1, h2, h3, h4, h5, h6, h7]
      · have h1 : numB 0 999 c = false := by simpa using h1
        have : letB cs (.tuple [a, b, c, e]) = false := by
          unfold letB
          split
          · rename_i q; cases q; simp [h1]
          · rfl
        simp [runF_2, e1, h1, this]
  | _ => simp [runF_2, letB]
end Fc
set_option Elab.async false
set_option linter.all false
set_option maxRecDepth 100000
set_option maxHeartbeats 2000000
namespace Fc
open PySem L2 Evl PySem.Spec PyProof.Rows
theorem C_is_record_1_ok {w n : Nat} {cds : List D} {b : D} (h : ∀ x ∈ cds, gd w n x = true) (hl : cds.length ≤ 4) (s1 : Slot) : ∃ L, C_is_record_1 [.fz (.tuple [.tuple cds, b]), s1] = .ok (.list L) ∧ dAll [.list L] = .ok (.bool (cds.all clkB)) := by
  refine all_lc (by simp) (fun x hx => ?_) (by omega)
  rw [lcStep_eq]
  simp [wipeE]
  rw [lcK_map (b := true) rfl fun _ => by simp; exact is_clock_ok (h x hx)]
  rfl
theorem C_is_record_2_ok {w n : Nat} {cs : List Clk} {lds : List D} (h : ∀ x ∈ lds, gd w n x = true) (hn : n ≤ 64) (hl : lds.length ≤ 8) (s1 : Slot) : ∃ L, C_is_record_2 [.fz (.tuple [.tuple (cs.map Clk.d), .tuple lds]), s1] = .ok (.list L) ∧ dAll [.list L] = .ok (.bool (lds.all (letB cs))) := by
  refine all_lc (by simp) (fun x hx => ?_) (by omega)
  rw [lcStep_eq]
  simp [wipeE]
  rw [lcK_map (b := true) rfl fun _ => by simp; exact is_letter_ok (h x hx) hn]
  rfl
def recB : D → Prop := fun x => ∃ r : Rec, r.Ok ∧ x = r.d
theorem is_record_ok {w n : Nat} {x : D} (h : gd w n x = true) (hn : n ≤ 64) : ∃ b, F_is_record [x] = .ok (.bool b) ∧ (b = true ↔ recB x) := by
  unfold F_is_record M_is_record
  cases x with
  | dict es => exact (gd_dict h).elim
  | tuple xs =>
    obtain ⟨m, rfl, _, hk⟩ := gd_kids h
    have no : ∀ {x : D}, (∀ a b, x ≠ .tuple [.tuple a, .tuple b]) → ¬ recB x := fun hx ⟨r, _, e⟩ => hx _ _ e
    match xs, hk with
    | [], _ => exact ⟨false, by simp [runF_1], by simpa using no (by simp)⟩
    | [_], _ => exact ⟨false, by simp [runF_1], by simpa using no (by simp)⟩
    | a :: b :: c :: r, _ =>
      have : (((r.length : Int) + 1 + 1 + 1) == 2) = false := by
        rw [beq_eq_false_iff_ne]; omega
      exact ⟨false, by simp [runF_1, this], by simpa using no (by simp)⟩
    | [a, b], hk =>
      have ga := hk a (by simp)
      have gb := hk b (by simp)
      cases a with
      | dict es => exact (gd_dict ga).elim
      | tuple cds =>
        obtain ⟨m1, rfl, _, hk1⟩ := gd_kids ga
        by_cases h1 : 1 ≤ cds.length ∧ cds.length ≤ 4
        · have i1 : (1 : Int) ≤ (cds.length : Nat) := by omega
          have i2 : ((cds.length : Nat) : Int) ≤ 4 := by omega
          obtain ⟨L, e1, e1'⟩ := C_is_record_1_ok (b := b) hk1 h1.2 .un
          cases h2 : cds.all clkB with
          | false =>
            refine ⟨false, by simp only [runF_1, List.reduceReplicate, Nat.reduceSub]; rw [h2] at e1'; simp [e1, e1', i1, i2], ?_⟩
            simp only [Bool.false_eq_true, false_iff]
            rintro ⟨r, o, e⟩
            simp only [Rec.d, PyData.tuple.injEq, List.cons.injEq, and_true] at e
            rw [e.1, clks_all o.cs] at h2
            cases h2
          | true =>
            obtain ⟨cs, rfl, hcs⟩ := clks_of h2
            rw [h2] at e1'
            cases b with
            | dict es => exact (gd_dict gb).elim
            | tuple lds =>
              obtain ⟨m2, e9, _, hk2⟩ := gd_kids gb
              by_cases h3 : lds.length ≤ 8
              · obtain ⟨L2, e2, e2'⟩ := C_is_record_2_ok (cs := cs) hk2 (by omega) h3 .un
                have i3 : ¬ ((8 : Int) < (lds.length : Nat)) := by omega
                refine ⟨lds.all (letB cs), ?_, ?_⟩
                · simp only [runF_1, List.reduceReplicate, Nat.reduceSub]
                  rw [List.length_map] at i1 i2
                  simp [e1, e1', e2, e2', i1, i2, i3, h3]
                · constructor
                  · intro q
                    obtain ⟨ls, rfl, hls⟩ := ltrs_of q
                    rw [List.length_map] at h1 h3
                    exact ⟨⟨cs, ls⟩, ⟨h1.1, h1.2, hcs, h3, hls⟩, rfl⟩
                  · rintro ⟨r, o, e⟩
                    simp only [Rec.d, PyData.tuple.injEq, List.cons.injEq, and_true] at e
                    have : cs = r.cs := by
                      have inj : ∀ a b : Clk, a.d = b.d → a = b := by
                        intro a b q
                        obtain ⟨a1, a2, a3⟩ := a
                        obtain ⟨b1, b2, b3⟩ := b
                        simp only [Clk.d, PyData.tuple.injEq, List.cons.injEq, PyData.int.injEq, and_true] at q
                        have := (List.map_inj_right (f := PyData.int) (fun x y z => PyData.int.inj z)).mp q.2.2
                        simp [q.1, q.2.1, this]
                      exact (List.map_inj_right inj).mp e.1
                    rw [e.2, this]
                    exact ltrs_all o.ls
              · have i3 : (8 : Int) < (lds.length : Nat) := by omega
                refine ⟨false, ?_, ?_⟩
                · simp only [runF_1, List.reduceReplicate, Nat.reduceSub]
                  rw [List.length_map] at i1 i2
                  simp [e1, e1', i1, i2, i3, h3]
                · simp only [Bool.false_eq_true, false_iff]
                  rintro ⟨r, o, e⟩
                  simp only [Rec.d, PyData.tuple.injEq, List.cons.injEq, and_true] at e
                  have := o.l8
                  rw [e.2, List.length_map] at h3
                  exact h3 this
            | _ =>
              refine ⟨false, ?_, by simpa using no (by simp)⟩
              simp only [runF_1, List.reduceReplicate, Nat.reduceSub]
              rw [List.length_map] at i1 i2
              simp [e1, e1', i1, i2]
        · refine ⟨false, ?_, ?_⟩
          · by_cases i1 : (1 : Int) ≤ (cds.length : Nat)
            · have i2 : ¬ ((cds.length : Nat) : Int) ≤ 4 := by omega
              have i3 : ¬ cds.length ≤ 4 := by omega
              simp [runF_1, i1, i2, i3]
            · have i3 : ¬ 1 ≤ cds.length := by omega
              simp [runF_1, i1, i3]
          · simp only [Bool.false_eq_true, false_iff]
            rintro ⟨r, o, e⟩
            simp only [Rec.d, PyData.tuple.injEq, List.cons.injEq, and_true] at e
            rw [e.1, List.length_map] at h1
            exact h1 ⟨o.c1, o.c4⟩
      | _ => exact ⟨false, by simp [runF_1], by simpa using no (by simp)⟩
  | _ => exact ⟨false, by simp [runF_1], by simp [recB, Rec.d]⟩
end Fc
set_option Elab.async false
set_option linter.all false
set_option maxRecDepth 100000
set_option maxHeartbeats 2000000
namespace Fc
open PySem L2 Evl PySem.Spec PyProof.Rows
/-! ### the law's events -/
def evs (i : Nat) : List Clk → List Ev
  | [] => []
  | c :: cs => ((List.range c.rs.length).map fun j => (i, j)) ++ evs (i + 1) cs
theorem evs_mem (e : Ev) : ∀ (cs : List Clk) (i : Nat), e ∈ evs i cs ↔ ∃ k, e.1 = i + k ∧ EvOk cs (k, e.2)
  | [], i => by simp [evs, EvOk]
  | c :: cs, i => by
    unfold evs
    rw [List.mem_append, evs_mem e cs (i + 1), List.mem_map]
    constructor
    · rintro (⟨j, hj, rfl⟩ | ⟨k, h1, c', h2, h3⟩)
      · exact ⟨0, rfl, c, rfl, List.mem_range.mp hj⟩
      · exact ⟨k + 1, by omega, c', h2, h3⟩
    · rintro ⟨k, h1, c', h2, h3⟩
      cases k with
      | zero =>
        simp only [List.getElem?_cons_zero, Option.some.injEq] at h2
        subst h2
        exact .inl ⟨e.2, List.mem_range.mpr h3, Prod.ext h1.symm rfl⟩
      | succ k => exact .inr ⟨k, by omega, c', by simpa using h2, h3⟩
theorem evs_iff (cs : List Clk) (e : Ev) : e ∈ evs 0 cs ↔ EvOk cs e := by
  rw [evs_mem]
  constructor
  · rintro ⟨k, h1, h2⟩
    have : e = (k, e.2) := Prod.ext (by omega) rfl
    rw [this]
    exact h2
  · intro h
    exact ⟨e.1, by omega, h⟩
theorem evs_len : ∀ (cs : List Clk) (i : Nat), (∀ c ∈ cs, c.rs.length ≤ 4) → (evs i cs).length ≤ 4 * cs.length
  | [], _, _ => Nat.zero_le _
  | c :: cs, i, h => by
    have h1 := h c (by simp)
    have h2 := evs_len cs (i + 1) fun x hx => h x (List.mem_cons_of_mem _ hx)
    unfold evs
    rw [List.length_append, List.length_map, List.length_range, List.length_cons]
    omega
theorem rngD_map (n : Nat) : rngD 0 n = (List.range n).map fun j => .int ((j : Nat) : Int) := by
  unfold rngD
  simp
theorem C_law_events_1_ok (i : Nat) (c : Clk) (hc : c.rs.length ≤ 4) (s0 s1 s4 : Slot) : C_law_events_1 [s0, s1, .fz (.int (i : Nat)), .fz c.d, s4] = .ok (.list (((List.range c.rs.length).map fun j => (i, j)).map evd)) := by
  have h : (.list (((List.range c.rs.length).map fun j => (i, j)).map evd) : D) = .list ((rngD 0 c.rs.length).filterMap fun d => some (.tuple [.int (i : Nat), d])) := by
    rw [fm_some, rngD_map]
    simp only [List.map_map]
    rfl
  rw [h]
  refine eLc_map ?_ (fun x hx => ?_) (by unfold rngD; simp; omega)
  · have : (-100000 ≤ ((c.rs.length : Nat) : Int)) ∧ ((c.rs.length : Nat) : Int) ≤ 100000 := by omega
    simp [Clk.d, dRng1, this]
  · rw [lcStep_eq]
    simp [wipeE]
    rw [lcK_map (b := true) rfl fun _ => by simp; rfl]
    rfl
theorem law_events_ok (cs : List Clk) (hc : ∀ c ∈ cs, c.rs.length ≤ 4) (hl : cs.length ≤ 10) : F_law_events [.tuple (cs.map Clk.d)] = .ok (.list ((evs 0 cs).map evd)) := by
  have loop : ∀ s2 s3 s4, ∃ a b c, L_law_events_1 [.fz (.tuple (cs.map Clk.d)), .fz (.list []), s2, s3, s4] = .nx [.fz (.tuple (cs.map Clk.d)), .fz (.list ((evs 0 cs).map evd)), a, b, c] := by
    intro s2 s3 s4
    refine sFor_post (ds := enumD 0 (cs.map Clk.d)) (Post := fun r => ∃ a b c, r = .nx [.fz (.tuple (cs.map Clk.d)), .fz (.list ((evs 0 cs).map evd)), a, b, c]) (by simp [dEnum])
      (fun ds ρ => ∃ (i : Nat) (cs' : List Clk) (pre : List Ev) (a b c : Slot), ds = enumD i (cs'.map Clk.d) ∧ ρ = [.fz (.tuple (cs.map Clk.d)), .fz (.list (pre.map evd)), a, b, c] ∧ pre ++ evs i cs' = evs 0 cs ∧ ∀ c ∈ cs', c.rs.length ≤ 4) ⟨0, cs, [], s2, s3, s4, rfl, rfl, rfl, hc⟩ ?_ ?_
    · rintro ρ ⟨i, cs', pre, a, b, c, h1, h2, h3, _⟩
      cases cs' with
      | nil =>
        rw [h2]
        have : pre = evs 0 cs := by rw [← h3]; simp [evs]
        rw [this]
        exact ⟨a, b, c, rfl⟩
      | cons x xs => cases h1
    · rintro d ds ρ ⟨i, cs', pre, a, b, c, h1, h2, h3, h4⟩
      cases cs' with
      | nil => cases h1
      | cons x xs =>
        simp only [List.map_cons, enumD, List.cons.injEq] at h1
        obtain ⟨rfl, rfl⟩ := h1
        subst h2
        refine ⟨_, gTup2 2 3 _ _ _, ?_⟩
        have hx := h4 x (by simp)
        have e1 := C_law_events_1_ok i x hx (.fz (.tuple (cs.map Clk.d))) (.fz (.list (pre.map evd))) c
        have hlen := evs_len cs 0 hc
        have e2 : dAdd (.list (pre.map evd)) (.list (((List.range x.rs.length).map fun j => (i, j)).map evd)) = .ok (.list ((pre ++ (List.range x.rs.length).map fun j => (i, j)).map evd)) := by
          rw [dAdd_l, List.map_append]
          rw [← h3] at hlen
          simp only [List.length_append, evs, List.length_map, List.length_range] at hlen ⊢
          omega
        simp only [List.set_cons_succ, List.set_cons_zero]
        unfold B_law_events_1
        simp only [sAsg_eq, eBin_eq, eW_eq, e1, List.getElem?_cons_zero, List.getElem?_cons_succ, rdW_fz, R.bind_ok, e2, rK_ok, List.set_cons_succ, List.set_cons_zero]
        refine ⟨i + 1, xs, _, _, _, _, rfl, rfl, ?_, fun y hy => h4 y (List.mem_cons_of_mem _ hy)⟩
        rw [List.append_assoc]
        exact h3
  obtain ⟨a, b, c, hL⟩ := loop .un .un .un
  unfold F_law_events M_law_events
  simp only [runF_1, List.reduceReplicate, Nat.reduceSub]
  simp [hL]
/-! ### lists of what fails -/
theorem eqv_nil {L : List D} : PyData.eqv (.list L) (.list []) = L.isEmpty := by
  cases L <;> simp [PyData.eqv, PyData.eqvAll]
theorem filter_any {p : D → Bool} : ∀ l : List D, (!(l.filter p).isEmpty) = l.any p
  | [] => rfl
  | a :: l => by
    have ih := filter_any (p := p) l
    cases q : p a with
    | true => simp [q]
    | false => rw [List.filter_cons_of_neg (by simp [q]), List.any_cons, q, Bool.false_or, ih]
/-- [x for x in xs if p(x)] != [] -/
theorem bad_lc {w n : Nat} {it : DI} {g : DG} {t m : DE} {vs : List Nat} {ρ : En} {ds : List D} {p : D → Bool} (hi : it ρ = .ok ds) (h : ∀ d ∈ ds, lcStep g t m vs ρ d = some (if p d = true then some d else none)) (hl : ds.length ≤ w) (hw : w ≤ 100000) (hg : ∀ d ∈ ds, gd w n d = true) (hn : n ≤ 63) :
    ∃ L, eLc it g t m vs ρ = .ok (.list L) ∧ dNe (.list L) (.list []) = .ok (.bool (ds.any p)) := by
  refine ⟨_, eLc_map (f := fun d => if p d = true then some d else none) hi h (by omega), ?_⟩
  rw [fm_if]
  have g1 : gd w (n + 1) (.list (ds.filter p)) = true := gdLst (Nat.le_trans (List.length_filter_le _ _) hl) fun x hx => hg x (List.mem_filter.mp hx).1
  have g2 : gd w (n + 1) (.list []) = true := gdLst (Nat.zero_le _) (by simp)
  rw [dNe_gd g1 g2 (by omega), eqv_nil]
  rw [filter_any]
theorem evd_gd (e : Ev) : gd 2 1 (evd e) = true := by simp [evd, gd, leafB]
theorem row_gd (cs : List Clk) (hc : ∀ c ∈ cs, c.rs.length ≤ 4) (hl : cs.length ≤ 4) : gd 16 2 (.list ((evs 0 cs).map evd)) = true := by
  refine gdLst ?_ fun x hx => ?_
  · have := evs_len cs 0 hc
    rw [List.length_map]
    omega
  · obtain ⟨e, _, rfl⟩ := List.mem_map.mp hx
    exact gd_mono (by omega) (Nat.le_refl _) (evd_gd e)
theorem eqv_ints : ∀ (a b : List Int), PyData.eqvAll (a.map PyData.int) (b.map PyData.int) = decide (a = b)
  | [], [] => rfl
  | [], _ :: _ => rfl
  | _ :: _, [] => rfl
  | a :: as, b :: bs => by
    simp only [List.map_cons, PyData.eqvAll, PyData.eqv, eqv_ints as bs]
    by_cases h : a = b <;> simp [h]
theorem not_all {ds : List D} {p : D → Bool} : ds.any (fun d => !p d) = !ds.all p := by
  induction ds with
  | nil => rfl
  | cons a l ih => simp [ih, Bool.not_and]
theorem cutL_sub {α : Type} {xs : List α} {a b : Option Int} : (cutL xs a b).length ≤ xs.length ∧ ∀ x ∈ cutL xs a b, x ∈ xs := by
  unfold cutL
  refine ⟨?_, fun x hx => List.mem_of_mem_drop (List.mem_of_mem_take hx)⟩
  rw [List.length_take, List.length_drop]
  omega
theorem cutL_to {α : Type} (xs : List α) (k : Nat) (h : k ≤ xs.length) : cutL xs none (some (k : Int)) = xs.take k := by
  unfold cutL
  rw [HT.sIx_none, HT.sIx_nat, Nat.min_eq_left h]
  simp
theorem cutL_from {α : Type} (xs : List α) (k : Nat) (h : k ≤ xs.length) : cutL xs (some (k : Int)) none = xs.drop k := by
  unfold cutL
  rw [HT.sIx_none, HT.sIx_nat, Nat.min_eq_left h]
  exact List.take_of_length_le (by rw [List.length_drop]; omega)
theorem atI_mem {α : Type} {xs : List α} {i : Int} (h0 : 0 ≤ i) (h1 : i < (xs.length : Nat)) : ∃ x, atI xs i = some x ∧ x ∈ xs := by
  obtain ⟨h, e⟩ := atI_lt h0 h1
  exact ⟨_, e, List.getElem_mem h⟩
end Fc
set_option Elab.async false
set_option linter.all false
set_option maxRecDepth 100000
set_option maxHeartbeats 2000000
namespace Fc
open PySem L2 Evl PySem.Spec PyProof.Rows
/-! ### the law's clock -/
structure Clk.Gen (c : Clk) : Prop where
  ok : c.Ok
  l3 : c.rs.length ≤ 3
  r15 : ∀ r ∈ c.rs, r ≤ 15
  s3 : c.slow ≤ 3
  f5 : c.fast ≤ 5
theorem rng_mem {n : Nat} {x : D} (h : x ∈ rngD 0 n) : ∃ k : Nat, k < n ∧ x = .int (k : Nat) := by
  rw [rngD_map] at h
  obtain ⟨k, hk, rfl⟩ := List.mem_map.mp h
  exact ⟨k, List.mem_range.mp hk, rfl⟩
theorem dRng1_i (n : Int) (h : 0 ≤ n ∧ n ≤ 100000) : dRng1 [.int n] = .ok (rngD 0 n.toNat) := by
  have h : (-100000 ≤ n) ∧ n ≤ 100000 := by omega
  simp [dRng1, h]
theorem rng_len (n : Nat) : (rngD 0 n).length = n := by unfold rngD; simp
theorem law_clock_ok (ns : List Int) (hl : ns.length ≤ 63) (at_ : Int) : ∃ c : Clk, F_law_clock [scD ns, .int at_] = .ok c.d ∧ c.Gen := by
  obtain ⟨a, a0, a1, ea⟩ := law_drawn_ok ns hl at_ 3 (by omega)
  obtain ⟨b, b0, b1, eb⟩ := law_drawn_ok ns hl (at_ + 2) 6 (by omega)
  obtain ⟨c, c0, c1, ec⟩ := law_drawn_ok ns hl (at_ + 1) 3 (by omega)
  obtain ⟨d, d0, d1, ed⟩ := law_drawn_ok ns hl (at_ + 6) 3 (by omega)
  have loop : ∃ (rs : List Int) (s4 : Slot), L_law_clock_1 [.fz (scD ns), .fz (.int at_), .fz (.int (1 + a)), .fz (.tuple [.int b]), .un] = .nx [.fz (scD ns), .fz (.int at_), .fz (.int (1 + a)), .fz (.tuple (rs.map PyData.int)), s4] ∧ 1 ≤ rs.length ∧ rs.length ≤ 3 ∧ rs.Pairwise (· < ·) ∧ ∀ r ∈ rs, 0 ≤ r ∧ r ≤ 15 := by
    refine sFor_post (ds := rngD 0 c.toNat) (Post := fun r => ∃ (rs : List Int) (s4 : Slot), r = .nx [.fz (scD ns), .fz (.int at_), .fz (.int (1 + a)), .fz (.tuple (rs.map PyData.int)), s4] ∧ 1 ≤ rs.length ∧ rs.length ≤ 3 ∧ rs.Pairwise (· < ·) ∧ ∀ r ∈ rs, 0 ≤ r ∧ r ≤ 15)
      (by simp [ec, dRng1_i c (by omega)])
      (fun ds ρ => ∃ (rs : List Int) (s4 : Slot), ρ = [.fz (scD ns), .fz (.int at_), .fz (.int (1 + a)), .fz (.tuple (rs.map PyData.int)), s4] ∧ 1 ≤ rs.length ∧ rs.length + ds.length ≤ 3 ∧ rs.Pairwise (· < ·) ∧ (∀ r ∈ rs, 0 ≤ r ∧ r + 5 * (ds.length : Nat) ≤ 15) ∧ ∀ x ∈ ds, ∃ k : Nat, x = .int (k : Nat)) ?_ ?_ ?_
    · refine ⟨[b], .un, rfl, by simp, ?_, by simp, fun r hr => ?_, fun x hx => ?_⟩
      · rw [rng_len]; simp only [List.length_cons, List.length_nil]; omega
      · rw [rng_len]
        simp only [List.mem_cons, List.not_mem_nil, or_false] at hr
        subst hr
        omega
      · obtain ⟨k, _, e⟩ := rng_mem hx
        exact ⟨k, e⟩
    · rintro ρ ⟨rs, s4, rfl, h1, h2, h3, h4, _⟩
      exact ⟨rs, s4, rfl, h1, by simpa using h2, h3, fun r hr => by have := h4 r hr; simp at this; omega⟩
    · rintro x ds ρ ⟨rs, s4, rfl, h1, h2, h3, h4, h5⟩
      obtain ⟨k, rfl⟩ := h5 x (by simp)
      obtain ⟨v, v0, v1, ev⟩ := law_drawn_ok ns hl (at_ + 3 + k) 5 (by omega)
      obtain ⟨pre, l, rfl⟩ : ∃ pre l, rs = pre ++ [l] := ⟨rs.dropLast, rs.getLast (by intro z; rw [z] at h1; simp at h1), (List.dropLast_concat_getLast _).symm⟩
      refine ⟨_, gN_eq _ _ _, ?_⟩
      simp only [List.set_cons_succ, List.set_cons_zero]
      have hx : atI ((pre ++ [l]).map PyData.int) (-1) = some (.int l) := by
        rw [List.map_append]
        exact atI_last _ _
      have hlen : (pre ++ [l]).length ≤ 3 := by omega
      have ha : dAdd (.tuple ((pre ++ [l]).map PyData.int)) (.tuple [.int (l + 1 + v)]) = .ok (.tuple ((pre ++ [l] ++ [l + 1 + v]).map PyData.int)) := by
        rw [dAdd_t _ _ (by rw [List.length_map]; simp only [List.length_cons, List.length_nil]; omega), List.map_append (l₁ := pre ++ [l])]
        rfl
      have hB : B_law_clock_1 [.fz (scD ns), .fz (.int at_), .fz (.int (1 + a)), .fz (.tuple ((pre ++ [l]).map PyData.int)), .fz (.int k)] = .nx [.fz (scD ns), .fz (.int at_), .fz (.int (1 + a)), .fz (.tuple ((pre ++ [l] ++ [l + 1 + v]).map PyData.int)), .fz (.int k)] := by
        unfold B_law_clock_1
        generalize hG : (pre ++ [l]).map PyData.int = G at hx ha
        generalize hG2 : (pre ++ [l] ++ [l + 1 + v]).map PyData.int = G2 at ha
        simp [ev, hx, ha]
      rw [hB]
      have hl' := h4 l (by simp)
      simp only [List.length_cons] at h2 h4 hl'
      refine ⟨pre ++ [l] ++ [l + 1 + v], .fz (.int k), rfl, by simp, ?_, ?_, ?_, fun y hy => h5 y (List.mem_cons_of_mem _ hy)⟩
      · simp only [List.length_append, List.length_cons, List.length_nil] at h2 ⊢
        omega
      · refine List.pairwise_append.mpr ⟨h3, by simp, fun x hx y hy => ?_⟩
        simp only [List.mem_cons, List.not_mem_nil, or_false] at hy
        subst hy
        rcases List.mem_append.mp hx with z | z
        · have := (List.pairwise_append.mp h3).2.2 x z l (by simp)
          omega
        · simp only [List.mem_cons, List.not_mem_nil, or_false] at z
          omega
      · intro r hr
        rcases List.mem_append.mp hr with z | z
        · have := h4 r z
          omega
        · simp only [List.mem_cons, List.not_mem_nil, or_false] at z
          subst z
          omega
  obtain ⟨rs, s4, hL, h1, h2, h3, h4⟩ := loop
  refine ⟨⟨1 + a, 1 + a + d, rs⟩, ?_, ⟨⟨by show 1 ≤ 1 + a; omega, by show 1 + a ≤ 1 + a + d; omega, by show 1 + a + d ≤ 9; omega, h1, by show rs.length ≤ 4; omega, fun r hr => by have := h4 r hr; omega, h3⟩, h2, fun r hr => (h4 r hr).2, by show 1 + a ≤ 3; omega, by show 1 + a + d ≤ 5; omega⟩⟩
  unfold F_law_clock M_law_clock
  simp only [runF_2, List.reduceReplicate, Nat.reduceSub]
  simp [ea, eb, ed, hL, Clk.d]
/-! ### the law's letter -/
structure Ltr.Gen (cs : List Clk) (l : Ltr) : Prop where
  ok : l.Ok cs
  lo7 : l.lo ≤ 7
  hi15 : ∀ h, l.hi = some h → h ≤ 15
theorem ok_ev {cs : List Clk} {i : Int} (h0 : 0 ≤ i) (h1 : i < ((evs 0 cs).length : Nat)) : ∃ e, (evs 0 cs)[i.toNat]? = some e ∧ EvOk cs e ∧ atI ((evs 0 cs).map evd) i = some (evd e) := by
  have h : i.toNat < (evs 0 cs).length := by omega
  refine ⟨(evs 0 cs)[i.toNat], List.getElem?_eq_getElem h, (evs_iff cs _).mp (List.getElem_mem h), ?_⟩
  obtain ⟨_, e⟩ := atI_lt (xs := (evs 0 cs).map evd) h0 (by rw [List.length_map]; omega)
  rw [e, List.getElem_map]
theorem evs_nodup : ∀ (cs : List Clk) (i : Nat), (evs i cs).Nodup
  | [], _ => List.nodup_nil
  | c :: cs, i => by
    unfold evs
    refine List.nodup_append.mpr ⟨?_, evs_nodup cs (i + 1), ?_⟩
    · refine List.Pairwise.map _ (fun a b hab z => hab ?_) List.nodup_range
      simpa using z
    · intro a ha b hb z
      subst z
      obtain ⟨j, _, rfl⟩ := List.mem_map.mp ha
      obtain ⟨k, h, _⟩ := (evs_mem _ cs (i + 1)).mp hb
      simp only at h
      omega
theorem law_letter_ok (ns : List Int) (hl : ns.length ≤ 63) (at_ : Int) (cs : List Clk) (hc : ∀ c ∈ cs, c.rs.length ≤ 4) (hn : cs.length ≤ 10) : F_law_letter [scD ns, .int at_, .tuple (cs.map Clk.d)] = .ok .none ∨ ∃ l : Ltr, F_law_letter [scD ns, .int at_, .tuple (cs.map Clk.d)] = .ok l.d ∧ l.Gen cs := by
  have er := law_events_ok cs hc hn
  by_cases h2 : (((evs 0 cs).length : Nat) : Int) < 2
  · left
    unfold F_law_letter M_law_letter
    simp only [runF_3, List.reduceReplicate, Nat.reduceSub]
    simp [er, h2]
  · right
    obtain ⟨a, a0, a1, ea⟩ := law_drawn_ok ns hl at_ ((evs 0 cs).length : Nat) (by omega)
    obtain ⟨b, b0, b1, eb⟩ := law_drawn_ok ns hl (at_ + 1) (((evs 0 cs).length : Nat) - 1) (by omega)
    obtain ⟨c, c0, c1, ec⟩ := law_drawn_ok ns hl (at_ + 2) 8 (by omega)
    obtain ⟨d, d0, d1, ed⟩ := law_drawn_ok ns hl (at_ + 3) 3 (by omega)
    obtain ⟨e, e0, e1, ee⟩ := law_drawn_ok ns hl (at_ + 4) 9 (by omega)
    have o0 := Int.emod_nonneg (a + 1 + b) (show (((evs 0 cs).length : Nat) : Int) ≠ 0 by omega)
    have o1 := Int.emod_lt_of_pos (a + 1 + b) (show (0 : Int) < ((evs 0 cs).length : Nat) by omega)
    have one : (a + 1 + b) % (((evs 0 cs).length : Nat) : Int) ≠ a := by
      intro z
      by_cases q : a + 1 + b < ((evs 0 cs).length : Nat)
      · rw [Int.emod_eq_of_lt (by omega) q] at z
        omega
      · have : (a + 1 + b) % (((evs 0 cs).length : Nat) : Int) = (a + 1 + b) - ((evs 0 cs).length : Nat) := by
          rw [← Int.sub_emod_right, Int.emod_eq_of_lt (by omega) (by omega)]
        omega
    have em := dMod_i (a + 1 + b) ((evs 0 cs).length : Nat) (by omega)
    generalize ho : (a + 1 + b) % (((evs 0 cs).length : Nat) : Int) = o at o0 o1 one em
    obtain ⟨p, p1, p2, p3⟩ := ok_ev (cs := cs) a0 a1
    obtain ⟨q, q1, q2, q3⟩ := ok_ev (cs := cs) o0 o1
    have ne : p ≠ q := by
      intro z
      subst z
      have nd := evs_nodup cs 0
      have i1 := (List.getElem?_eq_some_iff.mp p1)
      have i2 := (List.getElem?_eq_some_iff.mp q1)
      have := (List.getElem_inj nd).mp (i1.2.trans i2.2.symm)
      omega
    refine ⟨⟨p, q, c, if d == 0 then none else some (c + e)⟩, ?_, ⟨⟨p2, q2, ne, c0, by show c ≤ 999; omega, fun h z => ?_⟩, by show c ≤ 7; omega, fun h z => ?_⟩⟩
    · unfold F_law_letter M_law_letter
      simp only [runF_3, List.reduceReplicate, Nat.reduceSub]
      by_cases hd : d = 0
      · simp [er, h2, ea, eb, ec, ed, ee, em, p3, q3, hd, Ltr.d, optD]
      · simp [er, h2, ea, eb, ec, ed, ee, em, p3, q3, hd, Ltr.d, optD]
    · show c ≤ h ∧ h ≤ 999
      simp only at z
      split at z
      · cases z
      · cases z; omega
    · simp only at z
      split at z
      · cases z
      · cases z; omega
end Fc
set_option Elab.async false
set_option linter.all false
set_option maxRecDepth 100000
set_option maxHeartbeats 2000000
namespace Fc
open PySem L2 Evl PySem.Spec PyProof.Rows
/-! ### the law's record -/
structure Rec.Gen (most : Nat) (r : Rec) : Prop where
  c1 : 1 ≤ r.cs.length
  c3 : r.cs.length ≤ 3
  cs : ∀ c ∈ r.cs, c.Gen
  lm : r.ls.length ≤ most
  ls : ∀ l ∈ r.ls, l.Gen r.cs
theorem Rec.Gen.ok {most : Nat} {r : Rec} (g : r.Gen most) (h : most ≤ 8) : r.Ok :=
  ⟨g.c1, Nat.le_trans g.c3 (by decide), fun c hc => (g.cs c hc).ok, Nat.le_trans g.lm h, fun l hl => (g.ls l hl).ok⟩
theorem C_law_record_1_ok (ns : List Int) (hl : ns.length ≤ 63) (at_ : Int) (s2 s3 s4 s5 s6 : Slot) : ∃ cs : List Clk, C_law_record_1 [.fz (scD ns), .fz (.int at_), s2, s3, s4, s5, s6] = .ok (.list (cs.map Clk.d)) ∧ 1 ≤ cs.length ∧ cs.length ≤ 3 ∧ ∀ c ∈ cs, c.Gen := by
  obtain ⟨a, a0, a1, ea⟩ := law_drawn_ok ns hl at_ 3 (by omega)
  obtain ⟨f, hf⟩ := Classical.skolem.mp fun k : Nat => law_clock_ok ns hl (at_ + 1 + 8 * (k : Int))
  refine ⟨(List.range (1 + a).toNat).map f, ?_, by simp; omega, by simp; omega, fun c hc => ?_⟩
  · have h : (.list (((List.range (1 + a).toNat).map f).map Clk.d) : D) = .list ((rngD 0 (1 + a).toNat).filterMap fun d => some (match d with | .int k => (f k.toNat).d | _ => .none)) := by
      rw [fm_some, rngD_map]
      simp only [List.map_map]
      congr 1
    rw [h]
    refine eLc_map (by simp [ea, dRng1_i (1 + a) (by omega)]) (fun x hx => ?_) (by rw [rng_len]; omega)
    obtain ⟨k, hk, rfl⟩ := rng_mem hx
    rw [lcStep_eq]
    have e := (hf k).1
    have em := dMul_i 8 (k : Int) (by simp)
    simp only [wipeE, gN_eq, List.set_cons_succ, List.set_cons_zero]
    rw [lcK_map (b := true) (d := (f k).d) rfl fun _ => by simp [e, em]]
    simp
  · obtain ⟨k, _, rfl⟩ := List.mem_map.mp hc
    exact (hf k).2
theorem dMul_l (x : D) (b : Bool) : dMul (.list [x]) (.int (if b = true then 1 else 0)) = .ok (.list (if b = true then [x] else [])) := by
  cases b <;> rfl
theorem law_record_ok (ns : List Int) (hl : ns.length ≤ 63) (at_ : Int) (most : Nat) (hm : most ≤ 1000) : ∃ r : Rec, F_law_record [scD ns, .int at_, .int (most : Nat)] = .ok r.d ∧ r.Gen most := by
  obtain ⟨cs, ec, c1, c3, hc⟩ := C_law_record_1_ok ns hl at_ (.fz (.int (most : Nat))) .un .un .un .un
  obtain ⟨a, a0, a1, ea⟩ := law_drawn_ok ns hl (at_ + 30) ((most : Nat) + 1) (by omega)
  have loop : ∃ (ls : List Ltr) (s5 s6 : Slot), L_law_record_1 [.fz (scD ns), .fz (.int at_), .fz (.int (most : Nat)), .fz (.tuple (cs.map Clk.d)), .fz (.list []), .un, .un] = .nx [.fz (scD ns), .fz (.int at_), .fz (.int (most : Nat)), .fz (.tuple (cs.map Clk.d)), .fz (.list (ls.map Ltr.d)), s5, s6] ∧ ls.length ≤ most ∧ ∀ l ∈ ls, l.Gen cs := by
    refine sFor_post (ds := rngD 0 a.toNat) (Post := fun r => ∃ (ls : List Ltr) (s5 s6 : Slot), r = .nx [.fz (scD ns), .fz (.int at_), .fz (.int (most : Nat)), .fz (.tuple (cs.map Clk.d)), .fz (.list (ls.map Ltr.d)), s5, s6] ∧ ls.length ≤ most ∧ ∀ l ∈ ls, l.Gen cs)
      (by simp [ea, dRng1_i a (by omega)])
      (fun ds ρ => ∃ (ls : List Ltr) (s5 s6 : Slot), ρ = [.fz (scD ns), .fz (.int at_), .fz (.int (most : Nat)), .fz (.tuple (cs.map Clk.d)), .fz (.list (ls.map Ltr.d)), s5, s6] ∧ ls.length + ds.length ≤ most ∧ (∀ l ∈ ls, l.Gen cs) ∧ ∀ x ∈ ds, ∃ k : Nat, x = .int (k : Nat)) ?_ ?_ ?_
    · refine ⟨[], .un, .un, rfl, by rw [rng_len]; simp only [List.length_nil]; omega, by simp, fun x hx => ?_⟩
      obtain ⟨k, _, e⟩ := rng_mem hx
      exact ⟨k, e⟩
    · rintro ρ ⟨ls, s5, s6, rfl, h1, h2, _⟩
      exact ⟨ls, s5, s6, rfl, by simpa using h1, h2⟩
    · rintro x ds ρ ⟨ls, s5, s6, rfl, h1, h2, h3⟩
      obtain ⟨k, rfl⟩ := h3 x (by simp)
      refine ⟨_, gN_eq _ _ _, ?_⟩
      simp only [List.set_cons_succ, List.set_cons_zero]
      rw [List.length_cons] at h1
      have em := dMul_i 6 (k : Int) (by simp)
      rcases law_letter_ok ns hl (at_ + 31 + 6 * (k : Int)) cs (fun c h => (hc c h).ok.l4) (by omega) with e | ⟨l, e, hg⟩
      · have hB : B_law_record_1 [.fz (scD ns), .fz (.int at_), .fz (.int (most : Nat)), .fz (.tuple (cs.map Clk.d)), .fz (.list (ls.map Ltr.d)), .fz (.int (k : Nat)), s6] = .nx [.fz (scD ns), .fz (.int at_), .fz (.int (most : Nat)), .fz (.tuple (cs.map Clk.d)), .fz (.list (ls.map Ltr.d)), .fz (.int (k : Nat)), .fz .none] := by
          have e2 : dAdd (.list (ls.map Ltr.d)) (.list []) = .ok (.list (ls.map Ltr.d)) := by
            rw [dAdd_l _ _ (by simp only [List.length_map, List.length_nil]; omega), List.append_nil]
          have e3 := dMul_l .none false
          simp only [Bool.false_eq_true, if_false] at e3
          unfold B_law_record_1
          simp [e, em, e2, e3, dInt]
        rw [hB]
        exact ⟨ls, _, _, rfl, by omega, h2, fun y hy => h3 y (List.mem_cons_of_mem _ hy)⟩
      · have hB : B_law_record_1 [.fz (scD ns), .fz (.int at_), .fz (.int (most : Nat)), .fz (.tuple (cs.map Clk.d)), .fz (.list (ls.map Ltr.d)), .fz (.int (k : Nat)), s6] = .nx [.fz (scD ns), .fz (.int at_), .fz (.int (most : Nat)), .fz (.tuple (cs.map Clk.d)), .fz (.list ((ls ++ [l]).map Ltr.d)), .fz (.int (k : Nat)), .fz l.d] := by
          have e2 : dAdd (.list (ls.map Ltr.d)) (.list [l.d]) = .ok (.list ((ls ++ [l]).map Ltr.d)) := by
            rw [dAdd_l _ _ (by simp only [List.length_map, List.length_cons, List.length_nil]; omega), List.map_append]
            rfl
          have e3 := dMul_l l.d true
          simp only [if_true] at e3
          have e4 : isN l.d = false := rfl
          generalize hG : (ls ++ [l]).map Ltr.d = G at e2
          unfold B_law_record_1
          simp [e, em, e2, e3, e4, dInt]
        rw [hB]
        refine ⟨ls ++ [l], _, _, rfl, by simp; omega, fun x hx => ?_, fun y hy => h3 y (List.mem_cons_of_mem _ hy)⟩
        rcases List.mem_append.mp hx with z | z
        · exact h2 x z
        · simp only [List.mem_cons, List.not_mem_nil, or_false] at z
          rw [z]; exact hg
  obtain ⟨ls, s5, s6, hL, h1, h2⟩ := loop
  refine ⟨⟨cs, ls⟩, ?_, ⟨c1, c3, hc, h1, h2⟩⟩
  unfold F_law_record M_law_record
  simp only [runF_3, List.reduceReplicate, Nat.reduceSub]
  simp [ec, hL, dTupOf, Rec.d]
/-! records are of a bounded shape -/
theorem clk_gd {c : Clk} (h : c.rs.length ≤ 4) : gd 10 2 c.d = true := by
  refine gdTup (by simp) fun x hx => ?_
  simp only [List.mem_cons, List.not_mem_nil, or_false] at hx
  rcases hx with rfl | rfl | rfl
  · rfl
  · rfl
  · exact gdTup (by simpa using Nat.le_trans h (by decide)) fun y hy => by
      obtain ⟨i, _, rfl⟩ := List.mem_map.mp hy
      rfl
theorem ltr_gd (l : Ltr) : gd 10 2 l.d = true := by
  refine gdTup (by simp) fun x hx => ?_
  simp only [List.mem_cons, List.not_mem_nil, or_false] at hx
  rcases hx with rfl | rfl | rfl | rfl
  · exact gd_mono (by decide) (Nat.le_refl _) (evd_gd _)
  · exact gd_mono (by decide) (Nat.le_refl _) (evd_gd _)
  · rfl
  · cases l.hi <;> rfl
theorem rec_gd {r : Rec} (hc : ∀ c ∈ r.cs, c.rs.length ≤ 4) (h1 : r.cs.length ≤ 10) (h2 : r.ls.length ≤ 10) : gd 10 4 r.d = true := by
  refine gdTup (by simp) fun x hx => ?_
  simp only [List.mem_cons, List.not_mem_nil, or_false] at hx
  rcases hx with rfl | rfl
  · exact gdTup (by simpa using h1) fun y hy => by
      obtain ⟨c, h, rfl⟩ := List.mem_map.mp hy
      exact clk_gd (hc c h)
  · exact gdTup (by simpa using h2) fun y hy => by
      obtain ⟨c, h, rfl⟩ := List.mem_map.mp hy
      exact ltr_gd c
end Fc
set_option Elab.async false
set_option linter.all false
set_option maxRecDepth 100000
set_option maxHeartbeats 2000000
namespace Fc
open PySem L2 Evl PySem.Spec PyProof.Rows
/-! ### the program: need_record, events, bounds -/
@[simp] theorem sRaise_eq (c : Str) (ρ : En) : sRaise c ρ = .er c ρ := rfl
theorem need_rec_ok {r : Rec} (o : r.Ok) : F_need_record [r.d] = .ok .none := by
  obtain ⟨b, e, h⟩ := is_record_ok (w := 10) (n := 4) (rec_gd (fun c hc => (o.cs c hc).l4) (Nat.le_trans o.c4 (by decide)) (Nat.le_trans o.l8 (by decide))) (by decide)
  have hb : b = true := h.mpr ⟨r, o, rfl⟩
  subst hb
  unfold F_need_record M_need_record
  simp [runF_1, e]
theorem need_rec_no {w n : Nat} {x : D} (g : gd w n x = true) (hn : n ≤ 64) (h : ¬ recB x) : F_need_record [x] = .er "NoRecord" := by
  obtain ⟨b, e, h2⟩ := is_record_ok g hn
  cases b with
  | true => exact absurd (h2.mp rfl) h
  | false =>
    unfold F_need_record M_need_record
    simp [runF_1, e]
def sOwnK (s : Option Slot) (k : List D → RS) : RS := match s with
  | some (.ow (.list ds)) => k ds
  | _ => .bad
@[simp] theorem sOwnK_ow (ds : List D) (k : List D → RS) : sOwnK (some (.ow (.list ds))) k = k ds := rfl
@[simp] theorem sExt_eq (i : Nat) (m : DE) (ρ : En) : sExt i m ρ = sOwnK ρ[i]? fun ds => rK (m ρ) (fun d => match d with
    | .list es => if szB (ds.length + es.length) = true then .nx (ρ.set i (.ow (.list (ds ++ es)))) else .bad
    | _ => .bad) ρ := by
  unfold sExt sOwnK sE rK
  rfl
@[simp] theorem sApp_eq (i : Nat) (m : DE) (ρ : En) : sApp i m ρ = sOwnK ρ[i]? fun ds => rK (m ρ) (fun d => if szB (ds.length + 1) = true then .nx (ρ.set i (.ow (.list (ds ++ [d])))) else .bad) ρ := by
  unfold sApp sOwnK sE rK
  rfl
theorem C_events_1_ok (i : Nat) (c : Clk) (hc : c.rs.length ≤ 4) (s0 s1 s4 : Slot) : C_events_1 [s0, s1, .fz (.int (i : Nat)), .fz c.d, s4] = .ok (.list (((List.range c.rs.length).map fun j => (i, j)).map evd)) := C_law_events_1_ok i c hc s0 s1 s4
theorem events_ok {r : Rec} (o : r.Ok) : F_events [r.d] = .ok (.list ((evs 0 r.cs).map evd)) := by
  have hc : ∀ c ∈ r.cs, c.rs.length ≤ 4 := fun c h => (o.cs c h).l4
  have hl := o.c4
  have loop : ∀ s2 s3 s4, ∃ a b c, L_events_1 [.fz r.d, .ow (.list []), s2, s3, s4] = .nx [.fz r.d, .ow (.list ((evs 0 r.cs).map evd)), a, b, c] := by
    intro s2 s3 s4
    refine sFor_post (ds := enumD 0 (r.cs.map Clk.d)) (Post := fun q => ∃ a b c, q = .nx [.fz r.d, .ow (.list ((evs 0 r.cs).map evd)), a, b, c]) (by simp [dEnum, Rec.d])
      (fun ds ρ => ∃ (i : Nat) (cs' : List Clk) (pre : List Ev) (a b c : Slot), ds = enumD i (cs'.map Clk.d) ∧ ρ = [.fz r.d, .ow (.list (pre.map evd)), a, b, c] ∧ pre ++ evs i cs' = evs 0 r.cs ∧ ∀ c ∈ cs', c.rs.length ≤ 4) ⟨0, r.cs, [], s2, s3, s4, rfl, rfl, rfl, hc⟩ ?_ ?_
    · rintro ρ ⟨i, cs', pre, a, b, c, h1, h2, h3, _⟩
      cases cs' with
      | nil =>
        rw [h2]
        have : pre = evs 0 r.cs := by rw [← h3]; simp [evs]
        rw [this]
        exact ⟨a, b, c, rfl⟩
      | cons x xs => cases h1
    · rintro d ds ρ ⟨i, cs', pre, a, b, c, h1, h2, h3, h4⟩
      cases cs' with
      | nil => cases h1
      | cons x xs =>
        simp only [List.map_cons, enumD, List.cons.injEq] at h1
        obtain ⟨rfl, rfl⟩ := h1
        subst h2
        refine ⟨_, gTup2 2 3 _ _ _, ?_⟩
        have hx := h4 x (by simp)
        have e1 := C_events_1_ok i x hx (.fz r.d) (.ow (.list (pre.map evd))) c
        have hlen := evs_len r.cs 0 hc
        rw [← h3] at hlen
        simp only [List.length_append, evs, List.length_map, List.length_range] at hlen
        simp only [List.set_cons_succ, List.set_cons_zero]
        have hB : B_events_1 [.fz r.d, .ow (.list (pre.map evd)), .fz (.int (i : Nat)), .fz x.d, c] = .nx [.fz r.d, .ow (.list ((pre ++ (List.range x.rs.length).map fun j => (i, j)).map evd)), .fz (.int (i : Nat)), .fz x.d, c] := by
          have hz : pre.length + x.rs.length ≤ 100000 := by omega
          unfold B_events_1
          rw [List.map_append]
          simp only [sExt_eq, List.getElem?_cons_zero, List.getElem?_cons_succ, sOwnK_ow, e1, rK_ok, szB_lit, List.length_map, List.length_range, decide_eq_true hz, if_true, List.set_cons_succ, List.set_cons_zero]
        rw [hB]
        refine ⟨i + 1, xs, _, _, _, _, rfl, rfl, ?_, fun y hy => h4 y (List.mem_cons_of_mem _ hy)⟩
        rw [List.append_assoc]
        exact h3
  obtain ⟨a, b, c, hL⟩ := loop .un .un .un
  have hn := need_rec_ok o
  unfold F_events M_events
  simp only [runF_1, List.reduceReplicate, Nat.reduceSub]
  simp [hn, hL, frz]
end Fc
set_option Elab.async false
set_option linter.all false
set_option maxRecDepth 100000
set_option maxHeartbeats 2000000
namespace Fc
open PySem L2 Evl PySem.Spec PyProof.Rows
/-! ### the bounds -/
abbrev Bnd := Ev × Ev × Int
def bdD (b : Bnd) : D := .tuple [evd b.1, evd b.2.1, .int b.2.2]
def clkBs (i : Nat) (slow fast : Int) : Nat → List Int → List Bnd
  | j, a :: b :: r => ((i, j), (i, j + 1), (b - a) * fast) :: ((i, j + 1), (i, j), 0 - (b - a) * slow) :: clkBs i slow fast (j + 1) (b :: r)
  | _, _ => []
theorem clkBs_len (i : Nat) (slow fast : Int) : ∀ (rs : List Int) (j : Nat), (clkBs i slow fast j rs).length ≤ 2 * rs.length
  | [], _ => by simp [clkBs]
  | [a], _ => by simp [clkBs]
  | a :: b :: r, j => by
    have := clkBs_len i slow fast (b :: r) (j + 1)
    simp only [clkBs, List.length_cons] at this ⊢
    omega
def asgK (o : Option En) : RS := match o with
  | some ρ => .nx ρ
  | none => .bad
@[simp] theorem asgK_s (ρ : En) : asgK (some ρ) = .nx ρ := rfl
@[simp] theorem sAsgG_eq (g : DG) (m : DE) (ρ : En) : sAsgG g m ρ = rK (m ρ) (fun d => asgK (g d ρ)) ρ := by
  unfold sAsgG sE rK asgK
  cases m ρ with
  | ok d =>
    simp only <;> (cases g d ρ <;> rfl)
  | er c => rfl
  | bad => rfl
@[simp] theorem gTup3 (i j k : Nat) (a b c : D) (ρ : En) : gTupD 3 (gConsD (gN i) (gConsD (gN j) (gConsD (gN k) gNilD))) (.tuple [a, b, c]) ρ = some (((ρ.set i (.fz a)).set j (.fz b)).set k (.fz c)) := rfl
@[simp] theorem gTup4 (i j k l : Nat) (a b c d : D) (ρ : En) : gTupD 4 (gConsD (gN i) (gConsD (gN j) (gConsD (gN k) (gConsD (gN l) gNilD)))) (.tuple [a, b, c, d]) ρ = some ((((ρ.set i (.fz a)).set j (.fz b)).set k (.fz c)).set l (.fz d)) := rfl
theorem clock_bounds_ok (i : Nat) (c : Clk) (o : c.Ok) : F_clock_bounds [.int (i : Nat), c.d] = .ok (.list ((clkBs i c.slow c.fast 0 c.rs).map bdD)) := by
  have hs : -(2 ^ 64) < c.slow ∧ c.slow < 2 ^ 64 := by have := o.s1; have := o.sf; have := o.f9; omega
  have hf : -(2 ^ 64) < c.fast ∧ c.fast < 2 ^ 64 := by have := o.s1; have := o.sf; have := o.f9; omega
  have hw := clkBs_len i c.slow c.fast c.rs 0
  have h4 := o.l4
  have loop : ∃ a b d : Slot, L_clock_bounds_1 [.fz (.int (i : Nat)), .fz c.d, .fz (.int c.slow), .fz (.int c.fast), .fz (.tuple (c.rs.map PyData.int)), .ow (.list []), .un, .un, .un] = .nx [.fz (.int (i : Nat)), .fz c.d, .fz (.int c.slow), .fz (.int c.fast), .fz (.tuple (c.rs.map PyData.int)), .ow (.list ((clkBs i c.slow c.fast 0 c.rs).map bdD)), a, b, d] := by
    refine sFor_post (ds := enumD 0 (zipD (c.rs.map PyData.int) ((c.rs.map PyData.int).drop 1))) (Post := fun q => ∃ a b d : Slot, q = .nx [.fz (.int (i : Nat)), .fz c.d, .fz (.int c.slow), .fz (.int c.fast), .fz (.tuple (c.rs.map PyData.int)), .ow (.list ((clkBs i c.slow c.fast 0 c.rs).map bdD)), a, b, d]) (by simp [cutL_1, dEnumZip])
      (fun ds ρ => ∃ (j : Nat) (rest : List Int) (pre : List Bnd) (a b d : Slot), ds = enumD j (zipD (rest.map PyData.int) ((rest.map PyData.int).drop 1)) ∧ ρ = [.fz (.int (i : Nat)), .fz c.d, .fz (.int c.slow), .fz (.int c.fast), .fz (.tuple (c.rs.map PyData.int)), .ow (.list (pre.map bdD)), a, b, d] ∧ pre ++ clkBs i c.slow c.fast j rest = clkBs i c.slow c.fast 0 c.rs) ⟨0, c.rs, [], .un, .un, .un, rfl, rfl, rfl⟩ ?_ ?_
    · rintro ρ ⟨j, rest, pre, a, b, d, h1, h2, h3⟩
      have hr : clkBs i c.slow c.fast j rest = [] := by
        match rest, h1 with
        | [], _ => rfl
        | [_], _ => rfl
        | _ :: _ :: _, h1 => cases h1
      rw [hr, List.append_nil] at h3
      exact ⟨a, b, d, by rw [h2, h3]⟩
    · rintro x ds ρ ⟨j, rest, pre, a, b, d, h1, h2, h3⟩
      match rest, h1, h3 with
      | [], h1, _ => cases h1
      | [_], h1, _ => cases h1
      | r0 :: r1 :: rest, h1, h3 =>
        simp only [List.map_cons, List.drop_succ_cons, List.drop_zero, zipD, enumD, List.cons.injEq] at h1
        obtain ⟨rfl, rfl⟩ := h1
        subst h2
        refine ⟨_, gTup2 6 7 _ _ _, ?_⟩
        simp only [List.set_cons_succ, List.set_cons_zero]
        rw [← h3] at hw
        simp only [List.length_append, clkBs, List.length_cons] at hw
        have z1 : pre.length ≤ 99999 := by omega
        have z2 : pre.length ≤ 99998 := by omega
        have m1 := dMul_i (r1 - r0) c.fast (by rw [Bool.or_eq_true]; exact .inr (decide_eq_true hf))
        have m2 := dMul_i (r1 - r0) c.slow (by rw [Bool.or_eq_true]; exact .inr (decide_eq_true hs))
        have hB : B_clock_bounds_1 [.fz (.int (i : Nat)), .fz c.d, .fz (.int c.slow), .fz (.int c.fast), .fz (.tuple (c.rs.map PyData.int)), .ow (.list (pre.map bdD)), .fz (.int (j : Nat)), .fz (.tuple [.int r0, .int r1]), d] =
            .nx [.fz (.int (i : Nat)), .fz c.d, .fz (.int c.slow), .fz (.int c.fast), .fz (.tuple (c.rs.map PyData.int)), .ow (.list ((pre ++ [((i, j), (i, j + 1), (r1 - r0) * c.fast), ((i, j + 1), (i, j), 0 - (r1 - r0) * c.slow)]).map bdD)), .fz (.int (j : Nat)), .fz (.tuple [.int r0, .int r1]), .fz (.int (r1 - r0))] := by
          unfold B_clock_bounds_1
          rw [List.map_append]
          generalize c.d = C
          generalize c.rs.map PyData.int = R
          simp [m1, m2, z1, z2, bdD, evd]
        rw [hB]
        refine ⟨j + 1, r1 :: rest, _, _, _, _, rfl, rfl, ?_⟩
        rw [List.append_assoc]
        exact h3
  obtain ⟨a, b, d, hL⟩ := loop
  unfold F_clock_bounds M_clock_bounds
  simp only [runF_2, List.reduceReplicate, Nat.reduceSub]
  have hd : c.d = .tuple [.int c.slow, .int c.fast, .tuple (c.rs.map PyData.int)] := rfl
  rw [hd] at hL ⊢
  simp [hL, frz]
def ltrBs (l : Ltr) : List Bnd := (l.b, l.a, 0 - l.lo) :: (match l.hi with
  | some h => [(l.a, l.b, h)]
  | none => [])
theorem letter_bounds_ok (l : Ltr) : F_letter_bounds [l.d] = .ok (.list ((ltrBs l).map bdD)) := by
  have hadd : ∀ x y : D, dAdd (.list [x]) (.list [y]) = .ok (.list [x, y]) := fun x y => dAdd_l _ _ (by simp)
  unfold F_letter_bounds M_letter_bounds
  simp only [runF_1, List.reduceReplicate, Nat.reduceSub]
  cases hh : l.hi with
  | none => simp [Ltr.d, hh, optD, ltrBs, bdD]
  | some h => simp [Ltr.d, hh, optD, ltrBs, bdD, hadd]
def csBs (i : Nat) : List Clk → List Bnd
  | [] => []
  | c :: cs => clkBs i c.slow c.fast 0 c.rs ++ csBs (i + 1) cs
def lsBs : List Ltr → List Bnd
  | [] => []
  | l :: ls => ltrBs l ++ lsBs ls
def recBs (r : Rec) : List Bnd := csBs 0 r.cs ++ lsBs r.ls
theorem csBs_len : ∀ (cs : List Clk) (i : Nat), (∀ c ∈ cs, c.Ok) → (csBs i cs).length ≤ 8 * cs.length
  | [], _, _ => Nat.zero_le _
  | c :: cs, i, h => by
    have h1 := clkBs_len i c.slow c.fast c.rs 0
    have h2 := (h c (by simp)).l4
    have h3 := csBs_len cs (i + 1) fun x hx => h x (List.mem_cons_of_mem _ hx)
    unfold csBs
    rw [List.length_append, List.length_cons]
    omega
theorem ltrBs_len (l : Ltr) : (ltrBs l).length ≤ 2 := by
  unfold ltrBs
  cases l.hi <;> simp
theorem lsBs_len : ∀ (ls : List Ltr), (lsBs ls).length ≤ 2 * ls.length
  | [] => Nat.zero_le _
  | l :: ls => by
    have h1 := ltrBs_len l
    have h3 := lsBs_len ls
    unfold lsBs
    rw [List.length_append, List.length_cons]
    omega
theorem bounds_ok {r : Rec} (o : r.Ok) : F_bounds [r.d] = .ok (.list ((recBs r).map bdD)) := by
  have hcl := csBs_len r.cs 0 o.cs
  have hll := lsBs_len r.ls
  have c4 := o.c4
  have l8 := o.l8
  have loop1 : ∀ s2 s3 s4, ∃ a b c, L_bounds_1 [.fz r.d, .ow (.list []), s2, s3, s4] = .nx [.fz r.d, .ow (.list ((csBs 0 r.cs).map bdD)), a, b, c] := by
    intro s2 s3 s4
    refine sFor_post (ds := enumD 0 (r.cs.map Clk.d)) (Post := fun q => ∃ a b c, q = .nx [.fz r.d, .ow (.list ((csBs 0 r.cs).map bdD)), a, b, c]) (by simp [dEnum, Rec.d])
      (fun ds ρ => ∃ (i : Nat) (cs' : List Clk) (pre : List Bnd) (a b c : Slot), ds = enumD i (cs'.map Clk.d) ∧ ρ = [.fz r.d, .ow (.list (pre.map bdD)), a, b, c] ∧ pre ++ csBs i cs' = csBs 0 r.cs ∧ ∀ c ∈ cs', c.Ok) ⟨0, r.cs, [], s2, s3, s4, rfl, rfl, rfl, o.cs⟩ ?_ ?_
    · rintro ρ ⟨i, cs', pre, a, b, c, h1, h2, h3, _⟩
      cases cs' with
      | nil =>
        rw [h2]
        have : pre = csBs 0 r.cs := by rw [← h3]; simp [csBs]
        rw [this]
        exact ⟨a, b, c, rfl⟩
      | cons x xs => cases h1
    · rintro d ds ρ ⟨i, cs', pre, a, b, c, h1, h2, h3, h4⟩
      cases cs' with
      | nil => cases h1
      | cons x xs =>
        simp only [List.map_cons, enumD, List.cons.injEq] at h1
        obtain ⟨rfl, rfl⟩ := h1
        subst h2
        refine ⟨_, gTup2 2 3 _ _ _, ?_⟩
        have e1 := clock_bounds_ok i x (h4 x (by simp))
        rw [← h3] at hcl
        simp only [List.length_append, csBs] at hcl
        simp only [List.set_cons_succ, List.set_cons_zero]
        have hB : B_bounds_1 [.fz r.d, .ow (.list (pre.map bdD)), .fz (.int (i : Nat)), .fz x.d, c] = .nx [.fz r.d, .ow (.list ((pre ++ clkBs i x.slow x.fast 0 x.rs).map bdD)), .fz (.int (i : Nat)), .fz x.d, c] := by
          have hz : pre.length + (clkBs i x.slow x.fast 0 x.rs).length ≤ 100000 := by omega
          unfold B_bounds_1
          rw [List.map_append]
          simp only [sExt_eq, eDef_eq, aCons_eq, aNil_eq, eV_eq, rdV_fz, R.bind_ok, List.getElem?_cons_zero, List.getElem?_cons_succ, sOwnK_ow, e1, rK_ok, szB_lit, List.length_map, decide_eq_true hz, if_true, List.set_cons_succ, List.set_cons_zero]
        rw [hB]
        refine ⟨i + 1, xs, _, _, _, _, rfl, rfl, ?_, fun y hy => h4 y (List.mem_cons_of_mem _ hy)⟩
        rw [List.append_assoc]
        exact h3
  have loop2 : ∀ s2 s3 s4, ∃ a b c, L_bounds_2 [.fz r.d, .ow (.list ((csBs 0 r.cs).map bdD)), s2, s3, s4] = .nx [.fz r.d, .ow (.list ((recBs r).map bdD)), a, b, c] := by
    intro s2 s3 s4
    refine sFor_post (ds := r.ls.map Ltr.d) (Post := fun q => ∃ a b c, q = .nx [.fz r.d, .ow (.list ((recBs r).map bdD)), a, b, c]) (by simp [Rec.d])
      (fun ds ρ => ∃ (ls : List Ltr) (pre : List Bnd) (a b c : Slot), ds = ls.map Ltr.d ∧ ρ = [.fz r.d, .ow (.list (pre.map bdD)), a, b, c] ∧ pre ++ lsBs ls = recBs r) ⟨r.ls, csBs 0 r.cs, s2, s3, s4, rfl, rfl, rfl⟩ ?_ ?_
    · rintro ρ ⟨ls, pre, a, b, c, h1, h2, h3⟩
      cases ls with
      | nil =>
        rw [h2]
        have : pre = recBs r := by rw [← h3]; simp [lsBs]
        rw [this]
        exact ⟨a, b, c, rfl⟩
      | cons x xs => cases h1
    · rintro d ds ρ ⟨ls, pre, a, b, c, h1, h2, h3⟩
      cases ls with
      | nil => cases h1
      | cons x xs =>
        simp only [List.map_cons, List.cons.injEq] at h1
        obtain ⟨rfl, rfl⟩ := h1
        subst h2
        refine ⟨_, gN_eq _ _ _, ?_⟩
        have e1 := letter_bounds_ok x
        have hw : (recBs r).length ≤ 100 := by unfold recBs; rw [List.length_append]; omega
        rw [← h3] at hw
        simp only [List.length_append, lsBs] at hw
        simp only [List.set_cons_succ, List.set_cons_zero]
        have hB : B_bounds_2 [.fz r.d, .ow (.list (pre.map bdD)), a, b, .fz x.d] = .nx [.fz r.d, .ow (.list ((pre ++ ltrBs x).map bdD)), a, b, .fz x.d] := by
          have hz : pre.length + (ltrBs x).length ≤ 100000 := by omega
          unfold B_bounds_2
          rw [List.map_append]
          simp only [sExt_eq, eDef_eq, aCons_eq, aNil_eq, eV_eq, rdV_fz, R.bind_ok, List.getElem?_cons_zero, List.getElem?_cons_succ, sOwnK_ow, e1, rK_ok, szB_lit, List.length_map, decide_eq_true hz, if_true, List.set_cons_succ, List.set_cons_zero]
        rw [hB]
        refine ⟨xs, _, _, _, _, rfl, rfl, ?_⟩
        rw [List.append_assoc]
        exact h3
  obtain ⟨a, b, c, hL⟩ := loop1 .un .un .un
  obtain ⟨a2, b2, c2, hL2⟩ := loop2 a b c
  have hn := need_rec_ok o
  unfold F_bounds M_bounds
  simp only [runF_1, List.reduceReplicate, Nat.reduceSub]
  simp [hn, hL, hL2, frz]
end Fc
set_option Elab.async false
set_option linter.all false
set_option maxRecDepth 100000
set_option maxHeartbeats 2000000
namespace Fc
open PySem L2 Evl PySem.Spec PyProof.Rows
/-! ### the law's bounds -/
theorem rngD_zero (lo : Int) : rngD lo 0 = [] := rfl
theorem rngD_succ (lo : Int) (n : Nat) : rngD lo (n + 1) = .int lo :: rngD (lo + 1) n := by
  unfold rngD
  rw [List.range_succ_eq_map, List.map_cons, List.map_map]
  congr 1
  · simp
  · apply List.map_congr_left
    intro k _
    show PyData.int _ = PyData.int _
    congr 1
    push_cast
    omega
theorem L_law_bounds_1_ok (i : Nat) (c : Clk) (o : c.Ok) (pre : List Bnd) (hp : pre.length ≤ 100) (s0 s6 s7 s8 s9 s10 s11 : Slot) : ∃ a b : Slot, L_law_bounds_1 [s0, .ow (.list (pre.map bdD)), .fz (.int (i : Nat)), .fz (.int c.slow), .fz (.int c.fast), .fz (.tuple (c.rs.map PyData.int)), s6, s7, s8, s9, s10, s11] =
    .nx [s0, .ow (.list ((pre ++ clkBs i c.slow c.fast 0 c.rs).map bdD)), .fz (.int (i : Nat)), .fz (.int c.slow), .fz (.int c.fast), .fz (.tuple (c.rs.map PyData.int)), a, b, s8, s9, s10, s11] := by
  have hs : -(2 ^ 64) < c.slow ∧ c.slow < 2 ^ 64 := by have := o.s1; have := o.sf; have := o.f9; omega
  have hf : -(2 ^ 64) < c.fast ∧ c.fast < 2 ^ 64 := by have := o.s1; have := o.sf; have := o.f9; omega
  have hw := clkBs_len i c.slow c.fast c.rs 0
  have h4 := o.l4
  have h1' := o.l1
  refine sFor_post (ds := rngD 1 (c.rs.length - 1)) (Post := fun q => ∃ a b : Slot, q = .nx [s0, .ow (.list ((pre ++ clkBs i c.slow c.fast 0 c.rs).map bdD)), .fz (.int (i : Nat)), .fz (.int c.slow), .fz (.int c.fast), .fz (.tuple (c.rs.map PyData.int)), a, b, s8, s9, s10, s11]) ?_
    (fun ds ρ => ∃ (j : Nat) (p2 : List Bnd) (a b : Slot), ds = rngD ((j : Int) + 1) (c.rs.length - 1 - j) ∧ j ≤ c.rs.length - 1 ∧ ρ = [s0, .ow (.list (p2.map bdD)), .fz (.int (i : Nat)), .fz (.int c.slow), .fz (.int c.fast), .fz (.tuple (c.rs.map PyData.int)), a, b, s8, s9, s10, s11] ∧ p2 ++ clkBs i c.slow c.fast j (c.rs.drop j) = pre ++ clkBs i c.slow c.fast 0 c.rs) ⟨0, pre, s6, s7, rfl, Nat.zero_le _, rfl, rfl⟩ ?_ ?_
  · have hb : (-100000 ≤ (1 : Int) ∧ (1 : Int) ≤ 100000 ∧ -100000 ≤ ((c.rs.length : Nat) : Int) ∧ ((c.rs.length : Nat) : Int) ≤ 100000) := by omega
    have e : (((c.rs.length : Nat) : Int) - 1).toNat = c.rs.length - 1 := by omega
    simp [dRng2, hb, e]
  · rintro ρ ⟨j, p2, a, b, h1, h2, h3, h5⟩
    have hj : c.rs.length - 1 - j = 0 := by
      cases q : c.rs.length - 1 - j with
      | zero => rfl
      | succ m => rw [q, rngD_succ] at h1; cases h1
    have hj2 : c.rs.drop j = [c.rs[j]] := by
      rw [List.drop_eq_getElem_cons (by omega)]
      congr 1
      exact List.drop_eq_nil_of_le (by omega)
    rw [hj2] at h5
    simp only [clkBs, List.append_nil] at h5
    exact ⟨a, b, by rw [h3, h5]⟩
  · rintro x ds ρ ⟨j, p2, a, b, h1, h2, h3, h5⟩
    cases q : c.rs.length - 1 - j with
    | zero => rw [q] at h1; cases h1
    | succ m =>
      rw [q, rngD_succ] at h1
      simp only [List.cons.injEq] at h1
      obtain ⟨rfl, rfl⟩ := h1
      subst h3
      refine ⟨_, gN_eq _ _ _, ?_⟩
      simp only [List.set_cons_succ, List.set_cons_zero]
      have hj : j < c.rs.length := by omega
      have hj1 : j + 1 < c.rs.length := by omega
      have d1 : c.rs.drop j = c.rs[j] :: c.rs[j + 1] :: c.rs.drop (j + 2) := by
        rw [List.drop_eq_getElem_cons hj, List.drop_eq_getElem_cons hj1]
      have d2 : c.rs.drop (j + 1) = c.rs[j + 1] :: c.rs.drop (j + 2) := List.drop_eq_getElem_cons hj1
      have a1 : atI (c.rs.map PyData.int) ((j : Int) + 1) = some (.int c.rs[j + 1]) := by
        have := atI_nat (xs := c.rs.map PyData.int) (j := j + 1) (v := .int c.rs[j + 1]) (by rw [List.getElem?_map, List.getElem?_eq_getElem hj1]; rfl)
        simpa using this
      have a2 : atI (c.rs.map PyData.int) ((j : Int) + 1 - 1) = some (.int c.rs[j]) := by
        rw [show (j : Int) + 1 - 1 = (j : Int) by omega]
        exact atI_nat (by rw [List.getElem?_map, List.getElem?_eq_getElem hj]; rfl)
      have e0 : (j : Int) + 1 - 1 = (j : Int) := by omega
      have hw2 : (p2 ++ clkBs i c.slow c.fast j (c.rs.drop j)).length ≤ 200 := by rw [h5, List.length_append]; omega
      rw [d1] at hw2
      simp only [List.length_append, clkBs, List.length_cons] at hw2
      have z1 : p2.length ≤ 99999 := by omega
      have z2 : p2.length ≤ 99998 := by omega
      have m1 := dMul_i c.fast (c.rs[j + 1] - c.rs[j]) (by rw [Bool.or_eq_true]; exact .inl (decide_eq_true hf))
      have m2 := dMul_i c.slow (c.rs[j + 1] - c.rs[j]) (by rw [Bool.or_eq_true]; exact .inl (decide_eq_true hs))
      rw [Int.mul_comm c.fast] at m1
      rw [Int.mul_comm c.slow] at m2
      have hB : B_law_bounds_1 [s0, .ow (.list (p2.map bdD)), .fz (.int (i : Nat)), .fz (.int c.slow), .fz (.int c.fast), .fz (.tuple (c.rs.map PyData.int)), .fz (.int ((j : Int) + 1)), b, s8, s9, s10, s11] =
          .nx [s0, .ow (.list ((p2 ++ [((i, j), (i, j + 1), (c.rs[j + 1] - c.rs[j]) * c.fast), ((i, j + 1), (i, j), 0 - (c.rs[j + 1] - c.rs[j]) * c.slow)]).map bdD)), .fz (.int (i : Nat)), .fz (.int c.slow), .fz (.int c.fast), .fz (.tuple (c.rs.map PyData.int)), .fz (.int ((j : Int) + 1)), .fz (.int (c.rs[j + 1] - c.rs[j])), s8, s9, s10, s11] := by
        unfold B_law_bounds_1
        rw [List.map_append]
        generalize hv1 : c.rs[j + 1] = v1 at *
        generalize hv0 : c.rs[j] = v0 at *
        clear d1 d2 hv1 hv0
        generalize c.rs.map PyData.int = R at *
        simp only [e0] at a2
        simp [a1, a2, m1, m2, z1, z2, bdD, evd, e0]
      rw [hB]
      refine ⟨j + 1, _, _, _, ?_, by omega, rfl, ?_⟩
      · rw [show c.rs.length - 1 - (j + 1) = m by omega]
        push_cast
        rfl
      · rw [← h5, d1, d2, List.append_assoc]
        rfl
theorem gPair3 (i j k l : Nat) (x a b c : D) (ρ : En) : gTupD 2 (gConsD (gN i) (gConsD (gTupD 3 (gConsD (gN j) (gConsD (gN k) (gConsD (gN l) gNilD)))) gNilD)) (.tuple [x, .tuple [a, b, c]]) ρ = some ((((ρ.set i (.fz x)).set j (.fz a)).set k (.fz b)).set l (.fz c)) := rfl
/-- the law's bounds, of a record whose letters may be fewer -/
theorem law_bounds_ok (cs : List Clk) (ls : List Ltr) (oc : ∀ c ∈ cs, c.Ok) (c4 : cs.length ≤ 4) (l8 : ls.length ≤ 8) : F_law_bounds [.tuple [.tuple (cs.map Clk.d), .tuple (ls.map Ltr.d)]] = .ok (.list ((csBs 0 cs ++ lsBs ls).map bdD)) := by
  have hcl := csBs_len cs 0 oc
  have hll := lsBs_len ls
  generalize hX : (.tuple [.tuple (cs.map Clk.d), .tuple (ls.map Ltr.d)] : D) = X
  have loop1 : ∃ s2 s3 s4 s5 s6 s7 : Slot, L_law_bounds_2 [.fz X, .ow (.list []), .un, .un, .un, .un, .un, .un, .un, .un, .un, .un] = .nx [.fz X, .ow (.list ((csBs 0 cs).map bdD)), s2, s3, s4, s5, s6, s7, .un, .un, .un, .un] := by
    refine sFor_post (ds := enumD 0 (cs.map Clk.d)) (Post := fun q => ∃ s2 s3 s4 s5 s6 s7 : Slot, q = .nx [.fz X, .ow (.list ((csBs 0 cs).map bdD)), s2, s3, s4, s5, s6, s7, .un, .un, .un, .un]) (by subst hX; simp [dEnum])
      (fun ds ρ => ∃ (i : Nat) (cs' : List Clk) (pre : List Bnd) (s2 s3 s4 s5 s6 s7 : Slot), ds = enumD i (cs'.map Clk.d) ∧ ρ = [.fz X, .ow (.list (pre.map bdD)), s2, s3, s4, s5, s6, s7, .un, .un, .un, .un] ∧ pre ++ csBs i cs' = csBs 0 cs ∧ ∀ c ∈ cs', c.Ok) ⟨0, cs, [], .un, .un, .un, .un, .un, .un, rfl, rfl, rfl, oc⟩ ?_ ?_
    · rintro ρ ⟨i, cs', pre, s2, s3, s4, s5, s6, s7, h1, h2, h3, _⟩
      cases cs' with
      | nil =>
        rw [h2]
        have : pre = csBs 0 cs := by rw [← h3]; simp [csBs]
        rw [this]
        exact ⟨_, _, _, _, _, _, rfl⟩
      | cons x xs => cases h1
    · rintro d ds ρ ⟨i, cs', pre, s2, s3, s4, s5, s6, s7, h1, h2, h3, h4⟩
      cases cs' with
      | nil => cases h1
      | cons x xs =>
        simp only [List.map_cons, enumD, List.cons.injEq] at h1
        obtain ⟨rfl, rfl⟩ := h1
        subst h2
        refine ⟨_, gPair3 2 3 4 5 _ _ _ _ _, ?_⟩
        rw [← h3] at hcl
        simp only [List.length_append, csBs] at hcl
        simp only [List.set_cons_succ, List.set_cons_zero]
        obtain ⟨a, b, hB⟩ := L_law_bounds_1_ok i x (h4 x (by simp)) pre (by omega) (.fz X) s6 s7 .un .un .un .un
        unfold B_law_bounds_2
        rw [hB]
        refine ⟨i + 1, xs, _, _, _, _, _, _, _, rfl, rfl, ?_, fun y hy => h4 y (List.mem_cons_of_mem _ hy)⟩
        rw [List.append_assoc]
        exact h3
  have loop2 : ∀ s2 s3 s4 s5 s6 s7 : Slot, ∃ ρ, L_law_bounds_3 [.fz X, .ow (.list ((csBs 0 cs).map bdD)), s2, s3, s4, s5, s6, s7, .un, .un, .un, .un] = .nx ρ ∧ ρ[1]? = some (.ow (.list ((csBs 0 cs ++ lsBs ls).map bdD))) ∧ ρ.length = 12 := by
    intro s2 s3 s4 s5 s6 s7
    unfold L_law_bounds_3
    refine sFor_post (ds := ls.map Ltr.d) (Post := fun q => ∃ ρ, q = .nx ρ ∧ ρ[1]? = some (.ow (.list ((csBs 0 cs ++ lsBs ls).map bdD))) ∧ ρ.length = 12) ?hi
      (fun ds ρ => ∃ (ls' : List Ltr) (pre : List Bnd) (a b c d : Slot), ds = ls'.map Ltr.d ∧ ρ = [.fz X, .ow (.list (pre.map bdD)), s2, s3, s4, s5, s6, s7, a, b, c, d] ∧ pre ++ lsBs ls' = csBs 0 cs ++ lsBs ls) ⟨ls, csBs 0 cs, .un, .un, .un, .un, rfl, rfl, rfl⟩ ?_ ?_
    case hi => subst hX; simp
    · rintro ρ ⟨ls', pre, a, b, c, d, h1, h2, h3⟩
      cases ls' with
      | nil =>
        have : pre = csBs 0 cs ++ lsBs ls := by rw [← h3]; simp [lsBs]
        exact ⟨ρ, rfl, by rw [h2, this]; rfl, by rw [h2]; rfl⟩
      | cons x xs => cases h1
    · rintro d ds ρ ⟨ls', pre, a, b, c, e, h1, h2, h3⟩
      cases ls' with
      | nil => cases h1
      | cons x xs =>
        simp only [List.map_cons, List.cons.injEq] at h1
        obtain ⟨rfl, rfl⟩ := h1
        subst h2
        refine ⟨_, gTup4 8 9 10 11 _ _ _ _ _, ?_⟩
        have hw : (csBs 0 cs ++ lsBs ls).length ≤ 100 := by rw [List.length_append]; omega
        rw [← h3] at hw
        simp only [List.length_append, lsBs] at hw
        simp only [List.set_cons_succ, List.set_cons_zero]
        have z1 : pre.length ≤ 99999 := by omega
        have z2 : pre.length ≤ 99998 := by omega
        have hB : B_law_bounds_3 [.fz X, .ow (.list (pre.map bdD)), s2, s3, s4, s5, s6, s7, .fz (evd x.a), .fz (evd x.b), .fz (.int x.lo), .fz (optD x.hi)] = .nx [.fz X, .ow (.list ((pre ++ ltrBs x).map bdD)), s2, s3, s4, s5, s6, s7, .fz (evd x.a), .fz (evd x.b), .fz (.int x.lo), .fz (optD x.hi)] := by
          unfold B_law_bounds_3
          rw [List.map_append]
          cases hh : x.hi with
          | none => simp [z1, optD, ltrBs, hh, bdD]
          | some h => simp [z1, z2, optD, ltrBs, hh, bdD]
        rw [hB]
        refine ⟨xs, _, _, _, _, _, rfl, rfl, ?_⟩
        rw [List.append_assoc]
        exact h3
  obtain ⟨s2, s3, s4, s5, s6, s7, hL⟩ := loop1
  obtain ⟨ρ, hL2, h1, hlen⟩ := loop2 s2 s3 s4 s5 s6 s7
  have hfr : frz 1 ρ = ρ.set 1 (.fz (.list ((csBs 0 cs ++ lsBs ls).map bdD))) := by
    unfold frz
    rw [h1]
  have hg : (ρ.set 1 (.fz (.list ((csBs 0 cs ++ lsBs ls).map bdD))))[1]? = some (.fz (.list ((csBs 0 cs ++ lsBs ls).map bdD))) := by
    exact List.getElem?_set_self (by omega)
  unfold F_law_bounds M_law_bounds
  simp only [runF_1, List.reduceReplicate, Nat.reduceSub]
  generalize (csBs 0 cs ++ lsBs ls).map bdD = R at *
  simp [hL, hL2, hfr, hg]
end Fc
set_option Elab.async false
set_option linter.all false
set_option maxRecDepth 100000
set_option maxHeartbeats 2000000
namespace Fc
open PySem L2 Evl PySem.Spec PyProof.Rows
/-! ### k10: what is told -/
theorem need_event_ok {w n : Nat} {x : D} {r : Rec} (o : r.Ok) (h : gd w n x = true) : F_need_event [r.d, x] = if evB r.cs x = true then .ok .none else .er "NoEvent" := by
  have hn := need_rec_ok o
  have he := is_event_ok (cs := r.cs) h
  unfold F_need_event M_need_event
  simp only [runF_2, List.reduceReplicate, Nat.reduceSub]
  have hd : r.d = .tuple [.tuple (r.cs.map Clk.d), .tuple (r.ls.map Ltr.d)] := rfl
  rw [hd] at hn ⊢
  cases hb : evB r.cs x with
  | true => simp [hn, he, hb]
  | false => simp [hn, he, hb]
theorem reading_ok {r : Rec} (o : r.Ok) {e : Ev} {c : Clk} (h1 : r.cs[e.1]? = some c) (h2 : e.2 < c.rs.length) : F_reading_of [r.d, evd e] = .ok (.int c.rs[e.2]) := by
  have he := need_event_ok o (evd_gd e)
  rw [if_pos ((evB_iff r.cs _).mpr ⟨e, ⟨c, h1, h2⟩, rfl⟩)] at he
  have a1 : atI (r.cs.map Clk.d) ((e.1 : Nat) : Int) = some (.tuple [.int c.slow, .int c.fast, .tuple (c.rs.map PyData.int)]) := atI_nat (by rw [List.getElem?_map, h1]; rfl)
  have a2 : atI (c.rs.map PyData.int) ((e.2 : Nat) : Int) = some (.int c.rs[e.2]) := atI_nat (by rw [List.getElem?_map, List.getElem?_eq_getElem h2]; rfl)
  unfold F_reading_of M_reading_of
  simp only [runF_2, List.reduceReplicate, Nat.reduceSub]
  generalize hC : r.cs.map Clk.d = C at *
  have hd : r.d = .tuple [.tuple C, .tuple (r.ls.map Ltr.d)] := by rw [← hC]; rfl
  rw [hd] at he ⊢
  have hv : evd e = .tuple [.int (e.1 : Nat), .int (e.2 : Nat)] := rfl
  rw [hv] at he ⊢
  have hcd : (fun c : Clk => (.tuple [.int c.slow, .int c.fast, .tuple (c.rs.map PyData.int)] : D)) c = .tuple [.int c.slow, .int c.fast, .tuple (c.rs.map PyData.int)] := rfl
  simp [he, a1, a2]
theorem reading_no {w n : Nat} {x : D} {r : Rec} (o : r.Ok) (h : gd w n x = true) (hb : evB r.cs x = false) : F_reading_of [r.d, x] = .er "NoEvent" := by
  have he := need_event_ok o h
  rw [hb, if_neg Bool.false_ne_true] at he
  unfold F_reading_of M_reading_of
  simp only [runF_2, List.reduceReplicate, Nat.reduceSub]
  simp [he]
theorem take_ok {r : Rec} (o : r.Ok) (k : Nat) : (⟨r.cs, r.ls.take k⟩ : Rec).Ok := ⟨o.c1, o.c4, o.cs, by show (r.ls.take k).length ≤ 8; rw [List.length_take]; have := o.l8; omega, fun l hl => o.ls l (List.mem_of_mem_take hl)⟩
theorem of_letter_ok {r : Rec} (o : r.Ok) {k : Nat} {l : Ltr} (h : r.ls[k]? = some l) : F_of_letter [r.d, .int (k : Nat)] = .ok (.list (rngD ((csBs 0 r.cs ++ lsBs (r.ls.take k)).length : Nat) (ltrBs l).length)) := by
  have hk := (List.getElem?_eq_some_iff.mp h).1
  have hn := need_rec_ok o
  have e1 := is_number_i (k : Int) 0 (((r.ls.length : Nat) : Int) - 1)
  have hb : numB 0 (((r.ls.length : Nat) : Int) - 1) (.int (k : Nat)) = true := by
    have : ((k : Nat) : Int) ≤ ((r.ls.length : Nat) : Int) - 1 := by omega
    simp [numB, this]
  rw [hb] at e1
  have e2 := bounds_ok (take_ok o k)
  have hd2 : (⟨r.cs, r.ls.take k⟩ : Rec).d = .tuple [.tuple (r.cs.map Clk.d), .tuple ((r.ls.take k).map Ltr.d)] := rfl
  rw [hd2] at e2
  have e3 := letter_bounds_ok l
  have a1 : atI (r.ls.map Ltr.d) ((k : Nat) : Int) = some l.d := atI_nat (by rw [List.getElem?_map, h]; rfl)
  have a2 : cutL (r.ls.map Ltr.d) none (some (k : Int)) = (r.ls.take k).map Ltr.d := by
    rw [cutL_to _ _ (by rw [List.length_map]; omega), List.map_take]
  have hcl := csBs_len r.cs 0 o.cs
  have hll := lsBs_len (r.ls.take k)
  have h2 := ltrBs_len l
  have c4 := o.c4
  have l8 := o.l8
  rw [List.length_take] at hll
  have hw : (recBs ⟨r.cs, r.ls.take k⟩).length ≤ 100 := by unfold recBs; rw [List.length_append]; show (csBs 0 r.cs).length + (lsBs (r.ls.take k)).length ≤ 100; omega
  have hr : recBs ⟨r.cs, r.ls.take k⟩ = csBs 0 r.cs ++ lsBs (r.ls.take k) := rfl
  rw [hr] at e2 hw
  generalize hG : csBs 0 r.cs ++ lsBs (r.ls.take k) = G at *
  have e4 : dLRg2 (.int (G.length : Nat)) (.int ((G.length : Nat) + ((ltrBs l).length : Nat))) = .ok (.list (rngD (G.length : Nat) (ltrBs l).length)) := by
    have hb : rgB (G.length : Nat) ((G.length : Nat) + ((ltrBs l).length : Nat)) = true := decide_eq_true (by omega)
    have e : (((G.length : Nat) : Int) + ((ltrBs l).length : Nat) - (G.length : Nat)).toNat = (ltrBs l).length := by omega
    unfold dLRg2
    simp only [hb, if_true, e]
  unfold F_of_letter M_of_letter
  simp only [runF_2, List.reduceReplicate, Nat.reduceSub]
  have hd : r.d = .tuple [.tuple (r.cs.map Clk.d), .tuple (r.ls.map Ltr.d)] := rfl
  have hlen : (r.ls.map Ltr.d).length = r.ls.length := List.length_map ..
  have hlen2 : (G.map bdD).length = G.length := List.length_map ..
  have hlen3 : ((ltrBs l).map bdD).length = (ltrBs l).length := List.length_map ..
  rw [hd] at hn ⊢
  rw [← hlen] at e1
  generalize (r.ls.take k).map Ltr.d = LK at *
  generalize r.ls.map Ltr.d = LS at *
  generalize G.map bdD = GB at *
  generalize (ltrBs l).map bdD = LB at *
  simp [hn, e1, e2, e3, a1, a2, hlen2, hlen3, e4]
theorem of_letter_no {w n : Nat} {x : D} {r : Rec} (o : r.Ok) (h : gd w n x = true) (hb : numB 0 (((r.ls.length : Nat) : Int) - 1) x = false) : F_of_letter [r.d, x] = .er "NoNumber" := by
  have hn := need_rec_ok o
  have e1 := is_number_ok h 0 (((r.ls.length : Nat) : Int) - 1)
  rw [hb] at e1
  have hd : r.d = .tuple [.tuple (r.cs.map Clk.d), .tuple (r.ls.map Ltr.d)] := rfl
  have hlen : (r.ls.map Ltr.d).length = r.ls.length := List.length_map ..
  rw [← hlen] at e1
  unfold F_of_letter M_of_letter
  simp only [runF_2, List.reduceReplicate, Nat.reduceSub]
  rw [hd] at hn ⊢
  generalize r.ls.map Ltr.d = LS at *
  simp [hn, e1]
end Fc
set_option Elab.async false
set_option linter.all false
set_option maxRecDepth 100000
set_option maxHeartbeats 2000000
namespace Fc
open PySem L2 Evl PySem.Spec PyProof.Rows
def bckK (r : R D) : RS := match r with
  | .ok d => .rt d
  | _ => .bad
@[simp] theorem bckK_ok (d : D) : bckK (.ok d) = .rt d := rfl
def tryK (r : RS) (T : Str → R D) : RS := match r with
  | .er c _ => bckK (T c)
  | r => r
@[simp] theorem tryK_rt (d : D) (T : Str → R D) : tryK (.rt d) T = .rt d := rfl
@[simp] theorem tryK_nx (d : En) (T : Str → R D) : tryK (.nx d) T = .nx d := rfl
@[simp] theorem tryK_er (c : Str) (ρ : En) (T : Str → R D) : tryK (.er c ρ) T = bckK (T c) := rfl
@[simp] theorem sTryR_eq (M : DS) (T : Str → R D) (ρ : En) : sTryR M T ρ = tryK (M ρ) T := by
  unfold sTryR tryK bckK
  rfl
def pickK (gs : List (List D → R D)) (d : D) (m : R (List D)) : R D := match d with
  | .int j => (match atI gs j with
    | some g => m.bind g
    | none => .bad)
  | _ => .bad
@[simp] theorem ePick_eq (gs : List (List D → R D)) (mi : DE) (ms : DA) (ρ : En) : ePick gs mi ms ρ = (mi ρ).bind fun d => pickK gs d (ms ρ) := rfl
@[simp] theorem pickK_0 (f g : List D → R D) (m : R (List D)) : pickK [f, g] (.int 0) m = m.bind f := by
  unfold pickK
  simp
@[simp] theorem pickK_1 (f g : List D → R D) (m : R (List D)) : pickK [f, g] (.int 1) m = m.bind g := by
  unfold pickK
  simp
theorem T_NoRecord : T_law_refused "NoRecord" = .ok (.tuple [.str "refused", .int 0]) := rfl
theorem T_NoEvent : T_law_refused "NoEvent" = .ok (.tuple [.str "refused", .int 1]) := rfl
theorem T_NoNumber : T_law_refused "NoNumber" = .ok (.tuple [.str "refused", .int 2]) := rfl
theorem told0 {x X d : D} (h : F_events [X] = .ok d) : F_law_told_k10 [.int 0, X, x] = .ok d := by
  unfold F_law_told_k10 M_law_told_k10
  simp [runF_3, h]
theorem told1 {x X d : D} (h : F_bounds [X] = .ok d) : F_law_told_k10 [.int 1, X, x] = .ok d := by
  unfold F_law_told_k10 M_law_told_k10
  simp [runF_3, h]
theorem told2 {x X d : D} (h : F_reading_of [X, x] = .ok d) : F_law_told_k10 [.int 2, X, x] = .ok d := by
  unfold F_law_told_k10 M_law_told_k10
  simp [runF_3, h]
theorem told3 {x X d : D} (h : F_of_letter [X, x] = .ok d) : F_law_told_k10 [.int 3, X, x] = .ok d := by
  unfold F_law_told_k10 M_law_told_k10
  simp [runF_3, h]
theorem told2e {x X : D} (h : F_reading_of [X, x] = .er "NoEvent") : F_law_told_k10 [.int 2, X, x] = .ok (.tuple [.str "refused", .int 1]) := by
  unfold F_law_told_k10 M_law_told_k10
  simp [runF_3, h, T_NoEvent]
theorem told3e {x X : D} (h : F_of_letter [X, x] = .er "NoNumber") : F_law_told_k10 [.int 3, X, x] = .ok (.tuple [.str "refused", .int 2]) := by
  unfold F_law_told_k10 M_law_told_k10
  simp [runF_3, h, T_NoNumber]
/-- a thing that is no record -/
theorem told_bad {w n : Nat} {x X : D} (g : gd w n X = true) (hn : n ≤ 64) (h : ¬ recB X) (k : Nat) (hk : k < 4) : F_law_told_k10 [.int (k : Nat), X, x] = .ok (.tuple [.str "refused", .int 0]) := by
  have e := need_rec_no g hn h
  have e1 : F_events [X] = .er "NoRecord" := by
    unfold F_events M_events
    simp [runF_1, e]
  have e2 : F_bounds [X] = .er "NoRecord" := by
    unfold F_bounds M_bounds
    simp [runF_1, e]
  have e3 : F_need_event [X, x] = .er "NoRecord" := by
    unfold F_need_event M_need_event
    simp [runF_2, e]
  have e4 : F_reading_of [X, x] = .er "NoRecord" := by
    unfold F_reading_of M_reading_of
    simp [runF_2, e3]
  have e5 : F_of_letter [X, x] = .er "NoRecord" := by
    unfold F_of_letter M_of_letter
    simp [runF_2, e]
  unfold F_law_told_k10 M_law_told_k10
  match k, hk with
  | 0, _ => simp [runF_3, e1, T_NoRecord]
  | 1, _ => simp [runF_3, e2, T_NoRecord]
  | 2, _ => simp [runF_3, e4, T_NoRecord]
  | 3, _ => simp [runF_3, e5, T_NoRecord]
end Fc
set_option Elab.async false
set_option linter.all false
set_option maxRecDepth 100000
set_option maxHeartbeats 2000000
namespace Fc
open PySem L2 Evl PySem.Spec PyProof.Rows
mutual
theorem eqv_refl : ∀ d : D, d.canLay0 = true → PyData.eqv d d = true
  | .none, _ => by simp [PyData.eqv]
  | .bool b, _ => by simp [PyData.eqv]
  | .int i, _ => by simp [PyData.eqv]
  | .str x, _ => by simp [PyData.eqv]
  | .list xs, h => by
    simp only [PyData.eqv]
    exact eqvAll_refl xs (by simpa [PyData.canLay0] using h)
  | .tuple xs, h => by
    simp only [PyData.eqv]
    exact eqvAll_refl xs (by simpa [PyData.canLay0] using h)
  | .dict _, h => by simp [PyData.canLay0] at h
theorem eqvAll_refl : ∀ xs : List D, PyData.canLayAll0 xs = true → PyData.eqvAll xs xs = true
  | [], _ => by simp [PyData.eqvAll]
  | x :: xs, h => by
    have h' : x.canLay0 = true ∧ PyData.canLayAll0 xs = true := by simpa [PyData.canLayAll0] using h
    simp only [PyData.eqvAll, eqv_refl x h'.1, eqvAll_refl xs h'.2, Bool.and_self]
end
theorem dNe_self {w n : Nat} {x : D} (h : gd w n x = true) (hn : n ≤ 64) : dNe x x = .ok (.bool false) := by
  rw [dNe_gd h h hn, eqv_refl x (gd_lay n x h).1]
  rfl
theorem dEq_self {w n : Nat} {x : D} (h : gd w n x = true) (hn : n ≤ 64) : dEq x x = .ok (.bool true) := by
  rw [dEq_gd h h hn, eqv_refl x (gd_lay n x h).1]
theorem bds_gd (bs : List Bnd) (h : bs.length ≤ 1000) : gd 1000 3 (.list (bs.map bdD)) = true := gdLst (by simpa using h) fun x hx => by
  obtain ⟨b, _, rfl⟩ := List.mem_map.mp hx
  refine gdTup (by simp) fun y hy => ?_
  simp only [List.mem_cons, List.not_mem_nil, or_false] at hy
  rcases hy with rfl | rfl | rfl
  · exact gd_mono (by decide) (Nat.le_refl _) (evd_gd _)
  · exact gd_mono (by decide) (Nat.le_refl _) (evd_gd _)
  · rfl
/-- the things that are no events -/
def odd1 : List D := [.none, .tuple [.int 0], .tuple [.int 9, .int 0], .tuple [.int 0, .int 9], .tuple [.int 0, .int (-1)], .list [.int 0, .int 0], .tuple [.bool true, .int 0], .str "0.0", .tuple [.int 0, .int 0, .int 0]]
theorem odd1_no {r : Rec} {m : Nat} (g : r.Gen m) : ∀ x ∈ odd1, evB r.cs x = false := by
  intro x hx
  cases h : evB r.cs x with
  | false => rfl
  | true =>
    exfalso
    obtain ⟨e, ⟨c, h1, h2⟩, rfl⟩ := (evB_iff r.cs x).mp h
    have h3 := (List.getElem?_eq_some_iff.mp h1).1
    have h4 := (g.cs c (List.mem_of_getElem? h1)).l3
    have h5 := g.c3
    simp only [odd1, evd, List.mem_cons, List.not_mem_nil, or_false, PyData.tuple.injEq, List.cons.injEq, PyData.int.injEq, and_true, reduceCtorEq, false_or, or_false, and_false, false_and] at hx
    omega
theorem odd1_gd : ∀ x ∈ odd1, gd 10 2 x = true := fun x hx => List.all_eq_true.mp (show odd1.all (gd 10 2) = true by decide +kernel) x hx
end Fc
set_option Elab.async false
set_option linter.all false
set_option maxRecDepth 100000
set_option maxHeartbeats 2000000
namespace Fc
open PySem L2 Evl PySem.Spec PyProof.Rows
/-- the reading at an event -/
def rdE (cs : List Clk) (e : Ev) : Int := match cs[e.1]? with
  | some c => (c.rs[e.2]?).getD 0
  | none => 0
theorem reading_ok2 {r : Rec} (o : r.Ok) {e : Ev} (h : EvOk r.cs e) : F_reading_of [r.d, evd e] = .ok (.int (rdE r.cs e)) := by
  obtain ⟨c, h1, h2⟩ := h
  rw [reading_ok o h1 h2]
  unfold rdE
  rw [h1]
  simp only [List.getElem?_eq_getElem h2, Option.getD_some]
theorem C_law_k10_1_ok {r : Rec} (o : r.Ok) (s0 s3 s4 s5 s6 s7 s8 s9 s10 s11 s12 : Slot) : C_law_k10_1 [s0, .fz r.d, .fz (.list ((evs 0 r.cs).map evd)), s3, s4, s5, s6, s7, s8, s9, s10, s11, s12] = .ok (.list ((evs 0 r.cs).map fun e => .int (rdE r.cs e))) := by
  have h : (.list ((evs 0 r.cs).map fun e => .int (rdE r.cs e)) : D) = .list (((evs 0 r.cs).map evd).filterMap fun d => some (match d with | .tuple [.int a, .int b] => .int (rdE r.cs (a.toNat, b.toNat)) | _ => .none)) := by
    rw [fm_some, List.map_map]
    rfl
  rw [h]
  have hlen := evs_len r.cs 0 fun c hc => (o.cs c hc).l4
  have := o.c4
  refine eLc_map (by simp) (fun x hx => ?_) (by rw [List.length_map]; omega)
  obtain ⟨e, he, rfl⟩ := List.mem_map.mp hx
  have e1 := told2 (reading_ok2 o ((evs_iff r.cs e).mp he))
  rw [lcStep_eq]
  simp only [wipeE, gN_eq, List.set_cons_succ, List.set_cons_zero]
  rw [lcK_map (b := true) (d := .int (rdE r.cs e)) rfl fun _ => by simp [e1]]
  rfl
theorem C_law_k10_2_ok {r : Rec} (o : r.Ok) (s0 s3 s4 s5 s6 s7 s8 s9 s10 s11 s12 : Slot) : C_law_k10_2 [s0, .fz r.d, .fz (.list ((evs 0 r.cs).map evd)), s3, s4, s5, s6, s7, s8, s9, s10, s11, s12] = .ok (.list ((evs 0 r.cs).map fun e => .int (rdE r.cs e))) := by
  have h : (.list ((evs 0 r.cs).map fun e => .int (rdE r.cs e)) : D) = .list (((evs 0 r.cs).map evd).filterMap fun d => some (match d with | .tuple [.int a, .int b] => .int (rdE r.cs (a.toNat, b.toNat)) | _ => .none)) := by
    rw [fm_some, List.map_map]
    rfl
  rw [h]
  have hlen := evs_len r.cs 0 fun c hc => (o.cs c hc).l4
  have := o.c4
  refine eLc_map (by simp) (fun x hx => ?_) (by rw [List.length_map]; omega)
  obtain ⟨e, he, rfl⟩ := List.mem_map.mp hx
  obtain ⟨c, h1, h2⟩ := (evs_iff r.cs e).mp he
  have hv : evd e = .tuple [.int (e.1 : Nat), .int (e.2 : Nat)] := rfl
  have a1 : atI (r.cs.map Clk.d) ((e.1 : Nat) : Int) = some (.tuple [.int c.slow, .int c.fast, .tuple (c.rs.map PyData.int)]) := atI_nat (by rw [List.getElem?_map, h1]; rfl)
  have a2 : atI (c.rs.map PyData.int) ((e.2 : Nat) : Int) = some (.int (rdE r.cs e)) := atI_nat (by
    rw [List.getElem?_map, List.getElem?_eq_getElem h2]
    unfold rdE
    rw [h1]
    simp only [List.getElem?_eq_getElem h2, Option.getD_some, Option.map_some])
  have hd : r.d = .tuple [.tuple (r.cs.map Clk.d), .tuple (r.ls.map Ltr.d)] := rfl
  rw [lcStep_eq]
  rw [hv, gTup2]
  simp only [wipeE, List.set_cons_succ, List.set_cons_zero]
  rw [lcK_map (b := true) (d := .int (rdE r.cs e)) rfl fun _ => by
    rw [hd]
    generalize r.cs.map Clk.d = C at *
    simp [a1, a2]]
  rfl
theorem lsBs_app : ∀ (a b : List Ltr), lsBs (a ++ b) = lsBs a ++ lsBs b
  | [], b => rfl
  | x :: a, b => by
    show ltrBs x ++ lsBs (a ++ b) = ltrBs x ++ lsBs a ++ lsBs b
    rw [lsBs_app a b, List.append_assoc]
theorem rng_gd (a : Int) (n : Nat) (h : n ≤ 1000) : gd 1000 1 (.list (rngD a n)) = true := gdLst (by unfold rngD; simpa using h) fun x hx => by
  unfold rngD at hx
  obtain ⟨i, _, rfl⟩ := List.mem_map.mp hx
  rfl
theorem L_law_k10_1_ok {r : Rec} (o : r.Ok) (s0 s2 s7 s8 s9 s10 s11 s12 : Slot) : ∃ ρ, L_law_k10_1 [s0, .fz r.d, s2, .fz (.int ((csBs 0 r.cs).length : Nat)), .un, .un, .un, s7, s8, s9, s10, s11, s12] = .nx ρ ∧ ∃ a b c d : Slot, ρ = [s0, .fz r.d, s2, a, b, c, d, s7, s8, s9, s10, s11, s12] := by
  have hcl := csBs_len r.cs 0 o.cs
  have c4 := o.c4
  have l8 := o.l8
  unfold L_law_k10_1
  refine sFor_post (ds := enumD 0 (r.ls.map Ltr.d)) (Post := fun q => ∃ ρ, q = .nx ρ ∧ ∃ a b c d : Slot, ρ = [s0, .fz r.d, s2, a, b, c, d, s7, s8, s9, s10, s11, s12]) ?hi
    (fun ds ρ => ∃ (k : Nat) (b c d : Slot), k ≤ r.ls.length ∧ ds = enumD k ((r.ls.drop k).map Ltr.d) ∧ ρ = [s0, .fz r.d, s2, .fz (.int ((csBs 0 r.cs ++ lsBs (r.ls.take k)).length : Nat)), b, c, d, s7, s8, s9, s10, s11, s12]) ⟨0, .un, .un, .un, Nat.zero_le _, rfl, by simp [lsBs]⟩ ?_ ?_
  case hi => simp [dEnum, Rec.d]
  · rintro ρ ⟨k, b, c, d, _, _, h⟩
    exact ⟨ρ, rfl, _, b, c, d, h⟩
  · rintro x ds ρ ⟨k, b, c, d, hk, h1, h2⟩
    by_cases hlt : k < r.ls.length
    · rw [List.drop_eq_getElem_cons hlt] at h1
      simp only [List.map_cons, enumD, List.cons.injEq] at h1
      obtain ⟨rfl, rfl⟩ := h1
      subst h2
      refine ⟨_, gTup2 4 5 _ _ _, ?_⟩
      simp only [List.set_cons_succ, List.set_cons_zero]
      have e1 := told3 (of_letter_ok o (List.getElem?_eq_getElem hlt))
      generalize hl : r.ls[k] = l at *
      have ht : r.ls.take (k + 1) = r.ls.take k ++ [l] := by rw [List.take_succ_eq_append_getElem hlt, hl]
      have hA : (csBs 0 r.cs ++ lsBs (r.ls.take (k + 1))).length = (csBs 0 r.cs ++ lsBs (r.ls.take k)).length + (ltrBs l).length := by
        rw [ht, lsBs_app, ← List.append_assoc, List.length_append]
        simp [lsBs]
      have hll := lsBs_len (r.ls.take k)
      rw [List.length_take] at hll
      have hw : (csBs 0 r.cs ++ lsBs (r.ls.take k)).length ≤ 100 := by rw [List.length_append]; omega
      have h2' := ltrBs_len l
      generalize (csBs 0 r.cs ++ lsBs (r.ls.take k)).length = A at *
      have hm : ((1 : Int) + (if isN (optD l.hi) = true then 0 else 1)) = ((ltrBs l).length : Nat) := by
        unfold ltrBs
        cases l.hi <;> simp [optD]
      have e4 : dLRg2 (.int (A : Nat)) (.int ((A : Nat) + ((ltrBs l).length : Nat))) = .ok (.list (rngD (A : Nat) (ltrBs l).length)) := by
        have hb : rgB (A : Nat) ((A : Nat) + ((ltrBs l).length : Nat)) = true := decide_eq_true (by omega)
        have e : (((A : Nat) : Int) + ((ltrBs l).length : Nat) - (A : Nat)).toNat = (ltrBs l).length := by omega
        unfold dLRg2
        simp only [hb, if_true, e]
      have e5 := dNe_self (rng_gd (A : Nat) (ltrBs l).length (by omega)) (by decide)
      have e6 : ((A : Nat) : Int) + ((ltrBs l).length : Nat) = ((A + (ltrBs l).length : Nat) : Int) := by omega
      have hB : B_law_k10_1 [s0, .fz r.d, s2, .fz (.int (A : Nat)), .fz (.int (k : Nat)), .fz l.d, d, s7, s8, s9, s10, s11, s12] = .nx [s0, .fz r.d, s2, .fz (.int ((A + (ltrBs l).length : Nat) : Int)), .fz (.int (k : Nat)), .fz l.d, .fz (.int ((ltrBs l).length : Nat)), s7, s8, s9, s10, s11, s12] := by
        rw [← e6]
        unfold B_law_k10_1
        have hin : ∀ v : D, dInt [.bool (!isN v)] = .ok (.int (if isN v = true then 0 else 1)) := fun v => by cases isN v <;> rfl
        have hld : l.d = .tuple [evd l.a, evd l.b, .int l.lo, optD l.hi] := rfl
        rw [hld]
        simp only [sSeq_eq, sAsg_eq, sIf_eq, eBin_eq, eW_eq, eV_eq, eC_eq, eU_eq, eCall_eq, eDef_eq, aCons_eq, aNil_eq, List.getElem?_cons_zero, List.getElem?_cons_succ, rdW_fz, rdV_fz, R.bind_ok, dIx_t, atI_3, atR_s, id, dNotN_eq, hin, dAdd_i, hm, rK_ok, seqK_nx, List.set_cons_succ, List.set_cons_zero, e1, e4, e5, boolK_b, Bool.false_eq_true, if_false, sNext_eq]
      rw [hB]
      exact ⟨k + 1, _, _, _, by omega, rfl, by rw [hA]⟩
    · have : r.ls.drop k = [] := List.drop_eq_nil_of_le (by omega)
      rw [this] at h1
      cases h1
end Fc
set_option Elab.async false
set_option linter.all false
set_option maxRecDepth 100000
set_option maxHeartbeats 4000000
namespace Fc
open PySem L2 Evl PySem.Spec PyProof.Rows
def badL (r : Rec) : List D := [.none, .tuple [], .tuple [.tuple (r.cs.map Clk.d)], .tuple [.tuple (r.ls.map Ltr.d), .tuple (r.cs.map Clk.d)], .tuple [.tuple (r.cs.map Clk.d), .tuple (r.ls.map Ltr.d), .tuple []]]
theorem bad_no {r : Rec} (o : r.Ok) : ∀ x ∈ badL r, ¬ recB x ∧ gd 10 4 x = true := by
  have g := rec_gd (r := r) (fun c hc => (o.cs c hc).l4) (Nat.le_trans o.c4 (by decide)) (Nat.le_trans o.l8 (by decide))
  obtain ⟨m, hm, _, hk⟩ := gd_kids (show gd 10 4 (.tuple [.tuple (r.cs.map Clk.d), .tuple (r.ls.map Ltr.d)]) = true from g)
  have hm3 : m = 3 := by omega
  subst hm3
  have gC := hk (.tuple (r.cs.map Clk.d)) (by simp)
  have gL := hk (.tuple (r.ls.map Ltr.d)) (by simp)
  intro x hx
  simp only [badL, List.mem_cons, List.not_mem_nil, or_false] at hx
  rcases hx with rfl | rfl | rfl | rfl | rfl
  · exact ⟨by simp [recB, Rec.d], by decide⟩
  · exact ⟨by simp [recB, Rec.d], by decide⟩
  · exact ⟨by simp [recB, Rec.d], gdTup (by simp) fun y hy => by
      simp only [List.mem_cons, List.not_mem_nil, or_false] at hy
      rw [hy]; exact gC⟩
  · refine ⟨?_, gdTup (by simp) fun y hy => ?_⟩
    · rintro ⟨q, oq, e⟩
      simp only [Rec.d, PyData.tuple.injEq, List.cons.injEq, and_true] at e
      have h1 := oq.c1
      have e1 := e.1
      cases hc : q.cs with
      | nil => rw [hc] at h1; simp at h1
      | cons c cs =>
        rw [hc] at e1
        cases hl : r.ls with
        | nil => rw [hl] at e1; cases e1
        | cons l ls =>
          rw [hl] at e1
          simp [Ltr.d, Clk.d] at e1
    · simp only [List.mem_cons, List.not_mem_nil, or_false] at hy
      rcases hy with rfl | rfl
      · exact gL
      · exact gC
  · exact ⟨by simp [recB, Rec.d], gdTup (by simp) fun y hy => by
      simp only [List.mem_cons, List.not_mem_nil, or_false] at hy
      rcases hy with rfl | rfl | rfl
      · exact gC
      · exact gL
      · rfl⟩
def odd2 (r : Rec) : List D := [.int (-1), .int ((r.ls.length : Nat) : Int), .bool true, .none, .str "0"]
theorem odd2_no (r : Rec) : ∀ x ∈ odd2 r, numB 0 (((r.ls.length : Nat) : Int) - 1) x = false ∧ gd 10 2 x = true := by
  intro x hx
  simp only [odd2, List.mem_cons, List.not_mem_nil, or_false] at hx
  rcases hx with rfl | rfl | rfl | rfl | rfl
  · exact ⟨by simp [numB], rfl⟩
  · exact ⟨by simp [numB]; omega, rfl⟩
  · exact ⟨rfl, rfl⟩
  · exact ⟨rfl, rfl⟩
  · exact ⟨rfl, by decide +kernel⟩
theorem C_law_k10_3_ok {X x : D} (h : ∀ k, k < 4 → F_law_told_k10 [.int (k : Nat), X, x] = .ok (.tuple [.str "refused", .int 0])) (s0 s1 s2 s3 s4 s5 s6 s9 s10 s11 s12 : Slot) : C_law_k10_3 [s0, s1, s2, s3, s4, s5, s6, .fz x, .fz X, s9, s10, s11, s12] = .ok (.list [.tuple [.str "refused", .int 0], .tuple [.str "refused", .int 0], .tuple [.str "refused", .int 0], .tuple [.str "refused", .int 0]]) := by
  refine eLc_map (ds := rngD 0 4) (f := fun _ => some (.tuple [.str "refused", .int 0])) (by simp [dRng1]) (fun d hd => ?_) (by decide)
  obtain ⟨k, hk, rfl⟩ := rng_mem hd
  rw [lcStep_eq]
  simp only [wipeE, gN_eq, List.set_cons_succ, List.set_cons_zero]
  rw [lcK_map (b := true) (d := .tuple [.str "refused", .int 0]) rfl fun _ => by simp [h k hk]]
  rfl
end Fc
set_option Elab.async false
set_option linter.all false
set_option maxRecDepth 100000
set_option maxHeartbeats 8000000
namespace Fc
open PySem L2 Evl PySem.Spec PyProof.Rows
theorem law_ok (ns : List Int) (hl : ns.length ≤ 63) : F_law_k10 [.dict [(.none, .list (ns.map PyData.int))]] = .ok (.bool true) := by
  show F_law_k10 [scD ns] = .ok (.bool true)
  obtain ⟨r, er, g⟩ := law_record_ok ns hl 0 6 (by omega)
  replace er : F_law_record [scD ns, .int 0, .int 6] = .ok r.d := er
  have o := g.ok (by decide)
  have hc4 : ∀ c ∈ r.cs, c.rs.length ≤ 4 := fun c hc => (o.cs c hc).l4
  have eE := law_events_ok r.cs hc4 (Nat.le_trans o.c4 (by decide))
  have t0 : F_law_told_k10 [.int 0, r.d, .none] = .ok (.list ((evs 0 r.cs).map evd)) := told0 (events_ok o)
  have t1 : F_law_told_k10 [.int 1, r.d, .none] = .ok (.list ((recBs r).map bdD)) := told1 (bounds_ok o)
  have eB : F_law_bounds [r.d] = .ok (.list ((recBs r).map bdD)) := law_bounds_ok r.cs r.ls o.cs o.c4 o.l8
  have eB0 : F_law_bounds [.tuple [.tuple (r.cs.map Clk.d), .tuple []]] = .ok (.list ((csBs 0 r.cs).map bdD)) := by
    have := law_bounds_ok r.cs [] o.cs o.c4 (by decide)
    simpa [lsBs] using this
  have hcl := csBs_len r.cs 0 o.cs
  have hll := lsBs_len r.ls
  have c4 := o.c4
  have l8 := o.l8
  have n0 := dNe_self (row_gd r.cs hc4 o.c4) (by decide)
  have n1 := dNe_self (bds_gd (recBs r) (by unfold recBs; rw [List.length_append]; omega)) (by decide)
  have n2 : dNe (.list ((evs 0 r.cs).map fun e => .int (rdE r.cs e))) (.list ((evs 0 r.cs).map fun e => .int (rdE r.cs e))) = .ok (.bool false) := dNe_self (w := 100) (n := 1) (gdLst (by have := evs_len r.cs 0 hc4; rw [List.length_map]; omega) fun x hx => by
    obtain ⟨e, _, rfl⟩ := List.mem_map.mp hx
    rfl) (by decide)
  obtain ⟨i1, i10, i11, ei1⟩ := law_drawn_ok ns hl 80 9 (by omega)
  obtain ⟨x1, ex1, mx1⟩ := atI_mem (xs := odd1) i10 (by simpa [odd1] using i11)
  have u1 := told2e (reading_no o (odd1_gd x1 mx1) (odd1_no g x1 mx1))
  obtain ⟨i2, i20, i21, ei2⟩ := law_drawn_ok ns hl 81 5 (by omega)
  obtain ⟨x2, ex2, mx2⟩ := atI_mem (xs := odd2 r) i20 (by simpa [odd2] using i21)
  have u2 := told3e (of_letter_no o (odd2_no r x2 mx2).2 (odd2_no r x2 mx2).1)
  obtain ⟨i3, i30, i31, ei3⟩ := law_drawn_ok ns hl 82 5 (by omega)
  obtain ⟨x3, ex3, mx3⟩ := atI_mem (xs := badL r) i30 (by simpa [badL] using i31)
  have u3 := fun k hk => told_bad (x := x2) (bad_no o x3 mx3).2 (by decide) (bad_no o x3 mx3).1 k hk
  have hd : r.d = .tuple [.tuple (r.cs.map Clk.d), .tuple (r.ls.map Ltr.d)] := rfl
  have q1 : dNe (.tuple [.str "refused", .int 1]) (.tuple [.str "refused", .int 1]) = .ok (.bool false) := dNe_self (w := 10) (n := 1) (by decide +kernel) (by decide)
  have q2 : dNe (.tuple [.str "refused", .int 2]) (.tuple [.str "refused", .int 2]) = .ok (.bool false) := dNe_self (w := 10) (n := 1) (by decide +kernel) (by decide)
  have q3 : dMul (.list [.tuple [.str "refused", .int 0]]) (.int 4) = .ok (.list [.tuple [.str "refused", .int 0], .tuple [.str "refused", .int 0], .tuple [.str "refused", .int 0], .tuple [.str "refused", .int 0]]) := rfl
  have q4 : dEq (.list [.tuple [.str "refused", .int 0], .tuple [.str "refused", .int 0], .tuple [.str "refused", .int 0], .tuple [.str "refused", .int 0]]) (.list [.tuple [.str "refused", .int 0], .tuple [.str "refused", .int 0], .tuple [.str "refused", .int 0], .tuple [.str "refused", .int 0]]) = .ok (.bool true) := dEq_self (w := 10) (n := 2) (by decide +kernel) (by decide)
  have w1 := C_law_k10_1_ok o (.fz (scD ns)) .un .un .un .un .un .un .un .un .un .un
  have w2 := C_law_k10_2_ok o (.fz (scD ns)) .un .un .un .un .un .un .un .un .un .un
  obtain ⟨ρ, hL, a, b, c, d, rfl⟩ := L_law_k10_1_ok o (.fz (scD ns)) (.fz (.list ((evs 0 r.cs).map evd))) .un .un .un .un .un .un
  have w3 := C_law_k10_3_ok (X := x3) (x := x2) u3 (.fz (scD ns)) (.fz r.d) (.fz (.list ((evs 0 r.cs).map evd))) a b c d .un .un .un .un
  have a3 : dAdd r.d (.tuple [.tuple []]) = .ok (.tuple [.tuple (r.cs.map Clk.d), .tuple (r.ls.map Ltr.d), .tuple []]) := dAdd_t _ _ (by simp)
  have a4 : dSl r.d none (some 1) = .ok (.tuple [.tuple (r.cs.map Clk.d)]) := rfl
  have a5 : dRev r.d = .ok (.tuple [.tuple (r.ls.map Ltr.d), .tuple (r.cs.map Clk.d)]) := rfl
  have a6 : dIx r.d (.int 0) = .ok (.tuple (r.cs.map Clk.d)) := rfl
  have a7 : dIx r.d (.int 1) = .ok (.tuple (r.ls.map Ltr.d)) := rfl
  have a8 : (r.ls.map Ltr.d).length = r.ls.length := List.length_map ..
  have a9 : ((csBs 0 r.cs).map bdD).length = (csBs 0 r.cs).length := List.length_map ..
  unfold odd1 at ex1
  unfold odd2 at ex2
  unfold badL at ex3
  unfold F_law_k10 M_law_k10
  simp only [runF_1, List.reduceReplicate, Nat.reduceSub]
  generalize r.d = X at *
  generalize (evs 0 r.cs).map evd = EV at *
  generalize ((evs 0 r.cs).map fun e => (.int (rdE r.cs e) : D)) = RD at *
  generalize (recBs r).map bdD = RB at *
  generalize (csBs 0 r.cs).map bdD = CB at *
  generalize r.cs.map Clk.d = CS at *
  generalize r.ls.map Ltr.d = LS at *
  simp [er, eE, t0, t1, eB, eB0, n0, n1, n2, w1, w2, hL, ei1, ex1, u1, ei2, ex2, u2, ei3, ex3, w3, q1, q2, q3, q4, a3, a4, a5, a6, a7, a8, a9]
end Fc
set_option Elab.async false
set_option linter.all false
set_option maxRecDepth 100000
set_option maxHeartbeats 0

open PySem PySem.W PySem.Calls PyProof.Rows
theorem PySem.Challenge.cw_farclocks_k10_bounds_holds : PySem.Challenge.rw_farclocks_k10_bounds.Holds := by
  w_on; o_law
  refine HandSHeadRun.head_any (r := OpenLaw.row PySem.Challenge.rw_farclocks_k10_bounds) (q := view (OpenLaw.row PySem.Challenge.rw_farclocks_k10_bounds).prog [39]) (H := Wk.hk) (ob := Wk.ob) (M := 6000) (loose := Wk.loose) (d := HandSHeadRun.topDef (OpenLaw.row PySem.Challenge.rw_farclocks_k10_bounds).prog 39) (kwd := []) (fun s => Fc.obsXG_eq (HandSHeadRun.getT_eq s))
    (by kernel_rfl) (fun s => by kernel_rfl) Wk.run (by kernel_rfl) (by kernel_rfl) (by kernel_rfl) (by rfl) (by first | assumption | decide +kernel) (by decide +kernel) ⟨rfl, rfl, rfl, rfl, rfl, by decide +kernel⟩ ?hw ?hc
  case hw => w_witness2
  case hc =>
    refine Fc.walk_law (l := PySem.Challenge.rw_farclocks_k10_bounds) (k := 9) (x := "_law_script") (g := Fc.F_law_k10) rfl (by kernel_rfl) ⟨rfl, by decide, by decide⟩ ?F fun ns hl => Fc.law_ok ns hl
    intro w mg fa h Y G hmg0
    obtain ⟨K, KX, c, cx⟩ := Y
    have hmg : mg ("law" : PySem.Str) = some (.ref fa) := by
      have e : (HandSHeadRun.topDef (OpenLaw.row PySem.Challenge.rw_farclocks_k10_bounds).prog 39).name = ("law" : PySem.Str) := by kernel_rfl
      rw [← e]
      exact hmg0
    have c0 : Wk.C0 K mg := ⟨h, KX, G, c, cx⟩
    have e := hmg.symm.trans (c0.glo 49)
    cases e
    obtain ⟨fd, F⟩ := c.def_ 22 (d := Wk.dd_law) rfl
    have b := L2.FunD.bindsA (ps := ["_law_script"]) F fun _ _ _ _ _ _ us hl => match us, hl with | [_], _ => rfl
    refine ⟨K, fd, KX, fun s v => b s [v] rfl, fun base _ _ => ?_⟩
    exact Wk.ok_law c0 F
