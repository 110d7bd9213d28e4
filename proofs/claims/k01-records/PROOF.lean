import PyProof.Rows.All
import Wide.All
import OpenK.AllK
import Wide.FinOn
import PyProof.EqAt
import PyProof.EqKinds
import PyProof.TupleCall
import HandS.Base
import HandS.Call
import HandS.List
import HandS.Comp
import HandS.Ends
import HandS.Dict
import HandS.Iter
import HandS.Text
import HandS.Words
import HandS.WordsList
import HandS.WordsDict
import HandS.WordsExc
import HandS.Exc
import HandS.TryOnly
import HandS.ExcOwn
import HandS.IsInst
import HandS.Deep
import HandS.Zip
import HandS.Style
import HandS.TupAny
import HandS.TupLe
import HandS.Flow
import HandS.Defaults
import HandS.Evl
import HandS.TupLen
import HandS.Conv
import HandS.Head0
import HandS.Head1
import HandS.Head2
import HandS.HeadEnd
import HandS.HeadHook1
import HandS.HeadHook2
import KE.GoesMore
import KE.GoesEnum
import HandS.TupMul
import HandS.SetFor
import HandS.Strs
import PySem.Challenge.RW_farclocks_k01_records
set_option Elab.async false
set_option linter.all false
set_option maxRecDepth 100000
set_option maxHeartbeats 2000000
namespace Fc
open PySem L2 Evl
abbrev D := PyData

/-! ### results -/
inductive R (α : Type) where
  | ok (a : α) | er (c : Str) | bad
def R.bind {α β : Type} : R α → (α → R β) → R β
  | .ok a, f => f a
  | .er c, _ => .er c
  | .bad, _ => .bad
instance : Monad R := { pure := R.ok, bind := R.bind }
@[simp] theorem R.bind_ok {α β : Type} (a : α) (f : α → R β) : (R.ok a).bind f = f a := rfl
@[simp] theorem R.bind_er {α β : Type} (c : Str) (f : α → R β) : (R.er c : R α).bind f = .er c := rfl
@[simp] theorem R.bind_bad {α β : Type} (f : α → R β) : (R.bad : R α).bind f = .bad := rfl

inductive Slot where
  | un | fz (d : D) | ow (d : D)
abbrev En := List Slot
abbrev DE := En → R D

/-! ### what a value stands for -/
def kD : Key → D
  | .inl i => .int i
  | .inr x => .str x
def keyD (k : List Key) : D := .tuple (k.map kD)
mutual
inductive Rp (K : PySem.W.Frag) (H : Hp) : V → D → Prop
  | non : Rp K H .non .none
  | bl (b : Bool) : Rp K H (.bl b) (.bool b)
  | int (i : Int) : Rp K H (.int i) (.int i)
  | str (x : Str) : Rp K H (.str x) (.str x)
  | lst {a : Addr} {xs : List V} {ds : List D} : H a = some (.lst xs) → RpA K H xs ds → Rp K H (.ref a) (.list ds)
  | scr {a : Addr} {ns : List Int} : SqL K H a (ns.map V.int) → Rp K H (.ref a) (.dict [(.none, .list (ns.map PyData.int))])
  | tup {a : Addr} {xs : List V} {ds : List D} : H a = some (.tup xs) → RpA K H xs ds → Rp K H (.ref a) (.tuple ds)
  | dct {a : Addr} {kvs : List (List Key × V)} {es : List (D × D)} : H a = some (.dT kvs) → RpE K H kvs es → Rp K H (.ref a) (.dict es)
inductive RpA (K : PySem.W.Frag) (H : Hp) : List V → List D → Prop
  | nil : RpA K H [] []
  | cons {v : V} {vs : List V} {d : D} {ds : List D} : Rp K H v d → RpA K H vs ds → RpA K H (v :: vs) (d :: ds)
inductive RpE (K : PySem.W.Frag) (H : Hp) : List (List Key × V) → List (D × D) → Prop
  | nil : RpE K H [] []
  | cons {k : List Key} {v : V} {kvs : List (List Key × V)} {d : D} {es : List (D × D)} : Rp K H v d → RpE K H kvs es → RpE K H ((k, v) :: kvs) ((keyD k, d) :: es)
end
section
variable {K : PySem.W.Frag} {H H' : Hp}
mutual
theorem Rp.mono (e : Ex H H') : ∀ {v : V} {d : D}, Rp K H v d → Rp K H' v d
  | _, _, .non => .non
  | _, _, .bl b => .bl b
  | _, _, .int i => .int i
  | _, _, .str x => .str x
  | _, _, .lst h r => .lst (e _ _ h) (RpA.mono e r)
  | _, _, .scr h => .scr (ex_l e h)
  | _, _, .tup h r => .tup (e _ _ h) (RpA.mono e r)
  | _, _, .dct h r => .dct (e _ _ h) (RpE.mono e r)
theorem RpA.mono (e : Ex H H') : ∀ {vs : List V} {ds : List D}, RpA K H vs ds → RpA K H' vs ds
  | _, _, .nil => .nil
  | _, _, .cons h r => .cons (Rp.mono e h) (RpA.mono e r)
theorem RpE.mono (e : Ex H H') : ∀ {vs : List (List Key × V)} {ds : List (D × D)}, RpE K H vs ds → RpE K H' vs ds
  | _, _, .nil => .nil
  | _, _, .cons h r => .cons (Rp.mono e h) (RpE.mono e r)
end
theorem RpA.length : ∀ {vs : List V} {ds : List D}, RpA K H vs ds → vs.length = ds.length
  | _, _, .nil => rfl
  | _, _, .cons _ r => congrArg (· + 1) (RpA.length r)
theorem RpA.get : ∀ {vs : List V} {ds : List D} {i : Nat} {v : V}, RpA K H vs ds → vs[i]? = some v → ∃ d, ds[i]? = some d ∧ Rp K H v d
  | _, _, _, _, .nil, e => by simp at e
  | _, _, 0, _, .cons h _, e => by simp at e; subst e; exact ⟨_, rfl, h⟩
  | _, _, i + 1, v, .cons _ r, e => by
    obtain ⟨d, h1, h2⟩ := RpA.get (i := i) (v := v) r (by simpa using e)
    exact ⟨d, by simpa using h1, h2⟩
theorem RpA.getD : ∀ {vs : List V} {ds : List D} {i : Nat} {d : D}, RpA K H vs ds → ds[i]? = some d → ∃ v, vs[i]? = some v ∧ Rp K H v d
  | _, _, _, _, .nil, e => by simp at e
  | _, _, 0, _, .cons h _, e => by simp at e; subst e; exact ⟨_, rfl, h⟩
  | _, _, i + 1, d, .cons _ r, e => by
    obtain ⟨v, h1, h2⟩ := RpA.getD (i := i) (d := d) r (by simpa using e)
    exact ⟨v, by simpa using h1, h2⟩
theorem RpA.append : ∀ {vs ws : List V} {ds es : List D}, RpA K H vs ds → RpA K H ws es → RpA K H (vs ++ ws) (ds ++ es)
  | _, _, _, _, .nil, s => s
  | _, _, _, _, .cons h r, s => .cons h (RpA.append r s)
theorem RpA.take : ∀ {vs : List V} {ds : List D} (n : Nat), RpA K H vs ds → RpA K H (vs.take n) (ds.take n)
  | _, _, 0, _ => by simp; exact .nil
  | _, _, n + 1, .nil => by simp; exact .nil
  | _, _, n + 1, .cons h r => by simp; exact .cons h (RpA.take n r)
theorem RpA.drop : ∀ {vs : List V} {ds : List D} (n : Nat), RpA K H vs ds → RpA K H (vs.drop n) (ds.drop n)
  | _, _, 0, r => by simpa using r
  | _, _, n + 1, .nil => by simp; exact .nil
  | _, _, n + 1, .cons h r => by simp; exact RpA.drop n r
theorem RpA.set : ∀ {vs : List V} {ds : List D} {v : V} {d : D} (n : Nat), RpA K H vs ds → Rp K H v d → RpA K H (vs.set n v) (ds.set n d)
  | _, _, _, _, _, .nil, _ => .nil
  | _, _, _, _, 0, .cons h r, s => .cons s r
  | _, _, _, _, n + 1, .cons h r, s => .cons h (RpA.set n r s)
theorem RpA.reverse : ∀ {vs : List V} {ds : List D}, RpA K H vs ds → RpA K H vs.reverse ds.reverse
  | _, _, .nil => .nil
  | _, _, .cons h r => by
    rw [List.reverse_cons, List.reverse_cons]
    exact RpA.append (RpA.reverse r) (.cons h .nil)
theorem RpA.ints : ∀ {ns : List Int}, RpA K H (ns.map V.int) (ns.map PyData.int)
  | [] => .nil
  | n :: r => .cons (.int n) RpA.ints
end

/-! ### growth: (H0, H) to (H0', H'): H0 what is frozen, H all -/
structure Gr (H0 H H0' H' : Hp) : Prop where
  e0 : Ex H0 H0'
  e : Ex H H'
  s : Ex H0' H'
  n : ∀ p, H p ≠ none → H0 p = none → H0' p = none
section
variable {H0 H H1 H2 H3 H4 : Hp}
theorem Gr.refl (h : Ex H0 H) : Gr H0 H H0 H := ⟨Ex.refl _, Ex.refl _, h, fun _ _ h => h⟩
theorem Ex.ne {H H' : Hp} (e : Ex H H') {p : Addr} (h : H p ≠ none) : H' p ≠ none := by
  cases q : H p with
  | none => exact absurd q h
  | some o => rw [e p o q]; exact fun z => nomatch z
theorem Gr.trans (a : Gr H0 H H1 H2) (b : Gr H1 H2 H3 H4) : Gr H0 H H3 H4 :=
  ⟨a.e0.trans b.e0, a.e.trans b.e, b.s, fun p h h0 => b.n p (Ex.ne a.e h) (a.n p h h0)⟩
/-- a new object, known to both -/
theorem Gr.new {p : Addr} {o : HO} (h : Ex H0 H) (hp : H p = none) : Gr H0 H (upd H0 p o) (upd H p o) := by
  have h0 : H0 p = none := fresh_back h hp
  refine ⟨Ex.new h0, Ex.new hp, fun a u e => ?_, fun q hq hq0 => ?_⟩
  · by_cases ha : a = p
    · subst ha; rw [upd_same] at e ⊢; exact e
    · rw [upd_ne ha] at e ⊢; exact h a u e
  · have : q ≠ p := fun z => hq (z ▸ hp)
    rw [upd_ne this]; exact hq0
/-- the rest of the heap grows -/
theorem Gr.side {H' : Hp} (h : Ex H0 H) (e : Ex H H') : Gr H0 H H0 H' := ⟨Ex.refl _, e, h.trans e, fun _ _ h => h⟩
/-- an object that is young is frozen -/
theorem Gr.freeze {p : Addr} {o : HO} (g : Gr H0 H H1 H2) (hp : H2 p = some o) (hn : H p = none) (h1 : H1 p = none) : Gr H0 H (upd H1 p o) H2 :=
  ⟨g.e0.trans (Ex.new h1), g.e, fun a u e => by
    by_cases ha : a = p
    · subst ha; rw [upd_same] at e; rw [hp]; exact e
    · rw [upd_ne ha] at e; exact g.s a u e, fun q hq hq0 => by
    have : q ≠ p := fun z => hq (z ▸ hn)
    rw [upd_ne this]; exact g.n q hq hq0⟩
/-- a young object that is not frozen is changed -/
theorem Gr.mut {p : Addr} {o : HO} (g : Gr H0 H H1 H2) (hn : H p = none) (h1 : H1 p = none) : Gr H0 H H1 (upd H2 p o) :=
  ⟨g.e0, fun a u e => by rw [upd_ne (ne_of_none e hn)]; exact g.e a u e, fun a u e => by rw [upd_ne (ne_of_none e h1)]; exact g.s a u e, g.n⟩
end

/-! ### environments -/
/-- an owned object's content -/
def OwnO (K : PySem.W.Frag) (H0 : Hp) (o : HO) (d : D) : Prop :=
  (∃ xs ds, o = .lst xs ∧ d = .list ds ∧ RpA K H0 xs ds) ∨ ∃ kvs es, o = .dT kvs ∧ d = .dict es ∧ RpE K H0 kvs es
theorem OwnO.mono {K : PySem.W.Frag} {H H' : Hp} {o : HO} {d : D} (e : Ex H H') (h : OwnO K H o d) : OwnO K H' o d := by
  rcases h with ⟨xs, ds, h1, h2, h3⟩ | ⟨kvs, es, h1, h2, h3⟩
  · exact .inl ⟨xs, ds, h1, h2, h3.mono e⟩
  · exact .inr ⟨kvs, es, h1, h2, h3.mono e⟩
theorem OwnO.rp {K : PySem.W.Frag} {H : Hp} {p : Addr} {o : HO} {d : D} (hp : H p = none) (h : OwnO K H o d) : Rp K (upd H p o) (.ref p) d := by
  have e : Ex H (upd H p o) := Ex.new hp
  rcases h with ⟨xs, ds, rfl, rfl, h3⟩ | ⟨kvs, es, rfl, rfl, h3⟩
  · exact .lst upd_same (h3.mono e)
  · exact .dct upd_same (h3.mono e)
abbrev Bs := Hp × Hp
structure Rl (K : PySem.W.Frag) (B : Bs) (ρ : En) (σ : L2.St) (H0 H : Hp) : Prop where
  gr : Gr B.1 B.2 H0 H
  len : σ.length = ρ.length
  fz : ∀ (i : Nat) (d : D), ρ[i]? = some (Slot.fz d) → ∃ v, σ[i]? = some (some v) ∧ Rp K H0 v d
  ow : ∀ (i : Nat) (d : D), ρ[i]? = some (Slot.ow d) → ∃ p o, σ[i]? = some (some (.ref p)) ∧ B.2 p = none ∧ H0 p = none ∧ H p = some o ∧ OwnO K H0 o d
  uq : ∀ (i j : Nat) (d e : D) (p : Addr), ρ[i]? = some (Slot.ow d) → ρ[j]? = some (Slot.ow e) → σ[i]? = some (some (.ref p)) → σ[j]? = some (some (.ref p)) → i = j
section
variable {K : PySem.W.Frag} {B : Bs} {ρ : En} {σ : L2.St} {H0 H H0' H' : Hp}
theorem Rl.s (r : Rl K B ρ σ H0 H) : Ex H0 H := r.gr.s
theorem Rl.grow (r : Rl K B ρ σ H0 H) (g : Gr H0 H H0' H') : Rl K B ρ σ H0' H' where
  gr := r.gr.trans g
  len := r.len
  fz := fun i d h => by
    obtain ⟨v, h1, h2⟩ := r.fz i d h
    exact ⟨v, h1, h2.mono g.e0⟩
  ow := fun i d h => by
    obtain ⟨p, o, h1, h2, h3, h4, h5⟩ := r.ow i d h
    exact ⟨p, o, h1, h2, g.n p (by rw [h4]; exact fun z => nomatch z) h3, g.e _ _ h4, h5.mono g.e0⟩
  uq := r.uq
theorem get_set {α : Type} {l : List α} {i j : Nat} {x : α} : (l.set i x)[j]? = if i = j then (if j < l.length then some x else none) else l[j]? := by
  by_cases h : i = j
  · subst h
    by_cases hl : i < l.length
    · simp [hl]
    · simp [hl]
  · simp [h]
/-- a slot gets a frozen value -/
theorem Rl.setF (r : Rl K B ρ σ H0 H) {i : Nat} {v : V} {d : D} (h : Rp K H0 v d) : Rl K B (ρ.set i (.fz d)) (σ.set i (some v)) H0 H where
  gr := r.gr
  len := by simp [r.len]
  fz := fun j e hj => by
    rw [get_set] at hj
    rw [get_set]
    by_cases hij : i = j
    · subst hij
      rw [if_pos rfl] at hj ⊢
      by_cases hl : i < ρ.length
      · rw [if_pos hl] at hj
        rw [if_pos (by rw [r.len]; exact hl)]
        simp at hj; subst hj
        exact ⟨v, rfl, h⟩
      · rw [if_neg hl] at hj; cases hj
    · rw [if_neg hij] at hj ⊢
      exact r.fz j e hj
  ow := fun j e hj => by
    rw [get_set] at hj
    by_cases hij : i = j
    · subst hij
      rw [if_pos rfl] at hj
      by_cases hl : i < ρ.length
      · rw [if_pos hl] at hj; simp at hj
      · rw [if_neg hl] at hj; cases hj
    · rw [if_neg hij] at hj
      rw [get_set, if_neg hij]
      exact r.ow j e hj
  uq := fun j k e f p hj hk sj sk => by
    rw [get_set] at hj hk sj sk
    by_cases hij : i = j
    · rw [if_pos hij] at hj
      split at hj <;> simp at hj
    · by_cases hik : i = k
      · rw [if_pos hik] at hk
        split at hk <;> simp at hk
      · rw [if_neg hij] at hj sj
        rw [if_neg hik] at hk sk
        exact r.uq j k e f p hj hk sj sk
/-- a slot gets a young object of its own -/
theorem Rl.setO (r : Rl K B ρ σ H0 H) {i : Nat} {p : Addr} {o : HO} {d : D} (hb : B.2 p = none) (h0 : H0 p = none) (hp : H p = some o) (h : OwnO K H0 o d)
    (hn : ∀ (j : Nat) (e : D), ρ[j]? = some (.ow e) → σ[j]? ≠ some (some (.ref p))) : Rl K B (ρ.set i (.ow d)) (σ.set i (some (.ref p))) H0 H where
  gr := r.gr
  len := by simp [r.len]
  fz := fun j e hj => by
    rw [get_set] at hj
    by_cases hij : i = j
    · rw [if_pos hij] at hj
      split at hj <;> simp at hj
    · rw [if_neg hij] at hj
      rw [get_set, if_neg hij]
      exact r.fz j e hj
  ow := fun j e hj => by
    rw [get_set] at hj
    rw [get_set]
    by_cases hij : i = j
    · subst hij
      rw [if_pos rfl] at hj ⊢
      by_cases hl : i < ρ.length
      · rw [if_pos hl] at hj
        rw [if_pos (by rw [r.len]; exact hl)]
        simp at hj; subst hj
        exact ⟨p, o, rfl, hb, h0, hp, h⟩
      · rw [if_neg hl] at hj; cases hj
    · rw [if_neg hij] at hj ⊢
      exact r.ow j e hj
  uq := fun j k e f q hj hk sj sk => by
    rw [get_set] at hj hk sj sk
    by_cases hij : i = j
    · by_cases hik : i = k
      · exact hij.symm.trans hik
      · rw [if_pos hij] at sj
        rw [if_neg hik] at hk sk
        split at sj
        · simp at sj
          subst sj
          exact absurd sk (hn k f hk)
        · cases sj
    · by_cases hik : i = k
      · rw [if_neg hij] at hj sj
        rw [if_pos hik] at sk
        split at sk
        · simp at sk
          subst sk
          exact absurd sj (hn j e hj)
        · cases sk
      · rw [if_neg hij] at hj sj
        rw [if_neg hik] at hk sk
        exact r.uq j k e f q hj hk sj sk
/-- an owned object is changed -/
theorem Rl.mutO (r : Rl K B ρ σ H0 H) {i : Nat} {p : Addr} {o : HO} {d d' : D} (hi : ρ[i]? = some (.ow d)) (hs : σ[i]? = some (some (.ref p))) (h : OwnO K H0 o d') : Rl K B (ρ.set i (.ow d')) σ H0 (upd H p o) := by
  obtain ⟨p', o', q1, q2, q3, q4, q5⟩ := r.ow i d hi
  rw [hs] at q1
  simp at q1
  subst q1
  refine ⟨r.gr.mut q2 q3, by simp [r.len], fun j e hj => ?_, fun j e hj => ?_, fun j k e f q hj hk sj sk => ?_⟩
  · rw [get_set] at hj
    by_cases hij : i = j
    · rw [if_pos hij] at hj
      split at hj <;> simp at hj
    · rw [if_neg hij] at hj
      exact r.fz j e hj
  · rw [get_set] at hj
    by_cases hij : i = j
    · subst hij
      rw [if_pos rfl] at hj
      split at hj
      · simp at hj
        subst hj
        exact ⟨p, o, hs, q2, q3, upd_same, h⟩
      · cases hj
    · rw [if_neg hij] at hj
      obtain ⟨p2, o2, t1, t2, t3, t4, t5⟩ := r.ow j e hj
      have ne : p2 ≠ p := fun z => by
        subst z
        exact hij (r.uq i j d e p2 hi hj hs t1)
      exact ⟨p2, o2, t1, t2, t3, by rw [upd_ne ne]; exact t4, t5⟩
  · have hj' : ∃ e', ρ[j]? = some (.ow e') := by
      rw [get_set] at hj
      by_cases hij : i = j
      · exact ⟨d, hij ▸ hi⟩
      · rw [if_neg hij] at hj; exact ⟨e, hj⟩
    have hk' : ∃ e', ρ[k]? = some (.ow e') := by
      rw [get_set] at hk
      by_cases hik : i = k
      · exact ⟨d, hik ▸ hi⟩
      · rw [if_neg hik] at hk; exact ⟨f, hk⟩
    obtain ⟨e', he⟩ := hj'
    obtain ⟨f', hf⟩ := hk'
    exact r.uq j k e' f' q he hf sj sk
/-- an owned object is frozen -/
theorem Rl.frz (r : Rl K B ρ σ H0 H) {i : Nat} {d : D} (hi : ρ[i]? = some (.ow d)) : ∃ p o, σ[i]? = some (some (.ref p)) ∧ H p = some o ∧ H0 p = none ∧ Rl K B (ρ.set i (.fz d)) σ (upd H0 p o) H ∧ Rp K (upd H0 p o) (.ref p) d := by
  obtain ⟨p, o, q1, q2, q3, q4, q5⟩ := r.ow i d hi
  have rp := OwnO.rp q3 q5
  have e : Ex H0 (upd H0 p o) := Ex.new q3
  refine ⟨p, o, q1, q4, q3, ⟨r.gr.freeze q4 q2 q3, by simp [r.len], fun j f hj => ?_, fun j f hj => ?_, fun j k f g q hj hk sj sk => ?_⟩, rp⟩
  · rw [get_set] at hj
    by_cases hij : i = j
    · subst hij
      rw [if_pos rfl] at hj
      split at hj
      · simp at hj
        subst hj
        exact ⟨.ref p, q1, rp⟩
      · cases hj
    · rw [if_neg hij] at hj
      obtain ⟨v, h1, h2⟩ := r.fz j f hj
      exact ⟨v, h1, h2.mono e⟩
  · rw [get_set] at hj
    by_cases hij : i = j
    · rw [if_pos hij] at hj
      split at hj <;> simp at hj
    · rw [if_neg hij] at hj
      obtain ⟨p2, o2, t1, t2, t3, t4, t5⟩ := r.ow j f hj
      have ne : p2 ≠ p := fun z => by
        subst z
        exact hij (r.uq i j d f p2 hi hj q1 t1)
      exact ⟨p2, o2, t1, t2, by rw [upd_ne ne]; exact t3, t4, t5.mono e⟩
  · rw [get_set] at hj hk
    by_cases hij : i = j
    · rw [if_pos hij] at hj
      split at hj <;> simp at hj
    · by_cases hik : i = k
      · rw [if_pos hik] at hk
        split at hk <;> simp at hk
      · rw [if_neg hij] at hj
        rw [if_neg hik] at hk
        exact r.uq j k f g q hj hk sj sk
/-- slots forgotten -/
theorem Rl.setU (r : Rl K B ρ σ H0 H) {i : Nat} {x : Option V} : Rl K B (ρ.set i .un) (σ.set i x) H0 H where
  gr := r.gr
  len := by simp [r.len]
  fz := fun j e hj => by
    rw [get_set] at hj
    by_cases hij : i = j
    · rw [if_pos hij] at hj
      split at hj <;> simp at hj
    · rw [if_neg hij] at hj
      rw [get_set, if_neg hij]
      exact r.fz j e hj
  ow := fun j e hj => by
    rw [get_set] at hj
    by_cases hij : i = j
    · rw [if_pos hij] at hj
      split at hj <;> simp at hj
    · rw [if_neg hij] at hj
      rw [get_set, if_neg hij]
      exact r.ow j e hj
  uq := fun j k e f q hj hk sj sk => by
    rw [get_set] at hj hk sj sk
    by_cases hij : i = j
    · rw [if_pos hij] at hj
      split at hj <;> simp at hj
    · by_cases hik : i = k
      · rw [if_pos hik] at hk
        split at hk <;> simp at hk
      · rw [if_neg hij] at hj sj
        rw [if_neg hik] at hk sk
        exact r.uq j k e f q hj hk sj sk
end
end Fc
set_option Elab.async false
set_option linter.all false
set_option maxRecDepth 100000
set_option maxHeartbeats 2000000
namespace Fc
open PySem L2 Evl
abbrev Fr := PySem.W.Frag
/-! ### readings -/
def WC (mg : Str → Option Value) (W : WX) (c : Str) (σ : L2.St) (H : Hp) : Prop := ∀ C, mg c = some (Value.ref C) → W (.ref C) none σ H
def Out {α : Type} (r : R α) (k : α → Prop) (e : Str → Prop) : Prop := match r with
  | .ok a => k a
  | .er c => e c
  | .bad => False
/-- what follows a value: it is frozen (false), or a young list, dict (true) -/
def Kq (k : Bool) (K : Fr) (H0 H : Hp) (d : D) (Q : VK) : Prop := match k with
  | false => ∀ v H0' H', Gr H0 H H0' H' → Rp K H0' v d → Q v H'
  | true => ∀ p o H0' H', Gr H0 H H0' H' → H' p = some o → H p = none → H0' p = none → OwnO K H0' o d → Q (.ref p) H'
theorem Kq.own {K : Fr} {H0 H : Hp} {d : D} {Q : VK} (h : Kq false K H0 H d Q) : Kq true K H0 H d Q := fun p o H0' H' g hp hn h0 ho =>
  h (.ref p) (upd H0' p o) H' (g.freeze hp hn h0) (OwnO.rp h0 ho)
theorem Kq.down {k : Bool} {K : Fr} {H0 H : Hp} {d : D} {Q : VK} (h : Kq k K H0 H d Q) : Kq true K H0 H d Q := by
  cases k with
  | false => exact h.own
  | true => exact h
theorem Kq.grow {k : Bool} {K : Fr} {H0 H H1 H2 : Hp} {d : D} {Q : VK} (h : Kq k K H0 H d Q) (g : Gr H0 H H1 H2) : Kq k K H1 H2 d Q := by
  cases k with
  | false => exact fun v H0' H' g' r => h v H0' H' (g.trans g') r
  | true => exact fun p o H0' H' g' h1 h2 h3 h4 => h p o H0' H' (g.trans g') h1 (fresh_back g.e h2) h3 h4
def tE (k : Bool) (K : Fr) (mg : Str → Option Value) (W : WX) (m : DE) : TE := fun σ H Q => ∃ B ρ H0, Rl K B ρ σ H0 H ∧
  Out (m ρ) (fun d => Kq k K H0 H d Q) (fun c => ∀ H', Ex H H' → WC mg W c σ H')
/-- a value that is frozen, or stands in an owned slot -/
def Vw (K : Fr) (ρ : En) (σ : L2.St) (H0 : Hp) (v : V) (d : D) : Prop := Rp K H0 v d ∨ ∃ (i : Nat) (p : Addr), ρ[i]? = some (Slot.ow d) ∧ σ[i]? = some (some (.ref p)) ∧ v = .ref p
def tW (K : Fr) (mg : Str → Option Value) (W : WX) (m : DE) : TE := fun σ H Q => ∃ B ρ H0, Rl K B ρ σ H0 H ∧
  Out (m ρ) (fun d => ∀ v H0' H', Gr H0 H H0' H' → Vw K ρ σ H0' v d → Q v H') (fun c => ∀ H', Ex H H' → WC mg W c σ H')
/-- a value, as it may be read now -/
def Vx (K : Fr) (H0 H : Hp) (v : V) (d : D) : Prop := Rp K H0 v d ∨ ∃ p o, v = .ref p ∧ H p = some o ∧ OwnO K H0 o d
theorem Vw.vx {K : Fr} {B : Bs} {ρ : En} {σ : L2.St} {H0 H : Hp} {v : V} {d : D} (r : Rl K B ρ σ H0 H) (h : Vw K ρ σ H0 v d) : Vx K H0 H v d := by
  rcases h with h | ⟨i, p, h1, h2, rfl⟩
  · exact .inl h
  · obtain ⟨q, o, q1, q2, q3, q4, q5⟩ := r.ow i d h1
    rw [h2] at q1
    simp at q1
    subst q1
    exact .inr ⟨p, o, rfl, q4, q5⟩
theorem Vw.mono {K : Fr} {ρ : En} {σ : L2.St} {H0 H1 : Hp} {v : V} {d : D} (e : Ex H0 H1) (h : Vw K ρ σ H0 v d) : Vw K ρ σ H1 v d := by
  rcases h with h | h
  · exact .inl (h.mono e)
  · exact .inr h
section
variable {K : Fr} {H0 H : Hp} {v : V}
theorem Rp.int_ {i : Int} (h : Rp K H0 v (.int i)) : v = .int i := by cases h; rfl
theorem Vx.non (h : Vx K H0 H v .none) : v = .non := by
  rcases h with h | ⟨p, o, _, _, h⟩
  · cases h; rfl
  · rcases h with ⟨_, _, _, q, _⟩ | ⟨_, _, _, q, _⟩ <;> cases q
theorem Vx.bl {b : Bool} (h : Vx K H0 H v (.bool b)) : v = .bl b := by
  rcases h with h | ⟨p, o, _, _, h⟩
  · cases h; rfl
  · rcases h with ⟨_, _, _, q, _⟩ | ⟨_, _, _, q, _⟩ <;> cases q
theorem Vx.int {i : Int} (h : Vx K H0 H v (.int i)) : v = .int i := by
  rcases h with h | ⟨p, o, _, _, h⟩
  · cases h; rfl
  · rcases h with ⟨_, _, _, q, _⟩ | ⟨_, _, _, q, _⟩ <;> cases q
theorem Vx.str {x : Str} (h : Vx K H0 H v (.str x)) : v = .str x := by
  rcases h with h | ⟨p, o, _, _, h⟩
  · cases h; rfl
  · rcases h with ⟨_, _, _, q, _⟩ | ⟨_, _, _, q, _⟩ <;> cases q
theorem Vx.lst {ds : List D} (s : Ex H0 H) (h : Vx K H0 H v (.list ds)) : ∃ a xs, v = .ref a ∧ H a = some (.lst xs) ∧ RpA K H0 xs ds := by
  rcases h with h | ⟨p, o, rfl, hp, h⟩
  · cases h with
    | lst h r => exact ⟨_, _, rfl, s _ _ h, r⟩
  · rcases h with ⟨xs, ds', rfl, q, r⟩ | ⟨_, _, _, q, _⟩
    · cases q
      exact ⟨p, xs, rfl, hp, r⟩
    · cases q
theorem Vx.tup {ds : List D} (s : Ex H0 H) (h : Vx K H0 H v (.tuple ds)) : ∃ a xs, v = .ref a ∧ H0 a = some (.tup xs) ∧ H a = some (.tup xs) ∧ RpA K H0 xs ds := by
  rcases h with h | ⟨p, o, rfl, hp, h⟩
  · cases h with
    | tup h r => exact ⟨_, _, rfl, h, s _ _ h, r⟩
  · rcases h with ⟨xs, ds', rfl, q, r⟩ | ⟨_, _, _, q, _⟩ <;> cases q
/-- the script: unwrapped -/
def unS : D → D
  | .dict [(.none, l)] => l
  | d => d
theorem RpE.no_none {kvs : List (List Key × V)} {l : D} {es : List (D × D)} : ¬ RpE K H0 kvs ((.none, l) :: es) := fun h => by
  generalize q : ((PyData.none, l) :: es) = zs at h
  cases h with
  | nil => cases q
  | cons h r => cases q
theorem Vx.dct {es : List (D × D)} (s : Ex H0 H) (h : Vx K H0 H v (.dict es)) : (∃ a kvs, v = .ref a ∧ H a = some (.dT kvs) ∧ RpE K H0 kvs es) ∨ ∃ (a : Addr) (ns : List Int), v = .ref a ∧ es = [(.none, .list (ns.map PyData.int))] ∧ SqL K H a (ns.map V.int) := by
  rcases h with h | ⟨p, o, rfl, hp, h⟩
  · cases h with
    | dct h r => exact .inl ⟨_, _, rfl, s _ _ h, r⟩
    | scr h => exact .inr ⟨_, _, rfl, rfl, ex_l s h⟩
  · rcases h with ⟨xs, ds', rfl, q, r⟩ | ⟨kvs, es', rfl, q, r⟩
    · cases q
    · cases q
      exact .inl ⟨p, kvs, rfl, hp, r⟩
mutual
theorem Rp.dp (s : Ex H0 H) : ∀ {v : V} {d : D}, Rp K H0 v d → d.canLay0 = true → Dp K H v d
  | _, _, .non, _ => .non
  | _, _, .bl b, _ => .bl b
  | _, _, .int i, _ => .int i
  | _, _, .str x, _ => .str x
  | _, _, .lst h r, c => .lst (SqL.of (s _ _ h)) (RpA.dp s r (by simpa [PyData.canLay0] using c))
  | _, _, .tup h r, c => .tup (SqT.of (s _ _ h)) (RpA.dp s r (by simpa [PyData.canLay0] using c))
  | _, _, .dct h r, c => by simp [PyData.canLay0] at c
  | _, _, .scr h, c => by simp [PyData.canLay0] at c
theorem RpA.dp (s : Ex H0 H) : ∀ {vs : List V} {ds : List D}, RpA K H0 vs ds → PyData.canLayAll0 ds = true → DpAll K H vs ds
  | _, _, .nil, _ => .nil
  | _, _, .cons h r, c => by
    have c' := Bool.and_eq_true_iff.mp (by simpa [PyData.canLayAll0] using c)
    exact .cons (Rp.dp s h c'.1) (RpA.dp s r c'.2)
end
theorem DpAll.ints {ns : List Int} : DpAll K H (ns.map V.int) (ns.map PyData.int) := by
  induction ns with
  | nil => exact .nil
  | cons n r ih => exact .cons (.int n) ih
theorem Vx.dp {d : D} (s : Ex H0 H) (h : Vx K H0 H v d) (c : (unS d).canLay0 = true) : Dp K H v (unS d) := by
  rcases h with h | ⟨p, o, rfl, hp, h⟩
  · cases h with
    | scr h => exact .lst (ex_l s h) DpAll.ints
    | dct h r =>
      exfalso
      unfold unS at c
      split at c
      · rename_i z
        cases z
        exact RpE.no_none r
      · simp [PyData.canLay0] at c
    | _ => exact Rp.dp s (by first | assumption | (constructor <;> assumption)) c
  · rcases h with ⟨xs, ds, rfl, rfl, r⟩ | ⟨kvs, es, rfl, rfl, r⟩
    · exact .lst (SqL.of hp) (r.dp s (by simpa [unS, PyData.canLay0] using c))
    · exfalso
      unfold unS at c
      split at c
      · rename_i z
        cases z
        exact RpE.no_none r
      · simp [PyData.canLay0] at c
end
/-! ### weakening -/
theorem _root_.L2.PE.wk {X : Cx} {e : Expr} {t t' : TE} (h : PE X e t) (k : ∀ σ H Q, t' σ H Q → t σ H Q) : PE X e t' := ⟨fun pins s σ H Q I q => h.run pins s σ H Q I (k σ H Q q)⟩
theorem _root_.L2.PT.wk {X : Cx} {e : Expr} {t t' : TT} (h : PT X e t) (k : ∀ σ H Q, t' σ H Q → t σ H Q) : PT X e t' := ⟨fun pins s σ H Q I q => h.run pins s σ H Q I (k σ H Q q)⟩
theorem _root_.L2.PA.wk {X : Cx} {e : List Expr} {t t' : TA} (h : PA X e t) (k : ∀ σ H Q, t' σ H Q → t σ H Q) : PA X e t' := ⟨fun ps pins s σ H Q I q => h.run ps pins s σ H Q I (k σ H Q q)⟩
abbrev PD (X : Cx) (W : WX) (e : Expr) (m : DE) : Prop := PE X e (tE false X.K X.mg W m)
abbrev PF (X : Cx) (W : WX) (e : Expr) (m : DE) : Prop := PE X e (tE true X.K X.mg W m)
abbrev PB (X : Cx) (W : WX) (e : Expr) (m : DE) : Prop := PE X e (tW X.K X.mg W m)
theorem Out.imp {α : Type} {r : R α} {k k' : α → Prop} {e e' : Str → Prop} (h : Out r k e) (hk : ∀ a, k a → k' a) (he : ∀ c, e c → e' c) : Out r k' e' := by
  cases r with
  | ok a => exact hk a h
  | er c => exact he c h
  | bad => exact h
section
variable {X : Cx} {W : WX} {e a b c : Expr} {m ma mb mc : DE} {pos : Pos}
theorem fd (h : PF X W e m) : PD X W e m := h.wk fun σ H Q ⟨B, ρ, H0, r, o⟩ => ⟨B, ρ, H0, r, o.imp (fun _ k => Kq.own k) fun _ k => k⟩
theorem db (h : PD X W e m) : PB X W e m := h.wk fun σ H Q ⟨B, ρ, H0, r, o⟩ => ⟨B, ρ, H0, r, o.imp (fun _ k v H0' H' g rp => k v H0' H' g (.inl rp)) fun _ k => k⟩
theorem fb (h : PF X W e m) : PB X W e m := db (fd h)
/-! ### names, constants -/
def eC (d : D) : DE := fun _ => .ok d
def eV (i : Nat) : DE := fun ρ => match ρ[i]? with
  | some (.fz d) => .ok d
  | _ => .bad
def eW (i : Nat) : DE := fun ρ => match ρ[i]? with
  | some (.fz d) => .ok d
  | some (.ow d) => .ok d
  | _ => .bad
theorem pd_const {v : V} {d : D} (h : PE X e (tC v)) (hr : ∀ H, Rp X.K H v d) : PD X W e (eC d) := h.wk fun σ H Q ⟨B, ρ, H0, r, o⟩ => o v H0 H (Gr.refl r.s) (hr H0)
theorem pd_int {i : Int} {j : Nat} : PD X W (.Constant (.int i) j pos) (eC (.int i)) := pd_const pe_int fun _ => .int i
theorem pd_bl {i : Bool} {j : Nat} : PD X W (.Constant (.bool i) j pos) (eC (.bool i)) := pd_const pe_bl fun _ => .bl i
theorem pd_non {j : Nat} : PD X W (.Constant .none j pos) (eC .none) := pd_const pe_non fun _ => .non
theorem pd_str {x : Str} {j : Nat} : PD X W (.Constant (.str x) j pos) (eC (.str x)) := pd_const pe_str fun _ => .str x
theorem pd_gint {x : Str} {i : Int} (hg : Gl X x) (hm : ∃ t, X.mg x = some (.int i t)) (hd : (x == ("__debug__" : Str)) = false := by decide) : PD X W (.Name x pos) (eC (.int i)) := by
  obtain ⟨t, hm⟩ := hm
  exact pd_const (pe_glob hg hm (v := .int i) ⟨t, rfl⟩ hd) fun _ => .int i
theorem pd_gstr {x z : Str} (hg : Gl X x) (hm : ∃ t, X.mg x = some (.str z t)) (hd : (x == ("__debug__" : Str)) = false := by decide) : PD X W (.Name x pos) (eC (.str z)) := by
  obtain ⟨t, hm⟩ := hm
  exact pd_const (pe_glob hg hm (v := .str z) ⟨t, rfl⟩ hd) fun _ => .str z
theorem dv (i : Nat) {x : Str} (hN : X.N[i]? = some x := by rfl) (hv : Vis X.env.scope x := by first | exact Or.inl rfl | exact Or.inr (Or.inl rfl) | exact Or.inr (Or.inr rfl)) (hd : (x == ("__debug__" : Str)) = false := by decide)
    (hcd : (x == ("__classdict__" : Str)) = false := by decide) : PD X W (.Name x pos) (eV i) := (pe_var hN hv hd hcd).wk fun σ H Q ⟨B, ρ, H0, r, o⟩ => by
  unfold eV at o
  split at o
  · rename_i d h
    obtain ⟨v, h1, h2⟩ := r.fz i d h
    exact ⟨v, h1, o v H0 H (Gr.refl r.s) h2⟩
  · exact o.elim
theorem bv (i : Nat) {x : Str} (hN : X.N[i]? = some x := by rfl) (hv : Vis X.env.scope x := by first | exact Or.inl rfl | exact Or.inr (Or.inl rfl) | exact Or.inr (Or.inr rfl)) (hd : (x == ("__debug__" : Str)) = false := by decide)
    (hcd : (x == ("__classdict__" : Str)) = false := by decide) : PB X W (.Name x pos) (eW i) := (pe_var hN hv hd hcd).wk fun σ H Q ⟨B, ρ, H0, r, o⟩ => by
  unfold eW at o
  split at o
  · rename_i d h
    obtain ⟨v, h1, h2⟩ := r.fz i d h
    exact ⟨v, h1, o v H0 H (Gr.refl r.s) (.inl h2)⟩
  · rename_i d h
    obtain ⟨p, q, h1, _⟩ := r.ow i d h
    exact ⟨.ref p, h1, o _ H0 H (Gr.refl r.s) (.inr ⟨i, p, h, h1, rfl⟩)⟩
  · exact o.elim
/-! ### operators -/
def OpD (k : Bool) (X : Cx) (f : Value → Value → Sem Value) (op : D → D → R D) : Prop := ∃ r : R2, OpR X f r ∧ ∀ H0 H x y dx dy d, Ex H0 H → Vx X.K H0 H x dx → Vx X.K H0 H y dy → op dx dy = .ok d → ∀ Q, Kq k X.K H0 H d Q → r x y H Q
def IxD (k : Bool) (X : Cx) (op : D → D → R D) : Prop := ∃ r : R2, IxR X r ∧ ∀ H0 H x y dx dy d, Ex H0 H → Vx X.K H0 H x dx → Vx X.K H0 H y dy → op dx dy = .ok d → ∀ Q, Kq k X.K H0 H d Q → r x y H Q
/-- never an error of its own -/
def Calm2 (op : D → D → R D) : Prop := ∀ x y c, op x y ≠ .er c
def eBin (op : D → D → R D) (ma mb : DE) : DE := fun ρ => (ma ρ).bind fun x => (mb ρ).bind fun y => op x y
theorem t_bin {k : Bool} {K : Fr} {mg : Str → Option Value} {op : D → D → R D} {r : R2} (cm : Calm2 op)
    (hr : ∀ H0 H x y dx dy d, Ex H0 H → Vx K H0 H x dx → Vx K H0 H y dy → op dx dy = .ok d → ∀ Q, Kq k K H0 H d Q → r x y H Q) {σ : L2.St} {H : Hp} {Q : VK}
    (h : tE k K mg W (eBin op ma mb) σ H Q) : tOp r (tW K mg W ma) (tW K mg W mb) σ H Q := by
  obtain ⟨B, ρ, H0, rl, o⟩ := h
  refine ⟨B, ρ, H0, rl, ?_⟩
  unfold eBin at o
  cases ha : ma ρ with
  | bad => rw [ha] at o; exact o
  | er c => rw [ha] at o; exact o
  | ok da =>
    rw [ha] at o
    intro x H1 H2 g1 vx
    have rl2 := rl.grow g1
    refine ⟨B, ρ, H1, rl2, ?_⟩
    cases hb : mb ρ with
    | bad => rw [R.bind_ok, hb] at o; exact o
    | er c => rw [R.bind_ok, hb] at o; exact fun H' e => o H' (g1.e.trans e)
    | ok db =>
      rw [R.bind_ok, hb, R.bind_ok] at o
      intro y H3 H4 g2 vy
      have rl3 := rl2.grow g2
      cases hc : op da db with
      | bad => rw [hc] at o; exact o.elim
      | er c => exact absurd hc (cm _ _ _)
      | ok d =>
        rw [hc] at o
        exact hr H3 H4 x y da db d rl3.s (Vw.vx rl3 (vx.mono g2.e0)) (Vw.vx rl3 vy) hc Q (Kq.grow o (g1.trans g2))
theorem pd_bin {k : Bool} {op : Operator} {f : D → D → R D} (ho : OpD k X (binaryOp op) f) (cm : Calm2 f) (ha : PB X W a ma) (hb : PB X W b mb) : PE X (.BinOp a op b pos) (tE k X.K X.mg W (eBin f ma mb)) := by
  obtain ⟨r, h1, h2⟩ := ho
  exact (pe_op h1 ha hb).wk fun σ H Q h => t_bin cm h2 h
theorem pd_cmp {op : CmpOp} {f : D → D → R D} (ho : OpD false X (compareOp op) f) (cm : Calm2 f) (hm : behindInMarks op b = false) (ha : PB X W a ma) (hb : PB X W b mb) : PD X W (.Compare a [op] [b] pos) (eBin f ma mb) := by
  obtain ⟨r, h1, h2⟩ := ho
  exact (pe_cmpR h1 ha hb hm).wk fun σ H Q h => t_bin cm h2 h
theorem pd_ix {f : D → D → R D} (ho : IxD false X f) (cm : Calm2 f) (hs : PlainIx b) (ha : PB X W a ma) (hb : PB X W b mb) : PD X W (.Subscript a b pos) (eBin f ma mb) := by
  obtain ⟨r, h1, h2⟩ := ho
  exact (pe_ix h1 ha hb hs).wk fun σ H Q h => t_bin cm h2 h
theorem OpD.or {k : Bool} {f : Value → Value → Sem Value} {p q pq : D → D → R D} (h : OpD k X f p) (h' : OpD k X f q) (hpq : ∀ x y d, pq x y = .ok d → p x y = .ok d ∨ q x y = .ok d) : OpD k X f pq := by
  obtain ⟨r, h1, h2⟩ := h
  obtain ⟨r', h1', h2'⟩ := h'
  refine ⟨_, h1.or h1', fun H0 H x y dx dy d s vx vy e Q kq => ?_⟩
  rcases hpq dx dy d e with e | e
  · exact .inl (h2 H0 H x y dx dy d s vx vy e Q kq)
  · exact .inr (h2' H0 H x y dx dy d s vx vy e Q kq)
theorem IxD.or {k : Bool} {p q pq : D → D → R D} (h : IxD k X p) (h' : IxD k X q) (hpq : ∀ x y d, pq x y = .ok d → p x y = .ok d ∨ q x y = .ok d) : IxD k X pq := by
  obtain ⟨r, h1, h2⟩ := h
  obtain ⟨r', h1', h2'⟩ := h'
  refine ⟨_, h1.or h1', fun H0 H x y dx dy d s vx vy e Q kq => ?_⟩
  rcases hpq dx dy d e with e | e
  · exact .inl (h2 H0 H x y dx dy d s vx vy e Q kq)
  · exact .inr (h2' H0 H x y dx dy d s vx vy e Q kq)
theorem OpD.dn {f : Value → Value → Sem Value} {p : D → D → R D} (h : OpD true X f p) : OpD false X f p := by
  obtain ⟨r, h1, h2⟩ := h
  exact ⟨r, h1, fun H0 H x y dx dy d s vx vy e Q kq => h2 H0 H x y dx dy d s vx vy e Q kq.own⟩
/-- ints to an int, a truth -/
def dI (C : Int → Int → Bool) (g : Int → Int → D) : D → D → R D
  | .int i, .int j => if C i j = true then .ok (g i j) else .bad
  | _, _ => .bad
theorem dI_ok {C : Int → Int → Bool} {g : Int → Int → D} {x y d : D} (h : dI C g x y = .ok d) : ∃ i j, x = .int i ∧ y = .int j ∧ C i j = true ∧ d = g i j := by
  unfold dI at h
  split at h
  · rename_i i j
    by_cases hc : C i j = true
    · rw [if_pos hc] at h
      cases h
      exact ⟨i, j, rfl, rfl, hc, rfl⟩
    · rw [if_neg hc] at h; cases h
  · cases h
theorem dI_calm {C : Int → Int → Bool} {g : Int → Int → D} : Calm2 (dI C g) := fun x y c h => by
  unfold dI at h
  split at h
  · split at h <;> cases h
  · cases h
theorem opD_I {f : Value → Value → Sem Value} {C : Int → Int → Prop} {Cb : Int → Int → Bool} {g : Int → Int → V} {gd : Int → Int → D} (ho : OpR X f (rI C g)) (hC : ∀ i j, Cb i j = true → C i j) (hg : ∀ i j H, Rp X.K H (g i j) (gd i j)) : OpD false X f (dI Cb gd) :=
  ⟨_, ho, fun H0 H x y dx dy d s vx vy e Q kq => by
    obtain ⟨i, j, rfl, rfl, hc, rfl⟩ := dI_ok e
    exact ⟨i, j, vx.int, vy.int, hC i j hc, kq _ H0 H (Gr.refl s) (hg i j H0)⟩⟩
theorem opD_I0 {f : Value → Value → Sem Value} {g : Int → Int → V} {gd : Int → Int → D} (ho : OpR X f (rI0 g)) (hg : ∀ i j H, Rp X.K H (g i j) (gd i j)) : OpD false X f (dI (fun _ _ => true) gd) :=
  ⟨_, ho, fun H0 H x y dx dy d s vx vy e Q kq => by
    obtain ⟨i, j, rfl, rfl, hc, rfl⟩ := dI_ok e
    exact ⟨i, j, vx.int, vy.int, kq _ H0 H (Gr.refl s) (hg i j H0)⟩⟩
end
end Fc
set_option Elab.async false
set_option linter.all false
set_option maxRecDepth 100000
set_option maxHeartbeats 2000000
namespace Fc
open PySem L2 Evl PySem.Spec PyProof.Rows
section
variable {X : Cx} {W : WX} {e a b c : Expr} {m ma mb mc : DE} {pos : Pos}
def orD (p q : D → D → R D) : D → D → R D := fun x y => match p x y with
  | .ok d => .ok d
  | _ => q x y
theorem OpD.orD {k : Bool} {f : Value → Value → Sem Value} {p q : D → D → R D} (h : OpD k X f p) (h' : OpD k X f q) : OpD k X f (Fc.orD p q) := h.or h' fun x y d e => by
  unfold Fc.orD at e
  split at e
  · rename_i z hz
    cases e
    exact .inl hz
  · exact .inr e
theorem IxD.orD {k : Bool} {p q : D → D → R D} (h : IxD k X p) (h' : IxD k X q) : IxD k X (Fc.orD p q) := h.or h' fun x y d e => by
  unfold Fc.orD at e
  split at e
  · rename_i z hz
    cases e
    exact .inl hz
  · exact .inr e
theorem OpD.imp {k : Bool} {f : Value → Value → Sem Value} {p q : D → D → R D} (h : OpD k X f q) (hp : ∀ x y d, p x y = .ok d → q x y = .ok d) : OpD k X f p := by
  obtain ⟨r, h1, h2⟩ := h
  exact ⟨r, h1, fun H0 H x y dx dy d s vx vy e Q kq => h2 H0 H x y dx dy d s vx vy (hp _ _ _ e) Q kq⟩
theorem IxD.imp {k : Bool} {p q : D → D → R D} (h : IxD k X q) (hp : ∀ x y d, p x y = .ok d → q x y = .ok d) : IxD k X p := by
  obtain ⟨r, h1, h2⟩ := h
  exact ⟨r, h1, fun H0 H x y dx dy d s vx vy e Q kq => h2 H0 H x y dx dy d s vx vy (hp _ _ _ e) Q kq⟩
/-! ### sums, products -/
def dAddI : D → D → R D := dI (fun _ _ => true) fun i j => .int (i + j)
def dSub : D → D → R D := dI (fun _ _ => true) fun i j => .int (i - j)
def dMulI : D → D → R D := dI (fun i j => decide (-(2 ^ 64) < i ∧ i < 2 ^ 64) || decide (-(2 ^ 64) < j ∧ j < 2 ^ 64)) fun i j => .int (i * j)
def dMod : D → D → R D := dI (fun _ j => decide (0 < j)) fun i j => .int (i % j)
def dFdiv : D → D → R D := dI (fun _ j => decide (0 < j ∧ j < 1073741824)) fun i j => .int (i / j)
theorem od_addI : OpD false X (binaryOp .Add) dAddI := opD_I0 op_add fun i j _ => .int _
theorem od_sub : OpD false X (binaryOp .Sub) dSub := opD_I0 op_sub fun i j _ => .int _
theorem od_mulI : OpD false X (binaryOp .Mult) dMulI := opD_I op_mul (fun i j h => by simp only [Bool.or_eq_true, decide_eq_true_eq] at h; exact h) fun i j _ => .int _
theorem od_mod : OpD false X (binaryOp .Mod) dMod := opD_I op_mod (fun i j h => of_decide_eq_true h) fun i j _ => .int _
theorem od_fdiv : OpD false X (binaryOp .FloorDiv) dFdiv := opD_I op_fdiv (fun i j h => (of_decide_eq_true h : 0 < j ∧ j < 1073741824)) fun i j _ => .int _
def szB (n : Nat) : Bool := decide (n ≤ 100000)
theorem szB_ok {n : Nat} (h : szB n = true) : n ≤ sizeLine := sz_of (of_decide_eq_true h)
theorem szB_lt {n : Nat} (h : szB n = true) : n < sizeLine := Nat.lt_of_le_of_lt (of_decide_eq_true h) (by decide)
def dAddS : D → D → R D
  | .str x, .str y => if szB (x.length + y.length) = true then .ok (.str (x ++ y)) else .bad
  | _, _ => .bad
theorem od_addS : OpD false X (binaryOp .Add) dAddS := ⟨_, op_add_str, fun H0 H x y dx dy d s vx vy e Q kq => by
  unfold dAddS at e
  split at e
  · split at e
    · rename_i h
      cases e
      exact ⟨_, _, vx.str, vy.str, szB_ok h, kq _ H0 H (Gr.refl s) (.str _)⟩
    · cases e
  · cases e⟩
/-- lists: a new one -/
def dCat : D → D → R D
  | .list x, .list y => if szB (x.length + y.length) = true then .ok (.list (x ++ y)) else .bad
  | _, _ => .bad
theorem Kq.newL {K : Fr} {H0 H : Hp} {Q : VK} {xs : List V} {ds : List D} (s : Ex H0 H) (kq : Kq true K H0 H (.list ds) Q) (r : RpA K H0 xs ds) {p : Addr} (hp : H p = none) : Q (.ref p) (upd H p (.lst xs)) :=
  kq p _ H0 (upd H p (.lst xs)) (Gr.side s (Ex.new hp)) upd_same hp (fresh_back s hp) (.inl ⟨xs, ds, rfl, rfl, r⟩)
theorem Kq.newT {K : Fr} {H0 H : Hp} {Q : VK} {xs : List V} {ds : List D} (s : Ex H0 H) (kq : Kq false K H0 H (.tuple ds) Q) (r : RpA K H0 xs ds) {p : Addr} (hp : H p = none) : Q (.ref p) (upd H p (.tup xs)) :=
  kq _ (upd H0 p (.tup xs)) (upd H p (.tup xs)) (Gr.new s hp) (.tup upd_same (r.mono (Ex.new (fresh_back s hp))))
theorem od_cat : OpD true X (binaryOp .Add) dCat := ⟨_, op_cat, fun H0 H x y dx dy d s vx vy e Q kq => by
  unfold dCat at e
  split at e
  · split at e
    · rename_i h
      cases e
      obtain ⟨p, xs, rfl, hp, rp⟩ := vx.lst s
      obtain ⟨q, ys, rfl, hq, rq⟩ := vy.lst s
      exact ⟨p, q, xs, ys, rfl, rfl, hp, hq, szB_ok (by rw [rp.length, rq.length]; exact h), fun l hl => kq.newL s (rp.append rq) hl⟩
    · cases e
  · cases e⟩
def dCatT : D → D → R D
  | .tuple x, .tuple y => if szB (x.length + y.length) = true then .ok (.tuple (x ++ y)) else .bad
  | _, _ => .bad
theorem od_catT : OpD false X (binaryOp .Add) dCatT := ⟨_, op_catA, fun H0 H x y dx dy d s vx vy e Q kq => by
  unfold dCatT at e
  split at e
  · split at e
    · rename_i h
      cases e
      obtain ⟨p, xs, rfl, hp0, hp, rp⟩ := vx.tup s
      obtain ⟨q, ys, rfl, hq0, hq, rq⟩ := vy.tup s
      refine ⟨p, q, xs, ys, rfl, rfl, SqT.of hp, SqT.of hq, szB_ok (by rw [rp.length, rq.length]; exact h), fun z => ?_, fun _ z => ?_, fun _ _ l hl => kq.newT s (rp.append rq) hl⟩
      · subst z
        cases rp
        exact kq _ H0 H (Gr.refl s) (.tup hq0 rq)
      · subst z
        cases rq
        rw [List.append_nil] at kq
        exact kq _ H0 H (Gr.refl s) (.tup hp0 rp)
    · cases e
  · cases e⟩
def dAdd (x y : D) : R D := match x, y with
  | .int i, .int j => .ok (.int (i + j))
  | .str x, .str y => if szB (x.length + y.length) = true then .ok (.str (x ++ y)) else .bad
  | .list x, .list y => if szB (x.length + y.length) = true then .ok (.list (x ++ y)) else .bad
  | .tuple x, .tuple y => if szB (x.length + y.length) = true then .ok (.tuple (x ++ y)) else .bad
  | _, _ => .bad
theorem od_add : OpD false X (binaryOp .Add) dAdd :=
  ((od_addI.orD od_addS).orD (od_cat.dn.orD od_catT)).imp fun x y d h => by
    unfold dAdd at h
    split at h
    · cases h; rfl
    · split at h
      · rename_i hz
        cases h
        simp [orD, dAddI, dI, dAddS, hz]
      · cases h
    · split at h
      · rename_i hz
        cases h
        simp [orD, dAddI, dI, dAddS, dCat, hz]
      · cases h
    · split at h
      · rename_i hz
        cases h
        simp [orD, dAddI, dI, dAddS, dCat, dCatT, hz]
      · cases h
    · cases h
theorem cm_add : Calm2 dAdd := fun x y c h => by
  unfold dAdd at h
  split at h <;> first | cases h | (split at h <;> cases h)
theorem cm_cat : Calm2 dCat := fun x y c h => by
  unfold dCat at h
  split at h <;> first | cases h | (split at h <;> cases h)
/-- lists, tuples times a number -/
def dRep : D → D → R D
  | .list x, .int k => if decide (-1000 ≤ k ∧ k ≤ 1000 ∧ x.length ≤ 100) = true then .ok (.list (List.replicate k.toNat x).flatten) else .bad
  | _, _ => .bad
theorem RpA.rep {K : Fr} {H : Hp} {xs : List V} {ds : List D} (r : RpA K H xs ds) : ∀ k : Nat, RpA K H (List.replicate k xs).flatten (List.replicate k ds).flatten
  | 0 => .nil
  | k + 1 => by
    rw [List.replicate_succ, List.replicate_succ, List.flatten_cons, List.flatten_cons]
    exact r.append (RpA.rep r k)
theorem od_rep : OpD true X (binaryOp .Mult) dRep := ⟨_, op_rep, fun H0 H x y dx dy d s vx vy e Q kq => by
  unfold dRep at e
  split at e
  · split at e
    · rename_i xs k h
      cases e
      have h := of_decide_eq_true h
      obtain ⟨p, xs, rfl, hp, rp⟩ := vx.lst s
      have hl := rp.length
      refine ⟨p, _, xs, rfl, vy.int, hp, by omega, by omega, sz_of ?_, fun l hl => kq.newL s (rp.rep _) hl⟩
      exact Nat.le_trans (Nat.mul_le_mul (by omega : xs.length ≤ 100) (by omega : k.toNat ≤ 1000)) (by decide)
    · cases e
  · cases e⟩
def dMul (x y : D) : R D := match x, y with
  | .list xs, y => dRep (.list xs) y
  | x, y => dMulI x y
theorem od_mul : OpD false X (binaryOp .Mult) dMul := OpD.or od_rep.dn od_mulI fun x y d h => by
  unfold dMul at h
  split at h
  · exact .inl h
  · exact .inr h
theorem cm_rep : Calm2 dRep := fun x y c h => by
  unfold dRep at h
  split at h <;> first | cases h | (split at h <;> cases h)
theorem cm_mul : Calm2 dMul := fun x y c h => by
  unfold dMul at h
  split at h
  · exact cm_rep _ _ _ h
  · exact dI_calm _ _ _ h
/-! ### comparisons -/
def dLt : D → D → R D := dI (fun _ _ => true) fun i j => .bool (decide (i < j))
def dLe : D → D → R D := dI (fun _ _ => true) fun i j => .bool (decide (i ≤ j))
def dGt : D → D → R D := dI (fun _ _ => true) fun i j => .bool (decide (j < i))
def dGe : D → D → R D := dI (fun _ _ => true) fun i j => .bool (decide (j ≤ i))
theorem od_lt : OpD false X (compareOp .Lt) dLt := opD_I0 op_lt fun i j _ => .bl _
theorem od_le : OpD false X (compareOp .LtE) dLe := opD_I0 op_le fun i j _ => .bl _
theorem od_gt : OpD false X (compareOp .Gt) dGt := opD_I0 op_gt fun i j _ => .bl _
theorem od_ge : OpD false X (compareOp .GtE) dGe := opD_I0 op_ge fun i j _ => .bl _
def dEq (x y : D) : R D := if (SeqAt.shaped (unS x) && SeqAt.shaped (unS y)) = true then .ok (.bool (PyData.eqv (unS x) (unS y))) else .bad
def dNe (x y : D) : R D := if (SeqAt.shaped (unS x) && SeqAt.shaped (unS y)) = true then .ok (.bool (!PyData.eqv (unS x) (unS y))) else .bad
theorem od_eq (hu : X.A.units + 100 < cLine) : OpD false X (compareOp .Eq) dEq := ⟨_, op_eqD (by omega), fun H0 H x y dx dy d s vx vy e Q kq => by
  unfold dEq at e
  split at e
  · rename_i h
    cases e
    obtain ⟨h1, h2⟩ := Bool.and_eq_true_iff.mp h
    exact ⟨_, _, vx.dp s (SeqAt.canLay_of_shaped h1), vy.dp s (SeqAt.canLay_of_shaped h2), h1, h2, kq _ H0 H (Gr.refl s) (.bl _)⟩
  · cases e⟩
theorem od_ne (hu : X.A.units + 100 < cLine) : OpD false X (compareOp .NotEq) dNe := ⟨_, op_neD (by omega), fun H0 H x y dx dy d s vx vy e Q kq => by
  unfold dNe at e
  split at e
  · rename_i h
    cases e
    obtain ⟨h1, h2⟩ := Bool.and_eq_true_iff.mp h
    exact ⟨_, _, vx.dp s (SeqAt.canLay_of_shaped h1), vy.dp s (SeqAt.canLay_of_shaped h2), h1, h2, kq _ H0 H (Gr.refl s) (.bl _)⟩
  · cases e⟩
theorem cm_eq : Calm2 dEq := fun x y c h => by
  unfold dEq at h
  split at h <;> cases h
theorem cm_ne : Calm2 dNe := fun x y c h => by
  unfold dNe at h
  split at h <;> cases h
/-! ### keys of dicts -/
def keyI : D → Option Key
  | .int i => some (.inl i)
  | .str x => some (.inr x)
  | _ => none
def keyL : List D → Option (List Key)
  | [] => some []
  | d :: ds => match keyI d, keyL ds with
    | some k, some r => some (k :: r)
    | _, _ => none
def keyOf : D → Option (List Key)
  | .tuple ds => keyL ds
  | _ => none
theorem keyI_rp {K : Fr} {H : Hp} {v : V} {d : D} {k : Key} (r : Rp K H v d) (h : keyI d = some k) : v = kV k ∧ d = kD k := by
  cases r with
  | int i => cases h; exact ⟨rfl, rfl⟩
  | str x => cases h; exact ⟨rfl, rfl⟩
  | _ => cases h
theorem keyL_rp {K : Fr} {H : Hp} : ∀ {vs : List V} {ds : List D} {k : List Key}, RpA K H vs ds → keyL ds = some k → vs = k.map kV ∧ PyData.tuple ds = keyD k
  | _, _, k, .nil, h => by
    unfold keyL at h
    cases h
    exact ⟨rfl, rfl⟩
  | _, _, k, .cons (v := v) (vs := vs) (d := d) (ds := ds) r rs, h => by
    unfold keyL at h
    cases h1 : keyI d with
    | none => rw [h1] at h; cases h
    | some q =>
      cases h2 : keyL ds with
      | none => rw [h1, h2] at h; cases h
      | some t =>
        rw [h1, h2] at h
        cases h
        obtain ⟨a1, a2⟩ := keyI_rp r h1
        obtain ⟨b1, b2⟩ := keyL_rp rs h2
        have b3 : ds = t.map kD := PyData.tuple.inj b2
        exact ⟨by rw [a1, b1]; rfl, by rw [a2, b3]; rfl⟩
    
/-- what a dict's entries tell of a key -/
def lkE (es : List (D × D)) (k : List Key) : Option D := (es.find? fun e => decide (keyOf e.1 = some k)).map (·.2)
theorem keyOf_keyD : ∀ k : List Key, keyOf (keyD k) = some k
  | [] => rfl
  | q :: k => by
    have ih : keyL (k.map kD) = some k := keyOf_keyD k
    show keyL (kD q :: k.map kD) = some (q :: k)
    unfold keyL
    rw [ih]
    cases q <;> rfl
theorem RpE.lk {K : Fr} {H : Hp} (k : List Key) : ∀ {kvs : List (List Key × V)} {es : List (D × D)}, RpE K H kvs es → (∃ v d, valV kvs k = some v ∧ lkE es k = some d ∧ Rp K H v d) ∨ (valV kvs k = none ∧ lkE es k = none)
  | _, _, .nil => .inr ⟨rfl, rfl⟩
  | _, _, .cons (k := q) (v := v) (d := d) (kvs := kvs) (es := es) h r => by
    by_cases e : q = k
    · subst e
      refine .inl ⟨v, d, valV_pos rfl, ?_, h⟩
      unfold lkE
      rw [List.find?_cons, keyOf_keyD]
      simp
    · have e2 : lkE ((keyD q, d) :: es) k = lkE es k := by
        unfold lkE
        rw [List.find?_cons, keyOf_keyD]
        have : decide (some q = some k) = false := decide_eq_false fun z => e (Option.some.inj z)
        simp only [this]
      rw [valV_neg (p := (q, v)) (show ¬ (q, v).1 = k from e), e2]
      exact RpE.lk k r
/-- an entry stored -/
def putE (es : List (D × D)) (k : List Key) (d : D) : List (D × D) :=
  if (es.any fun e => decide (keyOf e.1 = some k)) = true then es.map (fun e => if keyOf e.1 = some k then (e.1, d) else e) else es ++ [(keyD k, d)]
theorem RpE.any {K : Fr} {H : Hp} (k : List Key) : ∀ {kvs : List (List Key × V)} {es : List (D × D)}, RpE K H kvs es → (kvs.any fun kv => decide (kv.1 = k)) = es.any fun e => decide (keyOf e.1 = some k)
  | _, _, .nil => rfl
  | _, _, .cons (k := q) h r => by
    rw [List.any_cons, List.any_cons, RpE.any k r]
    show (decide (q = k) || _) = (decide (keyOf (keyD q) = some k) || _)
    rw [keyOf_keyD]
    congr 1
    exact decide_eq_decide.mpr ⟨fun e => by rw [e], fun e => Option.some.inj e⟩
theorem RpE.mapP {K : Fr} {H : Hp} {k : List Key} {v : V} {d : D} (hv : Rp K H v d) : ∀ {kvs : List (List Key × V)} {es : List (D × D)}, RpE K H kvs es →
    RpE K H (kvs.map fun kv => if kv.1 = k then (kv.1, v) else kv) (es.map fun e => if keyOf e.1 = some k then (e.1, d) else e)
  | _, _, .nil => .nil
  | _, _, .cons (k := q) (v := w) (d := f) h r => by
    rw [List.map_cons, List.map_cons]
    by_cases e : q = k
    · have e2 : keyOf (keyD q, f).1 = some k := by rw [← e]; exact keyOf_keyD q
      rw [if_pos e2, if_pos (show (q, w).1 = k from e)]
      exact .cons hv (RpE.mapP hv r)
    · have e2 : ¬ keyOf (keyD q, f).1 = some k := by
        show ¬ keyOf (keyD q) = some k
        rw [keyOf_keyD]
        exact fun z => e (Option.some.inj z)
      rw [if_neg e2, if_neg (show ¬ (q, w).1 = k from e)]
      exact .cons h (RpE.mapP hv r)
theorem RpE.append {K : Fr} {H : Hp} : ∀ {kvs kws : List (List Key × V)} {es fs : List (D × D)}, RpE K H kvs es → RpE K H kws fs → RpE K H (kvs ++ kws) (es ++ fs)
  | _, _, _, _, .nil, s => s
  | _, _, _, _, .cons h r, s => .cons h (RpE.append r s)
theorem RpE.length {K : Fr} {H : Hp} : ∀ {kvs : List (List Key × V)} {es : List (D × D)}, RpE K H kvs es → kvs.length = es.length
  | _, _, .nil => rfl
  | _, _, .cons _ r => congrArg (· + 1) (RpE.length r)
theorem RpE.put {K : Fr} {H : Hp} {k : List Key} {v : V} {d : D} {kvs : List (List Key × V)} {es : List (D × D)} (r : RpE K H kvs es) (hv : Rp K H v d) : RpE K H (putK kvs k v) (putE es k d) := by
  unfold putK putE
  rw [RpE.any k r]
  split
  · exact r.mapP hv
  · exact r.append (.cons hv .nil)
/-- a key as it stands -/
theorem Vx.key {K : Fr} {H0 H : Hp} {v : V} {d : D} {k : List Key} (s : Ex H0 H) (h : Vx K H0 H v d) (hk : keyOf d = some k) : ∃ b, v = .ref b ∧ H b = some (.tup (k.map kV)) ∧ d = keyD k := by
  cases d with
  | tuple ds =>
    obtain ⟨a, xs, rfl, h0, h1, r⟩ := h.tup s
    obtain ⟨e1, e2⟩ := keyL_rp r hk
    subst e1
    exact ⟨a, rfl, h1, e2⟩
  | _ => cases hk
/-- all keys are tuples (no script) -/
def okE (es : List (D × D)) : Bool := es.all fun e => (keyOf e.1).isSome
theorem Vx.dctO {K : Fr} {H0 H : Hp} {v : V} {es : List (D × D)} (s : Ex H0 H) (h : Vx K H0 H v (.dict es)) (ho : okE es = true) : ∃ a kvs, v = .ref a ∧ H a = some (.dT kvs) ∧ RpE K H0 kvs es := by
  rcases h.dct s with h | ⟨a, ns, rfl, rfl, hs⟩
  · exact h
  · cases ho
/-! ### x in y -/
def inD (x y : D) : Option Bool := match y with
  | .list ds => if (SeqAt.shaped x && SeqAt.shaped (.list ds)) = true then some (ds.any fun z => PyData.eqv z x) else none
  | .tuple ds => if (SeqAt.shaped x && SeqAt.shaped (.list ds)) = true then some (ds.any fun z => PyData.eqv z x) else none
  | .dict es => match keyOf x with
    | some k => if okE es = true then some (lkE es k).isSome else none
    | none => none
  | .str z => match x with
    | .str y => match y.cps.toList with
      | [c] => some (decide (c ∈ z.cps.toList))
      | _ => none
    | _ => none
  | _ => none
def dIn (x y : D) : R D := match inD x y with
  | some b => .ok (.bool b)
  | none => .bad
def dNotIn (x y : D) : R D := match inD x y with
  | some b => .ok (.bool (!b))
  | none => .bad
def rInB (X : Cx) (neg : Bool) : R2 := fun x y H Q => (∃ d ds, Dp X.K H x d ∧ (Dp X.K H y (.list ds) ∨ Dp X.K H y (.tuple ds)) ∧ SeqAt.shaped d = true ∧ SeqAt.shaped (.list ds) = true ∧ Q (.bl (xor neg (ds.any fun z => PyData.eqv z d))) H) ∨
  (∃ a o, y = .ref a ∧ DGet H a x o ∧ Q (.bl (xor neg o.isSome)) H) ∨ (∃ (c : Nat) (z : Str), x = .str ⟨#[c]⟩ ∧ y = .str z ∧ Q (.bl (xor neg (decide (c ∈ z.cps.toList)))) H)
theorem shaped_tup {ds : List D} (h : SeqAt.shaped (.list ds) = true) : PyData.canLayAll0 ds = true := SeqAt.canLay_of_shaped (d := .list ds) h
theorem op_inB (hu : X.A.units + 65 < cLine) : OpR X (compareOp .In) (rInB X false) := by
  intro pins s σ H x y v u Q I rx ry h
  rcases h with ⟨d, ds, hd, he, sd, se, q⟩ | ⟨a, o, rfl, g, q⟩ | ⟨c, z, rfl, rfl, q⟩
  · simp only [Bool.false_xor] at q
    obtain ⟨as, r1⟩ := Dp.reads I d x v hd rx
    rcases he with he | he
    · obtain ⟨bs, r2⟩ := Dp.reads I (.list ds) y u he ry
      exact SeqAt.in_list_reads r2 r1 (SeqAt.canLay_of_shaped se) (SeqAt.canLay_of_shaped sd) (room_in_shaped sd hu) ⟨.bl _, H, I, rfl, q⟩
    · obtain ⟨bs, r2⟩ := Dp.reads I (.tuple ds) y u he ry
      exact SeqAt.in_tuple_reads r2 r1 (SeqAt.canLay_of_shaped se) (SeqAt.canLay_of_shaped sd) (room_in_shaped sd hu) ⟨.bl _, H, I, rfl, q⟩
  · simp only [Bool.false_xor] at q
    obtain rfl : u = Value.ref a := ry
    exact d_in (by omega) I g rx fun s3 I3 => ⟨.bl o.isSome, H, I3, rfl, q⟩
  · simp only [Bool.false_xor] at q
    exact op_in_sign pins s σ H _ _ v u Q I rx ry ⟨c, z, rfl, rfl, q⟩
theorem op_notInB (hu : X.A.units + 65 < cLine) : OpR X (compareOp .NotIn) (rInB X true) := by
  intro pins s σ H x y v u Q I rx ry h
  rcases h with ⟨d, ds, hd, he, sd, se, q⟩ | ⟨a, o, rfl, g, q⟩ | ⟨c, z, rfl, rfl, q⟩
  · simp only [Bool.true_xor] at q
    obtain ⟨as, r1⟩ := Dp.reads I d x v hd rx
    rcases he with he | he
    · obtain ⟨bs, r2⟩ := Dp.reads I (.list ds) y u he ry
      exact SeqAt.notIn_list_reads r2 r1 (SeqAt.canLay_of_shaped se) (SeqAt.canLay_of_shaped sd) (room_in_shaped sd hu) ⟨.bl _, H, I, rfl, q⟩
    · obtain ⟨bs, r2⟩ := Dp.reads I (.tuple ds) y u he ry
      exact SeqAt.notIn_tuple_reads r2 r1 (SeqAt.canLay_of_shaped se) (SeqAt.canLay_of_shaped sd) (room_in_shaped sd hu) ⟨.bl _, H, I, rfl, q⟩
  · simp only [Bool.true_xor] at q
    obtain rfl : u = Value.ref a := ry
    exact d_notIn (by omega) I g rx fun s3 I3 => ⟨.bl (!o.isSome), H, I3, rfl, q⟩
  · simp only [Bool.true_xor] at q
    exact op_notIn_sign pins s σ H _ _ v u Q I rx ry ⟨c, z, rfl, rfl, q⟩
theorem str_one {y : Str} {c : Nat} (h : y.cps.toList = [c]) : y = ⟨#[c]⟩ := by
  cases y with
  | mk cps =>
    have : cps = #[c] := by
      apply Array.toList_inj.mp
      exact h
    rw [this]
theorem inB_of {neg bb : Bool} {H0 H : Hp} {x y : V} {dx dy : D} (s : Ex H0 H) (vx : Vx X.K H0 H x dx) (vy : Vx X.K H0 H y dy) (e : inD dx dy = some bb) {Q : VK} (kq : Kq false X.K H0 H (.bool (xor neg bb)) Q) : rInB X neg x y H Q := by
  unfold inD at e
  split at e
  · split at e
    · rename_i h
      cases e
      obtain ⟨h1, h2⟩ := Bool.and_eq_true_iff.mp h
      have hx : (unS dx).canLay0 = true := by
        unfold unS
        split
        · simp [SeqAt.shaped, PyData.canLay0] at h1
        · exact SeqAt.canLay_of_shaped h1
      have ex : unS dx = dx := by
        unfold unS
        split
        · simp [SeqAt.shaped, PyData.canLay0] at h1
        · rfl
      refine .inl ⟨dx, _, ex ▸ vx.dp s hx, .inl (vy.dp s (SeqAt.canLay_of_shaped h2)), h1, h2, kq _ H0 H (Gr.refl s) (.bl _)⟩
    · cases e
  · split at e
    · rename_i h
      cases e
      obtain ⟨h1, h2⟩ := Bool.and_eq_true_iff.mp h
      have hx : (unS dx).canLay0 = true := by
        unfold unS
        split
        · simp [SeqAt.shaped, PyData.canLay0] at h1
        · exact SeqAt.canLay_of_shaped h1
      have ex : unS dx = dx := by
        unfold unS
        split
        · simp [SeqAt.shaped, PyData.canLay0] at h1
        · rfl
      refine .inl ⟨dx, _, ex ▸ vx.dp s hx, .inr (vy.dp s (by show PyData.canLay0 (.tuple _) = true; unfold PyData.canLay0; exact shaped_tup h2)), h1, h2, kq _ H0 H (Gr.refl s) (.bl _)⟩
    · cases e
  · split at e
    · split at e
      · rename_i es _ k hk ho
        cases e
        obtain ⟨b, rfl, hb, rfl⟩ := vx.key s hk
        obtain ⟨a, kvs, rfl, ha, r⟩ := vy.dctO s ho
        refine .inr (.inl ⟨a, _, rfl, DGet.t ha hb, ?_⟩)
        have : (valV kvs k).isSome = (lkE es k).isSome := by
          rcases RpE.lk _ r with ⟨v, d, h1, h2, _⟩ | ⟨h1, h2⟩ <;> rw [h1, h2] <;> rfl
        rw [this]
        exact kq _ H0 H (Gr.refl s) (.bl _)
      · cases e
    · cases e
  · split at e
    · split at e
      · rename_i hc
        cases e
        have := str_one hc
        subst this
        exact .inr (.inr ⟨_, _, vx.str, vy.str, kq _ H0 H (Gr.refl s) (.bl _)⟩)
      · cases e
    · cases e
  · cases e
end
end Fc
set_option Elab.async false
set_option linter.all false
set_option maxRecDepth 100000
set_option maxHeartbeats 2000000
namespace Fc
open PySem L2 Evl PySem.Spec PyProof.Rows
theorem _root_.L2.Room.u {k : Nat} {A : Around} (r : Room k A) : A.units + 100 < cLine := by have := r.un; omega
section
variable {X : Cx} {W : WX} {e a b c : Expr} {es : List Expr} {m ma mb mc : DE} {pos : Pos}
/-! ### in -/
theorem od_in (hu : X.A.units + 100 < cLine) : OpD false X (compareOp .In) dIn := ⟨_, op_inB (by omega), fun H0 H x y dx dy d s vx vy e Q kq => by
  unfold dIn at e
  split at e
  · rename_i bb h
    cases e
    exact inB_of (neg := false) s vx vy h (by rw [Bool.false_xor]; exact kq)
  · cases e⟩
theorem od_notIn (hu : X.A.units + 100 < cLine) : OpD false X (compareOp .NotIn) dNotIn := ⟨_, op_notInB (by omega), fun H0 H x y dx dy d s vx vy e Q kq => by
  unfold dNotIn at e
  split at e
  · rename_i bb h
    cases e
    exact inB_of (neg := true) s vx vy h (by rw [Bool.true_xor]; exact kq)
  · cases e⟩
theorem cm_in : Calm2 dIn := fun x y c h => by
  unfold dIn at h
  split at h <;> cases h
theorem cm_notIn : Calm2 dNotIn := fun x y c h => by
  unfold dNotIn at h
  split at h <;> cases h
/-! ### subscripts -/
def dIx (x y : D) : R D := match x, y with
  | .list ds, .int i => match atI ds i with
    | some d => .ok d
    | none => .bad
  | .tuple ds, .int i => match atI ds i with
    | some d => .ok d
    | none => .bad
  | .str z, .int i => if szB z.length = true then (match atI z.cps.toList i with
    | some c => .ok (.str ⟨#[c]⟩)
    | none => .bad) else .bad
  | .dict [(.none, .list ds)], .int i => match atI ds i with
    | some d => .ok d
    | none => .bad
  | .dict es, .tuple ks => match keyL ks with
    | some k => match lkE es k with
      | some d => .ok d
      | none => .bad
    | none => .bad
  | _, _ => .bad
theorem cm_ix : Calm2 dIx := fun x y c h => by
  unfold dIx at h
  repeat' first
    | cases h
    | split at h
theorem RpA.at_ {K : Fr} {H : Hp} {vs : List V} {ds : List D} {i : Int} {d : D} (r : RpA K H vs ds) (h : atI ds i = some d) : ∃ v, atI vs i = some v ∧ Rp K H v d := by
  unfold atI at h ⊢
  rw [r.length]
  cases q : ixN ds.length i with
  | none => rw [q] at h; cases h
  | some j =>
    rw [q] at h
    exact r.getD h
def rIxB (X : Cx) : R2 := fun x y H Q => rIx X.K x y H Q ∨ ∃ a v, x = .ref a ∧ DGet H a y (some v) ∧ Q v H
theorem ix_dT (hu : X.A.units + 1 < cLine) : IxR X (fun x y H Q => ∃ a v, x = .ref a ∧ DGet H a y (some v) ∧ Q v H) := by
  intro value slice pins s σ H x y v u Q I rx ry h hs
  obtain ⟨a, z, rfl, g, q⟩ := h
  obtain rfl : v = Value.ref a := rx
  exact tail_any (dict_typeIs I g) PySem.F.slot_dict_getitem.lookup (d_getItem hu I g ry fun w' s3 I3 rw' => ⟨z, H, I3, rw', q⟩) hs
theorem od_ix (hu : X.A.units + 100 < cLine) : IxD false X dIx := ⟨rIxB X, ix_seq.or (ix_dT (by omega)), fun H0 H x y dx dy d s vx vy e Q kq => by
  unfold dIx at e
  split at e
  · split at e
    · rename_i z hz
      cases e
      obtain ⟨p, xs, rfl, hp, rp⟩ := vx.lst s
      obtain ⟨v, h1, h2⟩ := rp.at_ hz
      exact .inl (.inl ⟨p, xs, _, v, rfl, vy.int, SqL.of hp, h1, kq v H0 H (Gr.refl s) h2⟩)
    · cases e
  · split at e
    · rename_i z hz
      cases e
      obtain ⟨p, xs, rfl, hp0, hp, rp⟩ := vx.tup s
      obtain ⟨v, h1, h2⟩ := rp.at_ hz
      exact .inl (.inr (.inl ⟨p, xs, _, v, rfl, vy.int, SqT.of hp, h1, kq v H0 H (Gr.refl s) h2⟩))
    · cases e
  · split at e
    · split at e
      · rename_i hz _ c hc
        cases e
        exact .inl (.inr (.inr ⟨_, _, c, vx.str, vy.int, szB_ok hz, hc, kq _ H0 H (Gr.refl s) (.str _)⟩))
      · cases e
    · cases e
  · split at e
    · rename_i ds i z hz
      cases e
      rcases vx.dct s with ⟨a, kvs, rfl, ha, r⟩ | ⟨a, ns, rfl, e2, hs⟩
      · exact (RpE.no_none r).elim
      · simp at e2
        subst e2
        obtain ⟨v, h1, h2⟩ := (RpA.ints (K := X.K) (H := H0) (ns := ns)).at_ hz
        exact .inl (.inl ⟨a, _, _, v, rfl, vy.int, hs, h1, kq v H0 H (Gr.refl s) h2⟩)
    · cases e
  · split at e
    · split at e
      · rename_i _ k hk _ z hz
        cases e
        obtain ⟨b, rfl, hb, _⟩ := vy.key s (k := k) hk
        rcases vx.dct s with ⟨a, kvs, rfl, ha, r⟩ | ⟨a, ns, rfl, rfl, hs⟩
        · rcases RpE.lk k r with ⟨v, d, h1, h2, h3⟩ | ⟨h1, h2⟩
          · rw [h2] at hz
            cases hz
            exact .inr ⟨a, v, rfl, by rw [← h1]; exact DGet.t ha hb, kq v H0 H (Gr.refl s) h3⟩
          · rw [h2] at hz; cases hz
        · exfalso
          unfold lkE at hz
          simp [keyOf] at hz
      · cases e
    · cases e
  · cases e⟩
/-! ### is None, minus -/
def isN : D → Bool
  | .none => true
  | _ => false
theorem Vx.isN {K : Fr} {H0 H : Hp} {v : V} {d : D} (h : Vx K H0 H v d) : decide (v = .non) = Fc.isN d := by
  rcases h with h | ⟨p, o, rfl, _, h⟩
  · cases h <;> rfl
  · rcases h with ⟨_, _, _, rfl, _⟩ | ⟨_, _, _, rfl, _⟩ <;> rfl
def eU (f : D → R D) (ma : DE) : DE := fun ρ => (ma ρ).bind f
def dIsN (d : D) : R D := .ok (.bool (isN d))
def dNotN (d : D) : R D := .ok (.bool (!isN d))
theorem t_un {k : Bool} {K : Fr} {mg : Str → Option Value} {f : D → R D} {t : V → Hp → VK → Prop} (cm : ∀ d c, f d ≠ .er c)
    (hr : ∀ H0 H x dx d, Ex H0 H → Vx K H0 H x dx → f dx = .ok d → ∀ Q, Kq k K H0 H d Q → t x H Q) {σ : L2.St} {H : Hp} {Q : VK} (h : tE k K mg W (eU f ma) σ H Q) : tW K mg W ma σ H fun x H1 => t x H1 Q := by
  obtain ⟨B, ρ, H0, rl, o⟩ := h
  refine ⟨B, ρ, H0, rl, ?_⟩
  unfold eU at o
  cases ha : ma ρ with
  | bad => rw [ha] at o; exact o
  | er c => rw [ha] at o; exact o
  | ok da =>
    rw [ha] at o
    intro x H1 H2 g1 vx
    have rl2 := rl.grow g1
    cases hc : f da with
    | bad => rw [R.bind_ok, hc] at o; exact o.elim
    | er c => exact absurd hc (cm _ _)
    | ok d =>
      rw [R.bind_ok, hc] at o
      exact hr H1 H2 x da d rl2.s (Vw.vx rl2 vx) hc Q (Kq.grow o g1)
theorem pd_isN {j : Nat} {pos' : Pos} (ha : PB X W a ma) : PD X W (.Compare a [.Is] [.Constant .none j pos'] pos) (eU dIsN ma) := (pe_cmp (pc_isN ha) rfl).wk fun σ H Q h =>
  t_un (t := fun x H1 Q => Q (.bl (decide (x = .non))) H1) (fun d c z => by cases (show R.ok _ = R.er c from z)) (fun H0 H x dx d s vx e Q kq => by cases e; rw [vx.isN]; exact kq _ H0 H (Gr.refl s) (.bl _)) h
theorem pd_notN {j : Nat} {pos' : Pos} (ha : PB X W a ma) : PD X W (.Compare a [.IsNot] [.Constant .none j pos'] pos) (eU dNotN ma) := (pe_cmp (pc_notN ha) rfl).wk fun σ H Q h =>
  t_un (t := fun x H1 Q => Q (.bl (!decide (x = .non))) H1) (fun d c z => by cases (show R.ok _ = R.er c from z)) (fun H0 H x dx d s vx e Q kq => by cases e; rw [vx.isN]; exact kq _ H0 H (Gr.refl s) (.bl _)) h
def dNeg : D → R D
  | .int i => .ok (.int (-i))
  | _ => .bad
theorem pd_neg (ha : PB X W a ma) : PD X W (.UnaryOp .USub a pos) (eU dNeg ma) := (pe_un un_neg ha).wk fun σ H Q h =>
  t_un (t := fun x H1 Q => ∃ i, x = .int i ∧ Q (.int (-i)) H1) (fun d c z => by unfold dNeg at z; split at z <;> cases z) (fun H0 H x dx d s vx e Q kq => by
    unfold dNeg at e
    split at e
    · cases e; exact ⟨_, vx.int, kq _ H0 H (Gr.refl s) (.int _)⟩
    · cases e) h
/-! ### tests -/
def tT (K : Fr) (mg : Str → Option Value) (W : WX) (m : DE) : TT := fun σ H Q => ∃ B ρ H0, Rl K B ρ σ H0 H ∧
  Out (m ρ) (fun d => ∃ b, d = .bool b ∧ ∀ H0' H', Gr H0 H H0' H' → Q b H') (fun c => ∀ H', Ex H H' → WC mg W c σ H')
abbrev PTd (X : Cx) (W : WX) (e : Expr) (m : DE) : Prop := PT X e (tT X.K X.mg W m)
theorem td (h : PD X W e m) (he : ∀ whole, isTrue e X.env whole = (do let v ← whole; standAt e.pos; holding [v] (truthy v)) := by intro _; rfl) : PTd X W e m := (pt_val h he).wk fun σ H Q ⟨B, ρ, H0, r, o⟩ =>
  ⟨B, ρ, H0, r, o.imp (fun d ⟨b, e, k⟩ v H0' H' g rp => by subst e; cases rp; exact ⟨b, rfl, k H0' H' g⟩) fun _ k => k⟩
theorem td_cmp {op : CmpOp} {f : D → D → R D} (ho : OpD false X (compareOp op) f) (cm : Calm2 f) (hm : behindInMarks op b = false) (ha : PB X W a ma) (hb : PB X W b mb) : PTd X W (.Compare a [op] [b] pos) (eBin f ma mb) := by
  obtain ⟨r, h1, h2⟩ := ho
  refine (pt_cmpR h1 ha hb hm).wk fun σ H Q h => ?_
  show tOp r (tW X.K X.mg W ma) (tW X.K X.mg W mb) σ H fun x H1 => ∃ k, x = .bl k ∧ Q k H1
  refine t_bin (k := false) cm h2 ?_
  obtain ⟨B, ρ, H0, r, o⟩ := h
  exact ⟨B, ρ, H0, r, o.imp (fun d ⟨b, e, k⟩ v H0' H' g rp => by subst e; cases rp; exact ⟨b, rfl, k H0' H' g⟩) fun _ k => k⟩
theorem td_isN {j : Nat} {pos' : Pos} (ha : PB X W a ma) : PTd X W (.Compare a [.Is] [.Constant .none j pos'] pos) (eU dIsN ma) := (pt_cmp (pc_isN ha) rfl).wk fun σ H Q h => by
  show tIsN (tW X.K X.mg W ma) σ H fun x H1 => ∃ c, x = .bl c ∧ Q c H1
  refine t_un (k := false) (K := X.K) (mg := X.mg) (Q := fun x H1 => ∃ c, x = V.bl c ∧ Q c H1) (f := dIsN) (t := fun x H1 Q => Q (.bl (decide (x = .non))) H1) (fun d c z => by cases (show R.ok _ = R.er c from z)) (fun H0 H x dx d s vx e Q kq => by cases e; rw [vx.isN]; exact kq _ H0 H (Gr.refl s) (.bl _)) ?_
  obtain ⟨B, ρ, H0, r, o⟩ := h
  exact ⟨B, ρ, H0, r, o.imp (fun d ⟨b, e, k⟩ v H0' H' g rp => by subst e; cases rp; exact ⟨b, rfl, k H0' H' g⟩) fun _ k => k⟩
theorem td_notN {j : Nat} {pos' : Pos} (ha : PB X W a ma) : PTd X W (.Compare a [.IsNot] [.Constant .none j pos'] pos) (eU dNotN ma) := (pt_cmp (pc_notN ha) rfl).wk fun σ H Q h => by
  show tNotN (tW X.K X.mg W ma) σ H fun x H1 => ∃ c, x = .bl c ∧ Q c H1
  refine t_un (k := false) (K := X.K) (mg := X.mg) (Q := fun x H1 => ∃ c, x = V.bl c ∧ Q c H1) (f := dNotN) (t := fun x H1 Q => Q (.bl (!decide (x = .non))) H1) (fun d c z => by cases (show R.ok _ = R.er c from z)) (fun H0 H x dx d s vx e Q kq => by cases e; rw [vx.isN]; exact kq _ H0 H (Gr.refl s) (.bl _)) ?_
  obtain ⟨B, ρ, H0, r, o⟩ := h
  exact ⟨B, ρ, H0, r, o.imp (fun d ⟨b, e, k⟩ v H0' H' g rp => by subst e; cases rp; exact ⟨b, rfl, k H0' H' g⟩) fun _ k => k⟩
/-- and, or, not, if -/
def dNot : D → R D
  | .bool b => .ok (.bool (!b))
  | _ => .bad
def eAnd (ma mb : DE) : DE := fun ρ => (ma ρ).bind fun d => match d with
  | .bool true => mb ρ
  | .bool false => .ok (.bool false)
  | _ => .bad
def eOr (ma mb : DE) : DE := fun ρ => (ma ρ).bind fun d => match d with
  | .bool true => .ok (.bool true)
  | .bool false => mb ρ
  | _ => .bad
def eIf (mc ma mb : DE) : DE := fun ρ => (mc ρ).bind fun d => match d with
  | .bool true => ma ρ
  | .bool false => mb ρ
  | _ => .bad
theorem td_not (ha : PTd X W a ma) : PTd X W (.UnaryOp .Not a pos) (eU dNot ma) := (pt_not ha).wk fun σ H Q ⟨B, ρ, H0, r, o⟩ => by
  refine ⟨B, ρ, H0, r, ?_⟩
  unfold eU at o
  cases h : ma ρ with
  | bad => rw [h] at o; exact o
  | er c => rw [h] at o; exact o
  | ok d =>
    rw [h, R.bind_ok] at o
    unfold dNot at o
    split at o
    · obtain ⟨b, e, k⟩ := o
      cases e
      exact ⟨_, rfl, k⟩
    · exact o.elim
abbrev PWd (X : Cx) (W : WX) (e : Expr) (m : DE) : Prop := PW X e (tT X.K X.mg W m)
theorem _root_.L2.PW.wk {X : Cx} {e : Expr} {t t' : TT} (h : PW X e t) (k : ∀ σ H Q, t' σ H Q → t σ H Q) : PW X e t' := ⟨fun wh pins s σ H Q I q => h.run wh pins s σ H Q I (k σ H Q q)⟩
theorem t_and {σ : L2.St} {H : Hp} {Q : Bool → Hp → Prop} {K : Fr} {mg : Str → Option Value} (h : tT K mg W (eAnd ma mb) σ H Q) : tAnd (tT K mg W ma) (tT K mg W mb) σ H Q := by
  obtain ⟨B, ρ, H0, r, o⟩ := h
  refine ⟨B, ρ, H0, r, ?_⟩
  unfold eAnd at o
  cases ha : ma ρ with
  | bad => rw [ha] at o; exact o
  | er c => rw [ha] at o; exact o
  | ok d =>
    rw [ha, R.bind_ok] at o
    split at o
    · refine ⟨true, rfl, fun H1 H2 g => ?_⟩
      refine iteT ?_
      exact ⟨B, ρ, H1, r.grow g, o.imp (fun d ⟨b, e, k⟩ => ⟨b, e, fun H3 H4 g2 => k H3 H4 (g.trans g2)⟩) fun c k H' e => k H' (g.e.trans e)⟩
    · obtain ⟨b, e, k⟩ := o
      cases e
      refine ⟨false, rfl, fun H1 H2 g => ?_⟩
      refine iteF ?_
      exact k H1 H2 g
    · exact o.elim
theorem t_or {σ : L2.St} {H : Hp} {Q : Bool → Hp → Prop} {K : Fr} {mg : Str → Option Value} (h : tT K mg W (eOr ma mb) σ H Q) : tOr (tT K mg W ma) (tT K mg W mb) σ H Q := by
  obtain ⟨B, ρ, H0, r, o⟩ := h
  refine ⟨B, ρ, H0, r, ?_⟩
  unfold eOr at o
  cases ha : ma ρ with
  | bad => rw [ha] at o; exact o
  | er c => rw [ha] at o; exact o
  | ok d =>
    rw [ha, R.bind_ok] at o
    split at o
    · obtain ⟨b, e, k⟩ := o
      cases e
      refine ⟨true, rfl, fun H1 H2 g => ?_⟩
      refine iteT ?_
      exact k H1 H2 g
    · refine ⟨false, rfl, fun H1 H2 g => ?_⟩
      refine iteF ?_
      exact ⟨B, ρ, H1, r.grow g, o.imp (fun d ⟨b, e, k⟩ => ⟨b, e, fun H3 H4 g2 => k H3 H4 (g.trans g2)⟩) fun c k H' e => k H' (g.e.trans e)⟩
    · exact o.elim
theorem wd_and1 (ha : PTd X W a ma) : PWd X W (.BoolOp .And [a] pos) ma := pw_and1 ha
theorem wd_or1 (ha : PTd X W a ma) : PWd X W (.BoolOp .Or [a] pos) ma := pw_or1 ha
theorem wd_and (ha : PTd X W a ma) (hb : PWd X W (.BoolOp .And (b :: es) pos) mb) : PWd X W (.BoolOp .And (a :: b :: es) pos) (eAnd ma mb) := (pw_and ha hb).wk fun _ _ _ h => t_and h
theorem wd_or (ha : PTd X W a ma) (hb : PWd X W (.BoolOp .Or (b :: es) pos) mb) : PWd X W (.BoolOp .Or (a :: b :: es) pos) (eOr ma mb) := (pw_or ha hb).wk fun _ _ _ h => t_or h
/-- as values -/
theorem pd_not (ha : PD X W a ma) : PD X W (.UnaryOp .Not a pos) (eU dNot ma) := (pe_not (db ha)).wk fun σ H Q h =>
  t_un (t := fun x H1 Q => ∃ c, x = .bl c ∧ Q (.bl (!c)) H1) (fun d c z => by unfold dNot at z; split at z <;> cases z) (fun H0 H x dx d s vx e Q kq => by
    unfold dNot at e
    split at e
    · cases e; exact ⟨_, vx.bl, kq _ H0 H (Gr.refl s) (.bl _)⟩
    · cases e) h
theorem pd_one {op : BoolOp} (h : PD X W a ma) : PD X W (.BoolOp op [a] pos) ma := pe_one h
theorem pd_and (ha : PD X W a ma) (hb : PD X W (.BoolOp .And (b :: es) pos) mb) : PD X W (.BoolOp .And (a :: b :: es) pos) (eAnd ma mb) := (pe_and ha hb).wk fun σ H Q ⟨B, ρ, H0, r, o⟩ => by
  refine ⟨B, ρ, H0, r, ?_⟩
  unfold eAnd at o
  cases h : ma ρ with
  | bad => rw [h] at o; exact o
  | er c => rw [h] at o; exact o
  | ok d =>
    rw [h, R.bind_ok] at o
    intro v H1 H2 g rp
    split at o
    · cases rp
      refine ⟨true, rfl, ?_⟩
      refine iteT ?_
      exact ⟨B, ρ, H1, r.grow g, o.imp (fun d k => Kq.grow (k := false) k g) fun c k H' e => k H' (g.e.trans e)⟩
    · cases rp
      refine ⟨false, rfl, ?_⟩
      refine iteF ?_
      exact o _ H1 H2 g (.bl _)
    · exact o.elim
theorem pd_or (ha : PD X W a ma) (hb : PD X W (.BoolOp .Or (b :: es) pos) mb) : PD X W (.BoolOp .Or (a :: b :: es) pos) (eOr ma mb) := (pe_or ha hb).wk fun σ H Q ⟨B, ρ, H0, r, o⟩ => by
  refine ⟨B, ρ, H0, r, ?_⟩
  unfold eOr at o
  cases h : ma ρ with
  | bad => rw [h] at o; exact o
  | er c => rw [h] at o; exact o
  | ok d =>
    rw [h, R.bind_ok] at o
    intro v H1 H2 g rp
    split at o
    · cases rp
      refine ⟨true, rfl, ?_⟩
      refine iteT ?_
      exact o _ H1 H2 g (.bl _)
    · cases rp
      refine ⟨false, rfl, ?_⟩
      refine iteF ?_
      exact ⟨B, ρ, H1, r.grow g, o.imp (fun d k => Kq.grow (k := false) k g) fun c k H' e => k H' (g.e.trans e)⟩
    · exact o.elim
theorem pd_if {k : Bool} (hc : PTd X W c mc) (ha : PE X a (tE k X.K X.mg W ma)) (hb : PE X b (tE k X.K X.mg W mb)) : PE X (.IfExp c a b pos) (tE k X.K X.mg W (eIf mc ma mb)) := (pe_ifExp hc ha hb).wk fun σ H Q ⟨B, ρ, H0, r, o⟩ => by
  refine ⟨B, ρ, H0, r, ?_⟩
  unfold eIf at o
  cases h : mc ρ with
  | bad => rw [h] at o; exact o
  | er c => rw [h] at o; exact o
  | ok d =>
    rw [h, R.bind_ok] at o
    split at o
    · refine ⟨true, rfl, fun H1 H2 g => ?_⟩
      refine iteT ?_
      exact ⟨B, ρ, H1, r.grow g, o.imp (fun d k => Kq.grow k g) fun c k H' e => k H' (g.e.trans e)⟩
    · refine ⟨false, rfl, fun H1 H2 g => ?_⟩
      refine iteF ?_
      exact ⟨B, ρ, H1, r.grow g, o.imp (fun d k => Kq.grow k g) fun c k H' e => k H' (g.e.trans e)⟩
    · exact o.elim
/-- a < b <= c -/
def eChain (f g : D → D → R D) (ma mb mc : DE) : DE := fun ρ => (ma ρ).bind fun x => (mb ρ).bind fun y => (f x y).bind fun d => match d with
  | .bool true => (mc ρ).bind fun z => g y z
  | .bool false => .ok (.bool false)
  | _ => .bad
theorem t_chain {K : Fr} {mg : Str → Option Value} {f g : D → D → R D} {r r' : R2} (cm : Calm2 f) (cm' : Calm2 g)
    (hr : ∀ H0 H x y dx dy d, Ex H0 H → Vx K H0 H x dx → Vx K H0 H y dy → f dx dy = .ok d → ∀ Q, Kq false K H0 H d Q → r x y H Q)
    (hr' : ∀ H0 H x y dx dy d, Ex H0 H → Vx K H0 H x dx → Vx K H0 H y dy → g dx dy = .ok d → ∀ Q, Kq false K H0 H d Q → r' x y H Q) {σ : L2.St} {H : Hp} {Q : VK}
    (h : tE false K mg W (eChain f g ma mb mc) σ H Q) : tChain r r' (tW K mg W ma) (tW K mg W mb) (tW K mg W mc) σ H Q := by
  obtain ⟨B, ρ, H0, rl, o⟩ := h
  refine ⟨B, ρ, H0, rl, ?_⟩
  unfold eChain at o
  cases ha : ma ρ with
  | bad => rw [ha] at o; exact o
  | er c => rw [ha] at o; exact o
  | ok da =>
    rw [ha] at o
    intro x H1 H2 g1 vx
    have rl2 := rl.grow g1
    refine ⟨B, ρ, H1, rl2, ?_⟩
    cases hb : mb ρ with
    | bad => rw [R.bind_ok, hb] at o; exact o
    | er c => rw [R.bind_ok, hb] at o; exact fun H' e => o H' (g1.e.trans e)
    | ok db =>
      rw [R.bind_ok, hb, R.bind_ok] at o
      intro y H3 H4 g2 vy
      have rl3 := rl2.grow g2
      cases hc : f da db with
      | bad => rw [hc] at o; exact o.elim
      | er c => exact absurd hc (cm _ _ _)
      | ok d =>
        rw [hc, R.bind_ok] at o
        refine hr H3 H4 x y da db d rl3.s (Vw.vx rl3 (vx.mono g2.e0)) (Vw.vx rl3 vy) hc _ fun v H5 H6 g3 rp => ?_
        have rl4 := rl3.grow g3
        split at o
        · cases rp
          refine ⟨true, rfl, ?_⟩
          refine iteT ?_
          refine ⟨B, ρ, H5, rl4, ?_⟩
          cases hd : mc ρ with
          | bad => rw [hd] at o; exact o
          | er c => rw [hd] at o; exact fun H' e => o H' (((g1.trans g2).trans g3).e.trans e)
          | ok dc =>
            rw [hd, R.bind_ok] at o
            intro z H7 H8 g4 vz
            have rl5 := rl4.grow g4
            cases he : g db dc with
            | bad => rw [he] at o; exact o.elim
            | er c => exact absurd he (cm' _ _ _)
            | ok d =>
              rw [he] at o
              exact hr' H7 H8 y z db dc d rl5.s (Vw.vx rl5 (vy.mono (g3.trans g4).e0)) (Vw.vx rl5 vz) he Q (Kq.grow (k := false) o (((g1.trans g2).trans g3).trans g4))
        · cases rp
          refine ⟨false, rfl, ?_⟩
          refine iteF ?_
          exact o _ H5 H6 ((g1.trans g2).trans g3) (.bl _)
        · exact o.elim
theorem pd_chain {op op' : CmpOp} {f g : D → D → R D} (ho : OpD false X (compareOp op) f) (ho' : OpD false X (compareOp op') g) (cm : Calm2 f) (cm' : Calm2 g) (ha : PB X W a ma) (hb : PB X W b mb) (hc : PB X W c mc)
    (hm : lastMarks [op, op'] [b, c] = false := by with_unfolding_all rfl) : PD X W (.Compare a [op, op'] [b, c] pos) (eChain f g ma mb mc) := by
  obtain ⟨r, h1, h2⟩ := ho
  obtain ⟨r', h1', h2'⟩ := ho'
  exact (pe_chain h1 h1' ha hb hc hm).wk fun σ H Q h => t_chain cm cm' h2 h2' h
theorem td_chain {op op' : CmpOp} {f g : D → D → R D} (ho : OpD false X (compareOp op) f) (ho' : OpD false X (compareOp op') g) (cm : Calm2 f) (cm' : Calm2 g) (ha : PB X W a ma) (hb : PB X W b mb) (hc : PB X W c mc)
    (hm : lastMarks [op, op'] [b, c] = false := by with_unfolding_all rfl) : PTd X W (.Compare a [op, op'] [b, c] pos) (eChain f g ma mb mc) := by
  obtain ⟨r, h1, h2⟩ := ho
  obtain ⟨r', h1', h2'⟩ := ho'
  refine (pt_chain h1 h1' ha hb hc hm).wk fun σ H Q h => ?_
  show tChain r r' _ _ _ σ H fun x H1 => ∃ k, x = .bl k ∧ Q k H1
  refine t_chain cm cm' h2 h2' ?_
  obtain ⟨B, ρ, H0, r, o⟩ := h
  exact ⟨B, ρ, H0, r, o.imp (fun d ⟨b, e, k⟩ v H0' H' g rp => by subst e; cases rp; exact ⟨b, rfl, k H0' H' g⟩) fun _ k => k⟩
/-! ### arguments, displays -/
abbrev DA := En → R (List D)
def tAf (K : Fr) (mg : Str → Option Value) (W : WX) (m : DA) : TA := fun σ H Q => ∃ B ρ H0, Rl K B ρ σ H0 H ∧
  Out (m ρ) (fun ds => ∀ vs H0' H', Gr H0 H H0' H' → RpA K H0' vs ds → Q vs H') (fun c => ∀ H', Ex H H' → WC mg W c σ H')
inductive VwA (K : Fr) (ρ : En) (σ : L2.St) (H0 : Hp) : List V → List D → Prop
  | nil : VwA K ρ σ H0 [] []
  | cons {v : V} {vs : List V} {d : D} {ds : List D} : Vw K ρ σ H0 v d → VwA K ρ σ H0 vs ds → VwA K ρ σ H0 (v :: vs) (d :: ds)
inductive VxA (K : Fr) (H0 H : Hp) : List V → List D → Prop
  | nil : VxA K H0 H [] []
  | cons {v : V} {vs : List V} {d : D} {ds : List D} : Vx K H0 H v d → VxA K H0 H vs ds → VxA K H0 H (v :: vs) (d :: ds)
theorem VwA.mono {K : Fr} {ρ : En} {σ : L2.St} {H0 H1 : Hp} (e : Ex H0 H1) : ∀ {vs : List V} {ds : List D}, VwA K ρ σ H0 vs ds → VwA K ρ σ H1 vs ds
  | _, _, .nil => .nil
  | _, _, .cons h r => .cons (h.mono e) (VwA.mono e r)
theorem VwA.vx {K : Fr} {B : Bs} {ρ : En} {σ : L2.St} {H0 H : Hp} (rl : Rl K B ρ σ H0 H) : ∀ {vs : List V} {ds : List D}, VwA K ρ σ H0 vs ds → VxA K H0 H vs ds
  | _, _, .nil => .nil
  | _, _, .cons h r => .cons (Vw.vx rl h) (VwA.vx rl r)
def tAw (K : Fr) (mg : Str → Option Value) (W : WX) (m : DA) : TA := fun σ H Q => ∃ B ρ H0, Rl K B ρ σ H0 H ∧
  Out (m ρ) (fun ds => ∀ vs H0' H', Gr H0 H H0' H' → VwA K ρ σ H0' vs ds → Q vs H') (fun c => ∀ H', Ex H H' → WC mg W c σ H')
abbrev PAf (X : Cx) (W : WX) (es : List Expr) (m : DA) : Prop := PA X es (tAf X.K X.mg W m)
abbrev PAw (X : Cx) (W : WX) (es : List Expr) (m : DA) : Prop := PA X es (tAw X.K X.mg W m)
def aNil : DA := fun _ => .ok []
def aCons (ma : DE) (mr : DA) : DA := fun ρ => (ma ρ).bind fun d => (mr ρ).bind fun ds => .ok (d :: ds)
theorem af_nil : PAf X W [] aNil := pa_nil.wk fun σ H Q ⟨B, ρ, H0, r, o⟩ => o [] H0 H (Gr.refl r.s) .nil
theorem aw_nil : PAw X W [] aNil := pa_nil.wk fun σ H Q ⟨B, ρ, H0, r, o⟩ => o [] H0 H (Gr.refl r.s) .nil
theorem af_cons {mr : DA} (ha : PD X W e ma) (hr : PAf X W es mr) (hs : starEach (e :: es) X.env = (false, eval e X.env) :: starEach es X.env := by rfl) : PAf X W (e :: es) (aCons ma mr) := (pa_cons ha hr hs).wk fun σ H Q ⟨B, ρ, H0, r, o⟩ => by
  refine ⟨B, ρ, H0, r, ?_⟩
  unfold aCons at o
  cases h : ma ρ with
  | bad => rw [h] at o; exact o
  | er c => rw [h] at o; exact o
  | ok d =>
    rw [h, R.bind_ok] at o
    intro v H1 H2 g rp
    refine ⟨B, ρ, H1, r.grow g, ?_⟩
    cases h2 : mr ρ with
    | bad => rw [h2] at o; exact o
    | er c => rw [h2] at o; exact fun H' e => o H' (g.e.trans e)
    | ok ds =>
      rw [h2, R.bind_ok] at o
      exact fun vs H3 H4 g2 rs => o (v :: vs) H3 H4 (g.trans g2) (.cons (rp.mono g2.e0) rs)
theorem aw_cons {mr : DA} (ha : PB X W e ma) (hr : PAw X W es mr) (hs : starEach (e :: es) X.env = (false, eval e X.env) :: starEach es X.env := by rfl) : PAw X W (e :: es) (aCons ma mr) := (pa_cons ha hr hs).wk fun σ H Q ⟨B, ρ, H0, r, o⟩ => by
  refine ⟨B, ρ, H0, r, ?_⟩
  unfold aCons at o
  cases h : ma ρ with
  | bad => rw [h] at o; exact o
  | er c => rw [h] at o; exact o
  | ok d =>
    rw [h, R.bind_ok] at o
    intro v H1 H2 g rp
    refine ⟨B, ρ, H1, r.grow g, ?_⟩
    cases h2 : mr ρ with
    | bad => rw [h2] at o; exact o
    | er c => rw [h2] at o; exact fun H' e => o H' (g.e.trans e)
    | ok ds =>
      rw [h2, R.bind_ok] at o
      exact fun vs H3 H4 g2 rs => o (v :: vs) H3 H4 (g.trans g2) (.cons (rp.mono g2.e0) rs)
def eTup (ms : DA) : DE := fun ρ => (ms ρ).bind fun ds => if szB ds.length = true then .ok (.tuple ds) else .bad
def eLst (ms : DA) : DE := fun ρ => (ms ρ).bind fun ds => if szB ds.length = true then .ok (.list ds) else .bad
theorem pd_tup {ms : DA} {j : Nat} (h : PAf X W es ms) : PD X W (.Tuple es j pos) (eTup ms) := (pe_tup h).wk fun σ H Q ⟨B, ρ, H0, r, o⟩ => by
  refine ⟨B, ρ, H0, r, ?_⟩
  unfold eTup at o
  cases h : ms ρ with
  | bad => rw [h] at o; exact o
  | er c => rw [h] at o; exact o
  | ok ds =>
    rw [h, R.bind_ok] at o
    intro vs H1 H2 g rs
    split at o
    · rename_i hz
      exact ⟨szB_ok (by rw [rs.length]; exact hz), fun p hp => (Kq.grow (k := false) o g).newT g.s rs hp⟩
    · exact o.elim
theorem pf_lst {ms : DA} (h : PAf X W es ms) : PF X W (.List es pos) (eLst ms) := (pe_lst h).wk fun σ H Q ⟨B, ρ, H0, r, o⟩ => by
  refine ⟨B, ρ, H0, r, ?_⟩
  unfold eLst at o
  cases h : ms ρ with
  | bad => rw [h] at o; exact o
  | er c => rw [h] at o; exact o
  | ok ds =>
    rw [h, R.bind_ok] at o
    intro vs H1 H2 g rs
    split at o
    · rename_i hz
      exact ⟨szB_ok (by rw [rs.length]; exact hz), fun p hp => (Kq.grow (k := true) o g).newL g.s rs hp⟩
    · exact o.elim
/-! ### calls of built-ins -/
def CalD (k : Bool) (X : Cx) (f : Value) (op : List D → R D) : Prop := ∃ r : List V → Hp → VK → Prop, CallR X f r ∧ ∀ H0 H xs ds d, Ex H0 H → VxA X.K H0 H xs ds → op ds = .ok d → ∀ Q, Kq k X.K H0 H d Q → r xs H Q
def Calm1 (op : List D → R D) : Prop := ∀ ds c, op ds ≠ .er c
def eCall (op : List D → R D) (ms : DA) : DE := fun ρ => (ms ρ).bind op
theorem t_call {k : Bool} {K : Fr} {mg : Str → Option Value} {op : List D → R D} {ms : DA} {r : List V → Hp → VK → Prop} (cm : Calm1 op)
    (hr : ∀ H0 H xs ds d, Ex H0 H → VxA K H0 H xs ds → op ds = .ok d → ∀ Q, Kq k K H0 H d Q → r xs H Q) {σ : L2.St} {H : Hp} {Q : VK} (h : tE k K mg W (eCall op ms) σ H Q) : tAw K mg W ms σ H fun xs H1 => r xs H1 Q := by
  obtain ⟨B, ρ, H0, rl, o⟩ := h
  refine ⟨B, ρ, H0, rl, ?_⟩
  unfold eCall at o
  cases ha : ms ρ with
  | bad => rw [ha] at o; exact o
  | er c => rw [ha] at o; exact o
  | ok ds =>
    rw [ha, R.bind_ok] at o
    intro xs H1 H2 g1 vx
    have rl2 := rl.grow g1
    cases hc : op ds with
    | bad => rw [hc] at o; exact o.elim
    | er c => exact absurd hc (cm _ _)
    | ok d =>
      rw [hc] at o
      exact hr H1 H2 xs ds d rl2.s (VwA.vx rl2 vx) hc Q (Kq.grow o g1)
theorem pd_callB {k : Bool} {x : Str} {p : Pos} {id : String} {op : List D → R D} {ms : DA} (hc : CalD k X (.builtin id) op) (cm : Calm1 op) (hg : Gl X x) (hm : X.mg x = none) (hv : bootBuiltins x = some (.builtin id)) (ha : PAw X W (e :: es) ms) (hn : x ≠ "__name__" := by decide) (hdb : (x == ("__debug__" : Str)) = false := by decide)
    (he : starEach (e :: es) X.env = (false, eval e X.env) :: starEach es X.env := by rfl) (hpl : (backTo pos (starEach es X.env)).any (·.1) = false := by rfl) : PE X (.Call (.Name x p) (e :: es) [] pos) (tE k X.K X.mg W (eCall op ms)) := by
  obtain ⟨r, h1, h2⟩ := hc
  exact (pe_callB h1 hg hm hv ha hn hdb he hpl).wk fun σ H Q h => t_call cm h2 h
theorem pd_callTy {k : Bool} {x : Str} {p : Pos} {T : String} {op : List D → R D} {ms : DA} (hc : CalD k X (.type T) op) (cm : Calm1 op) (hg : Gl X x) (hm : X.mg x = none) (hv : bootBuiltins x = some (.type T)) (ha : PAw X W (e :: es) ms) (hn : x ≠ "__name__" := by decide) (hdb : (x == ("__debug__" : Str)) = false := by decide)
    (he : starEach (e :: es) X.env = (false, eval e X.env) :: starEach es X.env := by rfl) (hpl : (backTo pos (starEach es X.env)).any (·.1) = false := by rfl) : PE X (.Call (.Name x p) (e :: es) [] pos) (tE k X.K X.mg W (eCall op ms)) := by
  obtain ⟨r, h1, h2⟩ := hc
  exact (pe_callTy h1 hg hm hv ha hn hdb he hpl).wk fun σ H Q h => t_call cm h2 h
end
end Fc
set_option Elab.async false
set_option linter.all false
set_option maxRecDepth 100000
set_option maxHeartbeats 2000000
namespace Fc
open PySem L2 Evl PySem.Spec PyProof.Rows
/-! ### statements: results -/
inductive RS where
  | nx (ρ : En) | rt (d : D) | bk (ρ : En) | ct (ρ : En) | er (c : Str) (ρ : En) | bad
abbrev DS := En → RS
def EndS (K : Fr) (mg : Str → Option Value) (W : WX) (B : Bs) (E : Ends) : RS → Prop
  | .nx ρ => ∀ σ H0 H, Rl K B ρ σ H0 H → E.nx σ H
  | .bk ρ => ∀ σ H0 H, Rl K B ρ σ H0 H → E.bk σ H
  | .ct ρ => ∀ σ H0 H, Rl K B ρ σ H0 H → E.ct σ H
  | .rt d => ∀ v H0 H, Gr B.1 B.2 H0 H → Rp K H0 v d → E.rt v H
  | .er c ρ => ∀ σ H0 H, Rl K B ρ σ H0 H → WC mg W c σ H
  | .bad => False
def tS (K : Fr) (mg : Str → Option Value) (W : WX) (M : DS) : TS := fun E σ H => ∃ B ρ H0, Rl K B ρ σ H0 H ∧ EndS K mg W B E (M ρ)
abbrev SD (X : Cx) (W : WX) (st : Stmt) (M : DS) : Prop := PS X st (tS X.K X.mg W M)
abbrev SsD (X : Cx) (W : WX) (st : List Stmt) (M : DS) : Prop := PSs X st (tS X.K X.mg W M)
theorem _root_.L2.PS.wk {X : Cx} {st : Stmt} {t t' : TS} (h : PS X st t) (k : ∀ E σ H, t' E σ H → t E σ H) : PS X st t' := ⟨fun pins s σ H E I q => h.run pins s σ H E I (k E σ H q)⟩
theorem _root_.L2.PSs.wk {X : Cx} {st : List Stmt} {t t' : TS} (h : PSs X st t) (k : ∀ E σ H, t' E σ H → t E σ H) : PSs X st t' := ⟨fun pins s σ H E I q => h.run pins s σ H E I (k E σ H q)⟩
section
variable {X : Cx} {W : WX} {e a b c o tg it : Expr} {es : List Expr} {m ma mb mc : DE} {pos : Pos} {st : Stmt} {rest body els : List Stmt} {M N : DS}
variable {K : Fr} {mg : Str → Option Value} {B : Bs} {ρ : En} {σ : L2.St} {H0 H : Hp} {E : Ends}
def sNext : DS := fun ρ => .nx ρ
def sSeq (M N : DS) : DS := fun ρ => match M ρ with
  | .nx ρ' => N ρ'
  | r => r
theorem sd_nil : SsD X W [] sNext := pss_nil.wk fun E σ H ⟨B, ρ, H0, r, o⟩ => o σ H0 H r
theorem ends_seq {r : RS} (h : EndS K mg W B E (match r with | .nx ρ' => N ρ' | r => r)) : EndS K mg W B { E with nx := tS K mg W N E } r := by
  cases r with
  | nx ρ => exact fun σ H0 H rl => ⟨B, ρ, H0, rl, h⟩
  | _ => exact h
theorem sd_cons (h1 : SD X W st M) (h2 : SsD X W rest N) : SsD X W (st :: rest) (sSeq M N) := (pss_cons h1 h2).wk fun E σ H ⟨B, ρ, H0, r, o⟩ => ⟨B, ρ, H0, r, ends_seq o⟩
theorem sd_one (h1 : SD X W st M) : SsD X W [st] M := pss_one h1
theorem sd_pass : SD X W (.Pass pos) sNext := ps_pass.wk fun E σ H ⟨B, ρ, H0, r, o⟩ => o σ H0 H r
theorem sd_brk : SD X W (.Break pos) (fun ρ => .bk ρ) := ps_break.wk fun E σ H ⟨B, ρ, H0, r, o⟩ => o σ H0 H r
theorem sd_cnt : SD X W (.Continue pos) (fun ρ => .ct ρ) := ps_continue.wk fun E σ H ⟨B, ρ, H0, r, o⟩ => o σ H0 H r
theorem sd_doc {x : Str} {j : Nat} {pos' : Pos} : SD X W (.Expr (.Constant (.str x) j pos) pos') sNext := ps_doc.wk fun E σ H ⟨B, ρ, H0, r, o⟩ => o σ H0 H r
/-- an expression, then what is made of its value -/
def sE (m : DE) (k : D → DS) : DS := fun ρ => match m ρ with
  | .ok d => k d ρ
  | .er c => .er c ρ
  | .bad => .bad
theorem ends_er {c : Str} {ρ : En} (r : Rl K B ρ σ H0 H) (h : EndS K mg W B E (.er c ρ)) : ∀ H', Ex H H' → WC mg W c σ H' := fun H' e => h σ H0 H' (r.grow (Gr.side r.s e))
theorem t_sE {k : D → DS} {kd : Bool} {Q : VK} (h : tS K mg W (sE m k) E σ H) (hq : ∀ B ρ H0 H d, Rl K B ρ σ H0 H → EndS K mg W B E (k d ρ) → Kq kd K H0 H d Q) : tE kd K mg W m σ H Q := by
  obtain ⟨B, ρ, H0, r, o⟩ := h
  refine ⟨B, ρ, H0, r, ?_⟩
  unfold sE at o
  cases h : m ρ with
  | bad => rw [h] at o; exact o
  | er c => rw [h] at o; exact ends_er r o
  | ok d => rw [h] at o; exact hq B ρ H0 H d r o
def sRet (m : DE) : DS := sE m fun d _ => .rt d
theorem sd_ret (h : PD X W e m) : SD X W (.Return (some e) pos) (sRet m) := (ps_ret h).wk fun E σ H q => t_sE (kd := false) q fun B ρ H0 H d r k v H0' H' g rp => k v H0' H' (r.gr.trans g) rp
theorem sd_retN : SD X W (.Return none pos) (fun _ => .rt .none) := ps_retN.wk fun E σ H ⟨B, ρ, H0, r, o⟩ => o .non H0 H r.gr .non
def sDrop (m : DE) : DS := sE m fun _ ρ => .nx ρ
theorem sd_drop (h : PD X W e m) (hs : swapsWith e none pos.line X.env = pure false := by rfl) : SD X W (.Expr e pos) (sDrop m) := (ps_expr h hs).wk fun E σ H q =>
  t_sE (kd := false) q fun B ρ H0 H d r k v H0' H' g rp => k σ H0' H' (r.grow g)
def sAsg (i : Nat) (m : DE) : DS := sE m fun d ρ => .nx (ρ.set i (.fz d))
def sOwn (i : Nat) (m : DE) : DS := sE m fun d ρ => .nx (ρ.set i (.ow d))
theorem sd_set {i : Nat} {x : Str} {pos' : Pos} (hN : X.N.Nodup) (hi : X.N[i]? = some x) (hx : Loc X.env.scope x) (he : PD X W e m) (hs : swapsWith e (some (.Name x pos')) pos.line X.env = pure false := by rfl)
    (hf : X.fn x = true ∨ X.env.scope.names.lookup x = some .local := by first | exact .inl rfl | exact .inr rfl | assumption) : SD X W (.Assign [.Name x pos'] e pos) (sAsg i m) := (ps_set hN hi hx he hs hf).wk fun E σ H q =>
  t_sE (kd := false) q fun B ρ H0 H d r k v H0' H' g rp => k _ H0' H' ((r.grow g).setF rp)
theorem own_new {B : Bs} {p : Addr} {H0' H' : Hp} {ob : HO} (r : Rl K B ρ σ H0 H) (g : Gr H0 H H0' H') (hn : H p = none) (hp : H' p = some ob) (h0 : H0' p = none) {d : D} (ho : OwnO K H0' ob d) (i : Nat) : Rl K B (ρ.set i (.ow d)) (σ.set i (some (.ref p))) H0' H' :=
  (r.grow g).setO (fresh_back r.gr.e hn) h0 hp ho fun j e hj hs => by
    obtain ⟨q, o, q1, q2, q3, q4, q5⟩ := r.ow j e hj
    rw [hs] at q1
    simp at q1
    subst q1
    rw [hn] at q4
    cases q4
theorem sd_own {i : Nat} {x : Str} {pos' : Pos} (hN : X.N.Nodup) (hi : X.N[i]? = some x) (hx : Loc X.env.scope x) (he : PF X W e m) (hs : swapsWith e (some (.Name x pos')) pos.line X.env = pure false := by rfl)
    (hf : X.fn x = true ∨ X.env.scope.names.lookup x = some .local := by first | exact .inl rfl | exact .inr rfl | assumption) : SD X W (.Assign [.Name x pos'] e pos) (sOwn i m) := (ps_set hN hi hx he hs hf).wk fun E σ H q =>
  t_sE (kd := true) q fun B ρ H0 H d r k p ob H0' H' g hp hn h0 ho => k _ H0' H' (own_new r g hn hp h0 ho i)
def sIf (mc : DE) (M N : DS) : DS := sE mc fun d => match d with
  | .bool true => M
  | .bool false => N
  | _ => fun _ => .bad
theorem sd_if {c : Expr} {a b : List Stmt} (hc : PTd X W c mc) (ha : SsD X W a M) (hb : SsD X W b N) : SD X W (.If c a b pos) (sIf mc M N) := (ps_if hc ha hb).wk fun E σ H ⟨B, ρ, H0, r, o⟩ => by
  refine ⟨B, ρ, H0, r, ?_⟩
  unfold sIf sE at o
  cases h : mc ρ with
  | bad => rw [h] at o; exact o
  | er c => rw [h] at o; exact ends_er r o
  | ok d =>
    rw [h] at o
    simp only at o
    split at o
    · exact ⟨true, rfl, fun H0' H' g => iteT ⟨B, ρ, H0', r.grow g, o⟩⟩
    · exact ⟨false, rfl, fun H0' H' g => iteF ⟨B, ρ, H0', r.grow g, o⟩⟩
    · exact o.elim
/-- an owned slot is frozen from here on -/
def frz (i : Nat) (ρ : En) : En := match ρ[i]? with
  | some (.ow d) => ρ.set i (.fz d)
  | _ => ρ
theorem frzE (r : Rl K B ρ σ H0 H) (i : Nat) : ∃ H0', Rl K B (frz i ρ) σ H0' H := by
  unfold frz
  split
  · rename_i d h
    obtain ⟨p, o, _, _, _, r', _⟩ := r.frz h
    exact ⟨_, r'⟩
  · exact ⟨H0, r⟩
def sFrz (i : Nat) (M : DS) : DS := fun ρ => M (frz i ρ)
theorem sd_frz (i : Nat) (h : SD X W st M) : SD X W st (sFrz i M) := h.wk fun E σ H ⟨B, ρ, H0, r, o⟩ => by
  obtain ⟨H0', r'⟩ := frzE r i
  exact ⟨B, _, H0', r', o⟩
/-! ### targets -/
abbrev DG := D → En → Option En
abbrev DGs := List D → En → Option En
/-- the slots that are stored: is -/
def tG (K : Fr) (is : List Nat) (g : DG) : TG := fun v σ H Q => ∃ B ρ H0 d, Rl K B ρ σ H0 H ∧ Rp K H0 v d ∧ match g d ρ with
  | some ρ' => ∀ σ', Rl K B ρ' σ' H0 H → σ'.length = σ.length → (∀ j, j ∉ is → σ'[j]? = σ[j]?) → Q σ' H
  | none => False
def tGs (K : Fr) (is : List Nat) (g : DGs) : TGs := fun vs σ H Q => ∃ B ρ H0 ds, Rl K B ρ σ H0 H ∧ RpA K H0 vs ds ∧ match g ds ρ with
  | some ρ' => ∀ σ', Rl K B ρ' σ' H0 H → σ'.length = σ.length → (∀ j, j ∉ is → σ'[j]? = σ[j]?) → Q σ' H
  | none => False
abbrev GD (X : Cx) (tg : Expr) (is : List Nat) (g : DG) : Prop := PG X tg (tG X.K is g)
abbrev GsD (X : Cx) (tg : List Expr) (is : List Nat) (g : DGs) : Prop := PGs X tg (tGs X.K is g)
theorem _root_.L2.PG.wk {X : Cx} {tg : Expr} {t t' : TG} (h : PG X tg t) (k : ∀ v σ H Q, t' v σ H Q → t v σ H Q) : PG X tg t' := ⟨fun pins s σ H v u Q I r q => h.run pins s σ H v u Q I r (k v σ H Q q)⟩
theorem _root_.L2.PGs.wk {X : Cx} {tg : List Expr} {t t' : TGs} (h : PGs X tg t) (k : ∀ v σ H Q, t' v σ H Q → t v σ H Q) : PGs X tg t' := ⟨by
  intro pins s σ H vs us Q I r q
  exact h.run pins s σ H vs us Q I r (k vs σ H Q q)⟩
def gN (i : Nat) : DG := fun d ρ => some (ρ.set i (.fz d))
def gNilD : DGs := fun ds ρ => match ds with
  | [] => some ρ
  | _ => none
def gConsD (g : DG) (gs : DGs) : DGs := fun ds ρ => match ds with
  | d :: ds => (g d ρ).bind fun ρ' => gs ds ρ'
  | [] => none
def gTupD (n : Nat) (gs : DGs) : DG := fun d ρ => match d with
  | .tuple ds => if ds.length = n then gs ds ρ else none
  | _ => none
def gLstD (n : Nat) (gs : DGs) : DG := fun d ρ => match d with
  | .list ds => if ds.length = n then gs ds ρ else none
  | _ => none
theorem gd_name {i : Nat} {x : Str} (hN : X.N.Nodup) (hi : X.N[i]? = some x) (hx : Loc X.env.scope x) (hf : X.fn x = true ∨ X.env.scope.names.lookup x = some .local := by first | exact .inl rfl | exact .inr rfl | assumption) : GD X (.Name x pos) [i] (gN i) :=
  (pg_name hN hi hx hf).wk fun v σ H Q ⟨B, ρ, H0, d, r, rp, k⟩ => k _ (r.setF rp) (by simp) fun j hj => by
    rw [get_set, if_neg]
    exact fun z => hj (by simp [z])
theorem gds_nil : GsD X [] [] gNilD := pgs_nil.wk fun vs σ H Q ⟨B, ρ, H0, ds, r, rp, k⟩ => by
  unfold gNilD at k
  split at k
  · rename_i h
    split at h
    · cases h
      cases rp
      exact ⟨rfl, k _ r rfl fun _ _ => rfl⟩
    · cases h
  · exact k.elim
theorem gds_cons {g : DG} {gs : DGs} {i1 i2 : List Nat} (h1 : GD X e i1 g) (h2 : GsD X es i2 gs) (hs : ((assignEach (e :: es) X.env).map (·.2)) = assign e X.env :: (assignEach es X.env).map (·.2) := by rfl) : GsD X (e :: es) (i1 ++ i2) (gConsD g gs) := (pgs_cons h1 h2 hs).wk fun vs σ H Q ⟨B, ρ, H0, ds, r, rp, k⟩ => by
  unfold gConsD at k
  cases rp with
  | nil => exact k.elim
  | @cons v vs d ds h rs =>
    refine ⟨v, vs, rfl, ?_⟩
    simp only at k
    cases h1 : g d ρ with
    | none => rw [h1] at k; exact k.elim
    | some ρ1 =>
      rw [h1] at k
      refine ⟨B, ρ, H0, d, r, h, ?_⟩
      rw [h1]
      intro σ' r' l' n'
      refine ⟨B, ρ1, H0, ds, r', rs, ?_⟩
      replace k : match gs ds ρ1 with
        | some ρ' => ∀ σ', Rl X.K B ρ' σ' H0 H → σ'.length = σ.length → (∀ j, j ∉ i1 ++ i2 → σ'[j]? = σ[j]?) → Q σ' H
        | none => False := k
      cases h2 : gs ds ρ1 with
      | none => rw [h2] at k; exact k.elim
      | some ρ2 =>
        rw [h2] at k
        exact fun σ2 r2 l2 n2 => k σ2 r2 (l2.trans l') fun j hj => by
          simp only [List.mem_append, not_or] at hj
          exact (n2 j hj.2).trans (n' j hj.1)
theorem gd_tup {gs : DGs} {is : List Nat} {j n : Nat} (hc : X.calm = true) (h : GsD X es is gs) (hn : (assignEach es X.env).length = n := by rfl) (hst : (assignEach es X.env).findIdx? (·.1) = none := by rfl) : GD X (.Tuple es j pos) is (gTupD n gs) :=
  (pg_tup hc h hn hst).wk fun v σ H Q ⟨B, ρ, H0, d, r, rp, k⟩ => by
  unfold gTupD at k
  cases rp with
  | tup h rs =>
    simp only at k
    split at k
    · rename_i ρ' hg
      split at hg
      · rename_i hl
        refine ⟨_, _, rfl, SqT.of (r.s _ _ h), rs.length.trans hl, B, ρ, H0, _, r, rs, ?_⟩
        rw [hg]
        exact k
      · cases hg
    · exact k.elim
  | _ => exact k.elim
theorem gd_lst {gs : DGs} {is : List Nat} {j n : Nat} (hc : X.calm = true) (h : GsD X es is gs) (hn : (assignEach es X.env).length = n := by rfl) (hst : (assignEach es X.env).findIdx? (·.1) = none := by rfl) : GD X (.Tuple es j pos) is (gLstD n gs) :=
  (pg_lst hc h hn hst).wk fun v σ H Q ⟨B, ρ, H0, d, r, rp, k⟩ => by
  unfold gLstD at k
  cases rp with
  | lst h rs =>
    simp only at k
    split at k
    · rename_i ρ' hg
      split at hg
      · rename_i hl
        refine ⟨_, _, rfl, SqL.of (r.s _ _ h), rs.length.trans hl, B, ρ, H0, _, r, rs, ?_⟩
        rw [hg]
        exact k
      · cases hg
    · exact k.elim
  | _ => exact k.elim
def sAsgG (g : DG) (m : DE) : DS := sE m fun d ρ => match g d ρ with
  | some ρ' => .nx ρ'
  | none => .bad
theorem sd_asg {g : DG} {is : List Nat} (he : PD X W e m) (hg : GD X tg is g) (hs : swapsWithSole [tg] e pos.line X.env = pure false := by rfl) (hw : swappedStores [tg] e X.env = pure none := by rfl) (h1 : (assignEach [tg] X.env).map (·.2) = [assign tg X.env] := by rfl) : SD X W (.Assign [tg] e pos) (sAsgG g m) :=
  (ps_asg he hg hs hw h1).wk fun E σ H q => t_sE (kd := false) q fun B ρ H0 H d r k v H0' H' gr rp => by
    refine ⟨B, ρ, H0', d, r.grow gr, rp, ?_⟩
    cases h : g d ρ with
    | none => rw [h] at k; exact k.elim
    | some ρ' => rw [h] at k; exact fun σ' r' _ _ => k σ' H0' H' r'
/-- a, b = e1, e2 -/
def sPar (i j : Nat) (ma mb : DE) : DS := fun ρ => match (aCons ma (aCons mb aNil)) ρ with
  | .ok [x, y] => .nx ((ρ.set i (.fz x)).set j (.fz y))
  | .er c => .er c ρ
  | _ => .bad
/-! ### what is walked -/
def ItOk (K : Fr) (J : It) (H0 : Hp) (ds : List D) : Prop := ∀ i, (∀ H, Ex H0 H → ds.length ≤ i → J.stop i H) ∧
  ∀ H d, Ex H0 H → ds[i]? = some d → J.go i H ∧ ∀ x H', J.yld i H x H' → (H' = H ∧ Rp K H0 x d) ∨ ∃ p vs es, H p = none ∧ H' = upd H p (.tup vs) ∧ x = .ref p ∧ d = .tuple es ∧ RpA K H0 vs es
abbrev DI := En → R (List D)
def tIt (K : Fr) (mg : Str → Option Value) (W : WX) (m : DI) : TI := fun σ H Rc => ∃ B ρ H0, Rl K B ρ σ H0 H ∧ Out (m ρ) (fun ds => ∀ J H0' H', Gr H0 H H0' H' → ItOk K J H0' ds → Rc J H') (fun c => ∀ H', Ex H H' → WC mg W c σ H')
abbrev ID (X : Cx) (W : WX) (tg it : Expr) (m : DI) : Prop := PI X tg it (tIt X.K X.mg W m)
theorem _root_.L2.PI.wk {X : Cx} {tg it : Expr} {t t' : TI} (h : PI X tg it t) (k : ∀ σ H R, t' σ H R → t σ H R) : PI X tg it t' := ⟨fun pins s σ H R I q => h.run pins s σ H R I (k σ H R q)⟩
theorem _root_.L2.PI.or {X : Cx} {tg it : Expr} {t t' : TI} (h : PI X tg it t) (h' : PI X tg it t') : PI X tg it (fun σ H R => t σ H R ∨ t' σ H R) := ⟨fun pins s σ H R I q => by
  rcases q with q | q
  · exact h.run pins s σ H R I q
  · exact h'.run pins s σ H R I q⟩
def dSeq : D → R (List D)
  | .list ds => .ok ds
  | .tuple ds => .ok ds
  | .str x => .ok (x.cps.toList.map fun c => .str ⟨#[c]⟩)
  | _ => .bad
def iSeq (m : DE) : DI := fun ρ => (m ρ).bind dSeq
theorem itok_list {a : Addr} {xs : List V} {ds : List D} (h : H0 a = some (.lst xs)) (rs : RpA K H0 xs ds) : ItOk K (Itl K a) H0 ds := fun i => ⟨fun H e hi => ⟨xs, SqL.of (e _ _ h), by rw [rs.length]; exact hi⟩, fun H d e hd => by
  obtain ⟨v, h1, h2⟩ := rs.getD hd
  refine ⟨⟨xs, v, SqL.of (e _ _ h), h1⟩, fun x H' y => .inl ?_⟩
  obtain ⟨y1, y2⟩ := y
  refine ⟨y1, ?_⟩
  have := y2 xs (SqL.of (e _ _ h))
  rw [h1] at this
  cases this
  exact h2⟩
theorem itok_tup {a : Addr} {xs : List V} {ds : List D} (h : H0 a = some (.tup xs)) (rs : RpA K H0 xs ds) : ItOk K (Itt K a) H0 ds := fun i => ⟨fun H e hi => ⟨xs, SqT.of (e _ _ h), by rw [rs.length]; exact hi⟩, fun H d e hd => by
  obtain ⟨v, h1, h2⟩ := rs.getD hd
  refine ⟨⟨xs, v, SqT.of (e _ _ h), h1⟩, fun x H' y => .inl ?_⟩
  obtain ⟨y1, y2⟩ := y
  refine ⟨y1, ?_⟩
  have := y2 xs (SqT.of (e _ _ h))
  rw [h1] at this
  cases this
  exact h2⟩
theorem itok_str {x : Str} : ItOk K (Its x) H0 (x.cps.toList.map fun c => .str ⟨#[c]⟩) := fun i => ⟨fun H e hi => by
  show x.cps.size ≤ i
  simpa using hi, fun H d e hd => by
  rw [List.getElem?_map] at hd
  obtain ⟨c, h1, h2⟩ := Option.map_eq_some_iff.mp hd
  have hi : i < x.cps.size := by
    have := (List.getElem?_eq_some_iff.mp h1).1
    simpa using this
  refine ⟨hi, fun v H' y => .inl ?_⟩
  obtain ⟨y1, c', y2, y3⟩ := y
  refine ⟨y1, ?_⟩
  have : x.cps[i]? = some c := by rw [← h1]; simp
  rw [this] at y2
  cases y2
  rw [y3, ← h2]
  exact .str _⟩
theorem id_seq (h : PD X W e m) : ID X W tg e (iSeq m) := ((pi_list h).or ((pi_tup h).or (pi_str h))).wk fun σ H Rc ⟨B, ρ, H0, r, o⟩ => by
  unfold iSeq at o
  cases hm : m ρ with
  | bad => rw [hm] at o; exact o.elim
  | er c => rw [hm] at o; exact .inl ⟨B, ρ, H0, r, by rw [hm]; exact o⟩
  | ok d =>
    rw [hm, R.bind_ok] at o
    unfold dSeq at o
    split at o
    · refine .inl ⟨B, ρ, H0, r, ?_⟩
      rw [hm]
      intro v H1 H2 g rp
      cases rp with
      | lst h rs => exact ⟨_, rfl, ⟨_, SqL.of (g.s _ _ h)⟩, o _ H1 H2 g (itok_list h rs)⟩
    · refine .inr (.inl ⟨B, ρ, H0, r, ?_⟩)
      rw [hm]
      intro v H1 H2 g rp
      cases rp with
      | tup h rs => exact ⟨_, rfl, ⟨_, SqT.of (g.s _ _ h)⟩, o _ H1 H2 g (itok_tup h rs)⟩
    · refine .inr (.inr ⟨B, ρ, H0, r, ?_⟩)
      rw [hm]
      intro v H1 H2 g rp
      cases rp with
      | str x => exact ⟨_, rfl, o _ H1 H2 g itok_str⟩
    · exact o.elim
def rngD (lo : Int) (n : Nat) : List D := (List.range n).map fun i => .int (lo + (i : Nat))
theorem itok_rng {lo : Int} {n : Nat} : ItOk K (Itr lo n) H0 (rngD lo n) := fun i => ⟨fun H e hi => by unfold rngD at hi; rw [List.length_map, List.length_range] at hi; exact hi, fun H d e hd => by
  unfold rngD at hd
  rw [List.getElem?_map] at hd
  obtain ⟨j, h1, h2⟩ := Option.map_eq_some_iff.mp hd
  have hi : i < n := by
    have := (List.getElem?_eq_some_iff.mp h1).1
    rw [List.length_range] at this
    exact this
  rw [List.getElem?_range hi] at h1
  cases h1
  refine ⟨hi, fun x H' y => .inl ⟨y.1, ?_⟩⟩
  rw [y.2, ← h2]
  exact .int _⟩
def dRng1 : List D → R (List D)
  | [.int n] => if decide (-100000 ≤ n ∧ n ≤ 100000) = true then .ok (rngD 0 n.toNat) else .bad
  | _ => .bad
def dRng2 : List D → R (List D)
  | [.int a, .int b] => if decide (-100000 ≤ a ∧ a ≤ 100000 ∧ -100000 ≤ b ∧ b ≤ 100000) = true then .ok (rngD a (b - a).toNat) else .bad
  | _ => .bad
def iArgs (f : List D → R (List D)) (ms : DA) : DI := fun ρ => (ms ρ).bind f
theorem VwA.one {K : Fr} {B : Bs} {ρ : En} {σ : L2.St} {H0 H : Hp} {vs : List V} {d : D} (r : Rl K B ρ σ H0 H) (h : VwA K ρ σ H0 vs [d]) : ∃ v, vs = [v] ∧ Vx K H0 H v d := by
  cases h with
  | cons h t => cases t; exact ⟨_, rfl, Vw.vx r h⟩
theorem id_rng1 {ms : DA} {p : Pos} (hg : Gl X "range") (hm : X.mg "range" = none) (ha : PAw X W [a] ms) (hs : starEach [a] X.env = [(false, eval a X.env)] := by rfl) : ID X W tg (.Call (.Name "range" p) [a] [] pos) (iArgs dRng1 ms) := (pi_range1 hg hm ha hs).wk fun σ H Rc ⟨B, ρ, H0, r, o⟩ => by
  refine ⟨B, ρ, H0, r, ?_⟩
  unfold iArgs at o
  cases h : ms ρ with
  | bad => rw [h] at o; exact o
  | er c => rw [h] at o; exact o
  | ok ds =>
    rw [h, R.bind_ok] at o
    intro vs H1 H2 g va
    unfold dRng1 at o
    split at o
    · split at o
      · rename_i n hn
        obtain ⟨v, rfl, vx⟩ := va.one (r.grow g)
        have hn := of_decide_eq_true hn
        exact ⟨n, by rw [vx.int], by omega, by omega, o _ H1 H2 g itok_rng⟩
      · exact o.elim
    · exact o.elim
theorem id_rng2 {ms : DA} {p : Pos} (hg : Gl X "range") (hm : X.mg "range" = none) (ha : PAw X W [a, b] ms) (hs : starEach [a, b] X.env = [(false, eval a X.env), (false, eval b X.env)] := by rfl) (hs2 : starEach [b] X.env = [(false, eval b X.env)] := by rfl) :
    ID X W tg (.Call (.Name "range" p) [a, b] [] pos) (iArgs dRng2 ms) := (pi_range2 hg hm ha hs hs2).wk fun σ H Rc ⟨B, ρ, H0, r, o⟩ => by
  refine ⟨B, ρ, H0, r, ?_⟩
  unfold iArgs at o
  cases h : ms ρ with
  | bad => rw [h] at o; exact o
  | er c => rw [h] at o; exact o
  | ok ds =>
    rw [h, R.bind_ok] at o
    intro vs H1 H2 g va
    unfold dRng2 at o
    split at o
    · split at o
      · rename_i n m hn
        have rl := r.grow g
        cases va with
        | cons h1 t =>
          cases t with
          | cons h2 t =>
            cases t
            have hn := of_decide_eq_true hn
            exact ⟨_, _, by rw [(Vw.vx rl h1).int, (Vw.vx rl h2).int], ⟨by omega, by omega, by omega, by omega⟩, o _ H1 H2 g itok_rng⟩
      · exact o.elim
    · exact o.elim
/-! ### loops -/
def forL (g : DG) (M : DS) : List D → DS
  | [], ρ => .nx ρ
  | d :: ds, ρ => match g d ρ with
    | none => .bad
    | some ρ1 => match M ρ1 with
      | .nx ρ2 => forL g M ds ρ2
      | .ct ρ2 => forL g M ds ρ2
      | .bk ρ2 => .nx ρ2
      | r => r
def sFor (it : DI) (g : DG) (M : DS) : DS := fun ρ => match it ρ with
  | .ok ds => forL g M ds ρ
  | .er c => .er c ρ
  | .bad => .bad
theorem getElem?_drop {α : Type} {l : List α} {i : Nat} {x : α} (h : l[i]? = some x) : l.drop i = x :: l.drop (i + 1) := by
  obtain ⟨h1, h2⟩ := List.getElem?_eq_some_iff.mp h
  rw [List.drop_eq_getElem_cons h1, h2]
/-- what is frozen by now stays so: the base taken anew -/
theorem rebase {H1 H2 : Hp} (hb : Gr B.1 B.2 H1 H2) (r : Rl K B ρ σ H0 H) (e : Ex H1 H0) : Rl K (H1, B.2) ρ σ H0 H :=
  ⟨⟨e, r.gr.e, r.gr.s, fun p h h1 => r.gr.n p h (by
    cases q : B.1 p with
    | none => rfl
    | some o =>
      have z : H1 p = none := h1
      rw [hb.e0 p o q] at z; cases z)⟩, r.len, r.fz, r.ow, r.uq⟩
theorem grbase {H1 H2 : Hp} (hb : Gr B.1 B.2 H1 H2) (g : Gr H1 B.2 H0 H) : Gr B.1 B.2 H0 H := ⟨hb.e0.trans g.e0, g.e, g.s, fun p h h1 => g.n p h (hb.n p h h1)⟩
theorem unbase {H1 H2 : Hp} (hb : Gr B.1 B.2 H1 H2) (r : Rl K (H1, B.2) ρ σ H0 H) : Rl K B ρ σ H0 H := ⟨grbase hb r.gr, r.len, r.fz, r.ow, r.uq⟩
theorem ends_base {H1 H2 : Hp} (hb : Gr B.1 B.2 H1 H2) {r : RS} (h : EndS K mg W B E r) : EndS K mg W (H1, B.2) E r := by
  cases r with
  | nx ρ => exact fun σ H0 H rl => h σ H0 H (unbase hb rl)
  | bk ρ => exact fun σ H0 H rl => h σ H0 H (unbase hb rl)
  | ct ρ => exact fun σ H0 H rl => h σ H0 H (unbase hb rl)
  | er c ρ => exact fun σ H0 H rl => h σ H0 H (unbase hb rl)
  | rt d => exact fun v H0 H g rp => h v H0 H (grbase hb g) rp
  | bad => exact h
/-- a walk over data: the loop's word -/
theorem for_data {J : It} {ds : List D} {is : List Nat} {g : DG} {H1 : Hp} (hJ : ItOk K J H1 ds) (rl : Rl K B ρ σ H1 H) (h : EndS K mg W B E (forL g M ds ρ)) :
    ∃ Wd : Nat → Nat → L2.St → Hp → Prop, (∃ m, Wd 0 m σ H) ∧ ∀ i m σ H, Wd i m σ H →
      (J.stop i H ∧ E.nx σ H) ∨ (J.go i H ∧ ∃ Nx : L2.St → Hp → Prop, (∀ σ' H', Nx σ' H' → ∃ m', m' < m ∧ Wd (i + 1) m' σ' H') ∧ ∀ x H', J.yld i H x H' → tG K is g x σ H' fun σ2 H2 => tS K mg W M { E with nx := Nx, ct := Nx, bk := E.nx } σ2 H2) := by
  have hb := rl.gr
  replace h := ends_base hb h
  refine ⟨fun i m σ H => m = ds.length - i ∧ i ≤ ds.length ∧ ∃ ρ H0, Rl K (H1, B.2) ρ σ H0 H ∧ EndS K mg W (H1, B.2) E (forL g M (ds.drop i) ρ), ⟨_, rfl, Nat.zero_le _, ρ, H1, rebase hb rl (Ex.refl _), by rw [List.drop_zero]; exact h⟩, ?_⟩
  rintro i m σ H ⟨rfl, hi, ρ, H0, r, k⟩
  have e : Ex H1 H0 := r.gr.e0
  by_cases hlt : i < ds.length
  · have hd : ds[i]? = some ds[i] := List.getElem?_eq_getElem hlt
    obtain ⟨hgo, hy⟩ := (hJ i).2 H _ (e.trans r.s) hd
    rw [getElem?_drop hd] at k
    unfold forL at k
    refine .inr ⟨hgo, fun σ' H' => ∃ ρ H0, Rl K (H1, B.2) ρ σ' H0 H' ∧ EndS K mg W (H1, B.2) E (forL g M (ds.drop (i + 1)) ρ), fun σ' H' z => ⟨ds.length - (i + 1), by omega, rfl, by omega, z⟩, fun x H' y => ?_⟩
    have go : ∀ H0', Rl K (H1, B.2) ρ σ H0' H' → Rp K H0' x ds[i] → tG K is g x σ H' fun σ2 H2 => tS K mg W M { E with nx := fun σ' H' => ∃ ρ H0, Rl K (H1, B.2) ρ σ' H0 H' ∧ EndS K mg W (H1, B.2) E (forL g M (ds.drop (i + 1)) ρ), ct := fun σ' H' => ∃ ρ H0, Rl K (H1, B.2) ρ σ' H0 H' ∧ EndS K mg W (H1, B.2) E (forL g M (ds.drop (i + 1)) ρ), bk := E.nx } σ2 H2 := by
      intro H0' r' rp
      refine ⟨(H1, B.2), ρ, H0', _, r', rp, ?_⟩
      cases hg : g ds[i] ρ with
      | none => rw [hg] at k; exact k.elim
      | some ρ1 =>
        rw [hg] at k
        intro σ2 r2 _ _
        refine ⟨(H1, B.2), ρ1, H0', r2, ?_⟩
        simp only at k
        cases hM : M ρ1 with
        | nx ρ2 => rw [hM] at k; exact fun σ3 H3 H4 r3 => ⟨ρ2, H3, r3, k⟩
        | ct ρ2 => rw [hM] at k; exact fun σ3 H3 H4 r3 => ⟨ρ2, H3, r3, k⟩
        | bk ρ2 => rw [hM] at k; exact k
        | rt d => rw [hM] at k; exact k
        | er c ρ2 => rw [hM] at k; exact k
        | bad => rw [hM] at k; exact k
    rcases hy x H' y with ⟨rfl, rp⟩ | ⟨p, vs, es, hp, rfl, rfl, hd', rs⟩
    · exact go H0 r (rp.mono e)
    · refine go (upd H0 p (.tup vs)) (r.grow (Gr.new r.s hp)) ?_
      rw [hd']
      exact .tup upd_same ((rs.mono e).mono (Ex.new (fresh_back r.s hp)))
  · have : i = ds.length := by omega
    subst this
    rw [List.drop_length] at k
    exact .inl ⟨(hJ _).1 H (e.trans r.s) (Nat.le_refl _), k σ H0 H r⟩
theorem sd_for {g : DG} {is : List Nat} {mi : DI} (hp : PassesOwn (model X.prog X.w) X.A X.env X.xe) (hc : X.calm = true) (hi : ID X W tg it mi) (hg : GD X tg is g) (hb : SsD X W body M)
    (hs : ∀ x, foldedSetIterable it X.env x = pure x := by intro _; rfl) : SD X W (.For tg it body [] pos) (sFor mi g M) := (ps_for hp hc hi hg hb hs).wk fun E σ H ⟨B, ρ, H0, r, o⟩ => by
  refine ⟨B, ρ, H0, r, ?_⟩
  unfold sFor at o
  cases h : mi ρ with
  | bad => rw [h] at o; exact o
  | er c => rw [h] at o; exact ends_er r o
  | ok ds =>
    rw [h] at o
    intro J H1 H2 g1 hJ
    exact for_data hJ (r.grow g1) o
def whileN (mc : DE) (M : DS) : Nat → DS
  | 0, _ => .bad
  | n + 1, ρ => match mc ρ with
    | .ok (.bool true) => (match M ρ with
      | .nx ρ2 => whileN mc M n ρ2
      | .ct ρ2 => whileN mc M n ρ2
      | .bk ρ2 => .nx ρ2
      | r => r)
    | .ok (.bool false) => .nx ρ
    | .er c => .er c ρ
    | _ => .bad
theorem sd_while (n : Nat) {c : Expr} (hp : PassesOwn (model X.prog X.w) X.A X.env X.xe) (hc : PTd X W c mc) (hb : SsD X W body M) : SD X W (.While c body [] pos) (whileN mc M n) := (ps_while hp hc hb).wk fun E σ H ⟨B, ρ, H0, r, o⟩ => by
  refine ⟨fun n σ H => ∃ ρ H0, Rl X.K B ρ σ H0 H ∧ EndS X.K X.mg W B E (whileN mc M n ρ), ⟨n, ρ, H0, r, o⟩, ?_⟩
  rintro m σ H ⟨ρ, H0, r, k⟩
  cases m with
  | zero => exact k.elim
  | succ n =>
    unfold whileN at k
    refine ⟨B, ρ, H0, r, ?_⟩
    split at k
    · rename_i hm
      rw [hm]
      refine ⟨true, rfl, fun H1 H2 g => iteT ?_⟩
      refine ⟨fun σ' H' => ∃ ρ H0, Rl X.K B ρ σ' H0 H' ∧ EndS X.K X.mg W B E (whileN mc M n ρ), fun σ' H' z => ⟨n, Nat.lt_succ_self _, z⟩, B, ρ, H1, r.grow g, ?_⟩
      cases hM : M ρ with
      | nx ρ2 => rw [hM] at k; exact fun σ3 H3 H4 r3 => ⟨ρ2, H3, r3, k⟩
      | ct ρ2 => rw [hM] at k; exact fun σ3 H3 H4 r3 => ⟨ρ2, H3, r3, k⟩
      | bk ρ2 => rw [hM] at k; exact k
      | rt d => rw [hM] at k; exact k
      | er c ρ2 => rw [hM] at k; exact k
      | bad => rw [hM] at k; exact k
    · rename_i hm
      rw [hm]
      exact ⟨false, rfl, fun H1 H2 g => iteF (k σ H1 H2 (r.grow g))⟩
    · rename_i c hm
      rw [hm]
      exact ends_er r k
    · exact k.elim
end
end Fc
set_option Elab.async false
set_option linter.all false
set_option maxRecDepth 100000
set_option maxHeartbeats 2000000
namespace Fc
open PySem L2 Evl PySem.Spec PyProof.Rows
section
variable {X : Cx} {W : WX} {e a b c o tg it elt : Expr} {es : List Expr} {m ma mb mc mt : DE} {pos : Pos} {st : Stmt} {rest body els : List Stmt} {M N : DS}
variable {K : Fr} {mg : Str → Option Value} {B : Bs} {ρ : En} {σ : L2.St} {H0 H : Hp} {E : Ends}
/-! ### comprehensions -/
def wipeE (ρ : En) : List Nat → En
  | [] => ρ
  | v :: vs => (wipeE ρ vs).set v .un
theorem Rl.wipe (r : Rl K B ρ σ H0 H) : ∀ vs : List Nat, Rl K B (wipeE ρ vs) (L2.wipe σ vs) H0 H
  | [] => r
  | v :: vs => (Rl.wipe r vs).setU
theorem wipe_get (σ : L2.St) (j : Nat) : ∀ vs : List Nat, (L2.wipe σ vs)[j]? = if j ∈ vs then (if j < σ.length then some none else none) else σ[j]?
  | [] => by simp [L2.wipe]
  | v :: vs => by
    unfold L2.wipe
    rw [get_set, wipe_length, wipe_get σ j vs]
    by_cases h : v = j
    · subst h; simp
    · have : ¬ j = v := fun z => h z.symm
      simp [h, this]
theorem wipe_eq {σ σ2 : L2.St} {is vs : List Nat} (hl : σ2.length = (L2.wipe σ vs).length) (h : ∀ j, j ∉ is → σ2[j]? = (L2.wipe σ vs)[j]?) (hs : ∀ i ∈ is, i ∈ vs) : L2.wipe σ2 vs = L2.wipe σ vs := by
  apply List.ext_getElem?
  intro j
  rw [wipe_length] at hl
  rw [wipe_get σ2, wipe_get σ, hl]
  by_cases hj : j ∈ vs
  · simp [hj]
  · have : j ∉ is := fun z => hj (hs j z)
    have q := h j this
    rw [wipe_get] at q
    simp only [hj, if_false] at q ⊢
    exact q
def lcStep (g : DG) (t m : DE) (vs : List Nat) (ρ : En) (d : D) : Option (Option D) := match g d (wipeE ρ vs) with
  | none => none
  | some ρ1 => match t ρ1 with
    | .ok (.bool true) => (match m ρ1 with
      | .ok x => some (some x)
      | _ => none)
    | .ok (.bool false) => some none
    | _ => none
def lcL (g : DG) (t m : DE) (vs : List Nat) (ρ : En) : List D → Option (List D)
  | [] => some []
  | d :: ds => match lcStep g t m vs ρ d with
    | none => none
    | some o => match lcL g t m vs ρ ds with
      | none => none
      | some r => some (o.toList ++ r)
def eLc (it : DI) (g : DG) (t m : DE) (vs : List Nat) : DE := fun ρ => match it ρ with
  | .ok ds => (match lcL g t m vs ρ ds with
    | some rs => if szB rs.length = true then .ok (.list rs) else .bad
    | none => .bad)
  | .er c => .er c
  | .bad => .bad
def W0 : WX := fun _ _ _ _ => False
theorem wc0 {c : Str} {σ : L2.St} {H : Hp} : WC mg W0 c σ H → ∀ C, mg c = some (Value.ref C) → False := fun h C hC => h C hC
/-- the new list at Dl is kept from the block -/
theorem Rl.guard {Dl : Addr} {xs : List V} (r : Rl K B ρ σ H0 H) (h : H Dl = some (.lst xs)) (h0 : H0 Dl = none) (hn : ∀ (j : Nat) (e : D), ρ[j]? = some (Slot.ow e) → σ[j]? ≠ some (some (V.ref Dl))) : Rl K (B.1, upd B.2 Dl (.lst xs)) ρ σ H0 H := by
  refine ⟨⟨r.gr.e0, fun q u z => ?_, r.gr.s, fun q z z1 => ?_⟩, r.len, r.fz, fun i d hi => ?_, r.uq⟩
  · have z' : upd B.2 Dl (.lst xs) q = some u := z
    by_cases hq : q = Dl
    · subst hq; rw [upd_same] at z'; rw [h]; exact z'
    · rw [upd_ne hq] at z'; exact r.gr.e q u z'
  · by_cases hq : q = Dl
    · subst hq; exact h0
    · have z' : upd B.2 Dl (.lst xs) q ≠ none := z
      rw [upd_ne hq] at z'
      exact r.gr.n q z' z1
  · obtain ⟨p, ob, q1, q2, q3, q4, q5⟩ := r.ow i d hi
    have ne : p ≠ Dl := fun z => hn i d hi (z ▸ q1)
    exact ⟨p, ob, q1, by show upd B.2 Dl _ p = none; rw [upd_ne ne]; exact q2, q3, q4, q5⟩
theorem Rl.guarded {Dl : Addr} {xs : List V} (r : Rl K (B.1, upd B.2 Dl (.lst xs)) ρ σ H0 H) (hB : B.1 Dl = none) : H Dl = some (.lst xs) ∧ H0 Dl = none ∧ ∀ (j : Nat) (e : D), ρ[j]? = some (Slot.ow e) → σ[j]? ≠ some (some (V.ref Dl)) := by
  refine ⟨r.gr.e Dl _ upd_same, r.gr.n Dl (by show upd B.2 Dl _ Dl ≠ none; rw [upd_same]; exact fun z => nomatch z) hB, fun j e hj hs => ?_⟩
  obtain ⟨p, ob, q1, q2, q3, q4, q5⟩ := r.ow j e hj
  rw [hs] at q1
  simp at q1
  subst q1
  have : upd B.2 Dl (.lst xs) Dl = none := q2
  rw [upd_same] at this
  cases this
theorem Rl.unguard {Dl : Addr} {xs : List V} (r : Rl K (B.1, upd B.2 Dl (.lst xs)) ρ σ H0 H) (hB : B.2 Dl = none) : Rl K B ρ σ H0 H := by
  refine ⟨⟨r.gr.e0, fun q u z => ?_, r.gr.s, fun q z z1 => ?_⟩, r.len, r.fz, fun i d hi => ?_, r.uq⟩
  · have hq : q ≠ Dl := fun y => by rw [y, hB] at z; cases z
    exact r.gr.e q u (by show upd B.2 Dl _ q = some u; rw [upd_ne hq]; exact z)
  · have hq : q ≠ Dl := fun y => z (by rw [y]; exact hB)
    exact r.gr.n q (by show upd B.2 Dl _ q ≠ none; rw [upd_ne hq]; exact z) z1
  · obtain ⟨p, ob, q1, q2, q3, q4, q5⟩ := r.ow i d hi
    have q2' : upd B.2 Dl (.lst xs) p = none := q2
    have ne : p ≠ Dl := fun z => by rw [z, upd_same] at q2'; cases q2'
    rw [upd_ne ne] at q2'
    exact ⟨p, ob, q1, q2', q3, q4, q5⟩
theorem Rl.grown {Dl : Addr} {xs ys : List V} (r : Rl K B ρ σ H0 H) (h : H Dl = some (.lst xs)) (hB : B.2 Dl = none) (h0 : H0 Dl = none) (hn : ∀ (j : Nat) (e : D), ρ[j]? = some (Slot.ow e) → σ[j]? ≠ some (some (V.ref Dl))) : Rl K B ρ σ H0 (upd H Dl (.lst ys)) :=
  ⟨r.gr.mut hB h0, r.len, r.fz, fun i d hi => by
    obtain ⟨p, ob, q1, q2, q3, q4, q5⟩ := r.ow i d hi
    have ne : p ≠ Dl := fun z => hn i d hi (z ▸ q1)
    exact ⟨p, ob, q1, q2, q3, by rw [upd_ne ne]; exact q4, q5⟩, r.uq⟩
theorem lc_data {J : It} {ds rs : List D} {is vs : List Nat} {g : DG} {Hs0 Hs H1 H2 : Hp} {Q : VK} (hJ : ItOk K J H1 ds) (rl : Rl K B ρ σ H1 H2) (gr : Gr Hs0 Hs H1 H2) (hrs : lcL g mt m vs ρ ds = some rs) (hz : szB rs.length = true) (hsub : ∀ i ∈ is, i ∈ vs)
    (hq : Kq true K Hs0 Hs (.list rs) Q) (Dl : Addr) (hD : H2 Dl = none) :
    ∃ Wd : Nat → Nat → Hp → Prop, (∃ m, Wd 0 m (upd H2 Dl (.lst []))) ∧ ∀ i k H, Wd i k H →
      (J.stop i H ∧ Q (.ref Dl) H) ∨ (J.go i H ∧ ∃ Nx : Hp → Prop, (∀ H', Nx H' → ∃ m', m' < k ∧ Wd (i + 1) m' H') ∧ ∀ x H', J.yld i H x H' → tG K is g x (L2.wipe σ vs) H' fun σ2 H2 => L2.wipe σ2 vs = L2.wipe σ vs ∧ tT K mg W0 mt σ2 H2 fun b H3 =>
        if b = true then tE false K mg W0 m σ2 H3 fun y H4 => ∃ acc, H4 Dl = some (.lst acc) ∧ acc.length < sizeLine ∧ Nx (upd H4 Dl (.lst (acc ++ [y]))) else Nx H3) := by
  have hB2 : B.2 Dl = none := fresh_back rl.gr.e hD
  have hH1 : H1 Dl = none := fresh_back rl.s hD
  have hB1 : B.1 Dl = none := fresh_back rl.gr.e0 hH1
  have hHs : Hs Dl = none := fresh_back gr.e hD
  have hb := rl.gr
  let Bd : List V → Bs := fun acc => (H1, upd B.2 Dl (.lst acc))
  let Inv' : Nat → Hp → Prop := fun i H => ∃ H0 acc done rest, Rl K (Bd acc) ρ σ H0 H ∧ Gr Hs0 Hs H0 H ∧ RpA K H0 acc done ∧ lcL g mt m vs ρ (ds.drop i) = some rest ∧ done ++ rest = rs
  have own_ne : ∀ (j : Nat) (e : D), ρ[j]? = some (Slot.ow e) → σ[j]? ≠ some (some (V.ref Dl)) := fun j e hj hs => by
    obtain ⟨p, ob, q1, q2, q3, q4, q5⟩ := rl.ow j e hj
    rw [hs] at q1
    simp at q1
    subst q1
    rw [hD] at q4
    cases q4
  have start : Inv' 0 (upd H2 Dl (.lst [])) := by
    have r1 : Rl K (H1, B.2) ρ σ H1 (upd H2 Dl (.lst [])) := (rebase hb rl (Ex.refl _)).grow (Gr.side rl.s (Ex.new hD))
    exact ⟨H1, [], [], rs, r1.guard upd_same hH1 own_ne, gr.trans (Gr.side rl.s (Ex.new hD)), .nil, by rw [List.drop_zero]; exact hrs, rfl⟩
  refine ⟨fun i k H => k = ds.length - i ∧ i ≤ ds.length ∧ Inv' i H, ⟨_, rfl, Nat.zero_le _, start⟩, ?_⟩
  rintro i k H ⟨rfl, hi, H0, acc, done, rst, r, g0, ra, hl, hd⟩
  obtain ⟨gD, gD0, gN⟩ := r.guarded (B := (H1, B.2)) hH1
  have e : Ex H1 H0 := r.gr.e0
  by_cases hlt : i < ds.length
  · have hdi : ds[i]? = some ds[i] := List.getElem?_eq_getElem hlt
    obtain ⟨hgo, hy⟩ := (hJ i).2 H _ (e.trans r.s) hdi
    rw [getElem?_drop hdi] at hl
    unfold lcL at hl
    refine .inr ⟨hgo, Inv' (i + 1), fun H' z => ⟨ds.length - (i + 1), by omega, rfl, by omega, z⟩, fun x H' y => ?_⟩
    cases hst : lcStep g mt m vs ρ ds[i] with
    | none => rw [hst] at hl; cases hl
    | some oo =>
      rw [hst] at hl
      cases hlr : lcL g mt m vs ρ (ds.drop (i + 1)) with
      | none => rw [hlr] at hl; cases hl
      | some r2 =>
        rw [hlr] at hl
        simp only [Option.some.injEq] at hl
        subst hl
        have go : ∀ H0', Gr H0 H H0' H' → Rp K H0' x ds[i] → tG K is g x (L2.wipe σ vs) H' fun σ2 H2 => L2.wipe σ2 vs = L2.wipe σ vs ∧ tT K mg W0 mt σ2 H2 fun b H3 =>
            if b = true then tE false K mg W0 m σ2 H3 fun y H4 => ∃ acc, H4 Dl = some (.lst acc) ∧ acc.length < sizeLine ∧ Inv' (i + 1) (upd H4 Dl (.lst (acc ++ [y]))) else Inv' (i + 1) H3 := by
          intro H0' gg rp
          have r' := r.grow gg
          refine ⟨Bd acc, wipeE ρ vs, H0', _, r'.wipe vs, rp, ?_⟩
          unfold lcStep at hst
          cases hg : g ds[i] (wipeE ρ vs) with
          | none => rw [hg] at hst; cases hst
          | some ρ1 =>
            rw [hg] at hst
            intro σ2 rr2 l2 n2
            refine ⟨wipe_eq l2 n2 hsub, Bd acc, ρ1, H0', rr2, ?_⟩
            simp only at hst
            split at hst
            · rename_i ht
              rw [ht]
              refine ⟨true, rfl, fun H3 H4 g3 => iteT ?_⟩
              split at hst
              · rename_i xd hm
                simp only [Option.some.injEq] at hst
                subst hst
                refine ⟨Bd acc, ρ1, H3, rr2.grow g3, ?_⟩
                rw [hm]
                intro v H5 H6 g5 rv
                have rB := (r'.grow g3).grow g5
                obtain ⟨gD5, gD05, gN5⟩ := rB.guarded (B := (H1, B.2)) hH1
                have hlen : acc.length = done.length := ra.length
                have hlen2 : done.length ≤ rs.length := by rw [← hd, List.length_append]; omega
                have hz' := of_decide_eq_true hz
                refine ⟨acc, gD5, sz_lt (by
                  have : (done ++ ((some xd).toList ++ r2)).length = rs.length := by rw [hd]
                  simp at this
                  omega), H5, acc ++ [v], done ++ [xd], r2, ?_, ?_, ((ra.mono gg.e0).mono (g3.e0.trans g5.e0)).append (.cons rv .nil), hlr, by rw [← hd]; simp⟩
                · exact ((rB.unguard (B := (H1, B.2)) hB2).grown gD5 hB2 gD05 gN5).guard upd_same gD05 gN5
                · exact (((g0.trans gg).trans g3).trans g5).mut hHs gD05
              · cases hst
            · rename_i ht
              rw [ht]
              refine ⟨false, rfl, fun H3 H4 g3 => iteF ?_⟩
              simp only [Option.some.injEq] at hst
              subst hst
              exact ⟨H3, acc, done, r2, r'.grow g3, (g0.trans gg).trans g3, (ra.mono gg.e0).mono g3.e0, hlr, by rw [← hd]; simp⟩
            · cases hst
        rcases hy x H' y with ⟨rfl, rp⟩ | ⟨p, vs', es, hp, rfl, rfl, hd', rs'⟩
        · exact go H0 (Gr.refl r.s) (rp.mono e)
        · refine go (upd H0 p (.tup vs')) (Gr.new r.s hp) ?_
          rw [hd']
          exact .tup upd_same ((rs'.mono e).mono (Ex.new (fresh_back r.s hp)))
  · have : i = ds.length := by omega
    subst this
    rw [List.drop_length] at hl
    unfold lcL at hl
    cases hl
    rw [List.append_nil] at hd
    subst hd
    exact .inl ⟨(hJ _).1 H (e.trans r.s) (Nat.le_refl _), hq Dl _ H0 H g0 gD hHs gD0 (.inl ⟨acc, done, rfl, rfl, ra⟩)⟩
abbrev PTsD (X : Cx) (ifs : List Expr) (m : DE) : Prop := PTs X ifs (tT X.K X.mg W0 m)
def eT : DE := fun _ => .ok (.bool true)
theorem tds_nil : PTsD X [] eT := ⟨fun pins s σ H Q I ⟨B, ρ, H0, r, b, eb, k⟩ => pts_nil.run pins s σ H Q I (by
  cases eb
  exact k H0 H (Gr.refl r.s))⟩
theorem tds_one (h : PTd X W0 c mc) : PTsD X [c] mc := pts_one h
theorem t_lc {mi : DI} {is vs : List Nat} {g : DG} (hsub : ∀ i ∈ is, i ∈ vs) {Q : VK} (h : tE true K mg W (eLc mi g mt m vs) σ H Q) : tLc (tIt K mg W mi) (tG K is g) (tT K mg W0 mt) (tE false K mg W0 m) vs σ H Q := by
  obtain ⟨B, ρ, H0, rl, o⟩ := h
  refine ⟨B, ρ, H0, rl, ?_⟩
  unfold eLc at o
  cases hi : mi ρ with
  | bad => rw [hi] at o; exact o
  | er c => rw [hi] at o; exact o
  | ok ds =>
    rw [hi] at o
    simp only at o
    cases hrs : lcL g mt m vs ρ ds with
    | none => rw [hrs] at o; exact o.elim
    | some rs =>
      rw [hrs] at o
      simp only at o
      split at o
      · rename_i hz
        intro J H1 H2 g1 hJ Dl hD
        exact lc_data hJ (rl.grow g1) g1 hrs hz hsub o Dl hD
      · exact o.elim
theorem pf_lc {ifs : List Expr} {scope : Scope} {own : List (Str × Nat)} {mi : DI} {is : List Nat} {g : DG} (hc : X.calm = true) (hN : X.N.Nodup) (hi : ID X W tg it mi) (ok : BlkOk X.N X.env.scope scope own)
    (hg : ∀ (s : Shared) (H : Hp) (C : Addr) (cl : List (Str × Addr)) (fp : List Addr), GD (X.blk s H scope (compEnvC scope cl C X.env) fp) tg is g) (ht : ∀ (s : Shared) (H : Hp) (C : Addr) (cl : List (Str × Addr)) (fp : List Addr), PTsD (X.blk s H scope (compEnvC scope cl C X.env) fp) ifs mt)
    (he : ∀ (s : Shared) (H : Hp) (C : Addr) (cl : List (Str × Addr)) (fp : List Addr), PD (X.blk s H scope (compEnvC scope cl C X.env) fp) W0 elt m) (hsub : ∀ i ∈ is, i ∈ own.map (·.2) := by decide) (hs : ∀ x, foldedSetIterable it X.env x = pure x := by intro _; rfl) :
    PF X W (.ListComp elt [⟨tg, it, ifs, 0⟩] scope pos) (eLc mi g mt m (own.map (·.2))) := (pe_lc hc hN hi ok hg ht he hs).wk fun σ H Q h => t_lc hsub h
theorem sd_setLc {i : Nat} {y : Str} {py spos : Pos} {ifs : List Expr} {scope : Scope} {own : List (Str × Nat)} {mi : DI} {is : List Nat} {g : DG} (hc : X.calm = true) (hN : X.N.Nodup) (hy : X.N[i]? = some y) (hyl : X.env.scope.names.lookup y = some .local)
    (hsw : swapsWith (.ListComp elt [⟨tg, it, ifs, 0⟩] scope pos) (some (.Name y py)) spos.line X.env = pure true) (hi : ID X W tg it mi) (ok : BlkOk X.N X.env.scope scope own)
    (hg : ∀ (s : Shared) (H : Hp) (C : Addr) (cl : List (Str × Addr)) (fp : List Addr), GD (X.blk s H scope (compEnvC scope cl C X.env) fp) tg is g) (ht : ∀ (s : Shared) (H : Hp) (C : Addr) (cl : List (Str × Addr)) (fp : List Addr), PTsD (X.blk s H scope (compEnvC scope cl C X.env) fp) ifs mt)
    (he : ∀ (s : Shared) (H : Hp) (C : Addr) (cl : List (Str × Addr)) (fp : List Addr), PD (X.blk s H scope (compEnvC scope cl C X.env) fp) W0 elt m) (hsub : ∀ i ∈ is, i ∈ own.map (·.2) := by decide) (hs : ∀ x, foldedSetIterable it X.env x = pure x := by intro _; rfl) :
    SD X W (.Assign [.Name y py] (.ListComp elt [⟨tg, it, ifs, 0⟩] scope pos) spos) (sOwn i (eLc mi g mt m (own.map (·.2)))) := (ps_setLc hc hN hy hyl hsw hi ok hg ht he hs).wk fun E σ H q =>
  t_lc hsub (t_sE (kd := true) q fun B ρ H0 H d r k p ob H0' H' g hp hn h0 ho => k _ H0' H' (own_new r g hn hp h0 ho i))
/-- .. whose list is frozen at once -/
theorem sd_setLcF {i : Nat} {y : Str} {py spos : Pos} {ifs : List Expr} {scope : Scope} {own : List (Str × Nat)} {mi : DI} {is : List Nat} {g : DG} (hc : X.calm = true) (hN : X.N.Nodup) (hy : X.N[i]? = some y) (hyl : X.env.scope.names.lookup y = some .local)
    (hsw : swapsWith (.ListComp elt [⟨tg, it, ifs, 0⟩] scope pos) (some (.Name y py)) spos.line X.env = pure true) (hi : ID X W tg it mi) (ok : BlkOk X.N X.env.scope scope own)
    (hg : ∀ (s : Shared) (H : Hp) (C : Addr) (cl : List (Str × Addr)) (fp : List Addr), GD (X.blk s H scope (compEnvC scope cl C X.env) fp) tg is g) (ht : ∀ (s : Shared) (H : Hp) (C : Addr) (cl : List (Str × Addr)) (fp : List Addr), PTsD (X.blk s H scope (compEnvC scope cl C X.env) fp) ifs mt)
    (he : ∀ (s : Shared) (H : Hp) (C : Addr) (cl : List (Str × Addr)) (fp : List Addr), PD (X.blk s H scope (compEnvC scope cl C X.env) fp) W0 elt m) (hsub : ∀ i ∈ is, i ∈ own.map (·.2) := by decide) (hs : ∀ x, foldedSetIterable it X.env x = pure x := by intro _; rfl) :
    SD X W (.Assign [.Name y py] (.ListComp elt [⟨tg, it, ifs, 0⟩] scope pos) spos) (sAsg i (eLc mi g mt m (own.map (·.2)))) := (ps_setLc hc hN hy hyl hsw hi ok hg ht he hs).wk fun E σ H q =>
  t_lc hsub (t_sE (kd := true) q fun B ρ H0 H d r k => Kq.own (Q := fun x H1 => gName i x σ H1 E.nx) fun v H0' H' g rp => k _ H0' H' ((r.grow g).setF rp))
/-! ### defs -/
/-- what a def promises: on data ds it comes to f ds -/
def spD (K : Fr) (mg : Str → Option Value) (n : Nat) (f : List D → R D) : Sp := fun vs H Q E => vs.length = n ∧ ∃ ds H0, Ex H0 H ∧ RpA K H0 vs ds ∧ Out (f ds) (fun d => Kq false K H0 H d Q) (fun c => ∀ H', Ex H H' → ∀ C, mg c = some (Value.ref C) → E (.ref C) none H')
abbrev FnD (P : Program) (w : World) (K : Fr) (mg : Str → Option Value) (base : Heap) (k : Nat) (f : Addr) (fd : FuncData) (ps : List Str) (g : List D → R D) : Prop := FnOk P w K mg base (L2.CX P w) k f fd ps (spD K mg ps.length g)
def eDef (g : List D → R D) (ms : DA) : DE := fun ρ => (ms ρ).bind g
theorem t_def {k : Nat} {n : Nat} {g : List D → R D} {ms : DA} (hlen : ∀ ρ ds, ms ρ = .ok ds → ds.length = n) {Q : VK} (h : tE false K mg W (eDef g ms) σ H Q) : tAf K mg W ms σ H fun vs H1 => spD K mg n g vs H1 Q (WE W σ) := by
  obtain ⟨B, ρ, H0, rl, o⟩ := h
  refine ⟨B, ρ, H0, rl, ?_⟩
  unfold eDef at o
  cases ha : ms ρ with
  | bad => rw [ha] at o; exact o
  | er c => rw [ha] at o; exact o
  | ok ds =>
    rw [ha, R.bind_ok] at o
    intro vs H1 H2 g1 ra
    exact ⟨ra.length.trans (hlen ρ ds ha), ds, H1, g1.s, ra, o.imp (fun d k => Kq.grow (k := false) k g1) fun c k H' e => k H' (g1.e.trans e)⟩
theorem aNil_len : ∀ ρ ds, aNil ρ = .ok ds → ds.length = 0 := fun ρ ds h => by cases h; rfl
theorem aCons_len {ma : DE} {mr : DA} {n : Nat} (h : ∀ ρ ds, mr ρ = .ok ds → ds.length = n) : ∀ ρ ds, aCons ma mr ρ = .ok ds → ds.length = n + 1 := fun ρ ds q => by
  unfold aCons at q
  cases h1 : ma ρ with
  | bad => rw [h1] at q; cases q
  | er c => rw [h1] at q; cases q
  | ok d =>
    rw [h1, R.bind_ok] at q
    cases h2 : mr ρ with
    | bad => rw [h2] at q; cases q
    | er c => rw [h2] at q; cases q
    | ok ds' =>
      rw [h2, R.bind_ok] at q
      cases q
      rw [List.length_cons, h ρ ds' h2]
theorem pd_def {x : Str} {p : Pos} {k : Nat} {f : Addr} {fd : FuncData} {ps : List Str} {g : List D → R D} {ms : DA} (F : FnD X.prog X.w X.K X.mg X.base k f fd ps g) (tk : Takes X W) (hr : Room k X.A) (hg : Gl X x) (hm : X.mg x = some (.ref f)) (hk : PySem.W.keepIn X.K (.ref f) = true) (hb : Binds X.K fd ps [])
    (hlen : ∀ ρ ds, ms ρ = .ok ds → ds.length = ps.length) (ha : PAf X W (e :: es) ms) (hdb : (x == ("__debug__" : Str)) = false := by decide) (he : starEach (e :: es) X.env = (false, eval e X.env) :: starEach es X.env := by rfl) (hpl : (backTo pos (starEach es X.env)).any (·.1) = false := by rfl) :
    PD X W (.Call (.Name x p) (e :: es) [] pos) (eDef g ms) := (pe_callS F hr hg hm hk hb (fun σ => passAt tk σ) ha hdb he hpl).wk fun σ H Q h => t_def (k := k) hlen h
theorem pd_def0 {x : Str} {p : Pos} {k : Nat} {f : Addr} {fd : FuncData} {ps : List Str} {g : List D → R D} (F : FnD X.prog X.w X.K X.mg X.base k f fd ps g) (tk : Takes X W) (hr : Room k X.A) (hg : Gl X x) (hm : X.mg x = some (.ref f)) (hk : PySem.W.keepIn X.K (.ref f) = true) (hb : Binds X.K fd ps [])
    (hlen : ps.length = 0) (hdb : (x == ("__debug__" : Str)) = false := by decide) : PD X W (.Call (.Name x p) [] [] pos) (eDef g aNil) := by
  refine ⟨fun pins s σ H Q I h => ?_⟩
  have q := t_def (k := k) (n := ps.length) (fun ρ ds z => by rw [hlen]; exact aNil_len ρ ds z) h
  obtain ⟨B, ρ, H0, rl, o⟩ := q
  refine wpAny_Call_Name_kw (ld_glob I hg hm ?_ hdb)
  exact PySem.W.callWith_K0 I.kIn hk (run_fnS (us := []) F hr hb (passAt tk σ) I .nil (o [] H0 H (Gr.refl rl.s) .nil))
/-! ### a def's body -/
/-- a body run on data: N names, the first of them parameters -/
def runF (N n : Nat) (M : DS) (ds : List D) : R D := if ds.length = n then (match M (ds.map Slot.fz ++ List.replicate (N - n) Slot.un) with
  | .nx _ => .ok .none
  | .rt d => .ok d
  | .er c _ => .er c
  | _ => .bad) else .bad
theorem rl_start {N : List Str} {n : Nat} {vs : List V} {ds : List D} (s : Ex H0 H) (ra : RpA K H0 vs ds) (hl : vs.length = n) : Rl K (H0, H) (ds.map Slot.fz ++ List.replicate (N.length - n) Slot.un) (L2.start N vs) H0 H where
  gr := Gr.refl s
  len := by
    unfold L2.start
    have := ra.length
    simp [this]
    omega
  fz := fun i d h => by
    unfold L2.start
    rw [List.getElem?_append] at h ⊢
    split at h
    · rename_i hi
      rw [List.getElem?_map] at h
      obtain ⟨d', h1, h2⟩ := Option.map_eq_some_iff.mp h
      cases h2
      obtain ⟨v, h3, h4⟩ := ra.getD h1
      refine ⟨v, ?_, h4⟩
      rw [if_pos (by simpa [ra.length] using hi), List.getElem?_map, h3]
      rfl
    · rw [List.getElem?_replicate] at h
      split at h <;> cases h
  ow := fun i d h => by
    rw [List.getElem?_append] at h
    split at h
    · rw [List.getElem?_map] at h
      obtain ⟨d', h1, h2⟩ := Option.map_eq_some_iff.mp h
      cases h2
    · rw [List.getElem?_replicate] at h
      split at h <;> cases h
  uq := fun i j d e p h => by
    rw [List.getElem?_append] at h
    split at h
    · rw [List.getElem?_map] at h
      obtain ⟨d', h1, h2⟩ := Option.map_eq_some_iff.mp h
      cases h2
    · rw [List.getElem?_replicate] at h
      split at h <;> cases h
theorem fn_d {P : Program} {w : World} {base : Heap} {x qual : Str} {params : Arguments} {scope : Scope} {f : Addr} {fd : FuncData} {N ps : List Str} {k : Nat} {dvs : List V} {kws : List (Str × V)} (F : FunD K x qual params body scope dvs kws f fd) (S : FnScope N ps scope)
    (hb : ∀ (cdv : Value) (A : Around) (outer : List Env) (s : Shared) (H : Hp) (E : XK), Room k (A.deeper (envOfC qual scope s.heap.objs.size f cdv)) →
      SsD (cxOf (L2.CX P w) P w K mg base N qual scope f cdv A outer s H E) (fun cls d _ H => E cls d H) body M) : FnD P w K mg base (k + 1) f fd ps (runF N.length ps.length M) := by
  refine F.ok S (fun vs H Q E h => h.1) fun cdv A outer s H vs Q E hr h => ⟨_, hb cdv A outer s H E hr, ?_⟩
  obtain ⟨hl, ds, H0, s0, ra, o⟩ := h
  refine ⟨(H0, H), _, H0, rl_start s0 ra hl, ?_⟩
  unfold runF at o
  rw [if_pos (ra.length.symm.trans hl)] at o
  show EndS K mg _ (H0, H) _ (M (ds.map Slot.fz ++ List.replicate (N.length - ps.length) Slot.un))
  cases hM : M (ds.map Slot.fz ++ List.replicate (N.length - ps.length) Slot.un) with
  | nx ρ => rw [hM] at o; exact fun σ H1 H2 rl => o .non H1 H2 rl.gr .non
  | rt d => rw [hM] at o; exact fun v H1 H2 g rp => o v H1 H2 g rp
  | er c ρ => rw [hM] at o; exact fun σ H1 H2 rl C hC => o H2 rl.gr.e C hC
  | bk ρ => rw [hM] at o; exact o.elim
  | ct ρ => rw [hM] at o; exact o.elim
  | bad => rw [hM] at o; exact o.elim
/-- nothing is promised -/
theorem fn_bad {P : Program} {w : World} {base : Heap} {f : Addr} {fd : FuncData} {ps : List Str} {k : Nat} : FnD P w K mg base k f fd ps (fun _ => .bad) := ⟨fun vs H Q E h => h.1, fun _ _ _ _ _ _ _ _ _ _ _ _ _ h => by
  obtain ⟨_, _, _, _, _, o⟩ := h
  exact o.elim⟩
/-! ### raise X('..') -/
def sRaise (c : Str) : DS := fun ρ => .er c ρ
structure ExcF (K : Fr) (mg : Str → Option Value) (x : Str) (C : Addr) : Prop where
  g : mg x = some (.ref C)
  q : ∃ bm, (∃ B newId initId, ExcBaseFacts B newId initId bm ∧ PySem.W.excIn K C bm newId = true)
  k : PySem.W.keepIn K (.ref C) = true
  s : PySem.W.subIn K (.ref C) (.type "BaseException") = some true
  t : PySem.W.typeIn K (.ref C) = some (.type "type")
theorem sd_raise {x z : Str} {C : Addr} {j : Nat} {p p2 pos' : Pos} (F : ExcF X.K X.mg x C) (hc : X.calm = true) (tk : Takes X W) (hg : Gl X x) (hdb : (x == ("__debug__" : Str)) = false := by decide) :
    SD X W (.Raise (some (.Call (.Name x p) [.Constant (.str z) j p2] [] pos)) none pos') (sRaise x) := by
  obtain ⟨bm, B, n1, n2, q1, q2⟩ := F.q
  exact (ps_raise hc tk (pmk_own q1 q2 F.g F.k (raises_own F.s F.t) hg hdb)).wk fun E σ H ⟨B, ρ, H0, r, o⟩ => o σ H0 H r C F.g
/-! ### an owned list grows -/
def sApp (i : Nat) (m : DE) : DS := fun ρ => match ρ[i]? with
  | some (.ow (.list ds)) => sE m (fun d ρ => if szB (ds.length + 1) = true then .nx (ρ.set i (.ow (.list (ds ++ [d])))) else .bad) ρ
  | _ => .bad
theorem own_at {i : Nat} {d : D} (r : Rl K B ρ σ H0 H) (h : ρ[i]? = some (Slot.ow d)) : ∃ p o, σ[i]? = some (some (.ref p)) ∧ H p = some o ∧ OwnO K H0 o d := by
  obtain ⟨p, ob, q1, _, _, q4, q5⟩ := r.ow i d h
  exact ⟨p, ob, q1, q4, q5⟩
theorem sd_app {i : Nat} {x : Str} {p1 apos cpos : Pos} (hx : PE X (.Name x p1) (tVar i)) (he : PD X W e m) (hsw : swapsWith (.Call (.Attribute (.Name x p1) "append" apos) [e] [] cpos) none pos.line X.env = pure false := by rfl)
    (hbase : attributeBase (.Name x p1) "append" X.env (eval (.Name x p1) X.env) = eval (.Name x p1) X.env := by rfl)
    (hfew : ((backTo cpos (starEach [e] X.env)).all (fun x => !x.1) && (backToKw cpos (keywordEach [] X.env)).all (fun x => x.1.isSome)
      && decide ([e].length + ([] : List Keyword).length + (if ([] : List Keyword).isEmpty then 0 else 1) < 30)) = true := by rfl)
    (hline : (apos.endLine == cpos.line) = true := by rfl) (hs : starEach [e] X.env = (false, eval e X.env) :: starEach [] X.env := by rfl) :
    SD X W (.Expr (.Call (.Attribute (.Name x p1) "append" apos) [e] [] cpos) pos) (sApp i m) :=
  (ps_expr (pe_bm PySem.F.plainAttrs_list PySem.F.slot_list_append PySem.F.type_list_append mt_append hx (pa_cons he pa_nil hs) hbase hfew hline hs rfl) hsw).wk fun E σ H q => by
    obtain ⟨B, ρ, H0, r, o⟩ := q
    unfold sApp at o
    split at o
    · rename_i l hi
      obtain ⟨p, ob, q1, q4, q5⟩ := own_at r hi
      rcases q5 with ⟨xs, ds, rfl, e2, rs⟩ | ⟨_, _, _, e2, _⟩
      · cases e2
        refine ⟨.ref p, q1, .inl ⟨rfl, xs, SqL.of q4⟩, B, ρ, H0, r, ?_⟩
        unfold sE at o
        cases hm : m ρ with
        | bad => rw [hm] at o; exact o.elim
        | er c => rw [hm] at o; exact ends_er r o
        | ok d =>
          rw [hm] at o
          simp only at o
          split at o
          · rename_i hz
            intro v H1 H2 g rp
            have r2 := r.grow g
            refine ⟨p, xs, v, rfl, rfl, g.e _ _ q4, ?_, ?_⟩
            · have := of_decide_eq_true hz
              rw [rs.length]
              exact sz_lt (by omega)
            · exact o _ H1 _ (r2.mutO hi q1 (.inl ⟨_, _, rfl, rfl, (rs.mono g.e0).append (.cons rp .nil)⟩))
          · exact o.elim
      · cases e2
    · exact o.elim
end
end Fc
set_option Elab.async false
set_option linter.all false
set_option maxRecDepth 100000
set_option maxHeartbeats 2000000
namespace Fc
open PySem L2 Evl PySem.Spec PyProof.Rows
section
variable {X : Cx} {W : WX} {e a b c o tg it elt : Expr} {es : List Expr} {m ma mb mc mt : DE} {pos : Pos} {st : Stmt} {rest body els : List Stmt} {M N : DS}
variable {K : Fr} {mg : Str → Option Value} {B : Bs} {ρ : En} {σ : L2.St} {H0 H : Hp} {E : Ends}
theorem VxA.one' {vs : List V} {d : D} (h : VxA K H0 H vs [d]) : ∃ v, vs = [v] ∧ Vx K H0 H v d := by
  cases h with
  | cons h t => cases t; exact ⟨_, rfl, h⟩
theorem VxA.two {vs : List V} {d f : D} (h : VxA K H0 H vs [d, f]) : ∃ v w, vs = [v, w] ∧ Vx K H0 H v d ∧ Vx K H0 H w f := by
  cases h with
  | cons h t =>
    cases t with
    | cons h2 t => cases t; exact ⟨_, _, rfl, h, h2⟩
/-! ### len -/
def dLen : List D → R D
  | [.list ds] => .ok (.int ds.length)
  | [.tuple ds] => .ok (.int ds.length)
  | [.str x] => if szB x.length = true then .ok (.int x.length) else .bad
  | [.dict [(.none, .list ds)]] => .ok (.int ds.length)
  | [.dict es] => if okE es = true then .ok (.int es.length) else .bad
  | _ => .bad
theorem cd_len : CalD false X (.builtin "len") dLen := ⟨_, call_len.or call_len_dT, fun H0 H xs ds d s va e Q kq => by
  unfold dLen at e
  split at e
  · cases e
    obtain ⟨v, rfl, vx⟩ := va.one'
    obtain ⟨a, ys, rfl, ha, r⟩ := vx.lst s
    exact .inl ⟨_, _, rfl, .inl ⟨ys, SqL.of ha, rfl⟩, by rw [r.length]; exact kq _ H0 H (Gr.refl s) (.int _)⟩
  · cases e
    obtain ⟨v, rfl, vx⟩ := va.one'
    obtain ⟨a, ys, rfl, h0, ha, r⟩ := vx.tup s
    exact .inl ⟨_, _, rfl, .inr ⟨ys, SqT.of ha, rfl⟩, by rw [r.length]; exact kq _ H0 H (Gr.refl s) (.int _)⟩
  · split at e
    · rename_i hz
      cases e
      obtain ⟨v, rfl, vx⟩ := va.one'
      exact .inl ⟨_, _, rfl, by rw [vx.str]; exact ⟨szB_ok hz, rfl⟩, kq _ H0 H (Gr.refl s) (.int _)⟩
    · cases e
  · cases e
    obtain ⟨v, rfl, vx⟩ := va.one'
    rcases vx.dct s with ⟨a, kvs, rfl, ha, r⟩ | ⟨a, ns, rfl, e2, hs⟩
    · exact (RpE.no_none r).elim
    · simp at e2
      subst e2
      exact .inl ⟨_, _, rfl, .inl ⟨_, hs, rfl⟩, by
        have : (ns.map V.int).length = (ns.map PyData.int).length := by simp
        rw [this]; exact kq _ H0 H (Gr.refl s) (.int _)⟩
  · split at e
    · rename_i ho
      cases e
      obtain ⟨v, rfl, vx⟩ := va.one'
      obtain ⟨a, kvs, rfl, ha, r⟩ := vx.dctO s ho
      exact .inr ⟨a, kvs, rfl, ha, by rw [r.length]; exact kq _ H0 H (Gr.refl s) (.int _)⟩
    · cases e
  · cases e⟩
theorem cm_len : Calm1 dLen := fun ds c h => by
  unfold dLen at h
  repeat' first
    | cases h
    | split at h
/-! ### isinstance with a built-in class -/
def tyN : D → String
  | .none => "NoneType"
  | .bool _ => "bool"
  | .int _ => "int"
  | .str _ => "str"
  | .list _ => "list"
  | .tuple _ => "tuple"
  | .dict [(.none, _)] => "list"
  | .dict _ => "dict"
def isT (T : String) (d : D) : Bool := tyN d == T || (T == "int" && tyN d == "bool")
def dIsI (T : String) (d : D) : R D := match d with
  | .dict _ => .bad
  | _ => .ok (.bool (isT T d))
def okT : List String := ["int", "bool", "str", "list", "tuple"]
theorem kit_tab : ∀ t ∈ ["NoneType", "bool", "int", "str", "list", "tuple"], ∀ T ∈ okT, kitB t T = some (t == T || (T == "int" && t == "bool")) := by decide +kernel
theorem tyX_of {v : V} {d : D} (s : Ex H0 H) (h : Vx K H0 H v d) (hd : ∀ es, d ≠ .dict es) : TyX K H v (.type (tyN d)) ∧ tyN d ∈ ["NoneType", "bool", "int", "str", "list", "tuple"] := by
  cases d with
  | none => rw [h.non]; exact ⟨.base .non, by decide⟩
  | bool b => rw [h.bl]; exact ⟨.base (.bl b), by simp [tyN]⟩
  | int i => rw [h.int]; exact ⟨.base (.int i), by simp [tyN]⟩
  | str x => rw [h.str]; exact ⟨.base (.str x), by simp [tyN]⟩
  | list ds => obtain ⟨a, xs, rfl, ha, _⟩ := h.lst s; exact ⟨.base (.lst ha), by simp [tyN]⟩
  | tuple ds => obtain ⟨a, xs, rfl, _, ha, _⟩ := h.tup s; exact ⟨.base (.tup ha), by simp [tyN]⟩
  | dict es => exact (hd es rfl).elim
theorem pd_isI {T : Str} {p p2 : Pos} (ma : DE) {Ts : String} (hT : Ts ∈ okT) (hg : Gl X "isinstance") (hm : X.mg "isinstance" = none) (hgT : Gl X T) (hmT : X.mg T = none) (hbT : bootBuiltins T = some (.type Ts)) (ha : PB X W a ma) (hn : T ≠ "__name__" := by decide) (hd : (T == ("__debug__" : Str)) = false := by decide)
    (he : starEach (a :: [.Name T p2]) X.env = (false, eval a X.env) :: starEach [.Name T p2] X.env := by rfl) (he2 : starEach [.Name T p2] X.env = (false, eval (.Name T p2) X.env) :: starEach [] X.env := by rfl) (hpl : (backTo pos (starEach [.Name T p2] X.env)).any (·.1) = false := by rfl) :
    PD X W (.Call (.Name "isinstance" p) [a, .Name T p2] [] pos) (eU (dIsI Ts) ma) :=
  (pe_callB call_isi hg hm PyProof.Rows.boot_isinstance (pa_cons ha (pa_cons (pe_bltn hgT hmT hbT (v := .ty Ts) rfl hn hd) pa_nil he2) he) (by decide) (by decide) he hpl).wk fun σ H Q h => by
    show tW X.K X.mg W ma σ H fun x H1 => rIsi X.K [x, .ty Ts] H1 Q
    refine t_un (k := false) (f := dIsI Ts) (t := fun x H1 Q => rIsi X.K [x, .ty Ts] H1 Q) (fun d c z => by unfold dIsI at z; split at z <;> cases z) (fun H0 H x dx d s vx e Q kq => ?_) h
    have hd : ∀ es, dx ≠ .dict es := fun es z => by subst z; cases e
    have e2 : d = .bool (isT Ts dx) := by
      unfold dIsI at e
      split at e
      · cases e
      · cases e; rfl
    subst e2
    obtain ⟨ty, mem⟩ := tyX_of s vx hd
    exact ⟨x, .ty Ts, _, _, _, rfl, .ty Ts, ty, kit_ty (kit_tab _ mem _ hT), kq _ H0 H (Gr.refl s) (.bl _)⟩
/-! ### lists of truths, of numbers -/
def boolsOf : List D → Option (List Bool)
  | [] => some []
  | .bool b :: ds => (boolsOf ds).map (b :: ·)
  | _ :: _ => none
def intsOf : List D → Option (List Int)
  | [] => some []
  | .int b :: ds => (intsOf ds).map (b :: ·)
  | _ :: _ => none
theorem boolsOf_rp : ∀ {vs : List V} {ds : List D} {bs : List Bool}, RpA K H vs ds → boolsOf ds = some bs → vs = bs.map V.bl
  | _, _, _, .nil, h => by cases h; rfl
  | _, _, _, .cons (d := d) h r, q => by
    cases d with
    | bool b =>
      unfold boolsOf at q
      obtain ⟨r2, h1, h2⟩ := Option.map_eq_some_iff.mp q
      cases h
      rw [← h2, boolsOf_rp r h1]
      rfl
    | _ => cases q
theorem intsOf_rp : ∀ {vs : List V} {ds : List D} {bs : List Int}, RpA K H vs ds → intsOf ds = some bs → vs = bs.map V.int
  | _, _, _, .nil, h => by cases h; rfl
  | _, _, _, .cons (d := d) h r, q => by
    cases d with
    | int b =>
      unfold intsOf at q
      obtain ⟨r2, h1, h2⟩ := Option.map_eq_some_iff.mp q
      cases h
      rw [← h2, intsOf_rp r h1]
      rfl
    | _ => cases q
@[simp] theorem boolsOf_map (bs : List Bool) : boolsOf (bs.map PyData.bool) = some bs := by
  induction bs with
  | nil => rfl
  | cons b bs ih => simp [boolsOf, ih]
@[simp] theorem intsOf_map (bs : List Int) : intsOf (bs.map PyData.int) = some bs := by
  induction bs with
  | nil => rfl
  | cons b bs ih => simp [intsOf, ih]
def dAll : List D → R D
  | [.list ds] => match boolsOf ds with
    | some bs => .ok (.bool (bs.all id))
    | none => .bad
  | _ => .bad
theorem cd_all (hc : X.calm = true) : CalD false X (.builtin "all") dAll := ⟨_, cr_all hc, fun H0 H xs ds d s va e Q kq => by
  unfold dAll at e
  split at e
  · split at e
    · rename_i bs hb
      cases e
      obtain ⟨v, rfl, vx⟩ := va.one'
      obtain ⟨a, ys, rfl, ha, r⟩ := vx.lst s
      have := boolsOf_rp r hb
      subst this
      exact ⟨a, bs, rfl, SqL.of ha, kq _ H0 H (Gr.refl s) (.bl _)⟩
    · cases e
  · cases e⟩
theorem cm_all : Calm1 dAll := fun ds c h => by
  unfold dAll at h
  repeat' first
    | cases h
    | split at h
def dSum : List D → R D
  | [.list ds] => match intsOf ds with
    | some bs => .ok (.int bs.sum)
    | none => .bad
  | _ => .bad
theorem cd_sum (hc : X.calm = true) : CalD false X (.builtin "sum") dSum := ⟨_, cr_sum hc, fun H0 H xs ds d s va e Q kq => by
  unfold dSum at e
  split at e
  · split at e
    · rename_i bs hb
      cases e
      obtain ⟨v, rfl, vx⟩ := va.one'
      obtain ⟨a, ys, rfl, ha, r⟩ := vx.lst s
      have := intsOf_rp r hb
      subst this
      exact ⟨a, bs, rfl, SqL.of ha, kq _ H0 H (Gr.refl s) (.int _)⟩
    · cases e
  · cases e⟩
theorem cm_sum : Calm1 dSum := fun ds c h => by
  unfold dSum at h
  repeat' first
    | cases h
    | split at h
def maxL : List Int → Option Int
  | [] => none
  | x :: xs => some (xs.foldl (fun a b => if a < b then b else a) x)
def minL : List Int → Option Int
  | [] => none
  | x :: xs => some (xs.foldl (fun a b => if b < a then b else a) x)
theorem maxL_of : ∀ (xs : List Int) (x m : Int), m ∈ x :: xs → (∀ y ∈ x :: xs, y ≤ m) → xs.foldl (fun a b => if a < b then b else a) x = m
  | [], x, m, h, _ => by simp at h; exact h.symm
  | y :: xs, x, m, h, k => by
    show xs.foldl _ (if x < y then y else x) = m
    have k1 := k x (by simp)
    have k2 := k y (by simp)
    refine maxL_of xs _ m ?_ fun z hz => ?_
    · simp only [List.mem_cons] at h ⊢
      rcases h with h | h | h
      · left; split <;> omega
      · left; split <;> omega
      · exact .inr h
    · simp only [List.mem_cons] at hz
      rcases hz with hz | hz
      · rw [hz]; split <;> omega
      · exact k z (by simp [hz])
theorem minL_of : ∀ (xs : List Int) (x m : Int), m ∈ x :: xs → (∀ y ∈ x :: xs, m ≤ y) → xs.foldl (fun a b => if b < a then b else a) x = m
  | [], x, m, h, _ => by simp at h; exact h.symm
  | y :: xs, x, m, h, k => by
    show xs.foldl _ (if y < x then y else x) = m
    have k1 := k x (by simp)
    have k2 := k y (by simp)
    refine minL_of xs _ m ?_ fun z hz => ?_
    · simp only [List.mem_cons] at h ⊢
      rcases h with h | h | h
      · left; split <;> omega
      · left; split <;> omega
      · exact .inr h
    · simp only [List.mem_cons] at hz
      rcases hz with hz | hz
      · rw [hz]; split <;> omega
      · exact k z (by simp [hz])
def dMin : List D → R D
  | [.list ds] => match (intsOf ds).bind minL with
    | some m => .ok (.int m)
    | none => .bad
  | [.int i, .int j] => .ok (.int (if j < i then j else i))
  | _ => .bad
def dMax : List D → R D
  | [.list ds] => match (intsOf ds).bind maxL with
    | some m => .ok (.int m)
    | none => .bad
  | [.int i, .int j] => .ok (.int (if j > i then j else i))
  | _ => .bad
theorem cd_min (hc : X.calm = true) : CalD false X (.builtin "min") dMin := ⟨_, (cr_min hc).or (call_min2 hc), fun H0 H xs ds d s va e Q kq => by
  unfold dMin at e
  split at e
  · split at e
    · rename_i m hb
      cases e
      obtain ⟨v, rfl, vx⟩ := va.one'
      obtain ⟨a, ys, rfl, ha, r⟩ := vx.lst s
      obtain ⟨ns, h1, h2⟩ := Option.bind_eq_some_iff.mp hb
      have := intsOf_rp r h1
      subst this
      refine .inl ⟨a, ns, rfl, SqL.of ha, ?_, fun m' h3 h4 => ?_⟩
      · cases ns with
        | nil => cases h2
        | cons x xs => simp
      · cases ns with
        | nil => cases h2
        | cons x xs =>
          have := minL_of xs x m' h3 h4
          have h2' : some _ = some m := h2
          rw [this] at h2'
          cases h2'
          exact kq _ H0 H (Gr.refl s) (.int _)
    · cases e
  · cases e
    obtain ⟨v, w, rfl, vx, vy⟩ := va.two
    exact .inr ⟨_, _, by rw [vx.int, vy.int], kq _ H0 H (Gr.refl s) (.int _)⟩
  · cases e⟩
theorem cd_max (hc : X.calm = true) : CalD false X (.builtin "max") dMax := ⟨_, (cr_max hc).or (call_max2 hc), fun H0 H xs ds d s va e Q kq => by
  unfold dMax at e
  split at e
  · split at e
    · rename_i m hb
      cases e
      obtain ⟨v, rfl, vx⟩ := va.one'
      obtain ⟨a, ys, rfl, ha, r⟩ := vx.lst s
      obtain ⟨ns, h1, h2⟩ := Option.bind_eq_some_iff.mp hb
      have := intsOf_rp r h1
      subst this
      refine .inl ⟨a, ns, rfl, SqL.of ha, ?_, fun m' h3 h4 => ?_⟩
      · cases ns with
        | nil => cases h2
        | cons x xs => simp
      · cases ns with
        | nil => cases h2
        | cons x xs =>
          have := maxL_of xs x m' h3 h4
          have h2' : some _ = some m := h2
          rw [this] at h2'
          cases h2'
          exact kq _ H0 H (Gr.refl s) (.int _)
    · cases e
  · cases e
    obtain ⟨v, w, rfl, vx, vy⟩ := va.two
    exact .inr ⟨_, _, by rw [vx.int, vy.int], kq _ H0 H (Gr.refl s) (.int _)⟩
  · cases e⟩
theorem cm_min : Calm1 dMin := fun ds c h => by
  unfold dMin at h
  repeat' first
    | cases h
    | split at h
theorem cm_max : Calm1 dMax := fun ds c h => by
  unfold dMax at h
  repeat' first
    | cases h
    | split at h
/-! ### tuple(..), list(..), int(..), abs, str -/
def dTupOf : List D → R D
  | [.list ds] => .ok (.tuple ds)
  | [.tuple ds] => .ok (.tuple ds)
  | _ => .bad
theorem cd_tup : CalD false X (.type "tuple") dTupOf := ⟨_, call_tuple_of, fun H0 H xs ds d s va e Q kq => by
  unfold dTupOf at e
  split at e
  · cases e
    obtain ⟨v, rfl, vx⟩ := va.one'
    obtain ⟨a, ys, rfl, ha, r⟩ := vx.lst s
    exact ⟨a, ys, rfl, .inl ⟨SqL.of ha, fun l hl => kq.newT s r hl⟩⟩
  · cases e
    obtain ⟨v, rfl, vx⟩ := va.one'
    obtain ⟨a, ys, rfl, h0, ha, r⟩ := vx.tup s
    exact ⟨a, ys, rfl, .inr ⟨SqT.of ha, kq _ H0 H (Gr.refl s) (.tup h0 r)⟩⟩
  · cases e⟩
theorem cm_tup : Calm1 dTupOf := fun ds c h => by
  unfold dTupOf at h
  repeat' first
    | cases h
    | split at h
def dLstOf : List D → R D
  | [.list ds] => .ok (.list ds)
  | [.tuple ds] => .ok (.list ds)
  | _ => .bad
theorem cd_lst : CalD true X (.type "list") dLstOf := ⟨_, call_list_of, fun H0 H xs ds d s va e Q kq => by
  unfold dLstOf at e
  split at e
  · cases e
    obtain ⟨v, rfl, vx⟩ := va.one'
    obtain ⟨a, ys, rfl, ha, r⟩ := vx.lst s
    exact ⟨a, ys, rfl, .inl (SqL.of ha), fun l hl => kq.newL s r hl⟩
  · cases e
    obtain ⟨v, rfl, vx⟩ := va.one'
    obtain ⟨a, ys, rfl, h0, ha, r⟩ := vx.tup s
    exact ⟨a, ys, rfl, .inr (SqT.of ha), fun l hl => kq.newL s r hl⟩
  · cases e⟩
theorem cm_lst : Calm1 dLstOf := fun ds c h => by
  unfold dLstOf at h
  repeat' first
    | cases h
    | split at h
def dInt : List D → R D
  | [.int i] => .ok (.int i)
  | [.bool b] => .ok (.int (if b then 1 else 0))
  | [.str x] => match PySem.intText? x with
    | some n => if decide (x.length ≤ 640) = true then .ok (.int n) else .bad
    | none => .bad
  | _ => .bad
theorem cd_int : CalD false X (.type "int") dInt := ⟨_, call_int1.or call_int_str, fun H0 H xs ds d s va e Q kq => by
  unfold dInt at e
  split at e
  · cases e
    obtain ⟨v, rfl, vx⟩ := va.one'
    exact .inl (.inl ⟨_, by rw [vx.int], kq _ H0 H (Gr.refl s) (.int _)⟩)
  · cases e
    obtain ⟨v, rfl, vx⟩ := va.one'
    exact .inl (.inr ⟨_, by rw [vx.bl], kq _ H0 H (Gr.refl s) (.int _)⟩)
  · split at e
    · rename_i n hn
      split at e
      · rename_i hl
        cases e
        obtain ⟨v, rfl, vx⟩ := va.one'
        exact .inr ⟨_, n, by rw [vx.str], hn, of_decide_eq_true hl, kq _ H0 H (Gr.refl s) (.int _)⟩
      · cases e
    · cases e
  · cases e⟩
theorem cm_int : Calm1 dInt := fun ds c h => by
  unfold dInt at h
  repeat' first
    | cases h
    | split at h
def dAbs : List D → R D
  | [.int i] => .ok (.int (if i < 0 then -i else i))
  | _ => .bad
theorem cd_abs : CalD false X (.builtin "abs") dAbs := ⟨_, call_abs, fun H0 H xs ds d s va e Q kq => by
  unfold dAbs at e
  split at e
  · cases e
    obtain ⟨v, rfl, vx⟩ := va.one'
    exact ⟨_, by rw [vx.int], kq _ H0 H (Gr.refl s) (.int _)⟩
  · cases e⟩
theorem cm_abs : Calm1 dAbs := fun ds c h => by
  unfold dAbs at h
  repeat' first
    | cases h
    | split at h
def dStr : List D → R D
  | [.int i] => if decide (i.natAbs.log2 < 1920) = true then .ok (.str (toString i)) else .bad
  | _ => .bad
theorem cd_str : CalD false X (.type "str") dStr := ⟨_, call_str_int, fun H0 H xs ds d s va e Q kq => by
  unfold dStr at e
  split at e
  · split at e
    · rename_i h
      cases e
      obtain ⟨v, rfl, vx⟩ := va.one'
      exact ⟨_, by rw [vx.int], of_decide_eq_true h, kq _ H0 H (Gr.refl s) (.str _)⟩
    · cases e
  · cases e⟩
theorem cm_str : Calm1 dStr := fun ds c h => by
  unfold dStr at h
  repeat' first
    | cases h
    | split at h
/-! ### slices -/
def cutL {α : Type} (xs : List α) (lo hi : Option Int) : List α := (xs.drop (HT.sIx xs.length 0 lo)).take (HT.sIx xs.length xs.length hi - HT.sIx xs.length 0 lo)
def dSl (d : D) (lo hi : Option Int) : R D := match d with
  | .list ds => .ok (.list (cutL ds lo hi))
  | .tuple ds => .ok (.tuple (cutL ds lo hi))
  | .str z => if szB z.length = true then .ok (.str (cutS z lo hi)) else .bad
  | _ => .bad
def dSlL (d : D) (lo hi : Option Int) : R D := match d with
  | .list ds => .ok (.list (cutL ds lo hi))
  | _ => .bad
theorem RpA.cut {vs : List V} {ds : List D} (r : RpA K H vs ds) (lo hi : Option Int) : RpA K H (cutV vs lo hi) (cutL ds lo hi) := by
  unfold cutV cutL
  rw [r.length]
  exact (r.drop _).take _
def SlD (k : Bool) (X : Cx) (f : D → Option Int → Option Int → R D) : Prop := ∃ r, SlR X r ∧ ∀ H0 H x dx lo hi d, Ex H0 H → Vx X.K H0 H x dx → f dx lo hi = .ok d → ∀ Q, Kq k X.K H0 H d Q → r x lo hi H Q
theorem sl_any : SlD false X dSl := ⟨_, sl_list.or (sl_tupA.or sl_str), fun H0 H x dx lo hi d s vx e Q kq => by
  unfold dSl at e
  split at e
  · cases e
    obtain ⟨a, ys, rfl, ha, r⟩ := vx.lst s
    exact .inl ⟨a, ys, rfl, SqL.of ha, fun p hp => (Kq.own kq).newL s (r.cut lo hi) hp⟩
  · cases e
    obtain ⟨a, ys, rfl, h0, ha, r⟩ := vx.tup s
    refine .inr (.inl ⟨a, ys, rfl, SqT.of ha, fun z => ?_, fun _ p hp => kq.newT s (r.cut lo hi) hp⟩)
    refine kq _ H0 H (Gr.refl s) (.tup h0 ?_)
    have q := r.cut lo hi
    unfold cutV at q
    rw [z.1, z.2] at q
    simpa using q
  · split at e
    · rename_i hz
      cases e
      exact .inr (.inr ⟨_, vx.str, szB_ok hz, kq _ H0 H (Gr.refl s) (.str _)⟩)
    · cases e
  · cases e⟩
theorem sl_lst : SlD true X dSlL := ⟨_, sl_list, fun H0 H x dx lo hi d s vx e Q kq => by
  unfold dSlL at e
  split at e
  · cases e
    obtain ⟨a, ys, rfl, ha, r⟩ := vx.lst s
    exact ⟨a, ys, rfl, SqL.of ha, fun p hp => kq.newL s (r.cut lo hi) hp⟩
  · cases e⟩
abbrev DO := En → R (Option Int)
def tOi (K : Fr) (mg : Str → Option Value) (W : WX) (m : DO) : TO := fun σ H Q => ∃ B ρ H0, Rl K B ρ σ H0 H ∧ Out (m ρ) (fun i => ∀ H0' H', Gr H0 H H0' H' → Q i H') (fun c => ∀ H', Ex H H' → WC mg W c σ H')
abbrev POd (X : Cx) (W : WX) (e : Option Expr) (m : DO) : Prop := PO X e (tOi X.K X.mg W m)
theorem _root_.L2.PO.wk {X : Cx} {e : Option Expr} {t t' : TO} (h : PO X e t) (k : ∀ σ H Q, t' σ H Q → t σ H Q) : PO X e t' := ⟨fun pins s σ H Q I q => h.run pins s σ H Q I (k σ H Q q)⟩
def oNone : DO := fun _ => .ok none
def oSome (m : DE) : DO := fun ρ => (m ρ).bind fun d => match d with
  | .int i => .ok (some i)
  | _ => .bad
theorem pod_none : POd X W none oNone := po_none.wk fun σ H Q ⟨B, ρ, H0, r, o⟩ => o H0 H (Gr.refl r.s)
theorem pod_some (h : PD X W e m) : POd X W (some e) (oSome m) := (po_some h).wk fun σ H Q ⟨B, ρ, H0, r, o⟩ => by
  refine ⟨B, ρ, H0, r, ?_⟩
  unfold oSome at o
  cases hm : m ρ with
  | bad => rw [hm] at o; exact o
  | er c => rw [hm] at o; exact o
  | ok d =>
    rw [hm, R.bind_ok] at o
    split at o
    · intro v H1 H2 g rp
      cases rp
      exact ⟨_, rfl, o H1 H2 g⟩
    · exact o.elim
def eSl (f : D → Option Int → Option Int → R D) (ma : DE) (ml mh : DO) : DE := fun ρ => (ma ρ).bind fun x => (ml ρ).bind fun lo => (mh ρ).bind fun hi => f x lo hi
theorem pd_sl {k : Bool} {f : D → Option Int → Option Int → R D} {lo hi : Option Expr} {ml mh : DO} {p2 : Pos} (hs : SlD k X f) (cm : ∀ d l h c, f d l h ≠ .er c) (ha : PB X W a ma) (hl : POd X W lo ml) (hh : POd X W hi mh) : PE X (.Subscript a (.Slice lo hi none p2) pos) (tE k X.K X.mg W (eSl f ma ml mh)) := by
  obtain ⟨r, h1, h2⟩ := hs
  refine (pe_slice h1 ha hl hh).wk fun σ H Q ⟨B, ρ, H0, rl, o⟩ => ?_
  refine ⟨B, ρ, H0, rl, ?_⟩
  unfold eSl at o
  cases hm : ma ρ with
  | bad => rw [hm] at o; exact o
  | er c => rw [hm] at o; exact o
  | ok da =>
    rw [hm, R.bind_ok] at o
    intro x H1 H2 g1 vx
    refine ⟨B, ρ, H1, rl.grow g1, ?_⟩
    cases hm2 : ml ρ with
    | bad => rw [hm2] at o; exact o
    | er c => rw [hm2] at o; exact fun H' e => o H' (g1.e.trans e)
    | ok l =>
      rw [hm2, R.bind_ok] at o
      intro H3 H4 g2
      refine ⟨B, ρ, H3, (rl.grow g1).grow g2, ?_⟩
      cases hm3 : mh ρ with
      | bad => rw [hm3] at o; exact o
      | er c => rw [hm3] at o; exact fun H' e => o H' ((g1.trans g2).e.trans e)
      | ok h =>
        rw [hm3, R.bind_ok] at o
        intro H5 H6 g3
        have rl3 := ((rl.grow g1).grow g2).grow g3
        cases hf : f da l h with
        | bad => rw [hf] at o; exact o.elim
        | er c => exact absurd hf (cm _ _ _ _)
        | ok d =>
          rw [hf] at o
          exact h2 H5 H6 x da l h d rl3.s (Vw.vx rl3 (vx.mono (g2.trans g3).e0)) hf Q (Kq.grow o ((g1.trans g2).trans g3))
theorem cm_sl : ∀ d l h c, dSl d l h ≠ .er c := fun d l h c z => by
  unfold dSl at z
  repeat' first
    | cases z
    | split at z
theorem cm_slL : ∀ d l h c, dSlL d l h ≠ .er c := fun d l h c z => by
  unfold dSlL at z
  repeat' first
    | cases z
    | split at z
end
end Fc
set_option Elab.async false
set_option linter.all false
set_option maxRecDepth 100000
set_option maxHeartbeats 2000000
namespace Fc
open PySem L2 Evl PySem.Spec PyProof.Rows
/-- what the head tells -/
def Cc (fa : List He.Fa) (fn : List He.DefD) (K : Fr) (mg : Str → Option Value) : Prop := ∃ h : Heap, K.In h ∧ h.Ns mainGlobals mg ∧ He.SaysD fa fn K
section
variable {fa : List He.Fa} {fn : List He.DefD} {K : Fr} {mg : Str → Option Value}
theorem Cc.glo (c : Cc fa fn K mg) (i : Nat) {x : Str} (h : fa[i]? = some (.glo x) := by rfl) : mg x = some (.ref (He.ga K x)) := by
  obtain ⟨hp, X, G, s⟩ := c
  exact He.glo_ok X G (s.fact i h)
theorem Cc.free (c : Cc fa fn K mg) (i : Nat) {x : Str} (h : fa[i]? = some (.free x) := by rfl) : mg x = none := by
  obtain ⟨hp, X, G, s⟩ := c
  exact He.free_ok X G (s.fact i h)
theorem Cc.int (c : Cc fa fn K mg) (i : Nat) {x : Str} {n : Int} (h : fa[i]? = some (.int x n) := by rfl) : ∃ t, mg x = some (.int n t) := by
  obtain ⟨hp, X, G, s⟩ := c
  exact He.int_ok X G (s.fact i h)
theorem Cc.str (c : Cc fa fn K mg) (i : Nat) {x z : Str} (h : fa[i]? = some (.str x z) := by rfl) : ∃ t, mg x = some (.str z t) := by
  obtain ⟨hp, X, G, s⟩ := c
  exact He.str_ok X G (s.fact i h)
theorem Cc.exc (c : Cc fa fn K mg) (i j : Nat) {x : Str} (h : fa[i]? = some (.exc x) := by rfl) (hj : fa[j]? = some (.glo x) := by rfl) : ExcF K mg x (He.ga K x) := by
  have g := c.glo j hj
  obtain ⟨hp, X, G, s⟩ := c
  obtain ⟨q, k, s1, t⟩ := He.exc_ok (s.fact i h)
  exact ⟨g, ⟨_, _, _, _, PySem.F.excBase_ValueError, q⟩, k, s1, t⟩
theorem Cc.exm (c : Cc fa fn K mg) (i : Nat) {x y : Str} {b : Bool} (h : fa[i]? = some (.exm x y b) := by rfl) : PySem.W.exmOne K (.ref (He.ga K x)) (.ref (He.ga K y)) = some b := by
  obtain ⟨hp, X, G, s⟩ := c
  exact He.exm_ok (s.fact i h)
theorem Cc.def_ (c : Cc fa fn K mg) (i : Nat) {d : He.DefD} (h : fn[i]? = some d := by rfl) : ∃ fd, FunD K d.name d.qual d.params d.body d.scope (d.dvs K) (d.kws K) (He.fAd K d.at_) fd := by
  obtain ⟨hp, X, G, s⟩ := c
  exact s.def_ i h
/-- a def that keeps its promise, as callers take it -/
def OkF (P : Program) (w : World) (K : Fr) (mg : Str → Option Value) (base : Heap) (k : Nat) (x : Str) (ps : List Str) (g : List D → R D) : Prop :=
  ∃ fd, FnD P w K mg base k (He.ga K x) fd ps g ∧ Binds K fd ps [] ∧ mg x = some (.ref (He.ga K x)) ∧ PySem.W.keepIn K (.ref (He.ga K x)) = true
end
section
variable {X : Cx} {W : WX} {e : Expr} {es : List Expr} {pos p : Pos} {k : Nat} {x : Str} {ps : List Str} {g : List D → R D} {ms : DA}
theorem pd_ok (G : OkF X.prog X.w X.K X.mg X.base k x ps g) (tk : Takes X W) (hr : Room k X.A) (hg : Gl X x) (hlen : ∀ ρ ds, ms ρ = .ok ds → ds.length = ps.length) (ha : PAf X W (e :: es) ms) (hdb : (x == ("__debug__" : Str)) = false := by decide)
    (he : starEach (e :: es) X.env = (false, eval e X.env) :: starEach es X.env := by rfl) (hpl : (backTo pos (starEach es X.env)).any (·.1) = false := by rfl) : PD X W (.Call (.Name x p) (e :: es) [] pos) (eDef g ms) := by
  obtain ⟨fd, F, b, m, kp⟩ := G
  exact pd_def F tk hr hg m kp b hlen ha hdb he hpl
theorem pd_ok0 (G : OkF X.prog X.w X.K X.mg X.base k x [] g) (tk : Takes X W) (hr : Room k X.A) (hg : Gl X x) (hdb : (x == ("__debug__" : Str)) = false := by decide) : PD X W (.Call (.Name x p) [] [] pos) (eDef g aNil) := by
  obtain ⟨fd, F, b, m, kp⟩ := G
  exact pd_def0 F tk hr hg m kp b rfl hdb
end
end Fc
set_option Elab.async false
set_option linter.all false
set_option maxRecDepth 100000
set_option maxHeartbeats 2000000
namespace Fc
open PySem L2 Evl PySem.Spec PyProof.Rows
/-! ### enumerate(tuple) -/
theorem meets_enum1 {v : Value} {o : Obj} {H : Heap → Prop} (B : Begins v o H) :
    Meets (Builtin.«enumerate.__new__» ⟨[.type "enumerate", v], []⟩) (fun _ R s => H s.heap ∧
      R (.ok (.ret (.ref (s.heap.push o).objs.size))) { s with heap := (s.heap.push o).push { cls := .type "enumerate", data := .fields #[.none, .bool false, .ref s.heap.objs.size, rawInt 0, .none, .none] } }) :=
  .of_wp fun prog w A R s h => by
    obtain ⟨hp, g, d, tk, os⟩ := s
    obtain ⟨h1, h⟩ := h
    have hsub := sub_enumerate
    have q1 : ∀ {A' : Around} {E : Value → Shared → Prop} {Q : Value → Shared → Prop}, Q (.ref hp.objs.size) ⟨hp.push o, g, d, tk, os⟩ → wpAny (model prog w) A' (pyIter v) Q E ⟨hp, g, d, tk, os⟩ :=
      fun q => B.iter prog w _ _ ⟨hp, g, d, tk, os⟩ _ h1 q
    wp_walk using q1
    refine wpAny_stack_any fun st => wpAny_pure ?_
    split
    · rename_i c _ _ _ _ _
      cases (c == Value.type "enumerate")
      · wp_walk using q1
        exact ⟨_, rfl, h⟩
      · wp_walk using q1
        exact ⟨_, rfl, h⟩
    · wp_walk using q1
      exact ⟨_, rfl, h⟩
section
variable {prog : Program} {w : World} {A : Around} {E : Value → Shared → Prop} {s : Shared}
theorem call_enumT {l : Addr} {items : Array Value} {Q : Value → Shared → Prop} (hL : s.heap.IsTuple l items)
    (h : ∀ h', IsEnum h' (s.heap.objs.size + 1) s.heap.objs.size 0 .none → h'.IsTupleIter s.heap.objs.size l 0 → h'.objs.size = s.heap.objs.size + 2 →
      (∀ b o, s.heap.get? b = some o → h'.get? b = some o) → Q (.ref (s.heap.objs.size + 1)) { s with heap := h' }) :
    wpAny (model prog w) A (call (.type "enumerate") [.ref l]) Q E s := by
  refine callType_new F.called_enumerate (by decide) (F.typeCall_enumerate_1 _) (F.newCall_enumerate_1 _) (fun obj => F.args_object_init_2 obj _) F.entry_enumerate_new
    (meets_enum1 (begins_tuple l items)) ⟨hL, ?_⟩
  have hz : (s.heap.push { cls := .type "tuple_iterator", data := .fields #[.ref l, .int 0 0] }).objs.size = s.heap.objs.size + 1 := Heap.size_push ..
  show _ ∧ _
  rw [hz]
  have he : IsEnum ((s.heap.push { cls := .type "tuple_iterator", data := .fields #[.ref l, .int 0 0] }).push
      { cls := .type "enumerate", data := .fields #[.none, .bool false, .ref s.heap.objs.size, rawInt 0, .none, .none] }) (s.heap.objs.size + 1) s.heap.objs.size 0 .none := by
    have := Heap.get?_push_size (s.heap.push { cls := .type "tuple_iterator", data := .fields #[.ref l, .int 0 0] })
      (o := { cls := .type "enumerate", data := .fields #[.none, .bool false, .ref s.heap.objs.size, rawInt 0, .none, .none] }) rfl
    rw [hz] at this
    exact this
  exact ⟨⟨_, he, rfl⟩, h _ he ⟨_, Heap.get?_push_of_some _ (Heap.get?_push_size _ rfl), rfl, rfl⟩ (by rw [Heap.size_push, hz]) fun b o x => Heap.get?_push_of_some _ (Heap.get?_push_of_some _ x)⟩
end
def IteT (K : Fr) (a : Addr) : It :=
  ⟨fun i H => ∃ (xs : List V) (x : V), SqT K H a xs ∧ xs[i]? = some x, fun i H v H' => ∃ T x, v = .ref T ∧ H T = none ∧ H' = upd H T (.tup [.int (i : Nat), x]) ∧ ∀ xs, SqT K H a xs → xs[i]? = some x, fun i H => ∃ xs : List V, SqT K H a xs ∧ xs.length ≤ i⟩
theorem turn_enumT {P : Program} {w : World} {K : Fr} {elts : List Expr} {kk : Nat} {tpos : Pos} (a e it : Addr) (hae : a ≠ e) (hai : a ≠ it) :
    Turn P w K (.Tuple elts kk tpos) (IteT K a) [e, it] e (fun i h => (∃ old, IsEnum h e it ((i : Nat) : Int) old) ∧ h.IsTupleIter it a i ∧ e ≠ it) where
  mem := by simp
  obj := fun i h st b hb => by
    obtain ⟨⟨old, he⟩, ⟨o, ho, hc, hd⟩, _⟩ := st
    have e' : b = e ∨ b = it := by simpa using hb
    rcases e' with z | z
    · rw [z]; exact ⟨_, he, fun v q => nomatch q⟩
    · rw [z]; exact ⟨o, ho, fun v q => by rw [hd] at q; cases q⟩
  keep := fun i h h' st k => let ⟨⟨old, he⟩, hi, hne⟩ := st; ⟨⟨old, k e (by simp) _ he⟩, hi.at fun o q => k it (by simp) o q, hne⟩
  item := by
    intro X hP hw hK hc i pins s σ H E I hf st hg
    subst hP hw hK
    obtain ⟨⟨old, he⟩, hit, hne⟩ := st
    obtain ⟨xs, x, hq, hx⟩ := hg
    obtain ⟨its, rv, p, hz⟩ := I.tuple hq
    obtain ⟨u, hu, ru⟩ := rv.get hx
    have hel : e < s.heap.objs.size := Heap.lt_size he
    have hil : it < s.heap.objs.size := by obtain ⟨_, q, _⟩ := hit; exact Heap.lt_size q
    have hi : i < its.toArray.size := by
      have := (List.getElem?_eq_some_iff.mp hu).1
      simpa using this
    have hef : e ∉ [it, a] := by simp [hne, Ne.symm hae]
    have hd : X.A.in1.handled = none := I.ok.hd hc
    refine wpAny_pyNext_enum_itemD (Draws.tuple (prog := X.prog) (w := X.w) (A := X.A.in1) hd it a hai its.toArray) he ⟨hit, p⟩ hi hne hef fun v h' tk hv ho hst hT hsz hk => ?_
    have hv : its.toArray[i]? = some v := hv
    have hvu : v = u := by
      have h1 : its[i]? = some v := by simpa using hv
      rw [h1] at hu
      exact Option.some.inj hu
    subst hvu
    refine ⟨_, rfl, wpAny_letOwnedTupleGo_enum (s := { s with heap := h', toks := tk + 1 }) ho fun h'' he' sb => ?_⟩
    have hT2 : h''.get? s.heap.objs.size = some { cls := .type "tuple", data := .seq #[.int i tk, v] } := (sb.2 _ (Nat.ne_of_gt hel)).trans hT
    have new : ObjOk X.prog X.w (upd H s.heap.objs.size (.tup [.int (i : Nat), x])) h'' s.heap.objs.size (.tup [.int (i : Nat), x]) :=
      ⟨by show 2 ≤ sizeLine; decide, [.int i tk, v], .cons ⟨_, rfl⟩ (.cons ru .nil), ⟨_, hT2, rfl, _, rfl⟩⟩
    have I1 : Inv X pins σ (upd H s.heap.objs.size (.tup [.int (i : Nat), x])) { s with heap := h'', toks := tk + 1 } :=
      I.turnedNew (ch := [e, it]) (fun b ob hb q => (sb.2 b (fun z => hb (by simp [z]))).trans (hk b ob (fun z => hb (by simp [z])) (fun z => hb (by simp [z])) q)) hf (Nat.le_refl _) new
    refine ⟨.ref s.heap.objs.size, _, I1, rfl, ⟨_, x, rfl, I.hok.fresh (Nat.le_refl _), rfl, fun ys hy => by rw [I.tuple_inj hy hq]; exact hx⟩, ⟨⟨v, ?_⟩, hst.1.at fun o q => (sb.2 it (Ne.symm hne)).trans q, hne⟩, fun b hb => ?_⟩
    · have e1 : ((i + 1 : Nat) : Int) = (i : Int) + 1 := by omega
      rw [e1]; exact he'
    · have hb' : b < s.heap.objs.size := by
        have e' : b = e ∨ b = it := by simpa using hb
        rcases e' with z | z
        · rw [z]; exact hel
        · rw [z]; exact hil
      rw [upd_ne (Nat.ne_of_lt hb')]
      exact (hf b hb).1
  done := by
    intro X hP hw hK hc i pins s σ H E I hf st hg
    subst hP hw hK
    obtain ⟨⟨old, he⟩, hit, hne⟩ := st
    obtain ⟨xs, hq, hx⟩ := hg
    obtain ⟨its, rv, p, hz⟩ := I.tuple hq
    obtain ⟨f0, f1, f2, f3, f4, f5⟩ := hf it (by simp)
    have hl := rv.length
    have hT : s.TypeIs (.ref e) "enumerate" := ⟨_, he, rfl⟩
    unfold pyNext
    refine wpAny_bind (wpAny_attempt (wpAny_callSpecial?_slot (name := Str.ofString "__next__") hT F.slot_enumerate_next
      (wpAny_call_entry F.slot_enumerate_next hT F.entry_enumerate_next ?_ (F.args_enumerate_next_1 _))))
    show wpAny _ _ (field (.ref e) 2 >>= _) _ _ _
    refine wpAny_bind (wpAny_field he rfl (x := .ref it) rfl ?_)
    refine wpAny_bind (wpAny_nextOf_tuple_end (items := its.toArray) (i := i) (I.ok.hd hc) hit p (by simp; omega) fun h' x he' hx' => ?_)
    obtain ⟨o, ho, hc'⟩ := hx'
    refine wpAny_bind (wpAny_isInstance (T := "StopIteration") (b := true) ⟨o, ho, hc'⟩ isSubtype_stop ?_)
    exact wpAny_pure ⟨rfl, I.turned (t' := s.toks) (fun b o hb q => he' b o hb q) f0 f1 f3 f4 f5⟩
  self := fun A i s Q E st h => let ⟨⟨_, he⟩, _⟩ := st; wpAny_pyIter_enum he h
def iEnumT (K : Fr) (ta : TA) : TI := fun σ H R => ta σ H fun vs H1 => ∃ a xs, vs = [.ref a] ∧ SqT K H1 a xs ∧ R (IteT K a) H1
theorem pi_enumT {X : Cx} {e : Expr} {ta : TA} {p pos tpos : Pos} {elts : List Expr} {kk : Nat} (hg : Gl X "enumerate") (hm : X.mg "enumerate" = none) (ha : PA X [e] ta) (hs : starEach [e] X.env = [(false, eval e X.env)] := by rfl) :
    PI X (.Tuple elts kk tpos) (.Call (.Name "enumerate" p) [e] [] pos) (iEnumT X.K ta) := by
  refine ⟨fun pins s σ H R I h => ?_⟩
  refine Call_ (ld_blt I hg hm boot_enumerate (PyProof.Rows.callWith_type1 (thn (ha.run pos pins s σ H _ I h) fun us s1 ⟨vs, H1, I1, r1, q1⟩ => ?_) hs rfl))
  obtain ⟨a, xs, ex, hq, q⟩ := q1
  subst ex
  cases r1 with
  | cons r rr =>
    cases rr
    cases r
    obtain ⟨its, rv, p', hz⟩ := I1.tuple hq
    have hla : a < s1.heap.objs.size := by obtain ⟨o, ho, _⟩ := id p'; exact Heap.lt_size ho
    refine call_enumT (show s1.heap.IsTuple a its.toArray from p') fun h' he hit hsz hk => wpAny_pyIter_enum he ?_
    have I2 : Inv X pins σ H1 { s1 with heap := h' } := I1.kept (t' := s1.toks) hk
    refine ⟨s1.heap.objs.size + 1, [s1.heap.objs.size + 1, s1.heap.objs.size], _, _, H1, rfl, I2, turn_enumT a (s1.heap.objs.size + 1) s1.heap.objs.size (Nat.ne_of_lt (Nat.lt_succ_of_lt hla)) (Nat.ne_of_lt hla), ⟨⟨.none, he⟩, hit, Nat.succ_ne_self _⟩, fun b hb => ?_, q⟩
    have e' : b = s1.heap.objs.size + 1 ∨ b = s1.heap.objs.size := by simpa using hb
    have hle : s1.heap.objs.size ≤ b := by
      rcases e' with z | z
      · rw [z]; exact Nat.le_add_right _ _
      · rw [z]; exact Nat.le_refl _
    exact I1.fpOk hle (I1.hok.fresh hle)
/-! ### the iterators as data -/
section
variable {X : Cx} {W : WX} {e a b c o tg it elt : Expr} {es : List Expr} {m ma mb mc mt : DE} {pos : Pos}
variable {K : Fr} {mg : Str → Option Value} {B : Bs} {ρ : En} {σ : L2.St} {H0 H : Hp}
def enumD (i : Nat) : List D → List D
  | [] => []
  | d :: ds => .tuple [.int (i : Nat), d] :: enumD (i + 1) ds
theorem enumD_length : ∀ (ds : List D) (i : Nat), (enumD i ds).length = ds.length
  | [], _ => rfl
  | _ :: ds, i => congrArg (· + 1) (enumD_length ds (i + 1))
theorem enumD_get : ∀ (ds : List D) (i j : Nat) {d : D}, (enumD i ds)[j]? = some d → ∃ x, ds[j]? = some x ∧ d = .tuple [.int ((i + j : Nat) : Int), x]
  | [], _, _, _, h => by simp [enumD] at h
  | d :: ds, i, 0, _, h => by simp [enumD] at h; exact ⟨d, rfl, h.symm⟩
  | d :: ds, i, j + 1, _, h => by
    obtain ⟨x, h1, h2⟩ := enumD_get ds (i + 1) j (by simpa [enumD] using h)
    refine ⟨x, by simpa using h1, ?_⟩
    rw [h2, show i + 1 + j = i + (j + 1) by omega]
theorem itok_enum {a : Addr} {xs : List V} {ds : List D} (h : H0 a = some (.lst xs)) (rs : RpA K H0 xs ds) : ItOk K (Ite K a) H0 (enumD 0 ds) := fun i => ⟨fun H e hi => ⟨xs, SqL.of (e _ _ h), by rw [rs.length]; rw [enumD_length] at hi; exact hi⟩, fun H d e hd => by
  obtain ⟨x, h1, h2⟩ := enumD_get ds 0 i hd
  obtain ⟨v, h3, h4⟩ := rs.getD h1
  refine ⟨⟨xs, v, SqL.of (e _ _ h), h3⟩, fun x' H' y => .inr ?_⟩
  obtain ⟨T, x2, y1, y2, y3, y4⟩ := y
  have := y4 xs (SqL.of (e _ _ h))
  rw [h3] at this
  cases this
  rw [Nat.zero_add] at h2
  exact ⟨T, _, _, y2, y3, y1, h2, .cons (.int _) (.cons h4 .nil)⟩⟩
theorem itok_enumT {a : Addr} {xs : List V} {ds : List D} (h : H0 a = some (.tup xs)) (rs : RpA K H0 xs ds) : ItOk K (IteT K a) H0 (enumD 0 ds) := fun i => ⟨fun H e hi => ⟨xs, SqT.of (e _ _ h), by rw [rs.length]; rw [enumD_length] at hi; exact hi⟩, fun H d e hd => by
  obtain ⟨x, h1, h2⟩ := enumD_get ds 0 i hd
  obtain ⟨v, h3, h4⟩ := rs.getD h1
  refine ⟨⟨xs, v, SqT.of (e _ _ h), h3⟩, fun x' H' y => .inr ?_⟩
  obtain ⟨T, x2, y1, y2, y3, y4⟩ := y
  have := y4 xs (SqT.of (e _ _ h))
  rw [h3] at this
  cases this
  rw [Nat.zero_add] at h2
  exact ⟨T, _, _, y2, y3, y1, h2, .cons (.int _) (.cons h4 .nil)⟩⟩
def dEnum : List D → R (List D)
  | [.list ds] => .ok (enumD 0 ds)
  | [.tuple ds] => .ok (enumD 0 ds)
  | _ => .bad
theorem id_enum {ms : DA} {p tpos : Pos} {elts : List Expr} {kk : Nat} (hg : Gl X "enumerate") (hm : X.mg "enumerate" = none) (ha : PAf X W [a] ms) (hs : starEach [a] X.env = [(false, eval a X.env)] := by rfl) :
    ID X W (.Tuple elts kk tpos) (.Call (.Name "enumerate" p) [a] [] pos) (iArgs dEnum ms) := ((pi_enum hg hm ha hs).or (pi_enumT hg hm ha hs)).wk fun σ H Rc ⟨B, ρ, H0, r, o⟩ => by
  unfold iArgs at o
  cases h : ms ρ with
  | bad => rw [h] at o; exact o.elim
  | er c => rw [h] at o; exact .inl ⟨B, ρ, H0, r, by rw [h]; exact o⟩
  | ok ds =>
    rw [h, R.bind_ok] at o
    unfold dEnum at o
    split at o
    · refine .inl ⟨B, ρ, H0, r, ?_⟩
      rw [h]
      intro vs H1 H2 g va
      cases va with
      | cons rp t =>
        cases t
        cases rp with
        | lst h1 h2 => exact ⟨_, _, rfl, SqL.of (g.s _ _ h1), o _ H1 H2 g (itok_enum h1 h2)⟩
    · refine .inr ⟨B, ρ, H0, r, ?_⟩
      rw [h]
      intro vs H1 H2 g va
      cases va with
      | cons rp t =>
        cases t
        cases rp with
        | tup h1 h2 => exact ⟨_, _, rfl, SqT.of (g.s _ _ h1), o _ H1 H2 g (itok_enumT h1 h2)⟩
    · exact o.elim
def zipD : List D → List D → List D
  | x :: xs, y :: ys => .tuple [x, y] :: zipD xs ys
  | _, _ => []
theorem zipD_get : ∀ (xs ys : List D) (j : Nat) {d : D}, (zipD xs ys)[j]? = some d → ∃ x y, xs[j]? = some x ∧ ys[j]? = some y ∧ d = .tuple [x, y]
  | [], _, _, _, h => by simp [zipD] at h
  | _ :: _, [], _, _, h => by simp [zipD] at h
  | x :: xs, y :: ys, 0, _, h => by simp [zipD] at h; exact ⟨x, y, rfl, rfl, h.symm⟩
  | x :: xs, y :: ys, j + 1, _, h => by
    obtain ⟨a, b, h1, h2, h3⟩ := zipD_get xs ys j (by simpa [zipD] using h)
    exact ⟨a, b, by simpa using h1, by simpa using h2, h3⟩
theorem zipD_end : ∀ (xs ys : List D) (j : Nat), (zipD xs ys).length ≤ j → xs.length ≤ j ∨ ys.length ≤ j
  | [], _, _, _ => .inl (Nat.zero_le _)
  | _ :: _, [], _, _ => .inr (Nat.zero_le _)
  | x :: xs, y :: ys, 0, h => by simp [zipD] at h
  | x :: xs, y :: ys, j + 1, h => by
    rcases zipD_end xs ys j (by simpa [zipD] using h) with q | q
    · exact .inl (by simpa using q)
    · exact .inr (by simpa using q)
theorem itok_zip {a b : Addr} {xs ys : List V} {ds fs : List D} (h : H0 a = some (.lst xs)) (rs : RpA K H0 xs ds) (h' : H0 b = some (.lst ys)) (rs' : RpA K H0 ys fs) : ItOk K (Itz K a b) H0 (zipD ds fs) := fun i => ⟨fun H e hi => ⟨xs, ys, SqL.of (e _ _ h), SqL.of (e _ _ h'), by rw [rs.length, rs'.length]; exact zipD_end _ _ _ hi⟩, fun H d e hd => by
  obtain ⟨x, y, h1, h2, h3⟩ := zipD_get ds fs i hd
  obtain ⟨v, h4, h5⟩ := rs.getD h1
  obtain ⟨w, h6, h7⟩ := rs'.getD h2
  refine ⟨⟨xs, ys, v, w, SqL.of (e _ _ h), SqL.of (e _ _ h'), h4, h6⟩, fun x' H' q => .inr ?_⟩
  obtain ⟨T, x2, y2, q1, q2, q3, q4, q5⟩ := q
  have e1 := q4 xs (SqL.of (e _ _ h))
  have e2 := q5 ys (SqL.of (e _ _ h'))
  rw [h4] at e1
  rw [h6] at e2
  cases e1
  cases e2
  exact ⟨T, _, _, q2, q3, q1, h3, .cons h5 (.cons h7 .nil)⟩⟩
theorem itok_zipT {a b : Addr} {xs ys : List V} {ds fs : List D} (h : H0 a = some (.tup xs)) (rs : RpA K H0 xs ds) (h' : H0 b = some (.tup ys)) (rs' : RpA K H0 ys fs) : ItOk K (RZ.ItzT K a b) H0 (zipD ds fs) := fun i => ⟨fun H e hi => ⟨xs, ys, SqT.of (e _ _ h), SqT.of (e _ _ h'), by rw [rs.length, rs'.length]; exact zipD_end _ _ _ hi⟩, fun H d e hd => by
  obtain ⟨x, y, h1, h2, h3⟩ := zipD_get ds fs i hd
  obtain ⟨v, h4, h5⟩ := rs.getD h1
  obtain ⟨w, h6, h7⟩ := rs'.getD h2
  refine ⟨⟨xs, ys, v, w, SqT.of (e _ _ h), SqT.of (e _ _ h'), h4, h6⟩, fun x' H' q => .inr ?_⟩
  obtain ⟨T, x2, y2, q1, q2, q3, q4, q5⟩ := q
  have e1 := q4 xs (SqT.of (e _ _ h))
  have e2 := q5 ys (SqT.of (e _ _ h'))
  rw [h4] at e1
  rw [h6] at e2
  cases e1
  cases e2
  exact ⟨T, _, _, q2, q3, q1, h3, .cons h5 (.cons h7 .nil)⟩⟩
def dZip : List D → R (List D)
  | [.list ds, .list es] => .ok (zipD ds es)
  | [.tuple ds, .tuple es] => .ok (zipD ds es)
  | _ => .bad
theorem id_zip {ms : DA} {p tpos : Pos} {elts : List Expr} {kk : Nat} (hg : Gl X "zip") (hm : X.mg "zip" = none) (ha : PAf X W [a, b] ms)
    (hs : starEach [a, b] X.env = (false, eval a X.env) :: starEach [b] X.env := by rfl) (hpl : (backTo pos (starEach [b] X.env)).any (·.1) = false := by rfl) :
    ID X W (.Tuple elts kk tpos) (.Call (.Name "zip" p) [a, b] [] pos) (iArgs dZip ms) := (RZ.pi_zipA hg hm ha hs hpl).wk fun σ H Rc ⟨B, ρ, H0, r, o⟩ => by
  unfold iArgs at o
  refine ⟨B, ρ, H0, r, ?_⟩
  cases h : ms ρ with
  | bad => rw [h] at o; exact o.elim
  | er c => rw [h] at o; exact o
  | ok ds =>
    rw [h, R.bind_ok] at o
    intro vs H1 H2 g va
    unfold dZip at o
    split at o
    · cases va with
      | cons rp t =>
        cases t with
        | cons rp' t =>
          cases t
          cases rp with
          | lst h1 h2 =>
            cases rp' with
            | lst h3 h4 => exact ⟨_, _, _, _, rfl, .inl ⟨SqL.of (g.s _ _ h1), SqL.of (g.s _ _ h3), o _ H1 H2 g (itok_zip h1 h2 h3 h4)⟩⟩
    · cases va with
      | cons rp t =>
        cases t with
        | cons rp' t =>
          cases t
          cases rp with
          | tup h1 h2 =>
            cases rp' with
            | tup h3 h4 => exact ⟨_, _, _, _, rfl, .inr ⟨SqT.of (g.s _ _ h1), SqT.of (g.s _ _ h3), o _ H1 H2 g (itok_zipT h1 h2 h3 h4)⟩⟩
    · exact o.elim
end
end Fc
set_option Elab.async false
set_option linter.all false
set_option maxRecDepth 100000
set_option maxHeartbeats 2000000
namespace Fc
open PySem L2 Evl PySem.Spec PyProof.Rows HT
/-! ### t[::-1] -/
theorem rev_adjust (n : Nat) : Builtin.Slice.sliceAdjust none none (-1) (n : Int) = ((n : Int) - 1, -1) := by
  unfold Builtin.Slice.sliceAdjust
  rfl
theorem rev_places (n : Nat) : Builtin.Slice.slicePlaces ((n : Int) - 1) (-1) (-1) = n := by
  unfold Builtin.Slice.slicePlaces
  rw [if_neg (by decide)]
  by_cases h : (n : Int) - 1 > -1
  · rw [if_pos h, show (-(-1 : Int)) = 1 by decide, Int.ediv_one]
    omega
  · rw [if_neg h]
    show (0 : Nat) = n
    omega
theorem rev_pick (xs : Array Value) : ((List.range xs.size).filterMap fun (m : Nat) => xs[(((xs.size : Int) - 1) + (m : Int) * (-1)).toNat]?).toArray = xs.toList.reverse.toArray := by
  have e : (List.range xs.size).filterMap (fun (m : Nat) => xs[(((xs.size : Int) - 1) + (m : Int) * (-1)).toNat]?) = ((List.range xs.size).map fun k => xs.size - 1 - k).filterMap (xs[·]?) := by
    rw [List.filterMap_map]
    have ext : ∀ (l : List Nat), (∀ m ∈ l, m < xs.size) → l.filterMap (fun (m : Nat) => xs[(((xs.size : Int) - 1) + (m : Int) * (-1)).toNat]?) = l.filterMap ((xs[·]?) ∘ fun k => xs.size - 1 - k) := by
      intro l
      induction l with
      | nil => intro _; rfl
      | cons a l ih =>
        intro h
        have hm := h a (by simp)
        have e2 : (((xs.size : Int) - 1) + (a : Int) * (-1)).toNat = xs.size - 1 - a := by omega
        rw [List.filterMap_cons, List.filterMap_cons, ih fun m hm => h m (List.mem_cons_of_mem _ hm), e2] <;> rfl
    exact ext _ fun m hm => List.mem_range.mp hm
  rw [e, PySem.W.krv_range, List.filterMap_reverse, PySem.W.krv_all]
section
variable {prog : Program} {w : World} {A : Around} {E : Value → Shared → Prop} {s : Shared}
theorem getItem_tuple_rev {t sl : Addr} {items : Array Value} {vl vu vs : Value} {Q : Value → Shared → Prop} (ht : IsTup s.heap t items) (hs : s.heap.IsSliceOf sl vl vu vs) (pl : IsPart vl none) (pu : IsPart vu none) (ps : IsPart vs (some (-1)))
    (h : Q (.ref s.heap.objs.size) { s with heap := s.heap.push { cls := .type "tuple", data := .seq items.toList.reverse.toArray } })
    (hsz : items.size ≤ sizeLine) : wpAny (model prog w) A (getItem (.ref t) (.ref sl)) Q E s := by
  have htake : sizeOk (.seq items.toList.reverse.toArray) := by
    show items.toList.reverse.toArray.size ≤ sizeLine
    rw [List.size_toArray, List.length_reverse, Array.length_toList]
    omega
  obtain ⟨os, hos, hcs, hds⟩ := id hs
  have hTs : s.TypeIs (.ref sl) "slice" := ⟨os, hos, hcs⟩
  unfold getItem
  try with_reducible refine wpAny_holding ?_
  first | refine wpAny_bind (wpAny_pure ?_) | skip
  refine wpAny_bind (wpAny_sequenceKey ht.typeIs (by decide) ?_)
  refine wpAny_bind (wpAny_callSpecial?_slot (name := Str.ofString "__getitem__") ht.typeIs PyProof.Rows.slot_tuple_getitem
    (wpAny_call_entry PyProof.Rows.slot_tuple_getitem ht.typeIs entry_tuple_getitem ?_ (args_tuple_getitem _ _)))
  show wpAny _ _ (Builtin.Tuple.tupleItemsOf (.ref t) >>= _) _ _ s
  refine wpAny_bind (tupleItemsOf_ ht ?_)
  refine wpAny_bind (wpAny_typeOf hTs ?_)
  rw [if_pos (by decide)]
  refine wpAny_bind ?_
  unfold Builtin.Slice.sliceApplied Builtin.Slice.sliceFields
  refine wpAny_bind (wpAny_bind (wpAny_field hos hds (x := vl) rfl (wpAny_bind (wpAny_field hos hds (x := vu) rfl (wpAny_bind (wpAny_field hos hds (x := vs) rfl (wpAny_pure ?_)))))))
  refine wpAny_bind (slicePart_ ps ?_)
  show wpAny _ _ (if ((-1 : Int) == 0) = true then _ else _) _ _ s
  rw [if_neg (by decide)]
  refine wpAny_bind (slicePart_ pl (wpAny_bind (slicePart_ pu (wpAny_bind (wpAny_pure ?_)))))
  show wpAny _ _ (match Builtin.Slice.sliceAdjust none none (-1) (items.size : Int) with | (lo, hi) => pure (lo, (-1 : Int), Builtin.Slice.slicePlaces lo hi (-1))) _ _ s
  rw [rev_adjust]
  show wpAny _ _ (pure (((items.size : Int) - 1), (-1 : Int), Builtin.Slice.slicePlaces ((items.size : Int) - 1) (-1) (-1))) _ _ s
  rw [rev_places]
  refine wpAny_pure ?_
  have hno : ¬ ((((items.size : Int) - 1) == 0 && (-1 : Int) == 1 && items.size == items.size) = true) := by
    intro q
    rw [Bool.and_eq_true, Bool.and_eq_true] at q
    have := eq_of_beq q.1.2
    omega
  show wpAny _ _ (if (((items.size : Int) - 1) == 0 && (-1 : Int) == 1 && items.size == items.size) = true then _ else _) _ _ s
  rw [if_neg hno, rev_pick]
  first
    | exact wpAny_bind (m := Builtin.Tuple.tupleExact _) (wpAny_newObj_type (wpAny_pure ⟨_, rfl, wpAny_pure h⟩) htake)
    | exact wpAny_bind (m := Builtin.Tuple.tupleExact _) (wpAny_newObj_type (wpAny_bind (wpAny_pure (wpAny_pure ⟨_, rfl, wpAny_pure h⟩))) htake)
    | exact wpAny_bind (wpAny_bind (m := Builtin.Tuple.tupleExact _) (wpAny_newObj_type (wpAny_pure (wpAny_pure ⟨_, rfl, wpAny_pure h⟩)) htake))
    | exact wpAny_bind (wpAny_bind (m := Builtin.Tuple.tupleExact _) (wpAny_newObj_type (wpAny_pure ⟨_, rfl, wpAny_pure h⟩) htake))
end
def tRevT (K : Fr) (te : TE) : TE := fun σ H Q => te σ H fun x H1 => ∃ a xs, x = .ref a ∧ SqT K H1 a xs ∧ ∀ p, H1 p = none → Q (.ref p) (upd H1 p (.tup xs.reverse))
theorem pe_revT {X : Cx} {e : Expr} {te : TE} {k : Nat} {p1 p2 p3 pos : Pos} (he : PE X e te) : PE X (.Subscript e (.Slice none none (some (.UnaryOp .USub (.Constant (.int 1) k p1) p2)) p3) pos) (tRevT X.K te) := by
  refine ⟨fun pins s σ H Q I h => ?_⟩
  refine Subscript_ (thn (he.run pins s σ H _ I h) fun v s1 ⟨x, H1, I1, r1, q1⟩ => ?_)
  obtain ⟨a, xs, ex, hx, q⟩ := q1
  subst ex
  cases r1
  have hst : PO X (some (.UnaryOp .USub (.Constant (.int 1) k p1) p2)) (tPart (tUn (rU fun i => .int (-i)) (tC (.int 1)))) := po_some (pe_un un_neg pe_int)
  refine wpAny_Slice (thn (po_none.run pins s1 σ H1 (fun o H2 => o = none ∧ H2 = H1) I1 ⟨rfl, rfl⟩) fun vl s2 ⟨l, H2, I2, pl, el, e2⟩ => ?_)
  subst el e2
  refine thn (po_none.run pins s2 σ H2 (fun o H3 => o = none ∧ H3 = H2) I2 ⟨rfl, rfl⟩) fun vu s3 ⟨u, H3, I3, pu, eu, e3⟩ => ?_
  subst eu e3
  refine thn (hst.run pins s3 σ H3 (fun o H4 => o = some (-1) ∧ H4 = H3) I3 ⟨1, rfl, -1, rfl, rfl, rfl⟩) fun vs s4 ⟨o, H4, I4, ps, eo, e4⟩ => ?_
  subst eo e4
  have I5 : Inv X pins σ H4 { s4 with heap := s4.heap.push { cls := .type "slice", data := .fields #[vl, vu, vs] } } := I4.kept (t' := s4.toks) fun b ob q => Heap.get?_push_of_some _ q
  obtain ⟨its, r, ht, hz⟩ := I5.tuple hx
  have hlen := r.length
  show wpAny (model X.prog X.w) X.A (subscriptTail e (.Slice none none (some (.UnaryOp .USub (.Constant (.int 1) k p1) p2)) p3) (.ref a) (.ref s4.heap.objs.size)) (EP X pins σ Q) X.xe { s4 with heap := s4.heap.push { cls := .type "slice", data := .fields #[vl, vu, vs] } }
  refine tail_any (ops := [.ref a, .ref s4.heap.objs.size]) (show IsTup _ a its.toArray from ht).typeIs (PyProof.Rows.slot_tuple_getitem.lookup) ?_ (by with_unfolding_all rfl)
  refine getItem_tuple_rev (show IsTup _ a its.toArray from ht) (Heap.IsSliceOf.new _ vl vu vs) pl pu ps ?_ (by rw [List.size_toArray]; omega)
  refine ⟨.ref _, _, I5.laid (t' := s4.toks) (o := .tup xs.reverse) (fun b ob q => Heap.get?_push_of_some _ q) (Nat.le_refl _) ?_, rfl, q _ (I5.hok.fresh (Nat.le_refl _))⟩
  exact ⟨by rw [List.length_reverse]; exact hz, _, r.reverse, IsTup.new _ _⟩
section
variable {X : Cx} {W : WX} {e a b c o tg it elt : Expr} {es : List Expr} {m ma mb mc mt : DE} {pos p1 p2 p3 p q : Pos}
variable {K : Fr} {mg : Str → Option Value} {B : Bs} {ρ : En} {σ : L2.St} {H0 H : Hp}
def dRevT : D → R D
  | .tuple ds => .ok (.tuple ds.reverse)
  | _ => .bad
def dRevL : D → R D
  | .list ds => .ok (.list ds.reverse)
  | _ => .bad
def dRev : D → R D
  | .tuple ds => .ok (.tuple ds.reverse)
  | .list ds => .ok (.list ds.reverse)
  | _ => .bad
theorem _root_.L2.PE.or {X : Cx} {e : Expr} {t t' : TE} (h : PE X e t) (h' : PE X e t') : PE X e (fun σ H R => t σ H R ∨ t' σ H R) := ⟨fun pins s σ H R I q => by
  rcases q with q | q
  · exact h.run pins s σ H R I q
  · exact h'.run pins s σ H R I q⟩
theorem eU_or {f g h : D → R D} (H : ∀ d, (∀ y, h d = .ok y → f d = .ok y ∨ g d = .ok y)) (hc : ∀ d c, h d ≠ .er c) {k : Bool} {K : Fr} {mg : Str → Option Value} {σ : L2.St} {H1 : Hp} {Q : VK} (q : tE k K mg W (eU h ma) σ H1 Q) : tE k K mg W (eU f ma) σ H1 Q ∨ tE k K mg W (eU g ma) σ H1 Q := by
  obtain ⟨B, ρ, H0, r, o⟩ := q
  unfold eU at o
  cases hm : ma ρ with
  | bad => rw [hm] at o; exact o.elim
  | er c => rw [hm] at o; exact .inl ⟨B, ρ, H0, r, by unfold eU; rw [hm]; exact o⟩
  | ok d =>
    rw [hm, R.bind_ok] at o
    cases hd : h d with
    | bad => rw [hd] at o; exact o.elim
    | er c => exact absurd hd (hc d c)
    | ok y =>
      rw [hd] at o
      rcases H d y hd with z | z
      · exact .inl ⟨B, ρ, H0, r, by unfold eU; rw [hm, R.bind_ok, z]; exact o⟩
      · exact .inr ⟨B, ρ, H0, r, by unfold eU; rw [hm, R.bind_ok, z]; exact o⟩
theorem pf_rev {k : Nat} (ha : PB X W a ma) : PF X W (.Subscript a (.Slice none none (some (.UnaryOp .USub (.Constant (.int 1) k p1) p2)) p3) pos) (eU dRevL ma) := (pe_revL ha).wk fun σ H Q h =>
  t_un (t := fun x H1 Q => ∃ a xs, x = .ref a ∧ SqL X.K H1 a xs ∧ ∀ p, H1 p = none → Q (.ref p) (upd H1 p (.lst xs.reverse))) (fun d c z => by unfold dRevL at z; split at z <;> cases z) (fun H0 H x dx d s vx e Q kq => by
    unfold dRevL at e
    split at e
    · cases e
      obtain ⟨p, xs, rfl, hp, rp⟩ := vx.lst s
      exact ⟨p, xs, rfl, SqL.of hp, fun l hl => kq.newL s rp.reverse hl⟩
    · cases e) h
theorem pd_revT {k : Nat} (ha : PB X W a ma) : PD X W (.Subscript a (.Slice none none (some (.UnaryOp .USub (.Constant (.int 1) k p1) p2)) p3) pos) (eU dRevT ma) := (pe_revT ha).wk fun σ H Q h =>
  t_un (t := fun x H1 Q => ∃ a xs, x = .ref a ∧ SqT X.K H1 a xs ∧ ∀ p, H1 p = none → Q (.ref p) (upd H1 p (.tup xs.reverse))) (fun d c z => by unfold dRevT at z; split at z <;> cases z) (fun H0 H x dx d s vx e Q kq => by
    unfold dRevT at e
    split at e
    · cases e
      obtain ⟨p, xs, rfl, _, hp, rp⟩ := vx.tup s
      exact ⟨p, xs, rfl, SqT.of hp, fun l hl => kq.newT s rp.reverse hl⟩
    · cases e) h
theorem pd_rev {k : Nat} (ha : PB X W a ma) : PD X W (.Subscript a (.Slice none none (some (.UnaryOp .USub (.Constant (.int 1) k p1) p2)) p3) pos) (eU dRev ma) := ((fd (pf_rev (W := W) ha)).or (pd_revT ha)).wk fun σ H Q h =>
  eU_or (f := dRevL) (g := dRevT) (h := dRev) (fun d y z => by
    unfold dRev at z
    split at z
    · exact .inr z
    · exact .inl z
    · cases z) (fun d c z => by unfold dRev at z; split at z <;> cases z) h
/-! ### tuples times a number -/
def dRepT : D → D → R D
  | .tuple x, .int k => if decide (2 ≤ k ∧ k ≤ 1000 ∧ 1 ≤ x.length ∧ x.length ≤ 100) = true then .ok (.tuple (List.replicate k.toNat x).flatten) else .bad
  | _, _ => .bad
theorem od_repT : OpD false X (binaryOp .Mult) dRepT := ⟨_, op_repT, fun H0 H x y dx dy d s vx vy e Q kq => by
  unfold dRepT at e
  split at e
  · split at e
    · rename_i xs k h
      cases e
      have h := of_decide_eq_true h
      obtain ⟨p, xs, rfl, _, hp, rp⟩ := vx.tup s
      have hl := rp.length
      refine ⟨p, _, xs, rfl, vy.int, SqT.of hp, fun z => ?_, h.1, h.2.1, by omega, fun l hl => kq.newT s (rp.rep _) hl⟩
      rw [z] at hl
      have := h.2.2.1
      rw [← hl] at this
      exact absurd this (by decide)
    · cases e
  · cases e⟩
def dMulA (x y : D) : R D := match x, y with
  | .tuple xs, y => dRepT (.tuple xs) y
  | x, y => dMul x y
theorem od_mulA : OpD false X (binaryOp .Mult) dMulA := OpD.or od_repT od_mul fun x y d h => by
  unfold dMulA at h
  split at h
  · exact .inl h
  · exact .inr h
theorem cm_mulA : Calm2 dMulA := fun x y c h => by
  unfold dMulA at h
  split at h
  · unfold dRepT at h
    split at h <;> first | cases h | (split at h <;> cases h)
  · exact cm_mul _ _ _ h
/-! ### sorted(set(t)), t a tuple of ints -/
def insU (x : Int) : List Int → List Int
  | [] => [x]
  | y :: ys => if x < y then x :: y :: ys else if y < x then y :: insU x ys else y :: ys
def sortU : List Int → List Int
  | [] => []
  | x :: xs => insU x (sortU xs)
theorem insU_mem (x k : Int) : ∀ l : List Int, k ∈ insU x l ↔ k = x ∨ k ∈ l
  | [] => by simp [insU]
  | y :: ys => by
    unfold insU
    split
    · simp
    · split
      · rw [List.mem_cons, insU_mem x k ys, List.mem_cons]
        constructor
        · rintro (h | h | h) <;> simp [h]
        · rintro (h | h | h) <;> simp [h]
      · have : x = y := by omega
        subst this
        simp
theorem insU_srt (x : Int) : ∀ l : List Int, l.Pairwise (· < ·) → (insU x l).Pairwise (· < ·)
  | [], _ => by simp [insU]
  | y :: ys, h => by
    obtain ⟨h1, h2⟩ := List.pairwise_cons.mp h
    unfold insU
    split
    · rename_i hx
      refine List.pairwise_cons.mpr ⟨fun k hk => ?_, h⟩
      rcases List.mem_cons.mp hk with z | z
      · omega
      · have := h1 k z; omega
    · split
      · rename_i hx
        refine List.pairwise_cons.mpr ⟨fun k hk => ?_, insU_srt x ys h2⟩
        rcases (insU_mem x k ys).mp hk with z | z
        · omega
        · exact h1 k z
      · exact h
theorem sortU_mem (k : Int) : ∀ l : List Int, k ∈ sortU l ↔ k ∈ l
  | [] => by simp [sortU]
  | x :: xs => by
    unfold sortU
    rw [insU_mem, sortU_mem k xs, List.mem_cons]
theorem sortU_srt : ∀ l : List Int, (sortU l).Pairwise (· < ·)
  | [] => .nil
  | x :: xs => insU_srt x _ (sortU_srt xs)
theorem srt_uniq : ∀ {l r : List Int}, l.Pairwise (· < ·) → r.Pairwise (· < ·) → (∀ k, k ∈ l ↔ k ∈ r) → l = r
  | [], [], _, _, _ => rfl
  | [], y :: ys, _, _, h => absurd ((h y).mpr (by simp)) (by simp)
  | x :: xs, [], _, _, h => absurd ((h x).mp (by simp)) (by simp)
  | x :: xs, y :: ys, h1, h2, h => by
    obtain ⟨a1, a2⟩ := List.pairwise_cons.mp h1
    obtain ⟨b1, b2⟩ := List.pairwise_cons.mp h2
    have e : x = y := by
      rcases List.mem_cons.mp ((h x).mp (by simp)) with z | z
      · exact z
      · rcases List.mem_cons.mp ((h y).mpr (by simp)) with z' | z'
        · exact z'.symm
        · have := b1 x z
          have := a1 y z'
          omega
    subst e
    have : xs = ys := srt_uniq a2 b2 fun k => by
      constructor
      · intro hk
        rcases List.mem_cons.mp ((h k).mp (List.mem_cons_of_mem _ hk)) with z | z
        · have := a1 k hk
          omega
        · exact z
      · intro hk
        rcases List.mem_cons.mp ((h k).mpr (List.mem_cons_of_mem _ hk)) with z | z
        · have := b1 k hk
          omega
        · exact z
    rw [this]
def rSetI (K : Fr) (w : World) : List V → Hp → VK → Prop := fun vs H Q => ∃ (a : Addr) (ns : List Int), vs = [V.ref a] ∧ SqT K H a (ns.map V.int) ∧ ns.length ≤ 1000 ∧ ∀ p S n, (∀ k, S k = decide (k ∈ ns)) → n ≤ ns.length → H p = none → Q (.ref p) (upd H p (SetO w p S n))
theorem cr_setI (hc : X.calm = true) : CallR X (.type "set") (rSetI X.K X.w) := by
  intro pins s σ H xs us Q I r h
  obtain ⟨a, ns, rfl, hq, hl, q⟩ := h
  rw [Vals.ref1 r]
  obtain ⟨its, rv, pt, hz⟩ := I.tuple hq
  have hi : IntsAre its.toArray.toList ns := ints_of_vals rv
  refine call_set_tupI ns (I.ok.hd hc) (show s.heap.IsTuple a its.toArray from pt) hi (by unfold scanBound; omega) fun h' tk c R1 hcn k => ?_
  exact ⟨.ref s.heap.objs.size, upd H s.heap.objs.size (SetO X.w s.heap.objs.size (fun j => decide (j ∈ ns)) c), I.laid (t' := tk) k (Nat.le_refl _) (setO_new R1), rfl, q _ _ _ (fun _ => rfl) hcn (I.hok.fresh (Nat.le_refl _))⟩
def dSortSet : D → R D
  | .tuple ds => match intsOf ds with
    | some ns => if decide (ns.length ≤ 60) = true then .ok (.list ((sortU ns).map .int)) else .bad
    | none => .bad
  | _ => .bad
theorem rp_ints (ns : List Int) : RpA K H (ns.map V.int) (ns.map PyData.int) := by
  induction ns with
  | nil => exact .nil
  | cons n ns ih => exact .cons (.int n) ih
theorem pf_sortset (hc : X.calm = true) (hu : X.A.units + 100 < cLine) (hg : Gl X "sorted") (hm : X.mg "sorted" = none) (hg2 : Gl X "set") (hm2 : X.mg "set" = none) (ha : PB X W a ma)
    (hs : starEach [.Call (.Name "set" p) [a] [] q] X.env = [(false, eval (.Call (.Name "set" p) [a] [] q) X.env)] := by rfl) (hs2 : starEach [a] X.env = [(false, eval a X.env)] := by rfl) :
    PF X W (.Call (.Name "sorted" p1) [.Call (.Name "set" p) [a] [] q] [] pos) (eU dSortSet ma) := by
  have h1 := pe_callTy (pos := q) (p := p) (cr_setI hc) hg2 hm2 PyProof.Rows.boot_set (pa_cons ha pa_nil hs2) (by decide) (by decide) hs2 rfl
  have h2 := pe_callB (pos := pos) (p := p1) (cr_sortedSet hc) hg hm (by decide +kernel) (pa_cons h1 pa_nil hs) (by decide) (by decide) hs rfl
  refine h2.wk fun σ H Q h => ?_
  exact t_un (t := fun x H1 Q => rSetI X.K X.w [x] H1 fun y H2 => rSortedSet X.w [y] H2 Q) (fun d c z => by unfold dSortSet at z; split at z <;> first | cases z | (split at z <;> first | cases z | (split at z <;> cases z))) (fun H0 H x dx d s vx e Q kq => by
    unfold dSortSet at e
    split at e
    · split at e
      · split at e
        · rename_i ds ns hns hl
          cases e
          have hl := of_decide_eq_true hl
          obtain ⟨t, xs, rfl, _, ht, rp⟩ := vx.tup s
          have hx := intsOf_rp rp hns
          subst hx
          refine ⟨t, ns, rfl, SqT.of ht, by omega, fun p S n hS hn hp => ⟨p, S, n, rfl, upd_same, by omega, fun ns' p2 srt mem _ hp2 => ?_⟩⟩
          have e1 : ns' = sortU ns := srt_uniq srt (sortU_srt ns) fun k => by rw [mem, hS, sortU_mem, decide_eq_true_eq]
          subst e1
          have g : Gr H0 H H0 (upd H p (SetO X.w p S n)) := ⟨Ex.refl _, Ex.new hp, s.trans (Ex.new hp), fun _ _ h => h⟩
          exact (kq.grow g).newL (s.trans (Ex.new hp)) (rp_ints _) hp2
        · cases e
      · cases e
    · cases e) h
end
end Fc
set_option Elab.async false
set_option linter.all false
set_option maxRecDepth 100000
set_option maxHeartbeats 2000000
namespace Fc
open PySem L2 Evl PySem.Spec PyProof.Rows
theorem cx_none {P : Program} {w : World} {H : Hp} {s : Shared} {e : Value} {s' : Shared} (h : L2.CX P w [] H s (fun _ _ _ => False) e s') : False := by
  obtain ⟨a, B, H', cls, d, _, _, _, _, _, _, _, z⟩ := h
  exact z
/-- the law's row, its promise told by a function over data -/
theorem walk_law {l : PySem.W.OpenLaw} {k : Nat} {q : Program} {loose : List Str} {XP : (Str → Option Value) → Heap → Prop} {YP : World → Heap → Prop} {d : DefRec} {x : Str} {g : List D → R D}
    (hn : l.most = some 63) (hdf : d.params.defaults = []) (hr : Room k callerA)
    (F : ∀ (w : World) (mg : Str → Option Value) (fa : Addr) (h : Heap), YP w h → h.Ns mainGlobals mg → mg d.name = some (.ref fa) →
      ∃ (K : Fr) (fd : FuncData), K.In h ∧ (∀ (s : Shared) (u : Value), BindsTo s fd ⟨[u], []⟩ [(x, u)]) ∧ ∀ base : Heap, K.In base → base.Ns mainGlobals mg → FnD l.prog w K mg base k fa fd [x] g)
    (hg : ∀ ns : List Int, ns.length ≤ 63 → g [.dict [(.none, .list (ns.map PyData.int))]] = .ok (.bool true)) :
    PySem.W.WalkO q loose XP YP l.row.toRowW d [] (fun f vs => PySem.call f vs) := by
  refine Att.attach_call hn hdf fun w s₀ s₁ mg mb fa o pm cd doc a vs ns G Y ho hd hcd hmg hobj hints hlen gz => ?_
  obtain ⟨K, fd, KX, hb, hF⟩ := F w mg fa _ Y G.T.g hmg
  refine law_call KX G.T.g G.T.b G.T.builtins G.T.nolimit gz hobj hints (Nat.le_trans hlen (by decide)) hr hF hb (fun H hO hS => ?_) fun H e s' => cx_none
  refine ⟨rfl, _, H, Ex.refl H, .cons (.scr hS) .nil, ?_⟩
  rw [hg ns hlen]
  intro v H0 H' gr rp
  cases rp
  rfl
end Fc
set_option Elab.async false
set_option linter.all false
set_option maxRecDepth 100000
set_option maxHeartbeats 4000000

namespace Fc
open PySem L2 Evl PySem.Spec PyProof.Rows
def M_law_cell : DS := (sSeq (sIf (eBin dEq (eW 0) (eLst aNil))
  (sRet (eBin dMul (eC (.int 7)) (eW 1)))
  sNext)
  (sRet (eBin dAdd (eBin dIx (eW 0) (eBin dMod (eW 1) (eCall dLen (aCons (eW 0) aNil)))) (eBin dMul (eC (.int 6553)) (eBin dFdiv (eW 1) (eCall dLen (aCons (eW 0) aNil)))))))
def F_law_cell : List D → R D := runF 2 2 M_law_cell

def M_law_drawn : DS := (sSeq (sAsg 3 (eBin dMod (eBin dAdd (eBin dMul (eBin dMod (eDef F_law_cell (aCons (eV 0) (aCons (eV 1) aNil))) (eC (.int 2147483563))) (eC (.int 69069))) (eBin dMul (eC (.int 104723)) (eBin dAdd (eW 1) (eC (.int 1))))) (eC (.int 2147483563))))
  (sSeq (sAsg 3 (eBin dMod (eBin dAdd (eBin dMul (eW 3) (eW 3)) (eBin dFdiv (eW 3) (eC (.int 3)))) (eC (.int 2147483399))))
  (sRet (eBin dMod (eBin dFdiv (eBin dMod (eBin dAdd (eBin dMul (eW 3) (eW 3)) (eBin dFdiv (eW 3) (eC (.int 7)))) (eC (.int 2147483647))) (eC (.int 11))) (eW 2)))))
def F_law_drawn : List D → R D := runF 4 3 M_law_drawn

def B_law_clock_1 : DS := (sAsg 3 (eBin dAdd (eW 3) (eTup (aCons (eBin dAdd (eBin dAdd (eBin dIx (eW 3) (eU dNeg (eC (.int 1)))) (eC (.int 1))) (eDef F_law_drawn (aCons (eV 0) (aCons (eBin dAdd (eBin dAdd (eW 1) (eC (.int 3))) (eW 4)) (aCons (eC (.int 5)) aNil))))) aNil))))
def L_law_clock_1 : DS := (sFor (iArgs dRng1 (aCons (eDef F_law_drawn (aCons (eV 0) (aCons (eBin dAdd (eW 1) (eC (.int 1))) (aCons (eC (.int 3)) aNil)))) aNil)) (gN 4) B_law_clock_1)
def M_law_clock : DS := (sSeq (sAsg 2 (eBin dAdd (eC (.int 1)) (eDef F_law_drawn (aCons (eV 0) (aCons (eV 1) (aCons (eC (.int 3)) aNil))))))
  (sSeq (sAsg 3 (eTup (aCons (eDef F_law_drawn (aCons (eV 0) (aCons (eBin dAdd (eW 1) (eC (.int 2))) (aCons (eC (.int 6)) aNil)))) aNil)))
  (sSeq L_law_clock_1
  (sRet (eTup (aCons (eV 2) (aCons (eBin dAdd (eW 2) (eDef F_law_drawn (aCons (eV 0) (aCons (eBin dAdd (eW 1) (eC (.int 6))) (aCons (eC (.int 3)) aNil))))) (aCons (eV 3) aNil))))))))
def F_law_clock : List D → R D := runF 5 2 M_law_clock

def C_law_events_1 : DE := (eLc (iArgs dRng1 (aCons (eCall dLen (aCons (eBin dIx (eW 3) (eC (.int 2))) aNil)) aNil)) (gN 4) eT (eTup (aCons (eV 2) (aCons (eV 4) aNil))) [4])
def B_law_events_1 : DS := (sAsg 1 (eBin dAdd (eW 1) C_law_events_1))
def L_law_events_1 : DS := (sFor (iArgs dEnum (aCons (eV 0) aNil)) (gTupD 2 (gConsD (gN 2) (gConsD (gN 3) gNilD))) B_law_events_1)
def M_law_events : DS := (sSeq (sAsg 1 (eLst aNil))
  (sSeq L_law_events_1
  (sRet (eV 1))))
def F_law_events : List D → R D := runF 5 1 M_law_events

def M_law_letter : DS := (sSeq (sAsg 3 (eDef F_law_events (aCons (eV 2) aNil)))
  (sSeq (sIf (eBin dLt (eCall dLen (aCons (eW 3) aNil)) (eC (.int 2)))
  (sRet (eC .none))
  sNext)
  (sSeq (sAsg 4 (eDef F_law_drawn (aCons (eV 0) (aCons (eV 1) (aCons (eCall dLen (aCons (eW 3) aNil)) aNil)))))
  (sSeq (sAsg 5 (eBin dMod (eBin dAdd (eBin dAdd (eW 4) (eC (.int 1))) (eDef F_law_drawn (aCons (eV 0) (aCons (eBin dAdd (eW 1) (eC (.int 1))) (aCons (eBin dSub (eCall dLen (aCons (eW 3) aNil)) (eC (.int 1))) aNil))))) (eCall dLen (aCons (eW 3) aNil))))
  (sSeq (sAsg 6 (eDef F_law_drawn (aCons (eV 0) (aCons (eBin dAdd (eW 1) (eC (.int 2))) (aCons (eC (.int 8)) aNil)))))
  (sSeq (sAsg 7 (eIf (eBin dEq (eDef F_law_drawn (aCons (eV 0) (aCons (eBin dAdd (eW 1) (eC (.int 3))) (aCons (eC (.int 3)) aNil)))) (eC (.int 0))) (eC .none) (eBin dAdd (eW 6) (eDef F_law_drawn (aCons (eV 0) (aCons (eBin dAdd (eW 1) (eC (.int 4))) (aCons (eC (.int 9)) aNil)))))))
  (sRet (eTup (aCons (eBin dIx (eW 3) (eW 4)) (aCons (eBin dIx (eW 3) (eW 5)) (aCons (eV 6) (aCons (eV 7) aNil))))))))))))
def F_law_letter : List D → R D := runF 8 3 M_law_letter

def C_law_record_1 : DE := (eLc (iArgs dRng1 (aCons (eBin dAdd (eC (.int 1)) (eDef F_law_drawn (aCons (eV 0) (aCons (eV 1) (aCons (eC (.int 3)) aNil))))) aNil)) (gN 5) eT (eDef F_law_clock (aCons (eV 0) (aCons (eBin dAdd (eBin dAdd (eW 1) (eC (.int 1))) (eBin dMul (eC (.int 8)) (eW 5))) aNil))) [5])
def B_law_record_1 : DS := (sSeq (sAsg 6 (eDef F_law_letter (aCons (eV 0) (aCons (eBin dAdd (eBin dAdd (eW 1) (eC (.int 31))) (eBin dMul (eC (.int 6)) (eW 5))) (aCons (eV 3) aNil)))))
  (sAsg 4 (eBin dAdd (eW 4) (eBin dMul (eLst (aCons (eV 6) aNil)) (eCall dInt (aCons (eU dNotN (eW 6)) aNil))))))
def L_law_record_1 : DS := (sFor (iArgs dRng1 (aCons (eDef F_law_drawn (aCons (eV 0) (aCons (eBin dAdd (eW 1) (eC (.int 30))) (aCons (eBin dAdd (eW 2) (eC (.int 1))) aNil)))) aNil)) (gN 5) B_law_record_1)
def M_law_record : DS := (sSeq (sAsg 3 (eCall dTupOf (aCons C_law_record_1 aNil)))
  (sSeq (sAsg 4 (eLst aNil))
  (sSeq L_law_record_1
  (sRet (eTup (aCons (eV 3) (aCons (eCall dTupOf (aCons (eW 4) aNil)) aNil)))))))
def F_law_record : List D → R D := runF 7 3 M_law_record

def M_is_number : DS := (sRet (eAnd (eU (dIsI "int") (eW 0)) (eAnd (eU dNot (eU (dIsI "bool") (eW 0))) (eChain dLe dLe (eW 1) (eW 0) (eW 2)))))
def F_is_number : List D → R D := runF 3 3 M_is_number

def C_is_clock_1 : DE := (eLc (iSeq (eV 1)) (gN 2) eT (eDef F_is_number (aCons (eV 2) (aCons (eC (.int 0)) (aCons (eC (.int 99)) aNil)))) [2])
def C_is_clock_2 : DE := (eLc (iArgs dZip (aCons (eV 1) (aCons (eSl dSl (eW 1) (oSome (eC (.int 1))) oNone) aNil))) (gTupD 2 (gConsD (gN 2) (gConsD (gN 3) gNilD))) eT (eBin dLt (eW 2) (eW 3)) [2, 3])
def M_is_clock : DS := (sSeq (sIf (eOr (eU dNot (eU (dIsI "tuple") (eW 0))) (eOr (eBin dNe (eCall dLen (aCons (eW 0) aNil)) (eC (.int 3))) (eU dNot (eDef F_is_number (aCons (eBin dIx (eW 0) (eC (.int 0))) (aCons (eC (.int 1)) (aCons (eC (.int 9)) aNil)))))))
  (sRet (eC (.bool false)))
  sNext)
  (sSeq (sIf (eOr (eU dNot (eDef F_is_number (aCons (eBin dIx (eW 0) (eC (.int 1))) (aCons (eBin dIx (eW 0) (eC (.int 0))) (aCons (eC (.int 9)) aNil))))) (eU dNot (eU (dIsI "tuple") (eBin dIx (eW 0) (eC (.int 2))))))
  (sRet (eC (.bool false)))
  sNext)
  (sSeq (sAsg 1 (eBin dIx (eW 0) (eC (.int 2))))
  (sSeq (sIf (eOr (eU dNot (eChain dLe dLe (eC (.int 1)) (eCall dLen (aCons (eW 1) aNil)) (eC (.int 4)))) (eU dNot (eCall dAll (aCons C_is_clock_1 aNil))))
  (sRet (eC (.bool false)))
  sNext)
  (sRet (eCall dAll (aCons C_is_clock_2 aNil)))))))
def F_is_clock : List D → R D := runF 4 1 M_is_clock

def M_is_event : DS := (sSeq (sIf (eOr (eU dNot (eU (dIsI "tuple") (eW 1))) (eOr (eBin dNe (eCall dLen (aCons (eW 1) aNil)) (eC (.int 2))) (eU dNot (eDef F_is_number (aCons (eBin dIx (eW 1) (eC (.int 0))) (aCons (eC (.int 0)) (aCons (eBin dSub (eCall dLen (aCons (eW 0) aNil)) (eC (.int 1))) aNil)))))))
  (sRet (eC (.bool false)))
  sNext)
  (sRet (eDef F_is_number (aCons (eBin dIx (eW 1) (eC (.int 1))) (aCons (eC (.int 0)) (aCons (eBin dSub (eCall dLen (aCons (eBin dIx (eBin dIx (eW 0) (eBin dIx (eW 1) (eC (.int 0)))) (eC (.int 2))) aNil)) (eC (.int 1))) aNil))))))
def F_is_event : List D → R D := runF 2 2 M_is_event

def M_is_letter : DS := (sSeq (sIf (eOr (eU dNot (eU (dIsI "tuple") (eW 1))) (eOr (eBin dNe (eCall dLen (aCons (eW 1) aNil)) (eC (.int 4))) (eU dNot (eDef F_is_number (aCons (eBin dIx (eW 1) (eC (.int 2))) (aCons (eC (.int 0)) (aCons (eC (.int 999)) aNil)))))))
  (sRet (eC (.bool false)))
  sNext)
  (sSeq (sIf (eOr (eU dNot (eDef F_is_event (aCons (eV 0) (aCons (eBin dIx (eW 1) (eC (.int 0))) aNil)))) (eOr (eU dNot (eDef F_is_event (aCons (eV 0) (aCons (eBin dIx (eW 1) (eC (.int 1))) aNil)))) (eBin dEq (eBin dIx (eW 1) (eC (.int 0))) (eBin dIx (eW 1) (eC (.int 1))))))
  (sRet (eC (.bool false)))
  sNext)
  (sRet (eOr (eU dIsN (eBin dIx (eW 1) (eC (.int 3)))) (eDef F_is_number (aCons (eBin dIx (eW 1) (eC (.int 3))) (aCons (eBin dIx (eW 1) (eC (.int 2))) (aCons (eC (.int 999)) aNil))))))))
def F_is_letter : List D → R D := runF 2 2 M_is_letter

def C_is_record_1 : DE := (eLc (iSeq (eBin dIx (eW 0) (eC (.int 0)))) (gN 1) eT (eDef F_is_clock (aCons (eV 1) aNil)) [1])
def C_is_record_2 : DE := (eLc (iSeq (eBin dIx (eW 0) (eC (.int 1)))) (gN 1) eT (eDef F_is_letter (aCons (eBin dIx (eW 0) (eC (.int 0))) (aCons (eV 1) aNil))) [1])
def M_is_record : DS := (sSeq (sIf (eOr (eU dNot (eU (dIsI "tuple") (eW 0))) (eOr (eBin dNe (eCall dLen (aCons (eW 0) aNil)) (eC (.int 2))) (eU dNot (eU (dIsI "tuple") (eBin dIx (eW 0) (eC (.int 0)))))))
  (sRet (eC (.bool false)))
  sNext)
  (sSeq (sIf (eOr (eU dNot (eChain dLe dLe (eC (.int 1)) (eCall dLen (aCons (eBin dIx (eW 0) (eC (.int 0))) aNil)) (eC (.int 4)))) (eU dNot (eCall dAll (aCons C_is_record_1 aNil))))
  (sRet (eC (.bool false)))
  sNext)
  (sSeq (sIf (eOr (eU dNot (eU (dIsI "tuple") (eBin dIx (eW 0) (eC (.int 1))))) (eBin dGt (eCall dLen (aCons (eBin dIx (eW 0) (eC (.int 1))) aNil)) (eC (.int 8))))
  (sRet (eC (.bool false)))
  sNext)
  (sRet (eCall dAll (aCons C_is_record_2 aNil))))))
def F_is_record : List D → R D := runF 2 1 M_is_record

def M_law_number_k01 : DS := (sRet (eAnd (eU (dIsI "int") (eW 0)) (eAnd (eU dNot (eU (dIsI "bool") (eW 0))) (eChain dLe dLe (eW 1) (eW 0) (eW 2)))))
def F_law_number_k01 : List D → R D := runF 3 3 M_law_number_k01

def C_law_is_clock_1 : DE := (eLc (iSeq (eBin dIx (eW 0) (eC (.int 2)))) (gN 1) (eU dNot (eDef F_law_number_k01 (aCons (eV 1) (aCons (eC (.int 0)) (aCons (eC (.int 99)) aNil))))) (eV 1) [1])
def M_law_is_clock : DS := (sSeq (sIf (eOr (eU dNot (eU (dIsI "tuple") (eW 0))) (eOr (eBin dNe (eCall dLen (aCons (eW 0) aNil)) (eC (.int 3))) (eU dNot (eDef F_law_number_k01 (aCons (eBin dIx (eW 0) (eC (.int 0))) (aCons (eC (.int 1)) (aCons (eC (.int 9)) aNil)))))))
  (sRet (eC (.bool false)))
  sNext)
  (sSeq (sIf (eOr (eU dNot (eDef F_law_number_k01 (aCons (eBin dIx (eW 0) (eC (.int 1))) (aCons (eBin dIx (eW 0) (eC (.int 0))) (aCons (eC (.int 9)) aNil))))) (eOr (eU dNot (eU (dIsI "tuple") (eBin dIx (eW 0) (eC (.int 2))))) (eU dNot (eChain dLe dLe (eC (.int 1)) (eCall dLen (aCons (eBin dIx (eW 0) (eC (.int 2))) aNil)) (eC (.int 4))))))
  (sRet (eC (.bool false)))
  sNext)
  (sSeq (sIf (eBin dNe C_law_is_clock_1 (eLst aNil))
  (sRet (eC (.bool false)))
  sNext)
  (sRet (eBin dEq (eCall dLstOf (aCons (eBin dIx (eW 0) (eC (.int 2))) aNil)) (eU dSortSet (eBin dIx (eW 0) (eC (.int 2)))))))))
def F_law_is_clock : List D → R D := runF 2 1 M_law_is_clock

def C_law_is_record_1 : DE := (eLc (iSeq (eBin dIx (eW 0) (eC (.int 0)))) (gN 4) (eU dNot (eDef F_law_is_clock (aCons (eV 4) aNil))) (eV 4) [4])
def C_law_is_record_2 : DE := (eLc (iSeq (eV 3)) (gN 5) (eU dNot (eDef F_law_number_k01 (aCons (eV 5) (aCons (eC (.int 0)) (aCons (eC (.int 9)) aNil))))) (eV 5) [5])
def B_law_is_record_1 : DS := (sSeq (sIf (eU dNot (eU (dIsI "tuple") (eW 3)))
  (sRet (eC (.bool false)))
  sNext)
  (sIf (eOr (eBin dNe C_law_is_record_2 (eLst aNil)) (eBin dNotIn (eW 3) (eW 1)))
  (sRet (eC (.bool false)))
  sNext))
def L_law_is_record_1 : DS := (sFor (iSeq (eSl dSl (eW 2) oNone (oSome (eC (.int 2))))) (gN 3) B_law_is_record_1)
def B_law_is_record_2 : DS := (sSeq (sIf (eOr (eU dNot (eU (dIsI "tuple") (eW 2))) (eOr (eBin dNe (eCall dLen (aCons (eW 2) aNil)) (eC (.int 4))) (eU dNot (eDef F_law_number_k01 (aCons (eBin dIx (eW 2) (eC (.int 2))) (aCons (eC (.int 0)) (aCons (eC (.int 999)) aNil)))))))
  (sRet (eC (.bool false)))
  sNext)
  (sSeq L_law_is_record_1
  (sIf (eOr (eBin dEq (eBin dIx (eW 2) (eC (.int 0))) (eBin dIx (eW 2) (eC (.int 1)))) (eAnd (eU dNotN (eBin dIx (eW 2) (eC (.int 3)))) (eU dNot (eDef F_law_number_k01 (aCons (eBin dIx (eW 2) (eC (.int 3))) (aCons (eBin dIx (eW 2) (eC (.int 2))) (aCons (eC (.int 999)) aNil)))))))
  (sRet (eC (.bool false)))
  sNext)))
def L_law_is_record_2 : DS := (sFor (iSeq (eBin dIx (eW 0) (eC (.int 1)))) (gN 2) B_law_is_record_2)
def M_law_is_record : DS := (sSeq (sIf (eOr (eU dNot (eU (dIsI "tuple") (eW 0))) (eBin dNe (eCall dLen (aCons (eW 0) aNil)) (eC (.int 2))))
  (sRet (eC (.bool false)))
  sNext)
  (sSeq (sIf (eOr (eU dNot (eU (dIsI "tuple") (eBin dIx (eW 0) (eC (.int 0))))) (eU dNot (eU (dIsI "tuple") (eBin dIx (eW 0) (eC (.int 1))))))
  (sRet (eC (.bool false)))
  sNext)
  (sSeq (sIf (eOr (eU dNot (eChain dLe dLe (eC (.int 1)) (eCall dLen (aCons (eBin dIx (eW 0) (eC (.int 0))) aNil)) (eC (.int 4)))) (eOr (eBin dNe C_law_is_record_1 (eLst aNil)) (eBin dGt (eCall dLen (aCons (eBin dIx (eW 0) (eC (.int 1))) aNil)) (eC (.int 8)))))
  (sRet (eC (.bool false)))
  sNext)
  (sSeq (sAsg 1 (eDef F_law_events (aCons (eBin dIx (eW 0) (eC (.int 0))) aNil)))
  (sSeq L_law_is_record_2
  (sRet (eC (.bool true))))))))
def F_law_is_record : List D → R D := runF 6 1 M_law_is_record

def M_law_spoilt_k01 (FSELF : List D → R D) : DS := (sSeq (sIf (eAnd (eBin dGt (eW 3) (eC (.int 0))) (eAnd (eU (dIsI "tuple") (eW 2)) (eAnd (eBin dNe (eW 2) (eTup aNil)) (eBin dGt (eDef F_law_drawn (aCons (eV 0) (aCons (eV 1) (aCons (eC (.int 5)) aNil)))) (eC (.int 0))))))
  (sSeq (sAsg 4 (eDef F_law_drawn (aCons (eV 0) (aCons (eBin dAdd (eW 1) (eC (.int 1))) (aCons (eCall dLen (aCons (eW 2) aNil)) aNil)))))
  (sSeq (sAsg 5 (eDef FSELF (aCons (eV 0) (aCons (eBin dAdd (eW 1) (eC (.int 3))) (aCons (eBin dIx (eW 2) (eW 4)) (aCons (eBin dSub (eW 3) (eC (.int 1))) aNil))))))
  (sRet (eBin dAdd (eBin dAdd (eSl dSl (eW 2) oNone (oSome (eV 4))) (eTup (aCons (eV 5) aNil))) (eSl dSl (eW 2) (oSome (eBin dAdd (eW 4) (eC (.int 1)))) oNone)))))
  sNext)
  (sSeq (sAsg 6 (eLst (aCons (eC .none) (aCons (eC (.bool true)) (aCons (eC (.bool false)) (aCons (eU dNeg (eC (.int 1))) (aCons (eC (.int 0)) (aCons (eC (.int 1)) (aCons (eC (.int 2)) (aCons (eC (.int 9)) (aCons (eC (.int 10)) (aCons (eC (.int 99)) (aCons (eC (.int 100)) (aCons (eC (.int 999)) (aCons (eC (.int 1000)) (aCons (eC (.str "1")) (aCons (eTup aNil) (aCons (eLst aNil) (aCons (eTup (aCons (eC (.int 0)) (aCons (eC (.int 0)) aNil))) (aCons (eTup (aCons (eC (.int 0)) (aCons (eC (.int 1)) aNil))) (aCons (eTup (aCons (eC (.int 1)) (aCons (eC (.int 1)) (aCons (eTup (aCons (eC (.int 5)) aNil)) aNil)))) aNil)))))))))))))))))))))
  (sSeq (sIf (eU (dIsI "tuple") (eW 2))
  (sAsg 6 (eBin dAdd (eW 6) (eLst (aCons (eCall dLstOf (aCons (eW 2) aNil)) (aCons (eU dRev (eW 2)) (aCons (eBin dAdd (eW 2) (eW 2)) (aCons (eSl dSl (eW 2) (oSome (eC (.int 1))) oNone) (aCons (eBin dAdd (eW 2) (eSl dSl (eW 2) (oSome (eU dNeg (eC (.int 1)))) oNone)) aNil))))))))
  sNext)
  (sRet (eBin dIx (eW 6) (eDef F_law_drawn (aCons (eV 0) (aCons (eBin dAdd (eW 1) (eC (.int 2))) (aCons (eCall dLen (aCons (eW 6) aNil)) aNil)))))))))
def F_law_spoilt_k01 : Nat → List D → R D
  | 0 => fun _ => .bad
  | n + 1 => runF 7 4 (M_law_spoilt_k01 (F_law_spoilt_k01 n))

def C_law_each_1 (FSELF : List D → R D) : DE := (eLc (iSeq (eDef FSELF (aCons (eBin dIx (eW 0) (eW 2)) aNil))) (gN 3) eT (eBin dAdd (eBin dAdd (eSl dSl (eW 0) oNone (oSome (eV 2))) (eTup (aCons (eV 3) aNil))) (eSl dSl (eW 0) (oSome (eBin dAdd (eW 2) (eC (.int 1)))) oNone)) [3])
def B_law_each_1 (FSELF : List D → R D) : DS := (sAsg 1 (eBin dAdd (eW 1) (C_law_each_1 FSELF)))
def L_law_each_1 (FSELF : List D → R D) : DS := (sFor (iArgs dRng1 (aCons (eCall dLen (aCons (eW 0) aNil)) aNil)) (gN 2) (B_law_each_1 FSELF))
def M_law_each (FSELF : List D → R D) : DS := (sSeq (sIf (eU (dIsI "int") (eW 0))
  (sRet (eLst (aCons (eC .none) (aCons (eC (.bool true)) (aCons (eBin dSub (eW 0) (eC (.int 1))) (aCons (eBin dAdd (eW 0) (eC (.int 1))) (aCons (eC (.int 1000)) aNil)))))))
  sNext)
  (sSeq (sIf (eU dNot (eU (dIsI "tuple") (eW 0)))
  (sRet (eLst (aCons (eC .none) (aCons (eC (.str "")) (aCons (eC (.str "A")) aNil)))))
  sNext)
  (sSeq (sAsg 1 (eLst (aCons (eC .none) (aCons (eCall dLstOf (aCons (eW 0) aNil)) (aCons (eBin dAdd (eW 0) (eSl dSl (eW 0) (oSome (eU dNeg (eC (.int 1)))) oNone)) (aCons (eSl dSl (eW 0) (oSome (eC (.int 1))) oNone) aNil))))))
  (sSeq (L_law_each_1 FSELF)
  (sRet (eV 1))))))
def F_law_each : Nat → List D → R D
  | 0 => fun _ => .bad
  | n + 1 => runF 4 1 (M_law_each (F_law_each n))

def C_law_k01_1 : DE := (eLc (iSeq (eBin dIx (eW 1) (eC (.int 1)))) (gN 9) eT (eBin dAdd (eSl dSl (eW 9) oNone (oSome (eC (.int 2)))) (eTup (aCons (eC (.int 999)) (aCons (eIf (eU dIsN (eBin dIx (eW 9) (eC (.int 3)))) (eC .none) (eC (.int 999))) aNil)))) [9])
def B_law_k01_1 : DS := (sSeq (sAsg 4 (eDef (F_law_spoilt_k01 8) (aCons (eV 0) (aCons (eBin dAdd (eC (.int 90)) (eBin dMul (eC (.int 20)) (eW 3))) (aCons (eV 1) (aCons (eBin dAdd (eC (.int 1)) (eBin dMod (eW 3) (eC (.int 4)))) aNil))))))
  (sSeq (sAsg 5 (eDef F_is_record (aCons (eV 4) aNil)))
  (sIf (eOr (eU dNot (eU (dIsI "bool") (eW 5))) (eBin dNe (eW 5) (eDef F_law_is_record (aCons (eV 4) aNil))))
  (sRet (eC (.bool false)))
  sNext)))
def L_law_k01_1 : DS := (sFor (iArgs dRng1 (aCons (eC (.int 5)) aNil)) (gN 3) B_law_k01_1)
def C_law_k01_2 : DE := (eLc (iSeq (eBin dAdd (eLst (aCons (eV 6) aNil)) (eDef (F_law_each 8) (aCons (eV 6) aNil)))) (gN 8) (eBin dNe (eDef F_is_record (aCons (eV 8) aNil)) (eDef F_law_is_record (aCons (eV 8) aNil))) (eV 8) [8])
def M_law_k01 : DS := (sSeq (sAsg 1 (eDef F_law_record (aCons (eV 0) (aCons (eC (.int 0)) (aCons (eC (.int 6)) aNil)))))
  (sSeq (sIf (eBin dEq (eDef F_law_drawn (aCons (eV 0) (aCons (eC (.int 80)) (aCons (eC (.int 4)) aNil)))) (eC (.int 0)))
  (sSeq (sAsg 2 (eCall dTupOf (aCons C_law_k01_1 aNil)))
  (sAsg 1 (eTup (aCons (eBin dAdd (eBin dIx (eW 1) (eC (.int 0))) (eTup (aCons (eTup (aCons (eC (.int 9)) (aCons (eC (.int 9)) (aCons (eTup (aCons (eC (.int 0)) (aCons (eC (.int 97)) (aCons (eC (.int 98)) (aCons (eC (.int 99)) aNil))))) aNil)))) aNil))) (aCons (eV 2) aNil)))))
  sNext)
  (sSeq (sIf (eOr (eU dNot (eDef F_is_record (aCons (eV 1) aNil))) (eU dNot (eDef F_law_is_record (aCons (eV 1) aNil))))
  (sRet (eC (.bool false)))
  sNext)
  (sSeq L_law_k01_1
  (sSeq (sAsg 6 (eTup (aCons (eTup (aCons (eTup (aCons (eC (.int 1)) (aCons (eC (.int 2)) (aCons (eTup (aCons (eC (.int 3)) (aCons (eC (.int 5)) aNil))) aNil)))) aNil)) (aCons (eTup (aCons (eTup (aCons (eTup (aCons (eC (.int 0)) (aCons (eC (.int 0)) aNil))) (aCons (eTup (aCons (eC (.int 0)) (aCons (eC (.int 1)) aNil))) (aCons (eC (.int 1)) (aCons (eC (.int 4)) aNil))))) aNil)) aNil))))
  (sSeq (sIf (eBin dNe C_law_k01_2 (eLst aNil))
  (sRet (eC (.bool false)))
  sNext)
  (sSeq (sAsg 7 (eTup (aCons (eC (.int 1)) (aCons (eC (.int 1)) (aCons (eTup (aCons (eC (.int 0)) aNil)) aNil)))))
  (sRet (eAnd (eDef F_is_record (aCons (eTup (aCons (eBin dMulA (eTup (aCons (eV 7) aNil)) (eC (.int 4))) (aCons (eTup aNil) aNil))) aNil)) (eAnd (eU dNot (eDef F_is_record (aCons (eTup (aCons (eBin dMulA (eTup (aCons (eV 7) aNil)) (eC (.int 5))) (aCons (eTup aNil) aNil))) aNil))) (eU dNot (eDef F_is_record (aCons (eTup (aCons (eTup aNil) (aCons (eTup aNil) aNil))) aNil)))))))))))))
def F_law_k01 : List D → R D := runF 10 1 M_law_k01

end Fc
set_option Elab.async false
set_option linter.all false
set_option maxRecDepth 100000
set_option maxHeartbeats 4000000

namespace Wk
open PySem L2 Evl Fc PySem.Spec PyProof.Rows
def top (i : Nat) : Stmt := PySem.Challenge.pw_farclocks_k01_records.main.body.getD i (.Pass ⟨0, 0, 0, 0⟩)
def dd_law_cell : He.DefD := ⟨("_law_cell", none), "_law_cell", "_law_cell", defArgs (top 13), defBody (top 13), defScope (top 13), [], []⟩
def dd_law_drawn : He.DefD := ⟨("_law_drawn", none), "_law_drawn", "_law_drawn", defArgs (top 14), defBody (top 14), defScope (top 14), [], []⟩
def dd_law_clock : He.DefD := ⟨("_law_clock", none), "_law_clock", "_law_clock", defArgs (top 15), defBody (top 15), defScope (top 15), [], []⟩
def dd_law_events : He.DefD := ⟨("_law_events", none), "_law_events", "_law_events", defArgs (top 17), defBody (top 17), defScope (top 17), [], []⟩
def dd_law_letter : He.DefD := ⟨("_law_letter", none), "_law_letter", "_law_letter", defArgs (top 16), defBody (top 16), defScope (top 16), [], []⟩
def dd_law_record : He.DefD := ⟨("_law_record", none), "_law_record", "_law_record", defArgs (top 18), defBody (top 18), defScope (top 18), [], []⟩
def dd_is_number : He.DefD := ⟨("is_number", none), "is_number", "is_number", defArgs (top 7), defBody (top 7), defScope (top 7), [], []⟩
def dd_is_clock : He.DefD := ⟨("is_clock", none), "is_clock", "is_clock", defArgs (top 8), defBody (top 8), defScope (top 8), [], []⟩
def dd_is_event : He.DefD := ⟨("is_event", none), "is_event", "is_event", defArgs (top 9), defBody (top 9), defScope (top 9), [], []⟩
def dd_is_letter : He.DefD := ⟨("is_letter", none), "is_letter", "is_letter", defArgs (top 10), defBody (top 10), defScope (top 10), [], []⟩
def dd_is_record : He.DefD := ⟨("is_record", none), "is_record", "is_record", defArgs (top 11), defBody (top 11), defScope (top 11), [], []⟩
def dd_law_number : He.DefD := ⟨("_law_number", none), "_law_number", "_law_number", defArgs (top 19), defBody (top 19), defScope (top 19), [], []⟩
def dd_law_is_clock : He.DefD := ⟨("_law_is_clock", none), "_law_is_clock", "_law_is_clock", defArgs (top 20), defBody (top 20), defScope (top 20), [], []⟩
def dd_law_is_record : He.DefD := ⟨("_law_is_record", none), "_law_is_record", "_law_is_record", defArgs (top 21), defBody (top 21), defScope (top 21), [], []⟩
def dd_law_spoilt : He.DefD := ⟨("_law_spoilt", none), "_law_spoilt", "_law_spoilt", defArgs (top 22), defBody (top 22), defScope (top 22), [], []⟩
def dd_law_each : He.DefD := ⟨("_law_each", none), "_law_each", "_law_each", defArgs (top 23), defBody (top 23), defScope (top 23), [], []⟩
def dd_law : He.DefD := ⟨("law", none), "law", "law", defArgs (top 24), defBody (top 24), defScope (top 24), [], []⟩
def fn : List He.DefD := [dd_law_cell, dd_law_drawn, dd_law_clock, dd_law_events, dd_law_letter, dd_law_record, dd_is_number, dd_is_clock, dd_is_event, dd_is_letter, dd_is_record, dd_law_number, dd_law_is_clock, dd_law_is_record, dd_law_spoilt, dd_law_each, dd_law]
def fa : List He.Fa := [.free "isinstance", .free "int", .free "bool", .free "tuple", .free "len", .int "MOST_RATE" 9, .int "MOST_READINGS" 4, .int "MOST_READING" 99, .free "all", .free "zip", .int "MOST_TIME" 999, .int "MOST_CLOCKS" 4, .int "MOST_LETTERS" 8, .free "range", .free "enumerate", .free "list", .free "sorted", .free "set", .glo "_law_cell", .glo "_law_drawn", .glo "_law_clock", .glo "_law_events", .glo "_law_letter", .glo "_law_record", .glo "is_number", .glo "is_clock", .glo "is_event", .glo "is_letter", .glo "is_record", .glo "_law_number", .glo "_law_is_clock", .glo "_law_is_record", .glo "_law_spoilt", .glo "_law_each", .glo "law"]
abbrev C0 (K : Fr) (mg : Str → Option Value) : Prop := Cc fa fn K mg
section
variable {P : Program} {w : World} {K : Fr} {mg : Str → Option Value} {base : Heap}
theorem sc_law_cell : FnScope ["_law_script", "_law_k"] ["_law_script", "_law_k"] (defScope (top 13)) := ⟨rfl, rfl, rfl, by decide +kernel, rfl, by decide +kernel, by decide +kernel⟩
theorem ok_law_cell (c : C0 K mg) : OkF P w K mg base 1 "_law_cell" ["_law_script", "_law_k"] F_law_cell := by
  obtain ⟨fdn, F⟩ := c.def_ 0
  refine ⟨fdn, fn_d F sc_law_cell fun cdv A outer s H E hr => ?_, F.bindsN (ps := ["_law_script", "_law_k"]) fun _ _ _ _ _ _ us hl => match us, hl with | [_, _], _ => rfl, c.glo 18, F.kp⟩
  have tk : Takes (cxOf (L2.CX P w) P w K mg base ["_law_script", "_law_k"] "_law_cell" (defScope (top 13)) (He.ga K "_law_cell") cdv A outer s H E) (fun cls d _ H => E cls d H) := takes_of rfl rfl rfl rfl
  have hp := passes_of (X := cxOf (L2.CX P w) P w K mg base ["_law_script", "_law_k"] "_law_cell" (defScope (top 13)) (He.ga K "_law_cell") cdv A outer s H E) rfl
  have hu := hr.u
  exact (sd_cons (sd_if (td_cmp (od_eq hu) cm_eq (nomark _) (bv 0) (fb (pf_lst af_nil)))
      (sd_one (sd_ret (pd_bin od_mul cm_mul (db pd_int) (bv 1))))
      sd_nil)
      (sd_one (sd_ret (pd_bin od_add cm_add (db (pd_ix (od_ix hu) cm_ix (fun _ _ => rfl) (bv 0) (db (pd_bin od_mod dI_calm (bv 1) (db (pd_callB cd_len cm_len rfl (c.free 4) (by decide +kernel) (aw_cons (bv 0) aw_nil))))))) (db (pd_bin od_mul cm_mul (db pd_int) (db (pd_bin od_fdiv dI_calm (bv 1) (db (pd_callB cd_len cm_len rfl (c.free 4) (by decide +kernel) (aw_cons (bv 0) aw_nil)))))))))))
theorem sc_law_drawn : FnScope ["_law_script", "_law_k", "_law_many", "_law_cell_here"] ["_law_script", "_law_k", "_law_many"] (defScope (top 14)) := ⟨rfl, rfl, rfl, by decide +kernel, rfl, by decide +kernel, by decide +kernel⟩
theorem ok_law_drawn (c : C0 K mg) : OkF P w K mg base 2 "_law_drawn" ["_law_script", "_law_k", "_law_many"] F_law_drawn := by
  obtain ⟨fdn, F⟩ := c.def_ 1
  refine ⟨fdn, fn_d F sc_law_drawn fun cdv A outer s H E hr => ?_, F.bindsN (ps := ["_law_script", "_law_k", "_law_many"]) fun _ _ _ _ _ _ us hl => match us, hl with | [_, _, _], _ => rfl, c.glo 19, F.kp⟩
  have tk : Takes (cxOf (L2.CX P w) P w K mg base ["_law_script", "_law_k", "_law_many", "_law_cell_here"] "_law_drawn" (defScope (top 14)) (He.ga K "_law_drawn") cdv A outer s H E) (fun cls d _ H => E cls d H) := takes_of rfl rfl rfl rfl
  have hp := passes_of (X := cxOf (L2.CX P w) P w K mg base ["_law_script", "_law_k", "_law_many", "_law_cell_here"] "_law_drawn" (defScope (top 14)) (He.ga K "_law_drawn") cdv A outer s H E) rfl
  have hu := hr.u
  exact (sd_cons (sd_set sc_law_drawn.nd rfl (.inl rfl) (pd_bin od_mod dI_calm (db (pd_bin od_add cm_add (db (pd_bin od_mul cm_mul (db (pd_bin od_mod dI_calm (db (pd_ok (ok_law_cell c) tk (hr.mono (by decide)) rfl (aCons_len (aCons_len aNil_len)) (af_cons (dv 0) (af_cons (dv 1) af_nil)))) (db pd_int))) (db pd_int))) (db (pd_bin od_mul cm_mul (db pd_int) (db (pd_bin od_add cm_add (bv 1) (db pd_int))))))) (db pd_int)))
      (sd_cons (sd_set sc_law_drawn.nd rfl (.inl rfl) (pd_bin od_mod dI_calm (db (pd_bin od_add cm_add (db (pd_bin od_mul cm_mul (bv 3) (bv 3))) (db (pd_bin od_fdiv dI_calm (bv 3) (db pd_int))))) (db pd_int)))
      (sd_one (sd_ret (pd_bin od_mod dI_calm (db (pd_bin od_fdiv dI_calm (db (pd_bin od_mod dI_calm (db (pd_bin od_add cm_add (db (pd_bin od_mul cm_mul (bv 3) (bv 3))) (db (pd_bin od_fdiv dI_calm (bv 3) (db pd_int))))) (db pd_int))) (db pd_int))) (bv 2))))))
theorem sc_law_clock : FnScope ["_law_script", "_law_at", "_law_slow", "_law_readings", "_law_k"] ["_law_script", "_law_at"] (defScope (top 15)) := ⟨rfl, rfl, rfl, by decide +kernel, rfl, by decide +kernel, by decide +kernel⟩
theorem ok_law_clock (c : C0 K mg) : OkF P w K mg base 3 "_law_clock" ["_law_script", "_law_at"] F_law_clock := by
  obtain ⟨fdn, F⟩ := c.def_ 2
  refine ⟨fdn, fn_d F sc_law_clock fun cdv A outer s H E hr => ?_, F.bindsN (ps := ["_law_script", "_law_at"]) fun _ _ _ _ _ _ us hl => match us, hl with | [_, _], _ => rfl, c.glo 20, F.kp⟩
  have tk : Takes (cxOf (L2.CX P w) P w K mg base ["_law_script", "_law_at", "_law_slow", "_law_readings", "_law_k"] "_law_clock" (defScope (top 15)) (He.ga K "_law_clock") cdv A outer s H E) (fun cls d _ H => E cls d H) := takes_of rfl rfl rfl rfl
  have hp := passes_of (X := cxOf (L2.CX P w) P w K mg base ["_law_script", "_law_at", "_law_slow", "_law_readings", "_law_k"] "_law_clock" (defScope (top 15)) (He.ga K "_law_clock") cdv A outer s H E) rfl
  have hu := hr.u
  exact (sd_cons (sd_set sc_law_clock.nd rfl (.inl rfl) (pd_bin od_add cm_add (db pd_int) (db (pd_ok (ok_law_drawn c) tk (hr.mono (by decide)) rfl (aCons_len (aCons_len (aCons_len aNil_len))) (af_cons (dv 0) (af_cons (dv 1) (af_cons pd_int af_nil)))))))
      (sd_cons (sd_set sc_law_clock.nd rfl (.inl rfl) (pd_tup (af_cons (pd_ok (ok_law_drawn c) tk (hr.mono (by decide)) rfl (aCons_len (aCons_len (aCons_len aNil_len))) (af_cons (dv 0) (af_cons (pd_bin od_add cm_add (bv 1) (db pd_int)) (af_cons pd_int af_nil)))) af_nil)))
      (sd_cons (sd_for hp rfl (id_rng1 rfl (c.free 13) (aw_cons (db (pd_ok (ok_law_drawn c) tk (hr.mono (by decide)) rfl (aCons_len (aCons_len (aCons_len aNil_len))) (af_cons (dv 0) (af_cons (pd_bin od_add cm_add (bv 1) (db pd_int)) (af_cons pd_int af_nil))))) aw_nil)) (gd_name sc_law_clock.nd rfl (.inl rfl))
      (sd_one (sd_set sc_law_clock.nd rfl (.inl rfl) (pd_bin od_add cm_add (bv 3) (db (pd_tup (af_cons (pd_bin od_add cm_add (db (pd_bin od_add cm_add (db (pd_ix (od_ix hu) cm_ix (fun _ _ => rfl) (bv 3) (db (pd_neg (db pd_int))))) (db pd_int))) (db (pd_ok (ok_law_drawn c) tk (hr.mono (by decide)) rfl (aCons_len (aCons_len (aCons_len aNil_len))) (af_cons (dv 0) (af_cons (pd_bin od_add cm_add (db (pd_bin od_add cm_add (bv 1) (db pd_int))) (bv 4)) (af_cons pd_int af_nil)))))) af_nil)))))))
      (sd_one (sd_ret (pd_tup (af_cons (dv 2) (af_cons (pd_bin od_add cm_add (bv 2) (db (pd_ok (ok_law_drawn c) tk (hr.mono (by decide)) rfl (aCons_len (aCons_len (aCons_len aNil_len))) (af_cons (dv 0) (af_cons (pd_bin od_add cm_add (bv 1) (db pd_int)) (af_cons pd_int af_nil)))))) (af_cons (dv 3) af_nil)))))))))
theorem sc_law_events : FnScope ["_law_clocks", "_law_found", "_law_number_here", "_law_clock_here", "_law_place"] ["_law_clocks"] (defScope (top 17)) := ⟨rfl, rfl, rfl, by decide +kernel, rfl, by decide +kernel, by decide +kernel⟩
theorem ok_law_events (c : C0 K mg) : OkF P w K mg base 1 "_law_events" ["_law_clocks"] F_law_events := by
  obtain ⟨fdn, F⟩ := c.def_ 3
  refine ⟨fdn, fn_d F sc_law_events fun cdv A outer s H E hr => ?_, F.bindsN (ps := ["_law_clocks"]) fun _ _ _ _ _ _ us hl => match us, hl with | [_], _ => rfl, c.glo 21, F.kp⟩
  have tk : Takes (cxOf (L2.CX P w) P w K mg base ["_law_clocks", "_law_found", "_law_number_here", "_law_clock_here", "_law_place"] "_law_events" (defScope (top 17)) (He.ga K "_law_events") cdv A outer s H E) (fun cls d _ H => E cls d H) := takes_of rfl rfl rfl rfl
  have hp := passes_of (X := cxOf (L2.CX P w) P w K mg base ["_law_clocks", "_law_found", "_law_number_here", "_law_clock_here", "_law_place"] "_law_events" (defScope (top 17)) (He.ga K "_law_events") cdv A outer s H E) rfl
  have hu := hr.u
  exact (sd_cons (sd_set sc_law_events.nd rfl (.inl rfl) (fd (pf_lst af_nil)))
      (sd_cons (sd_for hp rfl (id_enum rfl (c.free 14) (af_cons (dv 0) af_nil)) (gd_tup rfl (gds_cons (gd_name sc_law_events.nd rfl (.inr rfl)) (gds_cons (gd_name sc_law_events.nd rfl (.inl rfl)) gds_nil)))
      (sd_one (sd_set sc_law_events.nd rfl (.inl rfl) (pd_bin od_add cm_add (bv 1) (fb (pf_lc (own := [("_law_place", 4)]) rfl sc_law_events.nd (id_rng1 rfl (c.free 13) (aw_cons (db (pd_callB cd_len cm_len rfl (c.free 4) (by decide +kernel) (aw_cons (db (pd_ix (od_ix hu) cm_ix (fun _ _ => rfl) (bv 3) (db pd_int))) aw_nil))) aw_nil)) (blkOk_by (own := [("_law_place", 4)]) (by show blkC ["_law_clocks", "_law_found", "_law_number_here", "_law_clock_here", "_law_place"] (defScope (top 17)) _ _ = true; decide +kernel)) (fun _ _ _ _ _ => (gd_name sc_law_events.nd rfl (.inl rfl))) (fun _ _ _ _ _ => tds_nil) (fun _ _ _ _ _ => (pd_tup (af_cons (dv 2) (af_cons (dv 4) af_nil))))))))))
      (sd_one (sd_ret (dv 1)))))
theorem sc_law_letter : FnScope ["_law_script", "_law_at", "_law_clocks", "_law_row", "_law_place", "_law_other", "_law_least", "_law_most"] ["_law_script", "_law_at", "_law_clocks"] (defScope (top 16)) := ⟨rfl, rfl, rfl, by decide +kernel, rfl, by decide +kernel, by decide +kernel⟩
theorem ok_law_letter (c : C0 K mg) : OkF P w K mg base 3 "_law_letter" ["_law_script", "_law_at", "_law_clocks"] F_law_letter := by
  obtain ⟨fdn, F⟩ := c.def_ 4
  refine ⟨fdn, fn_d F sc_law_letter fun cdv A outer s H E hr => ?_, F.bindsN (ps := ["_law_script", "_law_at", "_law_clocks"]) fun _ _ _ _ _ _ us hl => match us, hl with | [_, _, _], _ => rfl, c.glo 22, F.kp⟩
  have tk : Takes (cxOf (L2.CX P w) P w K mg base ["_law_script", "_law_at", "_law_clocks", "_law_row", "_law_place", "_law_other", "_law_least", "_law_most"] "_law_letter" (defScope (top 16)) (He.ga K "_law_letter") cdv A outer s H E) (fun cls d _ H => E cls d H) := takes_of rfl rfl rfl rfl
  have hp := passes_of (X := cxOf (L2.CX P w) P w K mg base ["_law_script", "_law_at", "_law_clocks", "_law_row", "_law_place", "_law_other", "_law_least", "_law_most"] "_law_letter" (defScope (top 16)) (He.ga K "_law_letter") cdv A outer s H E) rfl
  have hu := hr.u
  exact (sd_cons (sd_set sc_law_letter.nd rfl (.inl rfl) (pd_ok (ok_law_events c) tk (hr.mono (by decide)) rfl (aCons_len aNil_len) (af_cons (dv 2) af_nil)))
      (sd_cons (sd_if (td_cmp od_lt dI_calm (nomark _) (db (pd_callB cd_len cm_len rfl (c.free 4) (by decide +kernel) (aw_cons (bv 3) aw_nil))) (db pd_int))
      (sd_one (sd_ret pd_non))
      sd_nil)
      (sd_cons (sd_set sc_law_letter.nd rfl (.inl rfl) (pd_ok (ok_law_drawn c) tk (hr.mono (by decide)) rfl (aCons_len (aCons_len (aCons_len aNil_len))) (af_cons (dv 0) (af_cons (dv 1) (af_cons (pd_callB cd_len cm_len rfl (c.free 4) (by decide +kernel) (aw_cons (bv 3) aw_nil)) af_nil)))))
      (sd_cons (sd_set sc_law_letter.nd rfl (.inl rfl) (pd_bin od_mod dI_calm (db (pd_bin od_add cm_add (db (pd_bin od_add cm_add (bv 4) (db pd_int))) (db (pd_ok (ok_law_drawn c) tk (hr.mono (by decide)) rfl (aCons_len (aCons_len (aCons_len aNil_len))) (af_cons (dv 0) (af_cons (pd_bin od_add cm_add (bv 1) (db pd_int)) (af_cons (pd_bin od_sub dI_calm (db (pd_callB cd_len cm_len rfl (c.free 4) (by decide +kernel) (aw_cons (bv 3) aw_nil))) (db pd_int)) af_nil))))))) (db (pd_callB cd_len cm_len rfl (c.free 4) (by decide +kernel) (aw_cons (bv 3) aw_nil)))))
      (sd_cons (sd_set sc_law_letter.nd rfl (.inl rfl) (pd_ok (ok_law_drawn c) tk (hr.mono (by decide)) rfl (aCons_len (aCons_len (aCons_len aNil_len))) (af_cons (dv 0) (af_cons (pd_bin od_add cm_add (bv 1) (db pd_int)) (af_cons pd_int af_nil)))))
      (sd_cons (sd_set sc_law_letter.nd rfl (.inl rfl) (pd_if (td_cmp (od_eq hu) cm_eq (nomark _) (db (pd_ok (ok_law_drawn c) tk (hr.mono (by decide)) rfl (aCons_len (aCons_len (aCons_len aNil_len))) (af_cons (dv 0) (af_cons (pd_bin od_add cm_add (bv 1) (db pd_int)) (af_cons pd_int af_nil))))) (db pd_int)) pd_non (pd_bin od_add cm_add (bv 6) (db (pd_ok (ok_law_drawn c) tk (hr.mono (by decide)) rfl (aCons_len (aCons_len (aCons_len aNil_len))) (af_cons (dv 0) (af_cons (pd_bin od_add cm_add (bv 1) (db pd_int)) (af_cons pd_int af_nil))))))))
      (sd_one (sd_ret (pd_tup (af_cons (pd_ix (od_ix hu) cm_ix (fun _ _ => rfl) (bv 3) (bv 4)) (af_cons (pd_ix (od_ix hu) cm_ix (fun _ _ => rfl) (bv 3) (bv 5)) (af_cons (dv 6) (af_cons (dv 7) af_nil)))))))))))))
theorem sc_law_record : FnScope ["_law_script", "_law_at", "_law_most", "_law_clocks", "_law_letters", "_law_k", "_law_letter_here"] ["_law_script", "_law_at", "_law_most"] (defScope (top 18)) := ⟨rfl, rfl, rfl, by decide +kernel, rfl, by decide +kernel, by decide +kernel⟩
theorem ok_law_record (c : C0 K mg) : OkF P w K mg base 4 "_law_record" ["_law_script", "_law_at", "_law_most"] F_law_record := by
  obtain ⟨fdn, F⟩ := c.def_ 5
  refine ⟨fdn, fn_d F sc_law_record fun cdv A outer s H E hr => ?_, F.bindsN (ps := ["_law_script", "_law_at", "_law_most"]) fun _ _ _ _ _ _ us hl => match us, hl with | [_, _, _], _ => rfl, c.glo 23, F.kp⟩
  have tk : Takes (cxOf (L2.CX P w) P w K mg base ["_law_script", "_law_at", "_law_most", "_law_clocks", "_law_letters", "_law_k", "_law_letter_here"] "_law_record" (defScope (top 18)) (He.ga K "_law_record") cdv A outer s H E) (fun cls d _ H => E cls d H) := takes_of rfl rfl rfl rfl
  have hp := passes_of (X := cxOf (L2.CX P w) P w K mg base ["_law_script", "_law_at", "_law_most", "_law_clocks", "_law_letters", "_law_k", "_law_letter_here"] "_law_record" (defScope (top 18)) (He.ga K "_law_record") cdv A outer s H E) rfl
  have hu := hr.u
  exact (sd_cons (sd_set sc_law_record.nd rfl (.inl rfl) (pd_callTy cd_tup cm_tup rfl (c.free 3) (by decide +kernel) (aw_cons (fb (pf_lc (own := [("_law_k", 5)]) rfl sc_law_record.nd (id_rng1 rfl (c.free 13) (aw_cons (db (pd_bin od_add cm_add (db pd_int) (db (pd_ok (ok_law_drawn c) tk (hr.mono (by decide)) rfl (aCons_len (aCons_len (aCons_len aNil_len))) (af_cons (dv 0) (af_cons (dv 1) (af_cons pd_int af_nil))))))) aw_nil)) (blkOk_by (own := [("_law_k", 5)]) (by show blkC ["_law_script", "_law_at", "_law_most", "_law_clocks", "_law_letters", "_law_k", "_law_letter_here"] (defScope (top 18)) _ _ = true; decide +kernel)) (fun _ _ _ _ _ => (gd_name sc_law_record.nd rfl (.inl rfl))) (fun _ _ _ _ _ => tds_nil) (fun _ _ _ _ _ => (pd_ok (ok_law_clock c) takes0 (hr.mono (by decide)) rfl (aCons_len (aCons_len aNil_len)) (af_cons (dv 0) (af_cons (pd_bin od_add cm_add (db (pd_bin od_add cm_add (bv 1) (db pd_int))) (db (pd_bin od_mul cm_mul (db pd_int) (bv 5)))) af_nil)))))) aw_nil)))
      (sd_cons (sd_set sc_law_record.nd rfl (.inl rfl) (fd (pf_lst af_nil)))
      (sd_cons (sd_for hp rfl (id_rng1 rfl (c.free 13) (aw_cons (db (pd_ok (ok_law_drawn c) tk (hr.mono (by decide)) rfl (aCons_len (aCons_len (aCons_len aNil_len))) (af_cons (dv 0) (af_cons (pd_bin od_add cm_add (bv 1) (db pd_int)) (af_cons (pd_bin od_add cm_add (bv 2) (db pd_int)) af_nil))))) aw_nil)) (gd_name sc_law_record.nd rfl (.inl rfl))
      (sd_cons (sd_set sc_law_record.nd rfl (.inl rfl) (pd_ok (ok_law_letter c) tk (hr.mono (by decide)) rfl (aCons_len (aCons_len (aCons_len aNil_len))) (af_cons (dv 0) (af_cons (pd_bin od_add cm_add (db (pd_bin od_add cm_add (bv 1) (db pd_int))) (db (pd_bin od_mul cm_mul (db pd_int) (bv 5)))) (af_cons (dv 3) af_nil)))))
      (sd_one (sd_set sc_law_record.nd rfl (.inl rfl) (pd_bin od_add cm_add (bv 4) (db (pd_bin od_mul cm_mul (fb (pf_lst (af_cons (dv 6) af_nil))) (db (pd_callTy cd_int cm_int rfl (c.free 1) (by decide +kernel) (aw_cons (db (pd_notN (bv 6))) aw_nil))))))))))
      (sd_one (sd_ret (pd_tup (af_cons (dv 3) (af_cons (pd_callTy cd_tup cm_tup rfl (c.free 3) (by decide +kernel) (aw_cons (bv 4) aw_nil)) af_nil))))))))
theorem sc_is_number : FnScope ["thing", "low", "high"] ["thing", "low", "high"] (defScope (top 7)) := ⟨rfl, rfl, rfl, by decide +kernel, rfl, by decide +kernel, by decide +kernel⟩
theorem ok_is_number (c : C0 K mg) : OkF P w K mg base 1 "is_number" ["thing", "low", "high"] F_is_number := by
  obtain ⟨fdn, F⟩ := c.def_ 6
  refine ⟨fdn, fn_d F sc_is_number fun cdv A outer s H E hr => ?_, F.bindsN (ps := ["thing", "low", "high"]) fun _ _ _ _ _ _ us hl => match us, hl with | [_, _, _], _ => rfl, c.glo 24, F.kp⟩
  have tk : Takes (cxOf (L2.CX P w) P w K mg base ["thing", "low", "high"] "is_number" (defScope (top 7)) (He.ga K "is_number") cdv A outer s H E) (fun cls d _ H => E cls d H) := takes_of rfl rfl rfl rfl
  have hp := passes_of (X := cxOf (L2.CX P w) P w K mg base ["thing", "low", "high"] "is_number" (defScope (top 7)) (He.ga K "is_number") cdv A outer s H E) rfl
  have hu := hr.u
  exact (sd_one (sd_ret (pd_and (pd_isI (Ts := "int") (eW 0) (by decide) rfl (c.free 0) rfl (c.free 1) (by decide +kernel) (bv 0)) (pd_and (pd_not (pd_isI (Ts := "bool") (eW 0) (by decide) rfl (c.free 0) rfl (c.free 2) (by decide +kernel) (bv 0))) (pd_one (pd_chain od_le od_le dI_calm dI_calm (bv 1) (bv 0) (bv 2)))))))
theorem sc_is_clock : FnScope ["thing", "readings", "one", "other"] ["thing"] (defScope (top 8)) := ⟨rfl, rfl, rfl, by decide +kernel, rfl, by decide +kernel, by decide +kernel⟩
theorem ok_is_clock (c : C0 K mg) : OkF P w K mg base 2 "is_clock" ["thing"] F_is_clock := by
  obtain ⟨fdn, F⟩ := c.def_ 7
  refine ⟨fdn, fn_d F sc_is_clock fun cdv A outer s H E hr => ?_, F.bindsN (ps := ["thing"]) fun _ _ _ _ _ _ us hl => match us, hl with | [_], _ => rfl, c.glo 25, F.kp⟩
  have tk : Takes (cxOf (L2.CX P w) P w K mg base ["thing", "readings", "one", "other"] "is_clock" (defScope (top 8)) (He.ga K "is_clock") cdv A outer s H E) (fun cls d _ H => E cls d H) := takes_of rfl rfl rfl rfl
  have hp := passes_of (X := cxOf (L2.CX P w) P w K mg base ["thing", "readings", "one", "other"] "is_clock" (defScope (top 8)) (He.ga K "is_clock") cdv A outer s H E) rfl
  have hu := hr.u
  exact (sd_cons (sd_if (PW.pt (wd_or (td_not (td (pd_isI (Ts := "tuple") (eW 0) (by decide) rfl (c.free 0) rfl (c.free 3) (by decide +kernel) (bv 0)))) (wd_or (td_cmp (od_ne hu) cm_ne (nomark _) (db (pd_callB cd_len cm_len rfl (c.free 4) (by decide +kernel) (aw_cons (bv 0) aw_nil))) (db pd_int)) (wd_or1 (td_not (td (pd_ok (ok_is_number c) tk (hr.mono (by decide)) rfl (aCons_len (aCons_len (aCons_len aNil_len))) (af_cons (pd_ix (od_ix hu) cm_ix (fun _ _ => rfl) (bv 0) (db pd_int)) (af_cons pd_int (af_cons (pd_gint rfl (c.int 5)) af_nil))))))))))
      (sd_one (sd_ret pd_bl))
      sd_nil)
      (sd_cons (sd_if (PW.pt (wd_or (td_not (td (pd_ok (ok_is_number c) tk (hr.mono (by decide)) rfl (aCons_len (aCons_len (aCons_len aNil_len))) (af_cons (pd_ix (od_ix hu) cm_ix (fun _ _ => rfl) (bv 0) (db pd_int)) (af_cons (pd_ix (od_ix hu) cm_ix (fun _ _ => rfl) (bv 0) (db pd_int)) (af_cons (pd_gint rfl (c.int 5)) af_nil)))))) (wd_or1 (td_not (td (pd_isI (Ts := "tuple") (eBin dIx (eW 0) (eC (.int 2))) (by decide) rfl (c.free 0) rfl (c.free 3) (by decide +kernel) (db (pd_ix (od_ix hu) cm_ix (fun _ _ => rfl) (bv 0) (db pd_int)))))))))
      (sd_one (sd_ret pd_bl))
      sd_nil)
      (sd_cons (sd_set sc_is_clock.nd rfl (.inl rfl) (pd_ix (od_ix hu) cm_ix (fun _ _ => rfl) (bv 0) (db pd_int)))
      (sd_cons (sd_if (PW.pt (wd_or (td_not (td_chain od_le od_le dI_calm dI_calm (db pd_int) (db (pd_callB cd_len cm_len rfl (c.free 4) (by decide +kernel) (aw_cons (bv 1) aw_nil))) (db (pd_gint rfl (c.int 6))))) (wd_or1 (td_not (td (pd_callB (cd_all rfl) cm_all rfl (c.free 8) (by decide +kernel) (aw_cons (fb (pf_lc (own := [("one", 2)]) rfl sc_is_clock.nd (id_seq (dv 1)) (blkOk_by (own := [("one", 2)]) (by show blkC ["thing", "readings", "one", "other"] (defScope (top 8)) _ _ = true; decide +kernel)) (fun _ _ _ _ _ => (gd_name sc_is_clock.nd rfl (.inl rfl))) (fun _ _ _ _ _ => tds_nil) (fun _ _ _ _ _ => (pd_ok (ok_is_number c) takes0 (hr.mono (by decide)) rfl (aCons_len (aCons_len (aCons_len aNil_len))) (af_cons (dv 2) (af_cons pd_int (af_cons (pd_gint rfl (c.int 7)) af_nil))))))) aw_nil)))))))
      (sd_one (sd_ret pd_bl))
      sd_nil)
      (sd_one (sd_ret (pd_callB (cd_all rfl) cm_all rfl (c.free 8) (by decide +kernel) (aw_cons (fb (pf_lc (own := [("one", 2), ("other", 3)]) rfl sc_is_clock.nd (id_zip rfl (c.free 9) (af_cons (dv 1) (af_cons (pd_sl sl_any cm_sl (bv 1) (pod_some pd_int) pod_none) af_nil))) (blkOk_by (own := [("one", 2), ("other", 3)]) (by show blkC ["thing", "readings", "one", "other"] (defScope (top 8)) _ _ = true; decide +kernel)) (fun _ _ _ _ _ => (gd_tup rfl (gds_cons (gd_name sc_is_clock.nd rfl (.inl rfl)) (gds_cons (gd_name sc_is_clock.nd rfl (.inl rfl)) gds_nil)))) (fun _ _ _ _ _ => tds_nil) (fun _ _ _ _ _ => (pd_cmp od_lt dI_calm (nomark _) (bv 2) (bv 3))))) aw_nil))))))))
theorem sc_is_event : FnScope ["clocks", "thing"] ["clocks", "thing"] (defScope (top 9)) := ⟨rfl, rfl, rfl, by decide +kernel, rfl, by decide +kernel, by decide +kernel⟩
theorem ok_is_event (c : C0 K mg) : OkF P w K mg base 2 "is_event" ["clocks", "thing"] F_is_event := by
  obtain ⟨fdn, F⟩ := c.def_ 8
  refine ⟨fdn, fn_d F sc_is_event fun cdv A outer s H E hr => ?_, F.bindsN (ps := ["clocks", "thing"]) fun _ _ _ _ _ _ us hl => match us, hl with | [_, _], _ => rfl, c.glo 26, F.kp⟩
  have tk : Takes (cxOf (L2.CX P w) P w K mg base ["clocks", "thing"] "is_event" (defScope (top 9)) (He.ga K "is_event") cdv A outer s H E) (fun cls d _ H => E cls d H) := takes_of rfl rfl rfl rfl
  have hp := passes_of (X := cxOf (L2.CX P w) P w K mg base ["clocks", "thing"] "is_event" (defScope (top 9)) (He.ga K "is_event") cdv A outer s H E) rfl
  have hu := hr.u
  exact (sd_cons (sd_if (PW.pt (wd_or (td_not (td (pd_isI (Ts := "tuple") (eW 1) (by decide) rfl (c.free 0) rfl (c.free 3) (by decide +kernel) (bv 1)))) (wd_or (td_cmp (od_ne hu) cm_ne (nomark _) (db (pd_callB cd_len cm_len rfl (c.free 4) (by decide +kernel) (aw_cons (bv 1) aw_nil))) (db pd_int)) (wd_or1 (td_not (td (pd_ok (ok_is_number c) tk (hr.mono (by decide)) rfl (aCons_len (aCons_len (aCons_len aNil_len))) (af_cons (pd_ix (od_ix hu) cm_ix (fun _ _ => rfl) (bv 1) (db pd_int)) (af_cons pd_int (af_cons (pd_bin od_sub dI_calm (db (pd_callB cd_len cm_len rfl (c.free 4) (by decide +kernel) (aw_cons (bv 0) aw_nil))) (db pd_int)) af_nil))))))))))
      (sd_one (sd_ret pd_bl))
      sd_nil)
      (sd_one (sd_ret (pd_ok (ok_is_number c) tk (hr.mono (by decide)) rfl (aCons_len (aCons_len (aCons_len aNil_len))) (af_cons (pd_ix (od_ix hu) cm_ix (fun _ _ => rfl) (bv 1) (db pd_int)) (af_cons pd_int (af_cons (pd_bin od_sub dI_calm (db (pd_callB cd_len cm_len rfl (c.free 4) (by decide +kernel) (aw_cons (db (pd_ix (od_ix hu) cm_ix (fun _ _ => rfl) (db (pd_ix (od_ix hu) cm_ix (fun _ _ => rfl) (bv 0) (db (pd_ix (od_ix hu) cm_ix (fun _ _ => rfl) (bv 1) (db pd_int))))) (db pd_int))) aw_nil))) (db pd_int)) af_nil)))))))
theorem sc_is_letter : FnScope ["clocks", "thing"] ["clocks", "thing"] (defScope (top 10)) := ⟨rfl, rfl, rfl, by decide +kernel, rfl, by decide +kernel, by decide +kernel⟩
theorem ok_is_letter (c : C0 K mg) : OkF P w K mg base 3 "is_letter" ["clocks", "thing"] F_is_letter := by
  obtain ⟨fdn, F⟩ := c.def_ 9
  refine ⟨fdn, fn_d F sc_is_letter fun cdv A outer s H E hr => ?_, F.bindsN (ps := ["clocks", "thing"]) fun _ _ _ _ _ _ us hl => match us, hl with | [_, _], _ => rfl, c.glo 27, F.kp⟩
  have tk : Takes (cxOf (L2.CX P w) P w K mg base ["clocks", "thing"] "is_letter" (defScope (top 10)) (He.ga K "is_letter") cdv A outer s H E) (fun cls d _ H => E cls d H) := takes_of rfl rfl rfl rfl
  have hp := passes_of (X := cxOf (L2.CX P w) P w K mg base ["clocks", "thing"] "is_letter" (defScope (top 10)) (He.ga K "is_letter") cdv A outer s H E) rfl
  have hu := hr.u
  exact (sd_cons (sd_if (PW.pt (wd_or (td_not (td (pd_isI (Ts := "tuple") (eW 1) (by decide) rfl (c.free 0) rfl (c.free 3) (by decide +kernel) (bv 1)))) (wd_or (td_cmp (od_ne hu) cm_ne (nomark _) (db (pd_callB cd_len cm_len rfl (c.free 4) (by decide +kernel) (aw_cons (bv 1) aw_nil))) (db pd_int)) (wd_or1 (td_not (td (pd_ok (ok_is_number c) tk (hr.mono (by decide)) rfl (aCons_len (aCons_len (aCons_len aNil_len))) (af_cons (pd_ix (od_ix hu) cm_ix (fun _ _ => rfl) (bv 1) (db pd_int)) (af_cons pd_int (af_cons (pd_gint rfl (c.int 10)) af_nil))))))))))
      (sd_one (sd_ret pd_bl))
      sd_nil)
      (sd_cons (sd_if (PW.pt (wd_or (td_not (td (pd_ok (ok_is_event c) tk (hr.mono (by decide)) rfl (aCons_len (aCons_len aNil_len)) (af_cons (dv 0) (af_cons (pd_ix (od_ix hu) cm_ix (fun _ _ => rfl) (bv 1) (db pd_int)) af_nil))))) (wd_or (td_not (td (pd_ok (ok_is_event c) tk (hr.mono (by decide)) rfl (aCons_len (aCons_len aNil_len)) (af_cons (dv 0) (af_cons (pd_ix (od_ix hu) cm_ix (fun _ _ => rfl) (bv 1) (db pd_int)) af_nil))))) (wd_or1 (td_cmp (od_eq hu) cm_eq (nomark _) (db (pd_ix (od_ix hu) cm_ix (fun _ _ => rfl) (bv 1) (db pd_int))) (db (pd_ix (od_ix hu) cm_ix (fun _ _ => rfl) (bv 1) (db pd_int))))))))
      (sd_one (sd_ret pd_bl))
      sd_nil)
      (sd_one (sd_ret (pd_or (pd_isN (db (pd_ix (od_ix hu) cm_ix (fun _ _ => rfl) (bv 1) (db pd_int)))) (pd_one (pd_ok (ok_is_number c) tk (hr.mono (by decide)) rfl (aCons_len (aCons_len (aCons_len aNil_len))) (af_cons (pd_ix (od_ix hu) cm_ix (fun _ _ => rfl) (bv 1) (db pd_int)) (af_cons (pd_ix (od_ix hu) cm_ix (fun _ _ => rfl) (bv 1) (db pd_int)) (af_cons (pd_gint rfl (c.int 10)) af_nil))))))))))
theorem sc_is_record : FnScope ["thing", "one"] ["thing"] (defScope (top 11)) := ⟨rfl, rfl, rfl, by decide +kernel, rfl, by decide +kernel, by decide +kernel⟩
theorem ok_is_record (c : C0 K mg) : OkF P w K mg base 4 "is_record" ["thing"] F_is_record := by
  obtain ⟨fdn, F⟩ := c.def_ 10
  refine ⟨fdn, fn_d F sc_is_record fun cdv A outer s H E hr => ?_, F.bindsN (ps := ["thing"]) fun _ _ _ _ _ _ us hl => match us, hl with | [_], _ => rfl, c.glo 28, F.kp⟩
  have tk : Takes (cxOf (L2.CX P w) P w K mg base ["thing", "one"] "is_record" (defScope (top 11)) (He.ga K "is_record") cdv A outer s H E) (fun cls d _ H => E cls d H) := takes_of rfl rfl rfl rfl
  have hp := passes_of (X := cxOf (L2.CX P w) P w K mg base ["thing", "one"] "is_record" (defScope (top 11)) (He.ga K "is_record") cdv A outer s H E) rfl
  have hu := hr.u
  exact (sd_cons (sd_if (PW.pt (wd_or (td_not (td (pd_isI (Ts := "tuple") (eW 0) (by decide) rfl (c.free 0) rfl (c.free 3) (by decide +kernel) (bv 0)))) (wd_or (td_cmp (od_ne hu) cm_ne (nomark _) (db (pd_callB cd_len cm_len rfl (c.free 4) (by decide +kernel) (aw_cons (bv 0) aw_nil))) (db pd_int)) (wd_or1 (td_not (td (pd_isI (Ts := "tuple") (eBin dIx (eW 0) (eC (.int 0))) (by decide) rfl (c.free 0) rfl (c.free 3) (by decide +kernel) (db (pd_ix (od_ix hu) cm_ix (fun _ _ => rfl) (bv 0) (db pd_int))))))))))
      (sd_one (sd_ret pd_bl))
      sd_nil)
      (sd_cons (sd_if (PW.pt (wd_or (td_not (td_chain od_le od_le dI_calm dI_calm (db pd_int) (db (pd_callB cd_len cm_len rfl (c.free 4) (by decide +kernel) (aw_cons (db (pd_ix (od_ix hu) cm_ix (fun _ _ => rfl) (bv 0) (db pd_int))) aw_nil))) (db (pd_gint rfl (c.int 11))))) (wd_or1 (td_not (td (pd_callB (cd_all rfl) cm_all rfl (c.free 8) (by decide +kernel) (aw_cons (fb (pf_lc (own := [("one", 1)]) rfl sc_is_record.nd (id_seq (pd_ix (od_ix hu) cm_ix (fun _ _ => rfl) (bv 0) (db pd_int))) (blkOk_by (own := [("one", 1)]) (by show blkC ["thing", "one"] (defScope (top 11)) _ _ = true; decide +kernel)) (fun _ _ _ _ _ => (gd_name sc_is_record.nd rfl (.inl rfl))) (fun _ _ _ _ _ => tds_nil) (fun _ _ _ _ _ => (pd_ok (ok_is_clock c) takes0 (hr.mono (by decide)) rfl (aCons_len aNil_len) (af_cons (dv 1) af_nil))))) aw_nil)))))))
      (sd_one (sd_ret pd_bl))
      sd_nil)
      (sd_cons (sd_if (PW.pt (wd_or (td_not (td (pd_isI (Ts := "tuple") (eBin dIx (eW 0) (eC (.int 1))) (by decide) rfl (c.free 0) rfl (c.free 3) (by decide +kernel) (db (pd_ix (od_ix hu) cm_ix (fun _ _ => rfl) (bv 0) (db pd_int)))))) (wd_or1 (td_cmp od_gt dI_calm (nomark _) (db (pd_callB cd_len cm_len rfl (c.free 4) (by decide +kernel) (aw_cons (db (pd_ix (od_ix hu) cm_ix (fun _ _ => rfl) (bv 0) (db pd_int))) aw_nil))) (db (pd_gint rfl (c.int 12)))))))
      (sd_one (sd_ret pd_bl))
      sd_nil)
      (sd_one (sd_ret (pd_callB (cd_all rfl) cm_all rfl (c.free 8) (by decide +kernel) (aw_cons (fb (pf_lc (own := [("one", 1)]) rfl sc_is_record.nd (id_seq (pd_ix (od_ix hu) cm_ix (fun _ _ => rfl) (bv 0) (db pd_int))) (blkOk_by (own := [("one", 1)]) (by show blkC ["thing", "one"] (defScope (top 11)) _ _ = true; decide +kernel)) (fun _ _ _ _ _ => (gd_name sc_is_record.nd rfl (.inl rfl))) (fun _ _ _ _ _ => tds_nil) (fun _ _ _ _ _ => (pd_ok (ok_is_letter c) takes0 (hr.mono (by decide)) rfl (aCons_len (aCons_len aNil_len)) (af_cons (pd_ix (od_ix hu) cm_ix (fun _ _ => rfl) (bv 0) (db pd_int)) (af_cons (dv 1) af_nil)))))) aw_nil)))))))
theorem sc_law_number : FnScope ["_law_thing", "_law_low", "_law_high"] ["_law_thing", "_law_low", "_law_high"] (defScope (top 19)) := ⟨rfl, rfl, rfl, by decide +kernel, rfl, by decide +kernel, by decide +kernel⟩
theorem ok_law_number (c : C0 K mg) : OkF P w K mg base 1 "_law_number" ["_law_thing", "_law_low", "_law_high"] F_law_number_k01 := by
  obtain ⟨fdn, F⟩ := c.def_ 11
  refine ⟨fdn, fn_d F sc_law_number fun cdv A outer s H E hr => ?_, F.bindsN (ps := ["_law_thing", "_law_low", "_law_high"]) fun _ _ _ _ _ _ us hl => match us, hl with | [_, _, _], _ => rfl, c.glo 29, F.kp⟩
  have tk : Takes (cxOf (L2.CX P w) P w K mg base ["_law_thing", "_law_low", "_law_high"] "_law_number" (defScope (top 19)) (He.ga K "_law_number") cdv A outer s H E) (fun cls d _ H => E cls d H) := takes_of rfl rfl rfl rfl
  have hp := passes_of (X := cxOf (L2.CX P w) P w K mg base ["_law_thing", "_law_low", "_law_high"] "_law_number" (defScope (top 19)) (He.ga K "_law_number") cdv A outer s H E) rfl
  have hu := hr.u
  exact (sd_one (sd_ret (pd_and (pd_isI (Ts := "int") (eW 0) (by decide) rfl (c.free 0) rfl (c.free 1) (by decide +kernel) (bv 0)) (pd_and (pd_not (pd_isI (Ts := "bool") (eW 0) (by decide) rfl (c.free 0) rfl (c.free 2) (by decide +kernel) (bv 0))) (pd_one (pd_chain od_le od_le dI_calm dI_calm (bv 1) (bv 0) (bv 2)))))))
theorem sc_law_is_clock : FnScope ["_law_thing", "_law_one"] ["_law_thing"] (defScope (top 20)) := ⟨rfl, rfl, rfl, by decide +kernel, rfl, by decide +kernel, by decide +kernel⟩
theorem ok_law_is_clock (c : C0 K mg) : OkF P w K mg base 2 "_law_is_clock" ["_law_thing"] F_law_is_clock := by
  obtain ⟨fdn, F⟩ := c.def_ 12
  refine ⟨fdn, fn_d F sc_law_is_clock fun cdv A outer s H E hr => ?_, F.bindsN (ps := ["_law_thing"]) fun _ _ _ _ _ _ us hl => match us, hl with | [_], _ => rfl, c.glo 30, F.kp⟩
  have tk : Takes (cxOf (L2.CX P w) P w K mg base ["_law_thing", "_law_one"] "_law_is_clock" (defScope (top 20)) (He.ga K "_law_is_clock") cdv A outer s H E) (fun cls d _ H => E cls d H) := takes_of rfl rfl rfl rfl
  have hp := passes_of (X := cxOf (L2.CX P w) P w K mg base ["_law_thing", "_law_one"] "_law_is_clock" (defScope (top 20)) (He.ga K "_law_is_clock") cdv A outer s H E) rfl
  have hu := hr.u
  exact (sd_cons (sd_if (PW.pt (wd_or (td_not (td (pd_isI (Ts := "tuple") (eW 0) (by decide) rfl (c.free 0) rfl (c.free 3) (by decide +kernel) (bv 0)))) (wd_or (td_cmp (od_ne hu) cm_ne (nomark _) (db (pd_callB cd_len cm_len rfl (c.free 4) (by decide +kernel) (aw_cons (bv 0) aw_nil))) (db pd_int)) (wd_or1 (td_not (td (pd_ok (ok_law_number c) tk (hr.mono (by decide)) rfl (aCons_len (aCons_len (aCons_len aNil_len))) (af_cons (pd_ix (od_ix hu) cm_ix (fun _ _ => rfl) (bv 0) (db pd_int)) (af_cons pd_int (af_cons pd_int af_nil))))))))))
      (sd_one (sd_ret pd_bl))
      sd_nil)
      (sd_cons (sd_if (PW.pt (wd_or (td_not (td (pd_ok (ok_law_number c) tk (hr.mono (by decide)) rfl (aCons_len (aCons_len (aCons_len aNil_len))) (af_cons (pd_ix (od_ix hu) cm_ix (fun _ _ => rfl) (bv 0) (db pd_int)) (af_cons (pd_ix (od_ix hu) cm_ix (fun _ _ => rfl) (bv 0) (db pd_int)) (af_cons pd_int af_nil)))))) (wd_or (td_not (td (pd_isI (Ts := "tuple") (eBin dIx (eW 0) (eC (.int 2))) (by decide) rfl (c.free 0) rfl (c.free 3) (by decide +kernel) (db (pd_ix (od_ix hu) cm_ix (fun _ _ => rfl) (bv 0) (db pd_int)))))) (wd_or1 (td_not (td_chain od_le od_le dI_calm dI_calm (db pd_int) (db (pd_callB cd_len cm_len rfl (c.free 4) (by decide +kernel) (aw_cons (db (pd_ix (od_ix hu) cm_ix (fun _ _ => rfl) (bv 0) (db pd_int))) aw_nil))) (db pd_int)))))))
      (sd_one (sd_ret pd_bl))
      sd_nil)
      (sd_cons (sd_if (td_cmp (od_ne hu) cm_ne (nomark _) (fb (pf_lc (own := [("_law_one", 1)]) rfl sc_law_is_clock.nd (id_seq (pd_ix (od_ix hu) cm_ix (fun _ _ => rfl) (bv 0) (db pd_int))) (blkOk_by (own := [("_law_one", 1)]) (by show blkC ["_law_thing", "_law_one"] (defScope (top 20)) _ _ = true; decide +kernel)) (fun _ _ _ _ _ => (gd_name sc_law_is_clock.nd rfl (.inl rfl))) (fun _ _ _ _ _ => (tds_one (td_not (td (pd_ok (ok_law_number c) takes0 (hr.mono (by decide)) rfl (aCons_len (aCons_len (aCons_len aNil_len))) (af_cons (dv 1) (af_cons pd_int (af_cons pd_int af_nil)))))))) (fun _ _ _ _ _ => (dv 1)))) (fb (pf_lst af_nil)))
      (sd_one (sd_ret pd_bl))
      sd_nil)
      (sd_one (sd_ret (pd_cmp (od_eq hu) cm_eq (nomark _) (fb (pd_callTy cd_lst cm_lst rfl (c.free 15) (by decide +kernel) (aw_cons (db (pd_ix (od_ix hu) cm_ix (fun _ _ => rfl) (bv 0) (db pd_int))) aw_nil))) (fb (pf_sortset rfl hu rfl (c.free 16) rfl (c.free 17) (db (pd_ix (od_ix hu) cm_ix (fun _ _ => rfl) (bv 0) (db pd_int)))))))))))
theorem sc_law_is_record : FnScope ["_law_thing", "_law_row", "_law_letter_here", "_law_end", "_law_one", "_law_part"] ["_law_thing"] (defScope (top 21)) := ⟨rfl, rfl, rfl, by decide +kernel, rfl, by decide +kernel, by decide +kernel⟩
theorem ok_law_is_record (c : C0 K mg) : OkF P w K mg base 3 "_law_is_record" ["_law_thing"] F_law_is_record := by
  obtain ⟨fdn, F⟩ := c.def_ 13
  refine ⟨fdn, fn_d F sc_law_is_record fun cdv A outer s H E hr => ?_, F.bindsN (ps := ["_law_thing"]) fun _ _ _ _ _ _ us hl => match us, hl with | [_], _ => rfl, c.glo 31, F.kp⟩
  have tk : Takes (cxOf (L2.CX P w) P w K mg base ["_law_thing", "_law_row", "_law_letter_here", "_law_end", "_law_one", "_law_part"] "_law_is_record" (defScope (top 21)) (He.ga K "_law_is_record") cdv A outer s H E) (fun cls d _ H => E cls d H) := takes_of rfl rfl rfl rfl
  have hp := passes_of (X := cxOf (L2.CX P w) P w K mg base ["_law_thing", "_law_row", "_law_letter_here", "_law_end", "_law_one", "_law_part"] "_law_is_record" (defScope (top 21)) (He.ga K "_law_is_record") cdv A outer s H E) rfl
  have hu := hr.u
  exact (sd_cons (sd_if (PW.pt (wd_or (td_not (td (pd_isI (Ts := "tuple") (eW 0) (by decide) rfl (c.free 0) rfl (c.free 3) (by decide +kernel) (bv 0)))) (wd_or1 (td_cmp (od_ne hu) cm_ne (nomark _) (db (pd_callB cd_len cm_len rfl (c.free 4) (by decide +kernel) (aw_cons (bv 0) aw_nil))) (db pd_int)))))
      (sd_one (sd_ret pd_bl))
      sd_nil)
      (sd_cons (sd_if (PW.pt (wd_or (td_not (td (pd_isI (Ts := "tuple") (eBin dIx (eW 0) (eC (.int 0))) (by decide) rfl (c.free 0) rfl (c.free 3) (by decide +kernel) (db (pd_ix (od_ix hu) cm_ix (fun _ _ => rfl) (bv 0) (db pd_int)))))) (wd_or1 (td_not (td (pd_isI (Ts := "tuple") (eBin dIx (eW 0) (eC (.int 1))) (by decide) rfl (c.free 0) rfl (c.free 3) (by decide +kernel) (db (pd_ix (od_ix hu) cm_ix (fun _ _ => rfl) (bv 0) (db pd_int)))))))))
      (sd_one (sd_ret pd_bl))
      sd_nil)
      (sd_cons (sd_if (PW.pt (wd_or (td_not (td_chain od_le od_le dI_calm dI_calm (db pd_int) (db (pd_callB cd_len cm_len rfl (c.free 4) (by decide +kernel) (aw_cons (db (pd_ix (od_ix hu) cm_ix (fun _ _ => rfl) (bv 0) (db pd_int))) aw_nil))) (db pd_int))) (wd_or (td_cmp (od_ne hu) cm_ne (nomark _) (fb (pf_lc (own := [("_law_one", 4)]) rfl sc_law_is_record.nd (id_seq (pd_ix (od_ix hu) cm_ix (fun _ _ => rfl) (bv 0) (db pd_int))) (blkOk_by (own := [("_law_one", 4)]) (by show blkC ["_law_thing", "_law_row", "_law_letter_here", "_law_end", "_law_one", "_law_part"] (defScope (top 21)) _ _ = true; decide +kernel)) (fun _ _ _ _ _ => (gd_name sc_law_is_record.nd rfl (.inl rfl))) (fun _ _ _ _ _ => (tds_one (td_not (td (pd_ok (ok_law_is_clock c) takes0 (hr.mono (by decide)) rfl (aCons_len aNil_len) (af_cons (dv 4) af_nil)))))) (fun _ _ _ _ _ => (dv 4)))) (fb (pf_lst af_nil))) (wd_or1 (td_cmp od_gt dI_calm (nomark _) (db (pd_callB cd_len cm_len rfl (c.free 4) (by decide +kernel) (aw_cons (db (pd_ix (od_ix hu) cm_ix (fun _ _ => rfl) (bv 0) (db pd_int))) aw_nil))) (db pd_int))))))
      (sd_one (sd_ret pd_bl))
      sd_nil)
      (sd_cons (sd_set sc_law_is_record.nd rfl (.inl rfl) (pd_ok (ok_law_events c) tk (hr.mono (by decide)) rfl (aCons_len aNil_len) (af_cons (pd_ix (od_ix hu) cm_ix (fun _ _ => rfl) (bv 0) (db pd_int)) af_nil)))
      (sd_cons (sd_for hp rfl (id_seq (pd_ix (od_ix hu) cm_ix (fun _ _ => rfl) (bv 0) (db pd_int))) (gd_name sc_law_is_record.nd rfl (.inl rfl))
      (sd_cons (sd_if (PW.pt (wd_or (td_not (td (pd_isI (Ts := "tuple") (eW 2) (by decide) rfl (c.free 0) rfl (c.free 3) (by decide +kernel) (bv 2)))) (wd_or (td_cmp (od_ne hu) cm_ne (nomark _) (db (pd_callB cd_len cm_len rfl (c.free 4) (by decide +kernel) (aw_cons (bv 2) aw_nil))) (db pd_int)) (wd_or1 (td_not (td (pd_ok (ok_law_number c) tk (hr.mono (by decide)) rfl (aCons_len (aCons_len (aCons_len aNil_len))) (af_cons (pd_ix (od_ix hu) cm_ix (fun _ _ => rfl) (bv 2) (db pd_int)) (af_cons pd_int (af_cons pd_int af_nil))))))))))
      (sd_one (sd_ret pd_bl))
      sd_nil)
      (sd_cons (sd_for hp rfl (id_seq (pd_sl sl_any cm_sl (bv 2) pod_none (pod_some pd_int))) (gd_name sc_law_is_record.nd rfl (.inl rfl))
      (sd_cons (sd_if (td_not (td (pd_isI (Ts := "tuple") (eW 3) (by decide) rfl (c.free 0) rfl (c.free 3) (by decide +kernel) (bv 3))))
      (sd_one (sd_ret pd_bl))
      sd_nil)
      (sd_one (sd_if (PW.pt (wd_or (td_cmp (od_ne hu) cm_ne (nomark _) (fb (pf_lc (own := [("_law_part", 5)]) rfl sc_law_is_record.nd (id_seq (dv 3)) (blkOk_by (own := [("_law_part", 5)]) (by show blkC ["_law_thing", "_law_row", "_law_letter_here", "_law_end", "_law_one", "_law_part"] (defScope (top 21)) _ _ = true; decide +kernel)) (fun _ _ _ _ _ => (gd_name sc_law_is_record.nd rfl (.inl rfl))) (fun _ _ _ _ _ => (tds_one (td_not (td (pd_ok (ok_law_number c) takes0 (hr.mono (by decide)) rfl (aCons_len (aCons_len (aCons_len aNil_len))) (af_cons (dv 5) (af_cons pd_int (af_cons pd_int af_nil)))))))) (fun _ _ _ _ _ => (dv 5)))) (fb (pf_lst af_nil))) (wd_or1 (td_cmp (od_notIn hu) cm_notIn (by with_unfolding_all rfl) (bv 3) (bv 1)))))
      (sd_one (sd_ret pd_bl))
      sd_nil))))
      (sd_one (sd_if (PW.pt (wd_or (td_cmp (od_eq hu) cm_eq (nomark _) (db (pd_ix (od_ix hu) cm_ix (fun _ _ => rfl) (bv 2) (db pd_int))) (db (pd_ix (od_ix hu) cm_ix (fun _ _ => rfl) (bv 2) (db pd_int)))) (wd_or1 (PW.pt (wd_and (td_notN (db (pd_ix (od_ix hu) cm_ix (fun _ _ => rfl) (bv 2) (db pd_int)))) (wd_and1 (td_not (td (pd_ok (ok_law_number c) tk (hr.mono (by decide)) rfl (aCons_len (aCons_len (aCons_len aNil_len))) (af_cons (pd_ix (od_ix hu) cm_ix (fun _ _ => rfl) (bv 2) (db pd_int)) (af_cons (pd_ix (od_ix hu) cm_ix (fun _ _ => rfl) (bv 2) (db pd_int)) (af_cons pd_int af_nil))))))))))))
      (sd_one (sd_ret pd_bl))
      sd_nil)))))
      (sd_one (sd_ret pd_bl)))))))
theorem sc_law_spoilt : FnScope ["_law_script", "_law_at", "_law_thing", "_law_deep", "_law_place", "_law_part", "_law_some"] ["_law_script", "_law_at", "_law_thing", "_law_deep"] (defScope (top 22)) := ⟨rfl, rfl, rfl, by decide +kernel, rfl, by decide +kernel, by decide +kernel⟩
theorem ok_law_spoilt (c : C0 K mg) (d : Nat) : OkF P w K mg base (2 + d) "_law_spoilt" ["_law_script", "_law_at", "_law_thing", "_law_deep"] (F_law_spoilt_k01 d) := by
  induction d with
  | zero =>
    obtain ⟨fdn, F⟩ := c.def_ 14
    exact ⟨fdn, fn_bad, F.bindsN (ps := ["_law_script", "_law_at", "_law_thing", "_law_deep"]) fun _ _ _ _ _ _ us hl => match us, hl with | [_, _, _, _], _ => rfl, c.glo 32, F.kp⟩
  | succ d ih =>
    obtain ⟨fdn, F⟩ := c.def_ 14
    refine ⟨fdn, fn_d F sc_law_spoilt fun cdv A outer s H E hr => ?_, F.bindsN (ps := ["_law_script", "_law_at", "_law_thing", "_law_deep"]) fun _ _ _ _ _ _ us hl => match us, hl with | [_, _, _, _], _ => rfl, c.glo 32, F.kp⟩
    have hr : Room (2 + d) _ := hr
    have tk : Takes (cxOf (L2.CX P w) P w K mg base ["_law_script", "_law_at", "_law_thing", "_law_deep", "_law_place", "_law_part", "_law_some"] "_law_spoilt" (defScope (top 22)) (He.ga K "_law_spoilt") cdv A outer s H E) (fun cls d _ H => E cls d H) := takes_of rfl rfl rfl rfl
    have hp := passes_of (X := cxOf (L2.CX P w) P w K mg base ["_law_script", "_law_at", "_law_thing", "_law_deep", "_law_place", "_law_part", "_law_some"] "_law_spoilt" (defScope (top 22)) (He.ga K "_law_spoilt") cdv A outer s H E) rfl
    have hu := hr.u
    exact (sd_cons (sd_if (PW.pt (wd_and (td_cmp od_gt dI_calm (nomark _) (bv 3) (db pd_int)) (wd_and (td (pd_isI (Ts := "tuple") (eW 2) (by decide) rfl (c.free 0) rfl (c.free 3) (by decide +kernel) (bv 2))) (wd_and (td_cmp (od_ne hu) cm_ne (nomark _) (bv 2) (db (pd_tup af_nil))) (wd_and1 (td_cmp od_gt dI_calm (nomark _) (db (pd_ok (ok_law_drawn c) tk (hr.mono (by omega)) rfl (aCons_len (aCons_len (aCons_len aNil_len))) (af_cons (dv 0) (af_cons (dv 1) (af_cons pd_int af_nil))))) (db pd_int)))))))
      (sd_cons (sd_set sc_law_spoilt.nd rfl (.inl rfl) (pd_ok (ok_law_drawn c) tk (hr.mono (by omega)) rfl (aCons_len (aCons_len (aCons_len aNil_len))) (af_cons (dv 0) (af_cons (pd_bin od_add cm_add (bv 1) (db pd_int)) (af_cons (pd_callB cd_len cm_len rfl (c.free 4) (by decide +kernel) (aw_cons (bv 2) aw_nil)) af_nil)))))
      (sd_cons (sd_set sc_law_spoilt.nd rfl (.inl rfl) (pd_ok ih tk (hr.mono (by omega)) rfl (aCons_len (aCons_len (aCons_len (aCons_len aNil_len)))) (af_cons (dv 0) (af_cons (pd_bin od_add cm_add (bv 1) (db pd_int)) (af_cons (pd_ix (od_ix hu) cm_ix (fun _ _ => rfl) (bv 2) (bv 4)) (af_cons (pd_bin od_sub dI_calm (bv 3) (db pd_int)) af_nil))))))
      (sd_one (sd_ret (pd_bin od_add cm_add (db (pd_bin od_add cm_add (db (pd_sl sl_any cm_sl (bv 2) pod_none (pod_some (dv 4)))) (db (pd_tup (af_cons (dv 5) af_nil))))) (db (pd_sl sl_any cm_sl (bv 2) (pod_some (pd_bin od_add cm_add (bv 4) (db pd_int))) pod_none)))))))
      sd_nil)
      (sd_cons (sd_set sc_law_spoilt.nd rfl (.inl rfl) (fd (pf_lst (af_cons pd_non (af_cons pd_bl (af_cons pd_bl (af_cons (pd_neg (db pd_int)) (af_cons pd_int (af_cons pd_int (af_cons pd_int (af_cons pd_int (af_cons pd_int (af_cons pd_int (af_cons pd_int (af_cons pd_int (af_cons pd_int (af_cons pd_str (af_cons (pd_tup af_nil) (af_cons (fd (pf_lst af_nil)) (af_cons (pd_tup (af_cons pd_int (af_cons pd_int af_nil))) (af_cons (pd_tup (af_cons pd_int (af_cons pd_int af_nil))) (af_cons (pd_tup (af_cons pd_int (af_cons pd_int (af_cons (pd_tup (af_cons pd_int af_nil)) af_nil)))) af_nil))))))))))))))))))))))
      (sd_cons (sd_if (td (pd_isI (Ts := "tuple") (eW 2) (by decide) rfl (c.free 0) rfl (c.free 3) (by decide +kernel) (bv 2)))
      (sd_one (sd_set sc_law_spoilt.nd rfl (.inl rfl) (pd_bin od_add cm_add (bv 6) (fb (pf_lst (af_cons (fd (pd_callTy cd_lst cm_lst rfl (c.free 15) (by decide +kernel) (aw_cons (bv 2) aw_nil))) (af_cons (pd_rev (bv 2)) (af_cons (pd_bin od_add cm_add (bv 2) (bv 2)) (af_cons (pd_sl sl_any cm_sl (bv 2) (pod_some pd_int) pod_none) (af_cons (pd_bin od_add cm_add (bv 2) (db (pd_sl sl_any cm_sl (bv 2) (pod_some (pd_neg (db pd_int))) pod_none))) af_nil))))))))))
      sd_nil)
      (sd_one (sd_ret (pd_ix (od_ix hu) cm_ix (fun _ _ => rfl) (bv 6) (db (pd_ok (ok_law_drawn c) tk (hr.mono (by omega)) rfl (aCons_len (aCons_len (aCons_len aNil_len))) (af_cons (dv 0) (af_cons (pd_bin od_add cm_add (bv 1) (db pd_int)) (af_cons (pd_callB cd_len cm_len rfl (c.free 4) (by decide +kernel) (aw_cons (bv 6) aw_nil)) af_nil)))))))))))
theorem sc_law_each : FnScope ["_law_thing", "_law_found", "_law_place", "_law_part"] ["_law_thing"] (defScope (top 23)) := ⟨rfl, rfl, rfl, by decide +kernel, rfl, by decide +kernel, by decide +kernel⟩
theorem ok_law_each (c : C0 K mg) (d : Nat) : OkF P w K mg base (0 + d) "_law_each" ["_law_thing"] (F_law_each d) := by
  induction d with
  | zero =>
    obtain ⟨fdn, F⟩ := c.def_ 15
    exact ⟨fdn, fn_bad, F.bindsN (ps := ["_law_thing"]) fun _ _ _ _ _ _ us hl => match us, hl with | [_], _ => rfl, c.glo 33, F.kp⟩
  | succ d ih =>
    obtain ⟨fdn, F⟩ := c.def_ 15
    refine ⟨fdn, fn_d F sc_law_each fun cdv A outer s H E hr => ?_, F.bindsN (ps := ["_law_thing"]) fun _ _ _ _ _ _ us hl => match us, hl with | [_], _ => rfl, c.glo 33, F.kp⟩
    have hr : Room (0 + d) _ := hr
    have tk : Takes (cxOf (L2.CX P w) P w K mg base ["_law_thing", "_law_found", "_law_place", "_law_part"] "_law_each" (defScope (top 23)) (He.ga K "_law_each") cdv A outer s H E) (fun cls d _ H => E cls d H) := takes_of rfl rfl rfl rfl
    have hp := passes_of (X := cxOf (L2.CX P w) P w K mg base ["_law_thing", "_law_found", "_law_place", "_law_part"] "_law_each" (defScope (top 23)) (He.ga K "_law_each") cdv A outer s H E) rfl
    have hu := hr.u
    exact (sd_cons (sd_if (td (pd_isI (Ts := "int") (eW 0) (by decide) rfl (c.free 0) rfl (c.free 1) (by decide +kernel) (bv 0)))
      (sd_one (sd_ret (fd (pf_lst (af_cons pd_non (af_cons pd_bl (af_cons (pd_bin od_sub dI_calm (bv 0) (db pd_int)) (af_cons (pd_bin od_add cm_add (bv 0) (db pd_int)) (af_cons pd_int af_nil)))))))))
      sd_nil)
      (sd_cons (sd_if (td_not (td (pd_isI (Ts := "tuple") (eW 0) (by decide) rfl (c.free 0) rfl (c.free 3) (by decide +kernel) (bv 0))))
      (sd_one (sd_ret (fd (pf_lst (af_cons pd_non (af_cons pd_str (af_cons pd_str af_nil)))))))
      sd_nil)
      (sd_cons (sd_set sc_law_each.nd rfl (.inl rfl) (fd (pf_lst (af_cons pd_non (af_cons (fd (pd_callTy cd_lst cm_lst rfl (c.free 15) (by decide +kernel) (aw_cons (bv 0) aw_nil))) (af_cons (pd_bin od_add cm_add (bv 0) (db (pd_sl sl_any cm_sl (bv 0) (pod_some (pd_neg (db pd_int))) pod_none))) (af_cons (pd_sl sl_any cm_sl (bv 0) (pod_some pd_int) pod_none) af_nil)))))))
      (sd_cons (sd_for hp rfl (id_rng1 rfl (c.free 13) (aw_cons (db (pd_callB cd_len cm_len rfl (c.free 4) (by decide +kernel) (aw_cons (bv 0) aw_nil))) aw_nil)) (gd_name sc_law_each.nd rfl (.inr rfl))
      (sd_one (sd_set sc_law_each.nd rfl (.inl rfl) (pd_bin od_add cm_add (bv 1) (fb (pf_lc (own := [("_law_part", 3)]) rfl sc_law_each.nd (id_seq (pd_ok ih tk (hr.mono (by omega)) rfl (aCons_len aNil_len) (af_cons (pd_ix (od_ix hu) cm_ix (fun _ _ => rfl) (bv 0) (bv 2)) af_nil))) (blkOk_by (own := [("_law_part", 3)]) (by show blkC ["_law_thing", "_law_found", "_law_place", "_law_part"] (defScope (top 23)) _ _ = true; decide +kernel)) (fun _ _ _ _ _ => (gd_name sc_law_each.nd rfl (.inl rfl))) (fun _ _ _ _ _ => tds_nil) (fun _ _ _ _ _ => (pd_bin od_add cm_add (db (pd_bin od_add cm_add (db (pd_sl sl_any cm_sl (bv 0) pod_none (pod_some (dv 2)))) (db (pd_tup (af_cons (dv 3) af_nil))))) (db (pd_sl sl_any cm_sl (bv 0) (pod_some (pd_bin od_add cm_add (bv 2) (db pd_int))) pod_none))))))))))
      (sd_one (sd_ret (dv 1)))))))
theorem sc_law : FnScope ["_law_script", "_law_record_here", "_law_letters", "_law_k", "_law_spoilt_here", "_law_told", "_law_base", "_law_clock_here", "_law_one", "_law_letter_here"] ["_law_script"] (defScope (top 24)) := ⟨rfl, rfl, rfl, by decide +kernel, rfl, by decide +kernel, by decide +kernel⟩
theorem ok_law (c : C0 K mg) {fdn : FuncData} (F : FunD K dd_law.name dd_law.qual dd_law.params dd_law.body dd_law.scope (dd_law.dvs K) (dd_law.kws K) (He.fAd K dd_law.at_) fdn) : FnD P w K mg base 11 (He.ga K "law") fdn ["_law_script"] F_law_k01 := by
  refine fn_d F sc_law fun cdv A outer s H E hr => ?_
  have tk : Takes (cxOf (L2.CX P w) P w K mg base ["_law_script", "_law_record_here", "_law_letters", "_law_k", "_law_spoilt_here", "_law_told", "_law_base", "_law_clock_here", "_law_one", "_law_letter_here"] "law" (defScope (top 24)) (He.ga K "law") cdv A outer s H E) (fun cls d _ H => E cls d H) := takes_of rfl rfl rfl rfl
  have hp := passes_of (X := cxOf (L2.CX P w) P w K mg base ["_law_script", "_law_record_here", "_law_letters", "_law_k", "_law_spoilt_here", "_law_told", "_law_base", "_law_clock_here", "_law_one", "_law_letter_here"] "law" (defScope (top 24)) (He.ga K "law") cdv A outer s H E) rfl
  have hu := hr.u
  exact (sd_cons (sd_set sc_law.nd rfl (.inl rfl) (pd_ok (ok_law_record c) tk (hr.mono (by decide)) rfl (aCons_len (aCons_len (aCons_len aNil_len))) (af_cons (dv 0) (af_cons pd_int (af_cons pd_int af_nil)))))
      (sd_cons (sd_if (td_cmp (od_eq hu) cm_eq (nomark _) (db (pd_ok (ok_law_drawn c) tk (hr.mono (by decide)) rfl (aCons_len (aCons_len (aCons_len aNil_len))) (af_cons (dv 0) (af_cons pd_int (af_cons pd_int af_nil))))) (db pd_int))
      (sd_cons (sd_set sc_law.nd rfl (.inl rfl) (pd_callTy cd_tup cm_tup rfl (c.free 3) (by decide +kernel) (aw_cons (fb (pf_lc (own := [("_law_letter_here", 9)]) rfl sc_law.nd (id_seq (pd_ix (od_ix hu) cm_ix (fun _ _ => rfl) (bv 1) (db pd_int))) (blkOk_by (own := [("_law_letter_here", 9)]) (by show blkC ["_law_script", "_law_record_here", "_law_letters", "_law_k", "_law_spoilt_here", "_law_told", "_law_base", "_law_clock_here", "_law_one", "_law_letter_here"] (defScope (top 24)) _ _ = true; decide +kernel)) (fun _ _ _ _ _ => (gd_name sc_law.nd rfl (.inl rfl))) (fun _ _ _ _ _ => tds_nil) (fun _ _ _ _ _ => (pd_bin od_add cm_add (db (pd_sl sl_any cm_sl (bv 9) pod_none (pod_some pd_int))) (db (pd_tup (af_cons pd_int (af_cons (pd_if (td_isN (db (pd_ix (od_ix hu) cm_ix (fun _ _ => rfl) (bv 9) (db pd_int)))) pd_non pd_int) af_nil)))))))) aw_nil)))
      (sd_one (sd_set sc_law.nd rfl (.inl rfl) (pd_tup (af_cons (pd_bin od_add cm_add (db (pd_ix (od_ix hu) cm_ix (fun _ _ => rfl) (bv 1) (db pd_int))) (db (pd_tup (af_cons (pd_tup (af_cons pd_int (af_cons pd_int (af_cons (pd_tup (af_cons pd_int (af_cons pd_int (af_cons pd_int (af_cons pd_int af_nil))))) af_nil)))) af_nil)))) (af_cons (dv 2) af_nil))))))
      sd_nil)
      (sd_cons (sd_if (PW.pt (wd_or (td_not (td (pd_ok (ok_is_record c) tk (hr.mono (by decide)) rfl (aCons_len aNil_len) (af_cons (dv 1) af_nil)))) (wd_or1 (td_not (td (pd_ok (ok_law_is_record c) tk (hr.mono (by decide)) rfl (aCons_len aNil_len) (af_cons (dv 1) af_nil)))))))
      (sd_one (sd_ret pd_bl))
      sd_nil)
      (sd_cons (sd_for hp rfl (id_rng1 rfl (c.free 13) (aw_cons (db pd_int) aw_nil)) (gd_name sc_law.nd rfl (.inl rfl))
      (sd_cons (sd_set sc_law.nd rfl (.inl rfl) (pd_ok (ok_law_spoilt c 8) tk (hr.mono (by decide)) rfl (aCons_len (aCons_len (aCons_len (aCons_len aNil_len)))) (af_cons (dv 0) (af_cons (pd_bin od_add cm_add (db pd_int) (db (pd_bin od_mul cm_mul (db pd_int) (bv 3)))) (af_cons (dv 1) (af_cons (pd_bin od_add cm_add (db pd_int) (db (pd_bin od_mod dI_calm (bv 3) (db pd_int)))) af_nil))))))
      (sd_cons (sd_set sc_law.nd rfl (.inl rfl) (pd_ok (ok_is_record c) tk (hr.mono (by decide)) rfl (aCons_len aNil_len) (af_cons (dv 4) af_nil)))
      (sd_one (sd_if (PW.pt (wd_or (td_not (td (pd_isI (Ts := "bool") (eW 5) (by decide) rfl (c.free 0) rfl (c.free 2) (by decide +kernel) (bv 5)))) (wd_or1 (td_cmp (od_ne hu) cm_ne (nomark _) (bv 5) (db (pd_ok (ok_law_is_record c) tk (hr.mono (by decide)) rfl (aCons_len aNil_len) (af_cons (dv 4) af_nil)))))))
      (sd_one (sd_ret pd_bl))
      sd_nil)))))
      (sd_cons (sd_set sc_law.nd rfl (.inl rfl) (pd_tup (af_cons (pd_tup (af_cons (pd_tup (af_cons pd_int (af_cons pd_int (af_cons (pd_tup (af_cons pd_int (af_cons pd_int af_nil))) af_nil)))) af_nil)) (af_cons (pd_tup (af_cons (pd_tup (af_cons (pd_tup (af_cons pd_int (af_cons pd_int af_nil))) (af_cons (pd_tup (af_cons pd_int (af_cons pd_int af_nil))) (af_cons pd_int (af_cons pd_int af_nil))))) af_nil)) af_nil))))
      (sd_cons (sd_if (td_cmp (od_ne hu) cm_ne (nomark _) (fb (pf_lc (own := [("_law_one", 8)]) rfl sc_law.nd (id_seq (pd_bin od_add cm_add (fb (pf_lst (af_cons (dv 6) af_nil))) (db (pd_ok (ok_law_each c 8) tk (hr.mono (by decide)) rfl (aCons_len aNil_len) (af_cons (dv 6) af_nil))))) (blkOk_by (own := [("_law_one", 8)]) (by show blkC ["_law_script", "_law_record_here", "_law_letters", "_law_k", "_law_spoilt_here", "_law_told", "_law_base", "_law_clock_here", "_law_one", "_law_letter_here"] (defScope (top 24)) _ _ = true; decide +kernel)) (fun _ _ _ _ _ => (gd_name sc_law.nd rfl (.inl rfl))) (fun _ _ _ _ _ => (tds_one (td_cmp (od_ne hu) cm_ne (nomark _) (db (pd_ok (ok_is_record c) takes0 (hr.mono (by decide)) rfl (aCons_len aNil_len) (af_cons (dv 8) af_nil))) (db (pd_ok (ok_law_is_record c) takes0 (hr.mono (by decide)) rfl (aCons_len aNil_len) (af_cons (dv 8) af_nil)))))) (fun _ _ _ _ _ => (dv 8)))) (fb (pf_lst af_nil)))
      (sd_one (sd_ret pd_bl))
      sd_nil)
      (sd_cons (sd_set sc_law.nd rfl (.inl rfl) (pd_tup (af_cons pd_int (af_cons pd_int (af_cons (pd_tup (af_cons pd_int af_nil)) af_nil)))))
      (sd_one (sd_ret (pd_and (pd_ok (ok_is_record c) tk (hr.mono (by decide)) rfl (aCons_len aNil_len) (af_cons (pd_tup (af_cons (pd_bin od_mulA cm_mulA (db (pd_tup (af_cons (dv 7) af_nil))) (db pd_int)) (af_cons (pd_tup af_nil) af_nil))) af_nil)) (pd_and (pd_not (pd_ok (ok_is_record c) tk (hr.mono (by decide)) rfl (aCons_len aNil_len) (af_cons (pd_tup (af_cons (pd_bin od_mulA cm_mulA (db (pd_tup (af_cons (dv 7) af_nil))) (db pd_int)) (af_cons (pd_tup af_nil) af_nil))) af_nil))) (pd_one (pd_not (pd_ok (ok_is_record c) tk (hr.mono (by decide)) rfl (aCons_len aNil_len) (af_cons (pd_tup (af_cons (pd_tup af_nil) (af_cons (pd_tup af_nil) af_nil))) af_nil)))))))))))))))
end
end Wk
set_option Elab.async false
set_option linter.all false
set_option maxRecDepth 100000
set_option maxHeartbeats 0

namespace Wk
open PySem L2 Evl Fc PySem.Spec PyProof.Rows
def loose : List Str := (["MOST_CLOCKS", "MOST_READINGS", "MOST_READING", "MOST_RATE", "MOST_LETTERS", "MOST_TIME", "is_number", "is_clock", "is_event", "is_letter", "is_record", "_law_cell", "_law_drawn", "_law_clock", "_law_letter", "_law_events", "_law_record", "_law_number", "_law_is_clock", "_law_is_record", "_law_spoilt", "_law_each"] : List Str)
abbrev Rw : PySem.W.OpenRow := PySem.W.OpenLaw.row PySem.Challenge.rw_farclocks_k01_records
abbrev hk : PySem.W.Hook := He.hookD 5 fa fn
def ob (s : PySem.W.SharedT) : He.AlD := He.obsDG 5 fa fn (HandSHeadRun.getT s)
theorem run (w : World) : HandSHeadRun.RunEq Rw (PySem.W.view Rw.prog [24]) hk ob 6000 loose w := by
  intro os
  kernel_rfl
end Wk
set_option Elab.async false
set_option linter.all false
set_option maxRecDepth 100000
set_option maxHeartbeats 2000000
namespace Fc
open PySem L2 Evl PySem.Spec PyProof.Rows
/-! ### the functions over data, made ready to be reckoned with -/
def boolK {α : Type} (d : D) (a b z : α) : α := match d with
  | .bool true => a
  | .bool false => b
  | _ => z
@[simp] theorem boolK_b {α : Type} (c : Bool) (a b z : α) : boolK (.bool c) a b z = if c = true then a else b := by cases c <;> rfl
def rK (r : R D) (k : D → RS) (ρ : En) : RS := match r with
  | .ok d => k d
  | .er c => .er c ρ
  | .bad => .bad
@[simp] theorem rK_ok (d : D) (k : D → RS) (ρ : En) : rK (.ok d) k ρ = k d := rfl
@[simp] theorem rK_er (c : Str) (k : D → RS) (ρ : En) : rK (.er c) k ρ = .er c ρ := rfl
@[simp] theorem rK_bad (k : D → RS) (ρ : En) : rK .bad k ρ = .bad := rfl
@[simp] theorem rK_ite (c : Prop) [Decidable c] (a b : R D) (k : D → RS) (ρ : En) : rK (if c then a else b) k ρ = if c then rK a k ρ else rK b k ρ := by split <;> rfl
def seqK (r : RS) (N : DS) : RS := match r with
  | .nx ρ => N ρ
  | r => r
@[simp] theorem seqK_nx (ρ : En) (N : DS) : seqK (.nx ρ) N = N ρ := rfl
@[simp] theorem seqK_rt (d : D) (N : DS) : seqK (.rt d) N = .rt d := rfl
@[simp] theorem seqK_bk (ρ : En) (N : DS) : seqK (.bk ρ) N = .bk ρ := rfl
@[simp] theorem seqK_ct (ρ : En) (N : DS) : seqK (.ct ρ) N = .ct ρ := rfl
@[simp] theorem seqK_er (c : Str) (ρ : En) (N : DS) : seqK (.er c ρ) N = .er c ρ := rfl
@[simp] theorem seqK_bad (N : DS) : seqK .bad N = .bad := rfl
@[simp] theorem seqK_ite (c : Prop) [Decidable c] (a b : RS) (N : DS) : seqK (if c then a else b) N = if c then seqK a N else seqK b N := by split <;> rfl
def endF (r : RS) : R D := match r with
  | .nx _ => .ok .none
  | .rt d => .ok d
  | .er c _ => .er c
  | _ => .bad
@[simp] theorem endF_nx (ρ : En) : endF (.nx ρ) = .ok .none := rfl
@[simp] theorem endF_rt (d : D) : endF (.rt d) = .ok d := rfl
@[simp] theorem endF_er (c : Str) (ρ : En) : endF (.er c ρ) = .er c := rfl
@[simp] theorem endF_ite (c : Prop) [Decidable c] (a b : RS) : endF (if c then a else b) = if c then endF a else endF b := by split <;> rfl
@[simp] theorem bind_ite {α β : Type} (c : Prop) [Decidable c] (a b : R α) (k : α → R β) : (if c then a else b).bind k = if c then a.bind k else b.bind k := by split <;> rfl
theorem runF_eq (N n : Nat) (M : DS) (ds : List D) (h : ds.length = n) : runF N n M ds = endF (M (ds.map Slot.fz ++ List.replicate (N - n) Slot.un)) := by
  unfold runF
  rw [if_pos h]
  rfl
theorem runF_1 (N : Nat) (M : DS) (a : D) : runF N 1 M [a] = endF (M (.fz a :: List.replicate (N - 1) Slot.un)) := runF_eq N 1 M [a] rfl
theorem runF_2 (N : Nat) (M : DS) (a b : D) : runF N 2 M [a, b] = endF (M (.fz a :: .fz b :: List.replicate (N - 2) Slot.un)) := runF_eq N 2 M [a, b] rfl
theorem runF_3 (N : Nat) (M : DS) (a b c : D) : runF N 3 M [a, b, c] = endF (M (.fz a :: .fz b :: .fz c :: List.replicate (N - 3) Slot.un)) := runF_eq N 3 M [a, b, c] rfl
theorem runF_4 (N : Nat) (M : DS) (a b c d : D) : runF N 4 M [a, b, c, d] = endF (M (.fz a :: .fz b :: .fz c :: .fz d :: List.replicate (N - 4) Slot.un)) := runF_eq N 4 M [a, b, c, d] rfl
theorem runF_5 (N : Nat) (M : DS) (a b c d e : D) : runF N 5 M [a, b, c, d, e] = endF (M (.fz a :: .fz b :: .fz c :: .fz d :: .fz e :: List.replicate (N - 5) Slot.un)) := runF_eq N 5 M [a, b, c, d, e] rfl
@[simp] theorem sE_eq (m : DE) (k : D → DS) (ρ : En) : sE m k ρ = rK (m ρ) (fun d => k d ρ) ρ := rfl
@[simp] theorem sSeq_eq (M N : DS) (ρ : En) : sSeq M N ρ = seqK (M ρ) N := rfl
@[simp] theorem sRet_eq (m : DE) (ρ : En) : sRet m ρ = rK (m ρ) (fun d => .rt d) ρ := rfl
@[simp] theorem sDrop_eq (m : DE) (ρ : En) : sDrop m ρ = rK (m ρ) (fun _ => .nx ρ) ρ := rfl
@[simp] theorem sAsg_eq (i : Nat) (m : DE) (ρ : En) : sAsg i m ρ = rK (m ρ) (fun d => .nx (ρ.set i (.fz d))) ρ := rfl
@[simp] theorem sOwn_eq (i : Nat) (m : DE) (ρ : En) : sOwn i m ρ = rK (m ρ) (fun d => .nx (ρ.set i (.ow d))) ρ := rfl
@[simp] theorem sNext_eq (ρ : En) : sNext ρ = .nx ρ := rfl
@[simp] theorem sFrz_eq (i : Nat) (M : DS) (ρ : En) : sFrz i M ρ = M (frz i ρ) := rfl
@[simp] theorem sIf_eq (m : DE) (M N : DS) (ρ : En) : sIf m M N ρ = rK (m ρ) (fun d => boolK d (M ρ) (N ρ) .bad) ρ := by
  unfold sIf sE rK
  cases m ρ with
  | ok d =>
    simp only
    cases d with
    | bool b => cases b <;> rfl
    | _ => rfl
  | er c => rfl
  | bad => rfl
@[simp] theorem eC_eq (d : D) (ρ : En) : eC d ρ = .ok d := rfl
def rdV (s : Option Slot) : R D := match s with
  | some (.fz d) => .ok d
  | _ => .bad
def rdW (s : Option Slot) : R D := match s with
  | some (.fz d) => .ok d
  | some (.ow d) => .ok d
  | _ => .bad
@[simp] theorem rdV_fz (d : D) : rdV (some (.fz d)) = .ok d := rfl
@[simp] theorem rdW_fz (d : D) : rdW (some (.fz d)) = .ok d := rfl
@[simp] theorem rdW_ow (d : D) : rdW (some (.ow d)) = .ok d := rfl
@[simp] theorem eV_eq (i : Nat) (ρ : En) : eV i ρ = rdV ρ[i]? := rfl
@[simp] theorem eW_eq (i : Nat) (ρ : En) : eW i ρ = rdW ρ[i]? := rfl
@[simp] theorem eBin_eq (op : D → D → R D) (ma mb : DE) (ρ : En) : eBin op ma mb ρ = (ma ρ).bind fun x => (mb ρ).bind fun y => op x y := rfl
@[simp] theorem eU_eq (f : D → R D) (ma : DE) (ρ : En) : eU f ma ρ = (ma ρ).bind f := rfl
@[simp] theorem eAnd_eq (ma mb : DE) (ρ : En) : eAnd ma mb ρ = (ma ρ).bind fun d => boolK d (mb ρ) (.ok (.bool false)) .bad := by
  unfold eAnd boolK
  rfl
@[simp] theorem eOr_eq (ma mb : DE) (ρ : En) : eOr ma mb ρ = (ma ρ).bind fun d => boolK d (.ok (.bool true)) (mb ρ) .bad := by
  unfold eOr boolK
  rfl
@[simp] theorem eIf_eq (mc ma mb : DE) (ρ : En) : eIf mc ma mb ρ = (mc ρ).bind fun d => boolK d (ma ρ) (mb ρ) .bad := by
  unfold eIf boolK
  rfl
@[simp] theorem eChain_eq (f g : D → D → R D) (ma mb mc : DE) (ρ : En) : eChain f g ma mb mc ρ = (ma ρ).bind fun x => (mb ρ).bind fun y => (f x y).bind fun d => boolK d ((mc ρ).bind fun z => g y z) (.ok (.bool false)) .bad := by
  unfold eChain boolK
  rfl
@[simp] theorem aNil_eq (ρ : En) : aNil ρ = .ok [] := rfl
@[simp] theorem aCons_eq (ma : DE) (mr : DA) (ρ : En) : aCons ma mr ρ = (ma ρ).bind fun d => (mr ρ).bind fun ds => .ok (d :: ds) := rfl
@[simp] theorem eDef_eq (g : List D → R D) (ms : DA) (ρ : En) : eDef g ms ρ = (ms ρ).bind g := rfl
@[simp] theorem eCall_eq (g : List D → R D) (ms : DA) (ρ : En) : eCall g ms ρ = (ms ρ).bind g := rfl
@[simp] theorem eTup_eq (ms : DA) (ρ : En) : eTup ms ρ = (ms ρ).bind fun ds => if szB ds.length = true then .ok (.tuple ds) else .bad := rfl
@[simp] theorem eLst_eq (ms : DA) (ρ : En) : eLst ms ρ = (ms ρ).bind fun ds => if szB ds.length = true then .ok (.list ds) else .bad := rfl
@[simp] theorem iArgs_eq (f : List D → R (List D)) (ms : DA) (ρ : En) : iArgs f ms ρ = (ms ρ).bind f := rfl
@[simp] theorem iSeq_eq (m : DE) (ρ : En) : iSeq m ρ = (m ρ).bind dSeq := rfl
@[simp] theorem dSeq_l (ds : List D) : dSeq (.list ds) = .ok ds := rfl
@[simp] theorem dSeq_t (ds : List D) : dSeq (.tuple ds) = .ok ds := rfl
@[simp] theorem gN_eq (i : Nat) (d : D) (ρ : En) : gN i d ρ = some (ρ.set i (.fz d)) := rfl
@[simp] theorem eT_eq (ρ : En) : eT ρ = .ok (.bool true) := rfl
@[simp] theorem eSl_eq (f : D → Option Int → Option Int → R D) (ma : DE) (ml mh : DO) (ρ : En) : eSl f ma ml mh ρ = (ma ρ).bind fun x => (ml ρ).bind fun lo => (mh ρ).bind fun hi => f x lo hi := rfl
@[simp] theorem oNone_eq (ρ : En) : oNone ρ = .ok none := rfl
def toI (d : D) : R (Option Int) := match d with
  | .int i => .ok (some i)
  | _ => .bad
@[simp] theorem toI_i (i : Int) : toI (.int i) = .ok (some i) := rfl
@[simp] theorem oSome_eq (m : DE) (ρ : En) : oSome m ρ = (m ρ).bind toI := rfl
/-! ### the operators at ints -/
@[simp] theorem dAdd_i (a b : Int) : dAdd (.int a) (.int b) = .ok (.int (a + b)) := rfl
@[simp] theorem dSub_i (a b : Int) : dSub (.int a) (.int b) = .ok (.int (a - b)) := rfl
@[simp] theorem dLt_i (a b : Int) : dLt (.int a) (.int b) = .ok (.bool (decide (a < b))) := rfl
@[simp] theorem dLe_i (a b : Int) : dLe (.int a) (.int b) = .ok (.bool (decide (a ≤ b))) := rfl
@[simp] theorem dGt_i (a b : Int) : dGt (.int a) (.int b) = .ok (.bool (decide (b < a))) := rfl
@[simp] theorem dGe_i (a b : Int) : dGe (.int a) (.int b) = .ok (.bool (decide (b ≤ a))) := rfl
@[simp] theorem dNeg_i (a : Int) : dNeg (.int a) = .ok (.int (-a)) := rfl
@[simp] theorem dNot_b (b : Bool) : dNot (.bool b) = .ok (.bool (!b)) := rfl
@[simp] theorem dIsN_eq (d : D) : dIsN d = .ok (.bool (isN d)) := rfl
@[simp] theorem dNotN_eq (d : D) : dNotN d = .ok (.bool (!isN d)) := rfl
@[simp] theorem isN_i (i : Int) : isN (.int i) = false := rfl
@[simp] theorem isN_t (i : List D) : isN (.tuple i) = false := rfl
@[simp] theorem isN_l (i : List D) : isN (.list i) = false := rfl
@[simp] theorem isN_b (i : Bool) : isN (.bool i) = false := rfl
@[simp] theorem isN_s (i : Str) : isN (.str i) = false := rfl
@[simp] theorem isN_n : isN .none = true := rfl
theorem dMul_i (a b : Int) (h : (decide (-(2 ^ 64) < a ∧ a < 2 ^ 64) || decide (-(2 ^ 64) < b ∧ b < 2 ^ 64)) = true) : dMul (.int a) (.int b) = .ok (.int (a * b)) := by
  show dMulI (.int a) (.int b) = _
  simp only [dMulI, dI]
  rw [if_pos h]
theorem dMod_i (a b : Int) (h : 0 < b) : dMod (.int a) (.int b) = .ok (.int (a % b)) := by
  simp only [dMod, dI]
  rw [if_pos (decide_eq_true h)]
theorem dFdiv_i (a b : Int) (h : 0 < b ∧ b < 1073741824) : dFdiv (.int a) (.int b) = .ok (.int (a / b)) := by
  simp only [dFdiv, dI]
  rw [if_pos (decide_eq_true h)]
@[simp] theorem shaped_i (a : Int) : SeqAt.shaped (.int a) = true := by simp [SeqAt.shaped, PyData.canLay0, PyData.depth]
@[simp] theorem shaped_b (a : Bool) : SeqAt.shaped (.bool a) = true := by simp [SeqAt.shaped, PyData.canLay0, PyData.depth]
@[simp] theorem shaped_n : SeqAt.shaped .none = true := by simp [SeqAt.shaped, PyData.canLay0, PyData.depth]
@[simp] theorem unS_i (a : Int) : unS (.int a) = .int a := rfl
@[simp] theorem unS_b (a : Bool) : unS (.bool a) = .bool a := rfl
@[simp] theorem unS_n : unS .none = .none := rfl
@[simp] theorem unS_l (a : List D) : unS (.list a) = .list a := rfl
@[simp] theorem unS_t (a : List D) : unS (.tuple a) = .tuple a := rfl
@[simp] theorem unS_s (a : Str) : unS (.str a) = .str a := rfl
@[simp] theorem unS_scr (l : D) : unS (.dict [(.none, l)]) = l := rfl
@[simp] theorem dEq_i (a b : Int) : dEq (.int a) (.int b) = .ok (.bool (a == b)) := by simp [dEq, PyData.eqv]
@[simp] theorem dNe_i (a b : Int) : dNe (.int a) (.int b) = .ok (.bool (!(a == b))) := by simp [dNe, PyData.eqv]
@[simp] theorem dEq_b (a b : Bool) : dEq (.bool a) (.bool b) = .ok (.bool (a == b)) := by simp [dEq, PyData.eqv]
@[simp] theorem dNe_b (a b : Bool) : dNe (.bool a) (.bool b) = .ok (.bool (!(a == b))) := by simp [dNe, PyData.eqv]
@[simp] theorem dLen_l (ds : List D) : dLen [.list ds] = .ok (.int ds.length) := rfl
@[simp] theorem dLen_t (ds : List D) : dLen [.tuple ds] = .ok (.int ds.length) := rfl
@[simp] theorem dLen_scr (ds : List D) : dLen [.dict [(.none, .list ds)]] = .ok (.int ds.length) := rfl
def atR {α : Type} (o : Option α) (f : α → D) : R D := match o with
  | some a => .ok (f a)
  | none => .bad
@[simp] theorem atR_s {α : Type} (a : α) (f : α → D) : atR (some a) f = .ok (f a) := rfl
@[simp] theorem dIx_l (ds : List D) (i : Int) : dIx (.list ds) (.int i) = atR (atI ds i) id := by
  unfold dIx atR
  simp only
  cases atI ds i <;> rfl
@[simp] theorem dIx_t (ds : List D) (i : Int) : dIx (.tuple ds) (.int i) = atR (atI ds i) id := by
  unfold dIx atR
  simp only
  cases atI ds i <;> rfl
@[simp] theorem dIx_scr (ds : List D) (i : Int) : dIx (.dict [(.none, .list ds)]) (.int i) = atR (atI ds i) id := by
  unfold dIx atR
  simp only
  cases atI ds i <;> rfl
@[simp] theorem dSl_l (ds : List D) (a b : Option Int) : dSl (.list ds) a b = .ok (.list (cutL ds a b)) := rfl
@[simp] theorem dSl_t (ds : List D) (a b : Option Int) : dSl (.tuple ds) a b = .ok (.tuple (cutL ds a b)) := rfl
theorem dAdd_t (x y : List D) (h : x.length + y.length ≤ 100000) : dAdd (.tuple x) (.tuple y) = .ok (.tuple (x ++ y)) := by
  show (if szB _ = true then _ else _) = _
  rw [if_pos (show szB _ = true from decide_eq_true h)]
theorem dAdd_l (x y : List D) (h : x.length + y.length ≤ 100000) : dAdd (.list x) (.list y) = .ok (.list (x ++ y)) := by
  show (if szB _ = true then _ else _) = _
  rw [if_pos (show szB _ = true from decide_eq_true h)]
@[simp] theorem szB_lit (n : Nat) : szB n = decide (n ≤ 100000) := rfl
/-! ### loops -/
def stepK (Post : RS → Prop) (I : En → Prop) (r : RS) : Prop := match r with
  | .nx ρ => I ρ
  | .ct ρ => I ρ
  | .bk ρ => Post (.nx ρ)
  | r => Post r
theorem forL_post {g : DG} {M : DS} {Post : RS → Prop} (I : List D → En → Prop) (hend : ∀ ρ, I [] ρ → Post (.nx ρ)) (step : ∀ d ds ρ, I (d :: ds) ρ → ∃ ρ1, g d ρ = some ρ1 ∧ stepK Post (I ds) (M ρ1)) : ∀ ds ρ, I ds ρ → Post (forL g M ds ρ)
  | [], ρ, h => hend ρ h
  | d :: ds, ρ, h => by
    obtain ⟨ρ1, h1, h2⟩ := step d ds ρ h
    unfold forL
    rw [h1]
    simp only
    cases hM : M ρ1 with
    | nx ρ2 => rw [hM] at h2; exact forL_post I hend step ds ρ2 h2
    | ct ρ2 => rw [hM] at h2; exact forL_post I hend step ds ρ2 h2
    | bk ρ2 => rw [hM] at h2; exact h2
    | rt d => rw [hM] at h2; exact h2
    | er c ρ2 => rw [hM] at h2; exact h2
    | bad => rw [hM] at h2; exact h2
theorem sFor_post {it : DI} {g : DG} {M : DS} {ρ : En} {ds : List D} {Post : RS → Prop} (hi : it ρ = .ok ds) (I : List D → En → Prop) (h0 : I ds ρ) (hend : ∀ ρ, I [] ρ → Post (.nx ρ)) (step : ∀ d ds ρ, I (d :: ds) ρ → ∃ ρ1, g d ρ = some ρ1 ∧ stepK Post (I ds) (M ρ1)) : Post (sFor it g M ρ) := by
  unfold sFor
  rw [hi]
  exact forL_post I hend step ds ρ h0
theorem lcL_map {g : DG} {t m : DE} {vs : List Nat} {ρ : En} {f : D → Option D} : ∀ {ds : List D}, (∀ d ∈ ds, lcStep g t m vs ρ d = some (f d)) → lcL g t m vs ρ ds = some (ds.filterMap f)
  | [], _ => rfl
  | d :: ds, h => by
    unfold lcL
    rw [h d (by simp)]
    simp only
    rw [lcL_map fun x hx => h x (List.mem_cons_of_mem _ hx)]
    simp only [List.filterMap_cons]
    cases f d <;> rfl
theorem eLc_map {it : DI} {g : DG} {t m : DE} {vs : List Nat} {ρ : En} {ds : List D} {f : D → Option D} (hi : it ρ = .ok ds) (h : ∀ d ∈ ds, lcStep g t m vs ρ d = some (f d)) (hl : ds.length ≤ 100000) : eLc it g t m vs ρ = .ok (.list (ds.filterMap f)) := by
  unfold eLc
  rw [hi]
  simp only
  rw [lcL_map h]
  simp only
  rw [if_pos]
  exact decide_eq_true (Nat.le_trans (List.length_filterMap_le _ _) hl)
def lcK (o : Option En) (t m : DE) : Option (Option D) := match o with
  | none => none
  | some ρ => match t ρ with
    | .ok d => boolK d (match m ρ with | .ok x => some (some x) | _ => none) (some none) none
    | _ => none
theorem lcStep_eq (g : DG) (t m : DE) (vs : List Nat) (ρ : En) (d : D) : lcStep g t m vs ρ d = lcK (g d (wipeE ρ vs)) t m := by
  unfold lcStep lcK
  cases g d (wipeE ρ vs) with
  | none => rfl
  | some ρ1 =>
    simp only
    cases t ρ1 with
    | ok d =>
      simp only
      cases d with
      | bool b => cases b <;> rfl
      | _ => rfl
    | _ => rfl
theorem lcK_map {ρ : En} {t m : DE} {b : Bool} {d : D} (ht : t ρ = .ok (.bool b)) (hm : b = true → m ρ = .ok d) : lcK (some ρ) t m = some (if b = true then some d else none) := by
  unfold lcK
  simp only
  rw [ht]
  cases b with
  | false => rfl
  | true => simp only [boolK, hm]; rfl
end Fc
set_option Elab.async false
set_option linter.all false
set_option maxRecDepth 100000
set_option maxHeartbeats 2000000
namespace Fc
open PySem L2 Evl PySem.Spec PyProof.Rows
/-! ### the script and what is drawn of it -/
abbrev scD (ns : List Int) : D := .dict [(.none, .list (ns.map PyData.int))]
theorem shaped_ints (ns : List Int) : SeqAt.shaped (.list (ns.map PyData.int)) = true := by
  have h1 : ∀ l : List Int, PyData.canLayAll0 (l.map PyData.int) = true ∧ PyData.depthAll (l.map PyData.int) = 0 := by
    intro l
    induction l with
    | nil => exact ⟨rfl, rfl⟩
    | cons a l ih => simp [PyData.canLayAll0, PyData.depthAll, PyData.canLay0, PyData.depth, ih.1, ih.2]
  simp [SeqAt.shaped, PyData.canLay0, PyData.depth, h1 ns]
theorem atI_lt {α : Type} {xs : List α} {i : Int} (h0 : 0 ≤ i) (h1 : i < xs.length) : ∃ (h : i.toNat < xs.length), atI xs i = some xs[i.toNat] := by
  have h : i.toNat < xs.length := by omega
  refine ⟨h, ?_⟩
  have e : ((i.toNat : Nat) : Int) = i := by omega
  have := atI_nat (List.getElem?_eq_getElem h)
  rw [e] at this
  exact this
theorem law_cell_ok (ns : List Int) (hl : ns.length ≤ 63) (k : Int) : ∃ c : Int, F_law_cell [scD ns, .int k] = .ok (.int c) := by
  unfold F_law_cell M_law_cell
  simp only [runF_2, Nat.sub_self, List.replicate_zero]
  cases ns with
  | nil =>
    refine ⟨7 * k, ?_⟩
    simp [dEq, shaped_ints, PyData.eqv, PyData.eqvAll, SeqAt.shaped, PyData.canLay0, PyData.canLayAll0, PyData.depth, PyData.depthAll, dMul_i]
  | cons n ns =>
    have hl' : (List.map PyData.int (n :: ns)).length = ns.length + 1 := by simp
    have hpos : (0 : Int) < ((List.map PyData.int (n :: ns)).length : Nat) := by omega
    obtain ⟨h1, h2⟩ := atI_lt (xs := List.map PyData.int (n :: ns)) (Int.emod_nonneg k (by omega)) (Int.emod_lt_of_pos k hpos)
    have hn : dEq (scD (n :: ns)) (.list []) = .ok (.bool false) := by
      have := shaped_ints (n :: ns)
      unfold dEq scD
      rw [unS_scr, this]
      rfl
    have hb : ((List.map PyData.int (n :: ns)).length : Int) < 1073741824 := by
      have : (n :: ns).length ≤ 63 := hl
      rw [List.length_map]
      omega
    obtain ⟨v, hv⟩ : ∃ v : Int, atI (List.map PyData.int (n :: ns)) (k % ((List.map PyData.int (n :: ns)).length : Int)) = some (.int v) := ⟨_, by rw [h2, List.getElem_map]⟩
    refine ⟨v + 6553 * (k / ((List.map PyData.int (n :: ns)).length : Int)), ?_⟩
    have hm := dMul_i 6553 (k / ((List.map PyData.int (n :: ns)).length : Int)) (by simp)
    have hd := dMod_i k _ hpos
    have hf := dFdiv_i k _ ⟨hpos, hb⟩
    unfold scD at hn ⊢
    clear hl hl' hb h1 h2 hpos
    generalize List.map PyData.int (n :: ns) = L at *
    simp [hn, hd, hf, hm, hv]
theorem law_drawn_ok (ns : List Int) (hl : ns.length ≤ 63) (k m : Int) (hm : 0 < m) : ∃ r : Int, 0 ≤ r ∧ r < m ∧ F_law_drawn [scD ns, .int k, .int m] = .ok (.int r) := by
  obtain ⟨c, hc⟩ := law_cell_ok ns hl k
  unfold F_law_drawn M_law_drawn
  simp only [runF_3, List.reduceReplicate, Nat.reduceSub]
  have q1 := Int.emod_nonneg ((c % 2147483563) * 69069 + 104723 * (k + 1)) (show (2147483563 : Int) ≠ 0 by decide)
  have q2 := Int.emod_lt_of_pos ((c % 2147483563) * 69069 + 104723 * (k + 1)) (show (0 : Int) < 2147483563 by decide)
  generalize hx : ((c % 2147483563) * 69069 + 104723 * (k + 1)) % 2147483563 = x at q1 q2
  have q3 := Int.emod_nonneg (x * x + x / 3) (show (2147483399 : Int) ≠ 0 by decide)
  have q4 := Int.emod_lt_of_pos (x * x + x / 3) (show (0 : Int) < 2147483399 by decide)
  generalize hy : (x * x + x / 3) % 2147483399 = y at q3 q4
  refine ⟨((y * y + y / 7) % 2147483647 / 11) % m, Int.emod_nonneg _ (by omega), Int.emod_lt_of_pos _ hm, ?_⟩
  have hxx : dMul (.int x) (.int x) = .ok (.int (x * x)) := dMul_i _ _ (by simp; omega)
  have hyy : dMul (.int y) (.int y) = .ok (.int (y * y)) := dMul_i _ _ (by simp; omega)
  simp [hc, dMod_i, dMul_i, dFdiv_i, hx, hxx, hy, hyy, dMod_i _ _ hm]
end Fc
set_option Elab.async false
set_option linter.all false
set_option maxRecDepth 100000
set_option maxHeartbeats 2000000
namespace Fc
open PySem L2 Evl PySem.Spec PyProof.Rows
/-! ### data of a bounded shape -/
def leafB (w : Nat) : D → Bool
  | .none => true
  | .bool _ => true
  | .int _ => true
  | .str x => PyData.strOk x && decide (x.length ≤ w)
  | _ => false
def gd (w : Nat) : Nat → D → Bool
  | 0, d => leafB w d
  | n + 1, d => match d with
    | .list xs => decide (xs.length ≤ w) && xs.all (gd w n)
    | .tuple xs => decide (xs.length ≤ w) && xs.all (gd w n)
    | d => leafB w d
theorem gd_lay {w : Nat} : ∀ (n : Nat) (d : D), gd w n d = true → d.canLay0 = true ∧ d.depth ≤ n
  | 0, d, h => by
    cases d <;> simp_all [gd, leafB, PyData.canLay0, PyData.depth]
  | n + 1, d, h => by
    have all : ∀ xs : List D, xs.all (gd w n) = true → PyData.canLayAll0 xs = true ∧ PyData.depthAll xs ≤ n := by
      intro xs
      induction xs with
      | nil => intro _; exact ⟨rfl, Nat.zero_le _⟩
      | cons x xs ih =>
        intro h
        rw [List.all_cons, Bool.and_eq_true] at h
        obtain ⟨a, b⟩ := gd_lay n x h.1
        obtain ⟨c, e⟩ := ih h.2
        simp only [PyData.canLayAll0, PyData.depthAll, a, c, Bool.and_self, true_and]
        exact Nat.max_le.mpr ⟨b, e⟩
    cases d with
    | list xs =>
      simp only [gd, Bool.and_eq_true] at h
      obtain ⟨a, b⟩ := all xs h.2
      simp only [PyData.canLay0, PyData.depth, a, true_and]
      omega
    | tuple xs =>
      simp only [gd, Bool.and_eq_true] at h
      obtain ⟨a, b⟩ := all xs h.2
      simp only [PyData.canLay0, PyData.depth, a, true_and]
      omega
    | dict es => simp [gd, leafB] at h
    | str x => simp_all [gd, leafB, PyData.canLay0, PyData.depth]
    | _ => simp [PyData.canLay0, PyData.depth]
theorem gd_shaped {w n : Nat} {d : D} (h : gd w n d = true) (hn : n ≤ 64) : SeqAt.shaped d = true := by
  obtain ⟨a, b⟩ := gd_lay n d h
  unfold SeqAt.shaped
  rw [a, decide_eq_true (Nat.le_trans b hn)] <;> rfl
theorem gd_dict {w n : Nat} {es : List (D × D)} (h : gd w n (.dict es) = true) : False := by
  cases n <;> simp [gd, leafB] at h
theorem gd_kids {w n : Nat} {xs : List D} (h : gd w n (.tuple xs) = true) : ∃ m, n = m + 1 ∧ xs.length ≤ w ∧ ∀ x ∈ xs, gd w m x = true := by
  cases n with
  | zero => simp [gd, leafB] at h
  | succ m =>
    simp only [gd, Bool.and_eq_true, decide_eq_true_eq, List.all_eq_true] at h
    exact ⟨m, rfl, h.1, h.2⟩
theorem gd_kidsL {w n : Nat} {xs : List D} (h : gd w n (.list xs) = true) : ∃ m, n = m + 1 ∧ xs.length ≤ w ∧ ∀ x ∈ xs, gd w m x = true := by
  cases n with
  | zero => simp [gd, leafB] at h
  | succ m =>
    simp only [gd, Bool.and_eq_true, decide_eq_true_eq, List.all_eq_true] at h
    exact ⟨m, rfl, h.1, h.2⟩
theorem gd_leaf {w v : Nat} (hv : w ≤ v) {d : D} (h : leafB w d = true) : leafB v d = true := by
  cases d <;> simp_all [leafB]
  exact Nat.le_trans h.2 hv
theorem gd_mono {w v : Nat} (hv : w ≤ v) : ∀ {n m : Nat}, n ≤ m → ∀ {d : D}, gd w n d = true → gd v m d = true
  | 0, 0, _, d, h => gd_leaf hv h
  | 0, m + 1, _, d, h => by
    have h : leafB w d = true := h
    cases d with
    | list xs => simp [leafB] at h
    | tuple xs => simp [leafB] at h
    | _ => exact gd_leaf hv h
  | n + 1, 0, e, d, h => absurd e (by omega)
  | n + 1, m + 1, e, d, h => by
    cases d with
    | list xs =>
      simp only [gd, Bool.and_eq_true, decide_eq_true_eq, List.all_eq_true] at h ⊢
      exact ⟨Nat.le_trans h.1 hv, fun x hx => gd_mono hv (by omega) (h.2 x hx)⟩
    | tuple xs =>
      simp only [gd, Bool.and_eq_true, decide_eq_true_eq, List.all_eq_true] at h ⊢
      exact ⟨Nat.le_trans h.1 hv, fun x hx => gd_mono hv (by omega) (h.2 x hx)⟩
    | dict es => exact (gd_dict h).elim
    | none => rfl
    | bool b => rfl
    | int b => rfl
    | str x => exact gd_leaf (d := .str x) hv h
theorem gdTup {w n : Nat} {xs : List D} (hl : xs.length ≤ w) (h : ∀ x ∈ xs, gd w n x = true) : gd w (n + 1) (.tuple xs) = true := by
  simp only [gd, Bool.and_eq_true, decide_eq_true_eq, List.all_eq_true]
  exact ⟨hl, h⟩
theorem gdLst {w n : Nat} {xs : List D} (hl : xs.length ≤ w) (h : ∀ x ∈ xs, gd w n x = true) : gd w (n + 1) (.list xs) = true := by
  simp only [gd, Bool.and_eq_true, decide_eq_true_eq, List.all_eq_true]
  exact ⟨hl, h⟩
/-! ### isinstance -/
@[simp] theorem isI_n (T : String) : dIsI T .none = .ok (.bool (isT T .none)) := rfl
@[simp] theorem isI_b (T : String) (b : Bool) : dIsI T (.bool b) = .ok (.bool (isT T (.bool b))) := rfl
@[simp] theorem isI_i (T : String) (b : Int) : dIsI T (.int b) = .ok (.bool (isT T (.int b))) := rfl
@[simp] theorem isI_s (T : String) (b : Str) : dIsI T (.str b) = .ok (.bool (isT T (.str b))) := rfl
@[simp] theorem isI_l (T : String) (b : List D) : dIsI T (.list b) = .ok (.bool (isT T (.list b))) := rfl
@[simp] theorem isI_t (T : String) (b : List D) : dIsI T (.tuple b) = .ok (.bool (isT T (.tuple b))) := rfl
@[simp] theorem isT_n (T : String) : isT T .none = ("NoneType" == T || (T == "int" && "NoneType" == "bool")) := rfl
@[simp] theorem isT_b (T : String) (b : Bool) : isT T (.bool b) = ("bool" == T || (T == "int" && "bool" == "bool")) := rfl
@[simp] theorem isT_i (T : String) (b : Int) : isT T (.int b) = ("int" == T || (T == "int" && "int" == "bool")) := rfl
@[simp] theorem isT_s (T : String) (b : Str) : isT T (.str b) = ("str" == T || (T == "int" && "str" == "bool")) := rfl
@[simp] theorem isT_l (T : String) (b : List D) : isT T (.list b) = ("list" == T || (T == "int" && "list" == "bool")) := rfl
@[simp] theorem isT_t (T : String) (b : List D) : isT T (.tuple b) = ("tuple" == T || (T == "int" && "tuple" == "bool")) := rfl
/-! ### places of short lists -/
@[simp] theorem atI_0 {α : Type} (a : α) (r : List α) : atI (a :: r) 0 = some a := by have := atI_nat (xs := a :: r) (j := 0) (v := a) rfl; simpa using this
@[simp] theorem atI_1 {α : Type} (a b : α) (r : List α) : atI (a :: b :: r) 1 = some b := by have := atI_nat (xs := a :: b :: r) (j := 1) (v := b) rfl; simpa using this
@[simp] theorem atI_2 {α : Type} (a b c : α) (r : List α) : atI (a :: b :: c :: r) 2 = some c := by have := atI_nat (xs := a :: b :: c :: r) (j := 2) (v := c) rfl; simpa using this
@[simp] theorem atI_3 {α : Type} (a b c d : α) (r : List α) : atI (a :: b :: c :: d :: r) 3 = some d := by have := atI_nat (xs := a :: b :: c :: d :: r) (j := 3) (v := d) rfl; simpa using this
theorem boolsOf_mapP {α : Type} (l : List α) (p : α → Bool) : boolsOf (l.map fun x => .bool (p x)) = some (l.map p) := by
  induction l with
  | nil => rfl
  | cons a l ih => simp [boolsOf, ih]
@[simp] theorem dAll_map {α : Type} (l : List α) (p : α → Bool) : dAll [.list (l.map fun x => .bool (p x))] = .ok (.bool (l.all p)) := by
  have e : (l.map p).all id = l.all p := by
    induction l with
    | nil => rfl
    | cons a l ih => simp [List.all_map]
  unfold dAll
  simp only [boolsOf_mapP, e]
theorem fm_some {α β : Type} (l : List α) (f : α → β) : l.filterMap (fun x => some (f x)) = l.map f := by
  induction l with
  | nil => rfl
  | cons a l ih => simp
theorem fm_if {α : Type} (l : List α) (p : α → Bool) : l.filterMap (fun x => if p x = true then some x else none) = l.filter p := by
  induction l with
  | nil => rfl
  | cons a l ih => by_cases h : p a = true <;> simp [h, ih]
/-! ### numbers -/
def numB (lo hi : Int) : D → Bool
  | .int i => decide (lo ≤ i) && decide (i ≤ hi)
  | _ => false
@[simp] theorem numB_i (lo hi i : Int) : numB lo hi (.int i) = (decide (lo ≤ i) && decide (i ≤ hi)) := rfl
theorem numB_true {lo hi : Int} {d : D} (h : numB lo hi d = true) : ∃ i, d = .int i ∧ lo ≤ i ∧ i ≤ hi := by
  cases d with
  | int i =>
    simp only [numB, Bool.and_eq_true, decide_eq_true_eq] at h
    exact ⟨i, rfl, h.1, h.2⟩
  | _ => simp [numB] at h
theorem is_number_ok {w n : Nat} {x : D} (h : gd w n x = true) (lo hi : Int) : F_is_number [x, .int lo, .int hi] = .ok (.bool (numB lo hi x)) := by
  cases x with
  | dict es => exact (gd_dict h).elim
  | int i =>
    by_cases h1 : lo ≤ i <;> simp [F_is_number, M_is_number, runF_3, numB, h1]
  | _ => simp [F_is_number, M_is_number, runF_3, numB]
theorem is_number_i (i lo hi : Int) : F_is_number [.int i, .int lo, .int hi] = .ok (.bool (numB lo hi (.int i))) := is_number_ok (w := 0) (n := 0) rfl lo hi
/-! ### clocks -/
structure Clk where
  slow : Int
  fast : Int
  rs : List Int
def Clk.d (c : Clk) : D := .tuple [.int c.slow, .int c.fast, .tuple (c.rs.map PyData.int)]
structure Clk.Ok (c : Clk) : Prop where
  s1 : 1 ≤ c.slow
  sf : c.slow ≤ c.fast
  f9 : c.fast ≤ 9
  l1 : 1 ≤ c.rs.length
  l4 : c.rs.length ≤ 4
  r0 : ∀ r ∈ c.rs, 0 ≤ r ∧ r ≤ 99
  inc : c.rs.Pairwise (· < ·)
/-- rising -/
def incB : List Int → Bool
  | a :: b :: r => decide (a < b) && incB (b :: r)
  | _ => true
theorem incB_iff : ∀ l : List Int, incB l = true ↔ l.Pairwise (· < ·)
  | [] => by simp [incB]
  | [a] => by simp [incB]
  | a :: b :: r => by
    have ih := incB_iff (b :: r)
    simp only [incB, Bool.and_eq_true, decide_eq_true_eq, ih]
    constructor
    · rintro ⟨h, p⟩
      refine List.pairwise_cons.mpr ⟨fun x hx => ?_, p⟩
      rcases List.mem_cons.mp hx with z | z
      · omega
      · have := (List.pairwise_cons.mp p).1 x z; omega
    · intro p
      obtain ⟨h, p⟩ := List.pairwise_cons.mp p
      exact ⟨h b (by simp), p⟩
def clkB : D → Bool
  | .tuple [.int a, b, .tuple rs] => numB 1 9 (.int a) && numB a 9 b && decide (1 ≤ rs.length) && decide (rs.length ≤ 4) && rs.all (numB 0 99) && (match intsOf rs with | some ns => incB ns | none => false)
  | _ => false
theorem all_numB {lo hi : Int} {rs : List D} (h : rs.all (numB lo hi) = true) : ∃ ns : List Int, rs = ns.map PyData.int ∧ ∀ r ∈ ns, lo ≤ r ∧ r ≤ hi := by
  induction rs with
  | nil => exact ⟨[], rfl, by simp⟩
  | cons a rs ih =>
    rw [List.all_cons, Bool.and_eq_true] at h
    obtain ⟨ns, rfl, h2⟩ := ih h.2
    obtain ⟨i, rfl, h3⟩ := numB_true h.1
    exact ⟨i :: ns, rfl, fun r hr => by
      rcases List.mem_cons.mp hr with z | z
      · rw [z]; exact h3
      · exact h2 r z⟩
theorem numB_all {lo hi : Int} {ns : List Int} (h : ∀ r ∈ ns, lo ≤ r ∧ r ≤ hi) : (ns.map PyData.int).all (numB lo hi) = true := by
  rw [List.all_map, List.all_eq_true]
  intro x hx
  have := h x hx
  simp [numB, this]
theorem clkB_iff (x : D) : clkB x = true ↔ ∃ c : Clk, c.Ok ∧ x = c.d := by
  constructor
  · intro h
    unfold clkB at h
    split at h
    · rename_i a b rs
      simp only [Bool.and_eq_true, decide_eq_true_eq, numB_i] at h
      obtain ⟨⟨⟨⟨⟨h1, h2⟩, h3⟩, h4⟩, h5⟩, h6⟩ := h
      obtain ⟨i, rfl, h7, h8⟩ := numB_true h2
      obtain ⟨ns, rfl, h9⟩ := all_numB h5
      rw [List.length_map] at h3 h4
      simp only [intsOf_map] at h6
      exact ⟨⟨a, i, ns⟩, ⟨h1.1, h7, h8, h3, h4, h9, (incB_iff _).mp h6⟩, rfl⟩
    · cases h
  · rintro ⟨c, o, rfl⟩
    have e := (incB_iff c.rs).mpr o.inc
    have e2 := numB_all o.r0
    have h1 := o.s1
    have h2 := o.sf
    have h3 := o.f9
    have h4 := o.l1
    have h5 := o.l4
    have h6 : c.slow ≤ 9 := by omega
    simp [clkB, Clk.d, e, e2, h1, h2, h3, h4, h5, h6]
theorem zip_inc : ∀ (ns : List Int), ((zipD (ns.map PyData.int) ((ns.map PyData.int).drop 1)).all fun p => match p with | .tuple [.int a, .int b] => decide (a < b) | _ => false) = incB ns
  | [] => rfl
  | [a] => rfl
  | a :: b :: r => by
    have ih := zip_inc (b :: r)
    simp only [List.map_cons, List.drop_succ_cons, List.drop_zero] at ih ⊢
    simp only [zipD, List.all_cons, ih, incB]
/-- all([p(x) for x in xs]) -/
theorem all_lc {it : DI} {g : DG} {t m : DE} {vs : List Nat} {ρ : En} {ds : List D} {p : D → Bool} (hi : it ρ = .ok ds) (h : ∀ d ∈ ds, lcStep g t m vs ρ d = some (some (.bool (p d)))) (hl : ds.length ≤ 100000) : ∃ L, eLc it g t m vs ρ = .ok (.list L) ∧ dAll [.list L] = .ok (.bool (ds.all p)) :=
  ⟨_, eLc_map (f := fun d => some (.bool (p d))) hi h hl, by rw [fm_some]; exact dAll_map ds p⟩
theorem C_is_clock_1_ok {w n : Nat} {rs : List D} (h : ∀ x ∈ rs, gd w n x = true) (hl : rs.length ≤ 4) (s0 s2 s3 : Slot) : ∃ L, C_is_clock_1 [s0, .fz (.tuple rs), s2, s3] = .ok (.list L) ∧ dAll [.list L] = .ok (.bool (rs.all (numB 0 99))) := by
  refine all_lc (by simp) (fun x hx => ?_) (by omega)
  rw [lcStep_eq]
  simp [wipeE]
  rw [lcK_map (b := true) rfl fun _ => by simp; exact is_number_ok (h x hx) 0 99]
  rfl
end Fc
set_option Elab.async false
set_option linter.all false
set_option maxRecDepth 100000
set_option maxHeartbeats 2000000
namespace Fc
open PySem L2 Evl PySem.Spec PyProof.Rows
@[simp] theorem gTup2 (i j : Nat) (a b : D) (ρ : En) : gTupD 2 (gConsD (gN i) (gConsD (gN j) gNilD)) (.tuple [a, b]) ρ = some ((ρ.set i (.fz a)).set j (.fz b)) := rfl
theorem cutL_1 {α : Type} (xs : List α) : cutL xs (some 1) none = xs.drop 1 := by
  unfold cutL
  rw [HT.sIx_none]
  have e : HT.sIx xs.length 0 (some 1) = min 1 xs.length := HT.sIx_nat xs.length 0 1
  rw [e]
  cases xs with
  | nil => rfl
  | cons a l =>
    have : min 1 (a :: l).length = 1 := by simp
    rw [this]
    simp
theorem zipD_mem : ∀ {xs ys : List D} {d : D}, d ∈ zipD xs ys → ∃ x y, d = .tuple [x, y] ∧ x ∈ xs ∧ y ∈ ys
  | [], _, _, h => by simp [zipD] at h
  | _ :: _, [], _, h => by simp [zipD] at h
  | x :: xs, y :: ys, d, h => by
    rcases List.mem_cons.mp (by simpa [zipD] using h : d ∈ .tuple [x, y] :: zipD xs ys) with z | z
    · exact ⟨x, y, z, by simp, by simp⟩
    · obtain ⟨a, b, h1, h2, h3⟩ := zipD_mem z
      exact ⟨a, b, h1, List.mem_cons_of_mem _ h2, List.mem_cons_of_mem _ h3⟩
theorem zipD_length : ∀ (xs ys : List D), (zipD xs ys).length ≤ xs.length
  | [], _ => Nat.le_refl _
  | _ :: _, [] => Nat.zero_le _
  | x :: xs, y :: ys => Nat.succ_le_succ (zipD_length xs ys)
theorem C_is_clock_2_ok (ns : List Int) (hl : ns.length ≤ 4) (s0 s2 s3 : Slot) : ∃ L, C_is_clock_2 [s0, .fz (.tuple (ns.map PyData.int)), s2, s3] = .ok (.list L) ∧ dAll [.list L] = .ok (.bool (incB ns)) := by
  rw [← zip_inc]
  refine all_lc (by simp [cutL_1, dZip]) (fun x hx => ?_) ?_
  · obtain ⟨a, b, rfl, ha, hb⟩ := zipD_mem hx
    obtain ⟨i, _, rfl⟩ := List.mem_map.mp ha
    obtain ⟨j, _, rfl⟩ := List.mem_map.mp (List.mem_of_mem_drop hb)
    rw [lcStep_eq]
    simp [wipeE]
    rw [lcK_map (b := true) rfl fun _ => by simp; rfl]
    rfl
  · have := zipD_length (ns.map PyData.int) ((ns.map PyData.int).drop 1)
    rw [List.length_map] at this
    omega
theorem is_clock_ok {w n : Nat} {x : D} (h : gd w n x = true) : F_is_clock [x] = .ok (.bool (clkB x)) := by
  unfold F_is_clock M_is_clock
  cases x with
  | dict es => exact (gd_dict h).elim
  | tuple xs =>
    obtain ⟨m, rfl, _, hk⟩ := gd_kids h
    match xs, hk with
    | [], _ => simp [runF_1, clkB]
    | [_], _ => simp [runF_1, clkB]
    | [_, _], _ => simp [runF_1, clkB]
    | a :: b :: c :: e :: r, _ =>
      have : (((r.length : Int) + 1 + 1 + 1 + 1) == 3) = false := by
        rw [beq_eq_false_iff_ne]; omega
      simp [runF_1, clkB, this]
    | [a, b, c], hk =>
      have ga := hk a (by simp)
      have gb := hk b (by simp)
      have gc := hk c (by simp)
      have e1 := is_number_ok ga 1 9
      by_cases h1 : numB 1 9 a = true
      · obtain ⟨i, rfl, h2, h3⟩ := numB_true h1
        have e2 := is_number_ok gb i 9
        by_cases h4 : numB i 9 b = true
        · cases c with
          | dict es => exact (gd_dict gc).elim
          | tuple rs =>
            obtain ⟨m2, rfl, _, hk2⟩ := gd_kids gc
            by_cases h5 : 1 ≤ rs.length
            · by_cases h6 : rs.length ≤ 4
              · obtain ⟨L, e3, e3'⟩ := C_is_clock_1_ok hk2 h6 (.fz (.tuple [.int i, b, .tuple rs])) .un .un
                by_cases h7 : rs.all (numB 0 99) = true
                · obtain ⟨ns, rfl, h8⟩ := all_numB h7
                  obtain ⟨L2, e4, e4'⟩ := C_is_clock_2_ok ns (by simpa using h6) (.fz (.tuple [.int i, b, .tuple (ns.map PyData.int)])) .un .un
                  have i5 : (1 : Int) ≤ ((ns.length : Nat) : Int) := by rw [List.length_map] at h5; omega
                  have i6 : ((ns.length : Nat) : Int) ≤ 4 := by rw [List.length_map] at h6; omega
                  rw [List.length_map] at h5 h6
                  simp only [runF_1, List.reduceReplicate, Nat.reduceSub]
                  simp [e1, e2, e3, e3', e4, e4',  h1, h2, h3, h4, h5, h6, h7, i5, i6, clkB]
                · have i5 : (1 : Int) ≤ ((rs.length : Nat) : Int) := by omega
                  have i6 : ((rs.length : Nat) : Int) ≤ 4 := by omega
                  have h7 : rs.all (numB 0 99) = false := by simpa using h7
                  simp only [runF_1, List.reduceReplicate, Nat.reduceSub]
                  simp [e1, e2, e3, e3', h1, h2, h3, h4, h5, h6, h7, i5, i6, clkB]
              · have i6 : ¬ ((rs.length : Nat) : Int) ≤ 4 := by omega
                have i5 : (1 : Int) ≤ ((rs.length : Nat) : Int) := by omega
                simp [runF_1, e1, e2, h1, h2, h3, h4, h5, h6, i5, i6, clkB]
            · have i5 : ¬ (1 : Int) ≤ ((rs.length : Nat) : Int) := by omega
              simp [runF_1, e1, e2, h1, h2, h3, h4, h5, i5, clkB]
          | _ => simp [runF_1, e1, e2, h1, h2, h3, h4, clkB]
        · have h4 : numB i 9 b = false := by simpa using h4
          have : clkB (.tuple [.int i, b, c]) = false := by
            unfold clkB
            split
            · rename_i q; cases q; simp [h4]
            · rfl
          simp [runF_1, e1, e2, h1, h2, h3, h4, this]
      · have h1 : numB 1 9 a = false := by simpa using h1
        have : clkB (.tuple [a, b, c]) = false := by
          unfold clkB
          split
          · rename_i q; cases q; simp [h1]
          · rfl
        simp [runF_1, e1, h1, this]
  | _ => simp [runF_1, clkB]
end Fc
set_option Elab.async false
set_option linter.all false
set_option maxRecDepth 100000
set_option maxHeartbeats 2000000
namespace Fc
open PySem L2 Evl PySem.Spec PyProof.Rows
/-! ### events, letters, records -/
abbrev Ev := Nat × Nat
def evd (e : Ev) : D := .tuple [.int (e.1 : Nat), .int (e.2 : Nat)]
structure Ltr where
  a : Ev
  b : Ev
  lo : Int
  hi : Option Int
def optD : Option Int → D
  | some h => .int h
  | none => .none
def Ltr.d (l : Ltr) : D := .tuple [evd l.a, evd l.b, .int l.lo, optD l.hi]
structure Rec where
  cs : List Clk
  ls : List Ltr
def Rec.d (r : Rec) : D := .tuple [.tuple (r.cs.map Clk.d), .tuple (r.ls.map Ltr.d)]
def EvOk (cs : List Clk) (e : Ev) : Prop := ∃ c, cs[e.1]? = some c ∧ e.2 < c.rs.length
structure Ltr.Ok (cs : List Clk) (l : Ltr) : Prop where
  ea : EvOk cs l.a
  eb : EvOk cs l.b
  ne : l.a ≠ l.b
  lo0 : 0 ≤ l.lo
  lo9 : l.lo ≤ 999
  hi : ∀ h, l.hi = some h → l.lo ≤ h ∧ h ≤ 999
structure Rec.Ok (r : Rec) : Prop where
  c1 : 1 ≤ r.cs.length
  c4 : r.cs.length ≤ 4
  cs : ∀ c ∈ r.cs, c.Ok
  l8 : r.ls.length ≤ 8
  ls : ∀ l ∈ r.ls, l.Ok r.cs
def evB (cs : List Clk) : D → Bool
  | .tuple [.int i, b] => numB 0 ((cs.length : Nat) - 1) (.int i) && (match cs[i.toNat]? with
    | some c => numB 0 ((c.rs.length : Nat) - 1) b
    | none => false)
  | _ => false
def letB (cs : List Clk) : D → Bool
  | .tuple [a, b, .int lo, hi] => numB 0 999 (.int lo) && evB cs a && evB cs b && !(PyData.eqv a b) && (isN hi || numB lo 999 hi)
  | _ => false
theorem evd_inj {a b : Ev} (h : evd a = evd b) : a = b := by
  simp only [evd, PyData.tuple.injEq, List.cons.injEq, PyData.int.injEq, and_true] at h
  exact Prod.ext (by omega) (by omega)
theorem eqv_evd (a b : Ev) : PyData.eqv (evd a) (evd b) = decide (a = b) := by
  simp only [evd, PyData.eqv, PyData.eqvAll, Bool.and_true]
  by_cases h : a = b
  · subst h; simp
  · simp only [h, decide_false]
    rw [Bool.and_eq_false_iff, beq_eq_false_iff_ne, beq_eq_false_iff_ne]
    by_cases h1 : a.1 = b.1
    · right
      intro q
      exact h (Prod.ext h1 (by omega))
    · left
      omega
theorem evB_iff (cs : List Clk) (x : D) : evB cs x = true ↔ ∃ e : Ev, EvOk cs e ∧ x = evd e := by
  constructor
  · intro h
    unfold evB at h
    split at h
    · rename_i i b
      rw [Bool.and_eq_true] at h
      obtain ⟨h1, h2⟩ := h
      split at h2
      · rename_i c hc
        obtain ⟨j, rfl, h3, h4⟩ := numB_true h2
        simp only [numB_i, Bool.and_eq_true, decide_eq_true_eq] at h1
        refine ⟨(i.toNat, j.toNat), ⟨c, hc, ?_⟩, ?_⟩
        · show j.toNat < _
          omega
        · have e1 : ((i.toNat : Nat) : Int) = i := by omega
          have e2 : ((j.toNat : Nat) : Int) = j := by omega
          simp only [evd, e1, e2]
      · cases h2
    · cases h
  · rintro ⟨e, ⟨c, h1, h2⟩, rfl⟩
    have h3 : e.1 < cs.length := (List.getElem?_eq_some_iff.mp h1).1
    have i1 : ((e.1 : Nat) : Int) ≤ (cs.length : Nat) - 1 := by omega
    have i2 : ((e.2 : Nat) : Int) ≤ (c.rs.length : Nat) - 1 := by omega
    simp [evB, evd, h1, i1, i2]
theorem letB_iff (cs : List Clk) (x : D) : letB cs x = true ↔ ∃ l : Ltr, l.Ok cs ∧ x = l.d := by
  constructor
  · intro h
    unfold letB at h
    split at h
    · rename_i a b lo hi
      simp only [Bool.and_eq_true, numB_i, decide_eq_true_eq, Bool.or_eq_true, Bool.not_eq_true'] at h
      obtain ⟨⟨⟨⟨h1, h2⟩, h3⟩, h4⟩, h5⟩ := h
      obtain ⟨ea, ha, rfl⟩ := (evB_iff cs a).mp h2
      obtain ⟨eb, hb, rfl⟩ := (evB_iff cs b).mp h3
      rw [eqv_evd, decide_eq_false_iff_not] at h4
      rcases h5 with h5 | h5
      · have : hi = .none := by
          cases hi <;> first | rfl | cases h5
        subst this
        exact ⟨⟨ea, eb, lo, none⟩, ⟨ha, hb, h4, h1.1, h1.2, fun h z => nomatch z⟩, rfl⟩
      · obtain ⟨k, rfl, h6, h7⟩ := numB_true h5
        exact ⟨⟨ea, eb, lo, some k⟩, ⟨ha, hb, h4, h1.1, h1.2, fun h z => by cases z; exact ⟨h6, h7⟩⟩, rfl⟩
    · cases h
  · rintro ⟨l, o, rfl⟩
    have h1 := (evB_iff cs _).mpr ⟨l.a, o.ea, rfl⟩
    have h2 := (evB_iff cs _).mpr ⟨l.b, o.eb, rfl⟩
    have h3 := eqv_evd l.a l.b
    have h4 : decide (l.a = l.b) = false := decide_eq_false o.ne
    cases hh : l.hi with
    | none => simp [letB, Ltr.d, optD, hh, h1, h2, h3, h4, o.lo0, o.lo9]
    | some k =>
      have := o.hi k hh
      simp [letB, Ltr.d, optD, hh, h1, h2, h3, h4, o.lo0, o.lo9, this]
theorem clks_of : ∀ {cds : List D}, cds.all clkB = true → ∃ cs : List Clk, cds = cs.map Clk.d ∧ ∀ c ∈ cs, c.Ok
  | [], _ => ⟨[], rfl, by simp⟩
  | x :: xs, h => by
    rw [List.all_cons, Bool.and_eq_true] at h
    obtain ⟨c, o, rfl⟩ := (clkB_iff x).mp h.1
    obtain ⟨cs, rfl, h2⟩ := clks_of h.2
    exact ⟨c :: cs, rfl, fun y hy => by
      rcases List.mem_cons.mp hy with z | z
      · rw [z]; exact o
      · exact h2 y z⟩
theorem ltrs_of {cs : List Clk} : ∀ {lds : List D}, lds.all (letB cs) = true → ∃ ls : List Ltr, lds = ls.map Ltr.d ∧ ∀ l ∈ ls, l.Ok cs
  | [], _ => ⟨[], rfl, by simp⟩
  | x :: xs, h => by
    rw [List.all_cons, Bool.and_eq_true] at h
    obtain ⟨c, o, rfl⟩ := (letB_iff cs x).mp h.1
    obtain ⟨cs, rfl, h2⟩ := ltrs_of h.2
    exact ⟨c :: cs, rfl, fun y hy => by
      rcases List.mem_cons.mp hy with z | z
      · rw [z]; exact o
      · exact h2 y z⟩
theorem clks_all {cs : List Clk} (h : ∀ c ∈ cs, c.Ok) : (cs.map Clk.d).all clkB = true := by
  rw [List.all_eq_true]
  intro x hx
  obtain ⟨c, hc, rfl⟩ := List.mem_map.mp hx
  exact (clkB_iff _).mpr ⟨c, h c hc, rfl⟩
theorem ltrs_all {cs : List Clk} {ls : List Ltr} (h : ∀ l ∈ ls, l.Ok cs) : (ls.map Ltr.d).all (letB cs) = true := by
  rw [List.all_eq_true]
  intro x hx
  obtain ⟨c, hc, rfl⟩ := List.mem_map.mp hx
  exact (letB_iff cs _).mpr ⟨c, h c hc, rfl⟩
/-! ### what the program's tests answer -/
theorem is_event_ok {w n : Nat} {x : D} {cs : List Clk} (h : gd w n x = true) : F_is_event [.tuple (cs.map Clk.d), x] = .ok (.bool (evB cs x)) := by
  unfold F_is_event M_is_event
  cases x with
  | dict es => exact (gd_dict h).elim
  | tuple xs =>
    obtain ⟨m, rfl, _, hk⟩ := gd_kids h
    match xs, hk with
    | [], _ => simp [runF_2, evB]
    | [_], _ => simp [runF_2, evB]
    | a :: b :: c :: r, _ =>
      have : (((r.length : Int) + 1 + 1 + 1) == 2) = false := by
        rw [beq_eq_false_iff_ne]; omega
      simp [runF_2, evB, this]
    | [a, b], hk =>
      have e1 := is_number_ok (hk a (by simp)) 0 ((cs.length : Nat) - 1)
      by_cases h1 : numB 0 ((cs.length : Nat) - 1) a = true
      · obtain ⟨i, rfl, h2, h3⟩ := numB_true h1
        have hi : i.toNat < cs.length := by omega
        have hc : cs[i.toNat]? = some cs[i.toNat] := List.getElem?_eq_getElem hi
        obtain ⟨h4, h5⟩ := atI_lt (xs := cs.map Clk.d) h2 (by rw [List.length_map]; omega)
        rw [List.getElem_map] at h5
        have e2 := is_number_ok (hk b (by simp)) 0 ((cs[i.toNat].rs.length : Nat) - 1)
        simp [runF_2, evB, e1, h1, h2, h3, h5, hc, Clk.d, e2]
      · have h1 : numB 0 ((cs.length : Nat) - 1) a = false := by simpa using h1
        have : evB cs (.tuple [a, b]) = false := by
          unfold evB
          split
          · rename_i q; cases q; simp [h1]
          · rfl
        simp [runF_2, e1, h1, this]
  | _ => simp [runF_2, evB]
theorem dEq_gd {w n : Nat} {x y : D} (h : gd w n x = true) (h' : gd w n y = true) (hn : n ≤ 64) : dEq x y = .ok (.bool (PyData.eqv x y)) := by
  have a := gd_shaped h hn
  have b := gd_shaped h' hn
  have e1 : unS x = x := by
    cases x with
    | dict es => exact (gd_dict h).elim
    | _ => rfl
  have e2 : unS y = y := by
    cases y with
    | dict es => exact (gd_dict h').elim
    | _ => rfl
  unfold dEq
  rw [e1, e2, a, b] <;> rfl
theorem dNe_gd {w n : Nat} {x y : D} (h : gd w n x = true) (h' : gd w n y = true) (hn : n ≤ 64) : dNe x y = .ok (.bool (!PyData.eqv x y)) := by
  have a := gd_shaped h hn
  have b := gd_shaped h' hn
  have e1 : unS x = x := by
    cases x with
    | dict es => exact (gd_dict h).elim
    | _ => rfl
  have e2 : unS y = y := by
    cases y with
    | dict es => exact (gd_dict h').elim
    | _ => rfl
  unfold dNe
  rw [e1, e2, a, b] <;> rfl
theorem is_letter_ok {w n : Nat} {x : D} {cs : List Clk} (h : gd w n x = true) (hn : n ≤ 64) : F_is_letter [.tuple (cs.map Clk.d), x] = .ok (.bool (letB cs x)) := by
  unfold F_is_letter M_is_letter
  cases x with
  | dict es => exact (gd_dict h).elim
  | tuple xs =>
    obtain ⟨m, rfl, _, hk⟩ := gd_kids h
    match xs, hk with
    | [], _ => simp [runF_2, letB]
    | [_], _ => simp [runF_2, letB]
    | [_, _], _ => simp [runF_2, letB]
    | [_, _, _], _ => simp [runF_2, letB]
    | a :: b :: c :: e :: f :: r, _ =>
      have : (((r.length : Int) + 1 + 1 + 1 + 1 + 1) == 4) = false := by
        rw [beq_eq_false_iff_ne]; omega
      simp [runF_2, letB, this]
    | [a, b, c, e], hk =>
      have e1 := is_number_ok (hk c (by simp)) 0 999
      by_cases h1 : numB 0 999 c = true
      · obtain ⟨lo, rfl, h2, h3⟩ := numB_true h1
        have e2 := is_event_ok (cs := cs) (hk a (by simp))
        have e3 := is_event_ok (cs := cs) (hk b (by simp))
        have e4 := dEq_gd (hk a (by simp)) (hk b (by simp)) (by omega)
        have e5 := is_number_ok (hk e (by simp)) lo 999
        cases h4 : evB cs a with
        | false => simp [runF_2, letB, e1, e2, h1, h2, h3, h4]
        | true =>
          cases h5 : evB cs b with
          | false => simp [runF_2, letB, e1, e2, e3, h1, h2, h3, h4, h5]
          | true =>
            cases h6 : PyData.eqv a b with
            | true => simp [runF_2, letB, e1, e2, e3, e4, h1, h2, h3, h4, h5, h6]
            | false =>
              cases h7 : isN e with
              | true => simp [runF_2, letB, e1, e2, e3, e4, h1, h2, h3, h4, h5, h6, h7]
              | false => simp [runF_2, letB, e1, e2, e3, e4, e5, h1, h2, h3, h4, h5, h6, h7]
      · have h1 : numB 0 999 c = false := by simpa using h1
        have : letB cs (.tuple [a, b, c, e]) = false := by
          unfold letB
          split
          · rename_i q; cases q; simp [h1]
          · rfl
        simp [runF_2, e1, h1, this]
  | _ => simp [runF_2, letB]
end Fc
set_option Elab.async false
set_option linter.all false
set_option maxRecDepth 100000
set_option maxHeartbeats 2000000
namespace Fc
open PySem L2 Evl PySem.Spec PyProof.Rows
theorem C_is_record_1_ok {w n : Nat} {cds : List D} {b : D} (h : ∀ x ∈ cds, gd w n x = true) (hl : cds.length ≤ 4) (s1 : Slot) : ∃ L, C_is_record_1 [.fz (.tuple [.tuple cds, b]), s1] = .ok (.list L) ∧ dAll [.list L] = .ok (.bool (cds.all clkB)) := by
  refine all_lc (by simp) (fun x hx => ?_) (by omega)
  rw [lcStep_eq]
  simp [wipeE]
  rw [lcK_map (b := true) rfl fun _ => by simp; exact is_clock_ok (h x hx)]
  rfl
theorem C_is_record_2_ok {w n : Nat} {cs : List Clk} {lds : List D} (h : ∀ x ∈ lds, gd w n x = true) (hn : n ≤ 64) (hl : lds.length ≤ 8) (s1 : Slot) : ∃ L, C_is_record_2 [.fz (.tuple [.tuple (cs.map Clk.d), .tuple lds]), s1] = .ok (.list L) ∧ dAll [.list L] = .ok (.bool (lds.all (letB cs))) := by
  refine all_lc (by simp) (fun x hx => ?_) (by omega)
  rw [lcStep_eq]
  simp [wipeE]
  rw [lcK_map (b := true) rfl fun _ => by simp; exact is_letter_ok (h x hx) hn]
  rfl
def recB : D → Prop := fun x => ∃ r : Rec, r.Ok ∧ x = r.d
theorem is_record_ok {w n : Nat} {x : D} (h : gd w n x = true) (hn : n ≤ 64) : ∃ b, F_is_record [x] = .ok (.bool b) ∧ (b = true ↔ recB x) := by
  unfold F_is_record M_is_record
  cases x with
  | dict es => exact (gd_dict h).elim
  | tuple xs =>
    obtain ⟨m, rfl, _, hk⟩ := gd_kids h
    have no : ∀ {x : D}, (∀ a b, x ≠ .tuple [.tuple a, .tuple b]) → ¬ recB x := fun hx ⟨r, _, e⟩ => hx _ _ e
    match xs, hk with
    | [], _ => exact ⟨false, by simp [runF_1], by simpa using no (by simp)⟩
    | [_], _ => exact ⟨false, by simp [runF_1], by simpa using no (by simp)⟩
    | a :: b :: c :: r, _ =>
      have : (((r.length : Int) + 1 + 1 + 1) == 2) = false := by
        rw [beq_eq_false_iff_ne]; omega
      exact ⟨false, by simp [runF_1, this], by simpa using no (by simp)⟩
    | [a, b], hk =>
      have ga := hk a (by simp)
      have gb := hk b (by simp)
      cases a with
      | dict es => exact (gd_dict ga).elim
      | tuple cds =>
        obtain ⟨m1, rfl, _, hk1⟩ := gd_kids ga
        by_cases h1 : 1 ≤ cds.length ∧ cds.length ≤ 4
        · have i1 : (1 : Int) ≤ (cds.length : Nat) := by omega
          have i2 : ((cds.length : Nat) : Int) ≤ 4 := by omega
          obtain ⟨L, e1, e1'⟩ := C_is_record_1_ok (b := b) hk1 h1.2 .un
          cases h2 : cds.all clkB with
          | false =>
            refine ⟨false, by simp only [runF_1, List.reduceReplicate, Nat.reduceSub]; rw [h2] at e1'; simp [e1, e1', i1, i2], ?_⟩
            simp only [Bool.false_eq_true, false_iff]
            rintro ⟨r, o, e⟩
            simp only [Rec.d, PyData.tuple.injEq, List.cons.injEq, and_true] at e
            rw [e.1, clks_all o.cs] at h2
            cases h2
          | true =>
            obtain ⟨cs, rfl, hcs⟩ := clks_of h2
            rw [h2] at e1'
            cases b with
            | dict es => exact (gd_dict gb).elim
            | tuple lds =>
              obtain ⟨m2, e9, _, hk2⟩ := gd_kids gb
              by_cases h3 : lds.length ≤ 8
              · obtain ⟨L2, e2, e2'⟩ := C_is_record_2_ok (cs := cs) hk2 (by omega) h3 .un
                have i3 : ¬ ((8 : Int) < (lds.length : Nat)) := by omega
                refine ⟨lds.all (letB cs), ?_, ?_⟩
                · simp only [runF_1, List.reduceReplicate, Nat.reduceSub]
                  rw [List.length_map] at i1 i2
                  simp [e1, e1', e2, e2', i1, i2, i3, h3]
                · constructor
                  · intro q
                    obtain ⟨ls, rfl, hls⟩ := ltrs_of q
                    rw [List.length_map] at h1 h3
                    exact ⟨⟨cs, ls⟩, ⟨h1.1, h1.2, hcs, h3, hls⟩, rfl⟩
                  · rintro ⟨r, o, e⟩
                    simp only [Rec.d, PyData.tuple.injEq, List.cons.injEq, and_true] at e
                    have : cs = r.cs := by
                      have inj : ∀ a b : Clk, a.d = b.d → a = b := by
                        intro a b q
                        obtain ⟨a1, a2, a3⟩ := a
                        obtain ⟨b1, b2, b3⟩ := b
                        simp only [Clk.d, PyData.tuple.injEq, List.cons.injEq, PyData.int.injEq, and_true] at q
                        have := (List.map_inj_right (f := PyData.int) (fun x y z => PyData.int.inj z)).mp q.2.2
                        simp [q.1, q.2.1, this]
                      exact (List.map_inj_right inj).mp e.1
                    rw [e.2, this]
                    exact ltrs_all o.ls
              · have i3 : (8 : Int) < (lds.length : Nat) := by omega
                refine ⟨false, ?_, ?_⟩
                · simp only [runF_1, List.reduceReplicate, Nat.reduceSub]
                  rw [List.length_map] at i1 i2
                  simp [e1, e1', i1, i2, i3, h3]
                · simp only [Bool.false_eq_true, false_iff]
                  rintro ⟨r, o, e⟩
                  simp only [Rec.d, PyData.tuple.injEq, List.cons.injEq, and_true] at e
                  have := o.l8
                  rw [e.2, List.length_map] at h3
                  exact h3 this
            | _ =>
              refine ⟨false, ?_, by simpa using no (by simp)⟩
              simp only [runF_1, List.reduceReplicate, Nat.reduceSub]
              rw [List.length_map] at i1 i2
              simp [e1, e1', i1, i2]
        · refine ⟨false, ?_, ?_⟩
          · by_cases i1 : (1 : Int) ≤ (cds.length : Nat)
            · have i2 : ¬ ((cds.length : Nat) : Int) ≤ 4 := by omega
              have i3 : ¬ cds.length ≤ 4 := by omega
              simp [runF_1, i1, i2, i3]
            · have i3 : ¬ 1 ≤ cds.length := by omega
              simp [runF_1, i1, i3]
          · simp only [Bool.false_eq_true, false_iff]
            rintro ⟨r, o, e⟩
            simp only [Rec.d, PyData.tuple.injEq, List.cons.injEq, and_true] at e
            rw [e.1, List.length_map] at h1
            exact h1 ⟨o.c1, o.c4⟩
      | _ => exact ⟨false, by simp [runF_1], by simpa using no (by simp)⟩
  | _ => exact ⟨false, by simp [runF_1], by simp [recB, Rec.d]⟩
end Fc
set_option Elab.async false
set_option linter.all false
set_option maxRecDepth 100000
set_option maxHeartbeats 2000000
namespace Fc
open PySem L2 Evl PySem.Spec PyProof.Rows
/-! ### the law's events -/
def evs (i : Nat) : List Clk → List Ev
  | [] => []
  | c :: cs => ((List.range c.rs.length).map fun j => (i, j)) ++ evs (i + 1) cs
theorem evs_mem (e : Ev) : ∀ (cs : List Clk) (i : Nat), e ∈ evs i cs ↔ ∃ k, e.1 = i + k ∧ EvOk cs (k, e.2)
  | [], i => by simp [evs, EvOk]
  | c :: cs, i => by
    unfold evs
    rw [List.mem_append, evs_mem e cs (i + 1), List.mem_map]
    constructor
    · rintro (⟨j, hj, rfl⟩ | ⟨k, h1, c', h2, h3⟩)
      · exact ⟨0, rfl, c, rfl, List.mem_range.mp hj⟩
      · exact ⟨k + 1, by omega, c', h2, h3⟩
    · rintro ⟨k, h1, c', h2, h3⟩
      cases k with
      | zero =>
        simp only [List.getElem?_cons_zero, Option.some.injEq] at h2
        subst h2
        exact .inl ⟨e.2, List.mem_range.mpr h3, Prod.ext h1.symm rfl⟩
      | succ k => exact .inr ⟨k, by omega, c', by simpa using h2, h3⟩
theorem evs_iff (cs : List Clk) (e : Ev) : e ∈ evs 0 cs ↔ EvOk cs e := by
  rw [evs_mem]
  constructor
  · rintro ⟨k, h1, h2⟩
    have : e = (k, e.2) := Prod.ext (by omega) rfl
    rw [this]
    exact h2
  · intro h
    exact ⟨e.1, by omega, h⟩
theorem evs_len : ∀ (cs : List Clk) (i : Nat), (∀ c ∈ cs, c.rs.length ≤ 4) → (evs i cs).length ≤ 4 * cs.length
  | [], _, _ => Nat.zero_le _
  | c :: cs, i, h => by
    have h1 := h c (by simp)
    have h2 := evs_len cs (i + 1) fun x hx => h x (List.mem_cons_of_mem _ hx)
    unfold evs
    rw [List.length_append, List.length_map, List.length_range, List.length_cons]
    omega
theorem rngD_map (n : Nat) : rngD 0 n = (List.range n).map fun j => .int ((j : Nat) : Int) := by
  unfold rngD
  simp
theorem C_law_events_1_ok (i : Nat) (c : Clk) (hc : c.rs.length ≤ 4) (s0 s1 s4 : Slot) : C_law_events_1 [s0, s1, .fz (.int (i : Nat)), .fz c.d, s4] = .ok (.list (((List.range c.rs.length).map fun j => (i, j)).map evd)) := by
  have h : (.list (((List.range c.rs.length).map fun j => (i, j)).map evd) : D) = .list ((rngD 0 c.rs.length).filterMap fun d => some (.tuple [.int (i : Nat), d])) := by
    rw [fm_some, rngD_map]
    simp only [List.map_map]
    rfl
  rw [h]
  refine eLc_map ?_ (fun x hx => ?_) (by unfold rngD; simp; omega)
  · have : (-100000 ≤ ((c.rs.length : Nat) : Int)) ∧ ((c.rs.length : Nat) : Int) ≤ 100000 := by omega
    simp [Clk.d, dRng1, this]
  · rw [lcStep_eq]
    simp [wipeE]
    rw [lcK_map (b := true) rfl fun _ => by simp; rfl]
    rfl
theorem law_events_ok (cs : List Clk) (hc : ∀ c ∈ cs, c.rs.length ≤ 4) (hl : cs.length ≤ 10) : F_law_events [.tuple (cs.map Clk.d)] = .ok (.list ((evs 0 cs).map evd)) := by
  have loop : ∀ s2 s3 s4, ∃ a b c, L_law_events_1 [.fz (.tuple (cs.map Clk.d)), .fz (.list []), s2, s3, s4] = .nx [.fz (.tuple (cs.map Clk.d)), .fz (.list ((evs 0 cs).map evd)), a, b, c] := by
    intro s2 s3 s4
    refine sFor_post (ds := enumD 0 (cs.map Clk.d)) (Post := fun r => ∃ a b c, r = .nx [.fz (.tuple (cs.map Clk.d)), .fz (.list ((evs 0 cs).map evd)), a, b, c]) (by simp [dEnum])
      (fun ds ρ => ∃ (i : Nat) (cs' : List Clk) (pre : List Ev) (a b c : Slot), ds = enumD i (cs'.map Clk.d) ∧ ρ = [.fz (.tuple (cs.map Clk.d)), .fz (.list (pre.map evd)), a, b, c] ∧ pre ++ evs i cs' = evs 0 cs ∧ ∀ c ∈ cs', c.rs.length ≤ 4) ⟨0, cs, [], s2, s3, s4, rfl, rfl, rfl, hc⟩ ?_ ?_
    · rintro ρ ⟨i, cs', pre, a, b, c, h1, h2, h3, _⟩
      cases cs' with
      | nil =>
        rw [h2]
        have : pre = evs 0 cs := by rw [← h3]; simp [evs]
        rw [this]
        exact ⟨a, b, c, rfl⟩
      | cons x xs => cases h1
    · rintro d ds ρ ⟨i, cs', pre, a, b, c, h1, h2, h3, h4⟩
      cases cs' with
      | nil => cases h1
      | cons x xs =>
        simp only [List.map_cons, enumD, List.cons.injEq] at h1
        obtain ⟨rfl, rfl⟩ := h1
        subst h2
        refine ⟨_, gTup2 2 3 _ _ _, ?_⟩
        have hx := h4 x (by simp)
        have e1 := C_law_events_1_ok i x hx (.fz (.tuple (cs.map Clk.d))) (.fz (.list (pre.map evd))) c
        have hlen := evs_len cs 0 hc
        have e2 : dAdd (.list (pre.map evd)) (.list (((List.range x.rs.length).map fun j => (i, j)).map evd)) = .ok (.list ((pre ++ (List.range x.rs.length).map fun j => (i, j)).map evd)) := by
          rw [dAdd_l, List.map_append]
          rw [← h3] at hlen
          simp only [List.length_append, evs, List.length_map, List.length_range] at hlen ⊢
          omega
        simp only [List.set_cons_succ, List.set_cons_zero]
        unfold B_law_events_1
        simp only [sAsg_eq, eBin_eq, eW_eq, e1, List.getElem?_cons_zero, List.getElem?_cons_succ, rdW_fz, R.bind_ok, e2, rK_ok, List.set_cons_succ, List.set_cons_zero]
        refine ⟨i + 1, xs, _, _, _, _, rfl, rfl, ?_, fun y hy => h4 y (List.mem_cons_of_mem _ hy)⟩
        rw [List.append_assoc]
        exact h3
  obtain ⟨a, b, c, hL⟩ := loop .un .un .un
  unfold F_law_events M_law_events
  simp only [runF_1, List.reduceReplicate, Nat.reduceSub]
  simp [hL]
/-! ### lists of what fails -/
theorem eqv_nil {L : List D} : PyData.eqv (.list L) (.list []) = L.isEmpty := by
  cases L <;> simp [PyData.eqv, PyData.eqvAll]
theorem filter_any {p : D → Bool} : ∀ l : List D, (!(l.filter p).isEmpty) = l.any p
  | [] => rfl
  | a :: l => by
    have ih := filter_any (p := p) l
    cases q : p a with
    | true => simp [q]
    | false => rw [List.filter_cons_of_neg (by simp [q]), List.any_cons, q, Bool.false_or, ih]
/-- [x for x in xs if p(x)] != [] -/
theorem bad_lc {w n : Nat} {it : DI} {g : DG} {t m : DE} {vs : List Nat} {ρ : En} {ds : List D} {p : D → Bool} (hi : it ρ = .ok ds) (h : ∀ d ∈ ds, lcStep g t m vs ρ d = some (if p d = true then some d else none)) (hl : ds.length ≤ w) (hw : w ≤ 100000) (hg : ∀ d ∈ ds, gd w n d = true) (hn : n ≤ 63) :
    ∃ L, eLc it g t m vs ρ = .ok (.list L) ∧ dNe (.list L) (.list []) = .ok (.bool (ds.any p)) := by
  refine ⟨_, eLc_map (f := fun d => if p d = true then some d else none) hi h (by omega), ?_⟩
  rw [fm_if]
  have g1 : gd w (n + 1) (.list (ds.filter p)) = true := gdLst (Nat.le_trans (List.length_filter_le _ _) hl) fun x hx => hg x (List.mem_filter.mp hx).1
  have g2 : gd w (n + 1) (.list []) = true := gdLst (Nat.zero_le _) (by simp)
  rw [dNe_gd g1 g2 (by omega), eqv_nil]
  rw [filter_any]
end Fc
set_option Elab.async false
set_option linter.all false
set_option maxRecDepth 100000
set_option maxHeartbeats 2000000
namespace Fc
open PySem L2 Evl PySem.Spec PyProof.Rows
/-! ### k01: the law's own tests -/
theorem law_number_ok {w n : Nat} {x : D} (h : gd w n x = true) (lo hi : Int) : F_law_number_k01 [x, .int lo, .int hi] = .ok (.bool (numB lo hi x)) := by
  cases x with
  | dict es => exact (gd_dict h).elim
  | int i =>
    by_cases h1 : lo ≤ i <;> simp [F_law_number_k01, M_law_number_k01, runF_3, numB, h1]
  | _ => simp [F_law_number_k01, M_law_number_k01, runF_3, numB]
theorem eqv_ints : ∀ (a b : List Int), PyData.eqvAll (a.map PyData.int) (b.map PyData.int) = decide (a = b)
  | [], [] => rfl
  | [], _ :: _ => rfl
  | _ :: _, [] => rfl
  | a :: as, b :: bs => by
    simp only [List.map_cons, PyData.eqvAll, PyData.eqv, eqv_ints as bs]
    by_cases h : a = b <;> simp [h]
theorem sortU_self (ns : List Int) : decide (ns = sortU ns) = incB ns := by
  cases h : incB ns with
  | true => exact decide_eq_true (srt_uniq ((incB_iff ns).mp h) (sortU_srt ns) fun k => (sortU_mem k ns).symm)
  | false =>
    refine decide_eq_false fun e => ?_
    have := (incB_iff ns).mpr (by rw [e]; exact sortU_srt ns)
    rw [h] at this
    cases this
theorem insU_len (x : Int) : ∀ l : List Int, (insU x l).length ≤ l.length + 1
  | [] => Nat.le_refl _
  | y :: ys => by
    unfold insU
    split
    · simp
    · split
      · simp only [List.length_cons]; have := insU_len x ys; omega
      · simp
theorem sortU_len : ∀ l : List Int, (sortU l).length ≤ l.length
  | [] => Nat.le_refl _
  | x :: xs => by
    have h1 := insU_len x (sortU xs)
    have h2 := sortU_len xs
    unfold sortU
    rw [List.length_cons]
    omega
theorem not_all {ds : List D} {p : D → Bool} : ds.any (fun d => !p d) = !ds.all p := by
  induction ds with
  | nil => rfl
  | cons a l ih => simp [ih, Bool.not_and]
theorem C_law_is_clock_1_ok {w n : Nat} {a b : D} {rs : List D} (h : ∀ x ∈ rs, gd w n x = true) (hn : n ≤ 63) (hl : rs.length ≤ w) (hw : w ≤ 100000) (s1 : Slot) : ∃ L, C_law_is_clock_1 [.fz (.tuple [a, b, .tuple rs]), s1] = .ok (.list L) ∧ dNe (.list L) (.list []) = .ok (.bool (!rs.all (numB 0 99))) := by
  rw [← not_all]
  refine bad_lc (w := w) (n := n) (by simp) (fun x hx => ?_) hl hw h hn
  rw [lcStep_eq]
  have e := law_number_ok (h x hx) 0 99
  simp only [wipeE, gN_eq, List.set_cons_succ, List.set_cons_zero]
  exact lcK_map (by simp [e]) fun _ => by simp
theorem gd_ints (ns : List Int) {w : Nat} (h : ns.length ≤ w) : gd w 1 (.list (ns.map PyData.int)) = true := gdLst (by simpa using h) fun x hx => by
  obtain ⟨i, _, rfl⟩ := List.mem_map.mp hx
  rfl
theorem law_is_clock_ok {w n : Nat} {x : D} (h : gd w n x = true) (hn : n ≤ 64) (hw : w ≤ 100000) : F_law_is_clock [x] = .ok (.bool (clkB x)) := by
  unfold F_law_is_clock M_law_is_clock
  cases x with
  | dict es => exact (gd_dict h).elim
  | tuple xs =>
    obtain ⟨m, rfl, _, hk⟩ := gd_kids h
    match xs, hk with
    | [], _ => simp [runF_1, clkB]
    | [_], _ => simp [runF_1, clkB]
    | [_, _], _ => simp [runF_1, clkB]
    | a :: b :: c :: e :: r, _ =>
      have : (((r.length : Int) + 1 + 1 + 1 + 1) == 3) = false := by
        rw [beq_eq_false_iff_ne]; omega
      simp [runF_1, clkB, this]
    | [a, b, c], hk =>
      have ga := hk a (by simp)
      have gb := hk b (by simp)
      have gc := hk c (by simp)
      have e1 := law_number_ok ga 1 9
      by_cases h1 : numB 1 9 a = true
      · obtain ⟨i, rfl, h2, h3⟩ := numB_true h1
        have e2 := law_number_ok gb i 9
        by_cases h4 : numB i 9 b = true
        · cases c with
          | dict es => exact (gd_dict gc).elim
          | tuple rs =>
            obtain ⟨m2, rfl, hrw, hk2⟩ := gd_kids gc
            by_cases h5 : 1 ≤ rs.length
            · by_cases h6 : rs.length ≤ 4
              · obtain ⟨L, e3, e3'⟩ := C_law_is_clock_1_ok (a := .int i) (b := b) hk2 (by omega) hrw hw .un
                have i5 : (1 : Int) ≤ ((rs.length : Nat) : Int) := by omega
                have i6 : ((rs.length : Nat) : Int) ≤ 4 := by omega
                by_cases h7 : rs.all (numB 0 99) = true
                · obtain ⟨ns, rfl, h8⟩ := all_numB h7
                  rw [List.length_map] at h5 h6 i5 i6
                  have l1 := sortU_len ns
                  have e4 := dEq_gd (gd_ints ns (w := 10) (by omega)) (gd_ints (sortU ns) (w := 10) (by omega)) (by omega)
                  have e5 : dSortSet (.tuple (ns.map PyData.int)) = .ok (.list ((sortU ns).map .int)) := by
                    have : ns.length ≤ 60 := by omega
                    simp [dSortSet, this]
                  have e6 : dLstOf [.tuple (ns.map PyData.int)] = .ok (.list (ns.map PyData.int)) := by
                    have : ns.length ≤ 100000 := by omega
                    simp [dLstOf, this]
                  simp only [PyData.eqv, eqv_ints, sortU_self] at e4
                  rw [h7] at e3'
                  simp only [runF_1, List.reduceReplicate, Nat.reduceSub]
                  simp [e1, e2, e3, e3', e4, e5, e6, h1, h2, h3, h4, h5, h6, h7, i5, i6, clkB]
                · have h7 : rs.all (numB 0 99) = false := by simpa using h7
                  rw [h7] at e3'
                  simp only [runF_1, List.reduceReplicate, Nat.reduceSub]
                  simp [e1, e2, e3, e3', h1, h2, h3, h4, h5, h6, h7, i5, i6, clkB]
              · have i6 : ¬ ((rs.length : Nat) : Int) ≤ 4 := by omega
                have i5 : (1 : Int) ≤ ((rs.length : Nat) : Int) := by omega
                simp [runF_1, e1, e2, h1, h2, h3, h4, h5, h6, i5, i6, clkB]
            · have i5 : ¬ (1 : Int) ≤ ((rs.length : Nat) : Int) := by omega
              simp [runF_1, e1, e2, h1, h2, h3, h4, h5, i5, clkB]
          | _ => simp [runF_1, e1, e2, h1, h2, h3, h4, clkB]
        · have h4 : numB i 9 b = false := by simpa using h4
          have : clkB (.tuple [.int i, b, c]) = false := by
            unfold clkB
            split
            · rename_i q; cases q; simp [h4]
            · rfl
          simp [runF_1, e1, e2, h1, h2, h3, h4, this]
      · have h1 : numB 1 9 a = false := by simpa using h1
        have : clkB (.tuple [a, b, c]) = false := by
          unfold clkB
          split
          · rename_i q; cases q; simp [h1]
          · rfl
        simp [runF_1, e1, h1, this]
  | _ => simp [runF_1, clkB]
/-! the law's letters -/
theorem C_law_is_record_2_ok {w n : Nat} {xs : List D} (h : ∀ x ∈ xs, gd w n x = true) (hn : n ≤ 63) (hl : xs.length ≤ w) (hw : w ≤ 100000) (s0 s1 s2 s4 s5 : Slot) : ∃ L, C_law_is_record_2 [s0, s1, s2, .fz (.tuple xs), s4, s5] = .ok (.list L) ∧ dNe (.list L) (.list []) = .ok (.bool (!xs.all (numB 0 9))) := by
  rw [← not_all]
  refine bad_lc (w := w) (n := n) (by simp) (fun x hx => ?_) hl hw h hn
  rw [lcStep_eq]
  have e := law_number_ok (h x hx) 0 9
  simp only [wipeE, gN_eq, List.set_cons_succ, List.set_cons_zero]
  exact lcK_map (by simp [e]) fun _ => by simp
theorem ints_evB {cs : List Clk} (ns : List Int) (h0 : ∀ r ∈ ns, 0 ≤ r ∧ r ≤ 9) : ((evs 0 cs).map evd).any (fun z => PyData.eqv z (.tuple (ns.map PyData.int))) = evB cs (.tuple (ns.map PyData.int)) := by
  rw [Bool.eq_iff_iff, evB_iff, List.any_eq_true]
  constructor
  · rintro ⟨z, hz, q⟩
    obtain ⟨e, he, rfl⟩ := List.mem_map.mp hz
    refine ⟨e, (evs_iff cs e).mp he, ?_⟩
    have : evd e = .tuple ([(e.1 : Int), (e.2 : Int)].map PyData.int) := rfl
    rw [this] at q ⊢
    simp only [PyData.eqv, eqv_ints, decide_eq_true_eq] at q
    rw [← q]
  · rintro ⟨e, he, q⟩
    refine ⟨evd e, List.mem_map.mpr ⟨e, (evs_iff cs e).mpr he, rfl⟩, ?_⟩
    rw [q, eqv_evd]
    simp
theorem evd_gd (e : Ev) : gd 2 1 (evd e) = true := by simp [evd, gd, leafB]
theorem row_gd (cs : List Clk) (hc : ∀ c ∈ cs, c.rs.length ≤ 4) (hl : cs.length ≤ 4) : gd 16 2 (.list ((evs 0 cs).map evd)) = true := by
  refine gdLst ?_ fun x hx => ?_
  · have := evs_len cs 0 hc
    rw [List.length_map]
    omega
  · obtain ⟨e, _, rfl⟩ := List.mem_map.mp hx
    exact gd_mono (by omega) (Nat.le_refl _) (evd_gd e)
theorem evB_numB {cs : List Clk} {x : D} (hc : ∀ c ∈ cs, c.rs.length ≤ 4) (hl : cs.length ≤ 4) (h : evB cs x = true) : ∃ ns : List Int, x = .tuple (ns.map PyData.int) ∧ ∀ r ∈ ns, 0 ≤ r ∧ r ≤ 9 := by
  obtain ⟨e, ⟨c, h1, h2⟩, rfl⟩ := (evB_iff cs x).mp h
  have h3 := (List.getElem?_eq_some_iff.mp h1).1
  have h4 := hc c (List.mem_of_getElem? h1)
  refine ⟨[(e.1 : Int), (e.2 : Int)], rfl, fun r hr => ?_⟩
  simp only [List.mem_cons, List.not_mem_nil, or_false] at hr
  rcases hr with z | z <;> omega
theorem B_law_is_record_1_ok {w n : Nat} {x : D} {cs : List Clk} (h : gd w n x = true) (hn : n ≤ 64) (hw : w ≤ 100000) (hc : ∀ c ∈ cs, c.rs.length ≤ 4) (hl : cs.length ≤ 4) (s0 s2 s4 s5 : Slot) :
    B_law_is_record_1 [s0, .fz (.list ((evs 0 cs).map evd)), s2, .fz x, s4, s5] = if evB cs x = true then .nx [s0, .fz (.list ((evs 0 cs).map evd)), s2, .fz x, s4, s5] else .rt (.bool false) := by
  unfold B_law_is_record_1
  cases x with
  | dict es => exact (gd_dict h).elim
  | tuple xs =>
    obtain ⟨m, rfl, hxw, hk⟩ := gd_kids h
    obtain ⟨L, e1, e1'⟩ := C_law_is_record_2_ok hk (by omega) hxw hw s0 (.fz (.list ((evs 0 cs).map evd))) s2 s4 s5
    cases h1 : xs.all (numB 0 9) with
    | false =>
      rw [h1] at e1'
      have : evB cs (.tuple xs) = false := by
        cases q : evB cs (.tuple xs) with
        | false => rfl
        | true =>
          obtain ⟨ns, e, hb⟩ := evB_numB hc hl q
          cases e
          rw [numB_all hb] at h1
          cases h1
      simp [e1, e1', this]
    | true =>
      rw [h1] at e1'
      obtain ⟨ns, rfl, hb⟩ := all_numB h1
      have e2 : dNotIn (.tuple (ns.map PyData.int)) (.list ((evs 0 cs).map evd)) = .ok (.bool (!evB cs (.tuple (ns.map PyData.int)))) := by
        have g1 := gd_shaped h hn
        have g2 := gd_shaped (row_gd cs hc hl) (by omega)
        unfold dNotIn inD
        simp only [g1, g2, Bool.and_self, if_true, ints_evB ns hb]
      cases q : evB cs (.tuple (ns.map PyData.int)) with
      | false => rw [q] at e2; simp [e1, e1', e2]
      | true => rw [q] at e2; simp [e1, e1', e2]
  | _ => simp [evB]
end Fc
set_option Elab.async false
set_option linter.all false
set_option maxRecDepth 100000
set_option maxHeartbeats 2000000
namespace Fc
open PySem L2 Evl PySem.Spec PyProof.Rows
theorem cutL_to2 {α : Type} (a b c d : α) : cutL [a, b, c, d] none (some 2) = [a, b] := rfl
theorem B_law_is_record_2_ok {w n : Nat} {x : D} {cs : List Clk} (h : gd w n x = true) (hn : n ≤ 64) (hw : w ≤ 100000) (hc : ∀ c ∈ cs, c.rs.length ≤ 4) (hl : cs.length ≤ 4) (s0 s3 s4 s5 : Slot) :
    (letB cs x = true ∧ ∃ s, B_law_is_record_2 [s0, .fz (.list ((evs 0 cs).map evd)), .fz x, s3, s4, s5] = .nx [s0, .fz (.list ((evs 0 cs).map evd)), .fz x, s, s4, s5]) ∨ (letB cs x = false ∧ B_law_is_record_2 [s0, .fz (.list ((evs 0 cs).map evd)), .fz x, s3, s4, s5] = .rt (.bool false)) := by
  unfold B_law_is_record_2
  cases x with
  | dict es => exact (gd_dict h).elim
  | tuple xs =>
    obtain ⟨m, rfl, _, hk⟩ := gd_kids h
    match xs, hk with
    | [], _ => exact .inr (by simp [letB])
    | [_], _ => exact .inr (by simp [letB])
    | [_, _], _ => exact .inr (by simp [letB])
    | [_, _, _], _ => exact .inr (by simp [letB])
    | a :: b :: c :: e :: f :: r, _ =>
      have : (((r.length : Int) + 1 + 1 + 1 + 1 + 1) == 4) = false := by
        rw [beq_eq_false_iff_ne]; omega
      exact .inr (by simp [letB, this])
    | [a, b, c, e], hk =>
      have e1 := law_number_ok (hk c (by simp)) 0 999
      by_cases h1 : numB 0 999 c = true
      · obtain ⟨lo, rfl, h2, h3⟩ := numB_true h1
        have hL : L_law_is_record_1 [s0, .fz (.list ((evs 0 cs).map evd)), .fz (.tuple [a, b, .int lo, e]), s3, s4, s5] =
            if evB cs a = true then (if evB cs b = true then .nx [s0, .fz (.list ((evs 0 cs).map evd)), .fz (.tuple [a, b, .int lo, e]), .fz b, s4, s5] else .rt (.bool false)) else .rt (.bool false) := by
          have ea := B_law_is_record_1_ok (cs := cs) (hk a (by simp)) (by omega) hw hc hl s0 (.fz (.tuple [a, b, .int lo, e])) s4 s5
          have eb := B_law_is_record_1_ok (cs := cs) (hk b (by simp)) (by omega) hw hc hl s0 (.fz (.tuple [a, b, .int lo, e])) s4 s5
          unfold L_law_is_record_1 sFor
          simp only [iSeq_eq, eSl_eq, eW_eq, List.getElem?_cons_zero, List.getElem?_cons_succ, rdW_fz, R.bind_ok, oNone_eq, oSome_eq, eC_eq, toI_i, dSl_t, cutL_to2, dSeq_t]
          cases h4 : evB cs a with
          | false => rw [h4] at ea; simp [forL, ea]
          | true =>
            rw [h4] at ea
            cases h5 : evB cs b with
            | false => rw [h5] at eb; simp [forL, ea, eb]
            | true => rw [h5] at eb; simp [forL, ea, eb]
        have e4 := dEq_gd (hk a (by simp)) (hk b (by simp)) (by omega)
        have e5 := law_number_ok (hk e (by simp)) lo 999
        cases h4 : evB cs a with
        | false => rw [h4] at hL; exact .inr (by simp [letB, e1, h1, h2, h3, h4, hL])
        | true =>
          cases h5 : evB cs b with
          | false => rw [h4, h5] at hL; exact .inr (by simp [letB, e1, h1, h2, h3, h4, h5, hL])
          | true =>
            rw [h4, h5] at hL
            cases h6 : PyData.eqv a b with
            | true => rw [h6] at e4; exact .inr (by simp [letB, e1, h1, h2, h3, h4, h5, h6, hL, e4])
            | false =>
              rw [h6] at e4
              cases h7 : isN e with
              | true => exact .inl ⟨by simp [letB, h1, h2, h3, h4, h5, h6, h7], .fz b, by simp [e1, h1, h2, h3, hL, e4, h7]⟩
              | false =>
                cases h8 : numB lo 999 e with
                | true => exact .inl ⟨by simp [letB, h1, h2, h3, h4, h5, h6, h7, h8], .fz b, by simp [e1, h1, h2, h3, hL, e4, h7, e5, h8]⟩
                | false => exact .inr (by simp [letB, e1, h1, h2, h3, h4, h5, h6, h7, h8, hL, e4, e5])
      · have h1 : numB 0 999 c = false := by simpa using h1
        have : letB cs (.tuple [a, b, c, e]) = false := by
          unfold letB
          split
          · rename_i q; cases q; simp [h1]
          · rfl
        exact .inr ⟨this, by simp [e1, h1]⟩
  | _ => exact .inr (by simp [letB])
theorem L_law_is_record_2_ok {w n : Nat} {lds : List D} {cs : List Clk} {c : D} (hg : ∀ x ∈ lds, gd w n x = true) (hn : n ≤ 64) (hw : w ≤ 100000) (hc : ∀ c ∈ cs, c.rs.length ≤ 4) (hl : cs.length ≤ 4) (s2 s3 s4 s5 : Slot) :
    (lds.all (letB cs) = true ∧ ∃ ρ, L_law_is_record_2 [.fz (.tuple [c, .tuple lds]), .fz (.list ((evs 0 cs).map evd)), s2, s3, s4, s5] = .nx ρ) ∨ (lds.all (letB cs) = false ∧ L_law_is_record_2 [.fz (.tuple [c, .tuple lds]), .fz (.list ((evs 0 cs).map evd)), s2, s3, s4, s5] = .rt (.bool false)) := by
  refine sFor_post (ds := lds) (Post := fun r => (lds.all (letB cs) = true ∧ ∃ ρ, r = .nx ρ) ∨ (lds.all (letB cs) = false ∧ r = .rt (.bool false))) (by simp)
    (fun ds ρ => (∃ (a b e f : Slot), ρ = [.fz (.tuple [c, .tuple lds]), .fz (.list ((evs 0 cs).map evd)), a, b, e, f]) ∧ (∀ x ∈ ds, gd w n x = true) ∧ lds.all (letB cs) = ds.all (letB cs)) ⟨⟨s2, s3, s4, s5, rfl⟩, hg, rfl⟩ ?_ ?_
  · rintro ρ ⟨_, _, h⟩
    exact .inl ⟨h, ρ, rfl⟩
  · rintro d ds ρ ⟨⟨a, b, e, f, rfl⟩, h1, h2⟩
    refine ⟨_, gN_eq _ _ _, ?_⟩
    simp only [List.set_cons_succ, List.set_cons_zero]
    rcases B_law_is_record_2_ok (cs := cs) (h1 d (by simp)) hn hw hc hl (.fz (.tuple [c, .tuple lds])) b e f with ⟨h3, s, h4⟩ | ⟨h3, h4⟩
    · rw [h4]
      refine ⟨⟨_, _, _, _, rfl⟩, fun x hx => h1 x (List.mem_cons_of_mem _ hx), ?_⟩
      rw [h2, List.all_cons, h3, Bool.true_and]
    · rw [h4]
      refine .inr ⟨?_, rfl⟩
      rw [h2, List.all_cons, h3, Bool.false_and]
theorem C_law_is_record_1_ok {w n : Nat} {cds : List D} {b : D} (h : ∀ x ∈ cds, gd w n x = true) (hn : n ≤ 63) (hl : cds.length ≤ w) (hw : w ≤ 100000) (s1 s2 s3 s4 s5 : Slot) : ∃ L, C_law_is_record_1 [.fz (.tuple [.tuple cds, b]), s1, s2, s3, s4, s5] = .ok (.list L) ∧ dNe (.list L) (.list []) = .ok (.bool (!cds.all clkB)) := by
  rw [← not_all]
  refine bad_lc (w := w) (n := n) (by simp) (fun x hx => ?_) hl hw h hn
  rw [lcStep_eq]
  have e := law_is_clock_ok (h x hx) (by omega) hw
  simp only [wipeE, gN_eq, List.set_cons_succ, List.set_cons_zero]
  exact lcK_map (by simp [e]) fun _ => by simp
theorem law_is_record_ok {w n : Nat} {x : D} (h : gd w n x = true) (hn : n ≤ 64) (hw : w ≤ 100000) : ∃ b, F_law_is_record [x] = .ok (.bool b) ∧ (b = true ↔ recB x) := by
  unfold F_law_is_record M_law_is_record
  cases x with
  | dict es => exact (gd_dict h).elim
  | tuple xs =>
    obtain ⟨m, rfl, _, hk⟩ := gd_kids h
    have no : ∀ {x : D}, (∀ a b, x ≠ .tuple [.tuple a, .tuple b]) → ¬ recB x := fun hx ⟨r, _, e⟩ => hx _ _ e
    match xs, hk with
    | [], _ => exact ⟨false, by simp [runF_1], by simpa using no (by simp)⟩
    | [_], _ => exact ⟨false, by simp [runF_1], by simpa using no (by simp)⟩
    | a :: b :: c :: r, _ =>
      have : (((r.length : Int) + 1 + 1 + 1) == 2) = false := by
        rw [beq_eq_false_iff_ne]; omega
      exact ⟨false, by simp [runF_1, this], by simpa using no (by simp)⟩
    | [a, b], hk =>
      have ga := hk a (by simp)
      have gb := hk b (by simp)
      cases a with
      | dict es => exact (gd_dict ga).elim
      | tuple cds =>
        obtain ⟨m1, rfl, hcw, hk1⟩ := gd_kids ga
        cases b with
        | dict es => exact (gd_dict gb).elim
        | tuple lds =>
          obtain ⟨m2, e9, hlw, hk2⟩ := gd_kids gb
          by_cases h1 : 1 ≤ cds.length ∧ cds.length ≤ 4
          · have i1 : (1 : Int) ≤ (cds.length : Nat) := by omega
            have i2 : ((cds.length : Nat) : Int) ≤ 4 := by omega
            obtain ⟨L, e1, e1'⟩ := C_law_is_record_1_ok (b := .tuple lds) hk1 (by omega) hcw hw .un .un .un .un .un
            cases h2 : cds.all clkB with
            | false =>
              rw [h2] at e1'
              refine ⟨false, by simp only [runF_1, List.reduceReplicate, Nat.reduceSub]; simp [e1, e1', i1, i2], ?_⟩
              simp only [Bool.false_eq_true, false_iff]
              rintro ⟨r, o, e⟩
              simp only [Rec.d, PyData.tuple.injEq, List.cons.injEq, and_true] at e
              rw [e.1, clks_all o.cs] at h2
              cases h2
            | true =>
              obtain ⟨cs, rfl, hcs⟩ := clks_of h2
              rw [h2] at e1'
              rw [List.length_map] at i1 i2 h1
              by_cases h3 : lds.length ≤ 8
              · have i3 : ¬ ((8 : Int) < (lds.length : Nat)) := by omega
                have e2 := law_events_ok cs (fun c hc => (hcs c hc).l4) (by omega)
                rcases L_law_is_record_2_ok (c := .tuple (cs.map Clk.d)) hk2 (by omega) hw (fun c hc => (hcs c hc).l4) h1.2 .un .un .un .un with ⟨h4, ρ, e3⟩ | ⟨h4, e3⟩
                · refine ⟨true, ?_, ?_⟩
                  · simp only [runF_1, List.reduceReplicate, Nat.reduceSub]
                    simp [e1, e1', e2, e3, i1, i2, i3]
                  · simp only [true_iff]
                    obtain ⟨ls, rfl, hls⟩ := ltrs_of h4
                    rw [List.length_map] at h3
                    exact ⟨⟨cs, ls⟩, ⟨h1.1, h1.2, hcs, h3, hls⟩, rfl⟩
                · refine ⟨false, ?_, ?_⟩
                  · simp only [runF_1, List.reduceReplicate, Nat.reduceSub]
                    simp [e1, e1', e2, e3, i1, i2, i3]
                  · simp only [Bool.false_eq_true, false_iff]
                    rintro ⟨r, o, e⟩
                    simp only [Rec.d, PyData.tuple.injEq, List.cons.injEq, and_true] at e
                    have : cs = r.cs := by
                      have inj : ∀ a b : Clk, a.d = b.d → a = b := by
                        intro a b q
                        obtain ⟨a1, a2, a3⟩ := a
                        obtain ⟨b1, b2, b3⟩ := b
                        simp only [Clk.d, PyData.tuple.injEq, List.cons.injEq, PyData.int.injEq, and_true] at q
                        have := (List.map_inj_right (f := PyData.int) (fun x y z => PyData.int.inj z)).mp q.2.2
                        simp [q.1, q.2.1, this]
                      exact (List.map_inj_right inj).mp e.1
                    rw [e.2, this, ltrs_all o.ls] at h4
                    cases h4
              · have i3 : (8 : Int) < (lds.length : Nat) := by omega
                refine ⟨false, ?_, ?_⟩
                · simp only [runF_1, List.reduceReplicate, Nat.reduceSub]
                  simp [e1, e1', i1, i2, i3, h3]
                · simp only [Bool.false_eq_true, false_iff]
                  rintro ⟨r, o, e⟩
                  simp only [Rec.d, PyData.tuple.injEq, List.cons.injEq, and_true] at e
                  have := o.l8
                  rw [e.2, List.length_map] at h3
                  exact h3 this
          · refine ⟨false, ?_, ?_⟩
            · by_cases i1 : (1 : Int) ≤ (cds.length : Nat)
              · have i2 : ¬ ((cds.length : Nat) : Int) ≤ 4 := by omega
                have i3 : ¬ cds.length ≤ 4 := by omega
                simp [runF_1, i1, i2, i3]
              · have i3 : ¬ 1 ≤ cds.length := by omega
                simp [runF_1, i1, i3]
            · simp only [Bool.false_eq_true, false_iff]
              rintro ⟨r, o, e⟩
              simp only [Rec.d, PyData.tuple.injEq, List.cons.injEq, and_true] at e
              rw [e.1, List.length_map] at h1
              exact h1 ⟨o.c1, o.c4⟩
        | _ => exact ⟨false, by simp [runF_1], by simpa using no (by simp)⟩
      | _ => exact ⟨false, by simp [runF_1], by simpa using no (by simp)⟩
  | _ => exact ⟨false, by simp [runF_1], by simp [recB, Rec.d]⟩
end Fc
set_option Elab.async false
set_option linter.all false
set_option maxRecDepth 100000
set_option maxHeartbeats 2000000
namespace Fc
open PySem L2 Evl PySem.Spec PyProof.Rows
/-! ### the law's clock -/
structure Clk.Gen (c : Clk) : Prop where
  ok : c.Ok
  l3 : c.rs.length ≤ 3
  r15 : ∀ r ∈ c.rs, r ≤ 15
  s3 : c.slow ≤ 3
  f5 : c.fast ≤ 5
theorem rng_mem {n : Nat} {x : D} (h : x ∈ rngD 0 n) : ∃ k : Nat, k < n ∧ x = .int (k : Nat) := by
  rw [rngD_map] at h
  obtain ⟨k, hk, rfl⟩ := List.mem_map.mp h
  exact ⟨k, List.mem_range.mp hk, rfl⟩
theorem dRng1_i (n : Int) (h : 0 ≤ n ∧ n ≤ 100000) : dRng1 [.int n] = .ok (rngD 0 n.toNat) := by
  have h : (-100000 ≤ n) ∧ n ≤ 100000 := by omega
  simp [dRng1, h]
theorem rng_len (n : Nat) : (rngD 0 n).length = n := by unfold rngD; simp
theorem law_clock_ok (ns : List Int) (hl : ns.length ≤ 63) (at_ : Int) : ∃ c : Clk, F_law_clock [scD ns, .int at_] = .ok c.d ∧ c.Gen := by
  obtain ⟨a, a0, a1, ea⟩ := law_drawn_ok ns hl at_ 3 (by omega)
  obtain ⟨b, b0, b1, eb⟩ := law_drawn_ok ns hl (at_ + 2) 6 (by omega)
  obtain ⟨c, c0, c1, ec⟩ := law_drawn_ok ns hl (at_ + 1) 3 (by omega)
  obtain ⟨d, d0, d1, ed⟩ := law_drawn_ok ns hl (at_ + 6) 3 (by omega)
  have loop : ∃ (rs : List Int) (s4 : Slot), L_law_clock_1 [.fz (scD ns), .fz (.int at_), .fz (.int (1 + a)), .fz (.tuple [.int b]), .un] = .nx [.fz (scD ns), .fz (.int at_), .fz (.int (1 + a)), .fz (.tuple (rs.map PyData.int)), s4] ∧ 1 ≤ rs.length ∧ rs.length ≤ 3 ∧ rs.Pairwise (· < ·) ∧ ∀ r ∈ rs, 0 ≤ r ∧ r ≤ 15 := by
    refine sFor_post (ds := rngD 0 c.toNat) (Post := fun r => ∃ (rs : List Int) (s4 : Slot), r = .nx [.fz (scD ns), .fz (.int at_), .fz (.int (1 + a)), .fz (.tuple (rs.map PyData.int)), s4] ∧ 1 ≤ rs.length ∧ rs.length ≤ 3 ∧ rs.Pairwise (· < ·) ∧ ∀ r ∈ rs, 0 ≤ r ∧ r ≤ 15)
      (by simp [ec, dRng1_i c (by omega)])
      (fun ds ρ => ∃ (rs : List Int) (s4 : Slot), ρ = [.fz (scD ns), .fz (.int at_), .fz (.int (1 + a)), .fz (.tuple (rs.map PyData.int)), s4] ∧ 1 ≤ rs.length ∧ rs.length + ds.length ≤ 3 ∧ rs.Pairwise (· < ·) ∧ (∀ r ∈ rs, 0 ≤ r ∧ r + 5 * (ds.length : Nat) ≤ 15) ∧ ∀ x ∈ ds, ∃ k : Nat, x = .int (k : Nat)) ?_ ?_ ?_
    · refine ⟨[b], .un, rfl, by simp, ?_, by simp, fun r hr => ?_, fun x hx => ?_⟩
      · rw [rng_len]; simp only [List.length_cons, List.length_nil]; omega
      · rw [rng_len]
        simp only [List.mem_cons, List.not_mem_nil, or_false] at hr
        subst hr
        omega
      · obtain ⟨k, _, e⟩ := rng_mem hx
        exact ⟨k, e⟩
    · rintro ρ ⟨rs, s4, rfl, h1, h2, h3, h4, _⟩
      exact ⟨rs, s4, rfl, h1, by simpa using h2, h3, fun r hr => by have := h4 r hr; simp at this; omega⟩
    · rintro x ds ρ ⟨rs, s4, rfl, h1, h2, h3, h4, h5⟩
      obtain ⟨k, rfl⟩ := h5 x (by simp)
      obtain ⟨v, v0, v1, ev⟩ := law_drawn_ok ns hl (at_ + 3 + k) 5 (by omega)
      obtain ⟨pre, l, rfl⟩ : ∃ pre l, rs = pre ++ [l] := ⟨rs.dropLast, rs.getLast (by intro z; rw [z] at h1; simp at h1), (List.dropLast_concat_getLast _).symm⟩
      refine ⟨_, gN_eq _ _ _, ?_⟩
      simp only [List.set_cons_succ, List.set_cons_zero]
      have hx : atI ((pre ++ [l]).map PyData.int) (-1) = some (.int l) := by
        rw [List.map_append]
        exact atI_last _ _
      have hlen : (pre ++ [l]).length ≤ 3 := by omega
      have ha : dAdd (.tuple ((pre ++ [l]).map PyData.int)) (.tuple [.int (l + 1 + v)]) = .ok (.tuple ((pre ++ [l] ++ [l + 1 + v]).map PyData.int)) := by
        rw [dAdd_t _ _ (by rw [List.length_map]; simp only [List.length_cons, List.length_nil]; omega), List.map_append (l₁ := pre ++ [l])]
        rfl
      have hB : B_law_clock_1 [.fz (scD ns), .fz (.int at_), .fz (.int (1 + a)), .fz (.tuple ((pre ++ [l]).map PyData.int)), .fz (.int k)] = .nx [.fz (scD ns), .fz (.int at_), .fz (.int (1 + a)), .fz (.tuple ((pre ++ [l] ++ [l + 1 + v]).map PyData.int)), .fz (.int k)] := by
        unfold B_law_clock_1
        generalize hG : (pre ++ [l]).map PyData.int = G at hx ha
        generalize hG2 : (pre ++ [l] ++ [l + 1 + v]).map PyData.int = G2 at ha
        simp [ev, hx, ha]
      rw [hB]
      have hl' := h4 l (by simp)
      simp only [List.length_cons] at h2 h4 hl'
      refine ⟨pre ++ [l] ++ [l + 1 + v], .fz (.int k), rfl, by simp, ?_, ?_, ?_, fun y hy => h5 y (List.mem_cons_of_mem _ hy)⟩
      · simp only [List.length_append, List.length_cons, List.length_nil] at h2 ⊢
        omega
      · refine List.pairwise_append.mpr ⟨h3, by simp, fun x hx y hy => ?_⟩
        simp only [List.mem_cons, List.not_mem_nil, or_false] at hy
        subst hy
        rcases List.mem_append.mp hx with z | z
        · have := (List.pairwise_append.mp h3).2.2 x z l (by simp)
          omega
        · simp only [List.mem_cons, List.not_mem_nil, or_false] at z
          omega
      · intro r hr
        rcases List.mem_append.mp hr with z | z
        · have := h4 r z
          omega
        · simp only [List.mem_cons, List.not_mem_nil, or_false] at z
          subst z
          omega
  obtain ⟨rs, s4, hL, h1, h2, h3, h4⟩ := loop
  refine ⟨⟨1 + a, 1 + a + d, rs⟩, ?_, ⟨⟨by show 1 ≤ 1 + a; omega, by show 1 + a ≤ 1 + a + d; omega, by show 1 + a + d ≤ 9; omega, h1, by show rs.length ≤ 4; omega, fun r hr => by have := h4 r hr; omega, h3⟩, h2, fun r hr => (h4 r hr).2, by show 1 + a ≤ 3; omega, by show 1 + a + d ≤ 5; omega⟩⟩
  unfold F_law_clock M_law_clock
  simp only [runF_2, List.reduceReplicate, Nat.reduceSub]
  simp [ea, eb, ed, hL, Clk.d]
/-! ### the law's letter -/
structure Ltr.Gen (cs : List Clk) (l : Ltr) : Prop where
  ok : l.Ok cs
  lo7 : l.lo ≤ 7
  hi15 : ∀ h, l.hi = some h → h ≤ 15
theorem ok_ev {cs : List Clk} {i : Int} (h0 : 0 ≤ i) (h1 : i < ((evs 0 cs).length : Nat)) : ∃ e, (evs 0 cs)[i.toNat]? = some e ∧ EvOk cs e ∧ atI ((evs 0 cs).map evd) i = some (evd e) := by
  have h : i.toNat < (evs 0 cs).length := by omega
  refine ⟨(evs 0 cs)[i.toNat], List.getElem?_eq_getElem h, (evs_iff cs _).mp (List.getElem_mem h), ?_⟩
  obtain ⟨_, e⟩ := atI_lt (xs := (evs 0 cs).map evd) h0 (by rw [List.length_map]; omega)
  rw [e, List.getElem_map]
theorem evs_nodup : ∀ (cs : List Clk) (i : Nat), (evs i cs).Nodup
  | [], _ => List.nodup_nil
  | c :: cs, i => by
    unfold evs
    refine List.nodup_append.mpr ⟨?_, evs_nodup cs (i + 1), ?_⟩
    · refine List.Pairwise.map _ (fun a b hab z => hab ?_) List.nodup_range
      simpa using z
    · intro a ha b hb z
      subst z
      obtain ⟨j, _, rfl⟩ := List.mem_map.mp ha
      obtain ⟨k, h, _⟩ := (evs_mem _ cs (i + 1)).mp hb
      simp only at h
      omega
theorem law_letter_ok (ns : List Int) (hl : ns.length ≤ 63) (at_ : Int) (cs : List Clk) (hc : ∀ c ∈ cs, c.rs.length ≤ 4) (hn : cs.length ≤ 10) : F_law_letter [scD ns, .int at_, .tuple (cs.map Clk.d)] = .ok .none ∨ ∃ l : Ltr, F_law_letter [scD ns, .int at_, .tuple (cs.map Clk.d)] = .ok l.d ∧ l.Gen cs := by
  have er := law_events_ok cs hc hn
  by_cases h2 : (((evs 0 cs).length : Nat) : Int) < 2
  · left
    unfold F_law_letter M_law_letter
    simp only [runF_3, List.reduceReplicate, Nat.reduceSub]
    simp [er, h2]
  · right
    obtain ⟨a, a0, a1, ea⟩ := law_drawn_ok ns hl at_ ((evs 0 cs).length : Nat) (by omega)
    obtain ⟨b, b0, b1, eb⟩ := law_drawn_ok ns hl (at_ + 1) (((evs 0 cs).length : Nat) - 1) (by omega)
    obtain ⟨c, c0, c1, ec⟩ := law_drawn_ok ns hl (at_ + 2) 8 (by omega)
    obtain ⟨d, d0, d1, ed⟩ := law_drawn_ok ns hl (at_ + 3) 3 (by omega)
    obtain ⟨e, e0, e1, ee⟩ := law_drawn_ok ns hl (at_ + 4) 9 (by omega)
    have o0 := Int.emod_nonneg (a + 1 + b) (show (((evs 0 cs).length : Nat) : Int) ≠ 0 by omega)
    have o1 := Int.emod_lt_of_pos (a + 1 + b) (show (0 : Int) < ((evs 0 cs).length : Nat) by omega)
    have one : (a + 1 + b) % (((evs 0 cs).length : Nat) : Int) ≠ a := by
      intro z
      by_cases q : a + 1 + b < ((evs 0 cs).length : Nat)
      · rw [Int.emod_eq_of_lt (by omega) q] at z
        omega
      · have : (a + 1 + b) % (((evs 0 cs).length : Nat) : Int) = (a + 1 + b) - ((evs 0 cs).length : Nat) := by
          rw [← Int.sub_emod_right, Int.emod_eq_of_lt (by omega) (by omega)]
        omega
    have em := dMod_i (a + 1 + b) ((evs 0 cs).length : Nat) (by omega)
    generalize ho : (a + 1 + b) % (((evs 0 cs).length : Nat) : Int) = o at o0 o1 one em
    obtain ⟨p, p1, p2, p3⟩ := ok_ev (cs := cs) a0 a1
    obtain ⟨q, q1, q2, q3⟩ := ok_ev (cs := cs) o0 o1
    have ne : p ≠ q := by
      intro z
      subst z
      have nd := evs_nodup cs 0
      have i1 := (List.getElem?_eq_some_iff.mp p1)
      have i2 := (List.getElem?_eq_some_iff.mp q1)
      have := (List.getElem_inj nd).mp (i1.2.trans i2.2.symm)
      omega
    refine ⟨⟨p, q, c, if d == 0 then none else some (c + e)⟩, ?_, ⟨⟨p2, q2, ne, c0, by show c ≤ 999; omega, fun h z => ?_⟩, by show c ≤ 7; omega, fun h z => ?_⟩⟩
    · unfold F_law_letter M_law_letter
      simp only [runF_3, List.reduceReplicate, Nat.reduceSub]
      by_cases hd : d = 0
      · simp [er, h2, ea, eb, ec, ed, ee, em, p3, q3, hd, Ltr.d, optD]
      · simp [er, h2, ea, eb, ec, ed, ee, em, p3, q3, hd, Ltr.d, optD]
    · show c ≤ h ∧ h ≤ 999
      simp only at z
      split at z
      · cases z
      · cases z; omega
    · simp only at z
      split at z
      · cases z
      · cases z; omega
end Fc
set_option Elab.async false
set_option linter.all false
set_option maxRecDepth 100000
set_option maxHeartbeats 2000000
namespace Fc
open PySem L2 Evl PySem.Spec PyProof.Rows
/-! ### the law's record -/
structure Rec.Gen (most : Nat) (r : Rec) : Prop where
  c1 : 1 ≤ r.cs.length
  c3 : r.cs.length ≤ 3
  cs : ∀ c ∈ r.cs, c.Gen
  lm : r.ls.length ≤ most
  ls : ∀ l ∈ r.ls, l.Gen r.cs
theorem Rec.Gen.ok {most : Nat} {r : Rec} (g : r.Gen most) (h : most ≤ 8) : r.Ok :=
  ⟨g.c1, Nat.le_trans g.c3 (by decide), fun c hc => (g.cs c hc).ok, Nat.le_trans g.lm h, fun l hl => (g.ls l hl).ok⟩
theorem C_law_record_1_ok (ns : List Int) (hl : ns.length ≤ 63) (at_ : Int) (s2 s3 s4 s5 s6 : Slot) : ∃ cs : List Clk, C_law_record_1 [.fz (scD ns), .fz (.int at_), s2, s3, s4, s5, s6] = .ok (.list (cs.map Clk.d)) ∧ 1 ≤ cs.length ∧ cs.length ≤ 3 ∧ ∀ c ∈ cs, c.Gen := by
  obtain ⟨a, a0, a1, ea⟩ := law_drawn_ok ns hl at_ 3 (by omega)
  obtain ⟨f, hf⟩ := Classical.skolem.mp fun k : Nat => law_clock_ok ns hl (at_ + 1 + 8 * (k : Int))
  refine ⟨(List.range (1 + a).toNat).map f, ?_, by simp; omega, by simp; omega, fun c hc => ?_⟩
  · have h : (.list (((List.range (1 + a).toNat).map f).map Clk.d) : D) = .list ((rngD 0 (1 + a).toNat).filterMap fun d => some (match d with | .int k => (f k.toNat).d | _ => .none)) := by
      rw [fm_some, rngD_map]
      simp only [List.map_map]
      congr 1
    rw [h]
    refine eLc_map (by simp [ea, dRng1_i (1 + a) (by omega)]) (fun x hx => ?_) (by rw [rng_len]; omega)
    obtain ⟨k, hk, rfl⟩ := rng_mem hx
    rw [lcStep_eq]
    have e := (hf k).1
    have em := dMul_i 8 (k : Int) (by simp)
    simp only [wipeE, gN_eq, List.set_cons_succ, List.set_cons_zero]
    rw [lcK_map (b := true) (d := (f k).d) rfl fun _ => by simp [e, em]]
    simp
  · obtain ⟨k, _, rfl⟩ := List.mem_map.mp hc
    exact (hf k).2
theorem dMul_l (x : D) (b : Bool) : dMul (.list [x]) (.int (if b = true then 1 else 0)) = .ok (.list (if b = true then [x] else [])) := by
  cases b <;> rfl
theorem law_record_ok (ns : List Int) (hl : ns.length ≤ 63) (at_ : Int) (most : Nat) (hm : most ≤ 1000) : ∃ r : Rec, F_law_record [scD ns, .int at_, .int (most : Nat)] = .ok r.d ∧ r.Gen most := by
  obtain ⟨cs, ec, c1, c3, hc⟩ := C_law_record_1_ok ns hl at_ (.fz (.int (most : Nat))) .un .un .un .un
  obtain ⟨a, a0, a1, ea⟩ := law_drawn_ok ns hl (at_ + 30) ((most : Nat) + 1) (by omega)
  have loop : ∃ (ls : List Ltr) (s5 s6 : Slot), L_law_record_1 [.fz (scD ns), .fz (.int at_), .fz (.int (most : Nat)), .fz (.tuple (cs.map Clk.d)), .fz (.list []), .un, .un] = .nx [.fz (scD ns), .fz (.int at_), .fz (.int (most : Nat)), .fz (.tuple (cs.map Clk.d)), .fz (.list (ls.map Ltr.d)), s5, s6] ∧ ls.length ≤ most ∧ ∀ l ∈ ls, l.Gen cs := by
    refine sFor_post (ds := rngD 0 a.toNat) (Post := fun r => ∃ (ls : List Ltr) (s5 s6 : Slot), r = .nx [.fz (scD ns), .fz (.int at_), .fz (.int (most : Nat)), .fz (.tuple (cs.map Clk.d)), .fz (.list (ls.map Ltr.d)), s5, s6] ∧ ls.length ≤ most ∧ ∀ l ∈ ls, l.Gen cs)
      (by simp [ea, dRng1_i a (by omega)])
      (fun ds ρ => ∃ (ls : List Ltr) (s5 s6 : Slot), ρ = [.fz (scD ns), .fz (.int at_), .fz (.int (most : Nat)), .fz (.tuple (cs.map Clk.d)), .fz (.list (ls.map Ltr.d)), s5, s6] ∧ ls.length + ds.length ≤ most ∧ (∀ l ∈ ls, l.Gen cs) ∧ ∀ x ∈ ds, ∃ k : Nat, x = .int (k : Nat)) ?_ ?_ ?_
    · refine ⟨[], .un, .un, rfl, by rw [rng_len]; simp only [List.length_nil]; omega, by simp, fun x hx => ?_⟩
      obtain ⟨k, _, e⟩ := rng_mem hx
      exact ⟨k, e⟩
    · rintro ρ ⟨ls, s5, s6, rfl, h1, h2, _⟩
      exact ⟨ls, s5, s6, rfl, by simpa using h1, h2⟩
    · rintro x ds ρ ⟨ls, s5, s6, rfl, h1, h2, h3⟩
      obtain ⟨k, rfl⟩ := h3 x (by simp)
      refine ⟨_, gN_eq _ _ _, ?_⟩
      simp only [List.set_cons_succ, List.set_cons_zero]
      rw [List.length_cons] at h1
      have em := dMul_i 6 (k : Int) (by simp)
      rcases law_letter_ok ns hl (at_ + 31 + 6 * (k : Int)) cs (fun c h => (hc c h).ok.l4) (by omega) with e | ⟨l, e, hg⟩
      · have hB : B_law_record_1 [.fz (scD ns), .fz (.int at_), .fz (.int (most : Nat)), .fz (.tuple (cs.map Clk.d)), .fz (.list (ls.map Ltr.d)), .fz (.int (k : Nat)), s6] = .nx [.fz (scD ns), .fz (.int at_), .fz (.int (most : Nat)), .fz (.tuple (cs.map Clk.d)), .fz (.list (ls.map Ltr.d)), .fz (.int (k : Nat)), .fz .none] := by
          have e2 : dAdd (.list (ls.map Ltr.d)) (.list []) = .ok (.list (ls.map Ltr.d)) := by
            rw [dAdd_l _ _ (by simp only [List.length_map, List.length_nil]; omega), List.append_nil]
          have e3 := dMul_l .none false
          simp only [Bool.false_eq_true, if_false] at e3
          unfold B_law_record_1
          simp [e, em, e2, e3, dInt]
        rw [hB]
        exact ⟨ls, _, _, rfl, by omega, h2, fun y hy => h3 y (List.mem_cons_of_mem _ hy)⟩
      · have hB : B_law_record_1 [.fz (scD ns), .fz (.int at_), .fz (.int (most : Nat)), .fz (.tuple (cs.map Clk.d)), .fz (.list (ls.map Ltr.d)), .fz (.int (k : Nat)), s6] = .nx [.fz (scD ns), .fz (.int at_), .fz (.int (most : Nat)), .fz (.tuple (cs.map Clk.d)), .fz (.list ((ls ++ [l]).map Ltr.d)), .fz (.int (k : Nat)), .fz l.d] := by
          have e2 : dAdd (.list (ls.map Ltr.d)) (.list [l.d]) = .ok (.list ((ls ++ [l]).map Ltr.d)) := by
            rw [dAdd_l _ _ (by simp only [List.length_map, List.length_cons, List.length_nil]; omega), List.map_append]
            rfl
          have e3 := dMul_l l.d true
          simp only [if_true] at e3
          have e4 : isN l.d = false := rfl
          generalize hG : (ls ++ [l]).map Ltr.d = G at e2
          unfold B_law_record_1
          simp [e, em, e2, e3, e4, dInt]
        rw [hB]
        refine ⟨ls ++ [l], _, _, rfl, by simp; omega, fun x hx => ?_, fun y hy => h3 y (List.mem_cons_of_mem _ hy)⟩
        rcases List.mem_append.mp hx with z | z
        · exact h2 x z
        · simp only [List.mem_cons, List.not_mem_nil, or_false] at z
          rw [z]; exact hg
  obtain ⟨ls, s5, s6, hL, h1, h2⟩ := loop
  refine ⟨⟨cs, ls⟩, ?_, ⟨c1, c3, hc, h1, h2⟩⟩
  unfold F_law_record M_law_record
  simp only [runF_3, List.reduceReplicate, Nat.reduceSub]
  simp [ec, hL, dTupOf, Rec.d]
/-! records are of a bounded shape -/
theorem clk_gd {c : Clk} (h : c.rs.length ≤ 4) : gd 10 2 c.d = true := by
  refine gdTup (by simp) fun x hx => ?_
  simp only [List.mem_cons, List.not_mem_nil, or_false] at hx
  rcases hx with rfl | rfl | rfl
  · rfl
  · rfl
  · exact gdTup (by simpa using Nat.le_trans h (by decide)) fun y hy => by
      obtain ⟨i, _, rfl⟩ := List.mem_map.mp hy
      rfl
theorem ltr_gd (l : Ltr) : gd 10 2 l.d = true := by
  refine gdTup (by simp) fun x hx => ?_
  simp only [List.mem_cons, List.not_mem_nil, or_false] at hx
  rcases hx with rfl | rfl | rfl | rfl
  · exact gd_mono (by decide) (Nat.le_refl _) (evd_gd _)
  · exact gd_mono (by decide) (Nat.le_refl _) (evd_gd _)
  · rfl
  · cases l.hi <;> rfl
theorem rec_gd {r : Rec} (hc : ∀ c ∈ r.cs, c.rs.length ≤ 4) (h1 : r.cs.length ≤ 10) (h2 : r.ls.length ≤ 10) : gd 10 4 r.d = true := by
  refine gdTup (by simp) fun x hx => ?_
  simp only [List.mem_cons, List.not_mem_nil, or_false] at hx
  rcases hx with rfl | rfl
  · exact gdTup (by simpa using h1) fun y hy => by
      obtain ⟨c, h, rfl⟩ := List.mem_map.mp hy
      exact clk_gd (hc c h)
  · exact gdTup (by simpa using h2) fun y hy => by
      obtain ⟨c, h, rfl⟩ := List.mem_map.mp hy
      exact ltr_gd c
end Fc
set_option Elab.async false
set_option linter.all false
set_option maxRecDepth 100000
set_option maxHeartbeats 2000000
namespace Fc
open PySem L2 Evl PySem.Spec PyProof.Rows
theorem cutL_sub {α : Type} {xs : List α} {a b : Option Int} : (cutL xs a b).length ≤ xs.length ∧ ∀ x ∈ cutL xs a b, x ∈ xs := by
  unfold cutL
  refine ⟨?_, fun x hx => List.mem_of_mem_drop (List.mem_of_mem_take hx)⟩
  rw [List.length_take, List.length_drop]
  omega
theorem cutL_to {α : Type} (xs : List α) (k : Nat) (h : k ≤ xs.length) : cutL xs none (some (k : Int)) = xs.take k := by
  unfold cutL
  rw [HT.sIx_none, HT.sIx_nat, Nat.min_eq_left h]
  simp
theorem cutL_from {α : Type} (xs : List α) (k : Nat) (h : k ≤ xs.length) : cutL xs (some (k : Int)) none = xs.drop k := by
  unfold cutL
  rw [HT.sIx_none, HT.sIx_nat, Nat.min_eq_left h]
  exact List.take_of_length_le (by rw [List.length_drop]; omega)
theorem atI_mem {α : Type} {xs : List α} {i : Int} (h0 : 0 ≤ i) (h1 : i < (xs.length : Nat)) : ∃ x, atI xs i = some x ∧ x ∈ xs := by
  obtain ⟨h, e⟩ := atI_lt h0 h1
  exact ⟨_, e, List.getElem_mem h⟩
def spC : List D := [.none, .bool true, .bool false, .int (-1), .int 0, .int 1, .int 2, .int 9, .int 10, .int 99, .int 100, .int 999, .int 1000, .str "1", .tuple [], .list [], .tuple [.int 0, .int 0], .tuple [.int 0, .int 1], .tuple [.int 1, .int 1, .tuple [.int 5]]]
theorem spC_gd : spC.all (gd 30 2) = true := by decide +kernel
theorem law_spoilt_ok (ns : List Int) (hl : ns.length ≤ 63) : ∀ (fuel n w deep : Nat) (at_ : Int) (x : D), gd w n x = true → w ≤ 1000 → n ≤ 30 → deep < fuel → ∃ y, F_law_spoilt_k01 fuel [scD ns, .int at_, x, .int (deep : Nat)] = .ok y ∧ gd (2 * w + 30) (n + deep + 2) y = true
  | 0, n, w, deep, at_, x, hg, hw, hn, hf => absurd hf (Nat.not_lt_zero _)
  | fuel + 1, n, w, deep, at_, x, hg, hw, hn, hf => by
    have consts : ∀ y ∈ spC, gd (2 * w + 30) (n + deep + 2) y = true := fun y hy => gd_mono (by omega) (by omega) (List.all_eq_true.mp spC_gd y hy)
    show ∃ y, runF 7 4 (M_law_spoilt_k01 (F_law_spoilt_k01 fuel)) [scD ns, .int at_, x, .int (deep : Nat)] = .ok y ∧ _
    unfold M_law_spoilt_k01
    simp only [runF_4, List.reduceReplicate, Nat.reduceSub]
    by_cases ht : ∃ xs, x = .tuple xs
    · obtain ⟨xs, rfl⟩ := ht
      obtain ⟨m, rfl, hxw, hk⟩ := gd_kids hg
      have e0 := dNe_gd hg (show gd w (m + 1) (.tuple []) = true from gdTup (Nat.zero_le _) (by simp)) (by omega)
      have e0' : PyData.eqv (.tuple xs) (.tuple []) = xs.isEmpty := by cases xs <;> simp [PyData.eqv, PyData.eqvAll]
      rw [e0'] at e0
      obtain ⟨d, d0, d1, ed⟩ := law_drawn_ok ns hl at_ 5 (by omega)
      by_cases hc : 0 < deep ∧ xs ≠ [] ∧ 0 < d
      · obtain ⟨h1, h2, h3⟩ := hc
        have hpos : (0 : Int) < (xs.length : Nat) := by
          have := List.length_pos_iff.mpr h2
          omega
        have h2' : xs.isEmpty = false := by simpa using h2
        rw [h2'] at e0
        obtain ⟨p, p0, p1, ep⟩ := law_drawn_ok ns hl (at_ + 1) (xs.length : Nat) hpos
        obtain ⟨v, hv, hvm⟩ := atI_mem p0 p1
        obtain ⟨dd, rfl⟩ : ∃ dd, deep = dd + 1 := ⟨deep - 1, by omega⟩
        obtain ⟨y, ey, gy⟩ := law_spoilt_ok ns hl fuel m w dd (at_ + 3) v (hk v hvm) hw (by omega) (by omega)
        have ep2 : ((p.toNat : Nat) : Int) = p := by omega
        have ec1 := cutL_to xs p.toNat (by omega)
        have ec2 := cutL_from xs (p.toNat + 1) (by omega)
        rw [ep2] at ec1
        rw [show ((p.toNat + 1 : Nat) : Int) = p + 1 by omega] at ec2
        have a1 : dAdd (.tuple (xs.take p.toNat)) (.tuple [y]) = .ok (.tuple (xs.take p.toNat ++ [y])) := dAdd_t _ _ (by rw [List.length_take]; simp; omega)
        have a2 : dAdd (.tuple (xs.take p.toNat ++ [y])) (.tuple (xs.drop (p.toNat + 1))) = .ok (.tuple (xs.take p.toNat ++ [y] ++ xs.drop (p.toNat + 1))) := dAdd_t _ _ (by rw [List.length_append, List.length_take, List.length_drop]; simp; omega)
        refine ⟨.tuple (xs.take p.toNat ++ [y] ++ xs.drop (p.toNat + 1)), ?_, ?_⟩
        · simp [e0, ed, h3, ep, hv, ey, ec1, ec2, a1, a2]
        · rw [show m + 1 + (dd + 1) + 2 = (m + dd + 3) + 1 by omega]
          refine gdTup ?_ fun z hz => ?_
          · rw [List.length_append, List.length_append, List.length_take, List.length_drop]
            simp only [List.length_cons, List.length_nil]
            omega
          · rcases List.mem_append.mp hz with q | q
            · rcases List.mem_append.mp q with q | q
              · exact gd_mono (by omega) (by omega) (hk z (List.mem_of_mem_take q))
              · simp only [List.mem_cons, List.not_mem_nil, or_false] at q
                rw [q]
                exact gd_mono (by omega) (by omega) gy
            · exact gd_mono (by omega) (by omega) (hk z (List.mem_of_mem_drop q))
      · obtain ⟨i, i0, i1, ei⟩ := law_drawn_ok ns hl (at_ + 2) 24 (by omega)
        have s1 := cutL_sub (xs := xs) (a := some 1) (b := none)
        have s2 := cutL_sub (xs := xs) (a := some (-1)) (b := none)
        have a1 : dAdd (.tuple xs) (.tuple xs) = .ok (.tuple (xs ++ xs)) := dAdd_t _ _ (by omega)
        have a2 : dAdd (.tuple xs) (.tuple (cutL xs (some (-1)) none)) = .ok (.tuple (xs ++ cutL xs (some (-1)) none)) := dAdd_t _ _ (by omega)
        have a3 : dAdd (.list spC) (.list [.list xs, .tuple xs.reverse, .tuple (xs ++ xs), .tuple (cutL xs (some 1) none), .tuple (xs ++ cutL xs (some (-1)) none)]) = .ok (.list (spC ++ [.list xs, .tuple xs.reverse, .tuple (xs ++ xs), .tuple (cutL xs (some 1) none), .tuple (xs ++ cutL xs (some (-1)) none)])) := dAdd_l _ _ (by simp [spC])
        obtain ⟨y, hy, hm⟩ := atI_mem (xs := spC ++ [.list xs, .tuple xs.reverse, .tuple (xs ++ xs), .tuple (cutL xs (some 1) none), .tuple (xs ++ cutL xs (some (-1)) none)]) i0 (by simpa [spC] using i1)
        refine ⟨y, ?_, ?_⟩
        · have hc' : ¬ ((0 : Int) < (deep : Nat)) ∨ xs.isEmpty = true ∨ ¬ 0 < d := by
            by_cases q1 : 0 < deep
            · by_cases q2 : xs = []
              · exact .inr (.inl (by rw [q2]; rfl))
              · exact .inr (.inr fun q3 => hc ⟨q1, q2, q3⟩)
            · exact .inl (by omega)
          have hy2 := hy
          unfold spC at hy a3
          simp only [List.cons_append, List.nil_append] at hy a3
          rcases hc' with q | q | q
          · have q1 : ¬ 0 < deep := by omega
            simp [q1, dRev, dLstOf, a1, a2, a3, ei, hy]
          · rw [q] at e0
            by_cases q1 : 0 < deep
            · simp [q1, e0, dRev, dLstOf, a1, a2, a3, ei, hy]
            · simp [q1, dRev, dLstOf, a1, a2, a3, ei, hy]
          · by_cases q1 : 0 < deep
            · cases q2 : xs.isEmpty with
              | true => rw [q2] at e0; simp [q1, e0, dRev, dLstOf, a1, a2, a3, ei, hy]
              | false => rw [q2] at e0; simp [q1, e0, ed, q, dRev, dLstOf, a1, a2, a3, ei, hy]
            · simp [q1, dRev, dLstOf, a1, a2, a3, ei, hy]
        · rcases List.mem_append.mp hm with q | q
          · exact consts y q
          · rw [show m + 1 + deep + 2 = (m + deep + 2) + 1 by omega]
            simp only [List.mem_cons, List.not_mem_nil, or_false] at q
            rcases q with rfl | rfl | rfl | rfl | rfl
            · exact gdLst (by omega) fun z hz => gd_mono (by omega) (by omega) (hk z hz)
            · exact gdTup (by rw [List.length_reverse]; omega) fun z hz => gd_mono (by omega) (by omega) (hk z (List.mem_reverse.mp hz))
            · exact gdTup (by rw [List.length_append]; omega) fun z hz => gd_mono (by omega) (by omega) (hk z (by simpa using hz))
            · exact gdTup (by omega) fun z hz => gd_mono (by omega) (by omega) (hk z (s1.2 z hz))
            · refine gdTup (by rw [List.length_append]; omega) fun z hz => gd_mono (by omega) (by omega) (hk z ?_)
              rcases List.mem_append.mp hz with q | q
              · exact q
              · exact s2.2 z q
    · obtain ⟨i, i0, i1, ei⟩ := law_drawn_ok ns hl (at_ + 2) 19 (by omega)
      obtain ⟨y, hy, hm⟩ := atI_mem (xs := spC) i0 (by simpa [spC] using i1)
      refine ⟨y, ?_, consts y hm⟩
      unfold spC at hy
      cases x with
      | dict es => exact (gd_dict hg).elim
      | tuple xs => exact (ht ⟨xs, rfl⟩).elim
      | _ => simp [ei, hy]
end Fc
set_option Elab.async false
set_option linter.all false
set_option maxRecDepth 100000
set_option maxHeartbeats 2000000
namespace Fc
open PySem L2 Evl PySem.Spec PyProof.Rows
def base1 : D := .tuple [.tuple [.tuple [.int 1, .int 2, .tuple [.int 3, .int 5]]], .tuple [.tuple [.tuple [.int 0, .int 0], .tuple [.int 0, .int 1], .int 1, .int 4]]]
def eachB : Bool := match F_law_each 8 [base1] with
  | .ok (.list L) => L.all (gd 20 8) && decide (L.length ≤ 1000)
  | _ => false
theorem eachB_ok : eachB = true := by decide +kernel
theorem law_each_ok : ∃ L, F_law_each 8 [base1] = .ok (.list L) ∧ (∀ x ∈ L, gd 20 8 x = true) ∧ L.length ≤ 1000 := by
  have h := eachB_ok
  unfold eachB at h
  split at h
  · rename_i L e
    rw [Bool.and_eq_true, List.all_eq_true, decide_eq_true_eq] at h
    exact ⟨L, e, h.1, h.2⟩
  · cases h
theorem both (x : D) {w n : Nat} (h : gd w n x = true) (hn : n ≤ 64) (hw : w ≤ 100000) : ∃ b, F_is_record [x] = .ok (.bool b) ∧ F_law_is_record [x] = .ok (.bool b) ∧ (b = true ↔ recB x) := by
  obtain ⟨b, e1, h1⟩ := is_record_ok h hn
  obtain ⟨c, e2, h2⟩ := law_is_record_ok h hn hw
  have : b = c := by rw [Bool.eq_iff_iff, h1, h2]
  subst this
  exact ⟨b, e1, e2, h1⟩
theorem dIsI_b (b : Bool) : dIsI "bool" (.bool b) = .ok (.bool true) := by simp
/-! ### the law -/
def topClk : Clk := ⟨9, 9, [0, 97, 98, 99]⟩
def Ltr.top (l : Ltr) : Ltr := ⟨l.a, l.b, 999, l.hi.map fun _ => 999⟩
theorem cutL_2 {α : Type} (a b c d : α) : cutL [a, b, c, d] none (some 2) = [a, b] := rfl
theorem C_law_k01_1_ok (ls : List Ltr) (hl : ls.length ≤ 100) (c : D) (s0 s2 s3 s4 s5 s6 s7 s8 s9 : Slot) : C_law_k01_1 [s0, .fz (.tuple [c, .tuple (ls.map Ltr.d)]), s2, s3, s4, s5, s6, s7, s8, s9] = .ok (.list ((ls.map Ltr.top).map Ltr.d)) := by
  have h : (.list ((ls.map Ltr.top).map Ltr.d) : D) = .list ((ls.map Ltr.d).filterMap fun d => some (match d with | .tuple [a, b, _, h] => .tuple [a, b, .int 999, if isN h = true then .none else .int 999] | d => d)) := by
    rw [fm_some]
    simp only [List.map_map]
    congr 2
    funext l
    cases hh : l.hi <;> simp [Function.comp, Ltr.top, Ltr.d, optD, hh]
  rw [h]
  refine eLc_map (by simp) (fun x hx => ?_) (by rw [List.length_map]; omega)
  obtain ⟨l, _, rfl⟩ := List.mem_map.mp hx
  rw [lcStep_eq]
  have a1 : ∀ y : D, dAdd (.tuple [evd l.a, evd l.b]) (.tuple [.int 999, y]) = .ok (.tuple [evd l.a, evd l.b, .int 999, y]) := fun y => dAdd_t _ _ (by simp)
  simp only [wipeE, gN_eq, List.set_cons_succ, List.set_cons_zero]
  rw [lcK_map (b := true) (d := .tuple [evd l.a, evd l.b, .int 999, if isN (optD l.hi) = true then .none else .int 999]) rfl fun _ => ?_]
  · simp [Ltr.d]
  · cases hh : l.hi <;> simp [Ltr.d, hh, optD, cutL_2, a1]
theorem topClk_ok : topClk.Ok := ⟨by decide, by decide, by decide, by decide, by decide, by decide, by decide⟩
theorem EvOk.app {cs ds : List Clk} {e : Ev} (h : EvOk cs e) : EvOk (cs ++ ds) e := by
  obtain ⟨c, h1, h2⟩ := h
  exact ⟨c, by rw [List.getElem?_append_left (List.getElem?_eq_some_iff.mp h1).1]; exact h1, h2⟩
theorem top_ok {r : Rec} (g : r.Gen 6) : (⟨r.cs ++ [topClk], r.ls.map Ltr.top⟩ : Rec).Ok := by
  refine ⟨by simp, by have := g.c3; simp; omega, fun c hc => ?_, by have := g.lm; simp; omega, fun l hl => ?_⟩
  · rcases List.mem_append.mp hc with z | z
    · exact (g.cs c z).ok
    · simp only [List.mem_cons, List.not_mem_nil, or_false] at z
      rw [z]
      exact topClk_ok
  · obtain ⟨k, hk, rfl⟩ := List.mem_map.mp hl
    have o := (g.ls k hk).ok
    refine ⟨o.ea.app, o.eb.app, o.ne, by show (0 : Int) ≤ 999; decide, by show (999 : Int) ≤ 999; decide, fun h z => ?_⟩
    cases hh : k.hi with
    | none => simp [Ltr.top, hh] at z
    | some v => simp [Ltr.top, hh] at z; rw [← z]; show (999 : Int) ≤ 999 ∧ (999 : Int) ≤ 999; decide
theorem law_ok (ns : List Int) (hl : ns.length ≤ 63) : F_law_k01 [.dict [(.none, .list (ns.map PyData.int))]] = .ok (.bool true) := by
  show F_law_k01 [scD ns] = .ok (.bool true)
  obtain ⟨r, er, g⟩ := law_record_ok ns hl 0 6 (by omega)
  replace er : F_law_record [scD ns, .int 0, .int 6] = .ok r.d := er
  obtain ⟨d, d0, d1, ed⟩ := law_drawn_ok ns hl 80 4 (by omega)
  -- the rest of the law, from the record on
  have rest : ∀ (r : Rec), r.Ok → ∀ s2 : Slot, endF (seqK (.nx [.fz (scD ns), .fz r.d, s2, .un, .un, .un, .un, .un, .un, .un]) (sSeq (sIf (eOr (eU dNot (eDef F_is_record (aCons (eV 1) aNil))) (eU dNot (eDef F_law_is_record (aCons (eV 1) aNil))))
  (sRet (eC (.bool false)))
  sNext)
  (sSeq L_law_k01_1
  (sSeq (sAsg 6 (eTup (aCons (eTup (aCons (eTup (aCons (eC (.int 1)) (aCons (eC (.int 2)) (aCons (eTup (aCons (eC (.int 3)) (aCons (eC (.int 5)) aNil))) aNil)))) aNil)) (aCons (eTup (aCons (eTup (aCons (eTup (aCons (eC (.int 0)) (aCons (eC (.int 0)) aNil))) (aCons (eTup (aCons (eC (.int 0)) (aCons (eC (.int 1)) aNil))) (aCons (eC (.int 1)) (aCons (eC (.int 4)) aNil))))) aNil)) aNil))))
  (sSeq (sIf (eBin dNe C_law_k01_2 (eLst aNil))
  (sRet (eC (.bool false)))
  sNext)
  (sSeq (sAsg 7 (eTup (aCons (eC (.int 1)) (aCons (eC (.int 1)) (aCons (eTup (aCons (eC (.int 0)) aNil)) aNil)))))
  (sRet (eAnd (eDef F_is_record (aCons (eTup (aCons (eBin dMulA (eTup (aCons (eV 7) aNil)) (eC (.int 4))) (aCons (eTup aNil) aNil))) aNil)) (eAnd (eU dNot (eDef F_is_record (aCons (eTup (aCons (eBin dMulA (eTup (aCons (eV 7) aNil)) (eC (.int 5))) (aCons (eTup aNil) aNil))) aNil))) (eU dNot (eDef F_is_record (aCons (eTup (aCons (eTup aNil) (aCons (eTup aNil) aNil))) aNil)))))))))))) = .ok (.bool true) := by
    intro r o s2
    have gr : gd 10 4 r.d = true := rec_gd (fun c hc => (o.cs c hc).l4) (Nat.le_trans o.c4 (by decide)) (Nat.le_trans o.l8 (by decide))
    obtain ⟨b, e1, e2, hb⟩ := both r.d gr (by decide) (by decide)
    have hbt : b = true := hb.mpr ⟨r, o, rfl⟩
    subst hbt
    have loop : ∀ s3 s4 s5 : Slot, ∃ a b c : Slot, L_law_k01_1 [.fz (scD ns), .fz r.d, s2, s3, s4, s5, .un, .un, .un, .un] = .nx [.fz (scD ns), .fz r.d, s2, a, b, c, .un, .un, .un, .un] := by
      intro s3 s4 s5
      refine sFor_post (ds := rngD 0 5) (Post := fun q => ∃ a b c : Slot, q = .nx [.fz (scD ns), .fz r.d, s2, a, b, c, .un, .un, .un, .un]) (by simp [dRng1])
        (fun ds ρ => (∃ a b c : Slot, ρ = [.fz (scD ns), .fz r.d, s2, a, b, c, .un, .un, .un, .un]) ∧ ∀ x ∈ ds, ∃ k : Nat, x = .int (k : Nat)) ⟨⟨s3, s4, s5, rfl⟩, fun x hx => ?_⟩ ?_ ?_
      · obtain ⟨k, _, e⟩ := rng_mem hx
        exact ⟨k, e⟩
      · rintro ρ ⟨⟨a, b, c, h⟩, _⟩
        exact ⟨a, b, c, by rw [h]⟩
      · rintro x ds ρ ⟨⟨a, b, c, rfl⟩, hx⟩
        obtain ⟨k, rfl⟩ := hx x (by simp)
        refine ⟨_, gN_eq _ _ _, ?_⟩
        simp only [List.set_cons_succ, List.set_cons_zero]
        obtain ⟨y, ey, gy⟩ := law_spoilt_ok ns hl 8 4 10 (1 + k % 4) (90 + 20 * (k : Int)) r.d gr (by decide) (by decide) (by omega)
        obtain ⟨v, f1, f2, _⟩ := both y gy (by omega) (by decide)
        have em := dMul_i 20 (k : Int) (by simp)
        have emd := dMod_i (k : Int) 4 (by decide)
        have cast : ((1 + k % 4 : Nat) : Int) = 1 + (k : Int) % 4 := by omega
        rw [cast] at ey
        have hB : B_law_k01_1 [.fz (scD ns), .fz r.d, s2, .fz (.int (k : Nat)), b, c, .un, .un, .un, .un] = .nx [.fz (scD ns), .fz r.d, s2, .fz (.int (k : Nat)), .fz y, .fz (.bool v), .un, .un, .un, .un] := by
          unfold B_law_k01_1
          simp [em, emd, ey, f1, f2]
        rw [hB]
        exact ⟨⟨_, _, _, rfl⟩, fun z hz => hx z (List.mem_cons_of_mem _ hz)⟩
    obtain ⟨a, b, c, hL⟩ := loop .un .un .un
    obtain ⟨L, eL, gL, lL⟩ := law_each_ok
    have hC : ∃ L2, C_law_k01_2 [.fz (scD ns), .fz r.d, s2, a, b, c, .fz base1, .un, .un, .un] = .ok (.list L2) ∧ dNe (.list L2) (.list []) = .ok (.bool false) := by
      have hbase : gd 20 8 base1 = true := by decide +kernel
      have hall : ∀ x ∈ base1 :: L, gd 20 8 x = true := fun x hx => by
        rcases List.mem_cons.mp hx with z | z
        · rw [z]; exact hbase
        · exact gL x z
      have aa : dAdd (.list [base1]) (.list L) = .ok (.list (base1 :: L)) := dAdd_l _ _ (by simp; omega)
      have q := bad_lc (w := 2000) (n := 8) (p := fun _ => false) (ds := base1 :: L) (it := iSeq (eBin dAdd (eLst (aCons (eV 6) aNil)) (eDef (F_law_each 8) (aCons (eV 6) aNil)))) (g := gN 8) (t := eBin dNe (eDef F_is_record (aCons (eV 8) aNil)) (eDef F_law_is_record (aCons (eV 8) aNil))) (m := eV 8) (vs := [8]) (ρ := [.fz (scD ns), .fz r.d, s2, a, b, c, .fz base1, .un, .un, .un]) (by simp [eL, aa]) (fun x hx => ?_) (by simp; omega) (by decide) (fun x hx => gd_mono (by decide) (Nat.le_refl _) (hall x hx)) (by decide)
      · have e : (base1 :: L).any (fun _ => false) = false := by simp
        rw [e] at q
        exact q
      · obtain ⟨v, f1, f2, _⟩ := both x (hall x hx) (by decide) (by decide)
        rw [lcStep_eq]
        simp only [wipeE, gN_eq, List.set_cons_succ, List.set_cons_zero]
        exact lcK_map (b := false) (by simp [f1, f2]) fun z => nomatch z
    obtain ⟨L2, eC, eC'⟩ := hC
    have c1 : Clk := ⟨1, 1, [0]⟩
    have ok1 : (⟨1, 1, [0]⟩ : Clk).Ok := ⟨by decide, by decide, by decide, by decide, by decide, by decide, by decide⟩
    have r4 : F_is_record [.tuple [.tuple [.tuple [.int 1, .int 1, .tuple [.int 0]], .tuple [.int 1, .int 1, .tuple [.int 0]], .tuple [.int 1, .int 1, .tuple [.int 0]], .tuple [.int 1, .int 1, .tuple [.int 0]]], .tuple []]] = .ok (.bool true) := by
      obtain ⟨v, f, hv⟩ := is_record_ok (w := 10) (n := 8) (x := .tuple [.tuple [.tuple [.int 1, .int 1, .tuple [.int 0]], .tuple [.int 1, .int 1, .tuple [.int 0]], .tuple [.int 1, .int 1, .tuple [.int 0]], .tuple [.int 1, .int 1, .tuple [.int 0]]], .tuple []]) (by decide +kernel) (by decide)
      rw [f, hv.mpr ⟨⟨[⟨1, 1, [0]⟩, ⟨1, 1, [0]⟩, ⟨1, 1, [0]⟩, ⟨1, 1, [0]⟩], []⟩, ⟨by decide, by decide, fun c hc => by
        simp only [List.mem_cons, List.not_mem_nil, or_false, or_self] at hc
        rw [hc]; exact ok1, by decide, by simp⟩, rfl⟩]
    have r5 : F_is_record [.tuple [.tuple [.tuple [.int 1, .int 1, .tuple [.int 0]], .tuple [.int 1, .int 1, .tuple [.int 0]], .tuple [.int 1, .int 1, .tuple [.int 0]], .tuple [.int 1, .int 1, .tuple [.int 0]], .tuple [.int 1, .int 1, .tuple [.int 0]]], .tuple []]] = .ok (.bool false) := by
      obtain ⟨v, f, hv⟩ := is_record_ok (w := 10) (n := 8) (x := .tuple [.tuple [.tuple [.int 1, .int 1, .tuple [.int 0]], .tuple [.int 1, .int 1, .tuple [.int 0]], .tuple [.int 1, .int 1, .tuple [.int 0]], .tuple [.int 1, .int 1, .tuple [.int 0]], .tuple [.int 1, .int 1, .tuple [.int 0]]], .tuple []]) (by decide +kernel) (by decide)
      cases v with
      | false => exact f
      | true =>
        obtain ⟨q, o, e⟩ := hv.mp rfl
        simp only [Rec.d, PyData.tuple.injEq, List.cons.injEq, and_true] at e
        have l1 := congrArg List.length e.1
        rw [List.length_map] at l1
        have := o.c4
        rw [← l1] at this
        exact absurd this (by decide)
    have r0 : F_is_record [.tuple [.tuple [], .tuple []]] = .ok (.bool false) := by
      obtain ⟨v, f, hv⟩ := is_record_ok (w := 10) (n := 8) (x := .tuple [.tuple [], .tuple []]) (by decide +kernel) (by decide)
      cases v with
      | false => exact f
      | true =>
        obtain ⟨q, o, e⟩ := hv.mp rfl
        simp only [Rec.d, PyData.tuple.injEq, List.cons.injEq, and_true] at e
        have l1 := congrArg List.length e.1
        rw [List.length_map] at l1
        have := o.c1
        rw [← l1] at this
        exact absurd this (by decide)
    unfold base1 at eC
    have m4 : ∀ c : D, dMulA (.tuple [c]) (.int 4) = .ok (.tuple [c, c, c, c]) := fun c => rfl
    have m5 : ∀ c : D, dMulA (.tuple [c]) (.int 5) = .ok (.tuple [c, c, c, c, c]) := fun c => rfl
    simp [e1, e2, hL, eC, eC', m4, m5, r4, r5, r0]
  unfold F_law_k01 M_law_k01
  simp only [runF_1, List.reduceReplicate, Nat.reduceSub]
  by_cases hd : d = 0
  · have e3 := C_law_k01_1_ok r.ls (by have := g.lm; omega) (.tuple (r.cs.map Clk.d)) (.fz (scD ns)) .un .un .un .un .un .un .un .un
    have a1 : dAdd (.tuple (r.cs.map Clk.d)) (.tuple [.tuple [.int 9, .int 9, .tuple [.int 0, .int 97, .int 98, .int 99]]]) = .ok (.tuple ((r.cs ++ [topClk]).map Clk.d)) := by
      rw [dAdd_t _ _ (by have := g.c3; simp; omega), List.map_append]
      rfl
    have q := rest ⟨r.cs ++ [topClk], r.ls.map Ltr.top⟩ (top_ok g) (.fz (.tuple ((r.ls.map Ltr.top).map Ltr.d)))
    rw [← q]
    generalize (sSeq (sIf (eOr (eU dNot (eDef F_is_record (aCons (eV 1) aNil))) _) _ _) _ : DS) = N
    unfold Rec.d at er ⊢
    generalize hG : (r.cs ++ [topClk]).map Clk.d = G at *
    generalize hG2 : (r.ls.map Ltr.top).map Ltr.d = G2 at *
    simp [er, ed, hd, e3, a1, dTupOf]
  · have q := rest r (g.ok (by decide)) .un
    rw [← q]
    generalize (sSeq (sIf (eOr (eU dNot (eDef F_is_record (aCons (eV 1) aNil))) _) _ _) _ : DS) = N
    simp [er, ed, hd]
end Fc

set_option Elab.async false
set_option linter.all false
set_option maxRecDepth 100000
set_option maxHeartbeats 0

open PySem PySem.W PySem.Calls PyProof.Rows
theorem PySem.Challenge.cw_farclocks_k01_records_holds : PySem.Challenge.rw_farclocks_k01_records.Holds := by
  w_on; o_law
  refine HandSHeadRun.head_any (r := OpenLaw.row PySem.Challenge.rw_farclocks_k01_records) (q := view (OpenLaw.row PySem.Challenge.rw_farclocks_k01_records).prog [24]) (H := Wk.hk) (ob := Wk.ob) (M := 6000) (loose := Wk.loose) (d := HandSHeadRun.topDef (OpenLaw.row PySem.Challenge.rw_farclocks_k01_records).prog 24) (kwd := []) (fun s => He.obsDG_eq (HandSHeadRun.getT_eq s))
    (by kernel_rfl) (fun s => by kernel_rfl) Wk.run (by kernel_rfl) (by kernel_rfl) (by kernel_rfl) (by rfl) (by first | assumption | decide +kernel) (by decide +kernel) ⟨rfl, rfl, rfl, rfl, rfl, by decide +kernel⟩ ?hw ?hc
  case hw => w_witness2
  case hc =>
    refine Fc.walk_law (l := PySem.Challenge.rw_farclocks_k01_records) (k := 11) (x := "_law_script") (g := Fc.F_law_k01) rfl (by kernel_rfl) ⟨rfl, by decide, by decide⟩ ?F fun ns hl => Fc.law_ok ns hl
    intro w mg fa h Y G hmg0
    obtain ⟨K, KX, c⟩ := Y
    have hmg : mg ("law" : PySem.Str) = some (.ref fa) := by
      have e : (HandSHeadRun.topDef (OpenLaw.row PySem.Challenge.rw_farclocks_k01_records).prog 24).name = ("law" : PySem.Str) := by kernel_rfl
      rw [← e]
      exact hmg0
    have c0 : Wk.C0 K mg := ⟨h, KX, G, c⟩
    have e := hmg.symm.trans (c0.glo 34)
    cases e
    obtain ⟨fd, F⟩ := c.def_ 16 (d := Wk.dd_law) rfl
    have b := L2.FunD.bindsA (ps := ["_law_script"]) F fun _ _ _ _ _ _ us hl => match us, hl with | [_], _ => rfl
    refine ⟨K, fd, KX, fun s v => b s [v] rfl, fun base _ _ => ?_⟩
    exact Wk.ok_law c0 F
