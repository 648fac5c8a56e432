import PyProof.Rows.All
import Wide.All
import OpenK.AllK
import Wide.FinOn
import HandS.ForMost
import HandS.ForExc
import HandS.Evl
import HandS.Exc
import HandS.TryOnly
import HandS.TupAny
import HandS.Walk
import HandS.Conv
import HandS.Style
import HandS.WordsExc
import HandS.IsInst
import HandS.TupMul
import KE.SortData
import PyProof.ReprReads
import PyProof.ReprRoads
import HandS.RaiseMore
import PyProof.P3In
import HandS.TupSets
import KE.KDictKeyed
import HandS.SetFor
import KE.DataMinMax
import KE.KDictZip
import KE.GoesEnum
import KE.GoesMore
import KE.GoesZip
import HandS.Ends
import HandS.Words
import KE.KIntText
import PySem.Challenge.RW_keykinds_k62_whole_complements

section
set_option Elab.async false
set_option linter.all false
set_option maxRecDepth 100000
/-! DL1: values as trees of data, a store of mutable lists, readings as functions. -/
namespace DL
open PySem PySem.Spec PyProof.Rows L2
open Evl (Ex)

/-- a value as a tree; rol: a list that is only read (the script); loc l: the l-th mutable object of the store -/
inductive D where
  | non | bl (b : Bool) | int (i : Int) | str (s : Str)
  | tup (xs : List D) | lst (xs : List D) | rol (xs : List D) | loc (l : Nat)
inductive MO where
  | lst (xs : List D)
abbrev DSt := List MO
abbrev DEnv := List (Option D)
structure Exn where
  cls : Str
  fields : List (Str × D)
inductive Out (α : Type) where
  | ok (a : α) (M : DSt)
  | ex (x : Exn) (M : DSt)
abbrev R (α : Type) := Option (Out α)
abbrev Dm (α : Type) := DEnv → DSt → R α
def bnd {α β : Type} : R α → (α → DSt → R β) → R β
  | some (.ok a M), k => k a M
  | some (.ex x M), _ => some (.ex x M)
  | none, _ => none
@[simp] theorem bnd_ok {α β : Type} (a : α) (M : DSt) (k : α → DSt → R β) : bnd (some (.ok a M)) k = k a M := rfl
@[simp] theorem bnd_ex {α β : Type} (x : Exn) (M : DSt) (k : α → DSt → R β) : bnd (some (.ex x M)) k = some (.ex x M) := rfl
@[simp] theorem bnd_none {α β : Type} (k : α → DSt → R β) : bnd none k = none := rfl

/-! ### how trees lie in the heap -/
mutual
inductive RelD (K : PySem.W.Frag) (θ : List Addr) (H : Hp) : V → D → Prop
  | non : RelD K θ H .non .non
  | bl (b : Bool) : RelD K θ H (.bl b) (.bl b)
  | int (i : Int) : RelD K θ H (.int i) (.int i)
  | str (x : Str) : RelD K θ H (.str x) (.str x)
  | tup {a : Addr} {vs : List V} {ds : List D} : SqT K H a vs → RelDs K θ H vs ds → RelD K θ H (.ref a) (.tup ds)
  | lst {a : Addr} {vs : List V} {ds : List D} : H a = some (.lst vs) → RelDs K θ H vs ds → RelD K θ H (.ref a) (.lst ds)
  | rol {a : Addr} {vs : List V} {ds : List D} : SqL K H a vs → RelDs K θ H vs ds → RelD K θ H (.ref a) (.rol ds)
  | loc {a : Addr} {l : Nat} : θ[l]? = some a → RelD K θ H (.ref a) (.loc l)
inductive RelDs (K : PySem.W.Frag) (θ : List Addr) (H : Hp) : List V → List D → Prop
  | nil : RelDs K θ H [] []
  | cons {v : V} {vs : List V} {d : D} {ds : List D} : RelD K θ H v d → RelDs K θ H vs ds → RelDs K θ H (v :: vs) (d :: ds)
end
section
variable {K : PySem.W.Frag} {θ θ' : List Addr} {H H' : Hp}
mutual
theorem RelD.mono (t : θ <+: θ') (e : Ex H H') : ∀ {v : V} {d : D}, RelD K θ H v d → RelD K θ' H' v d
  | _, _, .non => .non
  | _, _, .bl b => .bl b
  | _, _, .int i => .int i
  | _, _, .str x => .str x
  | _, _, .tup h r => .tup (Evl.ex_t e h) (RelDs.mono t e r)
  | _, _, .lst h r => .lst (e _ _ h) (RelDs.mono t e r)
  | _, _, .rol h r => .rol (Evl.ex_l e h) (RelDs.mono t e r)
  | _, _, .loc h => .loc (by
      obtain ⟨u, rfl⟩ := t
      rw [List.getElem?_append_left (List.getElem?_eq_some_iff.mp h).1]
      exact h)
theorem RelDs.mono (t : θ <+: θ') (e : Ex H H') : ∀ {vs : List V} {ds : List D}, RelDs K θ H vs ds → RelDs K θ' H' vs ds
  | _, _, .nil => .nil
  | _, _, .cons h r => .cons (RelD.mono t e h) (RelDs.mono t e r)
end
theorem RelDs.len : ∀ {vs : List V} {ds : List D}, RelDs K θ H vs ds → vs.length = ds.length
  | _, _, .nil => rfl
  | _, _, .cons _ r => congrArg Nat.succ (RelDs.len r)
theorem RelDs.get : ∀ {vs : List V} {ds : List D} {i : Nat} {d : D}, RelDs K θ H vs ds → ds[i]? = some d → ∃ v, vs[i]? = some v ∧ RelD K θ H v d
  | _, _, i, _, .nil, h => by simp at h
  | _, _, 0, _, .cons h _, e => by
    simp at e; subst e
    exact ⟨_, rfl, h⟩
  | _, _, i + 1, d, .cons _ r, e => by
    obtain ⟨v, h1, h2⟩ := RelDs.get (i := i) (d := d) r (by simpa using e)
    exact ⟨v, by simpa using h1, h2⟩
theorem RelDs.get' : ∀ {vs : List V} {ds : List D} {i : Nat} {v : V}, RelDs K θ H vs ds → vs[i]? = some v → ∃ d, ds[i]? = some d ∧ RelD K θ H v d
  | _, _, i, _, .nil, h => by simp at h
  | _, _, 0, _, .cons h _, e => by
    simp at e; subst e
    exact ⟨_, rfl, h⟩
  | _, _, i + 1, d, .cons _ r, e => by
    obtain ⟨v, h1, h2⟩ := RelDs.get' (i := i) (v := d) r (by simpa using e)
    exact ⟨v, by simpa using h1, h2⟩
theorem RelDs.append : ∀ {vs ws : List V} {ds es : List D}, RelDs K θ H vs ds → RelDs K θ H ws es → RelDs K θ H (vs ++ ws) (ds ++ es)
  | _, _, _, _, .nil, r => r
  | _, _, _, _, .cons h t, r => .cons h (RelDs.append t r)
theorem RelDs.one {v : V} {d : D} (h : RelD K θ H v d) : RelDs K θ H [v] [d] := .cons h .nil
theorem RelDs.take : ∀ {vs : List V} {ds : List D} (n : Nat), RelDs K θ H vs ds → RelDs K θ H (vs.take n) (ds.take n)
  | _, _, 0, _ => .nil
  | _, _, _ + 1, .nil => .nil
  | _, _, n + 1, .cons h r => .cons h (RelDs.take n r)
theorem RelDs.drop : ∀ {vs : List V} {ds : List D} (n : Nat), RelDs K θ H vs ds → RelDs K θ H (vs.drop n) (ds.drop n)
  | _, _, 0, r => r
  | _, _, _ + 1, .nil => .nil
  | _, _, n + 1, .cons _ r => RelDs.drop n r
theorem RelDs.set : ∀ {vs : List V} {ds : List D} {v : V} {d : D} (i : Nat), RelDs K θ H vs ds → RelD K θ H v d → RelDs K θ H (vs.set i v) (ds.set i d)
  | _, _, _, _, _, .nil, _ => .nil
  | _, _, _, _, 0, .cons _ r, h => .cons h r
  | _, _, _, _, i + 1, .cons g r, h => .cons g (RelDs.set i r h)
/-! no mutable object from the n-th on -/
mutual
def D.under (n : Nat) : D → Bool
  | .tup xs => D.unders n xs
  | .lst xs => D.unders n xs
  | .rol xs => D.unders n xs
  | .loc l => decide (l < n)
  | _ => true
def D.unders (n : Nat) : List D → Bool
  | [] => true
  | d :: ds => d.under n && D.unders n ds
end
mutual
theorem RelD.under (n : Nat) : ∀ {v : V} {d : D}, RelD K θ H v d → d.under n = true → RelD K (θ.take n) H v d
  | _, _, .non, _ => .non
  | _, _, .bl b, _ => .bl b
  | _, _, .int i, _ => .int i
  | _, _, .str x, _ => .str x
  | _, _, .tup h r, p => .tup h (RelDs.under n r p)
  | _, _, .lst h r, p => .lst h (RelDs.under n r p)
  | _, _, .rol h r, p => .rol h (RelDs.under n r p)
  | _, _, .loc h, p => .loc (by
      have p' := of_decide_eq_true p
      rw [List.getElem?_take_of_lt p']
      exact h)
theorem RelDs.under (n : Nat) : ∀ {vs : List V} {ds : List D}, RelDs K θ H vs ds → D.unders n ds = true → RelDs K (θ.take n) H vs ds
  | _, _, .nil, _ => .nil
  | _, _, .cons h r, p => by
    have p' := Bool.and_eq_true_iff.mp p
    exact .cons (RelD.under n h p'.1) (RelDs.under n r p'.2)
end
end

/-! ### the heap as a store -/
def MOk (K : PySem.W.Frag) (θ : List Addr) (H0 H : Hp) (a : Addr) : MO → Prop
  | .lst ds => ∃ vs, H a = some (.lst vs) ∧ RelDs K θ H0 vs ds
/-- H0: what never changes; θ: where the store's objects lie -/
structure Rep (K : PySem.W.Frag) (θ : List Addr) (H0 H : Hp) (M : DSt) : Prop where
  ex : Ex H0 H
  nd : θ.Nodup
  len : θ.length = M.length
  ob : ∀ a, a ∈ θ → H0 a = none
  st : ∀ (l : Nat) (a : Addr) (m : MO), θ[l]? = some a → M[l]? = some m → MOk K θ H0 H a m
structure Grow (θ θ' : List Addr) (H0 H0' H H' : Hp) : Prop where
  th : θ <+: θ'
  ex0 : Ex H0 H0'
  fr : ∀ a o, H a = some o → a ∉ θ → H' a = some o
  there : ∀ a o, H a = some o → ∃ o', H' a = some o'
  new0 : ∀ a o, H a = some o → H0' a = H0 a
  newT : ∀ a, a ∈ θ' → a ∉ θ → H a = none
theorem Grow.refl (θ : List Addr) (H0 H : Hp) : Grow θ θ H0 H0 H H :=
  ⟨List.prefix_rfl, Ex.refl H0, fun _ _ e _ => e, fun _ o e => ⟨o, e⟩, fun _ _ _ => rfl, fun _ h n => absurd h n⟩
theorem Grow.trans {θ θ1 θ2 : List Addr} {H0 H01 H02 H H1 H2 : Hp} (a : Grow θ θ1 H0 H01 H H1) (b : Grow θ1 θ2 H01 H02 H1 H2) : Grow θ θ2 H0 H02 H H2 where
  th := a.th.trans b.th
  ex0 := a.ex0.trans b.ex0
  fr := fun x o e n => b.fr x o (a.fr x o e n) fun h => by
    have z := a.newT x h n
    rw [e] at z; cases z
  there := fun x o e => let ⟨o1, e1⟩ := a.there x o e; b.there x o1 e1
  new0 := fun x o e => by
    obtain ⟨o1, e1⟩ := a.there x o e
    exact (b.new0 x o1 e1).trans (a.new0 x o e)
  newT := fun x h n => by
    cases q : H x with
    | none => rfl
    | some o =>
      exfalso
      obtain ⟨o1, e1⟩ := a.there x o q
      by_cases h1 : x ∈ θ1
      · have z := a.newT x h1 n
        rw [q] at z; cases z
      · have z := b.newT x h h1
        rw [e1] at z; cases z
/-- a new immutable object -/
theorem Grow.new {θ : List Addr} {H0 H : Hp} {p : Addr} {o : HO} (hp : H p = none) (h0 : H0 p = none) : Grow θ θ H0 (upd H0 p o) H (upd H p o) where
  th := List.prefix_rfl
  ex0 := Ex.new h0
  fr := fun a u e _ => by rw [upd_ne (ne_of_none e hp)]; exact e
  there := fun a u e => ⟨u, by rw [upd_ne (ne_of_none e hp)]; exact e⟩
  new0 := fun a u e => upd_ne (ne_of_none e hp)
  newT := fun _ h n => absurd h n
theorem Rep.fresh {K : PySem.W.Frag} {θ : List Addr} {H0 H : Hp} {M : DSt} (r : Rep K θ H0 H M) {p : Addr} (hp : H p = none) : H0 p = none := by
  cases q : H0 p with
  | none => rfl
  | some o =>
    rw [r.ex p o q] at hp; cases hp
theorem getElem?_of_len {α β : Type} {l : List α} {m : List β} (e : l.length = m.length) {i : Nat} {x : α} (h : l[i]? = some x) : ∃ y, m[i]? = some y := by
  have h1 := (List.getElem?_eq_some_iff.mp h).1
  exact ⟨m[i]'(by omega), List.getElem?_eq_getElem (by omega)⟩
theorem Rep.at {K : PySem.W.Frag} {θ : List Addr} {H0 H : Hp} {M : DSt} (r : Rep K θ H0 H M) {a : Addr} (h : a ∈ θ) : ∃ o, H a = some o := by
  obtain ⟨l, hl, e⟩ := List.getElem_of_mem h
  have e1 : θ[l]? = some a := by rw [List.getElem?_eq_getElem hl, e]
  obtain ⟨m, hm⟩ := getElem?_of_len r.len e1
  have k := r.st l a m e1 hm
  cases m with
  | lst ds => obtain ⟨vs, q, _⟩ := k; exact ⟨_, q⟩
theorem Rep.new_ne {K : PySem.W.Frag} {θ : List Addr} {H0 H : Hp} {M : DSt} (r : Rep K θ H0 H M) {p : Addr} (hp : H p = none) : p ∉ θ := fun h => by
  obtain ⟨o, e⟩ := r.at h
  rw [e] at hp; cases hp
theorem MOk.mono {K : PySem.W.Frag} {θ θ' : List Addr} {H0 H0' H H' : Hp} {a : Addr} {m : MO} (t : θ <+: θ') (e : Ex H0 H0') (h : H' a = H a) (k : MOk K θ H0 H a m) : MOk K θ' H0' H' a m := by
  cases m with
  | lst ds =>
    obtain ⟨vs, q, r⟩ := k
    exact ⟨vs, by rw [h]; exact q, r.mono t e⟩
/-- a new immutable object laid -/
theorem Rep.new {K : PySem.W.Frag} {θ : List Addr} {H0 H : Hp} {M : DSt} (r : Rep K θ H0 H M) {p : Addr} {o : HO} (hp : H p = none) : Rep K θ (upd H0 p o) (upd H p o) M where
  ex := fun a u e => by
    by_cases h : a = p
    · subst h; rw [upd_same] at e ⊢; exact e
    · rw [upd_ne h] at e ⊢; exact r.ex a u e
  nd := r.nd
  len := r.len
  ob := fun a h => by
    have ne : a ≠ p := fun z => by
      subst z
      exact r.new_ne hp h
    rw [upd_ne ne]
    exact r.ob a h
  st := fun l a m e1 e2 => by
    have ne : a ≠ p := fun z => by
      subst z
      exact r.new_ne hp (List.mem_of_getElem? e1)
    exact (r.st l a m e1 e2).mono List.prefix_rfl (Ex.new (r.fresh hp)) (upd_ne ne)
/-- the heap grew by what nobody speaks of -/
theorem Rep.grown {K : PySem.W.Frag} {θ : List Addr} {H0 H H' : Hp} {M : DSt} (r : Rep K θ H0 H M) (e : Ex H H') : Rep K θ H0 H' M where
  ex := r.ex.trans e
  nd := r.nd
  len := r.len
  ob := r.ob
  st := fun l a m e1 e2 => by
    have k := r.st l a m e1 e2
    cases m with
    | lst ds =>
      obtain ⟨vs, q, z⟩ := k
      exact ⟨vs, e _ _ q, z⟩
theorem Grow.grown {θ : List Addr} {H0 H H' : Hp} (e : Ex H H') : Grow θ θ H0 H0 H H' :=
  ⟨List.prefix_rfl, Ex.refl H0, fun a o h _ => e a o h, fun a o h => ⟨o, e a o h⟩, fun _ _ _ => rfl, fun _ h n => absurd h n⟩

/-! ### slots -/
def RelE (K : PySem.W.Frag) (θ : List Addr) (H : Hp) (σ : L2.St) (ρ : DEnv) : Prop := σ.length = ρ.length ∧ ∀ (i : Nat) (d : D), ρ[i]? = some (some d) → ∃ v, σ[i]? = some (some v) ∧ RelD K θ H v d
theorem RelE.mono {K : PySem.W.Frag} {θ θ' : List Addr} {H H' : Hp} {σ : L2.St} {ρ : DEnv} (t : θ <+: θ') (e : Ex H H') (h : RelE K θ H σ ρ) : RelE K θ' H' σ ρ :=
  ⟨h.1, fun i d q => let ⟨v, a, b⟩ := h.2 i d q; ⟨v, a, b.mono t e⟩⟩
theorem RelE.set {K : PySem.W.Frag} {θ : List Addr} {H : Hp} {σ : L2.St} {ρ : DEnv} (h : RelE K θ H σ ρ) {v : V} {d : D} (i : Nat) (r : RelD K θ H v d) : RelE K θ H (σ.set i (some v)) (ρ.set i (some d)) := by
  refine ⟨by simp [h.1], fun j e q => ?_⟩
  by_cases hj : i = j
  · subst hj
    by_cases hl : i < ρ.length
    · rw [List.getElem?_set_self hl] at q
      cases q
      exact ⟨v, by rw [List.getElem?_set_self (by rw [h.1]; exact hl)], r⟩
    · rw [List.getElem?_eq_none (by simpa using hl)] at q; cases q
  · rw [List.getElem?_set_ne hj] at q ⊢
    exact h.2 j e q
theorem RelE.unset {K : PySem.W.Frag} {θ : List Addr} {H : Hp} {σ : L2.St} {ρ : DEnv} (h : RelE K θ H σ ρ) (i : Nat) : RelE K θ H (σ.set i none) (ρ.set i none) := by
  refine ⟨by simp [h.1], fun j e q => ?_⟩
  by_cases hj : i = j
  · subst hj
    by_cases hl : i < ρ.length
    · rw [List.getElem?_set_self hl] at q; cases q
    · rw [List.getElem?_eq_none (by simpa using hl)] at q; cases q
  · rw [List.getElem?_set_ne hj] at q ⊢
    exact h.2 j e q

/-! ### exceptions -/
def RelFs (K : PySem.W.Frag) (θ : List Addr) (H : Hp) : List (Str × V) → List (Str × D) → Prop
  | [], [] => True
  | (x, v) :: fs, (y, d) :: gs => x = y ∧ RelD K θ H v d ∧ RelFs K θ H fs gs
  | _, _ => False
def ExnOk (K : PySem.W.Frag) (mg : Str → Option Value) (θ : List Addr) (H0 H : Hp) (x : Exn) (cls : Value) (od : Option Addr) : Prop :=
  mg x.cls = some cls ∧ ((x.fields = [] ∧ od = none) ∨ ∃ dd fs, od = some dd ∧ H dd = some (.xd fs) ∧ RelFs K θ H0 fs x.fields)

/-! ### readings by functions -/
section
variable (K : PySem.W.Frag) (mg : Str → Option Value) (W : WX) (σ : L2.St)
def Post {α β : Type} (Rl : List Addr → Hp → Hp → β → α → Prop) (θ : List Addr) (H0 H : Hp) (r : Out α) (Q : β → Hp → Prop) : Prop :=
  match r with
  | .ok d M' => ∀ v H' θ' H0', Grow θ θ' H0 H0' H H' → Rep K θ' H0' H' M' → Rl θ' H0' H' v d → Q v H'
  | .ex x M' => ∀ cls od H' θ' H0', Grow θ θ' H0 H0' H H' → Rep K θ' H0' H' M' → ExnOk K mg θ' H0' H' x cls od → W cls od σ H'
end
section
variable {K : PySem.W.Frag} {mg : Str → Option Value} {W : WX} {σ : L2.St} {α β γ δ : Type} {Rl : List Addr → Hp → Hp → β → α → Prop} {Rl2 : List Addr → Hp → Hp → δ → γ → Prop} {θ θ1 : List Addr} {H0 H01 H H1 : Hp}
theorem Post.grow {r : Out α} {Q : β → Hp → Prop} (g : Grow θ θ1 H0 H01 H H1) (p : Post K mg W σ Rl θ H0 H r Q) : Post K mg W σ Rl θ1 H01 H1 r Q := by
  cases r with
  | ok d M' => exact fun v H' θ' H0' g' => p v H' θ' H0' (g.trans g')
  | ex x M' => exact fun cls od H' θ' H0' g' => p cls od H' θ' H0' (g.trans g')
theorem Post.imp {r : Out α} {Q Q' : β → Hp → Prop} (p : Post K mg W σ Rl θ H0 H r Q) (h : ∀ v H', Q v H' → Q' v H') : Post K mg W σ Rl θ H0 H r Q' := by
  cases r with
  | ok d M' => exact fun v H' θ' H0' g' hr hl => h v H' (p v H' θ' H0' g' hr hl)
  | ex x M' => exact p
/-- what a first part leaves for the second one -/
def Left (K : PySem.W.Frag) (mg : Str → Option Value) (W : WX) (σ : L2.St) (Rl : List Addr → Hp → Hp → β → α → Prop) (Rl2 : List Addr → Hp → Hp → δ → γ → Prop) (θ : List Addr) (H0 H : Hp) (k : α → DSt → R γ) (Q : δ → Hp → Prop) (v : β) (H1 : Hp) : Prop :=
  ∃ θ1 H01 M1 d r2, Grow θ θ1 H0 H01 H H1 ∧ Rep K θ1 H01 H1 M1 ∧ Rl θ1 H01 H1 v d ∧ k d M1 = some r2 ∧ Post K mg W σ Rl2 θ1 H01 H1 r2 Q
theorem Post.bind {o : R α} {k : α → DSt → R γ} {r : Out γ} {Q : δ → Hp → Prop} (e : bnd o k = some r) (p : Post K mg W σ Rl2 θ H0 H r Q) :
    ∃ r1, o = some r1 ∧ Post K mg W σ Rl θ H0 H r1 (Left K mg W σ Rl Rl2 θ H0 H k Q) := by
  cases o with
  | none => cases e
  | some r1 =>
    refine ⟨r1, rfl, ?_⟩
    cases r1 with
    | ok d M1 => exact fun v H1 θ1 H01 g hr hl => ⟨θ1, H01, M1, d, r, g, hr, hl, e, p.grow g⟩
    | ex x M1 =>
      have e' : some (Out.ex x M1) = some r := e
      cases e'
      exact p
end
/-- the reading of a function -/
def rd {α β : Type} (K : PySem.W.Frag) (mg : Str → Option Value) (W : WX) (Rl : List Addr → Hp → Hp → β → α → Prop) (f : Dm α) : L2.St → Hp → (β → Hp → Prop) → Prop := fun σ H Q =>
  ∃ θ H0 ρ M r, Rep K θ H0 H M ∧ RelE K θ H0 σ ρ ∧ f ρ M = some r ∧ Post K mg W σ Rl θ H0 H r Q
abbrev RlV (K : PySem.W.Frag) : List Addr → Hp → Hp → V → D → Prop := fun θ H0 _ v d => RelD K θ H0 v d
abbrev RlB : List Addr → Hp → Hp → Bool → Bool → Prop := fun _ _ _ a b => a = b
abbrev RlVs (K : PySem.W.Frag) : List Addr → Hp → Hp → List V → List D → Prop := fun θ H0 _ v d => RelDs K θ H0 v d

abbrev De (X : Cx) (W : WX) (e : Expr) (f : Dm D) : Prop := PE X e (rd X.K X.mg W (RlV X.K) f)
abbrev Dt (X : Cx) (W : WX) (e : Expr) (f : Dm Bool) : Prop := PT X e (rd X.K X.mg W RlB f)
abbrev Da (X : Cx) (W : WX) (es : List Expr) (f : Dm (List D)) : Prop := PA X es (rd X.K X.mg W (RlVs X.K) f)
theorem pe_imp {X : Cx} {e : Expr} {t t' : TE} (h : PE X e t) (i : ∀ σ H Q, t' σ H Q → t σ H Q) : PE X e t' := ⟨fun pins s σ H Q I q => h.run pins s σ H Q I (i σ H Q q)⟩
theorem pt_imp {X : Cx} {e : Expr} {t t' : TT} (h : PT X e t) (i : ∀ σ H Q, t' σ H Q → t σ H Q) : PT X e t' := ⟨fun pins s σ H Q I q => h.run pins s σ H Q I (i σ H Q q)⟩
theorem pw_imp {X : Cx} {e : Expr} {t t' : TT} (h : PW X e t) (i : ∀ σ H Q, t' σ H Q → t σ H Q) : PW X e t' := ⟨fun wh pins s σ H Q I q => h.run wh pins s σ H Q I (i σ H Q q)⟩
theorem pa_imp {X : Cx} {e : List Expr} {t t' : TA} (h : PA X e t) (i : ∀ σ H Q, t' σ H Q → t σ H Q) : PA X e t' := ⟨fun pos pins s σ H Q I q => h.run pos pins s σ H Q I (i σ H Q q)⟩
theorem ps_imp {X : Cx} {e : Stmt} {t t' : TS} (h : PS X e t) (i : ∀ D σ H, t' D σ H → t D σ H) : PS X e t' := ⟨fun pins s σ H D I q => h.run pins s σ H D I (i D σ H q)⟩
theorem pss_imp {X : Cx} {e : List Stmt} {t t' : TS} (h : PSs X e t) (i : ∀ D σ H, t' D σ H → t D σ H) : PSs X e t' := ⟨fun pins s σ H D I q => h.run pins s σ H D I (i D σ H q)⟩
end DL
end

section
set_option Elab.async false
set_option linter.all false
set_option maxRecDepth 100000
set_option maxHeartbeats 1000000
/-! DL2: expressions. -/
namespace DL
open PySem PySem.Spec PyProof.Rows L2
open Evl (Ex)
/-- what every rule may lean on -/
structure Good (X : Cx) (W : WX) (k : Nat) : Prop where
  calm : X.calm = true
  nd : X.N.Nodup
  tk : Takes X W
  po : PassesOwn (model X.prog X.w) X.A X.env X.xe
  room : Room k X.A
  gd : X.A.guards = some []
abbrev W0 : WX := fun _ _ _ _ => False
theorem Good.blk {X : Cx} {W : WX} {k : Nat} (G : Good X W k) (s : Shared) (H : Hp) (scope : Scope) (cenv : PySem.Env) (fp : List Addr) : Good (X.blk s H scope cenv fp) W0 k :=
  ⟨G.calm, G.nd, takes0, PassesOwn.never, G.room, G.gd⟩
/-- the end of a rule that gives d -/
def Give (K : PySem.W.Frag) (θ : List Addr) (H0 : Hp) (M : DSt) (H : Hp) (d : D) (Q : VK) : Prop := ∀ v H' H0', Grow θ θ H0 H0' H H' → Rep K θ H0' H' M → RelD K θ H0' v d → Q v H'
section
variable {K : PySem.W.Frag} {θ : List Addr} {H0 H : Hp} {M : DSt} {Q : VK} {d : D} {v : V}
theorem Give.val (g : Give K θ H0 M H d Q) (r : Rep K θ H0 H M) (h : RelD K θ H0 v d) : Q v H := g v H H0 (Grow.refl θ H0 H) r h
theorem Give.tup {vs : List V} {ds : List D} {p : Addr} (g : Give K θ H0 M H (.tup ds) Q) (r : Rep K θ H0 H M) (h : RelDs K θ H0 vs ds) (hp : H p = none) : Q (.ref p) (upd H p (.tup vs)) :=
  g _ _ _ (Grow.new hp (r.fresh hp)) (r.new hp) (.tup (SqT.of upd_same) (h.mono List.prefix_rfl (Ex.new (r.fresh hp))))
theorem Give.lst {vs : List V} {ds : List D} {p : Addr} (g : Give K θ H0 M H (.lst ds) Q) (r : Rep K θ H0 H M) (h : RelDs K θ H0 vs ds) (hp : H p = none) : Q (.ref p) (upd H p (.lst vs)) :=
  g _ _ _ (Grow.new hp (r.fresh hp)) (r.new hp) (.lst upd_same (h.mono List.prefix_rfl (Ex.new (r.fresh hp))))
theorem Give.grown {H' : Hp} (g : Give K θ H0 M H d Q) (e : Ex H H') : Give K θ H0 M H' d Q := fun v H2 H0' gr => g v H2 H0' ((Grow.grown e).trans gr)
end
/-- rules by values -/
def rdOp (K : PySem.W.Frag) (g : D → D → DSt → Option D) : R2 := fun x y H Q => ∃ θ H0 M a b d, Rep K θ H0 H M ∧ RelD K θ H0 x a ∧ RelD K θ H0 y b ∧ g a b M = some d ∧ Give K θ H0 M H d Q
def rdUn (K : PySem.W.Frag) (g : D → DSt → Option D) : V → Hp → VK → Prop := fun x H Q => ∃ θ H0 M a d, Rep K θ H0 H M ∧ RelD K θ H0 x a ∧ g a M = some d ∧ Give K θ H0 M H d Q
def rdCall (K : PySem.W.Frag) (g : List D → DSt → Option D) : List V → Hp → VK → Prop := fun vs H Q => ∃ θ H0 M ds d, Rep K θ H0 H M ∧ RelDs K θ H0 vs ds ∧ g ds M = some d ∧ Give K θ H0 M H d Q

/-! ### combinators -/
def vVar (i : Nat) : Dm D := fun ρ M => match ρ[i]? with
  | some (some d) => some (.ok d M)
  | _ => none
def vC (d : D) : Dm D := fun _ M => some (.ok d M)
def lift (o : Option D) (M : DSt) : R D := o.map (Out.ok · M)
@[simp] theorem lift_some (d : D) (M : DSt) : lift (some d) M = some (.ok d M) := rfl
def vOp (g : D → D → DSt → Option D) (fa fb : Dm D) : Dm D := fun ρ M => bnd (fa ρ M) fun x M1 => bnd (fb ρ M1) fun y M2 => lift (g x y M2) M2
def vUn (g : D → DSt → Option D) (fa : Dm D) : Dm D := fun ρ M => bnd (fa ρ M) fun x M1 => lift (g x M1) M1
def vCall (g : List D → DSt → Option D) (fa : Dm (List D)) : Dm D := fun ρ M => bnd (fa ρ M) fun xs M1 => lift (g xs M1) M1
def aNil : Dm (List D) := fun _ M => some (.ok [] M)
def aCons (fa : Dm D) (fr : Dm (List D)) : Dm (List D) := fun ρ M => bnd (fa ρ M) fun x M1 => bnd (fr ρ M1) fun xs M2 => some (.ok (x :: xs) M2)
def vTup (fa : Dm (List D)) : Dm D := fun ρ M => bnd (fa ρ M) fun xs M1 => if xs.length ≤ sizeLine then some (.ok (.tup xs) M1) else none
def vLst (fa : Dm (List D)) : Dm D := fun ρ M => bnd (fa ρ M) fun xs M1 => if xs.length ≤ sizeLine then some (.ok (.lst xs) M1) else none
/-- a list that will be changed -/
def vLstM (fa : Dm (List D)) : Dm D := fun ρ M => bnd (fa ρ M) fun xs M1 => if xs.length ≤ sizeLine then some (.ok (.loc M1.length) (M1 ++ [.lst xs])) else none
def truD : D → DSt → Option Bool
  | .non, _ => some false
  | .bl b, _ => some b
  | .int i, _ => some (i != 0)
  | .str y, _ => if y.length ≤ sizeLine then some ((y.length : Int) != 0) else none
  | .tup xs, _ => some (!xs.isEmpty)
  | .lst xs, _ => some (!xs.isEmpty)
  | .rol xs, _ => some (!xs.isEmpty)
  | .loc l, M => match M[l]? with
    | some (.lst xs) => some (!xs.isEmpty)
    | _ => none
def tTru (fa : Dm D) : Dm Bool := fun ρ M => bnd (fa ρ M) fun x M1 => (truD x M1).map (Out.ok · M1)
def blD : D → Option Bool
  | .bl b => some b
  | _ => none
def tBl (fa : Dm D) : Dm Bool := fun ρ M => bnd (fa ρ M) fun x M1 => (blD x).map (Out.ok · M1)
def tAnd2 (fa fb : Dm Bool) : Dm Bool := fun ρ M => bnd (fa ρ M) fun b M1 => if b = true then fb ρ M1 else some (.ok false M1)
def tOr2 (fa fb : Dm Bool) : Dm Bool := fun ρ M => bnd (fa ρ M) fun b M1 => if b = true then some (.ok true M1) else fb ρ M1
def tNot2 (fa : Dm Bool) : Dm Bool := fun ρ M => bnd (fa ρ M) fun b M1 => some (.ok (!b) M1)
def vAnd (fa fb : Dm D) : Dm D := fun ρ M => bnd (fa ρ M) fun x M1 => match blD x with
  | some b => if b = true then fb ρ M1 else some (.ok (.bl false) M1)
  | none => none
def vOr (fa fb : Dm D) : Dm D := fun ρ M => bnd (fa ρ M) fun x M1 => match blD x with
  | some b => if b = true then some (.ok (.bl true) M1) else fb ρ M1
  | none => none
def vNot (fa : Dm D) : Dm D := fun ρ M => bnd (fa ρ M) fun x M1 => match blD x with
  | some b => some (.ok (.bl (!b)) M1)
  | none => none
def vIf (ft : Dm Bool) (fa fb : Dm D) : Dm D := fun ρ M => bnd (ft ρ M) fun b M1 => if b = true then fa ρ M1 else fb ρ M1
def vChain (g g' : D → D → DSt → Option D) (fa fb fc : Dm D) : Dm D := fun ρ M => bnd (fa ρ M) fun x M1 => bnd (fb ρ M1) fun y M2 => match g x y M2 with
  | some (.bl true) => bnd (fc ρ M2) fun z M3 => lift (g' y z M3) M3
  | some (.bl false) => some (.ok (.bl false) M2)
  | _ => none

section
variable {X : Cx} {W : WX} {a b c e : Expr} {es : List Expr} {fa fb fc : Dm D} {ft fu : Dm Bool} {fs : Dm (List D)} {pos : Pos} {k : Nat}
theorem de_var {i : Nat} (h : PE X e (tVar i)) : De X W e (vVar i) := pe_imp h fun σ H Q ⟨θ, H0, ρ, M, r, hR, hE, e, p⟩ => by
  unfold vVar at e
  split at e
  · rename_i d hd
    cases e
    obtain ⟨v, hv, rv⟩ := hE.2 i d hd
    exact ⟨v, hv, p v H θ H0 (Grow.refl ..) hR rv⟩
  · cases e
/-- the name in slot i -/
theorem dv (i : Nat) {x : Str} {pos : Pos} (hN : X.N[i]? = some x := by rfl) (hv : Vis X.env.scope x := by first | exact Or.inl rfl | exact Or.inr (Or.inl rfl) | exact Or.inr (Or.inr rfl)) (hd : (x == ("__debug__" : Str)) = false := by decide)
    (hcd : (x == ("__classdict__" : Str)) = false := by decide) : De X W (.Name x pos) (vVar i) := de_var (pe_var hN hv hd hcd)
theorem de_c {v : V} {d : D} (h : PE X e (tC v)) (r : ∀ θ H0, RelD X.K θ H0 v d) : De X W e (vC d) := pe_imp h fun σ H Q ⟨θ, H0, ρ, M, r1, hR, hE, e, p⟩ => by
  cases e
  exact p v H θ H0 (Grow.refl ..) hR (r θ H0)
theorem de_int {i j} : De X W (.Constant (.int i) j pos) (vC (.int i)) := de_c pe_int fun _ _ => .int i
theorem de_bl {i j} : De X W (.Constant (.bool i) j pos) (vC (.bl i)) := de_c pe_bl fun _ _ => .bl i
theorem de_non {j} : De X W (.Constant .none j pos) (vC .non) := de_c pe_non fun _ _ => .non
theorem de_str {i j} : De X W (.Constant (.str i) j pos) (vC (.str i)) := de_c pe_str fun _ _ => .str i
/-- a constant of the module -/
theorem de_glob {x : Str} {v : V} {u : Value} {d : D} (hg : Gl X x) (hm : X.mg x = some u) (r : RelV v u) (rd : ∀ θ H0, RelD X.K θ H0 v d) (hd : (x == ("__debug__" : Str)) = false := by decide) : De X W (.Name x pos) (vC d) := de_c (pe_glob hg hm r hd) rd

/-- two parts in a row, of the second one's reading at what the first one leaves -/
theorem two {α β γ δ ε ζ : Type} {Rl : List Addr → Hp → Hp → β → α → Prop} {Rl2 : List Addr → Hp → Hp → δ → γ → Prop} {Rl3 : List Addr → Hp → Hp → ζ → ε → Prop} {K : PySem.W.Frag} {mg : Str → Option Value} {σ : L2.St} {H : Hp} {Q : ζ → Hp → Prop} {f : Dm α} {g : Dm γ} {h : α → γ → DSt → R ε} {Q1 : β → Hp → Prop}
    (hm : ∀ {θ θ' H0 H0' H H' v d}, Grow θ θ' H0 H0' H H' → Rl θ H0 H v d → Rl θ' H0' H' v d)
    (q : rd K mg W Rl3 (fun ρ M => bnd (f ρ M) fun x M1 => bnd (g ρ M1) fun y M2 => h x y M2) σ H Q)
    (s : ∀ v H1, (rd K mg W Rl2 g σ H1 fun w H2 => ∃ θ H0 M x y r, Rep K θ H0 H2 M ∧ Rl θ H0 H2 v x ∧ Rl2 θ H0 H2 w y ∧ h x y M = some r ∧ Post K mg W σ Rl3 θ H0 H2 r Q) → Q1 v H1) : rd K mg W Rl f σ H Q1 := by
  obtain ⟨θ, H0, ρ, M, r, hR, hE, e, p⟩ := q
  obtain ⟨r1, e1, p1⟩ := p.bind (Rl := Rl) e
  refine ⟨θ, H0, ρ, M, r1, hR, hE, e1, p1.imp fun v H1 ⟨θ1, H01, M1, x, r2, g1, hR1, rx, e2, p2⟩ => s v H1 ?_⟩
  obtain ⟨r3, e3, p3⟩ := p2.bind (Rl := Rl2) e2
  refine ⟨θ1, H01, ρ, M1, r3, hR1, hE.mono g1.th g1.ex0, e3, p3.imp fun w H2 ⟨θ2, H02, M2, y, r4, g2, hR2, ry, e4, p4⟩ => ?_⟩
  exact ⟨θ2, H02, M2, x, y, r4, hR2, hm g2 rx, ry, e4, p4⟩
theorem one {α β ε ζ : Type} {Rl : List Addr → Hp → Hp → β → α → Prop} {Rl3 : List Addr → Hp → Hp → ζ → ε → Prop} {K : PySem.W.Frag} {mg : Str → Option Value} {σ : L2.St} {H : Hp} {Q : ζ → Hp → Prop} {f : Dm α} {h : DEnv → α → DSt → R ε} {Q1 : β → Hp → Prop}
    (q : rd K mg W Rl3 (fun ρ M => bnd (f ρ M) fun x M1 => h ρ x M1) σ H Q)
    (s : ∀ v H1 θ H0 ρ M x r, Rep K θ H0 H1 M → RelE K θ H0 σ ρ → Rl θ H0 H1 v x → h ρ x M = some r → Post K mg W σ Rl3 θ H0 H1 r Q → Q1 v H1) : rd K mg W Rl f σ H Q1 := by
  obtain ⟨θ, H0, ρ, M, r, hR, hE, e, p⟩ := q
  obtain ⟨r1, e1, p1⟩ := p.bind (Rl := Rl) e
  exact ⟨θ, H0, ρ, M, r1, hR, hE, e1, p1.imp fun v H1 ⟨θ1, H01, M1, x, r2, g1, hR1, rx, e2, p2⟩ => s v H1 θ1 H01 ρ M1 x r2 hR1 (hE.mono g1.th g1.ex0) rx e2 p2⟩
theorem growV {K : PySem.W.Frag} : ∀ {θ θ' H0 H0' H H'} {v : V} {d : D}, Grow θ θ' H0 H0' H H' → RlV K θ H0 H v d → RlV K θ' H0' H' v d := fun g r => r.mono g.th g.ex0
theorem growVs {K : PySem.W.Frag} : ∀ {θ θ' H0 H0' H H'} {v : List V} {d : List D}, Grow θ θ' H0 H0' H H' → RlVs K θ H0 H v d → RlVs K θ' H0' H' v d := fun g r => r.mono g.th g.ex0
theorem post_lift {K : PySem.W.Frag} {mg : Str → Option Value} {σ : L2.St} {θ : List Addr} {H0 H : Hp} {o : Option D} {M : DSt} {r : Out D} {Q : VK} (e : lift o M = some r) (p : Post K mg W σ (RlV K) θ H0 H r Q) : ∃ d, o = some d ∧ Give K θ H0 M H d Q := by
  cases o with
  | none => cases e
  | some d =>
    have e' : r = Out.ok d M := by cases e; rfl
    subst e'
    exact ⟨d, rfl, fun v H' H0' g hr hl => p v H' θ H0' g hr hl⟩
theorem tOp_of {r : R2} {g : D → D → DSt → Option D} (hr : ∀ x y H Q, rdOp X.K g x y H Q → r x y H Q) {σ : L2.St} {H : Hp} {Q : VK} (q : rd X.K X.mg W (RlV X.K) (vOp g fa fb) σ H Q) : tOp r (rd X.K X.mg W (RlV X.K) fa) (rd X.K X.mg W (RlV X.K) fb) σ H Q := by
  refine two (Rl2 := RlV X.K) growV q fun v H1 q1 => ?_
  obtain ⟨θ, H0, ρ, M, r1, hR, hE, e, p⟩ := q1
  refine ⟨θ, H0, ρ, M, r1, hR, hE, e, p.imp fun w H2 ⟨θ, H0, M, x, y, r2, hR, rx, ry, e2, p2⟩ => hr v w H2 Q ?_⟩
  obtain ⟨d, e3, g3⟩ := post_lift e2 p2
  exact ⟨θ, H0, M, x, y, d, hR, rx, ry, e3, g3⟩
theorem de_op {op : Operator} {g : D → D → DSt → Option D} (ho : OpR X (binaryOp op) (rdOp X.K g)) (ha : De X W a fa) (hb : De X W b fb) : De X W (.BinOp a op b pos) (vOp g fa fb) :=
  pe_imp (pe_op ho ha hb) fun _ _ _ q => tOp_of (fun _ _ _ _ h => h) q
theorem de_un {op : UnaryOp} {g : D → DSt → Option D} (ho : UnR X (unaryOp op) (rdUn X.K g)) (ha : De X W a fa) : De X W (.UnaryOp op a pos) (vUn g fa) :=
  pe_imp (pe_un ho ha) fun σ H Q q => by
    refine one q fun v H1 θ H0 ρ M x r hR _ rx e p => ?_
    obtain ⟨d, e3, g3⟩ := post_lift e p
    exact ⟨θ, H0, M, x, d, hR, rx, e3, g3⟩
theorem de_cmp {op : CmpOp} {g : D → D → DSt → Option D} (ho : OpR X (compareOp op) (rdOp X.K g)) (ha : De X W a fa) (hb : De X W b fb) (hm : behindInMarks op b = false := by first | exact nomark _ | rfl) : De X W (.Compare a [op] [b] pos) (vOp g fa fb) :=
  pe_imp (pe_cmpR ho ha hb hm) fun _ _ _ q => tOp_of (fun _ _ _ _ h => h) q
theorem dt_cmp {op : CmpOp} {g : D → D → DSt → Option D} (ho : OpR X (compareOp op) (rdOp X.K g)) (ha : De X W a fa) (hb : De X W b fb) (hm : behindInMarks op b = false := by first | exact nomark _ | rfl) : Dt X W (.Compare a [op] [b] pos) (tBl (vOp g fa fb)) :=
  pt_imp (pt_cmpR ho ha hb hm) fun σ H Q q => by
    refine tOp_of (fun _ _ _ _ h => h) (Q := fun x H' => ∃ k, x = .bl k ∧ Q k H') ?_
    refine one (h := fun _ x M1 => (blD x).map (Out.ok · M1)) q fun v H1 θ H0 ρ M x r hR _ rx e p => ?_
    cases x with
    | bl k =>
      cases e
      cases rx
      exact ⟨k, rfl, p k H1 θ H0 (Grow.refl ..) hR rfl⟩
    | _ => cases e
/-- a subscript -/
theorem de_ix {g : D → D → DSt → Option D} (ho : IxR X (rdOp X.K g)) (ha : De X W a fa) (hb : De X W b fb) (hs : PlainIx b := by exact fun _ _ => rfl) : De X W (.Subscript a b pos) (vOp g fa fb) :=
  pe_imp (pe_ix ho ha hb hs) fun _ _ _ q => tOp_of (fun _ _ _ _ h => h) q
theorem da_nil : Da X W [] aNil := pa_imp pa_nil fun σ H Q ⟨θ, H0, ρ, M, r, hR, hE, e, p⟩ => by
  cases e
  exact p [] H θ H0 (Grow.refl ..) hR .nil
theorem da_cons (ha : De X W e fa) (hr : Da X W es fs) (hs : starEach (e :: es) X.env = (false, eval e X.env) :: starEach es X.env := by rfl) : Da X W (e :: es) (aCons fa fs) :=
  pa_imp (pa_cons ha hr hs) fun σ H Q q => by
    refine two (Rl2 := RlVs X.K) growV q fun v H1 q1 => ?_
    obtain ⟨θ, H0, ρ, M, r1, hR, hE, e, p⟩ := q1
    refine ⟨θ, H0, ρ, M, r1, hR, hE, e, p.imp fun w H2 ⟨θ, H0, M, x, y, r2, hR, rx, ry, e2, p2⟩ => ?_⟩
    cases e2
    exact p2 _ H2 θ H0 (Grow.refl ..) hR (.cons rx ry)
theorem de_tup {x1} (h : Da X W es fs) : De X W (.Tuple es x1 pos) (vTup fs) :=
  pe_imp (pe_tup h) fun σ H Q q => by
    refine one q fun v H1 θ H0 ρ M x r hR _ rx e p => ?_
    split at e
    · rename_i hz
      cases e
      refine ⟨by rw [rx.len]; exact hz, fun q hq => ?_⟩
      exact Give.tup (fun v H' H0' g hr hl => p v H' θ H0' g hr hl) hR rx hq
    · cases e
theorem de_lst (h : Da X W es fs) : De X W (.List es pos) (vLst fs) :=
  pe_imp (pe_lst h) fun σ H Q q => by
    refine one q fun v H1 θ H0 ρ M x r hR _ rx e p => ?_
    split at e
    · rename_i hz
      cases e
      refine ⟨by rw [rx.len]; exact hz, fun q hq => ?_⟩
      exact Give.lst (fun v H' H0' g hr hl => p v H' θ H0' g hr hl) hR rx hq
    · cases e
end
/-- a new mutable object -/
theorem Grow.newM {θ : List Addr} {H0 H : Hp} {p : Addr} {o : HO} (hp : H p = none) : Grow θ (θ ++ [p]) H0 H0 H (upd H p o) where
  th := List.prefix_append θ [p]
  ex0 := Ex.refl H0
  fr := fun a u e _ => by rw [upd_ne (ne_of_none e hp)]; exact e
  there := fun a u e => ⟨u, by rw [upd_ne (ne_of_none e hp)]; exact e⟩
  new0 := fun _ _ _ => rfl
  newT := fun a h n => by
    rcases List.mem_append.mp h with z | z
    · exact absurd z n
    · rw [List.mem_singleton.mp z]; exact hp
theorem Rep.newM {K : PySem.W.Frag} {θ : List Addr} {H0 H : Hp} {M : DSt} (r : Rep K θ H0 H M) {p : Addr} {vs : List V} {ds : List D} (hp : H p = none) (h : RelDs K θ H0 vs ds) : Rep K (θ ++ [p]) H0 (upd H p (.lst vs)) (M ++ [.lst ds]) where
  ex := r.ex.trans (Ex.new hp)
  nd := List.nodup_append.mpr ⟨r.nd, by simp, fun a ha b hb => by
    rw [List.mem_singleton.mp hb]
    intro z
    subst z
    exact r.new_ne hp ha⟩
  len := by rw [List.length_append, List.length_append, r.len]; rfl
  ob := fun a h => by
    rcases List.mem_append.mp h with z | z
    · exact r.ob a z
    · rw [List.mem_singleton.mp z]; exact r.fresh hp
  st := fun l a m e1 e2 => by
    by_cases hl : l < θ.length
    · rw [List.getElem?_append_left hl] at e1
      rw [List.getElem?_append_left (by rw [← r.len]; exact hl)] at e2
      have ne : a ≠ p := fun z => by
        subst z
        exact r.new_ne hp (List.mem_of_getElem? e1)
      exact (r.st l a m e1 e2).mono (List.prefix_append θ [p]) (Ex.refl H0) (upd_ne ne)
    · have hl2 : l = θ.length := by
        have := (List.getElem?_eq_some_iff.mp e1).1
        rw [List.length_append] at this
        have h1 : [p].length = 1 := rfl
        omega
      subst hl2
      rw [List.getElem?_append_right (Nat.le_refl _), Nat.sub_self] at e1
      rw [r.len, List.getElem?_append_right (Nat.le_refl _), Nat.sub_self] at e2
      cases e1
      cases e2
      exact ⟨vs, upd_same, h.mono (List.prefix_append θ [p]) (Ex.refl H0)⟩
section
variable {X : Cx} {W : WX} {a b c e : Expr} {es : List Expr} {fa fb fc : Dm D} {ft fu : Dm Bool} {fs : Dm (List D)} {pos : Pos} {k : Nat}
theorem de_lstM (h : Da X W es fs) : De X W (.List es pos) (vLstM fs) :=
  pe_imp (pe_lst h) fun σ H Q q => by
    refine one q fun v H1 θ H0 ρ M x r hR _ rx e p => ?_
    split at e
    · rename_i hz
      cases e
      refine ⟨by rw [rx.len]; exact hz, fun q hq => ?_⟩
      refine p _ _ _ _ (Grow.newM hq) (hR.newM hq rx) (.loc ?_)
      rw [← hR.len, List.getElem?_append_right (Nat.le_refl _), Nat.sub_self]
      rfl
    · cases e
theorem tru_rel {K : PySem.W.Frag} {θ : List Addr} {H0 H : Hp} {M : DSt} {v : V} {d : D} {k : Bool} (hR : Rep K θ H0 H M) (r : RelD K θ H0 v d) (e : truD d M = some k) : TruV K v H k := by
  have lens : ∀ {vs : List V} {ds : List D}, RelDs K θ H0 vs ds → (!vs.isEmpty) = (!ds.isEmpty) := fun h => by cases h <;> rfl
  cases r with
  | non => cases e; exact rfl
  | bl b => cases e; exact rfl
  | int i => cases e; exact rfl
  | str x =>
    have e' : (if x.length ≤ sizeLine then some ((x.length : Int) != 0) else none) = some k := e
    by_cases hz : x.length ≤ sizeLine
    · rw [if_pos hz] at e'
      cases e'
      exact ⟨hz, rfl⟩
    · rw [if_neg hz] at e'
      cases e'
  | tup h r =>
    cases e
    exact .inr (.inl ⟨_, Evl.ex_t hR.ex h, (lens r).symm⟩)
  | lst h r =>
    cases e
    exact .inl ⟨_, SqL.of (hR.ex _ _ h), (lens r).symm⟩
  | rol h r =>
    cases e
    exact .inl ⟨_, Evl.ex_l hR.ex h, (lens r).symm⟩
  | @loc a l h =>
    obtain ⟨m, hm⟩ := getElem?_of_len hR.len h
    have z := hR.st l a m h hm
    unfold truD at e
    simp only [hm] at e
    cases m with
    | lst ds =>
      obtain ⟨vs, q, r⟩ := z
      cases e
      exact .inl ⟨_, SqL.of q, (lens r).symm⟩
/-- any expression as a test -/
theorem dt_tru (ha : De X W a fa) (he : ∀ whole, isTrue a X.env whole = (do let v ← whole; standAt a.pos; holding [v] (truthy v)) := by intro _; rfl) : Dt X W a (tTru fa) :=
  pt_imp (pt_truth ha he) fun σ H Q q => by
    refine one q fun v H1 θ H0 ρ M x r hR _ rx e p => ?_
    cases ht : truD x M with
    | none => rw [ht] at e; cases e
    | some k =>
      rw [ht] at e
      cases e
      exact ⟨k, tru_rel hR rx ht, p k H1 θ H0 (Grow.refl ..) hR rfl⟩
abbrev Dw (X : Cx) (W : WX) (e : Expr) (f : Dm Bool) : Prop := PW X e (rd X.K X.mg W RlB f)
theorem dw_and1 (ha : Dt X W a ft) : Dw X W (.BoolOp .And [a] pos) ft := pw_and1 ha
theorem dw_or1 (ha : Dt X W a ft) : Dw X W (.BoolOp .Or [a] pos) ft := pw_or1 ha
theorem dw_and (ha : Dt X W a ft) (hb : Dw X W (.BoolOp .And (b :: es) pos) fu) : Dw X W (.BoolOp .And (a :: b :: es) pos) (tAnd2 ft fu) :=
  pw_imp (pw_and ha hb) fun σ H Q q => by
    refine one q fun v H1 θ H0 ρ M x r hR hE rx e p => ?_
    cases rx
    cases v with
    | true =>
      rw [if_pos rfl] at e ⊢
      exact ⟨θ, H0, ρ, M, r, hR, hE, e, p⟩
    | false =>
      rw [if_neg Bool.false_ne_true] at e ⊢
      cases e
      exact p _ _ _ _ (Grow.refl ..) hR rfl
theorem dw_or (ha : Dt X W a ft) (hb : Dw X W (.BoolOp .Or (b :: es) pos) fu) : Dw X W (.BoolOp .Or (a :: b :: es) pos) (tOr2 ft fu) :=
  pw_imp (pw_or ha hb) fun σ H Q q => by
    refine one q fun v H1 θ H0 ρ M x r hR hE rx e p => ?_
    cases rx
    cases v with
    | false =>
      rw [if_neg Bool.false_ne_true] at e ⊢
      exact ⟨θ, H0, ρ, M, r, hR, hE, e, p⟩
    | true =>
      rw [if_pos rfl] at e ⊢
      cases e
      exact p _ _ _ _ (Grow.refl ..) hR rfl
theorem dt_w (h : Dw X W e ft) : Dt X W e ft := h.pt
theorem dt_not (ha : Dt X W a ft) : Dt X W (.UnaryOp .Not a pos) (tNot2 ft) :=
  pt_imp (pt_not ha) fun σ H Q q => by
    refine one q fun v H1 θ H0 ρ M x r hR hE rx e p => ?_
    cases rx
    cases e
    exact p _ _ _ _ (Grow.refl ..) hR rfl
theorem de_one {op} (h : De X W a fa) : De X W (.BoolOp op [a] pos) fa := pe_one h
theorem bl_of {K : PySem.W.Frag} {θ : List Addr} {H0 : Hp} {v : V} {d : D} {k : Bool} (r : RelD K θ H0 v d) (e : blD d = some k) : v = .bl k := by
  cases r with
  | bl b => cases e; rfl
  | _ => cases e
theorem de_and (ha : De X W a fa) (hb : De X W (.BoolOp .And (b :: es) pos) fb) : De X W (.BoolOp .And (a :: b :: es) pos) (vAnd fa fb) :=
  pe_imp (pe_and ha hb) fun σ H Q q => by
    refine one q fun v H1 θ H0 ρ M x r hR hE rx e p => ?_
    split at e
    · rename_i k hk
      refine ⟨k, bl_of rx hk, ?_⟩
      cases k with
      | true =>
        rw [if_pos rfl] at e ⊢
        exact ⟨θ, H0, ρ, M, r, hR, hE, e, p⟩
      | false =>
        rw [if_neg Bool.false_ne_true] at e ⊢
        cases e
        exact p _ _ _ _ (Grow.refl ..) hR (.bl false)
    · cases e
theorem de_or (ha : De X W a fa) (hb : De X W (.BoolOp .Or (b :: es) pos) fb) : De X W (.BoolOp .Or (a :: b :: es) pos) (vOr fa fb) :=
  pe_imp (pe_or ha hb) fun σ H Q q => by
    refine one q fun v H1 θ H0 ρ M x r hR hE rx e p => ?_
    split at e
    · rename_i k hk
      refine ⟨k, bl_of rx hk, ?_⟩
      cases k with
      | false =>
        rw [if_neg Bool.false_ne_true] at e ⊢
        exact ⟨θ, H0, ρ, M, r, hR, hE, e, p⟩
      | true =>
        rw [if_pos rfl] at e ⊢
        cases e
        exact p _ _ _ _ (Grow.refl ..) hR (.bl true)
    · cases e
theorem de_not (ha : De X W a fa) : De X W (.UnaryOp .Not a pos) (vNot fa) :=
  pe_imp (pe_not ha) fun σ H Q q => by
    refine one q fun v H1 θ H0 ρ M x r hR hE rx e p => ?_
    split at e
    · rename_i k hk
      cases e
      exact ⟨k, bl_of rx hk, p _ _ _ _ (Grow.refl ..) hR (.bl _)⟩
    · cases e
theorem de_if (hc : Dt X W c ft) (ha : De X W a fa) (hb : De X W b fb) : De X W (.IfExp c a b pos) (vIf ft fa fb) :=
  pe_imp (pe_ifExp hc ha hb) fun σ H Q q => by
    refine one q fun v H1 θ H0 ρ M x r hR hE rx e p => ?_
    cases rx
    cases v with
    | true =>
      rw [if_pos rfl] at e ⊢
      exact ⟨θ, H0, ρ, M, r, hR, hE, e, p⟩
    | false =>
      rw [if_neg Bool.false_ne_true] at e ⊢
      exact ⟨θ, H0, ρ, M, r, hR, hE, e, p⟩
theorem chain_of {g g' : D → D → DSt → Option D} {σ : L2.St} {H : Hp} {Q : VK} (q : rd X.K X.mg W (RlV X.K) (vChain g g' fa fb fc) σ H Q) :
    tChain (rdOp X.K g) (rdOp X.K g') (rd X.K X.mg W (RlV X.K) fa) (rd X.K X.mg W (RlV X.K) fb) (rd X.K X.mg W (RlV X.K) fc) σ H Q := by
  obtain ⟨θ, H0, ρ, M, r, hR, hE, e, p⟩ := q
  obtain ⟨r1, e1, p1⟩ := p.bind (Rl := RlV X.K) e
  refine ⟨θ, H0, ρ, M, r1, hR, hE, e1, p1.imp fun v H1 ⟨θ1, H01, M1, x, r2, g1, hR1, rx, e2, p2⟩ => ?_⟩
  obtain ⟨r3, e3, p3⟩ := p2.bind (Rl := RlV X.K) e2
  refine ⟨θ1, H01, ρ, M1, r3, hR1, hE.mono g1.th g1.ex0, e3, p3.imp fun w H2 ⟨θ2, H02, M2, y, r4, g2, hR2, ry, e4, p4⟩ => ?_⟩
  have hE2 : RelE X.K θ2 H02 σ ρ := hE.mono (g1.trans g2).th (g1.trans g2).ex0
  dsimp only at e4
  cases hg : g x y M2 with
  | none => rw [hg] at e4; cases e4
  | some z =>
    rw [hg] at e4
    refine ⟨θ2, H02, M2, x, y, z, hR2, rx.mono g2.th g2.ex0, ry, hg, fun zv H3 H03 g3 hR3 rz => ?_⟩
    cases z with
    | bl kk =>
      cases rz
      refine ⟨kk, rfl, ?_⟩
      cases kk with
      | true =>
        rw [if_pos rfl]
        obtain ⟨r5, e5, p5⟩ := p4.bind (Rl := RlV X.K) e4
        refine ⟨θ2, H03, ρ, M2, r5, hR3, hE2.mono g3.th g3.ex0, e5, (p5.grow g3).imp fun u H4 ⟨θ4, H04, M4, zz, r6, g4, hR4, rzz, e6, p6⟩ => ?_⟩
        obtain ⟨d, e7, g7⟩ := post_lift e6 p6
        exact ⟨θ4, H04, M4, y, zz, d, hR4, ry.mono g4.th g4.ex0, rzz, e7, g7⟩
      | false =>
        rw [if_neg Bool.false_ne_true]
        cases e4
        exact p4 _ _ _ _ g3 hR3 (.bl false)
    | _ => cases e4
theorem de_chain {op op' : CmpOp} {g g' : D → D → DSt → Option D} (ho : OpR X (compareOp op) (rdOp X.K g)) (ho' : OpR X (compareOp op') (rdOp X.K g')) (ha : De X W a fa) (hb : De X W b fb) (hc : De X W c fc) (hm : lastMarks [op, op'] [b, c] = false := by with_unfolding_all rfl) :
    De X W (.Compare a [op, op'] [b, c] pos) (vChain g g' fa fb fc) := pe_imp (pe_chain ho ho' ha hb hc hm) fun _ _ _ q => chain_of q
theorem dt_chain {op op' : CmpOp} {g g' : D → D → DSt → Option D} (ho : OpR X (compareOp op) (rdOp X.K g)) (ho' : OpR X (compareOp op') (rdOp X.K g')) (ha : De X W a fa) (hb : De X W b fb) (hc : De X W c fc) (hm : lastMarks [op, op'] [b, c] = false := by with_unfolding_all rfl) :
    Dt X W (.Compare a [op, op'] [b, c] pos) (tBl (vChain g g' fa fb fc)) := pt_imp (pt_chain ho ho' ha hb hc hm) fun σ H Q q => by
  refine chain_of (Q := fun x H' => ∃ k, x = .bl k ∧ Q k H') ?_
  refine one (h := fun _ x M1 => (blD x).map (Out.ok · M1)) q fun v H1 θ H0 ρ M x r hR _ rx e p => ?_
  cases x with
  | bl k =>
    cases e
    cases rx
    exact ⟨k, rfl, p k H1 θ H0 (Grow.refl ..) hR rfl⟩
  | _ => cases e
end
end DL
end

section
set_option Elab.async false
set_option linter.all false
set_option maxRecDepth 100000
set_option maxHeartbeats 1000000
/-! DL3: targets, what is walked, comprehensions, statements, loops. -/
namespace DL
open PySem PySem.Spec PyProof.Rows L2
open Evl (Ex)
/-! ### targets -/
abbrev Tg := D → DEnv → DSt → Option DEnv
abbrev Tgs := List D → DEnv → DSt → Option DEnv
def gN (i : Nat) : Tg := fun d ρ _ => some (ρ.set i (some d))
def gsNil : Tgs := fun ds ρ _ => match ds with
  | [] => some ρ
  | _ => none
def gsCons (t : Tg) (u : Tgs) : Tgs := fun ds ρ M => match ds with
  | d :: ds => (t d ρ M).bind fun ρ' => u ds ρ' M
  | [] => none
def gT (u : Tgs) : Tg := fun d ρ M => match d with
  | .tup ds => u ds ρ M
  | _ => none
def rdG (K : PySem.W.Frag) (f : Tg) (sl : List Nat) : TG := fun v σ H Q => ∃ θ H0 ρ M d ρ', Rep K θ H0 H M ∧ RelE K θ H0 σ ρ ∧ RelD K θ H0 v d ∧ f d ρ M = some ρ' ∧
  ∀ σ', RelE K θ H0 σ' ρ' → σ'.length = σ.length → (∀ j, j ∉ sl → σ'[j]? = σ[j]?) → Q σ' H
def rdGs (K : PySem.W.Frag) (f : Tgs) (sl : List Nat) : TGs := fun vs σ H Q => ∃ θ H0 ρ M ds ρ', Rep K θ H0 H M ∧ RelE K θ H0 σ ρ ∧ RelDs K θ H0 vs ds ∧ f ds ρ M = some ρ' ∧
  ∀ σ', RelE K θ H0 σ' ρ' → σ'.length = σ.length → (∀ j, j ∉ sl → σ'[j]? = σ[j]?) → Q σ' H
abbrev Dg (X : Cx) (tg : Expr) (f : Tg) (sl : List Nat) : Prop := PG X tg (rdG X.K f sl)
abbrev Dgs (X : Cx) (ts : List Expr) (f : Tgs) (sl : List Nat) : Prop := PGs X ts (rdGs X.K f sl)
theorem pg_imp {X : Cx} {e : Expr} {t t' : TG} (h : PG X e t) (i : ∀ v σ H Q, t' v σ H Q → t v σ H Q) : PG X e t' := ⟨fun pins s σ H v u Q I r q => h.run pins s σ H v u Q I r (i v σ H Q q)⟩
theorem pgs_imp {X : Cx} {e : List Expr} {t t' : TGs} (h : PGs X e t) (i : ∀ v σ H Q, t' v σ H Q → t v σ H Q) : PGs X e t' := ⟨fun pins s σ H v u Q I r q => h.run pins s σ H v u Q I r (i v σ H Q q)⟩
section
variable {X : Cx} {pos : Pos}
theorem dg_name {i : Nat} {x : Str} (hN : X.N.Nodup) (hi : X.N[i]? = some x := by rfl) (hx : Loc X.env.scope x := by first | exact Or.inl rfl | exact Or.inr rfl) (hf : X.fn x = true ∨ X.env.scope.names.lookup x = some .local := by first | exact .inl rfl | exact .inr rfl) : Dg X (.Name x pos) (gN i) [i] :=
  pg_imp (pg_name hN hi hx hf) fun v σ H Q ⟨θ, H0, ρ, M, d, ρ', hR, hE, rv, e, q⟩ => by
    cases e
    refine q _ (hE.set i rv) (by simp) fun j hj => ?_
    rw [List.getElem?_set_ne fun z => hj (by simp [z])]
theorem dgs_nil : Dgs X [] gsNil [] := pgs_imp pgs_nil fun v σ H Q ⟨θ, H0, ρ, M, d, ρ', hR, hE, rv, e, q⟩ => by
  cases rv with
  | nil =>
    cases e
    exact ⟨rfl, q σ hE rfl fun _ _ => rfl⟩
  | cons _ _ => cases e
theorem dgs_cons {e : Expr} {es : List Expr} {t : Tg} {u : Tgs} {sl sl' : List Nat} (h1 : Dg X e t sl) (h2 : Dgs X es u sl')
    (hs : (assignEach (e :: es) X.env).map (·.2) = assign e X.env :: (assignEach es X.env).map (·.2) := by rfl) : Dgs X (e :: es) (gsCons t u) (sl ++ sl') :=
  pgs_imp (pgs_cons h1 h2 hs) fun v σ H Q ⟨θ, H0, ρ, M, d, ρ', hR, hE, rv, e, q⟩ => by
    cases rv with
    | nil => cases e
    | @cons v1 vr d1 dr r1 rr =>
      obtain ⟨ρ1, e1, e2⟩ := Option.bind_eq_some_iff.mp e
      refine ⟨v1, vr, rfl, θ, H0, ρ, M, d1, ρ1, hR, hE, r1, e1, fun σ1 hE1 hl hj => ?_⟩
      refine ⟨θ, H0, ρ1, M, dr, ρ', hR, hE1, rr, e2, fun σ2 hE2 hl2 hj2 => q σ2 hE2 (hl2.trans hl) fun j hn => ?_⟩
      rw [hj2 j fun z => hn (List.mem_append_right _ z), hj j fun z => hn (List.mem_append_left _ z)]
theorem dg_tup {es : List Expr} {k n : Nat} {u : Tgs} {sl : List Nat} (hc : X.calm = true) (h : Dgs X es u sl) (hl : ∀ ds ρ M ρ', u ds ρ M = some ρ' → ds.length = n)
    (hn : (assignEach es X.env).length = n := by rfl) (hst : (assignEach es X.env).findIdx? (·.1) = none := by rfl) : Dg X (.Tuple es k pos) (gT u) sl :=
  pg_imp (pg_tup hc h hn hst) fun v σ H Q ⟨θ, H0, ρ, M, d, ρ', hR, hE, rv, e, q⟩ => by
    cases rv with
    | @tup a vs ds hs r =>
      exact ⟨a, vs, rfl, Evl.ex_t hR.ex hs, r.len.trans (hl _ _ _ _ e), θ, H0, ρ, M, ds, ρ', hR, hE, r, e, q⟩
    | _ => cases e
theorem gsl_nil : ∀ ds ρ M ρ', gsNil ds ρ M = some ρ' → ds.length = 0 := fun ds ρ M ρ' e => by
  cases ds with
  | nil => rfl
  | cons _ _ => cases e
theorem gsl_cons {t : Tg} {u : Tgs} {n : Nat} (h : ∀ ds ρ M ρ', u ds ρ M = some ρ' → ds.length = n) : ∀ ds ρ M ρ', gsCons t u ds ρ M = some ρ' → ds.length = n + 1 := fun ds ρ M ρ' e => by
  cases ds with
  | nil => cases e
  | cons d ds =>
    obtain ⟨ρ1, e1, e2⟩ := Option.bind_eq_some_iff.mp e
    rw [List.length_cons, h _ _ _ _ e2]
end

/-! ### what is walked -/
def seqOf (M : DSt) : D → Option (List D)
  | .tup xs => some xs
  | .lst xs => some xs
  | .rol xs => some xs
  | .loc l => match M[l]? with
    | some (.lst xs) => some xs
    | _ => none
  | _ => none
inductive ItD where
  | seq (d : D) | rng (lo : Int) (n : Nat) | zip (d e : D) | enum (d : D) | enumZip (d e : D)
def zipD (xs ys : List D) : List D := List.zipWith (fun x y => .tup [x, y]) xs ys
def enumD (xs : List D) : List D := (List.range xs.length).zipWith (fun i x => .tup [.int (i : Nat), x]) xs
def ItD.items (M : DSt) : ItD → Option (List D)
  | .seq d => seqOf M d
  | .rng lo n => some ((List.range n).map fun i => .int (lo + (i : Nat)))
  | .zip d e => (seqOf M d).bind fun xs => (seqOf M e).map fun ys => zipD xs ys
  | .enum d => (seqOf M d).map enumD
  | .enumZip d e => (seqOf M d).bind fun xs => (seqOf M e).map fun ys => enumD (zipD xs ys)
def RlI (K : PySem.W.Frag) : List Addr → Hp → Hp → It → ItD → Prop := fun θ H0 H J it =>
  (∀ M xs, Rep K θ H0 H M → it.items M = some xs → xs.length ≤ sizeLine) ∧
  ∀ θ1 H01 H1 M1 xs, θ <+: θ1 → Ex H0 H01 → Rep K θ1 H01 H1 M1 → it.items M1 = some xs →
    (∀ i, i < xs.length → J.go i H1 ∧ ∀ x H2, J.yld i H1 x H2 → ∃ H02 d, xs[i]? = some d ∧ Grow θ1 θ1 H01 H02 H1 H2 ∧ Rep K θ1 H02 H2 M1 ∧ RelD K θ1 H02 x d) ∧ J.stop xs.length H1
abbrev Di (X : Cx) (W : WX) (tg e : Expr) (f : Dm ItD) : Prop := PI X tg e (rd X.K X.mg W (RlI X.K) f)
/-- a list or a tuple, as it lies -/
theorem seq_rel {K : PySem.W.Frag} {θ : List Addr} {H0 H : Hp} {M : DSt} {v : V} {d : D} {xs : List D} (hR : Rep K θ H0 H M) (r : RelD K θ H0 v d) (e : seqOf M d = some xs) :
    ∃ a vs, v = .ref a ∧ RelDs K θ H0 vs xs ∧ ((SqL K H a vs ∧ ∀ ys, d ≠ .tup ys) ∨ (SqT K H a vs ∧ d = .tup xs)) := by
  cases r with
  | tup h r => cases e; exact ⟨_, _, rfl, r, .inr ⟨Evl.ex_t hR.ex h, rfl⟩⟩
  | lst h r => cases e; exact ⟨_, _, rfl, r, .inl ⟨SqL.of (hR.ex _ _ h), fun _ z => nomatch z⟩⟩
  | rol h r => cases e; exact ⟨_, _, rfl, r, .inl ⟨Evl.ex_l hR.ex h, fun _ z => nomatch z⟩⟩
  | @loc a l h =>
    obtain ⟨m, hm⟩ := getElem?_of_len hR.len h
    have z := hR.st l a m h hm
    unfold seqOf at e
    simp only [hm] at e
    cases m with
    | lst ds =>
      obtain ⟨vs, q, r⟩ := z
      cases e
      exact ⟨a, vs, rfl, r, .inl ⟨SqL.of q, fun _ z => nomatch z⟩⟩
  | _ => cases e
theorem rli_list {K : PySem.W.Frag} {θ : List Addr} {H0 H : Hp} {a : Addr} {d : D} (hb : ∀ vs, SqL K H a vs → vs.length ≤ sizeLine) (hd : ∀ ys, d ≠ .tup ys) (rd : RelD K θ H0 (.ref a) d) : RlI K θ H0 H (Itl K a) (.seq d) := by
  have get : ∀ {θ1 H01 H1 M1 xs}, θ <+: θ1 → Ex H0 H01 → Rep K θ1 H01 H1 M1 → seqOf M1 d = some xs → ∃ vs, RelDs K θ1 H01 vs xs ∧ SqL K H1 a vs := fun {θ1 H01 H1 M1 xs} ht he hR e => by
    obtain ⟨b, vs, hb, r, h | h⟩ := seq_rel hR (rd.mono ht he) e
    · cases hb
      exact ⟨vs, r, h.1⟩
    · exact absurd h.2 (hd xs)
  refine ⟨fun M xs hR e => ?_, fun θ1 H01 H1 M1 xs ht he hR e => ?_⟩
  · obtain ⟨vs, r, h⟩ := get List.prefix_rfl (Ex.refl H0) hR e
    rw [← r.len]
    exact hb vs h
  · obtain ⟨vs, r, h⟩ := get ht he hR e
    refine ⟨fun i hi => ?_, ⟨vs, h, Nat.le_of_eq r.len⟩⟩
    have hx : xs[i]? = some xs[i] := List.getElem?_eq_getElem hi
    obtain ⟨v, hv, rv⟩ := r.get hx
    refine ⟨⟨vs, v, h, hv⟩, fun x H2 y => ?_⟩
    obtain ⟨e2, y⟩ := y
    subst e2
    have e3 : some v = some x := hv.symm.trans (y vs h)
    cases e3
    exact ⟨H01, xs[i], hx, Grow.refl .., hR, rv⟩
theorem rli_tup {K : PySem.W.Frag} {θ : List Addr} {H0 H : Hp} {a : Addr} {ds : List D} (hb : ∀ vs, SqT K H a vs → vs.length ≤ sizeLine) (rd : RelD K θ H0 (.ref a) (.tup ds)) : RlI K θ H0 H (Itt K a) (.seq (.tup ds)) := by
  have get : ∀ {θ1 H01 H1 M1 xs}, θ <+: θ1 → Ex H0 H01 → Rep K θ1 H01 H1 M1 → seqOf M1 (.tup ds) = some xs → ∃ vs, RelDs K θ1 H01 vs xs ∧ SqT K H1 a vs := fun {θ1 H01 H1 M1 xs} ht he hR e => by
    cases e
    cases rd.mono ht he with
    | tup h r => exact ⟨_, r, Evl.ex_t hR.ex h⟩
  refine ⟨fun M xs hR e => ?_, fun θ1 H01 H1 M1 xs ht he hR e => ?_⟩
  · obtain ⟨vs, r, h⟩ := get List.prefix_rfl (Ex.refl H0) hR e
    rw [← r.len]
    exact hb vs h
  · obtain ⟨vs, r, h⟩ := get ht he hR e
    refine ⟨fun i hi => ?_, ⟨vs, h, Nat.le_of_eq r.len⟩⟩
    have hx : xs[i]? = some xs[i] := List.getElem?_eq_getElem hi
    obtain ⟨v, hv, rv⟩ := r.get hx
    refine ⟨⟨vs, v, h, hv⟩, fun x H2 y => ?_⟩
    obtain ⟨e2, y⟩ := y
    subst e2
    have e3 : some v = some x := hv.symm.trans (y vs h)
    cases e3
    exact ⟨H01, xs[i], hx, Grow.refl .., hR, rv⟩
def iSeq (fa : Dm D) : Dm ItD := fun ρ M => bnd (fa ρ M) fun d M1 => if (seqOf M1 d).isSome then some (.ok (.seq d) M1) else none
section
variable {X : Cx} {W : WX} {e tg : Expr} {fa : Dm D}
theorem di_seq (h : De X W e fa) : Di X W tg e (iSeq fa) := by
  refine ⟨fun pins s σ H R I q => ?_⟩
  have q2 := one (Rl := RlV X.K) q (Q1 := fun v H1 => ∃ θ H0 M d, Rep X.K θ H0 H1 M ∧ RelD X.K θ H0 v d ∧ (∃ xs, seqOf M d = some xs) ∧ ∀ J, RlI X.K θ H0 H1 J (.seq d) → R J H1) fun v H1 θ H0 ρ M d r hR hE rv e p => by
    split at e
    · rename_i hs
      cases e
      obtain ⟨xs, hx⟩ := Option.isSome_iff_exists.mp hs
      exact ⟨θ, H0, M, d, hR, rv, ⟨xs, hx⟩, fun J hj => p J H1 θ H0 (Grow.refl ..) hR hj⟩
    · cases e
  refine thn (h.run pins s σ H _ I q2) fun u s1 ⟨v, H1, I1, ru, θ, H0, M, d, hR, rv, ⟨xs, hx⟩, k⟩ => ?_
  obtain ⟨a, vs, ev, rs, hs | hs⟩ := seq_rel hR rv hx
  · subst ev
    cases ru
    obtain ⟨its, rt, p, hz⟩ := I1.list hs.1
    refine wpAny_pyIter_list p.isList ?_
    refine ⟨s1.heap.objs.size, [s1.heap.objs.size], _, _, H1, rfl, I1.kept (t' := s1.toks) fun b o e => Heap.get?_push_of_some _ e, turn_list a _, ⟨_, Heap.get?_push_size _ rfl, rfl, rfl⟩, fun b hb => ?_, k _ (rli_list (fun vs' h' => (I1.list h').choose_spec.2.2) hs.2 rv)⟩
    have e : b = s1.heap.objs.size := by simpa using hb
    subst e
    exact I1.fpOk (Nat.le_refl _) (I1.hok.fresh (Nat.le_refl _))
  · subst ev
    cases ru
    obtain ⟨hs1, rfl⟩ := hs
    obtain ⟨its, rt, p, hz⟩ := I1.tuple hs1
    refine wpAny_pyIter_tuple (show s1.heap.IsTuple a its.toArray from p) ?_
    refine ⟨s1.heap.objs.size, [s1.heap.objs.size], _, _, H1, rfl, I1.kept (t' := s1.toks) fun b o e => Heap.get?_push_of_some _ e, turn_tuple a _, ⟨_, Heap.get?_push_size _ rfl, rfl, rfl⟩, fun b hb => ?_, k _ (rli_tup (fun vs' h' => (I1.tuple h').choose_spec.2.2) rv)⟩
    have e : b = s1.heap.objs.size := by simpa using hb
    subst e
    exact I1.fpOk (Nat.le_refl _) (I1.hok.fresh (Nat.le_refl _))
theorem pi_imp {X : Cx} {tg e : Expr} {t t' : TI} (h : PI X tg e t) (i : ∀ σ H R, t' σ H R → t σ H R) : PI X tg e t' := ⟨fun pins s σ H R I q => h.run pins s σ H R I (i σ H R q)⟩
theorem rli_range {K : PySem.W.Frag} {θ : List Addr} {H0 H : Hp} {lo : Int} {n : Nat} (hn : n ≤ 1000000) : RlI K θ H0 H (Itr lo n) (.rng lo n) := by
  refine ⟨fun M xs hR e => ?_, fun θ1 H01 H1 M1 xs ht he hR e => ?_⟩
  · cases e
    rw [List.length_map, List.length_range, sizeLine_eq]
    omega
  · cases e
    rw [List.length_map, List.length_range]
    refine ⟨fun i hi => ⟨hi, fun x H2 y => ?_⟩, Nat.le_refl _⟩
    obtain ⟨e2, e3⟩ := y
    subst e2 e3
    exact ⟨H01, .int (lo + (i : Nat)), by rw [List.getElem?_map, List.getElem?_range hi]; rfl, Grow.refl .., hR, .int _⟩
def iRange1 (fa : Dm D) : Dm ItD := fun ρ M => bnd (fa ρ M) fun d M1 => match d with
  | .int j => if -1000000 ≤ j ∧ j ≤ 1000000 then some (.ok (.rng 0 j.toNat) M1) else none
  | _ => none
theorem di_range1 {a : Expr} {p pos : Pos} (hg : Gl X "range") (hm : X.mg "range" = none) (ha : De X W a fa) (hs : starEach [a] X.env = [(false, eval a X.env)] := by rfl) : Di X W tg (.Call (.Name "range" p) [a] [] pos) (iRange1 fa) :=
  pi_imp (pi_range1 hg hm (pa_cons ha pa_nil (by rw [hs]; rfl)) hs) fun σ H R q => by
    refine one q fun v H1 θ H0 ρ M d r hR hE rv e p => ?_
    cases rv with
    | int j =>
      have e' : (if -1000000 ≤ j ∧ j ≤ 1000000 then some (Out.ok (ItD.rng 0 j.toNat) M) else none) = some r := e
      by_cases hj : -1000000 ≤ j ∧ j ≤ 1000000
      · rw [if_pos hj] at e'
        cases e'
        exact ⟨j, rfl, by omega, by omega, p _ H1 θ H0 (Grow.refl ..) hR (rli_range (by omega))⟩
      · rw [if_neg hj] at e'
        cases e'
    | _ => cases e
def iRange2 (fa fb : Dm D) : Dm ItD := fun ρ M => bnd (fa ρ M) fun x M1 => bnd (fb ρ M1) fun y M2 => match x, y with
  | .int i, .int j => if -1000000 ≤ i ∧ i ≤ 1000000 ∧ -1000000 ≤ j ∧ j ≤ 1000000 ∧ j - i ≤ 1000000 then some (.ok (.rng i (j - i).toNat) M2) else none
  | _, _ => none
theorem di_range2 {a b : Expr} {fb : Dm D} {p pos : Pos} (hg : Gl X "range") (hm : X.mg "range" = none) (ha : De X W a fa) (hb : De X W b fb) (hs : starEach [a, b] X.env = [(false, eval a X.env), (false, eval b X.env)] := by rfl)
    (hs2 : starEach [b] X.env = [(false, eval b X.env)] := by rfl) : Di X W tg (.Call (.Name "range" p) [a, b] [] pos) (iRange2 fa fb) :=
  pi_imp (pi_range2 hg hm (pa_cons ha (pa_cons hb pa_nil (by rw [hs2]; rfl)) (by rw [hs, hs2])) hs hs2) fun σ H R q => by
    refine two (Rl2 := RlV X.K) growV q fun v H1 q1 => ?_
    obtain ⟨θ, H0, ρ, M, r1, hR, hE, e, p⟩ := q1
    refine ⟨θ, H0, ρ, M, r1, hR, hE, e, p.imp fun w H2 ⟨θ, H0, M, x, y, r2, hR, rx, ry, e2, p2⟩ => ?_⟩
    cases rx with
    | int i =>
      cases ry with
      | int j =>
        have e' : (if -1000000 ≤ i ∧ i ≤ 1000000 ∧ -1000000 ≤ j ∧ j ≤ 1000000 ∧ j - i ≤ 1000000 then some (Out.ok (ItD.rng i (j - i).toNat) M) else none) = some r2 := e2
        by_cases hj : -1000000 ≤ i ∧ i ≤ 1000000 ∧ -1000000 ≤ j ∧ j ≤ 1000000 ∧ j - i ≤ 1000000
        · rw [if_pos hj] at e'
          cases e'
          exact ⟨i, j, rfl, ⟨by omega, by omega, by omega, by omega⟩, p2 _ H2 θ H0 (Grow.refl ..) hR (rli_range (by omega))⟩
        · rw [if_neg hj] at e'
          cases e'
      | _ => cases e2
    | _ => cases e2
end

/-! ### comprehensions -/
def wipeE (ρ : DEnv) : List Nat → DEnv
  | [] => ρ
  | v :: vs => (wipeE ρ vs).set v none
theorem RelE.wipe {K : PySem.W.Frag} {θ : List Addr} {H : Hp} {σ : L2.St} {ρ : DEnv} (h : RelE K θ H σ ρ) : ∀ vs, RelE K θ H (L2.wipe σ vs) (wipeE ρ vs)
  | [] => h
  | v :: vs => (RelE.wipe h vs).unset v
theorem wipe_eq : ∀ {vs : List Nat} {σ σ' : L2.St}, σ'.length = σ.length → (∀ j, j ∉ vs → σ'[j]? = σ[j]?) → L2.wipe σ' vs = L2.wipe σ vs := fun {vs σ σ'} hl h => by
  have get : ∀ (vs : List Nat) (σ : L2.St) (j : Nat), (L2.wipe σ vs)[j]? = if j ∈ vs then (if j < σ.length then some none else none) else σ[j]? := by
    intro vs
    induction vs with
    | nil => intro σ j; simp [L2.wipe]
    | cons v vs ih =>
      intro σ j
      unfold L2.wipe
      by_cases hv : v = j
      · subst hv
        by_cases hl : v < σ.length
        · rw [List.getElem?_set_self (by rw [wipe_length]; exact hl)]
          simp [hl]
        · rw [List.getElem?_eq_none (by rw [List.length_set, wipe_length]; omega)]
          simp [hl]
      · rw [List.getElem?_set_ne hv, ih]
        simp [show ¬ j = v from fun z => hv z.symm]
  refine List.ext_getElem? fun j => ?_
  rw [get, get, hl]
  split
  · rfl
  · rename_i hj
    exact h j hj
theorem wipe_wipe {vs : List Nat} {σ σ2 : L2.St} (hl : σ2.length = (L2.wipe σ vs).length) (h : ∀ j, j ∉ vs → σ2[j]? = (L2.wipe σ vs)[j]?) : L2.wipe σ2 vs = L2.wipe σ vs := by
  refine wipe_eq (by rw [hl, wipe_length]) fun j hj => ?_
  rw [h j hj, wipe_out hj]
open Classical in
/-- the turns of a comprehension; chk: what is walked stands still -/
noncomputable def lcGo (it : ItD) (xs0 : List D) (step : D → DSt → R (List D)) : List D → DSt → R (List D)
  | [], M => if it.items M = some xs0 then some (.ok [] M) else none
  | x :: xs, M => if it.items M = some xs0 then (match step x M with
    | some (.ok o M1) => (match lcGo it xs0 step xs M1 with
      | some (.ok ys M2) => some (.ok (o ++ ys) M2)
      | _ => none)
    | _ => none) else none
def lcStep (T : Tg) (ft : Dm Bool) (fe : Dm D) (ρ0 : DEnv) : D → DSt → R (List D) := fun x M => match T x ρ0 M with
  | some ρ' => (match ft ρ' M with
    | some (.ok true M1) => (match fe ρ' M1 with
      | some (.ok y M2) => some (.ok [y] M2)
      | _ => none)
    | some (.ok false M1) => some (.ok [] M1)
    | _ => none)
  | none => none
noncomputable def vLc (fi : Dm ItD) (T : Tg) (ft : Dm Bool) (fe : Dm D) (vs : List Nat) : Dm D := fun ρ M => bnd (fi ρ M) fun it M1 => match it.items M1 with
  | some xs => (match lcGo it xs (lcStep T ft fe (wipeE ρ vs)) xs M1 with
    | some (.ok ys M2) => some (.ok (.lst ys) M2)
    | _ => none)
  | none => none
def tTrue : Dm Bool := fun _ M => some (.ok true M)
abbrev Dts (X : Cx) (W : WX) (es : List Expr) (f : Dm Bool) : Prop := PTs X es (rd X.K X.mg W RlB f)
theorem pts_imp {X : Cx} {e : List Expr} {t t' : TT} (h : PTs X e t) (i : ∀ σ H Q, t' σ H Q → t σ H Q) : PTs X e t' := ⟨fun pins s σ H Q I q => h.run pins s σ H Q I (i σ H Q q)⟩
theorem dts_nil {X : Cx} {W : WX} : Dts X W [] tTrue := pts_imp pts_nil fun σ H Q ⟨θ, H0, ρ, M, r, hR, hE, e, p⟩ => by
  cases e
  exact p _ H θ H0 (Grow.refl ..) hR rfl
theorem dts_one {X : Cx} {W : WX} {c : Expr} {f : Dm Bool} (h : Dt X W c f) : Dts X W [c] f := pts_one h
theorem Grow.not_new {θ θ' : List Addr} {H0 H0' H H' : Hp} (g : Grow θ θ' H0 H0' H H') {a : Addr} {o : HO} (h : H a = some o) (n : a ∉ θ) : a ∉ θ' := fun z => by
  have e := g.newT a z n
  rw [h] at e; cases e
/-- the list in the making, at D -/
structure Making (K : PySem.W.Frag) (θ1 : List Addr) (H01 H1 : Hp) (Dl : Addr) (θ : List Addr) (H0 H : Hp) (M : DSt) (acc : List V) (ys : List D) : Prop where
  g : Grow θ1 θ H01 H0 H1 H
  r : Rep K θ H0 H M
  at_ : H Dl = some (.lst acc)
  rel : RelDs K θ H0 acc ys
  n0 : H0 Dl = none
  nt : Dl ∉ θ
theorem Making.start {K : PySem.W.Frag} {θ : List Addr} {H0 H : Hp} {M : DSt} {Dl : Addr} (r : Rep K θ H0 H M) (hD : H Dl = none) : Making K θ H0 H Dl θ H0 (upd H Dl (.lst [])) M [] [] :=
  ⟨Grow.grown (Ex.new hD), r.grown (Ex.new hD), upd_same, .nil, r.fresh hD, r.new_ne hD⟩
theorem Making.step {K : PySem.W.Frag} {θ1 θ θ' : List Addr} {H01 H1 H0 H H0' H' : Hp} {Dl : Addr} {M M' : DSt} {acc : List V} {ys : List D} (m : Making K θ1 H01 H1 Dl θ H0 H M acc ys) (g : Grow θ θ' H0 H0' H H') (r : Rep K θ' H0' H' M') : Making K θ1 H01 H1 Dl θ' H0' H' M' acc ys :=
  ⟨m.g.trans g, r, g.fr _ _ m.at_ m.nt, m.rel.mono g.th g.ex0, (g.new0 _ _ m.at_).trans m.n0, g.not_new m.at_ m.nt⟩
theorem Making.add {K : PySem.W.Frag} {θ1 θ : List Addr} {H01 H1 H0 H : Hp} {Dl : Addr} {M : DSt} {acc : List V} {ys : List D} {v : V} {y : D} (m : Making K θ1 H01 H1 Dl θ H0 H M acc ys) (h1 : H1 Dl = none) (rv : RelD K θ H0 v y) :
    Making K θ1 H01 H1 Dl θ H0 (upd H Dl (.lst (acc ++ [v]))) M (acc ++ [v]) (ys ++ [y]) := by
  have un : ∀ {a : Addr} {o : HO}, H0 a = some o → a ≠ Dl := fun {a o} e z => by
    subst z
    rw [m.n0] at e; cases e
  refine ⟨⟨m.g.th, m.g.ex0, fun a o e n => ?_, fun a o e => ?_, m.g.new0, m.g.newT⟩, ⟨fun a o e => ?_, m.r.nd, m.r.len, m.r.ob, fun l a mo e1 e2 => ?_⟩, upd_same, m.rel.append (.one rv), m.n0, m.nt⟩
  · rw [upd_ne (ne_of_none e h1)]
    exact m.g.fr a o e n
  · rw [upd_ne (ne_of_none e h1)]
    exact m.g.there a o e
  · rw [upd_ne (un e)]
    exact m.r.ex a o e
  · have ne : a ≠ Dl := fun z => by
      subst z
      exact m.nt (List.mem_of_getElem? e1)
    exact (m.r.st l a mo e1 e2).mono List.prefix_rfl (Ex.refl H0) (upd_ne ne)
/-- it is done: from now on it never changes -/
theorem Making.done {K : PySem.W.Frag} {θ1 θ : List Addr} {H01 H1 H0 H : Hp} {Dl : Addr} {M : DSt} {acc : List V} {ys : List D} (m : Making K θ1 H01 H1 Dl θ H0 H M acc ys) (h1 : H1 Dl = none) :
    Grow θ1 θ H01 (upd H0 Dl (.lst acc)) H1 H ∧ Rep K θ (upd H0 Dl (.lst acc)) H M ∧ RelD K θ (upd H0 Dl (.lst acc)) (.ref Dl) (.lst ys) := by
  have ex : Ex H0 (upd H0 Dl (.lst acc)) := Ex.new m.n0
  refine ⟨⟨m.g.th, m.g.ex0.trans ex, m.g.fr, m.g.there, fun a o e => ?_, m.g.newT⟩, ⟨fun a o e => ?_, m.r.nd, m.r.len, fun a h => ?_, fun l a mo e1 e2 => (m.r.st l a mo e1 e2).mono List.prefix_rfl ex rfl⟩, .lst upd_same (m.rel.mono List.prefix_rfl ex)⟩
  · rw [upd_ne (ne_of_none e h1)]
    exact m.g.new0 a o e
  · by_cases ha : a = Dl
    · subst ha
      rw [upd_same] at e
      cases e
      exact m.at_
    · rw [upd_ne ha] at e
      exact m.r.ex a o e
  · have ne : a ≠ Dl := fun z => by
      subst z
      exact m.nt h
    rw [upd_ne ne]
    exact m.r.ob a h
/-- where no exception leaves, a reading ends well -/
theorem Post.sure {K : PySem.W.Frag} {mg : Str → Option Value} {α β : Type} {Rl : List Addr → Hp → Hp → β → α → Prop} {σ : L2.St} {θ : List Addr} {H0 H : Hp} {d : α} {M' : DSt} {Q : β → Hp → Prop} (h : ∀ v H' θ' H0', Grow θ θ' H0 H0' H H' → Rep K θ' H0' H' M' → Rl θ' H0' H' v d → Q v H') :
    Post K mg W0 σ Rl θ H0 H (.ok d M') Q := h
section
variable {X : Cx} {W : WX} {pos : Pos} {k : Nat}
theorem lc_of {wi : Dm ItD} {T : Tg} {sl : List Nat} {ft : Dm Bool} {fe : Dm D} {vs : List Nat} (hsl : ∀ i, i ∈ sl → i ∈ vs) {σ : L2.St} {H : Hp} {Q : VK} (q : rd X.K X.mg W (RlV X.K) (vLc wi T ft fe vs) σ H Q) :
    tLc (rd X.K X.mg W (RlI X.K) wi) (rdG X.K T sl) (rd X.K X.mg W0 RlB ft) (rd X.K X.mg W0 (RlV X.K) fe) vs σ H Q := by
  refine one q fun J H1 θ1 H01 ρ M1 it r hR1 hE1 rj e p => ?_
  split at e
  · rename_i xs hxs
    split at e
    · rename_i ys M2 hgo
      cases e
      intro Dl hD
      obtain ⟨hlen, hstep⟩ := rj
      have hlen := hlen M1 xs hR1 hxs
      have hEw : RelE X.K θ1 H01 (L2.wipe σ vs) (wipeE ρ vs) := hE1.wipe vs
      refine ⟨fun i m H' => m = xs.length - i ∧ i ≤ xs.length ∧ ∃ θ' H0' M' acc ys' rest, Making X.K θ1 H01 H1 Dl θ' H0' H' M' acc ys' ∧ acc.length ≤ i ∧ lcGo it xs (lcStep T ft fe (wipeE ρ vs)) (xs.drop i) M' = some (.ok rest M2) ∧ ys = ys' ++ rest,
        ⟨xs.length, by omega, Nat.zero_le _, θ1, H01, M1, [], [], ys, Making.start hR1 hD, Nat.le_refl _, hgo, rfl⟩, ?_⟩
      rintro i m H' ⟨rfl, hi, θ', H0', M', acc, ys', rest, mk, ha, hg, hy⟩
      rcases Nat.lt_or_ge i xs.length with hlt | hge
      · have hd : xs.drop i = xs[i] :: xs.drop (i + 1) := List.drop_eq_getElem_cons hlt
        rw [hd] at hg
        unfold lcGo at hg
        split at hg
        · rename_i hit
          obtain ⟨hgo', _⟩ := hstep θ' H0' H' M' xs mk.g.th mk.g.ex0 mk.r hit
          obtain ⟨jgo, jy⟩ := hgo' i hlt
          split at hg
          · rename_i o M3 hst
            split at hg
            · rename_i ys3 M4 hrest
              cases hg
              refine .inr ⟨jgo, fun H2 => ∃ θ2 H02 acc2, Making X.K θ1 H01 H1 Dl θ2 H02 H2 M3 acc2 (ys' ++ o) ∧ acc2.length ≤ i + 1, fun H2 ⟨θ2, H02, acc2, mk2, ha2⟩ => ⟨xs.length - (i + 1), by omega, rfl, hlt, θ2, H02, M3, acc2, ys' ++ o, ys3, mk2, ha2, hrest, by rw [hy, List.append_assoc]⟩, fun x H2 hx => ?_⟩
              obtain ⟨H02, d, hd1, g2, r2, rd2⟩ := jy x H2 hx
              have ed : d = xs[i] := by
                rw [List.getElem?_eq_getElem hlt] at hd1
                exact (Option.some.inj hd1).symm
              subst ed
              have mk2 := mk.step g2 r2
              unfold lcStep at hst
              split at hst
              · rename_i ρ' hT
                refine ⟨θ', H02, wipeE ρ vs, M', xs[i], ρ', r2, hEw.mono mk2.g.th mk2.g.ex0, rd2, hT, fun σ2 hE2 hl2 hj2 => ⟨wipe_wipe hl2 fun j hj => hj2 j fun z => hj (hsl j z), ?_⟩⟩
                split at hst
                · rename_i M5 hft
                  split at hst
                  · rename_i y M6 hfe
                    cases hst
                    refine ⟨θ', H02, ρ', M', _, r2, hE2, hft, fun b H3 θ3 H03 g3 r3 hb => ?_⟩
                    subst hb
                    rw [if_pos rfl]
                    have mk3 := mk2.step g3 r3
                    refine ⟨θ3, H03, ρ', M5, _, r3, hE2.mono g3.th g3.ex0, hfe, fun v H4 θ4 H04 g4 r4 rv => ?_⟩
                    have mk4 := mk3.step g4 r4
                    exact ⟨acc, mk4.at_, by omega, θ4, H04, acc ++ [v], mk4.add hD rv, by rw [List.length_append]; exact Nat.succ_le_succ ha⟩
                  · cases hst
                · rename_i M5 hft
                  cases hst
                  refine ⟨θ', H02, ρ', M', _, r2, hE2, hft, fun b H3 θ3 H03 g3 r3 hb => ?_⟩
                  subst hb
                  rw [if_neg Bool.false_ne_true]
                  have mk3 := mk2.step g3 r3
                  exact ⟨θ3, H03, acc, by rw [List.append_nil]; exact mk3, by omega⟩
                · cases hst
              · cases hst
            · cases hg
          · cases hg
        · cases hg
      · have ei : i = xs.length := by omega
        subst ei
        rw [List.drop_length] at hg
        unfold lcGo at hg
        split at hg
        · rename_i hit
          cases hg
          refine .inl ⟨(hstep θ' H0' H' M2 xs mk.g.th mk.g.ex0 mk.r hit).2, ?_⟩
          obtain ⟨g, r, rr⟩ := mk.done hD
          rw [List.append_nil] at hy
          subst hy
          exact p _ H' θ' _ g r rr
        · cases hg
    · cases e
  · cases e
end
end DL
end

section
set_option Elab.async false
set_option linter.all false
set_option maxRecDepth 100000
set_option maxHeartbeats 1000000
/-! DL4: comprehensions as expressions; two clauses; statements. -/
namespace DL
open PySem PySem.Spec PyProof.Rows L2
open Evl (Ex)
noncomputable def lcStep2 (T : Tg) (ft : Dm Bool) (fi1 : Dm ItD) (T1 : Tg) (ft1 : Dm Bool) (fe : Dm D) (vs1 : List Nat) (ρ0 : DEnv) : D → DSt → R (List D) := fun x M => match T x ρ0 M with
  | some ρ' => (match ft ρ' M with
    | some (.ok true M1) => (match fi1 ρ' M1 with
      | some (.ok it1 M2) => (match it1.items M2 with
        | some xs1 => lcGo it1 xs1 (lcStep T1 ft1 fe (wipeE ρ' vs1)) xs1 M2
        | none => none)
      | _ => none)
    | some (.ok false M1) => some (.ok [] M1)
    | _ => none)
  | none => none
noncomputable def vLc2 (fi : Dm ItD) (T : Tg) (ft : Dm Bool) (fi1 : Dm ItD) (T1 : Tg) (ft1 : Dm Bool) (fe : Dm D) (vs vs1 : List Nat) : Dm D := fun ρ M => bnd (fi ρ M) fun it M1 => match it.items M1 with
  | some xs => (match lcGo it xs (lcStep2 T ft fi1 T1 ft1 fe vs1 (wipeE ρ vs)) xs M1 with
    | some (.ok ys M2) => if ys.length ≤ 1000000 then some (.ok (.lst ys) M2) else none
    | _ => none)
  | none => none
section
variable {X : Cx} {W : WX} {pos : Pos} {k : Nat}
theorem lc2_of {wi wi1 : Dm ItD} {T T1 : Tg} {sl sl1 : List Nat} {ft ft1 : Dm Bool} {fe : Dm D} {vs vs1 : List Nat} (hsl : ∀ i, i ∈ sl → i ∈ vs) (hsl1 : ∀ i, i ∈ sl1 → i ∈ vs1) {σ : L2.St} {H : Hp} {Q : VK} (q : rd X.K X.mg W (RlV X.K) (vLc2 wi T ft wi1 T1 ft1 fe vs vs1) σ H Q) :
    tLc2 (rd X.K X.mg W (RlI X.K) wi) (rdG X.K T sl) (rd X.K X.mg W0 RlB ft) (rd X.K X.mg W0 (RlI X.K) wi1) (rdG X.K T1 sl1) (rd X.K X.mg W0 RlB ft1) (rd X.K X.mg W0 (RlV X.K) fe) vs vs1 σ H Q := by
  refine one q fun J H1 θ1 H01 ρ M1 it r hR1 hE1 rj e p => ?_
  split at e
  · rename_i xs hxs
    split at e
    · rename_i ys M2 hgo
      split at e
      · rename_i hbig
        cases e
        intro Dl hD
        obtain ⟨hlen, hstep⟩ := rj
        have hEw : RelE X.K θ1 H01 (L2.wipe σ vs) (wipeE ρ vs) := hE1.wipe vs
        have few : ∀ {acc : List V} {ys1 ys2 : List D} {θ : List Addr} {H0 : Hp}, RelDs X.K θ H0 acc ys1 → (∃ a, ys = ys1 ++ (a ++ ys2)) → acc.length < sizeLine := fun {acc ys1 ys2 θ H0} r ⟨a, h⟩ => by
          have := congrArg List.length h
          rw [List.length_append] at this
          rw [r.len, sizeLine_eq]
          omega
        refine ⟨fun i m H' => m = xs.length - i ∧ i ≤ xs.length ∧ ∃ θ' H0' M' acc ys' rest, Making X.K θ1 H01 H1 Dl θ' H0' H' M' acc ys' ∧ lcGo it xs (lcStep2 T ft wi1 T1 ft1 fe vs1 (wipeE ρ vs)) (xs.drop i) M' = some (.ok rest M2) ∧ ys = ys' ++ rest,
          ⟨xs.length, by omega, Nat.zero_le _, θ1, H01, M1, [], [], ys, Making.start hR1 hD, hgo, rfl⟩, ?_⟩
        rintro i m H' ⟨rfl, hi, θ', H0', M', acc, ys', rest, mk, hg, hy⟩
        rcases Nat.lt_or_ge i xs.length with hlt | hge
        · have hd : xs.drop i = xs[i] :: xs.drop (i + 1) := List.drop_eq_getElem_cons hlt
          rw [hd] at hg
          unfold lcGo at hg
          split at hg
          · rename_i hit
            obtain ⟨hgo', _⟩ := hstep θ' H0' H' M' xs mk.g.th mk.g.ex0 mk.r hit
            obtain ⟨jgo, jy⟩ := hgo' i hlt
            split at hg
            · rename_i o M3 hst
              split at hg
              · rename_i ys3 M4 hrest
                cases hg
                refine .inr ⟨jgo, fun H2 => ∃ θ2 H02 acc2, Making X.K θ1 H01 H1 Dl θ2 H02 H2 M3 acc2 (ys' ++ o), fun H2 ⟨θ2, H02, acc2, mk2⟩ => ⟨xs.length - (i + 1), by omega, rfl, hlt, θ2, H02, M3, acc2, ys' ++ o, ys3, mk2, hrest, by rw [hy, List.append_assoc]⟩, fun x H2 hx => ?_⟩
                obtain ⟨H02, d, hd1, g2, r2, rd2⟩ := jy x H2 hx
                have ed : d = xs[i] := by
                  rw [List.getElem?_eq_getElem hlt] at hd1
                  exact (Option.some.inj hd1).symm
                subst ed
                have mk2 := mk.step g2 r2
                unfold lcStep2 at hst
                split at hst
                · rename_i ρ' hT
                  refine ⟨θ', H02, wipeE ρ vs, M', xs[i], ρ', r2, hEw.mono mk2.g.th mk2.g.ex0, rd2, hT, fun σ2 hE2 hl2 hj2 => ⟨wipe_wipe hl2 fun j hj => hj2 j fun z => hj (hsl j z), ?_⟩⟩
                  split at hst
                  · rename_i M5 hft
                    split at hst
                    · rename_i it1 M6 hfi
                      split at hst
                      · rename_i xs1 hxs1
                        refine ⟨θ', H02, ρ', M', _, r2, hE2, hft, fun b H3 θ3 H03 g3 r3 hb => ?_⟩
                        subst hb
                        rw [if_pos rfl]
                        have mk3 := mk2.step g3 r3
                        refine ⟨θ3, H03, ρ', M5, _, r3, hE2.mono g3.th g3.ex0, hfi, fun J1 H4 θ4 H04 g4 r4 rj1 => ?_⟩
                        have mk4 := mk3.step g4 r4
                        obtain ⟨_, hstep1⟩ := rj1
                        have hE4 : RelE X.K θ4 H04 (L2.wipe σ2 vs1) (wipeE ρ' vs1) := (hE2.mono (g3.trans g4).th (g3.trans g4).ex0).wipe vs1
                        -- the inner turns
                        refine ⟨fun i1 m1 H' => m1 = xs1.length - i1 ∧ i1 ≤ xs1.length ∧ ∃ θ' H0' M' acc o' rest', Making X.K θ1 H01 H1 Dl θ' H0' H' M' acc (ys' ++ o') ∧ θ4 <+: θ' ∧ Ex H04 H0' ∧ lcGo it1 xs1 (lcStep T1 ft1 fe (wipeE ρ' vs1)) (xs1.drop i1) M' = some (.ok rest' M3) ∧ o = o' ++ rest',
                          ⟨xs1.length, by omega, Nat.zero_le _, θ4, H04, M6, acc, [], o, by rw [List.append_nil]; exact mk4, List.prefix_rfl, Ex.refl _, hst, rfl⟩, ?_⟩
                        rintro i1 m1 H5 ⟨rfl, hi1, θ5, H05, M7, acc5, o', rest', mk5, ht5, he5, hg5, ho⟩
                        rcases Nat.lt_or_ge i1 xs1.length with hlt1 | hge1
                        · have hd1' : xs1.drop i1 = xs1[i1] :: xs1.drop (i1 + 1) := List.drop_eq_getElem_cons hlt1
                          rw [hd1'] at hg5
                          unfold lcGo at hg5
                          split at hg5
                          · rename_i hit1
                            obtain ⟨hgo1, _⟩ := hstep1 θ5 H05 H5 M7 xs1 ht5 he5 mk5.r hit1
                            obtain ⟨jgo1, jy1⟩ := hgo1 i1 hlt1
                            split at hg5
                            · rename_i o1 M8 hst1
                              split at hg5
                              · rename_i ys8 M9 hrest1
                                cases hg5
                                refine .inr ⟨jgo1, fun H6 => ∃ θ6 H06 acc6, Making X.K θ1 H01 H1 Dl θ6 H06 H6 M8 acc6 (ys' ++ (o' ++ o1)) ∧ θ4 <+: θ6 ∧ Ex H04 H06,
                                  fun H6 ⟨θ6, H06, acc6, mk6, ht6, he6⟩ => ⟨xs1.length - (i1 + 1), by omega, rfl, hlt1, θ6, H06, M8, acc6, o' ++ o1, ys8, mk6, ht6, he6, hrest1, by rw [ho, List.append_assoc]⟩, fun x6 H6 hx6 => ?_⟩
                                obtain ⟨H06, d6, hd6, g6, r6, rd6⟩ := jy1 x6 H6 hx6
                                have ed : d6 = xs1[i1] := by
                                  rw [List.getElem?_eq_getElem hlt1] at hd6
                                  exact (Option.some.inj hd6).symm
                                subst ed
                                have mk6 := mk5.step g6 r6
                                unfold lcStep at hst1
                                split at hst1
                                · rename_i ρ6 hT1
                                  refine ⟨θ5, H06, wipeE ρ' vs1, M7, xs1[i1], ρ6, r6, hE4.mono ht5 (he5.trans g6.ex0), rd6, hT1, fun σ6 hE6 hl6 hj6 => ⟨wipe_wipe hl6 fun j hj => hj6 j fun z => hj (hsl1 j z), ?_⟩⟩
                                  split at hst1
                                  · rename_i M10 hft1
                                    split at hst1
                                    · rename_i y M11 hfe
                                      cases hst1
                                      refine ⟨θ5, H06, ρ6, M7, _, r6, hE6, hft1, fun b H7 θ7 H07 g7 r7 hb => ?_⟩
                                      subst hb
                                      rw [if_pos rfl]
                                      have mk7 := mk6.step g7 r7
                                      refine ⟨θ7, H07, ρ6, M10, _, r7, hE6.mono g7.th g7.ex0, hfe, fun v H8 θ8 H08 g8 r8 rv => ?_⟩
                                      have mk8 := mk7.step g8 r8
                                      refine ⟨acc5, mk8.at_, few mk8.rel ⟨[y] ++ ys8, by rw [hy, ho, List.append_assoc, List.append_assoc, List.append_assoc]⟩, θ8, H08, acc5 ++ [v], by rw [← List.append_assoc]; exact mk8.add hD rv, ?_, ?_⟩
                                      · exact ((ht5.trans g6.th).trans g7.th).trans g8.th
                                      · exact ((he5.trans g6.ex0).trans g7.ex0).trans g8.ex0
                                    · cases hst1
                                  · rename_i M10 hft1
                                    cases hst1
                                    refine ⟨θ5, H06, ρ6, M7, _, r6, hE6, hft1, fun b H7 θ7 H07 g7 r7 hb => ?_⟩
                                    subst hb
                                    rw [if_neg Bool.false_ne_true]
                                    have mk7 := mk6.step g7 r7
                                    refine ⟨θ7, H07, acc5, by rw [List.append_nil]; exact mk7, ?_, ?_⟩
                                    · exact (ht5.trans g6.th).trans g7.th
                                    · exact (he5.trans g6.ex0).trans g7.ex0
                                  · cases hst1
                                · cases hst1
                              · cases hg5
                            · cases hg5
                          · cases hg5
                        · have ei1 : i1 = xs1.length := by omega
                          subst ei1
                          rw [List.drop_length] at hg5
                          unfold lcGo at hg5
                          split at hg5
                          · rename_i hit1
                            cases hg5
                            refine .inl ⟨(hstep1 θ5 H05 H5 M3 xs1 ht5 he5 mk5.r hit1).2, θ5, H05, acc5, ?_⟩
                            rw [ho, List.append_nil]
                            exact mk5
                          · cases hg5
                      · cases hst
                    · cases hst
                  · rename_i M5 hft
                    cases hst
                    refine ⟨θ', H02, ρ', M', _, r2, hE2, hft, fun b H3 θ3 H03 g3 r3 hb => ?_⟩
                    subst hb
                    rw [if_neg Bool.false_ne_true]
                    have mk3 := mk2.step g3 r3
                    exact ⟨θ3, H03, acc, by rw [List.append_nil]; exact mk3⟩
                  · cases hst
                · cases hst
              · cases hg
            · cases hg
          · cases hg
        · have ei : i = xs.length := by omega
          subst ei
          rw [List.drop_length] at hg
          unfold lcGo at hg
          split at hg
          · rename_i hit
            cases hg
            refine .inl ⟨(hstep θ' H0' H' M2 xs mk.g.th mk.g.ex0 mk.r hit).2, ?_⟩
            obtain ⟨g, r, rr⟩ := mk.done hD
            rw [List.append_nil] at hy
            subst hy
            exact p _ H' θ' _ g r rr
          · cases hg
      · cases e
    · cases e
  · cases e
/-- [elt for target in iter if ..] -/
theorem de_lc {elt tg iter : Expr} {ifs : List Expr} {scope : Scope} {own : List (Str × Nat)} {wi : Dm ItD} {T : Tg} {sl : List Nat} {ft : Dm Bool} {fe : Dm D} (hc : X.calm = true) (hN : X.N.Nodup) (ok : BlkOk X.N X.env.scope scope own) (hsl : ∀ i, i ∈ sl → i ∈ own.map (·.2)) (hi : Di X W tg iter wi)
    (hg : ∀ (s : Shared) (H : Hp) (C : Addr) (cl : List (Str × Addr)) (fp : List Addr), Dg (X.blk s H scope (compEnvC scope cl C X.env) fp) tg T sl) (ht : ∀ (s : Shared) (H : Hp) (C : Addr) (cl : List (Str × Addr)) (fp : List Addr), Dts (X.blk s H scope (compEnvC scope cl C X.env) fp) W0 ifs ft)
    (he : ∀ (s : Shared) (H : Hp) (C : Addr) (cl : List (Str × Addr)) (fp : List Addr), De (X.blk s H scope (compEnvC scope cl C X.env) fp) W0 elt fe) (hs : ∀ x, foldedSetIterable iter X.env x = pure x := by intro _; rfl) :
    De X W (.ListComp elt [⟨tg, iter, ifs, 0⟩] scope pos) (vLc wi T ft fe (own.map (·.2))) := pe_imp (pe_lc hc hN hi ok hg ht he hs) fun _ _ _ q => lc_of hsl q
theorem de_lc2 {elt tg iter tg1 iter1 : Expr} {ifs ifs1 : List Expr} {scope : Scope} {own : List (Str × Nat)} {vs1 : List Nat} {wi wi1 : Dm ItD} {T T1 : Tg} {sl sl1 : List Nat} {ft ft1 : Dm Bool} {fe : Dm D} (hc : X.calm = true) (hN : X.N.Nodup) (ok : BlkOk X.N X.env.scope scope own) (hv : ∀ i ∈ vs1, i ∈ own.map (·.2)) (hsl : ∀ i, i ∈ sl → i ∈ own.map (·.2)) (hsl1 : ∀ i, i ∈ sl1 → i ∈ vs1)
    (hi : Di X W tg iter wi)
    (hg : ∀ (s : Shared) (H : Hp) (C : Addr) (cl : List (Str × Addr)) (fp : List Addr), Dg (X.blk s H scope (compEnvC scope cl C X.env) fp) tg T sl) (ht : ∀ (s : Shared) (H : Hp) (C : Addr) (cl : List (Str × Addr)) (fp : List Addr), Dts (X.blk s H scope (compEnvC scope cl C X.env) fp) W0 ifs ft)
    (hi1 : ∀ (s : Shared) (H : Hp) (C : Addr) (cl : List (Str × Addr)) (fp : List Addr), Di (X.blk s H scope (compEnvC scope cl C X.env) fp) W0 tg1 iter1 wi1)
    (hg1 : ∀ (s : Shared) (H : Hp) (C : Addr) (cl : List (Str × Addr)) (fp : List Addr), Dg (X.blk s H scope (compEnvC scope cl C X.env) fp) tg1 T1 sl1) (ht1 : ∀ (s : Shared) (H : Hp) (C : Addr) (cl : List (Str × Addr)) (fp : List Addr), Dts (X.blk s H scope (compEnvC scope cl C X.env) fp) W0 ifs1 ft1)
    (he : ∀ (s : Shared) (H : Hp) (C : Addr) (cl : List (Str × Addr)) (fp : List Addr), De (X.blk s H scope (compEnvC scope cl C X.env) fp) W0 elt fe) (hs : ∀ x, foldedSetIterable iter X.env x = pure x := by intro _; rfl) (hs1 : ∀ env x, foldedSetIterable iter1 env x = pure x := by intro _ _; rfl) :
    De X W (.ListComp elt [⟨tg, iter, ifs, 0⟩, ⟨tg1, iter1, ifs1, 0⟩] scope pos) (vLc2 wi T ft wi1 T1 ft1 fe (own.map (·.2)) vs1) :=
  pe_imp (pe_lc2 hc hN hi ok hv hg ht hi1 hg1 ht1 he hs hs1) fun _ _ _ q => lc2_of hsl hsl1 q
end
end DL
end

section
set_option Elab.async false
set_option linter.all false
set_option maxRecDepth 100000
set_option maxHeartbeats 1000000
/-! DL5: statements, loops, defs, calls. -/
namespace DL
open PySem PySem.Spec PyProof.Rows L2
open Evl (Ex)
inductive Fl where
  | nx (ρ : DEnv) | rt (d : D) | bk (ρ : DEnv) | ct (ρ : DEnv) | ex (x : Exn) (ρ : DEnv)
abbrev RS := Option (Fl × DSt)
abbrev Sm := DEnv → DSt → RS
def sb {α : Type} (o : R α) (ρ : DEnv) (k : α → DSt → RS) : RS := match o with
  | some (.ok a M) => k a M
  | some (.ex x M) => some (.ex x ρ, M)
  | none => none
@[simp] theorem sb_ok {α : Type} (a : α) (M : DSt) (ρ : DEnv) (k : α → DSt → RS) : sb (some (.ok a M)) ρ k = k a M := rfl
@[simp] theorem sb_ex {α : Type} (x : Exn) (M : DSt) (ρ : DEnv) (k : α → DSt → RS) : sb (some (.ex x M)) ρ k = some (.ex x ρ, M) := rfl
@[simp] theorem sb_none {α : Type} (ρ : DEnv) (k : α → DSt → RS) : sb none ρ k = none := rfl
def PostS (K : PySem.W.Frag) (mg : Str → Option Value) (W : WX) (θ : List Addr) (H0 H : Hp) (r : Fl × DSt) (E : Ends) : Prop :=
  match r with
  | (.nx ρ', M') => ∀ σ' H' θ' H0', Grow θ θ' H0 H0' H H' → Rep K θ' H0' H' M' → RelE K θ' H0' σ' ρ' → E.nx σ' H'
  | (.bk ρ', M') => ∀ σ' H' θ' H0', Grow θ θ' H0 H0' H H' → Rep K θ' H0' H' M' → RelE K θ' H0' σ' ρ' → E.bk σ' H'
  | (.ct ρ', M') => ∀ σ' H' θ' H0', Grow θ θ' H0 H0' H H' → Rep K θ' H0' H' M' → RelE K θ' H0' σ' ρ' → E.ct σ' H'
  | (.rt d, M') => ∀ v H' θ' H0', Grow θ θ' H0 H0' H H' → Rep K θ' H0' H' M' → RelD K θ' H0' v d → E.rt v H'
  | (.ex x ρ', M') => ∀ cls od σ' H' θ' H0', Grow θ θ' H0 H0' H H' → Rep K θ' H0' H' M' → RelE K θ' H0' σ' ρ' → ExnOk K mg θ' H0' H' x cls od → W cls od σ' H'
def rdS (K : PySem.W.Frag) (mg : Str → Option Value) (W : WX) (f : Sm) : TS := fun E σ H => ∃ θ H0 ρ M r, Rep K θ H0 H M ∧ RelE K θ H0 σ ρ ∧ f ρ M = some r ∧ PostS K mg W θ H0 H r E
abbrev Ds (X : Cx) (W : WX) (st : Stmt) (f : Sm) : Prop := PS X st (rdS X.K X.mg W f)
abbrev Dss (X : Cx) (W : WX) (st : List Stmt) (f : Sm) : Prop := PSs X st (rdS X.K X.mg W f)
section
variable {K : PySem.W.Frag} {mg : Str → Option Value} {W : WX} {θ θ1 : List Addr} {H0 H01 H H1 : Hp} {E : Ends}
theorem PostS.grow {r : Fl × DSt} (g : Grow θ θ1 H0 H01 H H1) (p : PostS K mg W θ H0 H r E) : PostS K mg W θ1 H01 H1 r E := by
  obtain ⟨fl, M⟩ := r
  cases fl with
  | nx ρ => exact fun σ' H' θ' H0' g' => p σ' H' θ' H0' (g.trans g')
  | bk ρ => exact fun σ' H' θ' H0' g' => p σ' H' θ' H0' (g.trans g')
  | ct ρ => exact fun σ' H' θ' H0' g' => p σ' H' θ' H0' (g.trans g')
  | rt d => exact fun σ' H' θ' H0' g' => p σ' H' θ' H0' (g.trans g')
  | ex x ρ => exact fun cls od σ' H' θ' H0' g' => p cls od σ' H' θ' H0' (g.trans g')
/-- an expression ahead of the rest of a statement -/
theorem sOne {α β : Type} {Rl : List Addr → Hp → Hp → β → α → Prop} {σ : L2.St} {f : Dm α} {k : DEnv → α → DSt → RS} {Q1 : β → Hp → Prop} (q : rdS K mg W (fun ρ M => sb (f ρ M) ρ (k ρ)) E σ H)
    (s : ∀ v H1 θ H0 ρ M x r, Rep K θ H0 H1 M → RelE K θ H0 σ ρ → Rl θ H0 H1 v x → k ρ x M = some r → PostS K mg W θ H0 H1 r E → Q1 v H1) : rd K mg W Rl f σ H Q1 := by
  obtain ⟨θ, H0, ρ, M, r, hR, hE, e, p⟩ := q
  dsimp only at e
  cases hf : f ρ M with
  | none => rw [hf] at e; cases e
  | some o =>
    rw [hf] at e
    refine ⟨θ, H0, ρ, M, o, hR, hE, hf, ?_⟩
    cases o with
    | ok a M1 => exact fun v H1 θ1 H01 g r1 rv => s v H1 θ1 H01 ρ M1 a r r1 (hE.mono g.th g.ex0) rv e (p.grow g)
    | ex x M1 =>
      cases e
      exact fun cls od H1 θ1 H01 g r1 rx => p cls od σ H1 θ1 H01 g r1 (hE.mono g.th g.ex0) rx
end
/-! ### statements -/
def sPass : Sm := fun ρ M => some (.nx ρ, M)
def sBrk : Sm := fun ρ M => some (.bk ρ, M)
def sCnt : Sm := fun ρ M => some (.ct ρ, M)
def sSeq (s t : Sm) : Sm := fun ρ M => match s ρ M with
  | some (.nx ρ', M') => t ρ' M'
  | o => o
def sExp (fa : Dm D) : Sm := fun ρ M => sb (fa ρ M) ρ fun _ M1 => some (.nx ρ, M1)
def sRet (fa : Dm D) : Sm := fun ρ M => sb (fa ρ M) ρ fun d M1 => some (.rt d, M1)
def sRetN : Sm := fun _ M => some (.rt .non, M)
def sIf (ft : Dm Bool) (s t : Sm) : Sm := fun ρ M => sb (ft ρ M) ρ fun b M1 => if b = true then s ρ M1 else t ρ M1
def sAsg (fa : Dm D) (T : Tg) : Sm := fun ρ M => sb (fa ρ M) ρ fun d M1 => (T d ρ M1).map fun ρ' => (.nx ρ', M1)
def sPar (i j : Nat) (fs : Dm (List D)) : Sm := fun ρ M => sb (fs ρ M) ρ fun ds M1 => match ds with
  | [x, y] => some (.nx ((ρ.set i (some x)).set j (some y)), M1)
  | _ => none
def sPar3 (i j l : Nat) (fs : Dm (List D)) : Sm := fun ρ M => sb (fs ρ M) ρ fun ds M1 => match ds with
  | [x, y, z] => some (.nx (((ρ.set i (some x)).set j (some y)).set l (some z)), M1)
  | _ => none
def sAug (i : Nat) (g : D → D → DSt → Option D) (fa : Dm D) : Sm := fun ρ M => match ρ[i]? with
  | some (some x) => sb (fa ρ M) ρ fun y M1 => (g x y M1).map fun z => (.nx (ρ.set i (some z)), M1)
  | _ => none
/-- what a loop does with its body's end -/
def nxt (k : DEnv → DSt → RS) : RS → RS
  | some (.nx ρ, M) => k ρ M
  | some (.ct ρ, M) => k ρ M
  | some (.bk ρ, M) => some (.nx ρ, M)
  | some (.rt d, M) => some (.rt d, M)
  | some (.ex x ρ, M) => some (.ex x ρ, M)
  | none => none
theorem nxt_imp {k k' : DEnv → DSt → RS} {o : RS} {r : Fl × DSt} (h : ∀ ρ M, k ρ M = some r → k' ρ M = some r) (e : nxt k o = some r) : nxt k' o = some r := by
  match o, e with
  | some (.nx ρ, M), e => exact h ρ M e
  | some (.ct ρ, M), e => exact h ρ M e
  | some (.bk ρ, M), e => exact e
  | some (.rt d, M), e => exact e
  | some (.ex x ρ, M), e => exact e
theorem nxt_ex {ι : Type} {k : DEnv → DSt → RS} {k' : ι → DEnv → DSt → RS} {o : RS} {r : Fl × DSt} (i0 : ι) (h : ∀ ρ M, k ρ M = some r → ∃ i, k' i ρ M = some r) (e : nxt k o = some r) : ∃ i, nxt (k' i) o = some r := by
  match o, e with
  | some (.nx ρ, M), e => exact h ρ M e
  | some (.ct ρ, M), e => exact h ρ M e
  | some (.bk ρ, M), e => exact ⟨i0, e⟩
  | some (.rt d, M), e => exact ⟨i0, e⟩
  | some (.ex x ρ, M), e => exact ⟨i0, e⟩
open Classical in
noncomputable def forGo (it : ItD) (xs0 : List D) (T : Tg) (body : Sm) : List D → DEnv → DSt → RS
  | [], ρ, M => if it.items M = some xs0 then some (.nx ρ, M) else none
  | x :: xs, ρ, M => if it.items M = some xs0 then (match T x ρ M with
    | some ρ' => nxt (forGo it xs0 T body xs) (body ρ' M)
    | none => none) else none
noncomputable def sFor (fi : Dm ItD) (T : Tg) (body : Sm) : Sm := fun ρ M => sb (fi ρ M) ρ fun it M1 => match it.items M1 with
  | some xs => forGo it xs T body xs ρ M1
  | none => none
def whGo (c : Dm Bool) (b : Sm) : Nat → DEnv → DSt → RS
  | 0, _, _ => none
  | n + 1, ρ, M => sb (c ρ M) ρ fun t M1 => if t = true then nxt (whGo c b n) (b ρ M1) else some (.nx ρ, M1)
open Classical in
noncomputable def sWhile (c : Dm Bool) (b : Sm) : Sm := fun ρ M => if h : ∃ n, (whGo c b n ρ M).isSome = true then whGo c b h.choose ρ M else none
/-- the first part is the same, so is the whole -/
theorem sb_imp {α : Type} {o : R α} {ρ : DEnv} {k k' : α → DSt → RS} {r : Fl × DSt} (h : ∀ a M, k a M = some r → k' a M = some r) (e : sb o ρ k = some r) : sb o ρ k' = some r := by
  match o, e with
  | some (.ok a M), e => exact h a M e
  | some (.ex x M), e => exact e
theorem sb_ex' {α ι : Type} {o : R α} {ρ : DEnv} {k : α → DSt → RS} {k' : ι → α → DSt → RS} {r : Fl × DSt} (i0 : ι) (h : ∀ a M, k a M = some r → ∃ i, k' i a M = some r) (e : sb o ρ k = some r) : ∃ i, sb o ρ (k' i) = some r := by
  match o, e with
  | some (.ok a M), e => exact h a M e
  | some (.ex x M), e => exact ⟨i0, e⟩
theorem whGo_more {c : Dm Bool} {b : Sm} : ∀ {n m : Nat} {ρ : DEnv} {M : DSt} {r : Fl × DSt}, whGo c b n ρ M = some r → n ≤ m → whGo c b m ρ M = some r
  | 0, _, _, _, _, h, _ => by cases h
  | n + 1, 0, _, _, _, _, hm => absurd hm (Nat.not_succ_le_zero n)
  | n + 1, m + 1, ρ, M, r, h, hm => by
    unfold whGo at h ⊢
    refine sb_imp (fun t M1 e => ?_) h
    by_cases ht : t = true
    · rw [if_pos ht] at e ⊢
      exact nxt_imp (fun ρ2 M2 z => whGo_more z (Nat.le_of_succ_le_succ hm)) e
    · rw [if_neg ht] at e ⊢
      exact e
theorem sWhile_of {c : Dm Bool} {b : Sm} {n : Nat} {ρ : DEnv} {M : DSt} {r : Fl × DSt} (h : whGo c b n ρ M = some r) : sWhile c b ρ M = some r := by
  have hx : ∃ n, (whGo c b n ρ M).isSome = true := ⟨n, by rw [h]; rfl⟩
  unfold sWhile
  rw [dif_pos hx]
  obtain ⟨r', hr'⟩ := Option.isSome_iff_exists.mp hx.choose_spec
  rw [hr']
  have a := whGo_more hr' (Nat.le_max_left hx.choose n)
  have b := whGo_more h (Nat.le_max_right hx.choose n)
  rw [a] at b
  exact b
theorem sWhile_ex {c : Dm Bool} {b : Sm} {ρ : DEnv} {M : DSt} {r : Fl × DSt} (h : sWhile c b ρ M = some r) : ∃ n, whGo c b n ρ M = some r := by
  unfold sWhile at h
  split at h
  · rename_i hx
    exact ⟨_, h⟩
  · cases h
theorem sWhile_eq (c : Dm Bool) (b : Sm) (ρ : DEnv) (M : DSt) : sWhile c b ρ M = sb (c ρ M) ρ fun t M1 => if t = true then nxt (sWhile c b) (b ρ M1) else some (.nx ρ, M1) := by
  refine Option.ext fun r => ⟨fun h => ?_, fun h => ?_⟩
  · obtain ⟨n, hn⟩ := sWhile_ex h
    cases n with
    | zero => cases hn
    | succ n =>
      refine sb_imp (fun t M1 e => ?_) hn
      by_cases ht : t = true
      · rw [if_pos ht] at e ⊢
        exact nxt_imp (fun ρ2 M2 z => sWhile_of z) e
      · rw [if_neg ht] at e ⊢
        exact e
  · obtain ⟨n, hn⟩ := sb_ex' (k' := fun n t M1 => if t = true then nxt (whGo c b n) (b ρ M1) else some (.nx ρ, M1)) 0 (fun t M1 e => by
      by_cases ht : t = true
      · simp only [if_pos ht] at e ⊢
        exact nxt_ex (0 : Nat) (fun ρ2 M2 z => sWhile_ex z) e
      · simp only [if_neg ht] at e ⊢
        exact ⟨0, e⟩) h
    exact sWhile_of (n := n + 1) hn
section
variable {X : Cx} {W : WX} {st : Stmt} {rest sts a b : List Stmt} {e c : Expr} {fa : Dm D} {ft : Dm Bool} {fs : Dm (List D)} {s t : Sm} {pos : Pos} {k : Nat}
theorem dss_nil : Dss X W [] sPass := pss_imp pss_nil fun E σ H ⟨θ, H0, ρ, M, r, hR, hE, e, p⟩ => by
  cases e
  exact p σ H θ H0 (Grow.refl ..) hR hE
theorem dss_cons (h1 : Ds X W st s) (h2 : Dss X W rest t) : Dss X W (st :: rest) (sSeq s t) := pss_imp (pss_cons h1 h2) fun E σ H ⟨θ, H0, ρ, M, r, hR, hE, e, p⟩ => by
  unfold sSeq at e
  cases hs : s ρ M with
  | none => rw [hs] at e; cases e
  | some o =>
    rw [hs] at e
    refine ⟨θ, H0, ρ, M, o, hR, hE, hs, ?_⟩
    obtain ⟨fl, M1⟩ := o
    cases fl with
    | nx ρ' => exact fun σ' H' θ' H0' g r1 rE => ⟨θ', H0', ρ', M1, r, r1, rE, e, p.grow g⟩
    | bk ρ' => cases e; exact p
    | ct ρ' => cases e; exact p
    | rt d => cases e; exact p
    | ex x ρ' => cases e; exact p
theorem dss_one (h : Ds X W st s) : Dss X W [st] s := pss_one h
theorem ds_pass : Ds X W (.Pass pos) sPass := ps_imp ps_pass fun E σ H ⟨θ, H0, ρ, M, r, hR, hE, e, p⟩ => by
  cases e
  exact p σ H θ H0 (Grow.refl ..) hR hE
theorem ds_brk : Ds X W (.Break pos) sBrk := ps_imp ps_break fun E σ H ⟨θ, H0, ρ, M, r, hR, hE, e, p⟩ => by
  cases e
  exact p σ H θ H0 (Grow.refl ..) hR hE
theorem ds_cnt : Ds X W (.Continue pos) sCnt := ps_imp ps_continue fun E σ H ⟨θ, H0, ρ, M, r, hR, hE, e, p⟩ => by
  cases e
  exact p σ H θ H0 (Grow.refl ..) hR hE
theorem ds_exp (h : De X W e fa) (hs : swapsWith e none pos.line X.env = pure false := by rfl) : Ds X W (.Expr e pos) (sExp fa) := ps_imp (ps_expr h hs) fun E σ H q => by
  refine sOne (Rl := RlV X.K) q fun v H1 θ H0 ρ M x r hR hE rv e p => ?_
  cases e
  exact p σ H1 θ H0 (Grow.refl ..) hR hE
theorem ds_ret (h : De X W e fa) : Ds X W (.Return (some e) pos) (sRet fa) := ps_imp (ps_ret h) fun E σ H q => by
  refine sOne (Rl := RlV X.K) q fun v H1 θ H0 ρ M x r hR hE rv e p => ?_
  cases e
  exact p v H1 θ H0 (Grow.refl ..) hR rv
theorem ds_retN : Ds X W (.Return none pos) sRetN := ps_imp ps_retN fun E σ H ⟨θ, H0, ρ, M, r, hR, hE, e, p⟩ => by
  cases e
  exact p .non H θ H0 (Grow.refl ..) hR .non
theorem ds_if (hc : Dt X W c ft) (ha : Dss X W a s) (hb : Dss X W b t) : Ds X W (.If c a b pos) (sIf ft s t) := ps_imp (ps_if hc ha hb) fun E σ H q => by
  refine sOne (Rl := RlB) q fun v H1 θ H0 ρ M x r hR hE rv e p => ?_
  cases rv
  cases v with
  | true =>
    rw [if_pos rfl] at e ⊢
    exact ⟨θ, H0, ρ, M, r, hR, hE, e, p⟩
  | false =>
    rw [if_neg Bool.false_ne_true] at e ⊢
    exact ⟨θ, H0, ρ, M, r, hR, hE, e, p⟩
theorem asg_of {T : Tg} {sl : List Nat} {E : Ends} {σ : L2.St} {H : Hp} (q : rdS X.K X.mg W (sAsg fa T) E σ H) : tAsg (rd X.K X.mg W (RlV X.K) fa) (rdG X.K T sl) E σ H := by
  refine sOne (Rl := RlV X.K) q fun v H1 θ H0 ρ M x r hR hE rv e p => ?_
  cases hT : T x ρ M with
  | none => rw [hT] at e; cases e
  | some ρ' =>
    rw [hT] at e
    cases e
    exact ⟨θ, H0, ρ, M, x, ρ', hR, hE, rv, hT, fun σ' hE' _ _ => p σ' H1 θ H0 (Grow.refl ..) hR hE'⟩
theorem ds_asg {tg : Expr} {T : Tg} {sl : List Nat} (he : De X W e fa) (hg : Dg X tg T sl) (hs : swapsWithSole [tg] e pos.line X.env = pure false := by rfl) (hw : swappedStores [tg] e X.env = pure none := by rfl)
    (h1 : (assignEach [tg] X.env).map (·.2) = [assign tg X.env] := by rfl) : Ds X W (.Assign [tg] e pos) (sAsg fa T) := ps_imp (ps_asg he hg hs hw h1) fun _ _ _ q => asg_of q
theorem set_of {i : Nat} {E : Ends} {σ : L2.St} {H : Hp} {te : TE} (h : ∀ Q, rd X.K X.mg W (RlV X.K) fa σ H Q → te σ H Q) (q : rdS X.K X.mg W (sAsg fa (gN i)) E σ H) : tAsg te (gName i) E σ H := by
  refine h _ (sOne (Rl := RlV X.K) q fun v H1 θ H0 ρ M x r hR hE rv e p => ?_)
  cases e
  exact p _ H1 θ H0 (Grow.refl ..) hR (hE.set i rv)
theorem ds_set {i : Nat} {x : Str} {pos' : Pos} (he : De X W e fa) (hN : X.N.Nodup) (hi : X.N[i]? = some x := by rfl) (hx : Loc X.env.scope x := by first | exact Or.inl rfl | exact Or.inr rfl) (hs : swapsWith e (some (.Name x pos')) pos.line X.env = pure false := by rfl)
    (hf : X.fn x = true ∨ X.env.scope.names.lookup x = some .local := by first | exact .inl rfl | exact .inr rfl) : Ds X W (.Assign [.Name x pos'] e pos) (sAsg fa (gN i)) :=
  ps_imp (ps_set hN hi hx he hs hf) fun _ _ _ q => set_of (fun _ q => q) q
theorem ds_par3 {i j l : Nat} {x y z : Str} {a b c : Expr} {px py pz pt : Pos} {kt k2 pt2} (hc : X.calm = true) (hN : X.N.Nodup) (ha : Da X W [a, b, c] fs) (hij : i ≠ j := by decide) (hil : i ≠ l := by decide) (hjl : j ≠ l := by decide) (hi : X.N[i]? = some x := by rfl) (hj : X.N[j]? = some y := by rfl) (hl : X.N[l]? = some z := by rfl)
    (hx : X.env.scope.names.lookup x = some .local := by rfl) (hy : X.env.scope.names.lookup y = some .local := by rfl) (hz : X.env.scope.names.lookup z = some .local := by rfl)
    (hw : swappedStores [.Tuple [.Name x px, .Name y py, .Name z pz] kt pt] (.Tuple [a, b, c] k2 pt2) X.env = pure (some [x, y, z]) := by rfl)
    (hs : swapsWithSole [.Tuple [.Name x px, .Name y py, .Name z pz] kt pt] (.Tuple [a, b, c] k2 pt2) pos.line X.env = pure false := by rfl) : Ds X W (.Assign [.Tuple [.Name x px, .Name y py, .Name z pz] kt pt] (.Tuple [a, b, c] k2 pt2) pos) (sPar3 i j l fs) :=
  ps_imp (ps_par3 hc hN hi hj hl hij hil hjl hx hy hz ha hw hs) fun E σ H q => by
    refine sOne (Rl := RlVs X.K) q fun v H1 θ H0 ρ M x r hR hE rv e p => ?_
    cases rv with
    | nil => cases e
    | cons r1 rv =>
      cases rv with
      | nil => cases e
      | cons r2 rv =>
        cases rv with
        | nil => cases e
        | cons r3 rv =>
          cases rv with
          | nil =>
            cases e
            exact ⟨_, _, _, rfl, p _ H1 θ H0 (Grow.refl ..) hR (((hE.set i r1).set j r2).set l r3)⟩
          | cons _ _ => cases e
theorem ds_par {i j : Nat} {x y : Str} {a b : Expr} {px py pt : Pos} {kt k2 pt2} (hc : X.calm = true) (hN : X.N.Nodup) (ha : Da X W [a, b] fs) (hij : i ≠ j := by decide) (hi : X.N[i]? = some x := by rfl) (hj : X.N[j]? = some y := by rfl)
    (hx : X.env.scope.names.lookup x = some .local := by rfl) (hy : X.env.scope.names.lookup y = some .local := by rfl) (hw : swappedStores [.Tuple [.Name x px, .Name y py] kt pt] (.Tuple [a, b] k2 pt2) X.env = pure (some [x, y]) := by rfl)
    (hs : swapsWithSole [.Tuple [.Name x px, .Name y py] kt pt] (.Tuple [a, b] k2 pt2) pos.line X.env = pure false := by rfl) : Ds X W (.Assign [.Tuple [.Name x px, .Name y py] kt pt] (.Tuple [a, b] k2 pt2) pos) (sPar i j fs) :=
  ps_imp (ps_par hc hN hi hj hij hx hy ha hw hs) fun E σ H q => by
    refine sOne (Rl := RlVs X.K) q fun v H1 θ H0 ρ M x r hR hE rv e p => ?_
    cases rv with
    | nil => cases e
    | cons r1 rv =>
      cases rv with
      | nil => cases e
      | cons r2 rv =>
        cases rv with
        | nil =>
          cases e
          exact ⟨_, _, rfl, p _ H1 θ H0 (Grow.refl ..) hR ((hE.set i r1).set j r2)⟩
        | cons _ _ => cases e

/-- name op= e -/
theorem ds_aug {i : Nat} {x : Str} {op : Operator} {pos' : Pos} {g : D → D → DSt → Option D} (ho : OpR X (inplaceOp op) (rdOp X.K g)) (he : De X W e fa) (hN : X.N.Nodup) (hi : X.N[i]? = some x := by rfl) (hx : Loc X.env.scope x := by first | exact Or.inl rfl | exact Or.inr rfl)
    (hf : X.fn x = true ∨ X.env.scope.names.lookup x = some .local := by first | exact .inl rfl | exact .inr rfl) : Ds X W (.AugAssign (.Name x pos') op e pos) (sAug i g fa) :=
  ps_imp (ps_aug (ti := rdOp X.K g) hN hi hx he (fun pins s σ H x y v u Q I rx ry q => ho pins s σ H x y v u Q I rx ry q) hf) fun E σ H ⟨θ, H0, ρ, M, r, hR, hE, e, p⟩ => by
    unfold sAug at e
    split at e
    · rename_i d hd
      obtain ⟨v, hv, rv⟩ := hE.2 i d hd
      refine ⟨v, hv, ?_⟩
      have q : rdS X.K X.mg W (fun ρ' M' => sb (fa ρ' M') ρ' fun y M1 => (g d y M1).map fun z => (Fl.nx (ρ'.set i (some z)), M1)) E σ H := ⟨θ, H0, ρ, M, r, hR, hE, e, p⟩
      refine ⟨θ, H0, ρ, M, ?_⟩
      cases hf : fa ρ M with
      | none => rw [hf] at e; cases e
      | some o =>
        rw [hf] at e
        refine ⟨o, hR, hE, rfl, ?_⟩
        cases o with
        | ok y M1 =>
          intro w H1 θ1 H01 g1 r1 rw1
          cases hg : g d y M1 with
          | none =>
            simp only [sb_ok, hg] at e
            cases e
          | some z =>
            simp only [sb_ok, hg] at e
            cases e
            refine ⟨θ1, H01, M1, d, y, z, r1, rv.mono g1.th g1.ex0, rw1, hg, fun zv H2 H02 g2 r2 rz => ?_⟩
            exact p _ H2 θ1 H02 (g1.trans g2) r2 ((hE.mono (g1.trans g2).th (g1.trans g2).ex0).set i rz)
        | ex x M1 =>
          cases e
          exact fun cls od H1 θ1 H01 g1 r1 rx => p cls od σ H1 θ1 H01 g1 r1 (hE.mono g1.th g1.ex0) rx
    · cases e
/-- a loop's body -/
theorem nxt_post {k' : DEnv → DSt → RS} {f : Sm} {E : Ends} {N : L2.St → Hp → Prop} {θ : List Addr} {H0 H : Hp} {ρ : DEnv} {M : DSt} {r : Fl × DSt} {σ : L2.St} (hR : Rep X.K θ H0 H M) (hE : RelE X.K θ H0 σ ρ) (e : nxt k' (f ρ M) = some r) (p : PostS X.K X.mg W θ H0 H r E)
    (hN : ∀ ρ' M' σ' H' θ' H0', k' ρ' M' = some r → Grow θ θ' H0 H0' H H' → Rep X.K θ' H0' H' M' → RelE X.K θ' H0' σ' ρ' → N σ' H') : rdS X.K X.mg W f { E with nx := N, ct := N, bk := E.nx } σ H := by
  cases hf : f ρ M with
  | none => rw [hf] at e; cases e
  | some o =>
    rw [hf] at e
    refine ⟨θ, H0, ρ, M, o, hR, hE, hf, ?_⟩
    obtain ⟨fl, M1⟩ := o
    cases fl with
    | nx ρ' => exact fun σ' H' θ' H0' g r1 rE => hN ρ' M1 σ' H' θ' H0' e g r1 rE
    | ct ρ' => exact fun σ' H' θ' H0' g r1 rE => hN ρ' M1 σ' H' θ' H0' e g r1 rE
    | bk ρ' => cases e; exact p
    | rt d => cases e; exact p
    | ex x ρ' => cases e; exact p
theorem ds_while {body : List Stmt} (hp : PassesOwn (model X.prog X.w) X.A X.env X.xe) (hc : Dt X W c ft) (hb : Dss X W body s) : Ds X W (.While c body [] pos) (sWhile ft s) := ps_imp (ps_while hp hc hb) fun E σ H ⟨θ, H0, ρ, M, r, hR, hE, e, p⟩ => by
  obtain ⟨n, hn⟩ := sWhile_ex e
  refine ⟨fun m σ' H' => rdS X.K X.mg W (whGo ft s m) E σ' H', ⟨n, θ, H0, ρ, M, r, hR, hE, hn, p⟩, fun m σ1 H1 q => ?_⟩
  cases m with
  | zero =>
    obtain ⟨_, _, _, _, _, _, _, e1, _⟩ := q
    cases e1
  | succ m =>
    refine sOne (Rl := RlB) (k := fun ρ t M1 => if t = true then nxt (whGo ft s m) (s ρ M1) else some (.nx ρ, M1)) (f := ft) (E := E) q fun b H2 θ2 H02 ρ2 M2 t r2 hR2 hE2 rb e2 p2 => ?_
    cases rb
    cases b with
    | true =>
      rw [if_pos rfl] at e2 ⊢
      refine ⟨fun σ' H' => rdS X.K X.mg W (whGo ft s m) E σ' H', fun σ' H' z => ⟨m, Nat.lt_succ_self m, z⟩, ?_⟩
      exact nxt_post hR2 hE2 e2 p2 fun ρ' M' σ' H' θ' H0' ek g r1 rE => ⟨θ', H0', ρ', M', r2, r1, rE, ek, p2.grow g⟩
    | false =>
      rw [if_neg Bool.false_ne_true] at e2 ⊢
      cases e2
      exact p2 σ1 H2 θ2 H02 (Grow.refl ..) hR2 hE2
theorem ds_for {tg iter : Expr} {body : List Stmt} {fi : Dm ItD} {T : Tg} {sl : List Nat} (hp : PassesOwn (model X.prog X.w) X.A X.env X.xe) (hcm : X.calm = true) (hi : Di X W tg iter fi) (hg : Dg X tg T sl) (hb : Dss X W body s)
    (hs : ∀ x, foldedSetIterable iter X.env x = pure x := by intro _; rfl) : Ds X W (.For tg iter body [] pos) (sFor fi T s) := ps_imp (ps_for hp hcm hi hg hb hs) fun E σ H q => by
  refine sOne (Rl := RlI X.K) q fun J H1 θ1 H01 ρ1 M1 it r hR1 hE1 rj e p => ?_
  split at e
  · rename_i xs hxs
    obtain ⟨_, hstep⟩ := rj
    refine ⟨fun i m σ' H' => m = xs.length - i ∧ i ≤ xs.length ∧ ∃ θ' H0' ρ' M' r', θ1 <+: θ' ∧ Ex H01 H0' ∧ Rep X.K θ' H0' H' M' ∧ RelE X.K θ' H0' σ' ρ' ∧ forGo it xs T s (xs.drop i) ρ' M' = some r' ∧ PostS X.K X.mg W θ' H0' H' r' E,
      ⟨xs.length, by omega, Nat.zero_le _, θ1, H01, ρ1, M1, r, List.prefix_rfl, Ex.refl _, hR1, hE1, e, p⟩, ?_⟩
    rintro i m σ2 H2 ⟨rfl, hi, θ2, H02, ρ2, M2, r2, ht2, he2, hR2, hE2, hg2, p2⟩
    rcases Nat.lt_or_ge i xs.length with hlt | hge
    · have hd : xs.drop i = xs[i] :: xs.drop (i + 1) := List.drop_eq_getElem_cons hlt
      rw [hd] at hg2
      unfold forGo at hg2
      split at hg2
      · rename_i hit
        obtain ⟨hgo', _⟩ := hstep θ2 H02 H2 M2 xs ht2 he2 hR2 hit
        obtain ⟨jgo, jy⟩ := hgo' i hlt
        split at hg2
        · rename_i ρ3 hT
          refine .inr ⟨jgo, fun σ' H' => ∃ θ' H0' ρ' M' r', θ1 <+: θ' ∧ Ex H01 H0' ∧ Rep X.K θ' H0' H' M' ∧ RelE X.K θ' H0' σ' ρ' ∧ forGo it xs T s (xs.drop (i + 1)) ρ' M' = some r' ∧ PostS X.K X.mg W θ' H0' H' r' E,
            fun σ' H' z => ⟨xs.length - (i + 1), by omega, rfl, hlt, z⟩, fun x H3 hx => ?_⟩
          obtain ⟨H03, d, hd1, g3, r3, rd3⟩ := jy x H3 hx
          have ed : d = xs[i] := by
            rw [List.getElem?_eq_getElem hlt] at hd1
            exact (Option.some.inj hd1).symm
          subst ed
          refine ⟨θ2, H03, ρ2, M2, xs[i], ρ3, r3, hE2.mono g3.th g3.ex0, rd3, hT, fun σ3 hE3 _ _ => ?_⟩
          exact nxt_post r3 hE3 hg2 (p2.grow g3) fun ρ' M' σ' H' θ' H0' ek g r1 rE => ⟨θ', H0', ρ', M', r2, (ht2.trans g3.th).trans g.th, (he2.trans g3.ex0).trans g.ex0, r1, rE, ek, (p2.grow g3).grow g⟩
        · cases hg2
      · cases hg2
    · have ei : i = xs.length := by omega
      subst ei
      rw [List.drop_length] at hg2
      unfold forGo at hg2
      split at hg2
      · rename_i hit
        cases hg2
        exact .inl ⟨(hstep θ2 H02 H2 M2 xs ht2 he2 hR2 hit).2, p2 σ2 H2 θ2 H02 (Grow.refl ..) hR2 hE2⟩
      · cases hg2
  · cases e
/-- name = [..] on one line, the name a local one -/
theorem ds_setLc {i : Nat} {y : Str} {py : Pos} {elt tg iter : Expr} {ifs : List Expr} {scope : Scope} {own : List (Str × Nat)} {lpos : Pos} {wi : Dm ItD} {T : Tg} {sl : List Nat} {fe : Dm D} (hc : X.calm = true) (hN : X.N.Nodup) (ok : BlkOk X.N X.env.scope scope own) (hsl : ∀ i, i ∈ sl → i ∈ own.map (·.2))
    (hsw : swapsWith (.ListComp elt [⟨tg, iter, ifs, 0⟩] scope lpos) (some (.Name y py)) pos.line X.env = pure true) (hi : Di X W tg iter wi)
    (hg : ∀ (s : Shared) (H : Hp) (C : Addr) (cl : List (Str × Addr)) (fp : List Addr), Dg (X.blk s H scope (compEnvC scope cl C X.env) fp) tg T sl) (ht : ∀ (s : Shared) (H : Hp) (C : Addr) (cl : List (Str × Addr)) (fp : List Addr), Dts (X.blk s H scope (compEnvC scope cl C X.env) fp) W0 ifs ft)
    (he : ∀ (s : Shared) (H : Hp) (C : Addr) (cl : List (Str × Addr)) (fp : List Addr), De (X.blk s H scope (compEnvC scope cl C X.env) fp) W0 elt fe) (hy : X.N[i]? = some y := by rfl) (hyl : X.env.scope.names.lookup y = some .local := by rfl) (hs : ∀ x, foldedSetIterable iter X.env x = pure x := by intro _; rfl) :
    Ds X W (.Assign [.Name y py] (.ListComp elt [⟨tg, iter, ifs, 0⟩] scope lpos) pos) (sAsg (vLc wi T ft fe (own.map (·.2))) (gN i)) :=
  ps_imp (ps_setLc hc hN hy hyl hsw hi ok hg ht he hs) fun _ _ _ q => set_of (fun _ q => lc_of hsl q) q
theorem ds_setLc2 {i : Nat} {y : Str} {py : Pos} {elt tg iter tg1 iter1 : Expr} {ifs ifs1 : List Expr} {scope : Scope} {own : List (Str × Nat)} {vs1 : List Nat} {lpos : Pos} {wi wi1 : Dm ItD} {T T1 : Tg} {sl sl1 : List Nat} {ft1 : Dm Bool} {fe : Dm D} (hc : X.calm = true) (hN : X.N.Nodup) (ok : BlkOk X.N X.env.scope scope own)
    (hv : ∀ i ∈ vs1, i ∈ own.map (·.2)) (hsl : ∀ i, i ∈ sl → i ∈ own.map (·.2)) (hsl1 : ∀ i, i ∈ sl1 → i ∈ vs1)
    (hsw : swapsWith (.ListComp elt [⟨tg, iter, ifs, 0⟩, ⟨tg1, iter1, ifs1, 0⟩] scope lpos) (some (.Name y py)) pos.line X.env = pure true) (hi : Di X W tg iter wi)
    (hg : ∀ (s : Shared) (H : Hp) (C : Addr) (cl : List (Str × Addr)) (fp : List Addr), Dg (X.blk s H scope (compEnvC scope cl C X.env) fp) tg T sl) (ht : ∀ (s : Shared) (H : Hp) (C : Addr) (cl : List (Str × Addr)) (fp : List Addr), Dts (X.blk s H scope (compEnvC scope cl C X.env) fp) W0 ifs ft)
    (hi1 : ∀ (s : Shared) (H : Hp) (C : Addr) (cl : List (Str × Addr)) (fp : List Addr), Di (X.blk s H scope (compEnvC scope cl C X.env) fp) W0 tg1 iter1 wi1)
    (hg1 : ∀ (s : Shared) (H : Hp) (C : Addr) (cl : List (Str × Addr)) (fp : List Addr), Dg (X.blk s H scope (compEnvC scope cl C X.env) fp) tg1 T1 sl1) (ht1 : ∀ (s : Shared) (H : Hp) (C : Addr) (cl : List (Str × Addr)) (fp : List Addr), Dts (X.blk s H scope (compEnvC scope cl C X.env) fp) W0 ifs1 ft1)
    (he : ∀ (s : Shared) (H : Hp) (C : Addr) (cl : List (Str × Addr)) (fp : List Addr), De (X.blk s H scope (compEnvC scope cl C X.env) fp) W0 elt fe) (hy : X.N[i]? = some y := by rfl) (hyl : X.env.scope.names.lookup y = some .local := by rfl) (hs : ∀ x, foldedSetIterable iter X.env x = pure x := by intro _; rfl) (hs1 : ∀ env x, foldedSetIterable iter1 env x = pure x := by intro _ _; rfl) :
    Ds X W (.Assign [.Name y py] (.ListComp elt [⟨tg, iter, ifs, 0⟩, ⟨tg1, iter1, ifs1, 0⟩] scope lpos) pos) (sAsg (vLc2 wi T ft wi1 T1 ft1 fe (own.map (·.2)) vs1) (gN i)) :=
  ps_imp (ps_setLc2 hc hN hy hyl hsw hi ok hv hg ht hi1 hg1 ht1 he hs hs1) fun _ _ _ q => set_of (fun _ q => lc2_of hsl hsl1 q) q
end
end DL
end

section
set_option Elab.async false
set_option linter.all false
set_option maxRecDepth 100000
set_option maxHeartbeats 1000000
/-! DL6: defs, calls, exceptions. -/
namespace DL
open PySem PySem.Spec PyProof.Rows L2
open Evl (Ex)
/-! ### a def that keeps a promise wherever no object is being shown (repr) -/
structure FnG (P : Program) (w : World) (K : PySem.W.Frag) (mg : Str → Option Value) (base : Heap) (k : Nat) (f : Addr) (fd : FuncData) (ps : List Str) (sp : Sp) : Prop where
  arity : ∀ vs H Q E, sp vs H Q E → vs.length = ps.length
  runs : ∀ (A : Around) (outer : List PySem.Env) (s : Shared) (H : Hp) (args : Args) (us : List Value) (vs : List V) (Q : VK) (E : XK), Room k A → A.guards = some [] → Env0 P w K mg base A outer s H →
    BindsTo s fd args (ps.zip us) → Vals vs us → sp vs H Q E → codeAny (model P w) A (.call (.ref f) args) (CR (L2.CX P w) outer P w H s Q E) s
section
variable {P : Program} {w : World} {K : PySem.W.Frag} {mg : Str → Option Value} {base : Heap}
theorem FnG.weaken {j k : Nat} {f : Addr} {fd : FuncData} {ps : List Str} {sp : Sp} (F : FnG P w K mg base j f fd ps sp) (h : j ≤ k) : FnG P w K mg base k f fd ps sp :=
  ⟨F.arity, fun A outer s H args us vs Q E hr => F.runs A outer s H args us vs Q E (Room.mono hr h)⟩
theorem fng_of {x qual : Str} {st : Stmt} {f : Addr} {fd : FuncData} {N ps : List Str} {k : Nat} {sp : Sp} (F : Fun K x qual st f fd) (S : FnScope N ps (defScope st)) (ar : ∀ vs H Q E, sp vs H Q E → vs.length = ps.length)
    (body : ∀ (cdv : Value) (A : Around) (outer : List PySem.Env) (s : Shared) (H : Hp) (vs : List V) (Q : VK) (E : XK), Room k (A.deeper (envOfC qual (defScope st) s.heap.objs.size f cdv)) → A.guards = some [] → sp vs H Q E →
      ∃ t, PSs (cxOf (L2.CX P w) P w K mg base N qual (defScope st) f cdv A outer s H E) (defBody st) t ∧ t { nx := fun _ H' => Q .non H', rt := Q } (L2.start N vs) H) : FnG P w K mg base (k + 1) f fd ps sp := by
  obtain ⟨oc, od, kV, doc, pm, an, cdv, ct, osl, rfl, lk, hcd⟩ := F.ex
  constructor
  · exact ar
  intro A outer s H args us vs Q E room hg env binds vals want
  have n1 := ar _ _ _ _ want
  have keep : ∀ b o, base.get? b = some o → s.heap.get? b = some o := fun b o z => (env.bs b o z).1
  have inK : K.In s.heap := env.mod.kin.keeps keep
  have noLim : s.heap.NoLimit := env.mod.nolimit.keeps keep
  have kinds : ∀ y ∈ ps.zip us, (defScope st).names.lookup y.1 = some .local ∨
      ((defScope st).names.lookup y.1 = some .cell ∧ ((cellsFrom (s.heap.objs.size + 1) (defScope st).names []).lookup y.1).isSome = true) := by
    rintro ⟨n, v⟩ hy
    cases S.par n (List.of_mem_zip hy).1 with
    | inl q => exact Or.inl q
    | inr q => exact Or.inr ⟨q, PySem.W.cellsFrom_some _ _ _ (Or.inl q)⟩
  refine codeAny_call_function room.depth (inK _ _ lk) rfl S.co S.gen rfl (PySem.W.codeRec_of inK hcd) ?_
  refine binds _ _ _ _ ?_
  refine wpAny_newFunctionEnv_cells S.kind kinds ?_
  intro env1 he s1 c
  subst he
  refine ⟨noLim.keeps c.toInCall.keep, codeAny_func ?_⟩
  obtain ⟨t, walk, met⟩ := body cdv A outer s H vs Q E (room.deeper _) hg want
  have J0 := inv_start (CX := L2.CX P w) (E := E) (qual := qual) (cd := cdv) (f := f) S room.hd env n1 vals c
  refine wpAny_mono (walk.run [] s1 (L2.start N vs) H _ J0 met) ?_ fun _ _ z => z
  intro fl s' post
  cases fl with
  | ret u =>
    obtain ⟨v, σ', H', J, rv, q⟩ := post
    exact ⟨v, H', J.os, J.bare, J.base, J.hok, rv, q⟩
  | next =>
    obtain ⟨σ', H', J, q⟩ := post
    exact ⟨V.non, H', J.os, J.bare, J.base, J.hok, rfl, q⟩
  | brk =>
    obtain ⟨_, _, _, no⟩ := post
    exact no.elim
  | cont =>
    obtain ⟨_, _, _, no⟩ := post
    exact no.elim
end
section
variable {X : Cx} {k : Nat} {f : Addr} {fd : FuncData} {ps : List Str} {sp : Sp} {E : L2.St → XK} {x : Str} {p pos : Pos} {e : Expr} {es : List Expr} {t : TA}
theorem run_g {pins : List (Addr × Obj)} {σ : L2.St} {H : Hp} {s : Shared} {Q : VK} {us : List Value} {vs : List V} (F : FnG X.prog X.w X.K X.mg X.base k f fd ps sp) (hr : Room k X.A) (hg : X.A.guards = some []) (hb : Binds X.K fd ps []) (hx : PassesAt (L2.CX X.prog X.w) X σ (E σ))
    (I : Inv X pins σ H s) (r : Vals vs us) (want : sp vs H Q (E σ)) : wpAny (model X.prog X.w) X.A (call (.ref f) us) (EP X pins σ Q) X.xe s := by
  have n1 : us.length = ps.length := r.length.symm.trans (F.arity _ _ _ _ want)
  have b : BindsTo s fd ⟨us, []⟩ (ps.zip us) := by
    have b := hb s us I.kIn (by rw [List.append_nil]; exact n1)
    rwa [List.append_nil] at b
  refine wpAny_call (codeAny_mono (F.runs X.A X.stack s H ⟨us, []⟩ us vs Q (E σ) hr hg I.env0 b r want) ?_)
  rintro (e | (_ | _ | _ | u)) s' post
  · exact hx pins H s e s' I post
  · exact (post : False).elim
  · exact (post : False).elim
  · exact (post : False).elim
  · exact I.after post
theorem pe_g (F : FnG X.prog X.w X.K X.mg X.base k f fd ps sp) (hr : Room k X.A) (hgd : X.A.guards = some []) (hg : Gl X x) (hm : X.mg x = some (.ref f)) (hk : PySem.W.keepIn X.K (.ref f) = true) (hb : Binds X.K fd ps []) (hx : ∀ σ, PassesAt (L2.CX X.prog X.w) X σ (E σ))
    (ha : PA X (e :: es) t) (hdb : (x == ("__debug__" : Str)) = false := by decide) (he : starEach (e :: es) X.env = (false, eval e X.env) :: starEach es X.env := by rfl) (hpl : (backTo pos (starEach es X.env)).any (·.1) = false := by rfl) :
    PE X (.Call (.Name x p) (e :: es) [] pos) (tCallS sp E t) := by
  constructor
  intro pins s σ H Q I want
  refine wpAny_Call_Name_kw (ld_glob I hg hm ?_ hdb)
  refine PySem.W.callWith_K (h₀ := X.base) I.ok.mod.kin hk ?_ he hpl
  refine thn (ha.run pos pins s σ H _ I want) ?_
  rintro us s1 ⟨vs, H1, I1, r, q⟩
  exact ⟨I1.kIn, run_g F hr hgd hb (hx σ) I1 r q⟩
theorem pe_g0 (F : FnG X.prog X.w X.K X.mg X.base k f fd ps sp) (hr : Room k X.A) (hgd : X.A.guards = some []) (hg : Gl X x) (hm : X.mg x = some (.ref f)) (hk : PySem.W.keepIn X.K (.ref f) = true) (hb : Binds X.K fd ps []) (hx : ∀ σ, PassesAt (L2.CX X.prog X.w) X σ (E σ))
    (hdb : (x == ("__debug__" : Str)) = false := by decide) : PE X (.Call (.Name x p) [] [] pos) (tCallS sp E tNil) := by
  constructor
  intro pins s σ H Q I want
  refine wpAny_Call_Name_kw (ld_glob I hg hm ?_ hdb)
  exact PySem.W.callWith_K0 I.kIn hk (run_g (us := []) F hr hgd hb (hx σ) I .nil want)
end
/-! ### what a def hands back: its own objects are frozen -/
mutual
def frzD (g : Nat → Option D) : D → Option D
  | .tup xs => (frzDs g xs).map .tup
  | .lst xs => (frzDs g xs).map .lst
  | .rol xs => (frzDs g xs).map .rol
  | .loc l => g l
  | .non => some .non
  | .bl b => some (.bl b)
  | .int i => some (.int i)
  | .str s => some (.str s)
def frzDs (g : Nat → Option D) : List D → Option (List D)
  | [] => some []
  | d :: ds => match frzD g d, frzDs g ds with
    | some x, some xs => some (x :: xs)
    | _, _ => none
end
def frzL (n : Nat) (M : DSt) : Nat → Nat → Option D
  | 0, l => if l < n then some (.loc l) else none
  | k + 1, l => if l < n then some (.loc l) else match M[l]? with
    | some (.lst xs) => (frzDs (frzL n M k) xs).map .lst
    | none => none
def frzM (n : Nat) (M : DSt) : List MO → Option (List MO)
  | [] => some []
  | .lst xs :: ms => match frzDs (frzL n M 4) xs, frzM n M ms with
    | some ys, some ns => some (.lst ys :: ns)
    | _, _ => none
/-- the heap H0 with the objects from the n-th on as they stand -/
def frzH (n : Nat) (θ : List Addr) (H0 H : Hp) : Hp := fun a => if a ∈ θ.drop n then H a else H0 a
section
variable {K : PySem.W.Frag} {θ : List Addr} {H0 H : Hp} {M : DSt} {n : Nat}
theorem frzH_in {a : Addr} (h : a ∈ θ.drop n) : frzH n θ H0 H a = H a := if_pos h
theorem frzH_out {a : Addr} (h : a ∉ θ.drop n) : frzH n θ H0 H a = H0 a := if_neg h
theorem Rep.frz_ex (r : Rep K θ H0 H M) : Ex H0 (frzH n θ H0 H) := fun a o e => by
  have hn : a ∉ θ.drop n := fun z => by
    have := r.ob a (List.mem_of_mem_drop z)
    rw [e] at this; cases this
  rw [frzH_out hn]
  exact e
theorem Rep.frz_ex2 (r : Rep K θ H0 H M) : Ex (frzH n θ H0 H) H := fun a o e => by
  by_cases h : a ∈ θ.drop n
  · rw [frzH_in h] at e; exact e
  · rw [frzH_out h] at e; exact r.ex a o e
mutual
theorem frz_rel {g : Nat → Option D} (hg : ∀ l a d, θ[l]? = some a → g l = some d → RelD K (θ.take n) (frzH n θ H0 H) (.ref a) d) (r : Rep K θ H0 H M) : ∀ {v : V} {d d' : D}, RelD K θ H0 v d → frzD g d = some d' → RelD K (θ.take n) (frzH n θ H0 H) v d'
  | _, _, _, .non, e => by cases e; exact .non
  | _, _, _, .bl b, e => by cases e; exact .bl b
  | _, _, _, .int i, e => by cases e; exact .int i
  | _, _, _, .str x, e => by cases e; exact .str x
  | _, _, _, .tup h q, e => by
    obtain ⟨ys, e1, rfl⟩ := Option.map_eq_some_iff.mp e
    exact .tup (Evl.ex_t r.frz_ex h) (frz_rels hg r q e1)
  | _, _, _, .lst h q, e => by
    obtain ⟨ys, e1, rfl⟩ := Option.map_eq_some_iff.mp e
    exact .lst (r.frz_ex _ _ h) (frz_rels hg r q e1)
  | _, _, _, .rol h q, e => by
    obtain ⟨ys, e1, rfl⟩ := Option.map_eq_some_iff.mp e
    exact .rol (Evl.ex_l r.frz_ex h) (frz_rels hg r q e1)
  | _, _, d', .loc h, e => hg _ _ _ h e
theorem frz_rels {g : Nat → Option D} (hg : ∀ l a d, θ[l]? = some a → g l = some d → RelD K (θ.take n) (frzH n θ H0 H) (.ref a) d) (r : Rep K θ H0 H M) : ∀ {vs : List V} {ds ds' : List D}, RelDs K θ H0 vs ds → frzDs g ds = some ds' → RelDs K (θ.take n) (frzH n θ H0 H) vs ds'
  | _, _, _, .nil, e => by cases e; exact .nil
  | _, _, _, .cons (d := d) (ds := ds) h q, e => by
    unfold frzDs at e
    cases e1 : frzD g d with
    | none => rw [e1] at e; cases e
    | some x =>
      cases e2 : frzDs g ds with
      | none => rw [e1, e2] at e; cases e
      | some xs =>
        rw [e1, e2] at e
        cases e
        exact .cons (frz_rel hg r h e1) (frz_rels hg r q e2)
end
theorem frzL_rel (r : Rep K θ H0 H M) : ∀ (k : Nat) (l : Nat) (a : Addr) (d : D), θ[l]? = some a → frzL n M k l = some d → RelD K (θ.take n) (frzH n θ H0 H) (.ref a) d
  | 0, l, a, d, h, e => by
    unfold frzL at e
    split at e
    · rename_i hl
      cases e
      exact .loc (by rw [List.getElem?_take_of_lt hl]; exact h)
    · cases e
  | k + 1, l, a, d, h, e => by
    unfold frzL at e
    split at e
    · rename_i hl
      cases e
      exact .loc (by rw [List.getElem?_take_of_lt hl]; exact h)
    · rename_i hl
      split at e
      · rename_i xs hm
        obtain ⟨ys, e1, rfl⟩ := Option.map_eq_some_iff.mp e
        obtain ⟨vs, hv, rv⟩ := r.st l a _ h hm
        have hin : a ∈ θ.drop n := by
          have e3 : (θ.drop n)[l - n]? = some a := by
            rw [List.getElem?_drop, show n + (l - n) = l by omega]
            exact h
          exact List.mem_of_getElem? e3
        exact .lst (by rw [frzH_in hin]; exact hv) (frz_rels (frzL_rel r k) r rv e1)
      · cases e
theorem frzM_get : ∀ {ms ms' : List MO} {l : Nat} {m : MO}, frzM n M ms = some ms' → ms'[l]? = some m → ∃ xs ys, ms[l]? = some (.lst xs) ∧ m = .lst ys ∧ frzDs (frzL n M 4) xs = some ys
  | [], ms', l, m, e, h => by
    cases e
    simp at h
  | .lst xs :: ms, ms', l, m, e, h => by
    unfold frzM at e
    cases e1 : frzDs (frzL n M 4) xs with
    | none => rw [e1] at e; cases e
    | some ys =>
      cases e2 : frzM n M ms with
      | none => rw [e1, e2] at e; cases e
      | some ns =>
        rw [e1, e2] at e
        cases e
        cases l with
        | zero =>
          simp at h
          subst h
          exact ⟨xs, ys, rfl, rfl, e1⟩
        | succ l =>
          obtain ⟨xs', ys', a, b, c⟩ := frzM_get (l := l) e2 (by simpa using h)
          exact ⟨xs', ys', by simpa using a, b, c⟩
theorem frzM_len : ∀ {ms ms' : List MO}, frzM n M ms = some ms' → ms'.length = ms.length
  | [], ms', e => by cases e; rfl
  | .lst xs :: ms, ms', e => by
    unfold frzM at e
    cases e1 : frzDs (frzL n M 4) xs with
    | none => rw [e1] at e; cases e
    | some ys =>
      cases e2 : frzM n M ms with
      | none => rw [e1, e2] at e; cases e
      | some ns =>
        rw [e1, e2] at e
        cases e
        rw [List.length_cons, List.length_cons, frzM_len e2]
/-- all from the n-th on is frozen -/
theorem Rep.frz (r : Rep K θ H0 H M) {Mn : List MO} (e : frzM n M (M.take n) = some Mn) : Rep K (θ.take n) (frzH n θ H0 H) H Mn where
  ex := r.frz_ex2
  nd := r.nd.sublist (List.take_sublist n θ)
  len := by rw [frzM_len e, List.length_take, List.length_take, r.len]
  ob := fun a h => by
    have hn : a ∉ θ.drop n := fun z => by
      have nd := r.nd
      rw [← List.take_append_drop n θ] at nd
      exact (List.nodup_append.mp nd).2.2 a h a z rfl
    rw [frzH_out hn]
    exact r.ob a (List.mem_of_mem_take h)
  st := fun l a m e1 e2 => by
    obtain ⟨xs, ys, h1, rfl, h3⟩ := frzM_get e e2
    have hl : l < n := by
      have := (List.getElem?_eq_some_iff.mp e1).1
      rw [List.length_take] at this
      omega
    rw [List.getElem?_take_of_lt hl] at e1 h1
    obtain ⟨vs, hv, rv⟩ := r.st l a _ e1 h1
    exact ⟨vs, hv, frz_rels (frzL_rel r 4) r rv h3⟩
end
theorem Grow.frz {K : PySem.W.Frag} {θ θ' : List Addr} {H0 H0' H H' : Hp} {M : DSt} (g : Grow θ θ' H0 H0' H H') (r : Rep K θ' H0' H' M) : Grow θ (θ'.take θ.length) H0 (frzH θ.length θ' H0' H') H H' where
  th := by
    obtain ⟨u, rfl⟩ := g.th
    rw [List.take_left']
    · exact List.prefix_rfl
    · rfl
  ex0 := g.ex0.trans r.frz_ex
  fr := g.fr
  there := g.there
  new0 := fun a o e => by
    have hn : a ∉ θ'.drop θ.length := fun z => by
      obtain ⟨u, hu⟩ := g.th
      have hz : a ∈ θ' := List.mem_of_mem_drop z
      by_cases ha : a ∈ θ
      · have nd := r.nd
        rw [← List.take_append_drop θ.length θ'] at nd
        refine (List.nodup_append.mp nd).2.2 a ?_ a z rfl
        rw [← hu, List.take_left' rfl]
        exact ha
      · have := g.newT a hz ha
        rw [e] at this; cases this
    rw [frzH_out hn]
    exact g.new0 a o e
  newT := fun a h n => by
    obtain ⟨u, hu⟩ := g.th
    rw [← hu, List.take_left' rfl] at h
    exact absurd h n
def XrOk (x : Exn) : Bool := D.unders 0 (x.fields.map (·.2))
/-- a def's meaning: np parameters, N names; its own objects are frozen at its end -/
def defSem (np N : Nat) (body : Sm) : List D → DSt → R D := fun ds M => if ds.length = np then (match body (ds.map some ++ List.replicate (N - ds.length) none) M with
  | some (.rt d, M') => (match frzD (frzL M.length M' 4) d, frzM M.length M' (M'.take M.length) with
    | some d', some Mn => some (.ok d' Mn)
    | _, _ => none)
  | some (.nx _, M') => (match frzM M.length M' (M'.take M.length) with
    | some Mn => some (.ok .non Mn)
    | _ => none)
  | some (.ex x _, M') => (match frzM M.length M' (M'.take M.length) with
    | some Mn => if XrOk x = true then some (.ex x Mn) else none
    | _ => none)
  | _ => none) else none
/-- .. that hands its own objects on -/
def defSemS (np N : Nat) (body : Sm) : List D → DSt → R D := fun ds M => if ds.length = np then (match body (ds.map some ++ List.replicate (N - ds.length) none) M with
  | some (.rt d, M') => some (.ok d M')
  | some (.nx _, M') => some (.ok .non M')
  | some (.ex x _, M') => if XrOk x = true then some (.ex x M') else none
  | _ => none) else none
def spD (K : PySem.W.Frag) (mg : Str → Option Value) (np : Nat) (φ : List D → DSt → R D) : Sp := fun vs H Q E => vs.length = np ∧ ∃ θ H0 M ds r, Rep K θ H0 H M ∧ RelDs K θ H0 vs ds ∧ φ ds M = some r ∧ Post K mg (fun cls od _ H' => E cls od H') [] (RlV K) θ H0 H r Q
theorem relFs_take {K : PySem.W.Frag} {θ : List Addr} {H : Hp} {n : Nat} : ∀ {fs : List (Str × V)} {gs : List (Str × D)}, RelFs K θ H fs gs → D.unders 0 (gs.map (·.2)) = true → RelFs K (θ.take n) H fs gs
  | [], [], _, _ => trivial
  | (x, v) :: fs, (y, d) :: gs, h, p => by
    have p' := Bool.and_eq_true_iff.mp p
    have r0 := h.2.1.under 0 p'.1
    rw [List.take_zero] at r0
    exact ⟨h.1, r0.mono (List.nil_prefix) (Ex.refl H), relFs_take h.2.2 p'.2⟩
  | [], _ :: _, h, _ => h.elim
  | _ :: _, [], h, _ => h.elim
theorem relFs_mono {K : PySem.W.Frag} {θ θ' : List Addr} {H H' : Hp} (t : θ <+: θ') (e : Ex H H') : ∀ {fs : List (Str × V)} {gs : List (Str × D)}, RelFs K θ H fs gs → RelFs K θ' H' fs gs
  | [], [], _ => trivial
  | (x, v) :: fs, (y, d) :: gs, h => ⟨h.1, h.2.1.mono t e, relFs_mono t e h.2.2⟩
  | [], _ :: _, h => h.elim
  | _ :: _, [], h => h.elim
theorem start_rel {K : PySem.W.Frag} {θ : List Addr} {H : Hp} {vs : List V} {ds : List D} (r : RelDs K θ H vs ds) (N : List Str) (n : Nat) (hn : N.length = n) : RelE K θ H (L2.start N vs) (ds.map some ++ List.replicate (n - ds.length) none) := by
  subst hn
  refine ⟨?_, fun i d e => ?_⟩
  · unfold L2.start
    rw [List.length_append, List.length_append, List.length_map, List.length_map, List.length_replicate, List.length_replicate, r.len]
  · unfold L2.start
    by_cases hi : i < ds.length
    · rw [List.getElem?_append_left (by simpa using hi), List.getElem?_map] at e
      cases hd : ds[i]? with
      | none => rw [hd] at e; cases e
      | some d' =>
        rw [hd] at e
        cases e
        obtain ⟨v, hv, rv⟩ := r.get hd
        refine ⟨v, ?_, rv⟩
        rw [List.getElem?_append_left (by rw [List.length_map, r.len]; exact hi), List.getElem?_map, hv]
        rfl
    · rw [List.getElem?_append_right (by simpa using hi), List.getElem?_replicate] at e
      split at e <;> cases e
section
variable {P : Program} {w : World} {K : PySem.W.Frag} {mg : Str → Option Value} {base : Heap}
theorem good_def {N : List Str} {qual : Str} {scope : Scope} {f : Addr} {cd : Value} {A : Around} {outer : List PySem.Env} {s : Shared} {H : Hp} {E : XK} {k : Nat} (hN : N.Nodup) (hr : Room k (A.deeper (envOfC qual scope s.heap.objs.size f cd))) (hg : A.guards = some []) :
    Good (cxOf (L2.CX P w) P w K mg base N qual scope f cd A outer s H E) (fun cls d _ H => E cls d H) k := ⟨rfl, hN, takes_of rfl rfl rfl rfl, passes_of rfl, hr, hg⟩
/-- a def keeps what its body's meaning says -/
theorem fn_def {x qual : Str} {st : Stmt} {f : Addr} {fd : FuncData} {N ps : List Str} {k np n : Nat} {g : Sm} (F : Fun K x qual st f fd) (S : FnScope N ps (defScope st)) (hp : ps.length = np) (hn : N.length = n)
    (hb : ∀ (cdv : Value) (A : Around) (outer : List PySem.Env) (s : Shared) (H : Hp) (E : XK), Good (cxOf (L2.CX P w) P w K mg base N qual (defScope st) f cdv A outer s H E) (fun cls d _ H => E cls d H) k →
      Dss (cxOf (L2.CX P w) P w K mg base N qual (defScope st) f cdv A outer s H E) (fun cls d _ H => E cls d H) (defBody st) g) : FnG P w K mg base (k + 1) f fd ps (spD K mg np (defSem np n g)) := by
  subst hp
  refine fng_of F S (fun vs H Q E h => h.1) (fun cdv A outer s H vs Q E hr hgd h => ?_)
  obtain ⟨hl, θ, H0, M, ds, r, hR, rs, e, p⟩ := h
  refine ⟨_, hb cdv A outer s H E (good_def S.nd hr hgd), ?_⟩
  unfold defSem at e
  rw [if_pos (by rw [← rs.len]; exact hl)] at e
  have hE := start_rel rs N n hn
  cases hg : g (ds.map some ++ List.replicate (n - ds.length) none) M with
  | none => rw [hg] at e; cases e
  | some o =>
    rw [hg] at e
    refine ⟨θ, H0, _, M, o, hR, hE, hg, ?_⟩
    obtain ⟨fl, M'⟩ := o
    cases fl with
    | rt d =>
      intro v H' θ' H0' gr r1 rv
      have e' : (match frzD (frzL M.length M' 4) d, frzM M.length M' (M'.take M.length) with
        | some d', some Mn => some (Out.ok d' Mn)
        | _, _ => none) = some r := e
      cases e1 : frzD (frzL M.length M' 4) d with
      | none => rw [e1] at e'; cases e'
      | some d' =>
        cases e2 : frzM M.length M' (M'.take M.length) with
        | none => rw [e1, e2] at e'; cases e'
        | some Mn =>
          rw [e1, e2] at e'
          cases e'
          have hl2 : M.length = θ.length := hR.len.symm
          rw [hl2] at e1 e2
          exact p v H' _ _ (gr.frz r1) (r1.frz e2) (frz_rel (frzL_rel r1 4) r1 rv e1)
    | nx ρ' =>
      intro σ' H' θ' H0' gr r1 rv
      have e' : (match frzM M.length M' (M'.take M.length) with
        | some Mn => some (Out.ok D.non Mn)
        | _ => none) = some r := e
      cases e2 : frzM M.length M' (M'.take M.length) with
      | none => rw [e2] at e'; cases e'
      | some Mn =>
        rw [e2] at e'
        cases e'
        have hl2 : M.length = θ.length := hR.len.symm
        rw [hl2] at e2
        exact p .non H' _ _ (gr.frz r1) (r1.frz e2) .non
    | ex x ρ' =>
      intro cls od σ' H' θ' H0' gr r1 rE rx
      have e' : (match frzM M.length M' (M'.take M.length) with
        | some Mn => if XrOk x = true then some (Out.ex x Mn) else none
        | _ => none) = some r := e
      cases e2 : frzM M.length M' (M'.take M.length) with
      | none => rw [e2] at e'; cases e'
      | some Mn =>
        rw [e2] at e'
        have e3 : (if XrOk x = true then some (Out.ex x Mn) else none) = some r := e'
        by_cases hx : XrOk x = true
        · rw [if_pos hx] at e3
          cases e3
          have hl2 : M.length = θ.length := hR.len.symm
          rw [hl2] at e2
          refine p cls od H' _ _ (gr.frz r1) (r1.frz e2) ⟨rx.1, ?_⟩
          rcases rx.2 with z | ⟨dd, fs, h1, h2, h3⟩
          · exact .inl z
          · exact .inr ⟨dd, fs, h1, h2, relFs_mono List.prefix_rfl r1.frz_ex (relFs_take h3 hx)⟩
        · rw [if_neg hx] at e3
          cases e3
    | bk ρ' => cases e
    | ct ρ' => cases e
/-- .. of a def that hands its own objects on -/
theorem fn_defS {x qual : Str} {st : Stmt} {f : Addr} {fd : FuncData} {N ps : List Str} {k np n : Nat} {g : Sm} (F : Fun K x qual st f fd) (S : FnScope N ps (defScope st)) (hp : ps.length = np) (hn : N.length = n)
    (hb : ∀ (cdv : Value) (A : Around) (outer : List PySem.Env) (s : Shared) (H : Hp) (E : XK), Good (cxOf (L2.CX P w) P w K mg base N qual (defScope st) f cdv A outer s H E) (fun cls d _ H => E cls d H) k →
      Dss (cxOf (L2.CX P w) P w K mg base N qual (defScope st) f cdv A outer s H E) (fun cls d _ H => E cls d H) (defBody st) g) : FnG P w K mg base (k + 1) f fd ps (spD K mg np (defSemS np n g)) := by
  subst hp
  refine fng_of F S (fun vs H Q E h => h.1) (fun cdv A outer s H vs Q E hr hgd h => ?_)
  obtain ⟨hl, θ, H0, M, ds, r, hR, rs, e, p⟩ := h
  refine ⟨_, hb cdv A outer s H E (good_def S.nd hr hgd), ?_⟩
  unfold defSemS at e
  rw [if_pos (by rw [← rs.len]; exact hl)] at e
  have hE := start_rel rs N n hn
  cases hg : g (ds.map some ++ List.replicate (n - ds.length) none) M with
  | none => rw [hg] at e; cases e
  | some o =>
    rw [hg] at e
    refine ⟨θ, H0, _, M, o, hR, hE, hg, ?_⟩
    obtain ⟨fl, M'⟩ := o
    cases fl with
    | rt d => cases e; exact p
    | nx ρ' =>
      cases e
      exact fun σ' H' θ' H0' gr r1 rv => p .non H' θ' H0' gr r1 .non
    | ex x ρ' =>
      intro cls od σ' H' θ' H0' gr r1 rE rx
      have e3 : (if XrOk x = true then some (Out.ex x M') else none) = some r := e
      by_cases hx : XrOk x = true
      · rw [if_pos hx] at e3
        cases e3
        exact p cls od H' θ' H0' gr r1 rx
      · rw [if_neg hx] at e3
        cases e3
    | bk ρ' => cases e
    | ct ρ' => cases e
end
end DL
end

section
set_option Elab.async false
set_option linter.all false
set_option maxRecDepth 100000
set_option maxHeartbeats 1000000
/-! DL7: calls of defs, raise, try. -/
namespace DL
open PySem PySem.Spec PyProof.Rows L2
open Evl (Ex)
def MO.under (n : Nat) : MO → Bool
  | .lst xs => D.unders n xs
def vFn (n np : Nat) (φ : List D → DSt → R D) (fs : Dm (List D)) : Dm D := fun ρ M => bnd (fs ρ M) fun ds M1 =>
  if ds.length = np ∧ n ≤ M1.length ∧ D.unders n ds = true ∧ (M1.take n).all (MO.under n) = true then (match φ ds (M1.take n) with
    | some (.ok d M2) => if M2.length = n ∧ d.under n = true then some (.ok d (M2 ++ M1.drop n)) else none
    | some (.ex x M2) => if M2.length = n ∧ XrOk x = true then some (.ex x (M2 ++ M1.drop n)) else none
    | none => none) else none
def vFnS (np : Nat) (φ : List D → DSt → R D) (fs : Dm (List D)) : Dm D := fun ρ M => bnd (fs ρ M) fun ds M1 => if ds.length = np then φ ds M1 else none
section
variable {K : PySem.W.Frag} {θ θ' : List Addr} {H0 H0' H H' : Hp} {M M2 : DSt} {n : Nat}
theorem Rep.firsts (r : Rep K θ H0 H M) (h : (M.take n).all (MO.under n) = true) : Rep K (θ.take n) H0 H (M.take n) where
  ex := r.ex
  nd := r.nd.sublist (List.take_sublist n θ)
  len := by rw [List.length_take, List.length_take, r.len]
  ob := fun a ha => r.ob a (List.mem_of_mem_take ha)
  st := fun l a m e1 e2 => by
    have hm := List.all_eq_true.mp h m (List.mem_of_getElem? e2)
    have hl : l < n := by
      have := (List.getElem?_eq_some_iff.mp e1).1
      rw [List.length_take] at this
      omega
    rw [List.getElem?_take_of_lt hl] at e1 e2
    have k := r.st l a m e1 e2
    cases m with
    | lst ds =>
      obtain ⟨vs, q, rs⟩ := k
      exact ⟨vs, q, rs.under n hm⟩
theorem same_len {α : Type} {l m : List α} (h : l <+: m) (e : m.length = l.length) : m = l := by
  obtain ⟨u, rfl⟩ := h
  rw [List.length_append] at e
  have : u = [] := List.eq_nil_of_length_eq_zero (by omega)
  rw [this, List.append_nil]
/-- behind a call that saw the first n objects alone -/
theorem Rep.back (r : Rep K θ H0 H M) (hn : n ≤ M.length) (g : Grow (θ.take n) θ' H0 H0' H H') (r' : Rep K θ' H0' H' M2) (h2 : M2.length = n) :
    θ' = θ.take n ∧ Grow θ θ H0 H0' H H' ∧ Rep K θ H0' H' (M2 ++ M.drop n) := by
  have et : θ' = θ.take n := same_len g.th (by rw [r'.len, h2, List.length_take, r.len]; omega)
  subst et
  have split : ∀ {a : Addr}, a ∈ θ → a ∈ θ.take n ∨ a ∈ θ.drop n := fun {a} h => by
    rw [← List.take_append_drop n θ] at h
    exact List.mem_append.mp h
  have apart : ∀ {a : Addr}, a ∈ θ.drop n → a ∉ θ.take n := fun {a} h z => by
    have nd := r.nd
    rw [← List.take_append_drop n θ] at nd
    exact (List.nodup_append.mp nd).2.2 a z a h rfl
  have kept : ∀ {a : Addr} {o : HO}, a ∈ θ.drop n → H a = some o → H' a = some o := fun {a o} h e => g.fr a o e (apart h)
  refine ⟨rfl, ⟨List.prefix_rfl, g.ex0, fun a o e z => g.fr a o e fun y => z (List.mem_of_mem_take y), g.there, g.new0, fun _ h z => absurd h z⟩, ⟨r'.ex, r.nd, ?_, fun a h => ?_, fun l a m e1 e2 => ?_⟩⟩
  · rw [List.length_append, List.length_drop, r.len, h2]
    omega
  · rcases split h with z | z
    · exact r'.ob a z
    · obtain ⟨o, e⟩ := r.at h
      rw [g.new0 a o e]
      exact r.ob a h
  · by_cases hl : l < n
    · rw [List.getElem?_append_left (by omega)] at e2
      exact (r'.st l a m (by rw [List.getElem?_take_of_lt hl]; exact e1) e2).mono (List.take_prefix n θ) (Ex.refl _) rfl
    · rw [List.getElem?_append_right (by omega), List.getElem?_drop, h2, show n + (l - n) = l by omega] at e2
      have hd : a ∈ θ.drop n := by
        have e3 : (θ.drop n)[l - n]? = some a := by
          rw [List.getElem?_drop, show n + (l - n) = l by omega]
          exact e1
        exact List.mem_of_getElem? e3
      have k := r.st l a m e1 e2
      cases m with
      | lst ds =>
        obtain ⟨vs, q, rs⟩ := k
        exact ⟨vs, kept hd q, rs.mono List.prefix_rfl g.ex0⟩
end
section
variable {X : Cx} {W : WX} {e : Expr} {es : List Expr} {fs : Dm (List D)} {pos p : Pos} {k n np : Nat} {f : Addr} {fd : FuncData} {ps : List Str} {φ : List D → DSt → R D} {x : Str}
theorem fn_args {σ : L2.St} {H : Hp} {Q : VK} (q : rd X.K X.mg W (RlV X.K) (vFn n np φ fs) σ H Q) : rd X.K X.mg W (RlVs X.K) fs σ H fun vs H1 => spD X.K X.mg np φ vs H1 Q (fun cls d H => W cls d σ H) := by
  refine one q fun vs H1 θ H0 ρ M ds r hR hE rs e p => ?_
  split at e
  · rename_i hc
    obtain ⟨h1, h2, h3, h4⟩ := hc
    refine ⟨by rw [rs.len]; exact h1, θ.take n, H0, M.take n, ds, ?_⟩
    cases hφ : φ ds (M.take n) with
    | none => rw [hφ] at e; cases e
    | some o =>
      rw [hφ] at e
      refine ⟨o, hR.firsts h4, rs.under n h3, rfl, ?_⟩
      cases o with
      | ok d M2 =>
        have e' : (if M2.length = n ∧ d.under n = true then some (Out.ok d (M2 ++ M.drop n)) else none) = some r := e
        by_cases hz : M2.length = n ∧ d.under n = true
        · rw [if_pos hz] at e'
          cases e'
          intro v H' θ' H0' g r1 rv
          obtain ⟨rfl, g2, r2⟩ := hR.back h2 g r1 hz.1
          exact p v H' θ H0' g2 r2 (rv.mono (List.take_prefix n θ) (Ex.refl _))
        · rw [if_neg hz] at e'
          cases e'
      | ex x M2 =>
        have e' : (if M2.length = n ∧ XrOk x = true then some (Out.ex x (M2 ++ M.drop n)) else none) = some r := e
        by_cases hz : M2.length = n ∧ XrOk x = true
        · rw [if_pos hz] at e'
          cases e'
          intro cls od H' θ' H0' g r1 rx
          obtain ⟨rfl, g2, r2⟩ := hR.back h2 g r1 hz.1
          refine p cls od H' θ H0' g2 r2 ⟨rx.1, ?_⟩
          rcases rx.2 with z | ⟨dd, fs, y1, y2, y3⟩
          · exact .inl z
          · exact .inr ⟨dd, fs, y1, y2, relFs_mono (List.take_prefix n θ) (Ex.refl _) y3⟩
        · rw [if_neg hz] at e'
          cases e'
  · cases e
/-- a call that hands on the first n mutable objects -/
theorem de_fn (F : FnG X.prog X.w X.K X.mg X.base k f fd ps (spD X.K X.mg np φ)) (hr : Room k X.A) (hgd : X.A.guards = some []) (hm : X.mg x = some (.ref f)) (hk : PySem.W.keepIn X.K (.ref f) = true) (hb : Binds X.K fd ps []) (tk : Takes X W) (ha : Da X W (e :: es) fs)
    (hg : Gl X x := by rfl) (hdb : (x == ("__debug__" : Str)) = false := by decide) (he : starEach (e :: es) X.env = (false, eval e X.env) :: starEach es X.env := by rfl) (hpl : (backTo pos (starEach es X.env)).any (·.1) = false := by rfl) :
    De X W (.Call (.Name x p) (e :: es) [] pos) (vFn n np φ fs) :=
  pe_imp (pe_g (E := WE W) F hr hgd hg hm hk hb (fun σ => passAt tk σ) ha hdb he hpl) fun σ H Q q => fn_args q
theorem fnS_args {σ : L2.St} {H : Hp} {Q : VK} (q : rd X.K X.mg W (RlV X.K) (vFnS np φ fs) σ H Q) : rd X.K X.mg W (RlVs X.K) fs σ H fun vs H1 => spD X.K X.mg np φ vs H1 Q (fun cls d H => W cls d σ H) := by
  refine one q fun vs H1 θ H0 ρ M ds r hR hE rs e p => ?_
  split at e
  · rename_i hc
    refine ⟨by rw [rs.len]; exact hc, θ, H0, M, ds, r, hR, rs, e, ?_⟩
    cases r with
    | ok d M2 => exact p
    | ex x M2 => exact p
  · cases e
theorem de_fnS (F : FnG X.prog X.w X.K X.mg X.base k f fd ps (spD X.K X.mg np φ)) (hr : Room k X.A) (hgd : X.A.guards = some []) (hm : X.mg x = some (.ref f)) (hk : PySem.W.keepIn X.K (.ref f) = true) (hb : Binds X.K fd ps []) (tk : Takes X W) (ha : Da X W (e :: es) fs)
    (hg : Gl X x := by rfl) (hdb : (x == ("__debug__" : Str)) = false := by decide) (he : starEach (e :: es) X.env = (false, eval e X.env) :: starEach es X.env := by rfl) (hpl : (backTo pos (starEach es X.env)).any (·.1) = false := by rfl) :
    De X W (.Call (.Name x p) (e :: es) [] pos) (vFnS np φ fs) :=
  pe_imp (pe_g (E := WE W) F hr hgd hg hm hk hb (fun σ => passAt tk σ) ha hdb he hpl) fun σ H Q q => fnS_args q
/-! ### raise, try -/
def sRaise (c : Str) : Sm := fun ρ M => some (.ex ⟨c, []⟩ ρ, M)
theorem ds_raise {C : Addr} (hc : X.calm = true) (tk : Takes X W) (gC : X.mg x = some (.ref C)) (he : PMk X e (fun _ H Q => Q (.ref C) none H)) : Ds X W (.Raise (some e) none pos) (sRaise x) := ps_imp (ps_raise hc tk he) fun E σ H ⟨θ, H0, ρ, M, r, hR, hE, e, p⟩ => by
  cases e
  exact p (.ref C) none σ H θ H0 (Grow.refl ..) hR hE ⟨gC, .inl ⟨rfl, rfl⟩⟩
/-- mt tells which classes the clause takes -/
def sTry (g : Sm) (mt : Str → Option Bool) (h : Sm) : Sm := fun ρ M => match g ρ M with
  | some (.ex x ρ', M') => (match mt x.cls with
    | some true => (match h ρ' M' with
      | some (.ex _ _, _) => none
      | o => o)
    | some false => some (.ex x ρ', M')
    | none => none)
  | o => o
theorem Good.tr {pn : List (Addr × Obj)} {xe : Value → Shared → Prop} {W' : WX} (G : Good X W k) (tk : Takes (X.tr pn xe) W') (po : PassesOwn (model X.prog X.w) X.A X.env xe) : Good (X.tr pn xe) W' k := ⟨G.calm, G.nd, tk, po, G.room, G.gd⟩
theorem ds_try {c : Value} {body suite : List Stmt} {b₀ : Stmt} {np' pos' : Pos} {g h : Sm} {mt : Str → Option Bool} (G : Good X W k) (hs : X.stack = X.env :: X.outer) (hf : X.env.frame = some X.env.locals) (hc : Names X x c)
    (hm : ∀ y b cls, mt y = some b → X.mg y = some cls → PySem.W.exmOne X.K cls c = some b)
    (hb : ∀ (W' : WX) (pn : List (Addr × Obj)) (xe : Value → Shared → Prop), Good (X.tr pn xe) W' k → Dss (X.tr pn xe) W' body g)
    (hsu : ∀ (a : Addr) (oe : Obj) (pn : List (Addr × Obj)), Dss (X.suite a ((a, oe) :: pn)) W0 (b₀ :: suite) h) :
    Ds X W (.Try body [.ExceptHandler (some (.Name x np')) none (b₀ :: suite) pos'] [] [] pos) (sTry g mt h) :=
  ps_imp (ps_try_only (tb := fun W' => rdS X.K X.mg W' g) (ts := fun _ _ _ => rdS X.K X.mg W0 h) hs hf hc G.tk (fun W' pn xe tk po => hb W' pn xe (G.tr tk po)) (fun a oe cls d pn _ _ => hsu a oe pn)) fun E σ H ⟨θ, H0, ρ, M, r, hR, hE, e, p⟩ => by
    unfold sTry at e
    cases hg : g ρ M with
    | none => rw [hg] at e; cases e
    | some o =>
      rw [hg] at e
      refine ⟨θ, H0, ρ, M, o, hR, hE, hg, ?_⟩
      obtain ⟨fl, M1⟩ := o
      cases fl with
      | nx ρ' => cases e; exact p
      | bk ρ' => cases e; exact p
      | ct ρ' => cases e; exact p
      | rt d => cases e; exact p
      | ex x1 ρ' =>
        intro cls od σ' H' θ' H0' gr r1 rE rx
        have e' : (match mt x1.cls with
          | some true => (match h ρ' M1 with
            | some (.ex _ _, _) => none
            | o => o)
          | some false => some (.ex x1 ρ', M1)
          | none => none) = some r := e
        cases hmt : mt x1.cls with
        | none => rw [hmt] at e'; cases e'
        | some b =>
          rw [hmt] at e'
          refine ⟨b, hm _ _ _ hmt rx.1, fun hb1 a ha => ?_, fun hb0 => ?_⟩
          · subst hb1
            dsimp only at e'
            cases hh : h ρ' M1 with
            | none => rw [hh] at e'; cases e'
            | some o =>
              rw [hh] at e'
              obtain ⟨fl, M2⟩ := o
              cases fl with
              | ex x2 ρ2 => cases e'
              | nx ρ2 => cases e'; exact ⟨θ', H0', ρ', M1, _, r1, rE, hh, p.grow gr⟩
              | bk ρ2 => cases e'; exact ⟨θ', H0', ρ', M1, _, r1, rE, hh, p.grow gr⟩
              | ct ρ2 => cases e'; exact ⟨θ', H0', ρ', M1, _, r1, rE, hh, p.grow gr⟩
              | rt d => cases e'; exact ⟨θ', H0', ρ', M1, _, r1, rE, hh, p.grow gr⟩
          · subst hb0
            cases e'
            exact p cls od σ' H' θ' H0' gr r1 rE rx
end
end DL
end

section
set_option Elab.async false
set_option linter.all false
set_option maxRecDepth 100000
set_option maxHeartbeats 1000000
/-! DL8: operators and built-ins by values. -/
namespace DL
open PySem PySem.Spec PyProof.Rows L2
open Evl (Ex)
/-! ### trees as the library's data -/
mutual
def pyD : D → PyData
  | .non => .none
  | .bl b => .bool b
  | .int i => .int i
  | .str x => .str x
  | .tup xs => .tuple (pyDs xs)
  | .lst xs => .list (pyDs xs)
  | .rol xs => .list (pyDs xs)
  | .loc _ => .none
def pyDs : List D → List PyData
  | [] => []
  | d :: ds => pyD d :: pyDs ds
end
theorem pyDs_map : ∀ ds : List D, pyDs ds = ds.map pyD
  | [] => rfl
  | d :: ds => by rw [pyDs, pyDs_map ds]; rfl
mutual
theorem dp_of {K : PySem.W.Frag} {H : Hp} : ∀ {v : V} {d : D}, RelD K [] H v d → Dp K H v (pyD d)
  | _, _, .non => .non
  | _, _, .bl b => .bl b
  | _, _, .int i => .int i
  | _, _, .str x => .str x
  | _, _, .tup h r => .tup h (dps_of r)
  | _, _, .lst h r => .lst (SqL.of h) (dps_of r)
  | _, _, .rol h r => .lst h (dps_of r)
  | _, _, .loc h => by simp at h
theorem dps_of {K : PySem.W.Frag} {H : Hp} : ∀ {vs : List V} {ds : List D}, RelDs K [] H vs ds → DpAll K H vs (pyDs ds)
  | _, _, .nil => .nil
  | _, _, .cons h r => .cons (dp_of h) (dps_of r)
end
mutual
theorem frz_same {g : Nat → Option D} : ∀ {d : D}, d.under 0 = true → frzD g d = some d
  | .non, _ => rfl
  | .bl _, _ => rfl
  | .int _, _ => rfl
  | .str _, _ => rfl
  | .tup xs, h => by unfold frzD; rw [frzs_same (ds := xs) h]; rfl
  | .lst xs, h => by unfold frzD; rw [frzs_same (ds := xs) h]; rfl
  | .rol xs, h => by unfold frzD; rw [frzs_same (ds := xs) h]; rfl
  | .loc l, h => by
    have h2 : decide (l < 0) = true := h
    exact absurd (of_decide_eq_true h2) (Nat.not_lt_zero l)
theorem frzs_same {g : Nat → Option D} : ∀ {ds : List D}, D.unders 0 ds = true → frzDs g ds = some ds
  | [], _ => rfl
  | d :: ds, h => by
    have h' := Bool.and_eq_true_iff.mp h
    unfold frzDs
    rw [frz_same h'.1, frzs_same h'.2]
end
/-- as it stands now, without mutable objects -/
def clean (M : DSt) (d : D) : Option D := frzD (frzL 0 M 4) d
def cleans (M : DSt) (ds : List D) : Option (List D) := frzDs (frzL 0 M 4) ds
theorem clean_same {M : DSt} {d : D} (h : d.under 0 = true) : clean M d = some d := frz_same h
theorem cleans_same {M : DSt} {ds : List D} (h : D.unders 0 ds = true) : cleans M ds = some ds := frzs_same h
section
variable {K : PySem.W.Frag} {θ : List Addr} {H0 H : Hp} {M : DSt}
theorem clean_rel (hR : Rep K θ H0 H M) {v : V} {d d' : D} (r : RelD K θ H0 v d) (e : clean M d = some d') : RelD K [] H v d' := by
  have h := frz_rel (n := 0) (frzL_rel hR 4) hR r e
  rw [List.take_zero] at h
  exact h.mono (List.nil_prefix) hR.frz_ex2
theorem cleans_rel (hR : Rep K θ H0 H M) {v : List V} {d d' : List D} (r : RelDs K θ H0 v d) (e : cleans M d = some d') : RelDs K [] H v d' := by
  have h := frz_rels (n := 0) (frzL_rel hR 4) hR r e
  rw [List.take_zero] at h
  exact h.mono (List.nil_prefix) hR.frz_ex2
end
/-! ### == -/
def eqvD (a b : D) : Bool := PyData.eqv (pyD a) (pyD b)
def okD (a : D) : Bool := SeqAt.shaped (pyD a)
def eqM (a b : D) (M : DSt) : Option Bool := match clean M a, clean M b with
  | some x, some y => if okD x = true ∧ okD y = true then some (eqvD x y) else none
  | _, _ => none
def eqO : D → D → DSt → Option D := fun a b M => (eqM a b M).map .bl
def neO : D → D → DSt → Option D := fun a b M => (eqM a b M).map fun k => .bl (!k)
section
variable {X : Cx}
theorem eqM_rel {K : PySem.W.Frag} {θ : List Addr} {H0 H : Hp} {M : DSt} {x y : V} {a b : D} {k : Bool} (hR : Rep K θ H0 H M) (rx : RelD K θ H0 x a) (ry : RelD K θ H0 y b) (e : eqM a b M = some k) :
    ∃ d e, Dp K H x d ∧ Dp K H y e ∧ SeqAt.shaped d = true ∧ SeqAt.shaped e = true ∧ k = PyData.eqv d e := by
  unfold eqM at e
  split at e
  · rename_i a' b' h1 h2
    split at e
    · rename_i h3
      cases e
      exact ⟨pyD a', pyD b', dp_of (clean_rel hR rx h1), dp_of (clean_rel hR ry h2), h3.1, h3.2, rfl⟩
    · cases e
  · cases e
theorem o_eq (hu : X.A.units + 64 < cLine) : OpR X (compareOp .Eq) (rdOp X.K eqO) := by
  intro pins s σ H x y v u Q I rx ry ⟨θ, H0, M, a, b, d, hR, ra, rb, e, g⟩
  obtain ⟨k, hk, rfl⟩ := Option.map_eq_some_iff.mp e
  obtain ⟨p, q, h1, h2, h3, h4, rfl⟩ := eqM_rel hR ra rb hk
  exact op_eqD hu pins s σ H x y v u Q I rx ry ⟨p, q, h1, h2, h3, h4, g.val hR (.bl _)⟩
theorem o_ne (hu : X.A.units + 64 < cLine) : OpR X (compareOp .NotEq) (rdOp X.K neO) := by
  intro pins s σ H x y v u Q I rx ry ⟨θ, H0, M, a, b, d, hR, ra, rb, e, g⟩
  obtain ⟨k, hk, rfl⟩ := Option.map_eq_some_iff.mp e
  obtain ⟨p, q, h1, h2, h3, h4, rfl⟩ := eqM_rel hR ra rb hk
  exact op_neD hu pins s σ H x y v u Q I rx ry ⟨p, q, h1, h2, h3, h4, g.val hR (.bl _)⟩
end
/-! ### ints -/
def iiO (g : Int → Int → Option D) : D → D → DSt → Option D
  | .int i, .int j, _ => g i j
  | _, _, _ => none
theorem iiO_rel {K : PySem.W.Frag} {g : Int → Int → Option D} {r : R2} (h : ∀ i j d H Q, g i j = some d → (∀ v, (∀ θ H0, RelD K θ H0 v d) → Q v H) → r (.int i) (.int j) H Q) :
    ∀ x y H Q, rdOp K (iiO g) x y H Q → r x y H Q := fun x y H Q ⟨θ, H0, M, a, b, d, hR, ra, rb, e, gv⟩ => by
  cases ra with
  | int i =>
    cases rb with
    | int j => exact h i j d H Q e fun v rv => gv.val hR (rv θ H0)
    | _ => cases e
  | _ => cases e
theorem opr_imp {X : Cx} {f : Value → Value → Sem Value} {r r' : R2} (h : OpR X f r) (i : ∀ x y H Q, r' x y H Q → r x y H Q) : OpR X f r' := fun pins s σ H x y v u Q I rx ry q => h pins s σ H x y v u Q I rx ry (i x y H Q q)
theorem unr_imp {X : Cx} {f : Value → Sem Value} {r r' : V → Hp → VK → Prop} (h : UnR X f r) (i : ∀ x H Q, r' x H Q → r x H Q) : UnR X f r' := fun pins s σ H x v Q I rx q => h pins s σ H x v Q I rx (i x H Q q)
theorem callr_imp {X : Cx} {f : Value} {r r' : List V → Hp → VK → Prop} (h : CallR X f r) (i : ∀ x H Q, r' x H Q → r x H Q) : CallR X f r' := fun pins s σ H x v Q I rx q => h pins s σ H x v Q I rx (i x H Q q)
abbrev subO := iiO fun i j => some (.int (i - j))
abbrev ltI := iiO fun i j => some (.bl (decide (i < j)))
abbrev leI := iiO fun i j => some (.bl (decide (i ≤ j)))
abbrev gtI := iiO fun i j => some (.bl (decide (j < i)))
abbrev geI := iiO fun i j => some (.bl (decide (j ≤ i)))
abbrev modO := iiO fun i j => if 0 < j then some (.int (i % j)) else none
abbrev fdivO := iiO fun i j => if 0 < j ∧ j < 1073741824 then some (.int (i / j)) else none
abbrev andO := iiO fun i j => some (.int (Builtin.bitAnd i j))
abbrev orO := iiO fun i j => some (.int (Builtin.bitOr i j))
abbrev shlO := iiO fun i j => if 0 ≤ j ∧ j ≤ 1000 ∧ -1000000 ≤ i ∧ i ≤ 1000000 then some (.int (i * 2 ^ j.toNat)) else none
abbrev shrO := iiO fun i j => if 0 ≤ j then some (.int (i / 2 ^ j.toNat)) else none
section
variable {X : Cx}
theorem o_sub : OpR X (binaryOp .Sub) (rdOp X.K subO) := opr_imp op_sub (iiO_rel fun i j d H Q e k => by cases e; exact ⟨i, j, rfl, rfl, k _ fun _ _ => .int _⟩)
theorem o_lt : OpR X (compareOp .Lt) (rdOp X.K ltI) := opr_imp op_lt (iiO_rel fun i j d H Q e k => by cases e; exact ⟨i, j, rfl, rfl, k _ fun _ _ => .bl _⟩)
theorem o_le : OpR X (compareOp .LtE) (rdOp X.K leI) := opr_imp op_le (iiO_rel fun i j d H Q e k => by cases e; exact ⟨i, j, rfl, rfl, k _ fun _ _ => .bl _⟩)
theorem o_gt : OpR X (compareOp .Gt) (rdOp X.K gtI) := opr_imp op_gt (iiO_rel fun i j d H Q e k => by cases e; exact ⟨i, j, rfl, rfl, k _ fun _ _ => .bl _⟩)
theorem o_ge : OpR X (compareOp .GtE) (rdOp X.K geI) := opr_imp op_ge (iiO_rel fun i j d H Q e k => by cases e; exact ⟨i, j, rfl, rfl, k _ fun _ _ => .bl _⟩)
theorem o_and : OpR X (binaryOp .BitAnd) (rdOp X.K andO) := opr_imp op_and (iiO_rel fun i j d H Q e k => by cases e; exact ⟨i, j, rfl, rfl, k _ fun _ _ => .int _⟩)
theorem o_or : OpR X (binaryOp .BitOr) (rdOp X.K orO) := opr_imp op_or (iiO_rel fun i j d H Q e k => by cases e; exact ⟨i, j, rfl, rfl, k _ fun _ _ => .int _⟩)
theorem o_ior : OpR X (inplaceOp .BitOr) (rdOp X.K orO) := opr_imp iop_or (iiO_rel fun i j d H Q e k => by cases e; exact ⟨i, j, rfl, rfl, k _ fun _ _ => .int _⟩)
theorem o_iand : OpR X (inplaceOp .BitAnd) (rdOp X.K andO) := opr_imp iop_and (iiO_rel fun i j d H Q e k => by cases e; exact ⟨i, j, rfl, rfl, k _ fun _ _ => .int _⟩)
theorem o_mod : OpR X (binaryOp .Mod) (rdOp X.K modO) := opr_imp op_mod (iiO_rel fun i j d H Q e k => by
  by_cases h : 0 < j
  · rw [if_pos h] at e; cases e; exact ⟨i, j, rfl, rfl, h, k _ fun _ _ => .int _⟩
  · rw [if_neg h] at e; cases e)
theorem o_fdiv : OpR X (binaryOp .FloorDiv) (rdOp X.K fdivO) := opr_imp op_fdiv (iiO_rel fun i j d H Q e k => by
  by_cases h : 0 < j ∧ j < 1073741824
  · rw [if_pos h] at e; cases e; exact ⟨i, j, rfl, rfl, h, k _ fun _ _ => .int _⟩
  · rw [if_neg h] at e; cases e)
theorem o_shl : OpR X (binaryOp .LShift) (rdOp X.K shlO) := opr_imp op_shl (iiO_rel fun i j d H Q e k => by
  by_cases h : 0 ≤ j ∧ j ≤ 1000 ∧ -1000000 ≤ i ∧ i ≤ 1000000
  · rw [if_pos h] at e; cases e; exact ⟨i, j, rfl, rfl, ⟨h.1, by omega, by omega⟩, k _ fun _ _ => .int _⟩
  · rw [if_neg h] at e; cases e)
theorem o_shr : OpR X (binaryOp .RShift) (rdOp X.K shrO) := opr_imp op_shr (iiO_rel fun i j d H Q e k => by
  by_cases h : 0 ≤ j
  · rw [if_pos h] at e; cases e; exact ⟨i, j, rfl, rfl, h, k _ fun _ _ => .int _⟩
  · rw [if_neg h] at e; cases e)
def negU : D → DSt → Option D
  | .int i, _ => some (.int (-i))
  | _, _ => none
def invU : D → DSt → Option D
  | .int i, _ => some (.int (Builtin.bitNot i))
  | _, _ => none
theorem u_neg : UnR X (unaryOp .USub) (rdUn X.K negU) := unr_imp un_neg fun x H Q ⟨θ, H0, M, a, d, hR, ra, e, g⟩ => by
  cases ra with
  | int i => cases e; exact ⟨i, rfl, g.val hR (.int _)⟩
  | _ => cases e
theorem u_inv : UnR X (unaryOp .Invert) (rdUn X.K invU) := unr_imp un_inv fun x H Q ⟨θ, H0, M, a, d, hR, ra, e, g⟩ => by
  cases ra with
  | int i => cases e; exact ⟨i, rfl, g.val hR (.int _)⟩
  | _ => cases e
end
/-! ### + and * -/
def lstOf (M : DSt) : D → Option (List D)
  | .lst xs => some xs
  | .loc l => match M[l]? with
    | some (.lst xs) => some xs
    | _ => none
  | _ => none
theorem lstOf_rel {K : PySem.W.Frag} {θ : List Addr} {H0 H : Hp} {M : DSt} {v : V} {d : D} {xs : List D} (hR : Rep K θ H0 H M) (r : RelD K θ H0 v d) (e : lstOf M d = some xs) : ∃ a vs, v = .ref a ∧ H a = some (.lst vs) ∧ RelDs K θ H0 vs xs := by
  cases r with
  | lst h r => cases e; exact ⟨_, _, rfl, hR.ex _ _ h, r⟩
  | @loc a l h =>
    obtain ⟨m, hm⟩ := getElem?_of_len hR.len h
    have z := hR.st l a m h hm
    unfold lstOf at e
    simp only [hm] at e
    cases m with
    | lst ds =>
      obtain ⟨vs, q, r⟩ := z
      cases e
      exact ⟨a, vs, rfl, q, r⟩
  | _ => cases e
def addO : D → D → DSt → Option D := fun a b M => match a, b with
  | .int i, .int j => some (.int (i + j))
  | .str x, .str y => if x.length + y.length ≤ 1000000 then some (.str (x ++ y)) else none
  | .tup xs, .tup ys => if xs.length + ys.length ≤ 1000000 then some (.tup (xs ++ ys)) else none
  | a, b => match lstOf M a, lstOf M b with
    | some xs, some ys => if xs.length + ys.length ≤ 1000000 then some (.lst (xs ++ ys)) else none
    | _, _ => none
def addL (a b : D) (M : DSt) : Option D := match lstOf M a, lstOf M b with
  | some xs, some ys => if xs.length + ys.length ≤ 1000000 then some (.lst (xs ++ ys)) else none
  | _, _ => none
section
variable {X : Cx}
theorem addL_rel {K : PySem.W.Frag} {θ : List Addr} {H0 H : Hp} {M : DSt} {x y : V} {a b d : D} {Q : VK} (hR : Rep K θ H0 H M) (ra : RelD K θ H0 x a) (rb : RelD K θ H0 y b) (e : addL a b M = some d) (g : Give K θ H0 M H d Q) : rCat x y H Q := by
  unfold addL at e
  split at e
  · rename_i xs ys h1 h2
    split at e
    · rename_i hz
      cases e
      obtain ⟨p, vs, rfl, hp, r1⟩ := lstOf_rel hR ra h1
      obtain ⟨q, ws, rfl, hq, r2⟩ := lstOf_rel hR rb h2
      exact ⟨p, q, vs, ws, rfl, rfl, hp, hq, by rw [r1.len, r2.len, sizeLine_eq]; omega, fun l hl => g.lst hR (r1.append r2) hl⟩
    · cases e
  · cases e
theorem o_add : OpR X (binaryOp .Add) (rdOp X.K addO) := by
  intro pins s σ H x y v u Q I rx ry ⟨θ, H0, M, a, b, d, hR, ra, rb, e, g⟩
  have lists : addL a b M = some d → wpAny (model X.prog X.w) X.A (binaryOp .Add v u) (EP X pins σ Q) X.xe s := fun e' => op_cat pins s σ H x y v u Q I rx ry (addL_rel hR ra rb e' g)
  have big : (1000000 : Nat) ≤ sizeLine := by rw [sizeLine_eq]; omega
  cases ra with
  | int i =>
    cases rb with
    | int j => cases e; exact op_add pins s σ H _ _ v u Q I rx ry ⟨i, j, rfl, rfl, g.val hR (.int _)⟩
    | _ => exact lists e
  | str i =>
    cases rb with
    | str j =>
      have e' : (if i.length + j.length ≤ 1000000 then some (D.str (i ++ j)) else none) = some d := e
      by_cases hz : i.length + j.length ≤ 1000000
      · rw [if_pos hz] at e'
        cases e'
        exact op_add_str pins s σ H _ _ v u Q I rx ry ⟨i, j, rfl, rfl, Nat.le_trans hz big, g.val hR (.str _)⟩
      · rw [if_neg hz] at e'; cases e'
    | _ => exact lists e
  | @tup p vs xs hp r1 =>
    cases rb with
    | @tup q ws ys hq r2 =>
      have e' : (if xs.length + ys.length ≤ 1000000 then some (D.tup (xs ++ ys)) else none) = some d := e
      by_cases hz : xs.length + ys.length ≤ 1000000
      · rw [if_pos hz] at e'
        cases e'
        refine op_catA pins s σ H _ _ v u Q I rx ry ⟨p, q, vs, ws, rfl, rfl, Evl.ex_t hR.ex hp, Evl.ex_t hR.ex hq, by rw [r1.len, r2.len]; exact Nat.le_trans hz big, fun h0 => ?_, fun _ h0 => ?_, fun _ _ l hl => g.tup hR (r1.append r2) hl⟩
        · subst h0
          cases r1
          exact g.val hR (.tup hq r2)
        · subst h0
          cases r2
          rw [List.append_nil] at g
          exact g.val hR (.tup hp r1)
      · rw [if_neg hz] at e'; cases e'
    | _ => exact lists e
  | non => exact lists e
  | bl _ => exact lists e
  | lst h r => exact lists (by cases rb <;> exact e)
  | rol h r => exact lists (by cases rb <;> exact e)
  | loc h => exact lists (by cases rb <;> exact e)
end
end DL
end

section
set_option Elab.async false
set_option linter.all false
set_option maxRecDepth 100000
set_option maxHeartbeats 1000000
/-! DL9: in, is, subscripts, slices, built-ins, methods. -/
namespace DL
open PySem PySem.Spec PyProof.Rows L2
open Evl (Ex)
/-! ### in -/
def inM (a b : D) (M : DSt) : Option Bool := match clean M a, clean M b with
  | some x, some (.tup ys) => if okD x = true ∧ okD (.tup ys) = true then some (ys.any fun y => eqvD y x) else none
  | some x, some (.lst ys) => if okD x = true ∧ okD (.lst ys) = true then some (ys.any fun y => eqvD y x) else none
  | some (.str x), some (.str y) => if x.length = 1 then some (decide (x.cps.getD 0 0 ∈ y.cps.toList)) else none
  | _, _ => none
def inO : D → D → DSt → Option D := fun a b M => (inM a b M).map .bl
def ninO : D → D → DSt → Option D := fun a b M => (inM a b M).map fun k => .bl (!k)
theorem any_pyDs (x : D) : ∀ ys : List D, ((pyDs ys).any fun y => PyData.eqv y (pyD x)) = ys.any fun y => eqvD y x
  | [] => rfl
  | y :: ys => by
    rw [pyDs, List.any_cons, List.any_cons, any_pyDs x ys]
    rfl
section
variable {X : Cx}
theorem in_core {neg : Bool} {op : CmpOp} (hop : op = (if neg then .NotIn else .In)) (hu : X.A.units + 65 < cLine) {pins : List (Addr × Obj)} {s : Shared} {σ : L2.St} {H : Hp} {x y : V} {v u : Value} {Q : VK} (I : Inv X pins σ H s) (rx : RelV x v) (ry : RelV y u) {a b : D} (ra : RelD X.K [] H x a) (rb : RelD X.K [] H y b)
    {ys : List D} (hb : b = .tup ys ∨ b = .lst ys) (h1 : okD a = true) (h2 : okD b = true) (q : Q (.bl (if neg then !(ys.any fun z => eqvD z a) else ys.any fun z => eqvD z a)) H) : wpAny (model X.prog X.w) X.A (compareOp op v u) (EP X pins σ Q) X.xe s := by
  obtain ⟨as, r1⟩ := Dp.reads I (pyD a) x v (dp_of ra) rx
  obtain ⟨bs, r2⟩ := Dp.reads I (pyD b) y u (dp_of rb) ry
  have ha := SeqAt.canLay_of_shaped h1
  have hb2 := SeqAt.canLay_of_shaped h2
  have hd : (pyD a).depth ≤ 64 := SeqAt.depth_of_shaped h1
  have hm : X.A.units + 1 + min (PyData.depthAll (pyDs ys)) (pyD a).depth < cLine := by
    have := Nat.min_le_right (PyData.depthAll (pyDs ys)) (pyD a).depth
    omega
  rcases hb with rfl | rfl
  · cases neg with
    | false => subst hop; exact SeqAt.in_tuple_reads r2 r1 hb2 ha hm ⟨.bl _, H, I, rfl, by rw [any_pyDs]; exact q⟩
    | true => subst hop; exact SeqAt.notIn_tuple_reads r2 r1 hb2 ha hm ⟨.bl _, H, I, rfl, by rw [any_pyDs]; exact q⟩
  · cases neg with
    | false => subst hop; exact SeqAt.in_list_reads r2 r1 hb2 ha hm ⟨.bl _, H, I, rfl, by rw [any_pyDs]; exact q⟩
    | true => subst hop; exact SeqAt.notIn_list_reads r2 r1 hb2 ha hm ⟨.bl _, H, I, rfl, by rw [any_pyDs]; exact q⟩
end
theorem inM_cases {a b : D} {M : DSt} {k : Bool} (e : inM a b M = some k) : (∃ x y ys, clean M a = some x ∧ clean M b = some y ∧ (y = .tup ys ∨ y = .lst ys) ∧ okD x = true ∧ okD y = true ∧ k = ys.any fun z => eqvD z x) ∨
    ∃ x y, a = .str x ∧ b = .str y ∧ x.length = 1 ∧ k = decide (x.cps.getD 0 0 ∈ y.cps.toList) := by
  unfold inM at e
  split at e
  · rename_i x ys h1 h2
    split at e
    · rename_i h3; cases e; exact .inl ⟨x, _, ys, h1, h2, .inl rfl, h3.1, h3.2, rfl⟩
    · cases e
  · rename_i x ys h1 h2
    split at e
    · rename_i h3; cases e; exact .inl ⟨x, _, ys, h1, h2, .inr rfl, h3.1, h3.2, rfl⟩
    · cases e
  · rename_i x y h1 h2
    split at e
    · rename_i h3
      cases e
      have back : ∀ {d : D} {z : Str}, clean M d = some (.str z) → d = .str z := fun {d z} h => by
        cases d with
        | str w => cases h; rfl
        | non => cases h
        | bl _ => cases h
        | int _ => cases h
        | tup xs => obtain ⟨_, _, z⟩ := Option.map_eq_some_iff.mp (show (frzDs (frzL 0 M 4) xs).map D.tup = _ from h); cases z
        | lst xs => obtain ⟨_, _, z⟩ := Option.map_eq_some_iff.mp (show (frzDs (frzL 0 M 4) xs).map D.lst = _ from h); cases z
        | rol xs => obtain ⟨_, _, z⟩ := Option.map_eq_some_iff.mp (show (frzDs (frzL 0 M 4) xs).map D.rol = _ from h); cases z
        | loc l =>
          have h' : frzL 0 M 4 l = some (.str z) := h
          unfold frzL at h'
          rw [if_neg (Nat.not_lt_zero l)] at h'
          split at h'
          · obtain ⟨_, _, z⟩ := Option.map_eq_some_iff.mp h'; cases z
          · cases h'
      exact .inr ⟨x, y, back h1, back h2, h3, rfl⟩
    · cases e
  · cases e
/-! ### is None -/
def isNO : D → D → DSt → Option D
  | .non, .non, _ => some (.bl true)
  | _, .non, _ => some (.bl false)
  | _, _, _ => none
def notNO : D → D → DSt → Option D
  | .non, .non, _ => some (.bl false)
  | _, .non, _ => some (.bl true)
  | _, _, _ => none
/-! ### subscripts -/
def ixO : D → D → DSt → Option D := fun a b M => match b with
  | .int i => (match a with
    | .str z => if z.length ≤ 1000000 then (atI z.cps.toList i).map fun c => .str ⟨#[c]⟩ else none
    | a => (seqOf M a).bind fun xs => atI xs i)
  | _ => none
theorem atI_rel {K : PySem.W.Frag} {θ : List Addr} {H0 : Hp} {vs : List V} {ds : List D} {i : Int} {d : D} (r : RelDs K θ H0 vs ds) (e : atI ds i = some d) : ∃ v, atI vs i = some v ∧ RelD K θ H0 v d := by
  unfold atI at e ⊢
  rw [r.len]
  cases hx : ixN ds.length i with
  | none => rw [hx] at e; cases e
  | some j =>
    rw [hx] at e
    exact r.get e
section
variable {X : Cx}
theorem ixr_imp {r r' : R2} (h : IxR X r) (i : ∀ x y H Q, r' x y H Q → r x y H Q) : IxR X r' := fun value slice pins s σ H x y v u Q I rx ry q => h value slice pins s σ H x y v u Q I rx ry (i x y H Q q)
theorem o_ix : IxR X (rdOp X.K ixO) := ixr_imp ix_seq fun x y H Q ⟨θ, H0, M, a, b, d, hR, ra, rb, e, g⟩ => by
  cases rb with
  | int i =>
    have seq : ∀ {a : D}, RelD X.K θ H0 x a → ((seqOf M a).bind fun xs => atI xs i) = some d → rIx X.K x (.int i) H Q := fun {a} ra e => by
      obtain ⟨xs, h1, h2⟩ := Option.bind_eq_some_iff.mp e
      obtain ⟨p, vs, rfl, rs, h | h⟩ := seq_rel hR ra h1
      · obtain ⟨v, h3, rv⟩ := atI_rel rs h2
        exact .inl ⟨p, vs, i, v, rfl, rfl, h.1, h3, g.val hR rv⟩
      · obtain ⟨v, h3, rv⟩ := atI_rel rs h2
        exact .inr (.inl ⟨p, vs, i, v, rfl, rfl, h.1, h3, g.val hR rv⟩)
    cases ra with
    | str z =>
      have e' : (if z.length ≤ 1000000 then (atI z.cps.toList i).map fun c => D.str ⟨#[c]⟩ else none) = some d := e
      by_cases hz : z.length ≤ 1000000
      · rw [if_pos hz] at e'
        obtain ⟨c, hc, rfl⟩ := Option.map_eq_some_iff.mp e'
        exact .inr (.inr ⟨z, i, c, rfl, rfl, by rw [sizeLine_eq]; omega, hc, g.val hR (.str _)⟩)
      · rw [if_neg hz] at e'; cases e'
    | non => exact seq .non e
    | bl b => exact seq (.bl b) e
    | int j => exact seq (.int j) e
    | tup h r => exact seq (.tup h r) e
    | lst h r => exact seq (.lst h r) e
    | rol h r => exact seq (.rol h r) e
    | loc h => exact seq (.loc h) e
  | _ => cases e
theorem o_isN : OpR X (compareOp .Is) (rdOp X.K isNO) := opr_imp op_isN fun x y H Q ⟨θ, H0, M, a, b, d, hR, ra, rb, e, g⟩ => by
  cases rb with
  | non =>
    refine ⟨rfl, ?_⟩
    cases ra <;> (cases e; exact g.val hR (.bl _))
  | _ => cases ra <;> cases e
theorem o_notN : OpR X (compareOp .IsNot) (rdOp X.K notNO) := opr_imp op_notN fun x y H Q ⟨θ, H0, M, a, b, d, hR, ra, rb, e, g⟩ => by
  cases rb with
  | non =>
    refine ⟨rfl, ?_⟩
    cases ra <;> (cases e; exact g.val hR (.bl _))
  | _ => cases ra <;> cases e
theorem in_text {x y : Str} (hx : x.length = 1) : (!(Builtin.Str.occurrences y x 0 y.length 1).isEmpty) = decide (x.cps.getD 0 0 ∈ y.cps.toList) := by
  obtain ⟨⟨l⟩⟩ := x
  have hl : l.length = 1 := hx
  match l, hl with
  | [c], _ => exact PySem.StrLaws.found_one y c
theorem o_in (hu : X.A.units + 65 < cLine) : OpR X (compareOp .In) (rdOp X.K inO) := by
  intro pins s σ H x y v u Q I rx ry ⟨θ, H0, M, a, b, d, hR, ra, rb, e, g⟩
  obtain ⟨k, hk, rfl⟩ := Option.map_eq_some_iff.mp e
  rcases inM_cases hk with ⟨x', y', ys, h1, h2, h3, h4, h5, rfl⟩ | ⟨x', y', rfl, rfl, h1, rfl⟩
  · exact in_core (neg := false) rfl hu I rx ry (clean_rel hR ra h1) (clean_rel hR rb h2) h3 h4 h5 (g.val hR (.bl _))
  · cases ra
    cases rb
    exact op_in_str pins s σ H _ _ v u Q I rx ry ⟨x', y', rfl, rfl, by rw [in_text h1]; exact g.val hR (.bl _)⟩
theorem o_nin (hu : X.A.units + 65 < cLine) : OpR X (compareOp .NotIn) (rdOp X.K ninO) := by
  intro pins s σ H x y v u Q I rx ry ⟨θ, H0, M, a, b, d, hR, ra, rb, e, g⟩
  obtain ⟨k, hk, rfl⟩ := Option.map_eq_some_iff.mp e
  rcases inM_cases hk with ⟨x', y', ys, h1, h2, h3, h4, h5, rfl⟩ | ⟨x', y', rfl, rfl, h1, rfl⟩
  · exact in_core (neg := true) rfl hu I rx ry (clean_rel hR ra h1) (clean_rel hR rb h2) h3 h4 h5 (g.val hR (.bl _))
  · cases ra
    cases rb
    exact op_notin_str pins s σ H _ _ v u Q I rx ry ⟨x', y', rfl, rfl, by rw [in_text h1]; exact g.val hR (.bl _)⟩
/-! ### built-ins -/
def lenB : List D → DSt → Option D := fun ds M => match ds with
  | [.str z] => if z.length ≤ 1000000 then some (.int z.length) else none
  | [d] => (seqOf M d).map fun xs => .int xs.length
  | _ => none
theorem one_rel {K : PySem.W.Frag} {θ : List Addr} {H0 : Hp} {vs : List V} {d : D} (r : RelDs K θ H0 vs [d]) : ∃ v, vs = [v] ∧ RelD K θ H0 v d := by
  cases r with
  | cons h t => cases t; exact ⟨_, rfl, h⟩
theorem two_rel {K : PySem.W.Frag} {θ : List Addr} {H0 : Hp} {vs : List V} {d e : D} (r : RelDs K θ H0 vs [d, e]) : ∃ v w, vs = [v, w] ∧ RelD K θ H0 v d ∧ RelD K θ H0 w e := by
  cases r with
  | cons h t =>
    cases t with
    | cons h2 t => cases t; exact ⟨_, _, rfl, h, h2⟩
theorem callr_or {f : Value} {r r' : List V → Hp → VK → Prop} (h : CallR X f r) (h' : CallR X f r') : CallR X f (fun vs H Q => r vs H Q ∨ r' vs H Q) := fun pins s σ H vs us Q I rx q => q.elim (h pins s σ H vs us Q I rx) (h' pins s σ H vs us Q I rx)
theorem b_len : CallR X (.builtin "len") (rdCall X.K lenB) := callr_imp (callr_or call_len_seq call_len_str) fun vs H Q ⟨θ, H0, M, ds, d, hR, rs, e, g⟩ => by
  have key : ∀ {c : D} {v : V}, RelD X.K θ H0 v c → (seqOf M c).map (fun xs => D.int xs.length) = some d → ∃ p ys, [v] = [V.ref p] ∧ (SqL X.K H p ys ∨ SqT X.K H p ys) ∧ Q (.int ys.length) H := fun {c v} rv e => by
    obtain ⟨xs, h1, rfl⟩ := Option.map_eq_some_iff.mp e
    obtain ⟨p, vs, rfl, r2, h | h⟩ := seq_rel hR rv h1
    · exact ⟨p, vs, rfl, .inl h.1, by rw [r2.len]; exact g.val hR (.int _)⟩
    · exact ⟨p, vs, rfl, .inr h.1, by rw [r2.len]; exact g.val hR (.int _)⟩
  match ds, rs, e with
  | [.str z], rs, e =>
    obtain ⟨v, rfl, rv⟩ := one_rel rs
    cases rv
    have e' : (if z.length ≤ 1000000 then some (D.int z.length) else none) = some d := e
    by_cases hz : z.length ≤ 1000000
    · rw [if_pos hz] at e'
      cases e'
      exact .inr ⟨z, rfl, by rw [sizeLine_eq]; omega, g.val hR (.int _)⟩
    · rw [if_neg hz] at e'; cases e'
  | [.tup xs], rs, e | [.lst xs], rs, e | [.rol xs], rs, e | [.loc l], rs, e | [.non], rs, e | [.bl b], rs, e | [.int i], rs, e =>
    obtain ⟨v, rfl, rv⟩ := one_rel rs
    exact .inl (key rv e)
def absB : List D → DSt → Option D
  | [.int i], _ => some (.int (if i < 0 then -i else i))
  | _, _ => none
theorem b_abs : CallR X (.builtin "abs") (rdCall X.K absB) := callr_imp call_abs fun vs H Q ⟨θ, H0, M, ds, d, hR, rs, e, g⟩ => by
  match ds, rs, e with
  | [.int i], rs, e =>
    obtain ⟨v, rfl, rv⟩ := one_rel rs
    cases rv
    cases e
    exact ⟨i, rfl, g.val hR (.int _)⟩
def intB : List D → DSt → Option D
  | [.int i], _ => some (.int i)
  | [.bl b], _ => some (.int (if b then 1 else 0))
  | _, _ => none
theorem b_int : CallR X (.type "int") (rdCall X.K intB) := callr_imp call_int1 fun vs H Q ⟨θ, H0, M, ds, d, hR, rs, e, g⟩ => by
  match ds, rs, e with
  | [.int i], rs, e =>
    obtain ⟨v, rfl, rv⟩ := one_rel rs
    cases rv
    cases e
    exact .inl ⟨i, rfl, g.val hR (.int _)⟩
  | [.bl b], rs, e =>
    obtain ⟨v, rfl, rv⟩ := one_rel rs
    cases rv
    cases e
    refine .inr ⟨b, rfl, ?_⟩
    have h := g.val hR (.int (if b then 1 else 0))
    cases b <;> exact h
/-- isinstance -/
def typD : D → String
  | .non => "NoneType"
  | .bl _ => "bool"
  | .int _ => "int"
  | .str _ => "str"
  | .tup _ => "tuple"
  | .lst _ => "list"
  | .rol _ => "list"
  | .loc _ => "list"
def isiD (T : String) (d : D) : Bool := typD d == T || (T == "int" && typD d == "bool")
def vIsi (T : String) (fa : Dm D) : Dm D := vUn (fun d _ => some (.bl (isiD T d))) fa
theorem tyx_of {θ : List Addr} {H0 H : Hp} {M : DSt} {v : V} {d : D} (hR : Rep X.K θ H0 H M) (r : RelD X.K θ H0 v d) : TyX X.K H v (.type (typD d)) := by
  have rdt : ∀ {a : Addr} {xs : List V}, SqT X.K H a xs → TyX X.K H (.ref a) (.type "tuple") := fun {a xs} h => by
    rcases h with (h | ⟨o, h⟩) | ⟨o, its, n, h, c, _⟩
    · exact .base (.tup h)
    · exact .fTuple h
    · exact .kTuple h c
  have rdl : ∀ {a : Addr} {xs : List V}, SqL X.K H a xs → TyX X.K H (.ref a) (.type "list") := fun {a xs} h => by
    rcases h with (h | ⟨o, h⟩) | ⟨o, its, n, h, c, _⟩
    · exact .base (.lst h)
    · exact .base (.frz h)
    · exact .kList h c
  cases r with
  | non => exact .base .non
  | bl b => exact .base (.bl b)
  | int i => exact .base (.int i)
  | str x => exact .base (.str x)
  | tup h r => exact rdt (Evl.ex_t hR.ex h)
  | lst h r => exact rdl (SqL.of (hR.ex _ _ h))
  | rol h r => exact rdl (Evl.ex_l hR.ex h)
  | @loc a l h =>
    obtain ⟨m, hm⟩ := getElem?_of_len hR.len h
    have z := hR.st l a m h hm
    cases m with
    | lst ds =>
      obtain ⟨vs, q, _⟩ := z
      exact rdl (SqL.of q)
theorem de_isi {W : WX} {T : String} {x : Str} {e : Expr} {fa : Dm D} {p p1 pos : Pos} (he : De X W e fa) (hk : ∀ d : D, kitB (typD d) T = some (isiD T d)) (hm : X.mg "isinstance" = none) (hmT : X.mg x = none) (hv : bootBuiltins x = some (.type T)) (hg : Gl X "isinstance" := by rfl) (hgT : Gl X x := by rfl)
    (hn : x ≠ "__name__" := by decide) (hd : (x == ("__debug__" : Str)) = false := by decide)
    (h1 : starEach [e, .Name x p1] X.env = (false, eval e X.env) :: starEach [.Name x p1] X.env := by rfl) (h2 : starEach [.Name x p1] X.env = (false, eval (.Name x p1) X.env) :: starEach [] X.env := by rfl) (hpl : (backTo pos (starEach [.Name x p1] X.env)).any (·.1) = false := by rfl) :
    De X W (.Call (.Name "isinstance" p) [e, .Name x p1] [] pos) (vIsi T fa) :=
  pe_imp (pe_callB call_isi hg hm (by decide +kernel) (pa_cons he (pa_cons (pe_bltn (v := .ty T) hgT hmT hv rfl hn hd) pa_nil h2) h1) (by decide) (by decide) h1 hpl) fun σ H Q q => by
    refine one q fun v H1 θ H0 ρ M d r hR _ rv e p => ?_
    cases e
    exact ⟨v, .ty T, .type (typD d), .type T, isiD T d, rfl, .ty T, tyx_of hR rv, kit_ty (hk d), p _ H1 θ H0 (Grow.refl ..) hR (.bl _)⟩
theorem isi_all {T : String} (h : ∀ t ∈ ["NoneType", "bool", "int", "str", "tuple", "list"], kitB t T = some (t == T || (T == "int" && t == "bool"))) (d : D) : kitB (typD d) T = some (isiD T d) := h (typD d) (by cases d <;> simp [typD])
theorem isi_tuple : ∀ d : D, kitB (typD d) "tuple" = some (isiD "tuple" d) := fun d => isi_all (by decide +kernel) d
theorem isi_int : ∀ d : D, kitB (typD d) "int" = some (isiD "int" d) := fun d => isi_all (by decide +kernel) d
theorem isi_bool : ∀ d : D, kitB (typD d) "bool" = some (isiD "bool" d) := fun d => isi_all (by decide +kernel) d
theorem isi_str : ∀ d : D, kitB (typD d) "str" = some (isiD "str" d) := fun d => isi_all (by decide +kernel) d
theorem isi_list : ∀ d : D, kitB (typD d) "list" = some (isiD "list" d) := fun d => isi_all (by decide +kernel) d
/-! all, any -/
def blsD : List D → Option (List Bool)
  | [] => some []
  | .bl b :: ds => (blsD ds).map (b :: ·)
  | _ :: _ => none
theorem bls_rel {θ : List Addr} {H0 : Hp} : ∀ {vs : List V} {ds : List D} {bs : List Bool}, RelDs X.K θ H0 vs ds → blsD ds = some bs → vs = bs.map V.bl
  | _, [], _, .nil, e => by cases e; rfl
  | _, d :: ds, bs, .cons h r, e => by
    cases h with
    | bl b =>
      obtain ⟨bs', h1, rfl⟩ := Option.map_eq_some_iff.mp (show (blsD ds).map (b :: ·) = some bs from e)
      rw [bls_rel r h1]
      rfl
    | _ => cases e
def boolsB (f : List Bool → Bool) : List D → DSt → Option D := fun ds M => match ds with
  | [d] => (lstOf M d).bind fun xs => (blsD xs).map fun bs => .bl (f bs)
  | _ => none
theorem bools_rel {f : List Bool → Bool} {vs : List V} {H : Hp} {Q : VK} (q : rdCall X.K (boolsB f) vs H Q) : ∃ (a : Addr) (bs : List Bool), vs = [V.ref a] ∧ SqL X.K H a (bs.map V.bl) ∧ Q (.bl (f bs)) H := by
  obtain ⟨θ, H0, M, ds, d, hR, rs, e, g⟩ := q
  match ds, rs, e with
  | [c], rs, e =>
    obtain ⟨v, rfl, rv⟩ := one_rel rs
    obtain ⟨xs, h1, h2⟩ := Option.bind_eq_some_iff.mp e
    obtain ⟨bs, h3, rfl⟩ := Option.map_eq_some_iff.mp h2
    obtain ⟨a, vs, rfl, ha, r2⟩ := lstOf_rel hR rv h1
    have := bls_rel r2 h3
    subst this
    exact ⟨a, bs, rfl, SqL.of ha, g.val hR (.bl _)⟩
theorem b_all (hc : X.calm = true) : CallR X (.builtin "all") (rdCall X.K (boolsB fun bs => bs.all id)) := callr_imp (cr_all hc) fun vs H Q q => bools_rel q
theorem b_any (hc : X.calm = true) : CallR X (.builtin "any") (rdCall X.K (boolsB fun bs => bs.any id)) := callr_imp (cr_any hc) fun vs H Q q => bools_rel q
/-! tuple(..), list(..) -/
def tupB : List D → DSt → Option D := fun ds M => match ds with
  | [d] => (seqOf M d).map .tup
  | _ => none
def lstB : List D → DSt → Option D := fun ds M => match ds with
  | [d] => (seqOf M d).map .lst
  | _ => none
theorem b_tup : CallR X (.type "tuple") (rdCall X.K tupB) := callr_imp call_tuple_of fun vs H Q ⟨θ, H0, M, ds, d, hR, rs, e, g⟩ => by
  match ds, rs, e with
  | [c], rs, e =>
    obtain ⟨v, rfl, rv⟩ := one_rel rs
    obtain ⟨xs, h1, rfl⟩ := Option.map_eq_some_iff.mp e
    obtain ⟨p, vs, rfl, r2, h | h⟩ := seq_rel hR rv h1
    · exact ⟨p, vs, rfl, .inl ⟨h.1, fun l hl => g.tup hR r2 hl⟩⟩
    · obtain ⟨hz, rfl⟩ := h
      exact ⟨p, vs, rfl, .inr ⟨hz, g.val hR rv⟩⟩
theorem b_lst : CallR X (.type "list") (rdCall X.K lstB) := callr_imp call_list_of fun vs H Q ⟨θ, H0, M, ds, d, hR, rs, e, g⟩ => by
  match ds, rs, e with
  | [c], rs, e =>
    obtain ⟨v, rfl, rv⟩ := one_rel rs
    obtain ⟨xs, h1, rfl⟩ := Option.map_eq_some_iff.mp e
    obtain ⟨p, vs, rfl, r2, h | h⟩ := seq_rel hR rv h1
    · exact ⟨p, vs, rfl, .inl h.1, fun l hl => g.lst hR r2 hl⟩
    · exact ⟨p, vs, rfl, .inr h.1, fun l hl => g.lst hR r2 hl⟩
end
section
variable {X : Cx} {W : WX} {e : Expr} {es : List Expr} {fs : Dm (List D)} {p pos : Pos} {x : Str}
/-- a call of a built-in function, of a built-in type -/
theorem de_b {id : String} {g : List D → DSt → Option D} (hc : CallR X (.builtin id) (rdCall X.K g)) (hm : X.mg x = none) (hv : bootBuiltins x = some (.builtin id)) (ha : Da X W (e :: es) fs) (hg : Gl X x := by rfl) (hn : x ≠ "__name__" := by decide) (hdb : (x == ("__debug__" : Str)) = false := by decide)
    (he : starEach (e :: es) X.env = (false, eval e X.env) :: starEach es X.env := by rfl) (hpl : (backTo pos (starEach es X.env)).any (·.1) = false := by rfl) : De X W (.Call (.Name x p) (e :: es) [] pos) (vCall g fs) :=
  pe_imp (pe_callB hc hg hm hv ha hn hdb he hpl) fun σ H Q q => by
    refine one q fun v H1 θ H0 ρ M ds r hR _ rv e p => ?_
    obtain ⟨d, e3, g3⟩ := post_lift e p
    exact ⟨θ, H0, M, ds, d, hR, rv, e3, g3⟩
theorem de_bt {T : String} {g : List D → DSt → Option D} (hc : CallR X (.type T) (rdCall X.K g)) (hm : X.mg x = none) (hv : bootBuiltins x = some (.type T)) (ha : Da X W (e :: es) fs) (hg : Gl X x := by rfl) (hn : x ≠ "__name__" := by decide) (hdb : (x == ("__debug__" : Str)) = false := by decide)
    (he : starEach (e :: es) X.env = (false, eval e X.env) :: starEach es X.env := by rfl) (hpl : (backTo pos (starEach es X.env)).any (·.1) = false := by rfl) : De X W (.Call (.Name x p) (e :: es) [] pos) (vCall g fs) :=
  pe_imp (pe_callTy hc hg hm hv ha hn hdb he hpl) fun σ H Q q => by
    refine one q fun v H1 θ H0 ρ M ds r hR _ rv e p => ?_
    obtain ⟨d, e3, g3⟩ := post_lift e p
    exact ⟨θ, H0, M, ds, d, hR, rv, e3, g3⟩
end
end DL
end

section
set_option Elab.async false
set_option linter.all false
set_option maxRecDepth 100000
set_option maxHeartbeats 1000000
/-! DS1: sets of tuples of any depth, of numbers. -/
namespace DL
open PySem PySem.Spec PyProof.Rows L2
/-! ### keys: numbers, None and tuples of such -/
mutual
def numK : NestedKey → Bool
  | .none => true
  | .num _ => true
  | .text _ => false
  | .tup ks => numKs ks
def numKs : List NestedKey → Bool
  | [] => true
  | k :: ks => numK k && numKs ks
end
def IsN (h : Heap) (k : NestedKey) (a : Addr) : Prop := NestedIs h k (.ref a) ∧ k.depth ≤ 8 ∧ numK k = true
section
variable {P : Program} {w : World} {A : Around} {E : Value → Shared → Prop} {s : Shared}
theorem IsN.knd {h : Heap} {k : NestedKey} {a : Addr} (x : IsN h k a) : (nestedKind P w).is h k a := ⟨x.1, x.2.1⟩
theorem IsN.tup {k : NestedKey} {a : Addr} (x : IsN s.heap k a) : s.TypeIs (.ref a) "tuple" := by
  obtain ⟨x, _⟩ := x
  cases x with
  | tup h1 h2 _ _ => exact ⟨_, h1, h2⟩
theorem IsN.stay {h h' : Heap} {k : NestedKey} {a : Addr} (x : IsN h k a) (keep : ∀ b o vs n, h.get? b = some o → o.data = .seq vs n → h'.get? b = some o) : IsN h' k a := ⟨NestedIs.at keep _ _ x.1, x.2⟩
/-! no class statement stands among a key's parts; its hash goes by value -/
def NoCls (P : Program) (w : World) (n : Nat) (s : Shared) (v : Value) : Prop := ∀ (A : Around) (E : Value → Shared → Prop) (Q : Bool → Shared → Prop), Q false s → wpAny (model P w) A (ofAClassStatement n v) Q E s
def ByVal (P : Program) (w : World) (n : Nat) (s : Shared) (v : Value) : Prop := ∀ (A : Around) (E : Value → Shared → Prop) (Q : Bool → Shared → Prop), Q true s → wpAny (model P w) A (hashByValue n v) Q E s
theorem noCls_tup {n : Nat} {a : Addr} {o : Obj} {vs : Array Value} {m : Nat} (ho : s.heap.get? a = some o) (hc : o.cls = .type "tuple") (hd : o.data = .seq vs m) (all : ∀ v ∈ vs.toList, NoCls P w n s v) : NoCls P w (n + 1) s (.ref a) := fun A E Q h => by
  unfold ofAClassStatement
  refine wpAny_bind (wpAny_typeOf ⟨o, ho, hc⟩ ?_)
  dsimp only
  have e : (("tuple" : String) == "tuple") = true := by decide
  simp only [e, if_true, Bool.not_true, Bool.false_eq_true, if_false]
  try refine wpAny_bind (wpAny_pure ?_)
  try simp only [Bool.not_true, Bool.false_eq_true, if_false]
  show wpAny _ _ (seqItems? (.ref a) >>= _) _ _ s
  refine wpAny_bind (wpAny_seqItems ho hd ?_)
  dsimp only
  refine wpAny_bind ?_
  show wpAny _ _ (forIn vs _ _) _ _ s
  rw [← Array.forIn_toList]
  refine wpAny_forIn_list _ (fun todo r s' => r.1 = none ∧ s' = s ∧ ∀ v ∈ todo, NoCls P w n s v) _ ?_ ?_ _ _ ⟨rfl, rfl, all⟩
  · rintro v todo r s' ⟨hr, rfl, now⟩
    refine wpAny_bind (now v List.mem_cons_self _ _ _ ?_)
    simp only [Bool.false_eq_true, if_false]
    exact wpAny_pure ⟨rfl, rfl, fun u hu => now u (List.mem_cons_of_mem _ hu)⟩
  · rintro ⟨r1, r2⟩ s' ⟨hr, rfl, _⟩
    simp only at hr
    subst hr
    exact wpAny_pure h
theorem byVal_tup {n : Nat} {a : Addr} {o : Obj} {vs : Array Value} {m : Nat} (ho : s.heap.get? a = some o) (hc : o.cls = .type "tuple") (hd : o.data = .seq vs m) (all : ∀ v ∈ vs.toList, ByVal P w n s v) : ByVal P w (n + 1) s (.ref a) := fun A E Q h => by
  have isT : s.TypeIs (.ref a) "tuple" := ⟨o, ho, hc⟩
  unfold hashByValue
  refine wpAny_bind (wpAny_specialOf isT F.slot_tuple_hash.lookup ?_)
  show wpAny _ _ (seqItems? (.ref a) >>= _) _ _ s
  refine wpAny_bind (wpAny_seqItems ho hd ?_)
  refine wpAny_bind ?_
  show wpAny _ _ (forIn vs _ _) _ _ s
  rw [← Array.forIn_toList]
  refine wpAny_forIn_list _ (fun todo r s' => r.1 = none ∧ s' = s ∧ ∀ v ∈ todo, ByVal P w n s v) _ ?_ ?_ _ _ ⟨rfl, rfl, all⟩
  · rintro v todo r s' ⟨hr, rfl, now⟩
    refine wpAny_bind (now v List.mem_cons_self _ _ _ ?_)
    simp only [Bool.not_true, Bool.false_eq_true, if_false]
    exact wpAny_pure ⟨rfl, rfl, fun u hu => now u (List.mem_cons_of_mem _ hu)⟩
  · rintro ⟨r1, r2⟩ s' ⟨hr, rfl, _⟩
    simp only at hr
    subst hr
    exact wpAny_pure h
theorem noCls_plain {n : Nat} {v : Value} (h : ofAClassStatement n v = pure false) : NoCls P w n s v := fun A E Q q => by rw [h]; exact wpAny_pure q
theorem byVal_plain {n : Nat} {v : Value} (h : hashByValue n v = pure true) : ByVal P w n s v := fun A E Q q => by rw [h]; exact wpAny_pure q
mutual
theorem noCls_key : ∀ (k : NestedKey) (v : Value) (n : Nat), NestedIs s.heap k v → numK k = true → k.depth ≤ n → NoCls P w n s v
  | .none, _, n, x, _, _ => by cases x; exact noCls_plain (by cases n <;> rfl)
  | .num i, _, n, x, _, _ => by cases x <;> exact noCls_plain (by cases n <;> rfl)
  | .text y, _, n, x, hk, _ => nomatch hk
  | .tup ks, _, n, x, hk, hn => by
    cases x with
    | tup hg hc hd all =>
      simp only [NestedKey.depth] at hn
      match n, hn with
      | n + 1, hn => exact noCls_tup hg hc hd (noCls_keys ks _ n all hk (by omega))
theorem noCls_keys : ∀ (ks : List NestedKey) (vs : List Value) (n : Nat), NestedAll s.heap ks vs → numKs ks = true → NestedKey.depthAll ks ≤ n → ∀ v ∈ vs, NoCls P w n s v
  | [], _, n, x, _, _, v, hv => by cases x; cases hv
  | k :: ks, _, n, x, hk, hn, v, hv => by
    cases x with
    | cons x1 x2 =>
      have hk' := Bool.and_eq_true_iff.mp hk
      simp only [NestedKey.depthAll] at hn
      rcases List.mem_cons.mp hv with e | hv
      · rw [e]; exact noCls_key k _ n x1 hk'.1 (by omega)
      · exact noCls_keys ks _ n x2 hk'.2 (by omega) v hv
end
mutual
theorem byVal_key : ∀ (k : NestedKey) (v : Value) (n : Nat), NestedIs s.heap k v → numK k = true → k.depth ≤ n → ByVal P w n s v
  | .none, _, n, x, _, _ => by cases x; exact byVal_plain (by cases n <;> rfl)
  | .num i, _, n, x, _, _ => by cases x <;> exact byVal_plain (by cases n <;> rfl)
  | .text y, _, n, x, hk, _ => nomatch hk
  | .tup ks, _, n, x, hk, hn => by
    cases x with
    | tup hg hc hd all =>
      simp only [NestedKey.depth] at hn
      match n, hn with
      | n + 1, hn => exact byVal_tup hg hc hd (byVal_keys ks _ n all hk (by omega))
theorem byVal_keys : ∀ (ks : List NestedKey) (vs : List Value) (n : Nat), NestedAll s.heap ks vs → numKs ks = true → NestedKey.depthAll ks ≤ n → ∀ v ∈ vs, ByVal P w n s v
  | [], _, n, x, _, _, v, hv => by cases x; cases hv
  | k :: ks, _, n, x, hk, hn, v, hv => by
    cases x with
    | cons x1 x2 =>
      have hk' := Bool.and_eq_true_iff.mp hk
      simp only [NestedKey.depthAll] at hn
      rcases List.mem_cons.mp hv with e | hv
      · rw [e]; exact byVal_key k _ n x1 hk'.1 (by omega)
      · exact byVal_keys ks _ n x2 hk'.2 (by omega) v hv
end
/-- nothing of the table shows in a search -/
theorem unseen {k : NestedKey} {b : Addr} {Q : Bool → Shared → Prop} (hk : IsN s.heap k b) {ys : List Value} (hy : ∀ y ∈ ys, ∃ k' c, y = Value.ref c ∧ IsN s.heap k' c) (h : Q false s) : wpAny (model P w) A (searchCouldBeSeen (.ref b) ys) Q E s := by
  unfold searchCouldBeSeen
  refine wpAny_bind ?_
  refine wpAny_forIn_list _ (fun todo r s' => r.1 = none ∧ s' = s ∧ ∀ y ∈ todo, ∃ k' c, y = Value.ref c ∧ IsN s.heap k' c) _ ?_ ?_ _ _ ⟨rfl, rfl, hy⟩
  · rintro v todo r s' ⟨hr, rfl, now⟩
    obtain ⟨k', c, rfl, hc⟩ := now v List.mem_cons_self
    have later : ∀ y ∈ todo, ∃ k' c, y = Value.ref c ∧ IsN s'.heap k' c := fun u hu => now u (List.mem_cons_of_mem _ hu)
    dsimp only
    by_cases hv : (b == c || (carriedByValue (.ref b) && carriedByValue (.ref c))) = true
    · exact wp_if_pos hv (wpAny_pure ⟨rfl, rfl, later⟩)
    · refine wp_if_neg hv ?_
      refine wpAny_bind ((nestedKind P w).quiet hk.knd ?_)
      simp only [Bool.not_true, Bool.false_eq_true, if_false]
      refine wpAny_bind ((nestedKind P w).quiet hc.knd ?_)
      simp only [Bool.not_true, Bool.false_eq_true, if_false]
      refine wpAny_bind (noCls_key _ _ 8 hk.1 hk.2.2 hk.2.1 _ _ _ ?_)
      simp only [Bool.false_eq_true, if_false]
      refine wpAny_bind (noCls_key _ _ 8 hc.1 hc.2.2 hc.2.1 _ _ _ ?_)
      simp only [Bool.false_eq_true, if_false]
      exact wpAny_pure ⟨rfl, rfl, later⟩
  · rintro ⟨r1, r2⟩ s' ⟨hr, rfl, _⟩
    simp only at hr
    subst hr
    exact wpAny_pure h
end
end DL
end

section
set_option Elab.async false
set_option linter.all false
set_option maxRecDepth 100000
set_option maxHeartbeats 1000000
/-! DS2: the table of such a set: search, add. -/
namespace DL
open PySem PySem.Spec PyProof.Rows L2
abbrev KA := Addr × NestedKey
abbrev hN (w : World) (k : NestedKey) : Int := k.hash w
def rowN (w : World) (p : KA) : Int × Value := (hN w p.2, Value.ref p.1)
/-- where the search for k stands behind c steps -/
abbrev stp (w : World) (t : SetTable) (k : NestedKey) (c : Nat) : SetTable.Probe := nth t.mask (runAt t.mask (SetTable.bits (hN w k) % (t.mask + 1)) (SetTable.bits (hN w k))) c
/-- rows picked in another order -/
theorem pick_rows {α : Type} (L : List α) (r : α → Int × Value) (es : Array (Int × Value)) (order : Array Nat) (hr : es.toList = L.map r) (hp : order.toList.Perm (List.range L.length)) :
    (order.filterMap (es[·]?)).toList = (order.toList.filterMap (L[·]?)).map r ∧ (order.toList.filterMap (L[·]?)).Perm L ∧ ((order.toList.filterMap (L[·]?)).map fun x => (r x).1) = order.toList.map fun i => (es.map (·.1)).getD i 0 := by
  have ent : ∀ i : Nat, es[i]? = (L[i]?).map r := fun i => by rw [← Array.getElem?_toList, hr, List.getElem?_map]
  have whole : ∀ n, n ≤ L.length → (List.range n).filterMap (fun i => L[i]?) = L.take n := by
    intro n
    induction n with
    | zero => intro _; simp
    | succ n ih =>
      intro hn
      have hlt : n < L.length := hn
      rw [List.range_succ, List.filterMap_append, ih (Nat.le_of_lt hlt), List.take_succ, List.getElem?_eq_getElem hlt]
      simp [List.getElem?_eq_getElem hlt]
  refine ⟨?_, ?_, ?_⟩
  · rw [Array.toList_filterMap, List.map_filterMap]
    exact congrArg (fun f => List.filterMap f order.toList) (funext ent)
  · have h1 := hp.filterMap (fun i => L[i]?)
    rw [whole _ (Nat.le_refl _), List.take_length] at h1
    exact h1
  · have inb : ∀ i ∈ order.toList, i < L.length := fun i hi => List.mem_range.mp (hp.mem_iff.mp hi)
    clear hp
    generalize order.toList = l at inb
    induction l with
    | nil => rfl
    | cons i l ih =>
      have hi := inb i List.mem_cons_self
      rw [List.filterMap_cons_some (List.getElem?_eq_getElem hi), List.map_cons, List.map_cons, ih fun j hj => inb j (List.mem_cons_of_mem _ hj)]
      have e5 : (es.map (·.1))[i]? = some (r L[i]).1 := by rw [Array.getElem?_map, ent i, List.getElem?_eq_getElem hi]; rfl
      simp [Array.getD_eq_getD_getElem?, e5]
structure KSet (w : World) (h : Heap) (a : Addr) (L : List KA) (es : Array (Int × Value)) (ep : Nat) (t : SetTable) : Prop where
  ob : ∃ o, h.get? a = some o ∧ o.ExactSet ∧ o.data = .set es ep t
  rows : es.toList = L.map (rowN w)
  tab : TabOk t (L.map fun p => hN w p.2)
  nd : (L.map (·.2)).Nodup
  keys : ∀ p ∈ L, IsN h p.2 p.1
  plain : t.plain = true
  led : w.params.followText "set-order" = true ∨ t.led = true
  room : L.length * 5 < t.mask * 3
  few : L.length < 76
section
variable {P : Program} {w : World} {A : Around} {E : Value → Shared → Prop} {s : Shared} {a : Addr} {L : List KA} {es : Array (Int × Value)} {ep : Nat} {t : SetTable} {h : Heap}
theorem KSet.size (S : KSet w h a L es ep t) : es.size = L.length := by
  have e := congrArg List.length S.rows
  rwa [Array.length_toList, List.length_map] at e
theorem KSet.fits (S : KSet w h a L es ep t) : t.fits es.size = true := by
  have h1 := S.tab.sz
  have h2 := S.size
  have h3 := S.room
  rw [List.length_map] at h1
  unfold SetTable.fits SetTable.fill
  rw [S.tab.dm, Bool.and_eq_true, beq_iff_eq, decide_eq_true_eq]
  show t.place.size = es.size ∧ t.place.size + 0 ≤ t.mask
  omega
theorem KSet.entry (S : KSet w h a L es ep t) {i : Nat} {p : KA} (e : L[i]? = some p) : es[i]? = some (hN w p.2, Value.ref p.1) := by
  rw [← Array.getElem?_toList, S.rows, List.getElem?_map, e]
  rfl
theorem KSet.whole (S : KSet w h a L es ep t) : ¬ t.gaveWay = true := by
  unfold SetTable.gaveWay
  rw [mask_odd S.tab.mok]
  decide
theorem stp_dummy (w : World) (t : SetTable) (k : NestedKey) (c : Nat) : (stp w t k c).dummy = none := by
  have key : ∀ (n : Nat) (p : SetTable.Probe), p.dummy = none → (nth t.mask p n).dummy = none := by
    intro n
    induction n with
    | zero => exact fun p h => h
    | succ n ih => exact fun p h => ih (adv t.mask p) (by unfold adv; split <;> exact h)
  exact key c _ rfl
/-- the search for k from the c-th place of its way; K: the first free place of it -/
theorem search_steps (S : KSet w s.heap a L es ep t) {x : Addr} {k : NestedKey} (hx : IsN s.heap k x) (hu : A.units + 8 < cLine) {K : Nat}
    (hK : way t.mask (hN w k) K ∉ t.place.toList) (taken : ∀ c, c < K → way t.mask (hN w k) c ∈ t.place.toList) {Q : SetFound → Shared → Prop}
    (there : k ∈ L.map (·.2) → Q (.there none) s) (gone : k ∉ L.map (·.2) → Q (.free (way t.mask (hN w k) K) false) s) :
    ∀ (f c : Nat) (stand : Option SetTable.Probe), stand.getD (t.probeStart (hN w k)) = stp w t k c → c ≤ K → K < 10 * SetTable.turns t.mask → K - c < f →
      (∀ (i : Nat) (p : KA), L[i]? = some p → p.2 = k → ∃ c', c ≤ c' ∧ c' < K ∧ t.place.toList[i]? = some (way t.mask (hN w k) c')) →
      wpAny (model P w) A (setSearchFrom a (.ref x) (hN w k) true f stand) Q E s
  | 0, c, stand, _, _, _, hf, _ => absurd hf (Nat.not_lt_zero _)
  | f + 1, c, stand, hst, hc, hKf, hf, ahead => by
    obtain ⟨o, ho, hex, hd⟩ := S.ob
    have from_c : ∀ q, nth t.mask (stp w t k c) q = stp w t k (c + q) := fun q => (nth_add t.mask c _ q).symm
    have at_c : ∀ q, (nth t.mask (stp w t k c) q).j = way t.mask (hN w k) (c + q) := fun q => congrArg SetTable.Probe.j (from_c q)
    have hashAt : ∀ (i : Nat) (p : KA), L[i]? = some p → (fun i => (es[i]?.map (·.1)).getD 0) i = hN w p.2 := fun i p hp => by
      show (es[i]?.map (·.1)).getD 0 = _
      rw [S.entry hp]
      rfl
    have spec := go_spec t S.tab.ris S.tab.dm (fun i => (es[i]?.map (·.1)).getD 0) (hN w k) (10 * SetTable.turns t.mask) (K - c) _ (stp_dummy w t k c) (by omega)
      (fun q hq => by rw [at_c]; exact taken (c + q) (by omega)) (by rw [at_c, show c + (K - c) = K by omega]; exact hK)
    rw [setSearchFrom_succ]
    refine wpAny_bind (wpAny_setState_of ho hd S.fits ?_)
    dsimp only
    refine wp_if_neg S.whole ?_
    try refine wpAny_bind (wpAny_pure ?_)
    rcases spec with ⟨q, i, hq, hi, hh, hno, hpr⟩ | ⟨hno, hpr⟩
    · -- a candidate stands there
      have met : t.probe (fun i => (es[i]?.map (·.1)).getD 0) (hN w k) (stand.getD (t.probeStart (hN w k))) = some (.candidate (way t.mask (hN w k) (c + q)) i (stp w t k (c + (q + 1)))) := by
        rw [hst, ← at_c, ← from_c]
        exact hpr
      rw [met]
      dsimp only
      rw [at_c] at hi
      have hil : i < L.length := by
        have h1 : i < t.place.toList.length := (List.getElem?_eq_some_iff.mp hi).1
        have h2 := S.tab.sz
        rw [List.length_map] at h2
        rw [Array.length_toList] at h1
        omega
      have hp : L[i]? = some L[i] := List.getElem?_eq_getElem hil
      generalize L[i] = p at hp
      have hmem : p ∈ L := List.mem_of_getElem? hp
      have goOn : wpAny (model P w) A (searchRest a (.ref x) (hN w k) true f es t (way t.mask (hN w k) (c + q)) i (stp w t k (c + (q + 1)))) Q E s := by
        unfold searchRest
        rw [S.entry hp]
        dsimp only
        refine wpAny_bind (wpAny_holding ((nestedKind P w).eqBool hu (S.keys p hmem).knd hx.knd ?_))
        refine wpAny_bind (wpAny_setState_of ho hd S.fits ?_)
        dsimp only
        by_cases same : p.2 = k
        · refine wp_if_pos (by simp [same]) ?_
          exact wpAny_pure (there (List.mem_map.mpr ⟨p, hmem, same⟩))
        · refine wp_if_neg (by simp [same]) ?_
          try refine wpAny_bind (wpAny_pure ?_)
          rw [sameMem]
          dsimp only
          have hsl : t.slot (way t.mask (hN w k) (c + q)) = .live i := slot_live S.tab.ris hi
          simp only [if_true, hsl, S.entry hp]
          refine wpAny_bind (wpAny_isSame_ref_self (wpAny_bind (wpAny_pure ?_)))
          simp only [if_true]
          refine wp_if_neg (by simp [same]) ?_
          refine search_steps S hx hu hK taken there gone f (c + (q + 1)) _ rfl (by omega) hKf (by omega) fun i0 p0 h0 hk0 => ?_
          obtain ⟨c', a1, a2, a3⟩ := ahead i0 p0 h0 hk0
          refine ⟨c', ?_, a2, a3⟩
          have not_before : ¬ c' < c + q := fun z => hno (c' - c) i0 (by omega) (by rw [at_c, show c + (c' - c) = c' by omega]; exact a3) ((hashAt i0 p0 h0).trans (congrArg (hN w) hk0))
          have not_here : c' ≠ c + q := fun ec => by
            rw [ec] at a3
            have s0 := slot_live S.tab.ris a3
            rw [hsl] at s0
            injection s0 with s0
            rw [← s0, hp] at h0
            exact same ((congrArg Prod.snd (Option.some.inj h0)).trans hk0)
          omega
      by_cases hl : t.led = true
      · refine wp_if_neg (by simp [hl]) ?_
        try refine wpAny_bind (wpAny_pure ?_)
        exact goOn
      · refine wp_if_pos (by simp [hl]) ?_
        refine wpAny_bind (unseen hx (fun y hy => ?_) ?_)
        · obtain ⟨e, he, ee⟩ := List.mem_map.mp hy
          have he1 : e ∈ es ∧ e.1 = hN w k := by simpa using he
          have he2 : e ∈ es.toList := by simpa using he1.1
          rw [S.rows] at he2
          obtain ⟨p2, hp2, e2⟩ := List.mem_map.mp he2
          exact ⟨p2.2, p2.1, by rw [← ee, ← e2]; rfl, S.keys p2 hp2⟩
        · refine wp_if_neg (by decide) ?_
          try refine wpAny_bind (wpAny_pure ?_)
          exact goOn
    · -- a free place
      have met : t.probe (fun i => (es[i]?.map (·.1)).getD 0) (hN w k) (stand.getD (t.probeStart (hN w k))) = some (.empty (way t.mask (hN w k) K) none) := by
        have e2 : way t.mask (hN w k) K = (nth t.mask (stp w t k c) (K - c)).j := by rw [at_c, show c + (K - c) = K by omega]
        rw [hst, e2]
        exact hpr
      rw [met]
      dsimp only
      refine wpAny_pure (gone fun hm => ?_)
      obtain ⟨p0, h0, hk0⟩ := List.mem_map.mp hm
      obtain ⟨i0, hi0, e0⟩ := List.getElem_of_mem h0
      have h00 : L[i0]? = some p0 := by rw [List.getElem?_eq_getElem hi0, e0]
      obtain ⟨c', a1, a2, a3⟩ := ahead i0 p0 h00 hk0
      exact hno (c' - c) i0 (by omega) (by rw [at_c, show c + (c' - c) = c' by omega]; exact a3) ((hashAt i0 p0 h00).trans (congrArg (hN w) hk0))
theorem search_whole (S : KSet w s.heap a L es ep t) {x : Addr} {k : NestedKey} (hx : IsN s.heap k x) (hu : A.units + 8 < cLine) {Q : SetFound → Shared → Prop} (there : k ∈ L.map (·.2) → Q (.there none) s)
    (gone : ∀ K, k ∉ L.map (·.2) → way t.mask (hN w k) K ∉ t.place.toList → (∀ c, c < K → way t.mask (hN w k) c ∈ t.place.toList) → Q (.free (way t.mask (hN w k) K) false) s) :
    wpAny (model P w) A (setSearch a (.ref x) (hN w k) true) Q E s := by
  have hroom := S.room
  obtain ⟨K, hKf, hK, taken⟩ := S.tab.first (by rw [List.length_map]; omega) (hN w k)
  have small : 10 * SetTable.turns t.mask ≤ 1420 := by
    unfold SetTable.turns
    rcases S.tab.mok with e | e | e <;> omega
  unfold setSearch
  refine search_steps S hx hu hK taken there (fun hn => gone K hn hK taken) 100000 0 none rfl (Nat.zero_le _) hKf (by omega) fun i p hp hk => ?_
  have hi : (L.map fun p => hN w p.2)[i]? = some (hN w k) := by rw [List.getElem?_map, hp, ← hk]; rfl
  have hil : i < t.place.toList.length := by
    have h1 : i < L.length := (List.getElem?_eq_some_iff.mp hp).1
    have h2 := S.tab.sz
    rw [List.length_map] at h2
    rw [Array.length_toList]
    omega
  have hj := List.getElem?_eq_getElem hil
  obtain ⟨c, hc, e⟩ := S.tab.before hK hi hj
  exact ⟨c, Nat.zero_le _, hc, by rw [hj, e]⟩
theorem IsN.same {h h' : Heap} {k : NestedKey} {b : Addr} {o : Obj} (x : IsN h k b) (ho : h.get? a = some o) (hd : o.data = .set es ep t) (sb : Heap.SameBut a h h') : IsN h' k b :=
  x.stay fun c oc vs n hc hv => (sb.2 c fun e => by
    subst e
    rw [ho] at hc
    cases hc
    rw [hd] at hv
    cases hv).trans hc
/-- the table laid anew, larger -/
theorem relay {o : Obj} (ho : s.heap.get? a = some o) (hex : o.ExactSet) (hd : o.data = .set es ep t) (hrows : es.toList = L.map (rowN w)) (hsz : t.place.size = es.size) (hdm : t.dummies = #[]) (hfl : es.size ≤ t.mask)
    (nd : (L.map (·.2)).Nodup) (keys : ∀ p ∈ L, IsN s.heap p.2 p.1) (pl : t.plain = true) (ld : w.params.followText "set-order" = true ∨ t.led = true) (few : L.length < 76) {wanted M : Nat}
    (hw : SetTable.sizeAbove wanted - 1 = M) (hM : MaskOk M) (hw2 : SetTable.sizeAbove wanted ≤ 128) (hn : L.length * 5 < M * 3) {Q : Unit → Shared → Prop}
    (fin : ∀ h' L' es' ep' t', Heap.SameBut a s.heap h' → KSet w h' a L' es' ep' t' → L'.Perm L → Q () { s with heap := h' }) : wpAny (model P w) A (setRelay a wanted) Q E s := by
  have hsl : es.size = L.length := by
    have e := congrArg List.length hrows
    rwa [Array.length_toList, List.length_map] at e
  have hfits : t.fits es.size = true := by
    unfold SetTable.fits SetTable.fill
    rw [hdm, Bool.and_eq_true, beq_iff_eq, decide_eq_true_eq]
    show t.place.size = es.size ∧ t.place.size + 0 ≤ t.mask
    omega
  obtain ⟨t', order, e, hp, T, em, el, ep', ed⟩ := relaid_ok t (hs := es.map (·.1)) (wanted := wanted) hw hM (by rw [Array.size_map, hsl]; omega)
  rw [Array.size_map, hsl] at hp
  obtain ⟨r1, r2, r3⟩ := pick_rows L (rowN w) es order hrows hp
  generalize order.toList.filterMap (L[·]?) = L2 at r1 r2 r3
  rw [← r3] at T
  have hs2 : (order.filterMap (es[·]?)).size = es.size := by
    have e := congrArg List.length r1
    rw [Array.length_toList, List.length_map, r2.length_eq] at e
    rw [e, hsl]
  rw [setRelay_eq]
  refine wpAny_bind (wpAny_setState_of ho hd hfits ?_)
  dsimp only
  refine wp_if_neg (by rw [sizeLine_eq]; omega) ?_
  try refine wpAny_bind (wpAny_pure ?_)
  rw [e]
  dsimp only
  refine wpAny_bind ?_
  refine wp_if_neg (by rw [hs2]; simp) ?_
  try refine wpAny_bind (wpAny_pure ?_)
  refine wpAny_pure ?_
  dsimp only
  refine wpAny_storeSet_of ho hd ?_ (by rw [hs2, hsl, sizeLine_eq]; omega)
  have sb : Heap.SameBut a s.heap (s.heap.update a (Obj.putSet (order.filterMap (es[·]?)) t')) := Heap.SameBut.update ..
  refine fin _ L2 (order.filterMap (es[·]?)) (ep + 1) t' sb ?_ r2
  exact ⟨⟨_, store_at ho hd, ⟨hex.1, hex.2.1, hex.2.2⟩, rfl⟩, r1, T, (r2.map (·.2)).nodup_iff.mpr nd, fun p hpm => (keys p (r2.mem_iff.mp hpm)).same ho hd sb, by rw [ep']; exact pl, by rw [el]; exact ld,
    by rw [r2.length_eq, em]; exact hn, by rw [r2.length_eq]; exact few⟩
end
end DL
end

section
set_option Elab.async false
set_option linter.all false
set_option maxRecDepth 100000
set_option maxHeartbeats 1000000
/-! DS3: a set gets a key; set.update's loop; set(x) of a list or a tuple. -/
namespace DL
open PySem PySem.Spec PyProof.Rows L2
section
variable {P : Program} {w : World} {A : Around} {E : Value → Shared → Prop} {s : Shared} {a : Addr} {L : List KA} {es : Array (Int × Value)} {ep : Nat} {t : SetTable}
theorem key_added (S : KSet w s.heap a L es ep t) {x : Addr} {k : NestedKey} (hx : IsN s.heap k x) (hu : A.units + 8 < cLine) (few : L.length + 1 < 76) {Q : Bool → Shared → Prop}
    (fin : ∀ b h' L' es' ep' t', Heap.SameBut a s.heap h' → KSet w h' a L' es' ep' t' → (k ∈ L.map (·.2) → L' = L) → (k ∉ L.map (·.2) → L'.Perm ((x, k) :: L)) → Q b { s with heap := h' }) :
    wpAny (model P w) A (setAddHashed a (.ref x) (hN w k)) Q E s := by
  obtain ⟨o, ho, hex, hd⟩ := S.ob
  have hsl := S.size
  have hroom := S.room
  unfold setAddHashed
  refine wpAny_holding ?_
  rw [show (100000 : Nat) = 99999 + 1 from rfl, setAddHashedIn_succ]
  refine wpAny_bind (wpAny_setState_of ho hd S.fits ?_)
  dsimp only
  refine wp_if_neg (by simp [byScan, Value.scannable]) ?_
  try refine wpAny_bind (wpAny_pure ?_)
  refine wpAny_bind (search_whole S hx hu (fun hm => ?_) fun K hm hK taken => ?_)
  · dsimp only
    exact wpAny_pure (fin false s.heap L es ep t (Heap.SameBut.refl a s.heap) S (fun _ => rfl) fun z => absurd hm z)
  dsimp only
  refine wpAny_bind (wpAny_setState_of ho hd S.fits ?_)
  dsimp only
  obtain ⟨q1, q2, q3, q4, q5, q6, q7, q8, q9⟩ := S.tab.put hK taken
  have plain1 : (t.put (way t.mask (hN w k) K)).1.plain = true := by rw [q6]; exact S.plain
  generalize t.put (way t.mask (hN w k) K) = pt at q1 q3 q4 q5 q6 q7 q8 q9 plain1 ⊢
  obtain ⟨t1, p⟩ := pt
  dsimp only at q1 q3 q4 q5 q6 q7 q8 q9 plain1 ⊢
  subst q1
  have byv := byVal_key (P := P) (w := w) (s := s) k (.ref x) 8 hx.1 hx.2.2 hx.2.1
  first
    | (refine wpAny_bind ?_; refine wp_if_pos plain1 ?_; refine byv _ _ _ ?_)
    | refine wp_if_pos plain1 (wpAny_bind (byv _ _ _ ?_))
  simp only [if_true]
  have rows1 : (SetTable.insertAt es (SetTable.below t.place (way t.mask (hN w k) K)) (hN w k, Value.ref x)).toList =
      (L.take (SetTable.below t.place (way t.mask (hN w k) K)) ++ (x, k) :: L.drop (SetTable.below t.place (way t.mask (hN w k) K))).map (rowN w) := by
    rw [SetTable.toList_insertAt, S.rows, List.map_append, List.map_cons, List.map_take, List.map_drop]
    rfl
  generalize SetTable.below t.place (way t.mask (hN w k) K) = p at q2 q3 rows1 ⊢
  have pm : (L.take p ++ (x, k) :: L.drop p).Perm ((x, k) :: L) := put_perm L p (x, k)
  have len1 : (L.take p ++ (x, k) :: L.drop p).length = L.length + 1 := pm.length_eq
  have hs1 : (L.take p ++ (x, k) :: L.drop p).map (fun p => hN w p.2) = (L.map fun p => hN w p.2).take p ++ hN w k :: (L.map fun p => hN w p.2).drop p := by
    rw [List.map_append, List.map_cons, List.map_take, List.map_drop]
  rw [← hs1] at q3
  have nd1 : ((L.take p ++ (x, k) :: L.drop p).map (·.2)).Nodup := by
    refine (pm.map (·.2)).nodup_iff.mpr ?_
    rw [List.map_cons]
    exact List.nodup_cons.mpr ⟨hm, S.nd⟩
  have hes : (SetTable.insertAt es p (hN w k, Value.ref x)).size = L.length + 1 := by
    have e := congrArg List.length rows1
    rwa [Array.length_toList, List.length_map, len1] at e
  generalize SetTable.insertAt es p (hN w k, Value.ref x) = es1 at rows1 hes ⊢
  generalize L.take p ++ (x, k) :: L.drop p = L1 at pm len1 q3 nd1 rows1
  refine wpAny_bind (wpAny_storeSet_of ho hd ?_ (by rw [hes, sizeLine_eq]; omega))
  have sb : Heap.SameBut a s.heap (s.heap.update a (Obj.putSet es1 t1)) := Heap.SameBut.update ..
  have ho1 := store_at (es' := es1) (t' := t1) ho hd
  generalize s.heap.update a (Obj.putSet es1 t1) = h1 at sb ho1 ⊢
  have keys1 : ∀ p ∈ L1, IsN h1 p.2 p.1 := fun p hp => by
    rcases List.mem_cons.mp (pm.mem_iff.mp hp) with e | hp
    · rw [e]; exact hx.same ho hd sb
    · exact (S.keys p hp).same ho hd sb
  have led1 : w.params.followText "set-order" = true ∨ t1.led = true := by rw [q5]; exact S.led
  by_cases full : t1.tooFull = true
  · first
      | (refine wpAny_bind ?_; refine wp_if_pos (by simp [full]) ?_)
      | (refine wp_if_pos (by simp [full]) ?_; refine wpAny_bind ?_)
    have much : (L.length + 1) * 5 ≥ t1.mask * 3 := by
      have e := full
      unfold SetTable.tooFull at e
      rwa [decide_eq_true_eq, q9, List.length_map] at e
    rw [hsl]
    have hsz1 : t1.place.size = es1.size := by
      have e := q3.sz
      rw [List.length_map, len1] at e
      rw [e, hes]
    have which : (t.mask = 7 ∧ L.length = 4) ∨ (t.mask = 31 ∧ L.length = 18) := by
      rcases S.tab.mok with e | e | e
      · left; rw [q4, e] at much; rw [e] at hroom; exact ⟨e, by omega⟩
      · right; rw [q4, e] at much; rw [e] at hroom; exact ⟨e, by omega⟩
      · exfalso; rw [q4, e] at much; omega
    have larger : ∀ M, SetTable.sizeAbove (SetTable.grown (L.length + 1)) - 1 = M → MaskOk M → SetTable.sizeAbove (SetTable.grown (L.length + 1)) ≤ 128 → (L.length + 1) * 5 < M * 3 →
        wpAny (model P w) A (setRelay a (SetTable.grown (L.length + 1))) (fun _ s' => wpAny (model P w) A (pure true) Q E s') E { s with heap := h1 } := fun M m1 m2 m3 m4 => by
      refine relay (s := { s with heap := h1 }) ho1 ⟨hex.1, hex.2.1, hex.2.2⟩ rfl rows1 hsz1 q3.dm (by rw [hes, q4]; rcases which with ⟨e, e2⟩ | ⟨e, e2⟩ <;> omega) nd1 keys1 plain1 led1 (by rw [len1]; exact few) m1 m2 m3 (by rw [len1]; exact m4) ?_
      intro h2 L2 es2 ep2 t2 sb2 S2 pm2
      exact wpAny_pure (fin true h2 L2 es2 ep2 t2 (sb.trans sb2) S2 (fun z => absurd z hm) fun _ => pm2.trans pm)
    rcases which with ⟨_, e2⟩ | ⟨_, e2⟩
    · exact larger 31 (by rw [e2, size_20]) (.inr (.inl rfl)) (by rw [e2, size_20]; decide) (by omega)
    · exact larger 127 (by rw [e2, size_76]) (.inr (.inr rfl)) (by rw [e2, size_76]; decide) (by omega)
  · first
      | refine wp_if_neg (by simp [full]) ?_
      | (refine wpAny_bind ?_; refine wp_if_neg (by simp [full]) ?_; refine wpAny_pure ?_)
    refine wpAny_pure (fin true h1 L1 es1 (ep + 1) t1 sb ⟨⟨_, ho1, ⟨hex.1, hex.2.1, hex.2.2⟩, rfl⟩, rows1, q3, nd1, keys1, plain1, led1, ?_, by rw [len1]; exact few⟩ (fun z => absurd z hm) fun _ => pm)
    have e := full
    unfold SetTable.tooFull at e
    rw [decide_eq_true_eq, q9, List.length_map] at e
    rw [len1]
    omega
end
/-- what the set holds when the first i of the items were put in -/
structure KGot (ks : List KA) (i : Nat) (L : List KA) : Prop where
  sub : ∀ p ∈ L, p ∈ ks.take i
  all : ∀ p ∈ ks.take i, p.2 ∈ L.map (·.2)
  len : L.length ≤ i
theorem KGot.old {ks L : List KA} {i : Nat} {x : KA} (g : KGot ks i L) (h : ks[i]? = some x) (hm : x.2 ∈ L.map (·.2)) : KGot ks (i + 1) L := by
  have e := take_next h
  constructor
  · intro p hp
    rw [e]
    exact List.mem_append_left _ (g.sub p hp)
  · intro p hp
    rw [e] at hp
    rcases List.mem_append.mp hp with z | z
    · exact g.all p z
    · rw [List.mem_singleton.mp z]; exact hm
  · exact Nat.le_succ_of_le g.len
theorem KGot.fresh {ks L L' : List KA} {i : Nat} {x : KA} (g : KGot ks i L) (h : ks[i]? = some x) (pm : L'.Perm (x :: L)) : KGot ks (i + 1) L' := by
  have e := take_next h
  constructor
  · intro p hp
    rw [e]
    rcases List.mem_cons.mp (pm.mem_iff.mp hp) with y | z
    · rw [y]; exact List.mem_append_right _ (List.mem_singleton.mpr rfl)
    · exact List.mem_append_left _ (g.sub p z)
  · intro p hp
    rw [(pm.map (·.2)).mem_iff, List.map_cons]
    rw [e] at hp
    rcases List.mem_append.mp hp with z | z
    · exact List.mem_cons_of_mem _ (g.all p z)
    · rw [List.mem_singleton.mp z]; exact List.mem_cons_self
  · rw [pm.length_eq, List.length_cons]
    exact Nat.succ_le_succ g.len
abbrev setO (w : World) : Obj := { cls := .type "set", dict := none, data := .set #[] 0 (.fresh 0 0 (!w.params.followText "set-order")) }
section
variable {P : Program} {w : World} {A : Around} {E : Value → Shared → Prop} {s : Shared}
theorem KSet.keep {h h' : Heap} {a : Addr} {L : List KA} {es : Array (Int × Value)} {ep : Nat} {t : SetTable} (S : KSet w h a L es ep t) (ha : ∀ o, h.get? a = some o → h'.get? a = some o) (hk : ∀ p ∈ L, IsN h' p.2 p.1) : KSet w h' a L es ep t := by
  obtain ⟨o, ho, r⟩ := S.ob
  exact { S with ob := ⟨o, ha o ho, r⟩, keys := hk }
theorem IsN.keep {h h' : Heap} {k : NestedKey} {b : Addr} (x : IsN h k b) (hk : ∀ c o, h.get? c = some o → h'.get? c = some o) : IsN h' k b := x.stay fun c o _ _ e _ => hk c o e
theorem kset_new {h : Heap} {a : Addr} (ho : h.get? a = some (setO w)) : KSet w h a [] #[] 0 (.fresh 0 0 (!w.params.followText "set-order")) where
  ob := ⟨_, ho, ⟨rfl, rfl, rfl⟩, rfl⟩
  rows := rfl
  tab := ⟨List.Pairwise.nil, rfl, rfl, .inl rfl, fun x hx => (by cases hx), fun i h j hi => (by simp at hi)⟩
  nd := List.nodup_nil
  keys := fun p hp => (by cases hp)
  plain := rfl
  led := by
    show _ ∨ (!w.params.followText "set-order") = true
    cases w.params.followText "set-order"
    · exact .inr rfl
    · exact .inl rfl
  room := by
    show 0 * 5 < 7 * 3
    decide
  few := by
    show 0 < 76
    decide
/-- set.update's loop over keys -/
theorem loop_keys {I : Addr} {fp wr : List Addr} {G : Array GenState → Array GenState → Prop} {n : Nat} {Pv : Nat → Value → Prop} {St : Nat → Shared → Prop} {R : Result → Shared → Prop}
    (W : WalksS P w A.in1 I fp wr G n Pv St) (S : Addr) (hSf : S ∉ fp) (ks : List KA) (hn : n = ks.length) (few : ks.length < 76) (hval : ∀ i v, Pv i v → ∃ p, ks[i]? = some p ∧ v = .ref p.1)
    (h0 : Heap) (hk : ∀ p ∈ ks, IsN h0 p.2 p.1) (hS0 : h0.get? S = none) (hw0 : ∀ b ∈ wr, h0.get? b = none) (hu : A.in1.units + 8 < cLine) :
    ∀ (k i : Nat) (s : Shared), n - i = k → i ≤ n → St i s → (∀ b o, h0.get? b = some o → s.heap.get? b = some o) → (∃ L es ep t, KSet w s.heap S L es ep t ∧ KGot ks i L) →
      (∀ s' L es ep t, Moved (S :: wr) G s s' → KSet w s'.heap S L es ep t → KGot ks n L → (∀ b o, h0.get? b = some o → s'.heap.get? b = some o) → R (.ok (.ret .none)) s') →
      codeAny (model P w) A (.builtin "set.update.loop" ⟨[.ref S, .ref I], []⟩) R s := by
  have hSw : S ∉ wr := fun h => hSf (W.sub _ h)
  have hsub : ∀ b ∈ wr, b ∈ S :: wr := fun b hb => List.mem_cons_of_mem _ hb
  have keepM : ∀ {s s' : Shared}, Moved wr G s s' → (∀ b o, h0.get? b = some o → s.heap.get? b = some o) → ∀ b o, h0.get? b = some o → s'.heap.get? b = some o := fun hm hkp b o e =>
    hm.heap b o (fun hb => by rw [hw0 b hb] at e; cases e) (hkp b o e)
  intro k
  induction k with
  | zero =>
    intro i s hk' hi hst hkp ⟨L, es, ep, t, hS, g⟩ hR
    have hin : i = n := by omega
    subst hin
    refine codeAny_builtin F.entry_set_update_loop ?_
    rw [Around.under_plainId F.plain_set_update_loop _]
    show wpAny _ A.in1 (pyNext (.ref I) >>= _) _ _ s
    refine wpAny_bind (W.done s _ _ hst fun s' hm => ?_)
    show wpAny _ A.in1 (ret Value.none) _ _ s'
    have hkp' := keepM hm hkp
    have sub : ∀ p ∈ L, p ∈ ks := fun p hp => List.mem_of_mem_take (g.sub p hp)
    exact wpAny_pure (hR s' L es ep t (hm.mono hsub) (hS.keep (fun o e => hm.heap S o hSw e) fun p hp => (hk p (sub p hp)).keep hkp') g hkp')
  | succ k ih =>
    intro i s hk' hi hst hkp ⟨L, es, ep, t, hS, g⟩ hR
    have hlt : i < n := by omega
    refine codeAny_builtin F.entry_set_update_loop ?_
    rw [Around.under_plainId F.plain_set_update_loop _]
    show wpAny _ A.in1 (pyNext (.ref I) >>= _) _ _ s
    refine wpAny_bind (W.item i s _ _ hlt hst fun v s' hP hst' hm => ?_)
    obtain ⟨p, hp, rfl⟩ := hval i v hP
    have hkp' := keepM hm hkp
    have sub : ∀ p ∈ L, p ∈ ks := fun p hp => List.mem_of_mem_take (g.sub p hp)
    have hS' : KSet w s'.heap S L es ep t := hS.keep (fun o e => hm.heap S o hSw e) fun q hq => (hk q (sub q hq)).keep hkp'
    have hx : IsN s'.heap p.2 p.1 := (hk p (List.mem_of_getElem? hp)).keep hkp'
    show wpAny _ A.in1 (holding [Value.ref p.1] (setAdd S (.ref p.1)) >>= _) _ _ s'
    refine wpAny_bind (wpAny_holding ?_)
    unfold setAdd
    refine wpAny_holding ?_
    refine wpAny_bind ((nestedKind P w).pyHash hu hx.knd ?_)
    have few2 : L.length + 1 < 76 := by have := g.len; omega
    refine key_added (s := { s' with toks := s'.toks + (nestedKind P w).draws p.2 }) hS' hx hu few2 fun b h' L' es' ep' t' hsb hS2 c1 c2 => ?_
    have g' : KGot ks (i + 1) L' := by
      rcases Classical.em (p.2 ∈ L.map (·.2)) with c | c
      · rw [c1 c]; exact g.old hp c
      · exact g.fresh hp (c2 c)
    have hkp2 : ∀ b o, h0.get? b = some o → h'.get? b = some o := fun b o e => (hsb.2 b (fun z => by rw [z, hS0] at e; cases e)).trans (hkp' b o e)
    refine wpAny_pure ⟨plainId_quiet F.plain_set_update_loop _, ih (i + 1) _ (by omega) hlt (W.frame _ s' _ _ hst' (Nat.le_add_right _ _) fun b hb o e => ?_) hkp2 ⟨L', es', ep', t', hS2, g'⟩ fun s'' L2 es2 ep2 t2 hm'' hS'' g'' hkp'' => ?_⟩
    · rw [hsb.2 b (fun h : b = S => hSf (by rw [← h]; exact hb))]; exact e
    · refine hR s'' L2 es2 ep2 t2 (Moved.trans W.gtrans ((hm.mono hsub).then_heap (Nat.le_add_right _ _) fun b o hb e => ?_) hm'') hS'' g'' hkp''
      rw [hsb.2 b (fun h : b = S => hb (by rw [h]; exact List.mem_cons_self))]; exact e
end
end DL
end

section
set_option Elab.async false
set_option linter.all false
set_option maxRecDepth 100000
set_option maxHeartbeats 3200000
/-! DS4: set(x), x a list or a tuple. -/
namespace DL
open PySem PySem.Spec PyProof.Rows L2
section
variable {P : Program} {w : World} {A : Around} {E : Value → Shared → Prop} {s : Shared}
/-- what is asked of set.update's loop: S where the set lies, T what it comes to -/
def LoopOk (P : Program) (w : World) (A : Around) (h0 : Heap) (S : Addr) (items : Array Value) (T : Heap → Prop) : Prop :=
  ∀ {I : Addr} {fp wr : List Addr} {G : Array GenState → Array GenState → Prop} {Pv : Nat → Value → Prop} {St : Nat → Shared → Prop} {R : Result → Shared → Prop} (s1 : Shared),
    WalksS P w A.in1 I fp wr G items.size Pv St → S ∉ fp → (∀ b ∈ wr, h0.get? b = none) → (∀ i v, Pv i v → items[i]? = some v) → St 0 s1 → (∀ b o, h0.get? b = some o → s1.heap.get? b = some o) → s1.heap.get? S = some (setO w) →
    (∀ s', Moved (S :: wr) G s1 s' → T s'.heap → (∀ b o, h0.get? b = some o → s'.heap.get? b = some o) → R (.ok (.ret .none)) s') → codeAny (model P w) A (.builtin "set.update.loop" ⟨[.ref S, .ref I], []⟩) R s1
theorem mkset {l : Addr} {items : Array Value} {T : Heap → Prop} {Q : Value → Shared → Prop} (hh : A.handled = none) (hl : s.heap.IsList l items ∨ s.heap.IsTuple l items)
    (loop : ∀ A' : Around, A'.handled = none → A'.units ≤ A.units + 2 → LoopOk P w A' s.heap s.heap.objs.size items T)
    (fin : ∀ (h' : Heap) (tk : Nat), T h' → (∀ b o, s.heap.get? b = some o → h'.get? b = some o) → Q (.ref s.heap.objs.size) { s with heap := h', toks := tk }) :
    wpAny (model P w) A (call (.type "set") [.ref l]) Q E s := by
  obtain ⟨c, tl, hmro⟩ := F.called_set.mro
  have hmade := F.called_set.made
  have hsub := F.called_set.sub
  refine wpAny_call (codeAny_of_tree ?_)
  show wpAny _ _ (callAny (.type "set") _) _ _ _
  refine wpAny_pure ⟨Code.quiet_builtin _ (by decide +kernel), codeAny_builtin F.entry_type_call ?_⟩
  rw [Around.under_plain (weight_type_call_type "set" [.ref l] []) rfl]
  have h1 := F.called_set.notType
  have h2 := F.called_set.canCreate
  have hct := F.typeCall_set_1 (.ref l)
  repeat (any_goals (first | assumption | wp_step))
  refine codeAny_mono (code_set_led1 (.ref l) (E := E) (Q₁ := fun obj s₁ => obj = .ref s.heap.objs.size ∧ s₁ = { s with heap := s.heap.push (setO w) }) ⟨rfl, rfl⟩) fun r s₁ hr => ?_
  match r, hr with
  | .error e, hr => exact hr
  | .ok (.next), hr => exact hr.elim
  | .ok (.brk), hr => exact hr.elim
  | .ok (.cont), hr => exact hr.elim
  | .ok (.ret obj), hr =>
    obtain ⟨rfl, rfl⟩ := hr
    have hS : (s.heap.push (setO w)).get? s.heap.objs.size = some (setO w) := Heap.get?_push_size _ rfl
    have hT : Shared.TypeIs { s with heap := s.heap.push (setO w) } (.ref s.heap.objs.size) "set" := ⟨_, hS, rfl⟩
    have hli := F.called_set.init.lookup
    have hbi := F.called_set.init.bind (.ref s.heap.objs.size)
    repeat (any_goals (first | assumption | wp_step))
    have size1 : (s.heap.push (setO w)).objs.size = s.heap.objs.size + 1 := Heap.size_push ..
    have none_of : ∀ b, s.heap.objs.size ≤ b → s.heap.get? b = none := fun b hb => by
      cases q : s.heap.get? b with
      | none => rfl
      | some o => exact absurd (Nat.lt_of_lt_of_le (Heap.lt_size q) hb) (Nat.lt_irrefl _)
    have old : ∀ b o, s.heap.get? b = some o → ∀ o2 : Obj, ((s.heap.push (setO w)).push o2).get? b = some o := fun b o e o2 => Heap.get?_push_of_some _ (Heap.get?_push_of_some _ e)
    refine codeAny_mono (codeAny_call_builtin (R := wants (fun r s₂ => r = .none ∧ ∃ h' tk, s₂ = { s with heap := h', toks := tk } ∧ T h' ∧ (∀ b o, s.heap.get? b = some o → h'.get? b = some o)) E)
      F.called_set.init.plain F.entry_set_init (check_set_init_1 hT ?_)) fun r₂ s₂ hr₂ => ?_
    · have hh3 : A.in1.in1.in1.handled = none := by simp [hh]
      rcases hl with hl | hl
      · obtain ⟨⟨ocls, odict, odata, oslots⟩, hol, hcl, nl, hdl⟩ := hl
        simp only at hcl hdl
        subst hcl; subst hdl
        have hlS : l < s.heap.objs.size := Heap.lt_size hol
        have hol' : (s.heap.push (setO w)).get? l = some { cls := .type "list", dict := odict, data := .seq items nl, slots := oslots } := Heap.get?_push_of_some _ hol
        have hsls := F.sub_list_set
        have hslf := F.sub_list_frozenset
        have hne : (Value.type "list" == Value.type "dict") = false := by decide
        have hl1 : (s.heap.push (setO w)).IsList l items := ⟨_, hol', rfl, nl, rfl⟩
        unfold Builtin.«set.__init__» noKeywords Builtin.Frozenset.updateFrom
        generalize hPI : pyIter = PI
        wp_walk
        subst hPI
        refine wpAny_pyIter_list hl1 ?_
        refine wpAny_bind (wpAny_runValue ?_)
        have hneI : l ≠ (s.heap.push (setO w)).objs.size := by rw [size1]; exact Nat.ne_of_lt (Nat.lt_succ_of_lt hlS)
        have hSf : s.heap.objs.size ∉ [(s.heap.push (setO w)).objs.size, l] := by
          rw [size1]; simp only [List.mem_cons, List.not_mem_nil, or_false, not_or]; exact ⟨Nat.ne_of_lt (Nat.lt_succ_self _), Nat.ne_of_gt hlS⟩
        refine loop A.in1.in1 hh (Nat.le_refl _) (I := (s.heap.push (setO w)).objs.size) (wr := [(s.heap.push (setO w)).objs.size]) _ ((Walks.list hh3 (s.heap.push (setO w)).objs.size l hneI items).toS) hSf (fun b hb => none_of b (by rw [List.mem_singleton.mp hb, size1]; omega)) (fun i v hv => hv)
          ⟨⟨_, Heap.get?_push_size _ rfl, rfl, rfl⟩, (hl1.push _)⟩ (fun b o e => old b o e _) (Heap.get?_push_of_some _ hS) ?_
        rintro ⟨h', g2, d', tk', os'⟩ hm hT' hkp
        have eg : g2 = s.gens := hm.gens
        have ed : d' = s.drawn := hm.drawn
        have eo : os' = s.os := hm.os
        subst eg; subst ed; subst eo
        show wpAny _ _ _ _ _ _
        refine wpAny_pure ?_
        show wpAny _ _ (ret Value.none) _ _ _
        exact wpAny_pure ⟨rfl, h', tk', rfl, hT', hkp⟩
      · obtain ⟨⟨ocls, odict, odata, oslots⟩, hol, hcl, nl, hdl⟩ := hl
        simp only at hcl hdl
        subst hcl; subst hdl
        have hlS : l < s.heap.objs.size := Heap.lt_size hol
        have hol' : (s.heap.push (setO w)).get? l = some { cls := .type "tuple", dict := odict, data := .seq items nl, slots := oslots } := Heap.get?_push_of_some _ hol
        have hsls := F.sub_tuple_set
        have hslf := F.sub_tuple_frozenset
        have hne : (Value.type "tuple" == Value.type "dict") = false := by decide
        have hl1 : (s.heap.push (setO w)).IsTuple l items := ⟨_, hol', rfl, nl, rfl⟩
        unfold Builtin.«set.__init__» noKeywords Builtin.Frozenset.updateFrom
        generalize hPI : pyIter = PI
        wp_walk
        subst hPI
        refine wpAny_pyIter_tuple hl1 ?_
        refine wpAny_bind (wpAny_runValue ?_)
        have hneI : l ≠ (s.heap.push (setO w)).objs.size := by rw [size1]; exact Nat.ne_of_lt (Nat.lt_succ_of_lt hlS)
        have hSf : s.heap.objs.size ∉ [(s.heap.push (setO w)).objs.size, l] := by
          rw [size1]; simp only [List.mem_cons, List.not_mem_nil, or_false, not_or]; exact ⟨Nat.ne_of_lt (Nat.lt_succ_self _), Nat.ne_of_gt hlS⟩
        refine loop A.in1.in1 hh (Nat.le_refl _) (I := (s.heap.push (setO w)).objs.size) (wr := [(s.heap.push (setO w)).objs.size]) _ ((Walks.tuple hh3 (s.heap.push (setO w)).objs.size l hneI items).toS) hSf (fun b hb => none_of b (by rw [List.mem_singleton.mp hb, size1]; omega)) (fun i v hv => hv)
          ⟨⟨_, Heap.get?_push_size _ rfl, rfl, rfl⟩, (hl1.push _)⟩ (fun b o e => old b o e _) (Heap.get?_push_of_some _ hS) ?_
        rintro ⟨h', g2, d', tk', os'⟩ hm hT' hkp
        have eg : g2 = s.gens := hm.gens
        have ed : d' = s.drawn := hm.drawn
        have eo : os' = s.os := hm.os
        subst eg; subst ed; subst eo
        show wpAny _ _ _ _ _ _
        refine wpAny_pure ?_
        show wpAny _ _ (ret Value.none) _ _ _
        exact wpAny_pure ⟨rfl, h', tk', rfl, hT', hkp⟩
    · match r₂, hr₂ with
      | .error e, hr₂ => exact hr₂
      | .ok (.next), hr₂ => exact hr₂.elim
      | .ok (.brk), hr₂ => exact hr₂.elim
      | .ok (.cont), hr₂ => exact hr₂.elim
      | .ok (.ret r), hr₂ =>
        obtain ⟨rfl, h', tk, rfl, hT', hk'⟩ := hr₂
        repeat (any_goals (first | assumption | wp_step))
        exact fin _ _ hT' hk'
/-- set(x), the items keys -/
theorem set_keys {l : Addr} {items : Array Value} (ks : List KA) {Q : Value → Shared → Prop} (hh : A.handled = none) (hl : s.heap.IsList l items ∨ s.heap.IsTuple l items) (hit : items.toList = ks.map fun p => Value.ref p.1)
    (hk : ∀ p ∈ ks, IsN s.heap p.2 p.1) (few : ks.length < 76) (hu : A.units + 12 < cLine)
    (fin : ∀ (h' : Heap) (tk : Nat) L es ep t, KSet w h' s.heap.objs.size L es ep t → KGot ks ks.length L → (∀ b o, s.heap.get? b = some o → h'.get? b = some o) → Q (.ref s.heap.objs.size) { s with heap := h', toks := tk }) :
    wpAny (model P w) A (call (.type "set") [.ref l]) Q E s := by
  have hisz : items.size = ks.length := by
    have q := congrArg List.length hit
    rwa [Array.length_toList, List.length_map] at q
  refine mkset (T := fun h' => ∃ L es ep t, KSet w h' s.heap.objs.size L es ep t ∧ KGot ks ks.length L) hh hl (fun A' hh' hu' => ?_) fun h' tk ⟨L, es, ep, t, S, g⟩ hkp => fin h' tk L es ep t S g hkp
  intro I fp wr G Pv St R s1 W hSf hw0 hPv hst hkp hS hR
  have none_S : s.heap.get? s.heap.objs.size = none := by
    cases q : s.heap.get? s.heap.objs.size with
    | none => rfl
    | some o => exact absurd (Heap.lt_size q) (Nat.lt_irrefl _)
  refine loop_keys W s.heap.objs.size hSf ks hisz few (fun i v hv => ?_) s.heap hk none_S hw0 (by show A'.units + 1 + 8 < cLine; omega) (items.size - 0) 0 s1 (by omega) (Nat.zero_le _) hst hkp
    ⟨[], #[], 0, _, kset_new hS, ⟨fun p h => (by cases h), fun p h => (by simp at h), Nat.le_refl _⟩⟩ fun s' L es ep t hm S' g' hkp' => hR s' hm ⟨L, es, ep, t, S', by rw [← hisz]; exact g'⟩ hkp'
  have q : items.toList[i]? = some v := by rw [Array.getElem?_toList]; exact hPv i v hv
  rw [hit, List.getElem?_map] at q
  cases hq : ks[i]? with
  | none => rw [hq] at q; cases q
  | some p =>
    rw [hq] at q
    exact ⟨p, rfl, (Option.some.inj q).symm⟩
/-- set(x), the items ints -/
theorem set_nums {l : Addr} {items : Array Value} (ns : List Int) {Q : Value → Shared → Prop} (hh : A.handled = none) (hl : s.heap.IsList l items ∨ s.heap.IsTuple l items) (hit : IntsAre items.toList ns) (hb : ns.length + 1 < scanBound)
    (fin : ∀ (h' : Heap) (tk c : Nat), SetR w h' s.heap.objs.size (fun j => decide (j ∈ ns)) c → c ≤ ns.length → (∀ b o, s.heap.get? b = some o → h'.get? b = some o) → Q (.ref s.heap.objs.size) { s with heap := h', toks := tk }) :
    wpAny (model P w) A (call (.type "set") [.ref l]) Q E s := by
  have hisz : items.size = ns.length := by
    have q := IntsAre.length hit
    rwa [Array.length_toList] at q
  refine mkset (T := fun h' => ∃ c, SetR w h' s.heap.objs.size (fun j => decide (j ∈ ns)) c ∧ c ≤ ns.length) hh hl (fun A' hh' hu' => ?_) fun h' tk ⟨c, S, g⟩ hkp => fin h' tk c S g hkp
  intro I fp wr G Pv St R s1 W hSf hw0 hPv hst hkp hS hR
  have none_S : s.heap.get? s.heap.objs.size = none := by
    cases q : s.heap.get? s.heap.objs.size with
    | none => rfl
    | some o => exact absurd (Heap.lt_size q) (Nat.lt_irrefl _)
  refine set_update_ints W s.heap.objs.size hSf ns hisz hb (fun i v hv => ?_) (items.size - 0) 0 s1 (by omega) (Nat.zero_le _) hst ⟨0, Nat.le_refl 0, setR_new_at hS⟩ fun s' c hm hc S' => hR s' hm ⟨c, S', by rw [← hisz]; exact hc⟩ fun b o e => ?_
  · have hv' := hPv i v hv
    have hi : i < ns.length := by rw [← hisz]; exact (Array.getElem?_eq_some_iff.mp hv').1
    obtain ⟨t, e⟩ := PyProof.Rows.IntsAre.int_at hit i v (by rw [Array.getElem?_toList]; exact hv')
    refine ⟨ns[i], t, List.getElem?_eq_getElem hi, ?_⟩
    rw [e, List.getD_eq_getElem?_getD, List.getElem?_eq_getElem hi]
    rfl
  · refine hm.heap b o (fun hb => ?_) (hkp b o e)
    rcases List.mem_cons.mp hb with z | z
    · rw [z, none_S] at e; cases e
    · rw [hw0 b z] at e; cases e
end
end DL
end

section
set_option Elab.async false
set_option linter.all false
set_option maxRecDepth 100000
set_option maxHeartbeats 1000000
/-! DL10: *, changes of lists, max and min, sorted, repr. -/
namespace DL
open PySem PySem.Spec PyProof.Rows L2
open Evl (Ex)
/-! ### tuple * n, n at most 1 -/
theorem mulT_none (l : Addr) (items : Array Value) (n : Nat) (dd : Option Addr) (sl : Array (Option Value)) (x : Int) (u : Tok) (c0 : (decide (x < -(2 ^ 63)) || decide (x ≥ 2 ^ 63)) = false) (c1 : (items.isEmpty || x == 1) = false) (c2 : (decide (x ≤ 0) || items.isEmpty) = true) :
    Meets (Builtin.«tuple.__mul__» ⟨[.ref l, .int x u], []⟩) (fun _ R s => s.heap.get? l = some { cls := .type "tuple", dict := dd, data := .seq items n, slots := sl } ∧
      R (.ok (.ret (Value.ref s.heap.objs.size))) { s with heap := s.heap.push { cls := Value.type "tuple", data := Data.seq #[] }, toks := s.toks }) :=
  .of_wp fun prog w A R s h => by
    obtain ⟨hp, g, d, tk, os⟩ := s
    obtain ⟨hl, h⟩ := h
    have f1 := AutoSeq1.idx_int
    wp_walk using wpAny_loadPart' hl
    repeat (first
      | (refine wpAny_ite_false (decide_eq_false (by rw [c0]; exact Bool.false_ne_true)) ?_; wp_walk using wpAny_loadPart' hl)
      | (refine wpAny_ite_false (decide_eq_false (by rw [c1]; exact Bool.false_ne_true)) ?_; wp_walk using wpAny_loadPart' hl)
      | (refine wpAny_ite_true (decide_eq_true c2) ?_; wp_walk using wpAny_loadPart' hl))
    exact ⟨_, rfl, h⟩
theorem mulT_same (l : Addr) (items : Array Value) (n : Nat) (dd : Option Addr) (sl : Array (Option Value)) (x : Int) (u : Tok) (c0 : (decide (x < -(2 ^ 63)) || decide (x ≥ 2 ^ 63)) = false) (c1 : (items.isEmpty || x == 1) = true) :
    Meets (Builtin.«tuple.__mul__» ⟨[.ref l, .int x u], []⟩) (fun _ R s => s.heap.get? l = some { cls := .type "tuple", dict := dd, data := .seq items n, slots := sl } ∧
      R (.ok (.ret (Value.ref l))) s) :=
  .of_wp fun prog w A R s h => by
    obtain ⟨hp, g, d, tk, os⟩ := s
    obtain ⟨hl, h⟩ := h
    have f1 := AutoSeq1.idx_int
    wp_walk using wpAny_loadPart' hl
    repeat (first
      | (refine wpAny_ite_false (decide_eq_false (by rw [c0]; exact Bool.false_ne_true)) ?_; wp_walk using wpAny_loadPart' hl)
      | (refine wpAny_ite_true (decide_eq_true c1) ?_; wp_walk using wpAny_loadPart' hl))
    exact ⟨_, rfl, h⟩

section
variable {X : Cx}
/-- tuple * n for any n up to 1000 -/
theorem op_mulT {pins : List (Addr × Obj)} {s : Shared} {σ : L2.St} {H : Hp} {l : Addr} {k : Int} {xs : List V} {v u : Value} {Q : VK} (I : Inv X pins σ H s) (rx : RelV (.ref l) v) (ry : RelV (.int k) u) (hT : SqT X.K H l xs) (hne : xs ≠ []) (h1 : -1000 ≤ k) (h2 : k ≤ 1000) (hz : xs.length ≤ 1000)
    (q1 : k = 1 → Q (.ref l) H) (q2 : k ≠ 1 → ∀ p, H p = none → Q (.ref p) (upd H p (.tup (List.replicate k.toNat xs).flatten))) : wpAny (model X.prog X.w) X.A (binaryOp .Mult v u) (EP X pins σ Q) X.xe s := by
  by_cases big : 2 ≤ k
  · exact op_repT pins s σ H _ _ v u Q I rx ry ⟨l, k, xs, rfl, rfl, hT, hne, big, h2, hz, q2 (by omega)⟩
  cases rx
  obtain ⟨t, rfl⟩ := ry
  obtain ⟨its, r, ⟨⟨cls, dd, data, sl⟩, ho, hc, n, hd⟩, hs⟩ := I.tuple hT
  simp only at hc hd
  subst hc hd
  have hn : its.toArray.isEmpty = false := by
    cases its with
    | nil =>
      cases r
      exact absurd rfl hne
    | cons a b => rfl
  have c0 : (decide (k < -(2 ^ 63)) || decide (k ≥ 2 ^ 63)) = false := by
    rw [decide_eq_false (by omega), decide_eq_false (by omega)]
    rfl
  by_cases one : k = 1
  · have c1 : (its.toArray.isEmpty || k == 1) = true := by rw [one, hn]; rfl
    exact wpAny_binaryOp_repeat_ref (T := "tuple") (U := "int") (by decide) ⟨_, ho, rfl⟩ (fun s' => typeIs_int s' k t) noFill_tuple_mul F.fills_int_mul F.slot_int_rmul repeat_tuple F.slot_int_index.lookup
      (call_meets F.slot_int_rmul (typeIs_int s k t) F.entry_int_rmul (F.args_int_rmul_2 _ _) (int_rmul_tuple k t l its.toArray n dd sl)
        ⟨ho, rfl, ⟨_, ho, rfl⟩, call_meets F.slot_tuple_mul ⟨_, ho, rfl⟩ F.entry_tuple_mul (F.args_tuple_mul_2 _ _) (mulT_same l its.toArray n dd sl k t c0 c1) ⟨ho, .ref l, H, I, rfl, q1 one⟩⟩)
  · have c1 : (its.toArray.isEmpty || k == 1) = false := by
      rw [hn, Bool.false_or]
      exact beq_eq_false_iff_ne.mpr one
    have c2 : (decide (k ≤ 0) || its.toArray.isEmpty) = true := by
      rw [decide_eq_true (show k ≤ 0 by omega)]
      rfl
    refine wpAny_binaryOp_repeat_ref (T := "tuple") (U := "int") (by decide) ⟨_, ho, rfl⟩ (fun s' => typeIs_int s' k t) noFill_tuple_mul F.fills_int_mul F.slot_int_rmul repeat_tuple F.slot_int_index.lookup
      (call_meets F.slot_int_rmul (typeIs_int s k t) F.entry_int_rmul (F.args_int_rmul_2 _ _) (int_rmul_tuple k t l its.toArray n dd sl)
        ⟨ho, rfl, ⟨_, ho, rfl⟩, call_meets F.slot_tuple_mul ⟨_, ho, rfl⟩ F.entry_tuple_mul (F.args_tuple_mul_2 _ _) (mulT_none l its.toArray n dd sl k t c0 c1 c2) ⟨ho, ?_⟩⟩)
    have e0 : k.toNat = 0 := by omega
    have q := q2 one s.heap.objs.size (I.hok.fresh (Nat.le_refl _))
    rw [e0] at q
    exact ⟨.ref s.heap.objs.size, _, I.laid (t' := s.toks) (o := .tup []) (fun b ob z => Heap.get?_push_of_some _ z) (Nat.le_refl _) ⟨Nat.zero_le _, [], .nil, IsTup.new _ _⟩, rfl, q⟩
theorem repl_rel {K : PySem.W.Frag} {θ : List Addr} {H : Hp} {vs : List V} {ds : List D} (r : RelDs K θ H vs ds) : ∀ n : Nat, RelDs K θ H (List.replicate n vs).flatten (List.replicate n ds).flatten
  | 0 => .nil
  | n + 1 => by
    rw [List.replicate_succ, List.replicate_succ, List.flatten_cons, List.flatten_cons]
    exact r.append (repl_rel r n)
def mulO : D → D → DSt → Option D
  | .int i, .int j, _ => if i.natAbs < 2 ^ 64 ∨ j.natAbs < 2 ^ 64 then some (.int (i * j)) else none
  | .tup xs, .int k, _ => if xs.isEmpty = false ∧ -1000 ≤ k ∧ k ≤ 1000 ∧ xs.length ≤ 1000 then some (.tup (List.replicate k.toNat xs).flatten) else none
  | .lst xs, .int k, _ => if -1000 ≤ k ∧ k ≤ 1000 ∧ xs.length ≤ 1000 then some (.lst (List.replicate k.toNat xs).flatten) else none
  | _, _, _ => none
theorem o_mul : OpR X (binaryOp .Mult) (rdOp X.K mulO) := by
  intro pins s σ H x y v u Q I rx ry ⟨θ, H0, M, a, b, d, hR, ra, rb, e, g⟩
  cases rb with
  | int k =>
    cases ra with
    | int i =>
      have e' : (if i.natAbs < 2 ^ 64 ∨ k.natAbs < 2 ^ 64 then some (D.int (i * k)) else none) = some d := e
      by_cases hz : i.natAbs < 2 ^ 64 ∨ k.natAbs < 2 ^ 64
      · rw [if_pos hz] at e'
        cases e'
        exact op_mul pins s σ H _ _ v u Q I rx ry ⟨i, k, rfl, rfl, by unfold CMul; omega, g.val hR (.int _)⟩
      · rw [if_neg hz] at e'; cases e'
    | @tup p vs xs hp r1 =>
      have e' : (if xs.isEmpty = false ∧ -1000 ≤ k ∧ k ≤ 1000 ∧ xs.length ≤ 1000 then some (D.tup (List.replicate k.toNat xs).flatten) else none) = some d := e
      by_cases hz : xs.isEmpty = false ∧ -1000 ≤ k ∧ k ≤ 1000 ∧ xs.length ≤ 1000
      · rw [if_pos hz] at e'
        cases e'
        refine op_mulT I rx ry (Evl.ex_t hR.ex hp) ?_ hz.2.1 hz.2.2.1 (by rw [r1.len]; exact hz.2.2.2) (fun e1 => ?_) fun _ p hp2 => g.tup hR (repl_rel r1 _) hp2
        · intro h0
          subst h0
          cases r1
          exact absurd hz.1 (by decide)
        · subst e1
          have e2 : (List.replicate (1 : Int).toNat xs).flatten = xs := by simp
          rw [e2] at g
          exact g.val hR (.tup hp r1)
      · rw [if_neg hz] at e'; cases e'
    | @lst p vs xs hp r1 =>
      have e' : (if -1000 ≤ k ∧ k ≤ 1000 ∧ xs.length ≤ 1000 then some (D.lst (List.replicate k.toNat xs).flatten) else none) = some d := e
      by_cases hz : -1000 ≤ k ∧ k ≤ 1000 ∧ xs.length ≤ 1000
      · rw [if_pos hz] at e'
        cases e'
        refine op_rep pins s σ H _ _ v u Q I rx ry ⟨p, k, vs, rfl, rfl, hR.ex _ _ hp, by omega, by omega, ?_, fun p hp2 => g.lst hR (repl_rel r1 _) hp2⟩
        rw [r1.len, sizeLine_eq]
        have a1 : xs.length * k.toNat ≤ 1000 * 1000 := Nat.mul_le_mul hz.2.2 (by omega)
        omega
      · rw [if_neg hz] at e'; cases e'
    | _ => cases e
  | _ => cases ra <;> cases e
end
/-! ### a list of the store gets another content -/
theorem ne_at {K : PySem.W.Frag} {θ : List Addr} {H0 H : Hp} {M : DSt} (r : Rep K θ H0 H M) {l l2 : Nat} {a a2 : Addr} (h : θ[l]? = some a) (h2 : θ[l2]? = some a2) (e : l2 ≠ l) : a2 ≠ a := fun z => by
  subst z
  obtain ⟨k2, e2⟩ := List.getElem?_eq_some_iff.mp h2
  exact e ((List.getElem?_inj k2 r.nd).mp (by rw [h, h2]))
theorem Rep.put {K : PySem.W.Frag} {θ : List Addr} {H0 H : Hp} {M : DSt} (r : Rep K θ H0 H M) {l : Nat} {a : Addr} {vs : List V} {ds : List D} (h : θ[l]? = some a) (rs : RelDs K θ H0 vs ds) : Rep K θ H0 (upd H a (.lst vs)) (M.set l (.lst ds)) where
  ex := fun b o e => by
    have ne : b ≠ a := fun z => by
      subst z
      rw [r.ob b (List.mem_of_getElem? h)] at e
      cases e
    rw [upd_ne ne]
    exact r.ex b o e
  nd := r.nd
  len := by rw [List.length_set]; exact r.len
  ob := r.ob
  st := fun l2 a2 m e1 e2 => by
    by_cases hl : l2 = l
    · subst hl
      have hlt : l2 < M.length := by rw [← r.len]; exact (List.getElem?_eq_some_iff.mp h).1
      rw [List.getElem?_set_self hlt] at e2
      cases e2
      rw [h] at e1
      cases e1
      exact ⟨vs, upd_same, rs⟩
    · rw [List.getElem?_set_ne (fun z => hl z.symm)] at e2
      exact (r.st l2 a2 m e1 e2).mono List.prefix_rfl (Ex.refl H0) (upd_ne (ne_at r h e1 hl))
theorem Grow.put {K : PySem.W.Frag} {θ : List Addr} {H0 H : Hp} {M : DSt} (r : Rep K θ H0 H M) {l : Nat} {a : Addr} {o : HO} (h : θ[l]? = some a) : Grow θ θ H0 H0 H (upd H a o) where
  th := List.prefix_rfl
  ex0 := Ex.refl H0
  fr := fun b u e n => by
    have ne : b ≠ a := fun z => by
      subst z
      exact n (List.mem_of_getElem? h)
    rw [upd_ne ne]
    exact e
  there := fun b u e => by
    by_cases z : b = a
    · subst z; exact ⟨o, upd_same⟩
    · exact ⟨u, by rw [upd_ne z]; exact e⟩
  new0 := fun _ _ _ => rfl
  newT := fun _ h n => absurd h n
def locL (M : DSt) : D → Option (Nat × List D)
  | .loc l => match M[l]? with
    | some (.lst xs) => some (l, xs)
    | _ => none
  | _ => none
theorem locL_rel {K : PySem.W.Frag} {θ : List Addr} {H0 H : Hp} {M : DSt} {v : V} {d : D} {l : Nat} {xs : List D} (hR : Rep K θ H0 H M) (r : RelD K θ H0 v d) (e : locL M d = some (l, xs)) : ∃ a vs, v = .ref a ∧ θ[l]? = some a ∧ H a = some (.lst vs) ∧ RelDs K θ H0 vs xs := by
  cases r with
  | @loc a l2 h =>
    obtain ⟨m, hm⟩ := getElem?_of_len hR.len h
    have z := hR.st l2 a m h hm
    unfold locL at e
    simp only [hm] at e
    cases m with
    | lst ds =>
      obtain ⟨vs, q, r⟩ := z
      cases e
      exact ⟨a, vs, rfl, h, q, r⟩
  | _ => cases e
/-- a method that may change the store -/
def rdMth (K : PySem.W.Frag) (g : D → List D → DSt → Option (D × DSt)) : V → List V → Hp → VK → Prop := fun x vs H Q => ∃ θ H0 M o ds d M', Rep K θ H0 H M ∧ RelD K θ H0 x o ∧ RelDs K θ H0 vs ds ∧ g o ds M = some (d, M') ∧
  ∀ v H' H0', Grow θ θ H0 H0' H H' → Rep K θ H0' H' M' → RelD K θ H0' v d → Q v H'
def isL (M : DSt) (d : D) : Bool := (lstOf M d).isSome
def vMth (g : D → List D → DSt → Option (D × DSt)) (fo : Dm D) (fs : Dm (List D)) : Dm D := fun ρ M => bnd (fo ρ M) fun o M1 => if isL M1 o = true then bnd (fs ρ M1) fun ds M2 => (g o ds M2).map fun p => .ok p.1 p.2 else none
section
variable {X : Cx} {W : WX} {o e : Expr} {es : List Expr} {fo fi fv : Dm D} {fs : Dm (List D)} {pos apos cpos : Pos} {name : Str} {T id : String} {r : V → List V → Hp → VK → Prop} {g : D → List D → DSt → Option (D × DSt)}
theorem bm_of (hr : ∀ x vs H Q, rdMth X.K g x vs H Q → r x vs H Q) {σ : L2.St} {H : Hp} {Q : VK} (q : rd X.K X.mg W (RlV X.K) (vMth g fo fs) σ H Q) : tBM X.K "list" r (rd X.K X.mg W (RlV X.K) fo) (rd X.K X.mg W (RlVs X.K) fs) σ H Q := by
  refine one q fun x H1 θ H0 ρ M d r0 hR hE rx e p => ?_
  by_cases hl : isL M d = true
  · rw [if_pos hl] at e
    refine ⟨?_, ?_⟩
    · obtain ⟨xs, hx⟩ := Option.isSome_iff_exists.mp hl
      obtain ⟨a, vs, rfl, ha, _⟩ := lstOf_rel hR rx hx
      exact .inl ⟨rfl, vs, SqL.of ha⟩
    · obtain ⟨r1, e1, p1⟩ := p.bind (Rl := RlVs X.K) e
      refine ⟨θ, H0, ρ, M, r1, hR, hE, e1, p1.imp fun vs H2 ⟨θ2, H02, M2, ds, r2, g2, hR2, rs, e2, p2⟩ => ?_⟩
      obtain ⟨⟨d', M'⟩, e3, e4⟩ := Option.map_eq_some_iff.mp e2
      cases e4
      exact hr _ _ _ _ ⟨θ2, H02, M2, d, ds, d', M', hR2, rx.mono g2.th g2.ex0, rs, e3, fun v H' H0' gr r' rv => p2 v H' θ2 H0' gr r' rv⟩
  · rw [if_neg hl] at e
    cases e
theorem de_mth (slot : Slot "list" name id) (hty : typeOf (.builtin id) = pure (.type "method_descriptor")) (hm : MtR X id r) (hr : ∀ x vs H Q, rdMth X.K g x vs H Q → r x vs H Q) (ho : De X W o fo) (ha : Da X W (e :: es) fs)
    (hbase : attributeBase o name X.env (eval o X.env) = eval o X.env := by rfl)
    (hfew : ((backTo cpos (starEach (e :: es) X.env)).all (fun x => !x.1) && (backToKw cpos (keywordEach [] X.env)).all (fun x => x.1.isSome)
      && decide ((e :: es).length + ([] : List Keyword).length + (if ([] : List Keyword).isEmpty then 0 else 1) < 30)) = true := by rfl)
    (hline : (apos.endLine == cpos.line) = true := by rfl) (hs : starEach (e :: es) X.env = (false, eval e X.env) :: starEach es X.env := by rfl) (hplain : (backTo cpos (starEach es X.env)).any (·.1) = false := by rfl) :
    De X W (.Call (.Attribute o name apos) (e :: es) [] cpos) (vMth g fo fs) := pe_imp (pe_bm PySem.F.plainAttrs_list slot hty hm ho ha hbase hfew hline hs hplain) fun σ H Q q => bm_of hr q
def appM : D → List D → DSt → Option (D × DSt) := fun o ds M => match locL M o, ds with
  | some (l, xs), [y] => if xs.length < 1000000 then some (.non, M.set l (.lst (xs ++ [y]))) else none
  | _, _ => none
def extM : D → List D → DSt → Option (D × DSt) := fun o ds M => match locL M o, ds with
  | some (l, xs), [y] => (match lstOf M y with
    | some ys => if xs.length + ys.length < 1000000 then some (.non, M.set l (.lst (xs ++ ys))) else none
    | none => none)
  | _, _ => none
theorem de_append (ho : De X W o fo) (ha : Da X W (e :: []) fs) (hbase : attributeBase o "append" X.env (eval o X.env) = eval o X.env := by rfl)
    (hfew : ((backTo cpos (starEach (e :: []) X.env)).all (fun x => !x.1) && (backToKw cpos (keywordEach [] X.env)).all (fun x => x.1.isSome)
      && decide ((e :: []).length + ([] : List Keyword).length + (if ([] : List Keyword).isEmpty then 0 else 1) < 30)) = true := by rfl)
    (hline : (apos.endLine == cpos.line) = true := by rfl) (hs : starEach (e :: []) X.env = (false, eval e X.env) :: starEach [] X.env := by rfl) (hplain : (backTo cpos (starEach [] X.env)).any (·.1) = false := by rfl) :
    De X W (.Call (.Attribute o "append" apos) [e] [] cpos) (vMth appM fo fs) := de_mth PySem.F.slot_list_append PySem.F.type_list_append mt_append (fun x vs H Q ⟨θ, H0, M, od, ds, d, M', hR, rx, rs, eg, p⟩ => by
      unfold appM at eg
      split at eg
      · rename_i l xs y h1
        split at eg
        · rename_i hz
          cases eg
          obtain ⟨a, vs0, rfl, h2, h3, r3⟩ := locL_rel hR rx h1
          obtain ⟨v, rfl, rv⟩ := one_rel rs
          exact ⟨a, vs0, v, rfl, rfl, h3, by rw [r3.len, sizeLine_eq]; omega, p _ _ _ (Grow.put hR h2) (hR.put h2 (r3.append (.one rv))) .non⟩
        · cases eg
      · cases eg) ho ha hbase hfew hline hs hplain
theorem de_extend (ho : De X W o fo) (ha : Da X W (e :: []) fs) (hbase : attributeBase o "extend" X.env (eval o X.env) = eval o X.env := by rfl)
    (hfew : ((backTo cpos (starEach (e :: []) X.env)).all (fun x => !x.1) && (backToKw cpos (keywordEach [] X.env)).all (fun x => x.1.isSome)
      && decide ((e :: []).length + ([] : List Keyword).length + (if ([] : List Keyword).isEmpty then 0 else 1) < 30)) = true := by rfl)
    (hline : (apos.endLine == cpos.line) = true := by rfl) (hs : starEach (e :: []) X.env = (false, eval e X.env) :: starEach [] X.env := by rfl) (hplain : (backTo cpos (starEach [] X.env)).any (·.1) = false := by rfl) :
    De X W (.Call (.Attribute o "extend" apos) [e] [] cpos) (vMth extM fo fs) := de_mth PySem.F.slot_list_extend PySem.F.type_list_extend mt_extend (fun x vs H Q ⟨θ, H0, M, od, ds, d, M', hR, rx, rs, eg, p⟩ => by
      unfold extM at eg
      split at eg
      · rename_i l xs y h1
        split at eg
        · rename_i ys h4
          split at eg
          · rename_i hz
            cases eg
            obtain ⟨a, vs0, rfl, h2, h3, r3⟩ := locL_rel hR rx h1
            obtain ⟨v, rfl, rv⟩ := one_rel rs
            obtain ⟨b, ws, rfl, h5, r5⟩ := lstOf_rel hR rv h4
            exact ⟨a, b, vs0, ws, rfl, rfl, h3, h5, by rw [r3.len, r5.len, sizeLine_eq]; omega, p _ _ _ (Grow.put hR h2) (hR.put h2 (r3.append r5)) .non⟩
          · cases eg
        · cases eg
      · cases eg) ho ha hbase hfew hline hs hplain
/-- an expression ahead of the rest, with what grew -/
theorem sOneG {K : PySem.W.Frag} {mg : Str → Option Value} {W : WX} {E : Ends} {α β : Type} {Rl : List Addr → Hp → Hp → β → α → Prop} {σ : L2.St} {H : Hp} {f : Dm α} {k : α → DSt → RS} {Q1 : β → Hp → Prop} {θ : List Addr} {H0 : Hp} {ρ : DEnv} {M : DSt} {r : Fl × DSt}
    (hR : Rep K θ H0 H M) (hE : RelE K θ H0 σ ρ) (e : sb (f ρ M) ρ k = some r) (p : PostS K mg W θ H0 H r E)
    (s : ∀ v H1 θ1 H01 M1 x, Grow θ θ1 H0 H01 H H1 → Rep K θ1 H01 H1 M1 → RelE K θ1 H01 σ ρ → Rl θ1 H01 H1 v x → k x M1 = some r → PostS K mg W θ1 H01 H1 r E → Q1 v H1) : rd K mg W Rl f σ H Q1 := by
  cases hf : f ρ M with
  | none => rw [hf] at e; cases e
  | some o =>
    rw [hf] at e
    refine ⟨θ, H0, ρ, M, o, hR, hE, hf, ?_⟩
    cases o with
    | ok a M1 => exact fun v H1 θ1 H01 g r1 rv => s v H1 θ1 H01 M1 a g r1 (hE.mono g.th g.ex0) rv e (p.grow g)
    | ex x M1 =>
      cases e
      exact fun cls od H1 θ1 H01 g r1 rx => p cls od σ H1 θ1 H01 g r1 (hE.mono g.th g.ex0) rx
/-- x[i] = v -/
def sSetIx (fv fo fi : Dm D) : Sm := fun ρ M => sb (fv ρ M) ρ fun v M1 => sb (fo ρ M1) ρ fun o M2 => sb (fi ρ M2) ρ fun i M3 => match locL M3 o, i with
  | some (l, xs), .int k => (match ixN xs.length k with
    | some j => some (.nx ρ, M3.set l (.lst (xs.set j v)))
    | none => none)
  | _, _ => none
theorem ds_setix {ix : Expr} {pos' : Pos} (he : De X W e fv) (ho : De X W o fo) (hi : De X W ix fi)
    (ha : ∀ v, assign (.Subscript o ix pos') X.env v = (do
      let ov ← holding [v] (eval o X.env)
      let iv ← holding [v, ov] (eval ix X.env)
      standAt pos'
      holding [v, ov, iv] (setItem ov iv v)
      release [v, ov, iv] []) := by intro _; rfl)
    (hs : swapsWithSole [.Subscript o ix pos'] e pos.line X.env = pure false := by rfl) (hw : swappedStores [.Subscript o ix pos'] e X.env = pure none := by rfl)
    (h1 : (assignEach [.Subscript o ix pos'] X.env).map (·.2) = [assign (.Subscript o ix pos') X.env] := by rfl) : Ds X W (.Assign [.Subscript o ix pos'] e pos) (sSetIx fv fo fi) :=
  ps_imp (ps_asg he (pg_sub ho hi set_list ha) hs hw h1) fun E σ H q => by
    obtain ⟨θ, H0, ρ, M, r, hR, hE, e, p⟩ := q
    refine sOneG (Rl := RlV X.K) hR hE e p fun v H1 θ1 H01 M1 x g1 hR1 hE1 rv e p => ?_
    refine sOneG (Rl := RlV X.K) hR1 hE1 e p fun o H2 θ2 H02 M2 y g2 hR2 hE2 ro e p => ?_
    refine sOneG (Rl := RlV X.K) hR2 hE2 e p fun i H3 θ3 H03 M3 z g3 hR3 hE3 ri e p => ?_
    split at e
    · rename_i l xs k h1
      split at e
      · rename_i j h2
        cases e
        have ro3 := ro.mono g3.th g3.ex0
        have rv3 := (rv.mono g2.th g2.ex0).mono g3.th g3.ex0
        obtain ⟨a, vs, rfl, h3, h4, r4⟩ := locL_rel hR3 ro3 h1
        cases ri
        exact ⟨a, vs, k, j, rfl, rfl, h4, by rw [r4.len]; exact h2, p σ _ θ3 H03 (Grow.put hR3 h3) (hR3.put h3 (r4.set j rv3)) hE3⟩
      · cases e
    · cases e
end
end DL
end

section
set_option Elab.async false
set_option linter.all false
set_option maxRecDepth 100000
set_option maxHeartbeats 1000000
/-! DL11: sorted, repr, max and min, list(range), len(set(x)), sorted(set(x)). -/
namespace DL
open PySem PySem.Spec PyProof.Rows L2
open Evl (Ex)

open PySem.W (EachIs AllAlike Sortable dataLe alike)
/-! ### the order -/
abbrev leD : D → D → Bool := dataLe false pyD
def alikes (xs : List D) : Bool := xs.all fun a => xs.all fun b => alike (pyD a) (pyD b)
def filledT : D → Bool
  | .tup (_ :: _) => true
  | _ => false
def noTup : D → Bool
  | .tup _ => false
  | .non => false
  | .loc _ => false
  | _ => true
def sortOk (xs : List D) : Bool := D.unders 0 xs && alikes xs && (xs.all filledT || xs.all noTup) && xs.all okD && decide (xs.length ≤ 1000000)
theorem alikes_all {xs : List D} (h : alikes xs = true) : AllAlike (xs.map pyD) := by
  intro d hd e he
  obtain ⟨a, ha, rfl⟩ := List.mem_map.mp hd
  obtain ⟨b, hb, rfl⟩ := List.mem_map.mp he
  exact List.all_eq_true.mp (List.all_eq_true.mp h a ha) b hb
theorem sortable_of {xs : List D} (h : (xs.all filledT || xs.all noTup) = true) : Sortable (xs.map pyD) := by
  rcases Bool.or_eq_true_iff.mp h with h | h
  · refine .inl fun d hd => ?_
    obtain ⟨a, ha, rfl⟩ := List.mem_map.mp hd
    have k := List.all_eq_true.mp h a ha
    match a, ha, k with
    | .tup (x :: r), _, _ => exact ⟨pyD x, pyDs r, rfl⟩
  · refine .inr fun d hd => ?_
    obtain ⟨a, ha, rfl⟩ := List.mem_map.mp hd
    have k := List.all_eq_true.mp h a ha
    cases a <;> first | exact absurd k Bool.false_ne_true | (refine ⟨fun z => ?_, fun xs z => ?_⟩ <;> cases z)
theorem unders_mem {n : Nat} : ∀ {xs : List D}, D.unders n xs = true → ∀ d ∈ xs, d.under n = true
  | [], _, d, h => nomatch h
  | x :: xs, e, d, h => by
    have e' := Bool.and_eq_true_iff.mp e
    rcases List.mem_cons.mp h with z | z
    · rw [z]; exact e'.1
    · exact unders_mem e'.2 d z
section
variable {X : Cx} {pins : List (Addr × Obj)} {σ : L2.St} {H H0 : Hp} {θ : List Addr} {s : Shared}
abbrev RdV (K : PySem.W.Frag) (θ : List Addr) (H : Hp) (u : Value) (d : D) : Prop := ∃ v, RelV v u ∧ RelD K θ H v d ∧ d.under 0 = true
theorem each_rd {K : PySem.W.Frag} : ∀ {vs : List V} {us : List Value} {ds : List D}, Vals vs us → RelDs K θ H vs ds → D.unders 0 ds = true → EachIs (RdV K θ H) us ds
  | _, _, _, .nil, .nil, _ => .nil
  | _, _, _, .cons r t, .cons h q, e => by
    have e' := Bool.and_eq_true_iff.mp e
    exact .cons ⟨_, r, h, e'.1⟩ (each_rd t q e'.2)
theorem each_back {K : PySem.W.Frag} : ∀ {us : List Value} {ds : List D}, EachIs (RdV K θ H) us ds → ∃ vs, Vals vs us ∧ RelDs K θ H vs ds
  | _, _, .nil => ⟨[], .nil, .nil⟩
  | _, _, .cons ⟨v, r, h, _⟩ t => by
    obtain ⟨vs, a, b⟩ := each_back t
    exact ⟨v :: vs, .cons r a, .cons h b⟩
theorem each_reads (I : Inv X pins σ H s) (ex : Ex H0 H) {us : List Value} {ds : List D} (e : EachIs (RdV X.K θ H0) us ds) : EachIs (fun v d => ∃ as, Reads s.heap v (pyD d) as) us ds :=
  e.mono fun u d ⟨v, r, h, h0⟩ => by
    have k := h.under 0 h0
    rw [List.take_zero] at k
    exact Dp.reads I (pyD d) v u (dp_of (k.mono (List.nil_prefix) ex)) r
theorem ok_room {xs : List D} (h : xs.all okD = true) {n : Nat} (hu : n + 64 < cLine) : ∀ d, d ∈ xs → n + (pyD d).depth < cLine := fun d hd => by
  have k : (pyD d).depth ≤ 64 := SeqAt.depth_of_shaped (List.all_eq_true.mp h d hd)
  omega
/-- sorted(x) of a list -/
theorem sorted_list (I : Inv X pins σ H s) (hu : X.A.units + 66 < cLine) {a : Addr} {vs : List V} {xs : List D} {Q : Value → Shared → Prop} {E : Value → Shared → Prop} (ex : Ex H0 H) (hl : SqL X.K H a vs) (r : RelDs X.K θ H0 vs xs) (ok : sortOk xs = true)
    (fin : ∀ p ws s', H p = none → RelDs X.K θ H0 ws (xs.mergeSort leD) → Inv X pins σ (upd H p (.lst ws)) s' → Q (.ref p) s') : wpAny (model X.prog X.w) X.A (call (.builtin "sorted") [.ref a]) Q E s := by
  unfold sortOk at ok
  simp only [Bool.and_eq_true, decide_eq_true_eq] at ok
  obtain ⟨⟨⟨⟨h0, h1⟩, h2⟩, h3⟩, h4⟩ := ok
  obtain ⟨its, rv, il, hz⟩ := I.list hl
  have e := each_rd rv r h0
  refine PySem.W.sorted_data (enc := pyD) (bs := xs) il.isList e (each_reads I ex e) (alikes_all h1) (sortable_of h2) (by rw [sizeLine_eq]; omega) (ok_room h3 (by omega)) fun out hlen eo => ?_
  obtain ⟨ws, rw', rr⟩ := each_back eo
  obtain ⟨ep, he'⟩ := PyProof.Rows.sortedAll_at s.heap its out.toArray
  refine fin (s.heap.objs.size + 1) ws _ (I.hok.fresh (Nat.le_succ _)) rr ?_
  exact I.laid (t' := s.toks) (fun _ _ => PyProof.Rows.sortedAll_old) (Nat.le_succ _) ⟨by rw [rr.len, List.length_mergeSort, sizeLine_eq]; omega, out, ep, rw', he'⟩
def sortB : List D → DSt → Option D := fun ds M => match ds with
  | [d] => (lstOf M d).bind fun xs => if sortOk xs = true then some (.lst (xs.mergeSort leD)) else none
  | _ => none
theorem b_sort (hu : X.A.units + 66 < cLine) : CallR X (.builtin "sorted") (rdCall X.K sortB) := by
  intro pins s σ H vs us Q I r ⟨θ, H0, M, ds, d, hR, rs, e, g⟩
  unfold sortB at e
  match ds, rs, e with
  | [c], rs, e =>
    obtain ⟨v, rfl, rv⟩ := one_rel rs
    obtain ⟨xs, h1, h2⟩ := Option.bind_eq_some_iff.mp e
    split at h2
    · rename_i ok
      cases h2
      obtain ⟨a, ws, rfl, ha, r2⟩ := lstOf_rel hR rv h1
      rw [Vals.ref1 r]
      exact sorted_list I hu hR.ex (SqL.of ha) r2 ok fun p zs s' hp rz J => ⟨.ref p, _, J, rfl, g.lst hR rz hp⟩
    · cases h2
/-! ### repr -/
def reprB : List D → DSt → Option D := fun ds M => match ds with
  | [d] => (clean M d).bind fun c => if (pyD c).showable = true ∧ (pyD c).shown.length ≤ 1000000 ∧ okD c = true then some (.str (pyD c).shown) else none
  | _ => none
theorem b_repr (hg : X.A.guards = some []) (hu : X.A.units + 66 < cLine) : CallR X (.builtin "repr") (rdCall X.K reprB) := by
  intro pins s σ H vs us Q I r ⟨θ, H0, M, ds, d, hR, rs, e, g⟩
  unfold reprB at e
  match ds, rs, e with
  | [c], rs, e =>
    obtain ⟨v, rfl, rv⟩ := one_rel rs
    obtain ⟨c', h1, h2⟩ := Option.bind_eq_some_iff.mp e
    split at h2
    · rename_i ok
      cases h2
      obtain ⟨u, rfl, ru⟩ := vals1 r
      have rc := dp_of (clean_rel hR rv h1)
      obtain ⟨as, rd⟩ := Dp.reads I (pyD c') v u rc ru
      have hz : (pyD c').shown.length ≤ sizeLine := by rw [sizeLine_eq]; omega
      have hd : (pyD c').depth ≤ 64 := SeqAt.depth_of_shaped ok.2.2
      have nodict : (pyD c').hasDict = false := PyData.hasDict_of_canLay _ (SeqAt.canLay_of_shaped ok.2.2)
      have done : ∀ (t : Tok) (s' : Shared), Inv X pins σ H s' → EP X pins σ Q (.str (pyD c').shown t) s' := fun t s' J => ⟨.str _, H, J, ⟨t, rfl⟩, g.val hR (.str _)⟩
      generalize hx : pyD c' = x at rd hz hd nodict done ok
      cases rd with
      | none => exact PySem.P.repr_of_none (done _ _ (I.tok _))
      | bool b => exact PySem.P.repr_of_bool (done _ _ (I.tok _))
      | int i t => exact PySem.P.repr_of_int (by simpa [PyData.showable] using ok.1) (done _ _ (I.tok _))
      | str y t => exact PySem.P.repr_of_str (done _ _ (I.tok _)) hz
      | @list a o ws n xs bs k1 k2 k3 k4 =>
        exact repr_of_reads' (.list k1 k2 k3 k4) ok.1 (fun z => by rw [nodict] at z; cases z) hg (by omega) (fun b o z => z) (fun h' t tk k => done t _ (I.kept k)) hz
      | @tuple a o ws n xs bs k1 k2 k3 k4 =>
        exact repr_of_reads' (.tuple k1 k2 k3 k4) ok.1 (fun z => by rw [nodict] at z; cases z) hg (by omega) (fun b o z => z) (fun h' t tk k => done t _ (I.kept k)) hz
      | dict k1 k2 k3 k4 k5 => cases nodict
    · cases h2
/-! ### max, min -/
def intsD : List D → Option (List Int)
  | [] => some []
  | .int i :: r => (intsD r).map (i :: ·)
  | _ :: _ => none
theorem ints_rel {K : PySem.W.Frag} {θ : List Addr} {H0 : Hp} : ∀ {vs : List V} {ds : List D} {ns : List Int}, RelDs K θ H0 vs ds → intsD ds = some ns → vs = ns.map V.int ∧ ds = ns.map D.int
  | _, _, _, .nil, e => by cases e; exact ⟨rfl, rfl⟩
  | _, _, _, .cons (.int i) r, e => by
    obtain ⟨ns, h, rfl⟩ := Option.map_eq_some_iff.mp e
    obtain ⟨h1, h2⟩ := ints_rel r h
    exact ⟨by rw [h1]; rfl, by rw [h2]; rfl⟩
  | _, _, _, .cons .non r, e => nomatch e
  | _, _, _, .cons (.bl _) r, e => nomatch e
  | _, _, _, .cons (.str _) r, e => nomatch e
  | _, _, _, .cons (.tup _ _) r, e => nomatch e
  | _, _, _, .cons (.lst _ _) r, e => nomatch e
  | _, _, _, .cons (.rol _ _) r, e => nomatch e
  | _, _, _, .cons (.loc _) r, e => nomatch e
theorem reads_ints {h : Heap} : ∀ {us : List Value} {ns : List Int}, Vals (ns.map V.int) us → ReadsAll h us (ns.map .int) []
  | _, [], .nil => .nil
  | _, n :: ns, .cons ⟨t, e⟩ r => by
    subst e
    exact .cons (.int n t) (reads_ints r)
theorem alike_intsL : ∀ ns : List Int, PySem.W.AlikeAll (ns.map .int) := fun ns => by
  refine ⟨fun a ha b hb => ?_, fun a ha => ?_⟩
  · obtain ⟨i, _, rfl⟩ := List.mem_map.mp ha
    obtain ⟨j, _, rfl⟩ := List.mem_map.mp hb
    rfl
  · obtain ⟨i, _, rfl⟩ := List.mem_map.mp ha
    intro z
    cases z
def maxB : List D → DSt → Option D := fun ds M => match ds with
  | [.int i, .int j] => some (.int (if j > i then j else i))
  | [d] => (seqOf M d).bind fun xs => (intsD xs).bind fun ns => match ns with
    | [] => none
    | n :: r => some (.int (r.foldl max n))
  | _ => none
def minB : List D → DSt → Option D := fun ds M => match ds with
  | [.int i, .int j] => some (.int (if j < i then j else i))
  | _ => none
theorem b_min (hc : X.calm = true) : CallR X (.builtin "min") (rdCall X.K minB) := callr_imp (call_min2 hc) fun vs H Q ⟨θ, H0, M, ds, d, hR, rs, e, g⟩ => by
  match ds, rs, e with
  | [.int i, .int j], rs, e =>
    obtain ⟨v, w, rfl, rv, rw'⟩ := two_rel rs
    cases rv
    cases rw'
    cases e
    exact ⟨i, j, rfl, g.val hR (.int _)⟩
theorem b_max (hc : X.calm = true) (hu : X.A.units + 66 < cLine) : CallR X (.builtin "max") (rdCall X.K maxB) := by
  intro pins s σ H vs us Q I r ⟨θ, H0, M, ds, d, hR, rs, e, g⟩
  have key : ∀ {c : D} {v : V}, RelD X.K θ H0 v c → Vals [v] us → ((seqOf M c).bind fun xs => (intsD xs).bind fun ns => match ns with
      | [] => none
      | n :: r => some (D.int (r.foldl max n))) = some d → wpAny (model X.prog X.w) X.A (call (.builtin "max") us) (EP X pins σ Q) X.xe s := fun {c v} rv r e => by
    obtain ⟨xs, h1, h2⟩ := Option.bind_eq_some_iff.mp e
    obtain ⟨ns, h3, h4⟩ := Option.bind_eq_some_iff.mp h2
    cases ns with
    | nil => cases h4
    | cons n m =>
      cases h4
      obtain ⟨a, vs, rfl, r2, h | h⟩ := seq_rel hR rv h1
      · obtain ⟨rfl, rfl⟩ := ints_rel r2 h3
        obtain ⟨its, rvs, il, hz⟩ := I.list h.1
        rw [Vals.ref1 r]
        refine PySem.W.max_list_data (vs := its.toArray) (x := .int n) (xs := m.map .int) (I.ok.hd hc) il.isList (reads_ints (ns := n :: m) rvs) (alike_intsL (n :: m)) (by rw [show (PyData.int n :: m.map .int) = (n :: m).map .int from rfl, PySem.W.depth_ints]; omega) fun i v h' tk bs _ rd k => ?_
        rw [PySem.W.maxD_ints] at rd
        cases rd
        exact ⟨.int _, H, I.kept k, ⟨_, rfl⟩, g.val hR (.int _)⟩
      · obtain ⟨rfl, _⟩ := ints_rel r2 h3
        obtain ⟨its, rvs, it, hz⟩ := I.tuple h.1
        rw [Vals.ref1 r]
        refine PySem.W.max_tuple_data (vs := its.toArray) (x := .int n) (xs := m.map .int) (I.ok.hd hc) it (reads_ints (ns := n :: m) rvs) (alike_intsL (n :: m)) (by rw [show (PyData.int n :: m.map .int) = (n :: m).map .int from rfl, PySem.W.depth_ints]; omega) fun i v h' tk bs _ rd k => ?_
        rw [PySem.W.maxD_ints] at rd
        cases rd
        exact ⟨.int _, H, I.kept k, ⟨_, rfl⟩, g.val hR (.int _)⟩
  match ds, rs, e with
  | [.int i, .int j], rs, e =>
    obtain ⟨v, w, rfl, rv, rw'⟩ := two_rel rs
    cases rv
    cases rw'
    cases e
    exact call_max2 hc pins s σ H _ us Q I r ⟨i, j, rfl, g.val hR (.int _)⟩
  | [.tup xs], rs, e | [.lst xs], rs, e | [.rol xs], rs, e | [.loc l], rs, e | [.non], rs, e | [.bl b], rs, e | [.int i], rs, e | [.str z], rs, e =>
    obtain ⟨v, rfl, rv⟩ := one_rel rs
    exact key rv r e
end
/-! ### list(range(..)) -/
def rgD (a b : Int) : List D := (List.range (b - a).toNat).map fun i => .int (a + (i : Nat))
theorem rg_rel {K : PySem.W.Frag} {θ : List Addr} {H0 : Hp} (a b : Int) : RelDs K θ H0 (rgV a b) (rgD a b) := by
  unfold rgV rgD
  generalize List.range (b - a).toNat = l
  induction l with
  | nil => exact .nil
  | cons i l ih => exact .cons (.int _) ih
def rgOk (a b : Int) : Bool := decide (-1000000 ≤ a ∧ a ≤ 1000000 ∧ -1000000 ≤ b ∧ b ≤ 1000000)
theorem rgOk_of {a b : Int} (h : rgOk a b = true) : RgOk a b := by
  have h' := of_decide_eq_true h
  exact ⟨by omega, by omega, by omega, by omega, by omega⟩
def vRg1 (mk : List D → D) (fa : Dm D) : Dm D := fun ρ M => bnd (fa ρ M) fun x M1 => match x with
  | .int n => if rgOk 0 n = true then some (.ok (mk (rgD 0 n)) M1) else none
  | _ => none
def vRg2 (mk : List D → D) (fa fb : Dm D) : Dm D := fun ρ M => bnd (fa ρ M) fun x M1 => bnd (fb ρ M1) fun y M2 => match x, y with
  | .int i, .int j => if rgOk i j = true then some (.ok (mk (rgD i j)) M2) else none
  | _, _ => none
section
variable {X : Cx} {W : WX} {a b : Expr} {fa fb : Dm D} {p p2 pos pos2 : Pos}
theorem de_lstRg (hc : X.calm = true) (ha : De X W a fa) (hm : X.mg "list" = none) (hm2 : X.mg "range" = none) (hg : Gl X "list" := by rfl) (hg2 : Gl X "range" := by rfl)
    (na : starEach [a] X.env = (false, eval a X.env) :: starEach [] X.env := by rfl) (nb : starEach [.Call (.Name "range" p2) [a] [] pos2] X.env = (false, eval (.Call (.Name "range" p2) [a] [] pos2) X.env) :: starEach [] X.env := by rfl) :
    De X W (.Call (.Name "list" p) [.Call (.Name "range" p2) [a] [] pos2] [] pos) (vRg1 .lst fa) := pe_imp (pe_listRg hc hg hm (prg_1 hg2 hm2 ha na) nb) fun σ H Q q => by
    refine one q fun v H1 θ H0 ρ M x r hR _ rx e p => ?_
    split at e
    · rename_i n
      split at e
      · rename_i hz
        cases e
        cases rx
        exact ⟨n, rfl, rgOk_of hz, fun q hq => Give.lst (fun v H' H0' g hr hl => p v H' θ H0' g hr hl) hR (rg_rel 0 n) hq⟩
      · cases e
    · cases e
theorem de_tupRg (hc : X.calm = true) (ha : De X W a fa) (hm : X.mg "tuple" = none) (hm2 : X.mg "range" = none) (hg : Gl X "tuple" := by rfl) (hg2 : Gl X "range" := by rfl)
    (na : starEach [a] X.env = (false, eval a X.env) :: starEach [] X.env := by rfl) (nb : starEach [.Call (.Name "range" p2) [a] [] pos2] X.env = (false, eval (.Call (.Name "range" p2) [a] [] pos2) X.env) :: starEach [] X.env := by rfl) :
    De X W (.Call (.Name "tuple" p) [.Call (.Name "range" p2) [a] [] pos2] [] pos) (vRg1 .tup fa) := pe_imp (pe_tupRg hc hg hm (prg_1 hg2 hm2 ha na) nb) fun σ H Q q => by
    refine one q fun v H1 θ H0 ρ M x r hR _ rx e p => ?_
    split at e
    · rename_i n
      split at e
      · rename_i hz
        cases e
        cases rx
        exact ⟨n, rfl, rgOk_of hz, fun q hq => Give.tup (fun v H' H0' g hr hl => p v H' θ H0' g hr hl) hR (rg_rel 0 n) hq⟩
      · cases e
    · cases e
end
end DL
end

section
set_option Elab.async false
set_option linter.all false
set_option maxRecDepth 100000
set_option maxHeartbeats 1000000
/-! DL12: len(set(x)), sorted(set(x)). -/
namespace DL
open PySem PySem.Spec PyProof.Rows L2
open Evl (Ex)
open PySem.W (EachIs AllAlike Sortable dataLe alike)
/-! ### a tree as a key -/
mutual
def nkD : D → NestedKey
  | .int i => .num i
  | .bl b => .num (if b then 1 else 0)
  | .str x => .text x
  | .tup xs => .tup (nkDs xs)
  | _ => .none
def nkDs : List D → List NestedKey
  | [] => []
  | d :: ds => nkD d :: nkDs ds
end
mutual
/-- numbers, None, tuples of such -/
def keyable : D → Bool
  | .int _ => true
  | .non => true
  | .tup xs => keyables xs
  | _ => false
def keyables : List D → Bool
  | [] => true
  | d :: ds => keyable d && keyables ds
end
mutual
theorem nkD_inj : ∀ {a b : D}, keyable a = true → keyable b = true → nkD a = nkD b → a = b
  | .int i, .int j, _, _, e => by cases e; rfl
  | .int i, .non, _, _, e => nomatch e
  | .int i, .tup _, _, _, e => nomatch e
  | .non, .int i, _, _, e => nomatch e
  | .non, .non, _, _, _ => rfl
  | .non, .tup _, _, _, e => nomatch e
  | .tup _, .int i, _, _, e => nomatch e
  | .tup _, .non, _, _, e => nomatch e
  | .tup xs, .tup ys, h1, h2, e => by
    have e' : nkDs xs = nkDs ys := by injection e
    rw [nkDs_inj h1 h2 e']
theorem nkDs_inj : ∀ {as bs : List D}, keyables as = true → keyables bs = true → nkDs as = nkDs bs → as = bs
  | [], [], _, _, _ => rfl
  | [], _ :: _, _, _, e => nomatch e
  | _ :: _, [], _, _, e => nomatch e
  | a :: as, b :: bs, h1, h2, e => by
    have h1' := Bool.and_eq_true_iff.mp h1
    have h2' := Bool.and_eq_true_iff.mp h2
    have e1 : nkD a = nkD b := by injection e
    have e2 : nkDs as = nkDs bs := by injection e
    rw [nkD_inj h1'.1 h2'.1 e1, nkDs_inj h1'.2 h2'.2 e2]
end
mutual
theorem num_nk : ∀ {d : D}, keyable d = true → numK (nkD d) = true
  | .int _, _ => rfl
  | .non, _ => rfl
  | .tup xs, h => num_nks (xs := xs) h
theorem num_nks : ∀ {xs : List D}, keyables xs = true → numKs (nkDs xs) = true
  | [], _ => rfl
  | d :: ds, h => by
    have h' := Bool.and_eq_true_iff.mp h
    unfold nkDs numKs
    rw [num_nk h'.1, num_nks h'.2]
    rfl
end
/-! ### each one once, as first met -/
def once {α β : Type} [DecidableEq β] (f : α → β) : List α → List α
  | [] => []
  | x :: xs => x :: (once f xs).filter fun y => decide (f y ≠ f x)
section
variable {α β : Type} [DecidableEq β] {f : α → β}
theorem once_sub : ∀ {l : List α} {x : α}, x ∈ once f l → x ∈ l
  | [], _, h => nomatch h
  | y :: l, x, h => by
    unfold once at h
    rcases List.mem_cons.mp h with z | z
    · rw [z]; exact List.mem_cons_self
    · exact List.mem_cons_of_mem _ (once_sub (List.mem_filter.mp z).1)
theorem once_all : ∀ {l : List α} {x : α}, x ∈ l → f x ∈ (once f l).map f
  | y :: l, x, h => by
    unfold once
    rw [List.map_cons]
    by_cases e : f x = f y
    · rw [e]; exact List.mem_cons_self
    · rcases List.mem_cons.mp h with z | z
      · exact absurd (by rw [z]) e
      · obtain ⟨u, hu, hf⟩ := List.mem_map.mp (once_all z)
        refine List.mem_cons_of_mem _ (List.mem_map.mpr ⟨u, List.mem_filter.mpr ⟨hu, ?_⟩, hf⟩)
        rw [decide_eq_true_eq, hf]
        exact e
theorem once_nd : ∀ l : List α, ((once f l).map f).Nodup
  | [] => List.nodup_nil
  | x :: l => by
    unfold once
    rw [List.map_cons, List.nodup_cons]
    refine ⟨fun h => ?_, ?_⟩
    · obtain ⟨u, hu, hf⟩ := List.mem_map.mp h
      have k := (List.mem_filter.mp hu).2
      rw [decide_eq_true_eq] at k
      exact k hf
    · exact (once_nd l).sublist ((List.filter_sublist).map f)
theorem nodup_same_len {l m : List β} (h1 : l.Nodup) (h2 : m.Nodup) (h : ∀ x, x ∈ l ↔ x ∈ m) : l.length = m.length := ((List.perm_ext_iff_of_nodup h1 h2).mpr h).length_eq
end
/-! ### what is put in -/
def isInt : D → Bool
  | .int _ => true
  | _ => false
def keyT (d : D) : Bool := (match d with
  | .tup _ => true
  | _ => false) && keyable d && decide ((nkD d).depth ≤ 8)
def setOk (xs : List D) : Bool := (xs.all isInt && decide (xs.length < 4000)) || (xs.all keyT && decide (xs.length < 76))
section
variable {X : Cx} {pins : List (Addr × Obj)} {σ : L2.St} {H H0 : Hp} {θ : List Addr} {s : Shared}
mutual
theorem nested_of (I : Inv X pins σ H s) (ex : Ex H0 H) : ∀ {d : D} {v : V} {u : Value}, RelD X.K θ H0 v d → RelV v u → keyable d = true → NestedIs s.heap (nkD d) u
  | .int i, _, _, .int _, r, _ => by
    obtain ⟨t, rfl⟩ := r
    exact .int i t
  | .non, _, _, .non, r, _ => by
    cases r
    exact .none
  | .tup ds, _, _, .tup h rs, r, k => by
    cases r
    obtain ⟨its, rv, ⟨o, ho, hc, n, hd⟩, _⟩ := I.tuple (Evl.ex_t ex h)
    exact .tup ho hc hd (by simpa using nesteds_of I ex (ds := ds) rs rv k)
theorem nesteds_of (I : Inv X pins σ H s) (ex : Ex H0 H) : ∀ {ds : List D} {vs : List V} {us : List Value}, RelDs X.K θ H0 vs ds → Vals vs us → keyables ds = true → NestedAll s.heap (nkDs ds) us
  | [], _, _, .nil, .nil, _ => .nil
  | d :: ds, _, _, .cons h rs, .cons r rv, k => by
    have k' := Bool.and_eq_true_iff.mp k
    exact .cons (nested_of I ex h r k'.1) (nesteds_of I ex rs rv k'.2)
end
/-- the keys with their addresses, and what they stand for -/
theorem keys_of (I : Inv X pins σ H s) (ex : Ex H0 H) : ∀ {ds : List D} {vs : List V} {us : List Value}, RelDs X.K θ H0 vs ds → Vals vs us → ds.all keyT = true →
    ∃ ks : List KA, us = ks.map (fun p => Value.ref p.1) ∧ ks.map (·.2) = ds.map nkD ∧ (∀ p ∈ ks, IsN s.heap p.2 p.1) ∧ ∀ p ∈ ks, ∃ d ∈ ds, RelD X.K θ H0 (.ref p.1) d ∧ nkD d = p.2
  | _, _, _, .nil, .nil, _ => ⟨[], rfl, rfl, fun p h => (by cases h), fun p h => (by cases h)⟩
  | d :: ds, v :: vs, u :: us, .cons h rs, .cons r rv, k => by
    rw [List.all_cons] at k
    have k' := Bool.and_eq_true_iff.mp k
    obtain ⟨ks, e1, e2, e3, e4⟩ := keys_of I ex rs rv k'.2
    have kd := k'.1
    unfold keyT at kd
    simp only [Bool.and_eq_true, decide_eq_true_eq] at kd
    obtain ⟨⟨kt, kk⟩, k8⟩ := kd
    obtain ⟨a, rfl⟩ : ∃ a, v = .ref a := by
      cases h <;> first | exact ⟨_, rfl⟩ | exact absurd kt Bool.false_ne_true
    cases r
    have n := nested_of I ex h rfl kk
    refine ⟨(a, nkD d) :: ks, by rw [e1]; rfl, by rw [List.map_cons, e2]; rfl, fun p hp => ?_, fun p hp => ?_⟩
    · rcases List.mem_cons.mp hp with z | z
      · rw [z]; exact ⟨n, k8, num_nk kk⟩
      · exact e3 p z
    · rcases List.mem_cons.mp hp with z | z
      · rw [z]; exact ⟨d, List.mem_cons_self, h, rfl⟩
      · obtain ⟨d', m, q⟩ := e4 p z
        exact ⟨d', List.mem_cons_of_mem _ m, q⟩
theorem got_len {ks L : List KA} (g : KGot ks ks.length L) (nd : (L.map (·.2)).Nodup) {ds : List D} (e : ks.map (·.2) = ds.map nkD) : L.length = (once nkD ds).length := by
  have h := nodup_same_len nd (once_nd (f := nkD) ds) fun x => by
    constructor
    · intro hx
      obtain ⟨p, hp, rfl⟩ := List.mem_map.mp hx
      have h1 := g.sub p hp
      rw [List.take_length] at h1
      have h2 : p.2 ∈ ks.map (·.2) := List.mem_map.mpr ⟨p, h1, rfl⟩
      rw [e] at h2
      obtain ⟨d, hd, hk⟩ := List.mem_map.mp h2
      rw [← hk]
      exact once_all hd
    · intro hx
      obtain ⟨d, hd, rfl⟩ := List.mem_map.mp hx
      have h1 : nkD d ∈ ds.map nkD := List.mem_map.mpr ⟨d, once_sub hd, rfl⟩
      rw [← e] at h1
      obtain ⟨p, hp, hk⟩ := List.mem_map.mp h1
      rw [← hk]
      exact g.all p (by rw [List.take_length]; exact hp)
  rwa [List.length_map, List.length_map] at h
theorem ints_nk : ∀ {ds : List D}, ds.all isInt = true → ∃ ns : List Int, ds = ns.map D.int
  | [], _ => ⟨[], rfl⟩
  | d :: ds, h => by
    rw [List.all_cons] at h
    have h' := Bool.and_eq_true_iff.mp h
    obtain ⟨ns, rfl⟩ := ints_nk h'.2
    cases d with
    | int i => exact ⟨i :: ns, rfl⟩
    | _ => exact absurd h'.1 Bool.false_ne_true
theorem rel_ints {K : PySem.W.Frag} : ∀ {vs : List V} {ns : List Int}, RelDs K θ H0 vs (ns.map D.int) → vs = ns.map V.int
  | _, [], .nil => rfl
  | _, _ :: _, .cons (.int _) r => by rw [rel_ints r]; rfl
theorem setR_len {w : World} {h : Heap} {a : Addr} {ns : List Int} {c : Nat} (R : SetR w h a (fun j => decide (j ∈ ns)) c) : c = (once nkD (ns.map D.int)).length := by
  obtain ⟨o, es, ep, t, ho, hex, hd, good, nd, mem, hb, hf, hn, _⟩ := R
  have h := nodup_same_len (nd.map NestedKey.num fun a b hne e => hne (by injection e)) (once_nd (f := nkD) (ns.map D.int)) fun x => by
    constructor
    · intro hx
      obtain ⟨k, hk, rfl⟩ := List.mem_map.mp hx
      have h1 := of_decide_eq_true ((mem k).mpr hk)
      exact once_all (f := nkD) (List.mem_map.mpr ⟨k, h1, rfl⟩)
    · intro hx
      obtain ⟨d, hd, rfl⟩ := List.mem_map.mp hx
      obtain ⟨k, hk, rfl⟩ := List.mem_map.mp (once_sub hd)
      exact List.mem_map.mpr ⟨k, (mem k).mp (decide_eq_true hk), rfl⟩
  rw [List.length_map, List.length_map, List.length_map, Array.length_toList, hn] at h
  exact h
end
def lenSetU : D → DSt → Option D := fun d M => (seqOf M d).bind fun xs => if setOk xs = true then some (.int (once nkD xs).length) else none
section
variable {X : Cx} {W : WX} {a : Expr} {fa : Dm D} {p p2 pos pos2 : Pos}
theorem de_lenSet {k : Nat} (G : Good X W k) (ha : De X W a fa) (hm : X.mg "len" = none) (hm2 : X.mg "set" = none) (hg : Gl X "len" := by rfl) (hg2 : Gl X "set" := by rfl)
    (na : starEach [a] X.env = (false, eval a X.env) :: starEach [] X.env := by rfl) : De X W (.Call (.Name "len" p) [.Call (.Name "set" p2) [a] [] pos2] [] pos) (vUn lenSetU fa) := by
  have key : PE X (.Call (.Name "len" p) [.Call (.Name "set" p2) [a] [] pos2] [] pos) fun σ H Q => rd X.K X.mg W (RlV X.K) fa σ H fun x H1 => rdUn X.K lenSetU x H1 Q := by
    refine ⟨fun pins s σ H Q I h => ?_⟩
    refine Call_ (ld_blt I hg hm PySem.boot_len ?_)
    refine PyProof.Rows.callWith_builtin1 (PyProof.Rows.args_cons ?_ rfl) rfl rfl
    refine Call_ (ld_blt I hg2 hm2 PyProof.Rows.boot_set ?_)
    refine PyProof.Rows.callWith_type1 (PyProof.Rows.args_cons (thn (ha.run pins s σ H _ I h) fun v s1 ⟨x, H1, I1, r1, q1⟩ => PyProof.Rows.args_nil ?_) na) na rfl
    obtain ⟨θ, H0, M, c, d, hR, rc, e, g⟩ := q1
    obtain ⟨xs, h1, h2⟩ := Option.bind_eq_some_iff.mp e
    split at h2
    · rename_i ok
      cases h2
      obtain ⟨l, vs, rfl, rs, hv⟩ := seq_rel hR rc h1
      cases r1
      obtain ⟨its, rv, il⟩ : ∃ its, Vals vs its ∧ (s1.heap.IsList l its.toArray ∨ s1.heap.IsTuple l its.toArray) := by
        rcases hv with hv | hv
        · obtain ⟨its, rv, il, _⟩ := I1.list hv.1
          exact ⟨its, rv, .inl il.isList⟩
        · obtain ⟨its, rv, it, _⟩ := I1.tuple hv.1
          exact ⟨its, rv, .inr it⟩
      rcases Bool.or_eq_true_iff.mp ok with ok | ok
      · obtain ⟨o1, o2⟩ := Bool.and_eq_true_iff.mp ok
        rw [decide_eq_true_eq] at o2
        obtain ⟨ns, rfl⟩ := ints_nk o1
        obtain rfl := rel_ints rs
        rw [List.length_map] at o2
        refine set_nums ns (I1.ok.hd G.calm) il (by simpa using rv.ints) (by unfold scanBound; omega) fun h' tk c S hc hk => PyProof.Rows.args_nil ?_
        have hl := setR_len S
        obtain ⟨o, es, ep, t, ho, hex, hd, _, _, _, _, hf, hn, _⟩ := S
        have I2 : Inv X pins σ H1 { s1 with heap := h', toks := tk } := I1.kept hk
        refine call_len_set ho hex hd hf (by rw [hn]; omega) ⟨.int (once nkD (ns.map D.int)).length, H1, I2.tok _, ⟨_, by rw [hn, hl]⟩, g.val hR (.int _)⟩
      · obtain ⟨o1, o2⟩ := Bool.and_eq_true_iff.mp ok
        rw [decide_eq_true_eq] at o2
        obtain ⟨ks, e1, e2, e3, e4⟩ := keys_of I1 hR.ex rs rv o1
        have hk : ks.length = xs.length := by
          have z := congrArg List.length e2
          rwa [List.length_map, List.length_map] at z
        have room := G.room.un
        refine set_keys ks (I1.ok.hd G.calm) il (by simpa using e1) e3 (by omega) (by omega) fun h' tk L es ep t S gt hkeep => PyProof.Rows.args_nil ?_
        have I2 : Inv X pins σ H1 { s1 with heap := h', toks := tk } := I1.kept hkeep
        have hl := got_len gt S.nd e2
        obtain ⟨o, ho, hex, hd⟩ := S.ob
        have few := S.few
        refine call_len_set ho hex hd S.fits (by rw [S.size]; omega) ⟨.int (once nkD xs).length, H1, I2.tok _, ⟨_, by rw [S.size, hl]⟩, g.val hR (.int _)⟩
    · cases h2
  exact pe_imp key fun σ H Q q => by
    refine one q fun v H1 θ H0 ρ M x r hR _ rx e p => ?_
    obtain ⟨d, e3, g3⟩ := post_lift e p
    exact ⟨θ, H0, M, x, d, hR, rx, e3, g3⟩
end
end DL
end

section
set_option Elab.async false
set_option linter.all false
set_option maxRecDepth 100000
set_option maxHeartbeats 1000000
/-! DZ1: list(zip(x, y)). -/
namespace DL
open PySem PySem.Spec PyProof.Rows L2
section
variable {P : Program} {w : World} {A : Around} {E : Value → Shared → Prop} {s : Shared} {z TI TO i1 i2 : Addr} {fp1 fp2 : List Addr} {n1 n2 i : Nat} {P1 P2 : Nat → Value → Prop} {St1 St2 : Nat → Heap → Prop}
/-- next of a zip whose last tuple is still there -/
theorem zipH_item {T : Addr} {f : Bool} {oT : Obj} {Q : Value → Shared → Prop} (S : ZipSep2 z TI TO i1 i2 fp1 fp2) (D1 : Draws P w A i1 fp1 n1 P1 St1) (D2 : Draws P w A i2 fp2 n2 P2 St2) (hz : IsZipHeld s.heap z TI TO T f) (hT : s.heap.get? T = some oT) (hTI : IsTupOf2 s.heap TI (.ref i1) (.ref i2))
    (st1 : St1 i s.heap) (st2 : St2 i s.heap) (lt1 : i < n1) (lt2 : i < n2)
    (fin : ∀ x1 x2 h' tk, P1 i x1 → P2 i x2 → IsZipHeld h' z TI TO T true → St1 (i + 1) h' → St2 (i + 1) h' → IsTupOf2 h' s.heap.objs.size x1 x2 → (∀ c o, c ≠ z → c ≠ i1 → c ≠ i2 → s.heap.get? c = some o → h'.get? c = some o) → Q (.ref s.heap.objs.size) { s with heap := h', toks := tk }) :
    wpAny (model P w) A (Builtin.«zip.__next__» ⟨[.ref z], []⟩) (fun r s' => ∃ v, r = .done (.ret v) ∧ Q v s') E s := by
  obtain ⟨hp, g, d, tk0, os⟩ := s
  show wpAny _ _ (field (.ref z) 2 >>= _) _ _ _
  refine wpAny_bind (wpAny_field hz rfl (x := .bool false) rfl ?_)
  show wpAny _ _ (field (.ref z) 3 >>= _) _ _ _
  refine wpAny_bind (wpAny_field hz rfl (x := .ref TI) rfl ?_)
  refine wpAny_bind (wpAny_seqItems hTI rfl ?_)
  show wpAny _ _ (Builtin.SmallTypes.ownedTupleIsFree (.ref z) >>= _) _ _ _
  refine wpAny_bind (wpAny_tupleHeld_zip hz hT fun h₁ hz₁ hs₁ => ?_)
  replace hs₁ : Heap.SameBut z hp h₁ := hs₁
  simp only [Bool.false_eq_true, if_false]
  refine wpAny_bind ?_
  rw [← Array.forIn_toList]
  simp only [List.forIn_cons, List.forIn_nil]
  refine wpAny_bind (wpAny_bind (wpAny_holding ?_))
  show wpAny _ _ (Builtin.SmallTypes.nextOf (.ref i1) >>= _) _ _ _
  refine wpAny_bind (D1.item i _ _ _ lt1 (D1.over st1 hs₁ S.zf1) fun x1 p1 tk1 y1 sn1 hp1 => wpAny_pure ?_)
  replace hp1 : Heap.SameBut i1 h₁ p1 := hp1
  refine wpAny_pure ?_
  refine wpAny_bind (wpAny_bind (wpAny_holding ?_))
  show wpAny _ _ (Builtin.SmallTypes.nextOf (.ref i2) >>= _) _ _ _
  refine wpAny_bind (D2.item i _ _ _ lt2 (D2.over (D2.over st2 hs₁ S.zf2) hp1 S.sep1_2) fun x2 p2 tk2 y2 sn2 hp2 => wpAny_pure ?_)
  replace hp2 : Heap.SameBut i2 p1 p2 := hp2
  refine wpAny_pure (wpAny_pure ?_)
  show wpAny _ _ (newTuple [x1, x2] >>= _) _ _ _
  refine wpAny_bind (wpAny_newTuple ?_)
  have hsz : p2.objs.size = hp.objs.size := by rw [hp2.1, hp1.1, hs₁.1]
  have hz3 : IsZipHeld p2 z TI TO T true := hp2.extBut _ _ S.zi2 (hp1.extBut _ _ S.zi1 hz₁)
  have old : ∀ c o, c ≠ z → c ≠ i1 → c ≠ i2 → hp.get? c = some o → p2.get? c = some o := fun c o c1 c2 c3 e => hp2.extBut _ _ c3 (hp1.extBut _ _ c2 (hs₁.extBut _ _ c1 e))
  have j1 : St1 (i + 1) p2 := D1.over sn1 hp2 S.sep2_1
  refine wpAny_pure ⟨_, rfl, ?_⟩
  show Q (.ref p2.objs.size) _
  have made : IsTupOf2 (p2.push { cls := .type "tuple", data := .seq #[x1, x2] }) p2.objs.size x1 x2 := Heap.get?_push_size _ rfl
  rw [hsz] at made ⊢
  exact fin x1 x2 _ _ y1 y2 (Heap.get?_push_of_some _ hz3) (D1.frame _ _ _ j1 fun b _ o e => Heap.get?_push_of_some _ e) (D2.frame _ _ _ sn2 fun b _ o e => Heap.get?_push_of_some _ e) made fun c o c1 c2 c3 e => Heap.get?_push_of_some _ (old c o c1 c2 c3 e)
theorem zipH_end {T : Addr} {f : Bool} {oT : Obj} {Q : PySem.Fin → Shared → Prop} (S : ZipSep2 z TI TO i1 i2 fp1 fp2) (D1 : Draws P w A i1 fp1 n1 P1 St1) (D2 : Draws P w A i2 fp2 n2 P2 St2) (hz : IsZipHeld s.heap z TI TO T f) (hT : s.heap.get? T = some oT) (hTI : IsTupOf2 s.heap TI (.ref i1) (.ref i2))
    (st1 : St1 i s.heap) (st2 : St2 i s.heap) (le1 : i ≤ n1) (le2 : i ≤ n2) (at_end : i = n1 ∨ i = n2)
    (fin : ∀ h' tk e, (∀ c o, c ≠ z → c ≠ i1 → c ≠ i2 → s.heap.get? c = some o → h'.get? c = some o) → (∃ o, h'.get? e = some o ∧ o.cls = .type "StopIteration") → E (.ref e) { s with heap := h', toks := tk }) :
    wpAny (model P w) A (Builtin.«zip.__next__» ⟨[.ref z], []⟩) Q E s := by
  obtain ⟨hp, g, d, tk0, os⟩ := s
  show wpAny _ _ (field (.ref z) 2 >>= _) _ _ _
  refine wpAny_bind (wpAny_field hz rfl (x := .bool false) rfl ?_)
  show wpAny _ _ (field (.ref z) 3 >>= _) _ _ _
  refine wpAny_bind (wpAny_field hz rfl (x := .ref TI) rfl ?_)
  refine wpAny_bind (wpAny_seqItems hTI rfl ?_)
  show wpAny _ _ (Builtin.SmallTypes.ownedTupleIsFree (.ref z) >>= _) _ _ _
  refine wpAny_bind (wpAny_tupleHeld_zip hz hT fun h₁ hz₁ hs₁ => ?_)
  replace hs₁ : Heap.SameBut z hp h₁ := hs₁
  simp only [Bool.false_eq_true, if_false]
  refine wpAny_bind ?_
  rw [← Array.forIn_toList]
  simp only [List.forIn_cons, List.forIn_nil]
  refine wpAny_bind (wpAny_bind (wpAny_holding ?_))
  show wpAny _ _ (Builtin.SmallTypes.nextOf (.ref i1) >>= _) _ _ _
  by_cases lt1 : i < n1
  · have e2 : i = n2 := by omega
    refine wpAny_bind (D1.item i _ _ _ lt1 (D1.over st1 hs₁ S.zf1) fun x1 p1 tk1 y1 sn1 hp1 => wpAny_pure ?_)
    replace hp1 : Heap.SameBut i1 h₁ p1 := hp1
    refine wpAny_pure ?_
    refine wpAny_bind (wpAny_bind (wpAny_holding ?_))
    show wpAny _ _ (Builtin.SmallTypes.nextOf (.ref i2) >>= _) _ _ _
    refine wpAny_bind (D2.done _ _ _ (by rw [← e2]; exact D2.over (D2.over st2 hs₁ S.zf2) hp1 S.sep1_2) fun q e hq he => ?_)
    replace hq : Heap.ExtBut i2 p1 q := hq
    exact fin q _ e (fun c o c1 c2 c3 x => hq _ _ c3 (hp1.extBut _ _ c2 (hs₁.extBut _ _ c1 x))) he
  · have e1 : i = n1 := by omega
    refine wpAny_bind (D1.done _ _ _ (by rw [← e1]; exact D1.over st1 hs₁ S.zf1) fun q e hq he => ?_)
    replace hq : Heap.ExtBut i1 h₁ q := hq
    exact fin q _ e (fun c o c1 c2 _ x => hq _ _ c2 (hs₁.extBut _ _ c1 x)) he
/-- how a zip stands behind i items -/
structure ZipAt (h : Heap) (z TI TO i1 i2 : Addr) (St1 St2 : Nat → Heap → Prop) (i : Nat) : Prop where
  tI : IsTupOf2 h TI (.ref i1) (.ref i2)
  s1 : St1 i h
  s2 : St2 i h
  tO : ∃ o, h.get? TO = some o
  st : (IsZip h z TI TO .none ∧ ∃ a b, IsTupOf2 h TO a b) ∨ ∃ T f oT, IsZipHeld h z TI TO T f ∧ h.get? T = some oT
theorem ZipAt.typeIs {St1 St2 : Nat → Heap → Prop} {i : Nat} (Z : ZipAt s.heap z TI TO i1 i2 St1 St2 i) : s.TypeIs (.ref z) "zip" := by
  rcases Z.st with ⟨h, _⟩ | ⟨T, f, oT, h, _⟩
  · exact ⟨_, h, rfl⟩
  · exact ⟨_, h, rfl⟩
theorem zip_more {Q : Option Value → Shared → Prop} (S : ZipSep2 z TI TO i1 i2 fp1 fp2) (D1 : Draws P w A.in1 i1 fp1 n1 P1 St1) (D2 : Draws P w A.in1 i2 fp2 n2 P2 St2) (Z : ZipAt s.heap z TI TO i1 i2 St1 St2 i) (lt1 : i < n1) (lt2 : i < n2)
    (fin : ∀ x1 x2 h' tk, P1 i x1 → P2 i x2 → ZipAt h' z TI TO i1 i2 St1 St2 (i + 1) → IsTupOf2 h' s.heap.objs.size x1 x2 → (∀ c o, c ≠ z → c ≠ TO → c ≠ i1 → c ≠ i2 → s.heap.get? c = some o → h'.get? c = some o) → Q (some (.ref s.heap.objs.size)) { s with heap := h', toks := tk }) :
    wpAny (model P w) A (pyNext (.ref z)) Q E s := by
  have l1 : ∀ {c o}, s.heap.get? c = some o → c ≠ s.heap.objs.size := fun e => Nat.ne_of_lt (Heap.lt_size e)
  rcases Z.st with ⟨hz, a, b, hTO⟩ | ⟨T, f, oT, hz, hT⟩
  · exact wpAny_pyNext_zipD2_item S D1 D2 hz Z.tI hTO Z.s1 Z.s2 lt1 lt2 fun x1 x2 h' tk y1 y2 b1 b2 d1 d2 b5 b6 hk =>
      fin x1 x2 h' tk y1 y2 ⟨hk _ _ S.TIz S.TITO S.TIi1 S.TIi2 Z.tI, d1, d2, ⟨_, b2⟩, .inr ⟨s.heap.objs.size, false, _, b1, b5⟩⟩ b5 hk
  · have hTy : s.TypeIs (.ref z) "zip" := ⟨_, hz, rfl⟩
    unfold pyNext
    refine wpAny_bind (wpAny_attempt (wpAny_callSpecial?_slot (name := Str.ofString "__next__") hTy F.slot_zip_next
      (wpAny_call_entry F.slot_zip_next hTy F.entry_zip_next (zipH_item S D1 D2 hz hT Z.tI Z.s1 Z.s2 lt1 lt2 fun x1 x2 h' tk y1 y2 b1 d1 d2 b5 hk => wpAny_pure ?_) (F.args_zip_next_1 _))))
    have alive : ∃ o, h'.get? T = some o := by
      by_cases e1 : T = z
      · rw [e1]; exact ⟨_, b1⟩
      by_cases e2 : T = i1
      · rw [e2]; exact D1.live _ _ d1
      by_cases e3 : T = i2
      · rw [e3]; exact D2.live _ _ d2
      exact ⟨oT, hk _ _ e1 e2 e3 hT⟩
    obtain ⟨o', ho'⟩ := alive
    exact fin x1 x2 h' tk y1 y2 ⟨hk _ _ S.TIz S.TIi1 S.TIi2 Z.tI, d1, d2, (let ⟨o, q⟩ := Z.tO; ⟨o, hk _ _ S.TOz S.Ti1 S.Ti2 q⟩), .inr ⟨T, true, o', b1, ho'⟩⟩ b5 fun c o c1 _ c3 c4 e => hk c o c1 c3 c4 e
theorem zip_over {Q : Option Value → Shared → Prop} (S : ZipSep2 z TI TO i1 i2 fp1 fp2) (D1 : Draws P w A.in1 i1 fp1 n1 P1 St1) (D2 : Draws P w A.in1 i2 fp2 n2 P2 St2) (Z : ZipAt s.heap z TI TO i1 i2 St1 St2 i) (le1 : i ≤ n1) (le2 : i ≤ n2) (at_end : i = n1 ∨ i = n2)
    (fin : ∀ h' tk, (∀ c o, c ≠ z → c ≠ TO → c ≠ i1 → c ≠ i2 → s.heap.get? c = some o → h'.get? c = some o) → Q none { s with heap := h', toks := tk }) :
    wpAny (model P w) A (pyNext (.ref z)) Q E s := by
  rcases Z.st with ⟨hz, a, b, hTO⟩ | ⟨T, f, oT, hz, hT⟩
  · exact wpAny_pyNext_zipD2_end S D1 D2 hz Z.tI hTO Z.s1 Z.s2 le1 le2 at_end fin
  · have hTy : s.TypeIs (.ref z) "zip" := ⟨_, hz, rfl⟩
    unfold pyNext
    refine wpAny_bind (wpAny_attempt (wpAny_callSpecial?_slot (name := Str.ofString "__next__") hTy F.slot_zip_next
      (wpAny_call_entry F.slot_zip_next hTy F.entry_zip_next (zipH_end S D1 D2 hz hT Z.tI Z.s1 Z.s2 le1 le2 at_end fun h' tk e hk he => ?_) (F.args_zip_next_1 _))))
    obtain ⟨o, ho, hc⟩ := he
    refine wpAny_bind (wpAny_isInstance (T := "StopIteration") (b := true) ⟨o, ho, hc⟩ isSubtype_stop ?_)
    exact wpAny_pure (fin _ _ fun c o c1 _ c3 c4 e => hk c o c1 c3 c4 e)
/-- the items that were collected: pairs -/
def Pairs (P1 P2 : Nat → Value → Prop) (h : Heap) (acc : Array Value) (i : Nat) : Prop := acc.size = i ∧ ∀ j v, acc[j]? = some v → ∃ T x y, v = .ref T ∧ IsTupOf2 h T x y ∧ P1 j x ∧ P2 j y
/-- list.extend's loop over a zip -/
theorem loop_zip {R : Result → Shared → Prop} (S : ZipSep2 z TI TO i1 i2 fp1 fp2) (D1 : Draws P w A.in1.in1 i1 fp1 n1 P1 St1) (D2 : Draws P w A.in1.in1 i2 fp2 n2 P2 St2) (L N : Addr) (res : Value) (hn : min n1 n2 ≤ 1000000)
    (big : N ≤ z ∧ N ≤ TO ∧ N ≤ i1 ∧ N ≤ i2 ∧ N ≤ L) (hz : L ≠ z ∧ L ≠ TO ∧ L ≠ TI ∧ L ∉ fp1 ∧ L ∉ fp2) :
    ∀ (k i : Nat) (s : Shared) (acc : Array Value) (c : Nat), min n1 n2 - i = k → i ≤ min n1 n2 → ZipAt s.heap z TI TO i1 i2 St1 St2 i → s.heap.get? L = some { cls := .type "list", dict := none, data := .seq acc c, slots := #[] } → Pairs P1 P2 s.heap acc i →
      (∀ (j : Nat) (v : Value), acc[j]? = some v → ∃ T, v = .ref T ∧ T ≠ z ∧ T ≠ TO ∧ T ≠ i1 ∧ T ≠ i2 ∧ T ≠ L) →
      (∀ h' tk acc' c', (∀ b o, b < N → s.heap.get? b = some o → h'.get? b = some o) → h'.get? L = some { cls := .type "list", dict := none, data := .seq acc' c', slots := #[] } → Pairs P1 P2 h' acc' (min n1 n2) → R (.ok (.ret res)) { s with heap := h', toks := tk }) →
      codeAny (model P w) A (.builtin "list.extend.loop" ⟨[.ref L, .ref z, res], []⟩) R s := by
  intro k
  induction k with
  | zero =>
    intro i s acc c hk hi Z hL hp hap hR
    refine codeAny_builtin F.entry_extend_loop ?_
    rw [Around.under_plainId F.plain_extend_loop _]
    show wpAny _ A.in1 (pyNext (.ref z) >>= _) _ _ s
    refine wpAny_bind (zip_over S D1 D2 Z (by omega) (by omega) (by omega) fun h' tk hkp => ?_)
    have e : i = min n1 n2 := by omega
    subst e
    refine wpAny_pure (hR h' tk acc c (fun b o hb q => hkp b o ?_ ?_ ?_ ?_ q) (hkp _ _ hz.1 hz.2.1 (fun q => hz.2.2.2.1 (by rw [q]; exact S.mem1)) (fun q => hz.2.2.2.2 (by rw [q]; exact S.mem2)) hL) ⟨hp.1, fun j v q => ?_⟩)
    · exact Nat.ne_of_lt (Nat.lt_of_lt_of_le hb big.1)
    · exact Nat.ne_of_lt (Nat.lt_of_lt_of_le hb big.2.1)
    · exact Nat.ne_of_lt (Nat.lt_of_lt_of_le hb big.2.2.1)
    · exact Nat.ne_of_lt (Nat.lt_of_lt_of_le hb big.2.2.2.1)
    · obtain ⟨T, x, y, rfl, t, a, b⟩ := hp.2 j v q
      obtain ⟨T', e', q1, q2, q3, q4, q5⟩ := hap j _ q
      cases e'
      exact ⟨T, x, y, rfl, hkp _ _ q1 q2 q3 q4 t, a, b⟩
  | succ k ih =>
    intro i s acc c hk hi Z hL hp hap hR
    refine codeAny_builtin F.entry_extend_loop ?_
    rw [Around.under_plainId F.plain_extend_loop _]
    show wpAny _ A.in1 (pyNext (.ref z) >>= _) _ _ s
    refine wpAny_bind (zip_more S D1 D2 Z (by omega) (by omega) fun x1 x2 h' tk y1 y2 Z' made hkp => ?_)
    have hL' := hkp _ _ hz.1 hz.2.1 (fun q => hz.2.2.2.1 (by rw [q]; exact S.mem1)) (fun q => hz.2.2.2.2 (by rw [q]; exact S.mem2)) hL
    show wpAny _ A.in1 (updateSeq L (·.push (.ref s.heap.objs.size)) >>= _) _ _ _
    refine wpAny_bind ?_
    have new_ne : ∀ {b : Addr} {o : Obj}, s.heap.get? b = some o → s.heap.objs.size ≠ b := fun q => Nat.ne_of_gt (Heap.lt_size q)
    have nz : s.heap.objs.size ≠ z := by obtain ⟨o, q, _⟩ := Z.typeIs; exact new_ne q
    have n1' : s.heap.objs.size ≠ i1 := by obtain ⟨o, q⟩ := D1.live _ _ Z.s1; exact new_ne q
    have n2' : s.heap.objs.size ≠ i2 := by obtain ⟨o, q⟩ := D2.live _ _ Z.s2; exact new_ne q
    have nL : s.heap.objs.size ≠ L := new_ne hL
    have oth : ∀ b o, b ≠ L → h'.get? b = some o → (h'.update L (Obj.mapSeq (·.push (.ref s.heap.objs.size)))).get? b = some o := fun b o hb q => (Heap.get?_update_other _ _ (Ne.symm hb)).trans q
    have Z2 : ZipAt (h'.update L (Obj.mapSeq (·.push (.ref s.heap.objs.size)))) z TI TO i1 i2 St1 St2 (i + 1) := by
      refine ⟨oth _ _ hz.2.2.1.symm Z'.tI, D1.frame _ _ _ Z'.s1 fun b hb o q => oth b o (fun e => hz.2.2.2.1 (e ▸ hb)) q, D2.frame _ _ _ Z'.s2 fun b hb o q => oth b o (fun e => hz.2.2.2.2 (e ▸ hb)) q, (let ⟨o, q⟩ := Z'.tO; ⟨o, oth _ _ hz.2.1.symm q⟩), ?_⟩
      rcases Z'.st with ⟨a1, a, b, a2⟩ | ⟨T, f, oT, a1, a2⟩
      · exact .inl ⟨oth _ _ hz.1.symm a1, a, b, oth _ _ hz.2.1.symm a2⟩
      · by_cases e : T = L
        · subst e
          exact .inr ⟨T, f, _, oth _ _ hz.1.symm a1, Heap.get?_update_self _ hL' rfl⟩
        · exact .inr ⟨T, f, oT, oth _ _ hz.1.symm a1, oth _ _ e a2⟩
    have nO : s.heap.objs.size ≠ TO := by obtain ⟨o, q⟩ := Z.tO; exact new_ne q
    have hap2 : ∀ (j : Nat) (v : Value), (acc.push (.ref s.heap.objs.size))[j]? = some v → ∃ T, v = .ref T ∧ T ≠ z ∧ T ≠ TO ∧ T ≠ i1 ∧ T ≠ i2 ∧ T ≠ L := fun j v q => by
      rw [Array.getElem?_push] at q
      split at q
      · cases q
        exact ⟨_, rfl, nz, nO, n1', n2', nL⟩
      · exact hap j v q
    have hp2 : Pairs P1 P2 (h'.update L (Obj.mapSeq (·.push (.ref s.heap.objs.size)))) (acc.push (.ref s.heap.objs.size)) (i + 1) := by
      refine ⟨by rw [Array.size_push, hp.1], fun j v q => ?_⟩
      rw [Array.getElem?_push] at q
      split at q
      · rename_i e
        cases q
        rw [hp.1] at e
        subst e
        exact ⟨_, x1, x2, rfl, oth _ _ nL made, y1, y2⟩
      · obtain ⟨T, x, y, rfl, t, a, b⟩ := hp.2 j v q
        obtain ⟨T', e', q1, q2, q3, q4, q5⟩ := hap j _ q
        cases e'
        exact ⟨T, x, y, rfl, oth _ _ q5 (hkp _ _ q1 q2 q3 q4 t), a, b⟩
    have lim := sizeLine_eq
    refine wpAny_updateSeq hL' rfl (wpAny_pure ⟨plainId_quiet F.plain_extend_loop _, ih (i + 1) _ (acc.push (.ref s.heap.objs.size)) _ (by omega) (by omega) Z2 (Heap.get?_update_self _ hL' rfl) hp2 hap2 fun h'' tk' acc' c' keep2 hL'' hp'' => ?_⟩)
      (by rw [hp.1]; omega) (by show (acc.push _).size ≤ sizeLine + 1; rw [Array.size_push, hp.1]; omega)
    refine hR h'' tk' acc' c' (fun b o hb q => keep2 b o hb (oth b o (Nat.ne_of_lt (Nat.lt_of_lt_of_le hb big.2.2.2.2)) (hkp b o ?_ ?_ ?_ ?_ q))) hL'' hp''
    · exact Nat.ne_of_lt (Nat.lt_of_lt_of_le hb big.1)
    · exact Nat.ne_of_lt (Nat.lt_of_lt_of_le hb big.2.1)
    · exact Nat.ne_of_lt (Nat.lt_of_lt_of_le hb big.2.2.1)
    · exact Nat.ne_of_lt (Nat.lt_of_lt_of_le hb big.2.2.2.1)
end
end DL
end

section
set_option Elab.async false
set_option linter.all false
set_option maxRecDepth 100000
set_option maxHeartbeats 1000000
/-! DZ2: list(zip(x, y)), len(set(list(zip(x, y)))). -/
namespace DL
open PySem PySem.Spec PyProof.Rows L2
theorem zip_no_len : typeLookup (.type "zip") "__len__" = pure none := am_miss_of_fast (by decide +kernel)
theorem zip_no_hint : typeLookup (.type "zip") "__length_hint__" = pure none := am_miss_of_fast (by decide +kernel)
section
variable {P : Program} {w : World} {A : Around} {E : Value → Shared → Prop} {s : Shared} {z TI TO i1 i2 : Addr} {fp1 fp2 : List Addr} {n1 n2 i : Nat} {P1 P2 : Nat → Value → Prop} {St1 St2 : Nat → Heap → Prop}
theorem ZipAt.stay {h h' : Heap} (D1 : Draws P w A i1 fp1 n1 P1 St1) (D2 : Draws P w A i2 fp2 n2 P2 St2) (Z : ZipAt h z TI TO i1 i2 St1 St2 i) (k : ∀ b o, h.get? b = some o → h'.get? b = some o) : ZipAt h' z TI TO i1 i2 St1 St2 i := by
  refine ⟨k _ _ Z.tI, D1.frame _ _ _ Z.s1 fun b _ o q => k b o q, D2.frame _ _ _ Z.s2 fun b _ o q => k b o q, (let ⟨o, q⟩ := Z.tO; ⟨o, k _ _ q⟩), ?_⟩
  rcases Z.st with ⟨a1, a, b, a2⟩ | ⟨T, f, oT, a1, a2⟩
  · exact .inl ⟨k _ _ a1, a, b, k _ _ a2⟩
  · exact .inr ⟨T, f, oT, k _ _ a1, k _ _ a2⟩
theorem ZipAt.upd {h : Heap} {L : Addr} {f : Obj → Obj} {oL : Obj} (hL : h.get? L = some oL) (fr : (f oL).isFreed = false) (D1 : Draws P w A i1 fp1 n1 P1 St1) (D2 : Draws P w A i2 fp2 n2 P2 St2) (hz : L ≠ z ∧ L ≠ TO ∧ L ≠ TI ∧ L ∉ fp1 ∧ L ∉ fp2) (Z : ZipAt h z TI TO i1 i2 St1 St2 i) :
    ZipAt (h.update L f) z TI TO i1 i2 St1 St2 i := by
  have oth : ∀ b o, b ≠ L → h.get? b = some o → (h.update L f).get? b = some o := fun b o hb q => (Heap.get?_update_other _ _ (Ne.symm hb)).trans q
  refine ⟨oth _ _ hz.2.2.1.symm Z.tI, D1.frame _ _ _ Z.s1 fun b hb o q => oth b o (fun e => hz.2.2.2.1 (e ▸ hb)) q, D2.frame _ _ _ Z.s2 fun b hb o q => oth b o (fun e => hz.2.2.2.2 (e ▸ hb)) q, (let ⟨o, q⟩ := Z.tO; ⟨o, oth _ _ hz.2.1.symm q⟩), ?_⟩
  rcases Z.st with ⟨a1, a, b, a2⟩ | ⟨T, g, oT, a1, a2⟩
  · exact .inl ⟨oth _ _ hz.1.symm a1, a, b, oth _ _ hz.2.1.symm a2⟩
  · by_cases e : T = L
    · subst e
      exact .inr ⟨T, g, _, oth _ _ hz.1.symm a1, Heap.get?_update_self _ hL fr⟩
    · exact .inr ⟨T, g, oT, oth _ _ hz.1.symm a1, oth _ _ e a2⟩
theorem list_of_zip {N : Addr} {Q : Value → Shared → Prop} (S : ZipSep2 z TI TO i1 i2 fp1 fp2) (D1 : ∀ A : Around, A.handled = none → Draws P w A i1 fp1 n1 P1 St1) (D2 : ∀ A : Around, A.handled = none → Draws P w A i2 fp2 n2 P2 St2) (hh : A.handled = none) (hn : min n1 n2 ≤ 1000000)
    (Z : ZipAt s.heap z TI TO i1 i2 St1 St2 0) (big : N ≤ z ∧ N ≤ TO ∧ N ≤ i1 ∧ N ≤ i2) (small : z < s.heap.objs.size ∧ TO < s.heap.objs.size ∧ TI < s.heap.objs.size ∧ (∀ b ∈ fp1, b < s.heap.objs.size) ∧ ∀ b ∈ fp2, b < s.heap.objs.size)
    (fin : ∀ h' tk acc c, (∀ b o, b < N → s.heap.get? b = some o → h'.get? b = some o) → h'.get? s.heap.objs.size = some { cls := .type "list", dict := none, data := .seq acc c, slots := #[] } → Pairs P1 P2 h' acc (min n1 n2) → Q (.ref s.heap.objs.size) { s with heap := h', toks := tk }) :
    wpAny (model P w) A (call (.type "list") [.ref z]) Q E s := by
  have D1' := D1 A hh
  have D2' := D2 A hh
  refine callType_codes (Q₁ := fun obj s₁ => obj = .ref s.heap.objs.size ∧ s₁ = { s with heap := s.heap.push { cls := .type "list", data := .seq #[] } }) F.called_list (F.typeCall_list_1 _) F.entry_list_init
    (code_list_new _ ⟨rfl, rfl⟩) fun obj s₁ h₁ => ?_
  obtain ⟨rfl, rfl⟩ := h₁
  have hS : (s.heap.push { cls := .type "list", data := .seq #[] }).get? s.heap.objs.size = some { cls := .type "list", data := .seq #[] } := Heap.get?_push_size _ rfl
  refine ⟨⟨_, hS, rfl⟩, F.args_list_init_2 _ _, ?_⟩
  have hz : s.heap.objs.size ≠ z ∧ s.heap.objs.size ≠ TO ∧ s.heap.objs.size ≠ TI ∧ s.heap.objs.size ∉ fp1 ∧ s.heap.objs.size ∉ fp2 :=
    ⟨Nat.ne_of_gt small.1, Nat.ne_of_gt small.2.1, Nat.ne_of_gt small.2.2.1, fun h => Nat.lt_irrefl _ (small.2.2.2.1 _ h), fun h => Nat.lt_irrefl _ (small.2.2.2.2 _ h)⟩
  have hNL : N ≤ s.heap.objs.size := Nat.le_of_lt (Nat.lt_of_le_of_lt big.1 small.1)
  have Z0 := Z.stay D1' D2' fun b o e => Heap.get?_push_of_some ({ cls := .type "list", data := .seq #[] } : Obj) e
  have k0 : ∀ b o, b < N → s.heap.get? b = some o → (s.heap.push { cls := .type "list", data := .seq #[] }).get? b = some o := fun b o _ e => Heap.get?_push_of_some _ e
  generalize s.heap.push { cls := .type "list", data := .seq #[] } = h0 at hS Z0 k0 ⊢
  generalize s.heap.objs.size = L at hS hz hNL fin ⊢
  show wpAny _ A.in1.in1 (do let old ← Builtin.List.listItems (.ref L); Builtin.List.listUpdate (.ref L) (fun _ => #[]); letGo old.toList.reverse; Builtin.List.listExtendWith (.ref L) (.ref z) .none) _ _ _
  refine wpAny_bind ?_
  unfold Builtin.List.listItems
  refine wpAny_bind (wpAny_seqItems hS rfl (wpAny_pure ?_))
  show wpAny _ A.in1.in1 (updateSeq L (fun _ => #[]) >>= fun _ => letGo (#[] : Array Value).toList.reverse >>= fun _ => Builtin.List.listExtendWith (.ref L) (.ref z) .none) _ _ _
  refine wpAny_bind (wpAny_updateSeq hS rfl ?_)
  have hS₂ := Heap.get?_update_self (Obj.mapSeq (fun _ => (#[] : Array Value))) hS rfl
  have Z1 := Z0.upd (f := Obj.mapSeq (fun _ => (#[] : Array Value))) hS rfl D1' D2' hz
  have k1 : ∀ b o, b < N → s.heap.get? b = some o → (h0.update L (Obj.mapSeq (fun _ => (#[] : Array Value)))).get? b = some o := fun b o hb e => (Heap.get?_update_other _ _ (Ne.symm (Nat.ne_of_lt (Nat.lt_of_lt_of_le hb hNL)))).trans (k0 b o hb e)
  generalize h0.update L (Obj.mapSeq (fun _ => (#[] : Array Value))) = h1 at hS₂ Z1 k1 ⊢
  refine wpAny_bind (wpAny_letGo ?_)
  unfold Builtin.List.listExtendWith
  have tz : Shared.TypeIs { s with heap := h1 } (.ref z) "zip" := ZipAt.typeIs (s := { s with heap := h1 }) Z1
  refine wpAny_bind (wpAny_typeOf tz ?_)
  have e1 : Builtin.List.listSameRef (.ref L) (.ref z) = false := by simp [Builtin.List.listSameRef, hz.1]
  have e2 : (Value.type "zip" == Value.type "list") = false := by decide
  have e3 : (Value.type "zip" == Value.type "tuple") = false := by decide
  simp only [e1, e2, e3, Bool.or_false, Bool.false_eq_true, if_false]
  refine wpAny_bind ?_
  have self : ∀ E', wpAny (model P w) A.in1.in1 (pyIter (.ref z)) (fun v s' => v = .ref z ∧ s' = { s with heap := h1 }) E' { s with heap := h1 } := fun E' => by
    rcases Z1.st with ⟨a1, _⟩ | ⟨T, f, oT, a1, a2⟩
    · exact wpAny_pyIter_zip a1 ⟨rfl, rfl⟩
    · refine wpAny_pyIter_slot tz F.slot_zip_iter (wpAny_call_entry F.slot_zip_iter tz F.entry_zip_iter ?_ (F.args_zip_iter_1 _))
      show wpAny _ _ (ret (.ref z)) _ _ _
      exact wpAny_pure ⟨_, rfl, "zip", _, tz, F.slot_zip_next.lookup, rfl, rfl⟩
  refine wpAny_mono (self _) (fun v s' hv => ?_) fun _ _ q => q
  obtain ⟨rfl, rfl⟩ := hv
  refine wpAny_bind (wpAny_holding ?_)
  unfold Builtin.List.listLengthHint
  refine wpAny_bind (wpAny_specialOf tz zip_no_len ?_)
  show wpAny _ _ (specialOf (Value.ref z) (Str.ofString "__length_hint__") >>= _) _ _ _
  refine wpAny_bind (wpAny_specialOf tz zip_no_hint ?_)
  refine wpAny_pure ?_
  show wpAny _ _ (rule "list.extend.makes-room" >>= fun _ => Builtin.List.listTouch (.ref L) >>= fun _ => again (.builtin "list.extend.loop" ⟨[.ref L, .ref z, .none], []⟩)) _ _ _
  refine wpAny_bind (wpAny_rule ?_)
  refine wpAny_bind ?_
  show wpAny _ _ (updateSeq L (·.push .none) >>= fun _ => updateSeq L (·.pop)) _ _ _
  refine wpAny_bind (wpAny_updateSeq hS₂ rfl ?_)
  have hS₃ := Heap.get?_update_self (Obj.mapSeq (·.push Value.none)) hS₂ rfl
  refine wpAny_updateSeq (hz := by seq_fits) hS₃ rfl ?_
  have hS₄ := Heap.get?_update_self (Obj.mapSeq (·.pop)) hS₃ rfl
  have Z2 := (Z1.upd (f := Obj.mapSeq (·.push Value.none)) hS₂ rfl D1' D2' hz).upd (f := Obj.mapSeq (·.pop)) hS₃ rfl D1' D2' hz
  have k2 : ∀ b o, b < N → s.heap.get? b = some o → ((h1.update L (Obj.mapSeq (·.push Value.none))).update L (Obj.mapSeq (·.pop))).get? b = some o := fun b o hb e =>
    (Heap.get?_update_other _ _ (Ne.symm (Nat.ne_of_lt (Nat.lt_of_lt_of_le hb hNL)))).trans ((Heap.get?_update_other _ _ (Ne.symm (Nat.ne_of_lt (Nat.lt_of_lt_of_le hb hNL)))).trans (k1 b o hb e))
  refine wpAny_pure ⟨plainId_quiet F.plain_extend_loop _, loop_zip (A := A.in1) S (D1 _ hh) (D2 _ hh) L N .none hn ⟨big.1, big.2.1, big.2.2.1, big.2.2.2, hNL⟩ hz (min n1 n2 - 0) 0 _ #[] _ rfl (Nat.zero_le _) Z2 hS₄
    ⟨rfl, fun j v q => by simp at q⟩ (fun j v q => by simp at q) fun h' tk acc c keep hL hp => ?_⟩
  exact ⟨rfl, fin h' tk acc c (fun b o hb e => keep b o hb (k2 b o hb e)) hL hp⟩
end
end DL
end

section
set_option Elab.async false
set_option linter.all false
set_option maxRecDepth 100000
set_option maxHeartbeats 1000000
/-! DZ3: len(set(list(zip(x, y)))). -/
namespace DL
open PySem PySem.Spec PyProof.Rows L2
theorem seq_begin {h : Heap} {l : Addr} {items : Array Value} (hl : h.IsList l items ∨ h.IsTuple l items) : ∃ (o : Obj) (Hd : Heap → Prop), Begins (.ref l) o Hd ∧ Hd h ∧
    ∀ it, l ≠ it → ∃ St : Nat → Heap → Prop, (∀ (P : Program) (w : World) (A : Around), A.handled = none → Draws P w A it [it, l] items.size (fun i v => items[i]? = some v) St) ∧ ∀ h', h'.get? it = some o → Hd h' → St 0 h' := by
  rcases hl with hl | hl
  · exact ⟨_, _, begins_list l items, hl, fun it hne => ⟨_, fun P w A hh => Draws.list hh it l hne items, fun h' e q => ⟨⟨_, e, rfl, rfl⟩, q⟩⟩⟩
  · exact ⟨_, _, begins_tuple l items, hl, fun it hne => ⟨_, fun P w A hh => Draws.tuple hh it l hne items, fun h' e q => ⟨⟨_, e, rfl, rfl⟩, q⟩⟩⟩
theorem pairs_keys {h : Heap} : ∀ (vs : List Value) (ds : List D), vs.length = ds.length → (∀ (j : Nat) (v : Value) (d : D), vs[j]? = some v → ds[j]? = some d → ∃ T, v = .ref T ∧ IsN h (nkD d) T) →
    ∃ ks : List KA, vs = ks.map (fun p => Value.ref p.1) ∧ ks.map (·.2) = ds.map nkD ∧ ∀ p ∈ ks, IsN h p.2 p.1
  | [], [], _, _ => ⟨[], rfl, rfl, fun p hp => (by cases hp)⟩
  | [], _ :: _, e, _ => nomatch e
  | _ :: _, [], e, _ => nomatch e
  | v :: vs, d :: ds, e, k => by
    obtain ⟨T, rfl, n⟩ := k 0 v d rfl rfl
    obtain ⟨ks, e1, e2, e3⟩ := pairs_keys vs ds (Nat.succ.inj e) fun j v' d' h1 h2 => k (j + 1) v' d' h1 h2
    refine ⟨(T, nkD d) :: ks, by rw [e1]; rfl, by rw [List.map_cons, e2]; rfl, fun p hp => ?_⟩
    rcases List.mem_cons.mp hp with z | z
    · rw [z]; exact n
    · exact e3 p z
def lenZipO : D → D → DSt → Option D := fun a b M => match seqOf M a, seqOf M b with
  | some xs, some ys => if (zipD xs ys).all keyT = true ∧ (zipD xs ys).length < 76 then some (.int (once nkD (zipD xs ys)).length) else none
  | _, _ => none
section
variable {X : Cx} {W : WX} {a b : Expr} {fa fb : Dm D} {p p2 p3 p4 pos pos2 pos3 pos4 : Pos}
theorem seq_items {pins : List (Addr × Obj)} {σ : L2.St} {H : Hp} {s : Shared} {θ : List Addr} {H0 : Hp} {M : DSt} (I : Inv X pins σ H s) (hR : Rep X.K θ H0 H M) {v : V} {u : Value} {d : D} {xs : List D} (r : RelD X.K θ H0 v d) (rv : RelV v u) (e : seqOf M d = some xs) :
    ∃ l vs its, u = .ref l ∧ (s.heap.IsList l its.toArray ∨ s.heap.IsTuple l its.toArray) ∧ Vals vs its ∧ RelDs X.K θ H0 vs xs := by
  obtain ⟨l, vs, rfl, rs, hv⟩ := seq_rel hR r e
  cases rv
  rcases hv with hv | hv
  · obtain ⟨its, rv, il, _⟩ := I.list hv.1
    exact ⟨l, vs, its, rfl, .inl il.isList, rv, rs⟩
  · obtain ⟨its, rv, it, _⟩ := I.tuple hv.1
    exact ⟨l, vs, its, rfl, .inr it, rv, rs⟩
theorem vals_get {vs : List V} {us : List Value} : Vals vs us → ∀ (j : Nat) (u : Value), us[j]? = some u → ∃ v, vs[j]? = some v ∧ RelV v u := fun r => by
  induction r with
  | nil => intro j u h; simp at h
  | cons r t ih =>
    intro j u h
    cases j with
    | zero => simp at h; subst h; exact ⟨_, rfl, r⟩
    | succ j => exact ih j u (by simpa using h)
theorem de_lenSetZip {k : Nat} (G : Good X W k) (ha : De X W a fa) (hb : De X W b fb) (hm : X.mg "len" = none) (hm2 : X.mg "set" = none) (hm3 : X.mg "list" = none) (hm4 : X.mg "zip" = none)
    (hg : Gl X "len" := by rfl) (hg2 : Gl X "set" := by rfl) (hg3 : Gl X "list" := by rfl) (hg4 : Gl X "zip" := by rfl) (na : starEach [a, b] X.env = (false, eval a X.env) :: starEach [b] X.env := by rfl) (nb : starEach [b] X.env = (false, eval b X.env) :: starEach [] X.env := by rfl) (hp : (backTo pos4 (starEach [b] X.env)).any (·.1) = false := by rfl) :
    De X W (.Call (.Name "len" p) [.Call (.Name "set" p2) [.Call (.Name "list" p3) [.Call (.Name "zip" p4) [a, b] [] pos4] [] pos3] [] pos2] [] pos) (vOp lenZipO fa fb) := by
  have key : PE X (.Call (.Name "len" p) [.Call (.Name "set" p2) [.Call (.Name "list" p3) [.Call (.Name "zip" p4) [a, b] [] pos4] [] pos3] [] pos2] [] pos)
      (tOp (rdOp X.K lenZipO) (rd X.K X.mg W (RlV X.K) fa) (rd X.K X.mg W (RlV X.K) fb)) := by
    refine ⟨fun pins s σ H Q I h => ?_⟩
    refine Call_ (ld_blt I hg hm PySem.boot_len ?_)
    refine PyProof.Rows.callWith_builtin1 (PyProof.Rows.args_cons ?_ rfl) rfl rfl
    refine Call_ (ld_blt I hg2 hm2 PyProof.Rows.boot_set ?_)
    refine PyProof.Rows.callWith_type1 (PyProof.Rows.args_cons ?_ rfl) rfl rfl
    refine Call_ (ld_blt I hg3 hm3 boot_list ?_)
    refine PyProof.Rows.callWith_type1 (PyProof.Rows.args_cons ?_ rfl) rfl rfl
    refine Call_ (ld_blt I hg4 hm4 (by decide +kernel : bootBuiltins "zip" = some (.type "zip")) ?_)
    refine PyProof.Rows.callWith_type1 (PyProof.Rows.args_cons (thn (ha.run pins s σ H _ I h) fun va s1 ⟨x, H1, I1, r1, q1⟩ => one_arg hb I1 q1 (fun vb s2 y H2 I2 r2 q => ?_) nb) na) na hp
    obtain ⟨θ, H0, M, da, db, d, hR, rx, ry, e, g⟩ := q
    unfold lenZipO at e
    split at e
    · rename_i xs ys hx hy
      split at e
      · rename_i ok
        cases e
        obtain ⟨l1, vs1, its1, rfl, hl1, rv1, rs1⟩ := seq_items I2 hR rx r1 hx
        obtain ⟨l2, vs2, its2, rfl, hl2, rv2, rs2⟩ := seq_items I2 hR ry r2 hy
        obtain ⟨o1, Hd1, B1, b1, mk1⟩ := seq_begin hl1
        obtain ⟨o2, Hd2, B2, b2, mk2⟩ := seq_begin hl2
        have lt1 : l1 < s2.heap.objs.size := by rcases hl1 with ⟨o, q, _⟩ | ⟨o, q, _⟩ <;> exact Heap.lt_size q
        have lt2 : l2 < s2.heap.objs.size := by rcases hl2 with ⟨o, q, _⟩ | ⟨o, q, _⟩ <;> exact Heap.lt_size q
        obtain ⟨St1, D1, st1⟩ := mk1 s2.heap.objs.size (Nat.ne_of_lt lt1)
        obtain ⟨St2, D2, st2⟩ := mk2 (s2.heap.objs.size + 1) (Nat.ne_of_lt (Nat.lt_succ_of_lt lt2))
        show wpAny _ _ (call (.type "zip") [.ref l1, .ref l2]) _ _ s2
        refine zip_begins2 B1 B2 b1 b2 fun h3 hz hTI hTO g1 g2 size3 keep3 => ?_
        refine PyProof.Rows.args_nil ?_
        have few : (zipD xs ys).length = min its1.length its2.length := by
          unfold zipD
          rw [List.length_zipWith, ← rs1.len, ← rs2.len, rv1.length, rv2.length]
        have mins : min its1.toArray.size its2.toArray.size = (zipD xs ys).length := by rw [List.size_toArray, List.size_toArray, few]
        have S := zip_sep2 (N := s2.heap.objs.size) (fp1 := [l1]) (fp2 := [l2]) (fun b hb => by rw [List.mem_singleton.mp hb]; exact lt1) (fun b hb => by rw [List.mem_singleton.mp hb]; exact lt2)
        have hcalm := I2.ok.hd G.calm
        refine list_of_zip (s := { s2 with heap := h3 }) (N := s2.heap.objs.size) S (fun A hA => D1 _ _ A hA) (fun A hA => D2 _ _ A hA) hcalm (by rw [mins]; omega)
          ⟨hTI, st1 _ g1 (B1.keeps _ _ b1 keep3), st2 _ g2 (B2.keeps _ _ b2 keep3), ⟨_, hTO⟩, .inl ⟨hz, _, _, hTO⟩⟩
          ⟨Nat.le_add_right _ _, Nat.le_add_right _ _, Nat.le_refl _, Nat.le_add_right _ _⟩
          ⟨by show s2.heap.objs.size + 4 < h3.objs.size; omega, by show s2.heap.objs.size + 3 < h3.objs.size; omega, by show s2.heap.objs.size + 2 < h3.objs.size; omega,
            fun b hb => by
              show b < h3.objs.size
              rw [size3]
              rcases List.mem_cons.mp hb with z | z
              · rw [z]; exact Nat.lt_add_of_pos_right (by decide)
              · rw [List.mem_singleton.mp z]; exact Nat.lt_of_lt_of_le lt1 (Nat.le_add_right _ _),
            fun b hb => by
              show b < h3.objs.size
              rw [size3]
              rcases List.mem_cons.mp hb with z | z
              · rw [z]; exact Nat.add_lt_add_left (by decide) _
              · rw [List.mem_singleton.mp z]; exact Nat.lt_of_lt_of_le lt2 (Nat.le_add_right _ _)⟩ fun h4 tk acc c keep4 hL hp => PyProof.Rows.args_nil ?_
        have keep : ∀ b o, s2.heap.get? b = some o → h4.get? b = some o := fun b o q => keep4 b o (Heap.lt_size q) (keep3 b o q)
        have I4 : Inv X pins σ H2 { s2 with heap := h4, toks := tk } := I2.kept keep
        rw [mins] at hp
        have part : ∀ {θ : List Addr} {H0 : Hp} {vs : List V} {us : List Value} {ds : List D}, RelDs X.K θ H0 vs ds → Vals vs us → Evl.Ex H0 H2 → ∀ (j : Nat) (u : Value) (d : D), us[j]? = some u → ds[j]? = some d → keyable d = true → NestedIs h4 (nkD d) u := fun {θ H0 vs us ds} rs rv ex j u d hu hd hk => by
          obtain ⟨v, hv, r⟩ := vals_get rv j u hu
          obtain ⟨v', hv', r'⟩ := rs.get hd
          rw [hv] at hv'
          cases hv'
          exact NestedIs.at (fun b o _ _ q _ => keep b o q) _ _ (nested_of I2 ex r' r hk)
        obtain ⟨ks, e1, e2, e3⟩ := pairs_keys (h := h4) acc.toList (zipD xs ys) (by rw [Array.length_toList]; exact hp.1) fun j v dj hv hd => by
          obtain ⟨T, x1, y1, rfl, ht, hx1, hy1⟩ := hp.2 j v (by rw [← Array.getElem?_toList]; exact hv)
          have okd := List.all_eq_true.mp ok.1 dj (List.mem_of_getElem? hd)
          unfold zipD at hd
          rw [List.getElem?_zipWith] at hd
          cases hxj : xs[j]? with
          | none => rw [hxj] at hd; cases hd
          | some dx =>
            cases hyj : ys[j]? with
            | none => rw [hxj, hyj] at hd; cases hd
            | some dy =>
              rw [hxj, hyj] at hd
              cases hd
              unfold keyT at okd
              simp only [Bool.and_eq_true, decide_eq_true_eq] at okd
              obtain ⟨⟨_, kk⟩, k8⟩ := okd
              have kk' : (keyable dx && (keyable dy && true)) = true := kk
              simp only [Bool.and_eq_true, and_true] at kk'
              refine ⟨T, rfl, ?_, k8, num_nk kk⟩
              refine .tup ht rfl rfl ?_
              exact .cons (part rs1 rv1 hR.ex j x1 dx (by simpa using hx1) hxj kk'.1) (.cons (part rs2 rv2 hR.ex j y1 dy (by simpa using hy1) hyj kk'.2) .nil)
        have hk : ks.length = (zipD xs ys).length := by
          have z := congrArg List.length e2
          rwa [List.length_map, List.length_map] at z
        have room := G.room.un
        have il : h4.IsList h3.objs.size acc := ⟨_, hL, rfl, _, rfl⟩
        refine set_keys (s := { s2 with heap := h4, toks := tk }) ks hcalm (.inl il) e1 e3 (by omega) (by omega) fun h5 tk5 L es ep t S5 gt keep5 => PyProof.Rows.args_nil ?_
        have I5 : Inv X pins σ H2 { s2 with heap := h5, toks := tk5 } := I4.kept (h' := h5) (t' := tk5) keep5
        have hl := got_len gt S5.nd e2
        obtain ⟨o, ho, hex, hd⟩ := S5.ob
        have fewL := S5.few
        refine call_len_set (s := { s2 with heap := h5, toks := tk5 }) ho hex hd S5.fits (by rw [S5.size]; omega) ⟨.int (once nkD (zipD xs ys)).length, H2, I5.tok _, ⟨_, by rw [S5.size, hl]⟩, g.val hR (.int _)⟩
      · cases e
    · cases e
  exact pe_imp key fun _ _ _ q => tOp_of (fun _ _ _ _ h => h) q
end
end DL
end

section
set_option Elab.async false
set_option linter.all false
set_option maxRecDepth 100000
set_option maxHeartbeats 1000000
/-! DL13: what a printed walk leans on. -/
namespace DL
open PySem PySem.Spec PyProof.Rows L2
theorem Good.u64 {X : Cx} {W : WX} {k : Nat} (G : Good X W k) : X.A.units + 64 < cLine := by have := G.room.un; omega
theorem Good.u65 {X : Cx} {W : WX} {k : Nat} (G : Good X W k) : X.A.units + 65 < cLine := by have := G.room.un; omega
theorem Good.u66 {X : Cx} {W : WX} {k : Nat} (G : Good X W k) : X.A.units + 66 < cLine := by have := G.room.un; omega
/-- a def as the text has it -/
structure DefIn (K : PySem.W.Frag) (mg : Str → Option Value) (x : Str) (st : Stmt) (ps : List Str) : Prop where
  ex : ∃ f fd, mg x = some (.ref f) ∧ PySem.W.keepIn K (.ref f) = true ∧ Fun K x x st f fd ∧ Binds K fd ps []
/-- a def by its meaning -/
structure Mean (P : Program) (w : World) (K : PySem.W.Frag) (mg : Str → Option Value) (base : Heap) (x : Str) (np k : Nat) (φ : List D → DSt → R D) : Prop where
  ex : ∃ f fd ps, mg x = some (.ref f) ∧ PySem.W.keepIn K (.ref f) = true ∧ Binds K fd ps [] ∧ FnG P w K mg base k f fd ps (spD K mg np φ)
section
variable {P : Program} {w : World} {K : PySem.W.Frag} {mg : Str → Option Value} {base : Heap}
theorem mean_of {x : Str} {st : Stmt} {N ps : List Str} {k np n : Nat} {g : Sm} (T : DefIn K mg x st ps) (S : FnScope N ps (defScope st)) (hp : ps.length = np) (hn : N.length = n)
    (hb : ∀ (cdv : Value) (f : Addr) (A : Around) (outer : List PySem.Env) (s : Shared) (H : Hp) (E : XK), Good (cxOf (L2.CX P w) P w K mg base N x (defScope st) f cdv A outer s H E) (fun cls d _ H => E cls d H) k →
      Dss (cxOf (L2.CX P w) P w K mg base N x (defScope st) f cdv A outer s H E) (fun cls d _ H => E cls d H) (defBody st) g) : Mean P w K mg base x np (k + 1) (defSem np n g) := by
  obtain ⟨f, fd, h1, h2, h3, h4⟩ := T.ex
  exact ⟨f, fd, ps, h1, h2, h4, fn_def h3 S hp hn fun cdv A outer s H E => hb cdv f A outer s H E⟩
theorem meanS_of {x : Str} {st : Stmt} {N ps : List Str} {k np n : Nat} {g : Sm} (T : DefIn K mg x st ps) (S : FnScope N ps (defScope st)) (hp : ps.length = np) (hn : N.length = n)
    (hb : ∀ (cdv : Value) (f : Addr) (A : Around) (outer : List PySem.Env) (s : Shared) (H : Hp) (E : XK), Good (cxOf (L2.CX P w) P w K mg base N x (defScope st) f cdv A outer s H E) (fun cls d _ H => E cls d H) k →
      Dss (cxOf (L2.CX P w) P w K mg base N x (defScope st) f cdv A outer s H E) (fun cls d _ H => E cls d H) (defBody st) g) : Mean P w K mg base x np (k + 1) (defSemS np n g) := by
  obtain ⟨f, fd, h1, h2, h3, h4⟩ := T.ex
  exact ⟨f, fd, ps, h1, h2, h4, fn_defS h3 S hp hn fun cdv A outer s H E => hb cdv f A outer s H E⟩
/-- an exception class of the text: its name, the built-in base's maker -/
structure ExcIn (K : PySem.W.Frag) (mg : Str → Option Value) (x : Str) : Prop where
  ex : ∃ C, mg x = some (.ref C) ∧ PySem.W.excIn K C [.type "ValueError", .type "Exception", .type "BaseException", .type "object"] "ValueError.__new__" = true ∧ PySem.W.keepIn K (.ref C) = true ∧
    PySem.W.subIn K (.ref C) (.type "BaseException") = some true ∧ PySem.W.typeIn K (.ref C) = some (.type "type") ∧ PySem.W.exmOne K (.ref C) (.ref C) = some true
end
section
variable {X : Cx} {W : WX} {x : Str} {p pos : Pos} {e : Expr} {es : List Expr} {fs : Dm (List D)} {k : Nat}
theorem dcall {np j : Nat} {φ : List D → DSt → R D} (n : Nat) (G : Good X W k) (C : Mean X.prog X.w X.K X.mg X.base x np j φ) (hj : j ≤ k) (ha : Da X W (e :: es) fs) (hg : Gl X x := by rfl) (hdb : (x == ("__debug__" : Str)) = false := by decide)
    (he : starEach (e :: es) X.env = (false, eval e X.env) :: starEach es X.env := by rfl) (hpl : (backTo pos (starEach es X.env)).any (·.1) = false := by rfl) : De X W (.Call (.Name x p) (e :: es) [] pos) (vFn n np φ fs) := by
  obtain ⟨f, fd, ps, h1, h2, h3, h4⟩ := C.ex
  exact de_fn (h4.weaken hj) G.room G.gd h1 h2 h3 G.tk ha hg hdb he hpl
theorem dcallS {np j : Nat} {φ : List D → DSt → R D} (G : Good X W k) (C : Mean X.prog X.w X.K X.mg X.base x np j φ) (hj : j ≤ k) (ha : Da X W (e :: es) fs) (hg : Gl X x := by rfl) (hdb : (x == ("__debug__" : Str)) = false := by decide)
    (he : starEach (e :: es) X.env = (false, eval e X.env) :: starEach es X.env := by rfl) (hpl : (backTo pos (starEach es X.env)).any (·.1) = false := by rfl) : De X W (.Call (.Name x p) (e :: es) [] pos) (vFnS np φ fs) := by
  obtain ⟨f, fd, ps, h1, h2, h3, h4⟩ := C.ex
  exact de_fnS (h4.weaken hj) G.room G.gd h1 h2 h3 G.tk ha hg hdb he hpl
theorem de_gint {i : Int} (h : ∃ t, X.mg x = some (.int i t)) (hg : Gl X x := by rfl) (hd : (x == ("__debug__" : Str)) = false := by decide) : De X W (.Name x pos) (vC (.int i)) := by
  obtain ⟨t, h⟩ := h
  exact de_glob (v := .int i) hg h ⟨t, rfl⟩ (fun _ _ => .int i) hd
theorem ds_raiseM {m : Str} {j : Nat} {p2 pos2 : Pos} (G : Good X W k) (C : ExcIn X.K X.mg x) (hg : Gl X x := by rfl) (hdb : (x == ("__debug__" : Str)) = false := by decide) : Ds X W (.Raise (some (.Call (.Name x p) [.Constant (.str m) j p2] [] pos2)) none pos) (sRaise x) := by
  obtain ⟨C, h1, h2, h3, h4, h5, h6⟩ := C.ex
  exact ds_raise G.calm G.tk h1 (pmk_own PySem.F.excBase_ValueError h2 h1 h3 (raises_own h4 h5) hg hdb)
/-- which of the text's classes a clause takes: itself alone is told -/
def mtOne (x : Str) : Str → Option Bool := fun y => if y = x then some true else none
theorem ds_tryM {body suite : List Stmt} {b₀ : Stmt} {np' pos' : Pos} {g h : Sm} (G : Good X W k) (hs : X.stack = X.env :: X.outer) (hf : X.env.frame = some X.env.locals) (C : ExcIn X.K X.mg x)
    (hb : ∀ (W' : WX) (pn : List (Addr × Obj)) (xe : Value → Shared → Prop), Good (X.tr pn xe) W' k → Dss (X.tr pn xe) W' body g)
    (hsu : ∀ (a : Addr) (oe : Obj) (pn : List (Addr × Obj)), Dss (X.suite a ((a, oe) :: pn)) W0 (b₀ :: suite) h) (hg : Gl X x := by rfl) (hdb : (x == ("__debug__" : Str)) = false := by decide) :
    Ds X W (.Try body [.ExceptHandler (some (.Name x np')) none (b₀ :: suite) pos'] [] [] pos) (sTry g (mtOne x) h) := by
  obtain ⟨C, h1, h2, h3, h4, h5, h6⟩ := C.ex
  refine ds_try G hs hf ⟨hg, hdb, .inl h1⟩ (fun y b cls e1 e2 => ?_) hb hsu
  unfold mtOne at e1
  split at e1
  · rename_i hy
    cases e1
    subst hy
    rw [h1] at e2
    cases e2
    exact h6
  · cases e1
theorem bb_len : bootBuiltins "len" = some (.builtin "len") := by decide +kernel
theorem bb_abs : bootBuiltins "abs" = some (.builtin "abs") := by decide +kernel
theorem bb_all : bootBuiltins "all" = some (.builtin "all") := by decide +kernel
theorem bb_any : bootBuiltins "any" = some (.builtin "any") := by decide +kernel
theorem bb_max : bootBuiltins "max" = some (.builtin "max") := by decide +kernel
theorem bb_min : bootBuiltins "min" = some (.builtin "min") := by decide +kernel
theorem bb_repr : bootBuiltins "repr" = some (.builtin "repr") := by decide +kernel
theorem bb_sorted : bootBuiltins "sorted" = some (.builtin "sorted") := by decide +kernel
theorem bb_int : bootBuiltins "int" = some (.type "int") := by decide +kernel
theorem bb_tuple : bootBuiltins "tuple" = some (.type "tuple") := by decide +kernel
theorem bb_list : bootBuiltins "list" = some (.type "list") := by decide +kernel
theorem bb_bool : bootBuiltins "bool" = some (.type "bool") := by decide +kernel
theorem bb_str : bootBuiltins "str" = some (.type "str") := by decide +kernel
end
end DL
end

section
set_option Elab.async false
set_option linter.all false
set_option maxRecDepth 100000
set_option maxHeartbeats 1000000
/-! DE: from the law's meaning to the row's goal. -/
namespace DL
open PySem PySem.Spec PyProof.Rows L2
open Evl (Ex)
/-- the call of the law, the promise one that holds where nothing is being shown -/
theorem law_run {P : Program} {w : World} {K : PySem.W.Frag} {mg mb : Str → Option Value} {k : Nat} {fa a : Addr} {fd : FuncData} {x : Str} {sp : Sp} {s₁ : Shared} {vs : List Value} {ns : List Int}
    (KX : K.In s₁.heap) (hns : s₁.heap.Ns mainGlobals mg) (hb : s₁.heap.Ns builtinsNs mb) (hbb : ∀ x : Str, x ≠ "__name__" → mb x = bootBuiltins x) (hlim : s₁.heap.NoLimit) (hg : s₁.gens = #[])
    (ha : s₁.heap.get? a = some { cls := .type "list", data := .seq vs.toArray }) (hi : IntsAre vs ns) (hl : ns.length ≤ sizeLine) (hr : Room k callerA)
    (F : ∀ base : Heap, K.In base → base.Ns mainGlobals mg → FnG P w K mg base k fa fd [x] sp) (hbind : ∀ (s : Shared) (u : Value), BindsTo s fd ⟨[u], []⟩ [(x, u)])
    (want : ∀ H : Hp, SqL K H a (ns.map V.int) → sp [.ref a] H (fun v _ => v = .bl true) fun _ _ _ => False) :
    codeAny (model P w) callerA (.call (.ref fa) ⟨[.ref a], []⟩) (fun r s' => r = .ok (.ret (.bool true)) ∧ OldK s₁.heap s'.heap ∧ s'.os = s₁.os ∧ AllBare s'.gens) s₁ := by
  have core : ∀ H : Hp, Only H → SqL K H a (ns.map V.int) → HOk P w H s₁.heap → (∀ b, H b ≠ none → b = a) → (H a ≠ none → K.lookup a = none) →
      codeAny (model P w) callerA (.call (.ref fa) ⟨[.ref a], []⟩) (fun r s' => r = .ok (.ret (.bool true)) ∧ OldK s₁.heap s'.heap ∧ s'.os = s₁.os ∧ AllBare s'.gens) s₁ := by
    intro H only seq hok single loose
    have not_a : ∀ {b : Addr} {P : Prop}, (b = a → P) → (H b = none → P) → P := fun {b P} h1 h2 => by
      cases q : H b with
      | none => exact h2 q
      | some u => exact h1 (single b (by rw [q]; simp))
    have hidden : ∀ {b : Addr} {o : Obj}, s₁.heap.get? b = some o → H b = none → (hidT s₁.heap H).get? b = some o := fun e n => hidT_get e n
    have dicts : ∀ {b : Addr} {o : Obj} {es : Array DictEntry} {ep : Nat}, s₁.heap.get? b = some o → o.data = .dict es ep → H b = none := fun {b o es ep} e d => by
      refine not_a (fun e' => ?_) id
      subst e'
      rw [ha] at e
      cases e
      exact nomatch d
    have nsH : ∀ {b : Addr} {m : Str → Option Value}, s₁.heap.Ns b m → (hidT s₁.heap H).Ns b m := by
      rintro b m ⟨o, es, ep, e, d, r⟩
      exact ⟨o, es, ep, hidden e (dicts e d), d, r⟩
    have inK : K.In (hidT s₁.heap H) := fun b o e => hidden (KX b o e) (by
      cases q : H b with
      | none => rfl
      | some u =>
        have e' : b = a := single b (by rw [q]; simp)
        subst e'
        rw [loose (by rw [q]; simp)] at e
        cases e)
    have lim : (hidT s₁.heap H).NoLimit := by
      obtain ⟨mc, h1, h2⟩ := hlim
      exact ⟨mc, nsH h1, h2⟩
    have md : Mod K mg (hidT s₁.heap H) := ⟨inK, nsH hns, ⟨mb, nsH hb, hbb⟩, lim⟩
    have e0 : Env0 P w K mg (hidT s₁.heap H) callerA [] s₁ H := by
      refine ⟨rfl, md, fun b o e => of_hidT e, Nat.le_of_eq (hidT_size _ _), trivial, fun b hb => ?_, hok, .of_eq hg⟩
      exact absurd (show b ∈ ([] : List Addr) from hb) (by simp)
    refine codeAny_mono ((F _ inK (nsH hns)).runs callerA [] s₁ H ⟨[.ref a], []⟩ [.ref a] [.ref a] _ _ hr rfl e0 (hbind s₁ (.ref a)) (.cons rfl .nil) (want H seq)) ?_
    rintro (e | (_ | _ | _ | u)) s' h
    · obtain ⟨_, _, _, _, _, _, _, _, _, _, _, _, no⟩ := (show L2.CX P w [] H s₁ (fun _ _ _ => False) e s' from h)
      exact no.elim
    · exact (h : False).elim
    · exact (h : False).elim
    · exact (h : False).elim
    · obtain ⟨v, H', os, bare, un, hok', r', q⟩ := h
      subst q
      cases r'
      refine ⟨rfl, OldK.of_keep fun b o e => ?_, os, bare⟩
      cases q : H b with
      | none => exact un.keep b o e q (by intro z; exact absurd (show b ∈ ([] : List Addr) from z) (by simp)) (by simp)
      | some u =>
        rcases only b with z | ⟨ob, xs, z⟩
        · rw [q] at z; cases z
        · obtain ⟨e1, _⟩ := hok b _ z
          obtain ⟨e2, _⟩ := hok' b _ (un.frzs b ob _ z)
          rw [e] at e1
          cases e1
          exact e2
  have rv := vals_ints hi
  have lenV : (ns.map V.int).length ≤ sizeLine := by rw [List.length_map]; exact hl
  cases hk : K.lookup a with
  | some o =>
    have e := KX a o hk
    rw [ha] at e
    cases e
    refine core (fun _ => none) (fun _ => .inl rfl) (.inr ⟨_, vs.toArray, _, hk, rfl, rfl, rfl, ?_, by simpa using rv⟩) (fun b u z => nomatch (show (none : Option HO) = some u from z)) (fun b z => absurd rfl z) fun z => absurd rfl z
    have h2 := hi.length
    rw [List.size_toArray]
    omega
  | none =>
    let scr : HO := .frz { cls := .type "list", data := .seq vs.toArray } (.lst (ns.map V.int))
    have at_a : ∀ {b : Addr} {u : HO}, (if b = a then some scr else none) = some u → b = a ∧ scr = u := fun {b u} z => by
      by_cases hb : b = a
      · rw [if_pos hb] at z
        exact ⟨hb, Option.some.inj z⟩
      · rw [if_neg hb] at z
        cases z
    refine core (fun b => if b = a then some scr else none) (fun b => ?_) (.inl (.inr ⟨_, if_pos rfl⟩)) (fun b u z => ?_) (fun b z => ?_) fun _ => hk
    · by_cases hb : b = a
      · exact .inr ⟨_, _, if_pos hb⟩
      · exact .inl (if_neg hb)
    · obtain ⟨rfl, rfl⟩ := at_a z
      exact ⟨ha, lenV, vs, _, rv, ha⟩
    · by_cases hb : b = a
      · exact hb
      · exact absurd (if_neg hb) z
/-- the meaning of the law says True -/
theorem want_of {K : PySem.W.Frag} {mg : Str → Option Value} {φ : List D → DSt → R D} {H : Hp} {a : Addr} {ns : List Int} (h : φ [.rol (ns.map D.int)] [] = some (.ok (.bl true) [])) (hS : SqL K H a (ns.map V.int)) :
    spD K mg 1 φ [.ref a] H (fun v _ => v = .bl true) fun _ _ _ => False := by
  have rs : RelDs K [] H (ns.map V.int) (ns.map D.int) := by
    clear hS h
    induction ns with
    | nil => exact .nil
    | cons n ns ih => exact .cons (.int n) ih
  refine ⟨rfl, [], H, [], [.rol (ns.map D.int)], _, ⟨Ex.refl H, List.nodup_nil, rfl, fun a ha => (by cases ha), fun l a m e => by simp at e⟩, .one (.rol hS rs), h, ?_⟩
  intro v H' θ' H0' g r rv
  cases rv
  rfl
/-- the goal that the head leaves -/
theorem walk_mean {l : PySem.W.OpenLaw} {n k : Nat} {q : Program} {loose : List Str} {XP : (Str → Option Value) → Heap → Prop} {YP : World → Heap → Prop} {d : DefRec} {K : Params → PySem.W.Frag} {φ : List D → DSt → R D} {x : Str}
    (hn : l.most = some n) (hn2 : n ≤ sizeLine) (hdf : d.params.defaults = []) (hr : Room k callerA) (hY : ∀ (w : World) (h : Heap), YP w h → (K w.params).In h)
    (F : ∀ (w : World) (mg : Str → Option Value) (fa : Addr) (h : Heap), YP w h → (K w.params).In h → h.Ns mainGlobals mg → mg d.name = some (.ref fa) →
      ∃ fd : FuncData, (∀ (s : Shared) (u : Value), BindsTo s fd ⟨[u], []⟩ [(x, u)]) ∧ ∀ base : Heap, (K w.params).In base → base.Ns mainGlobals mg → FnG l.prog w (K w.params) mg base k fa fd [x] (spD (K w.params) mg 1 φ))
    (law : ∀ ns : List Int, ns.length ≤ n → φ [.rol (ns.map D.int)] [] = some (.ok (.bl true) [])) :
    PySem.W.WalkO q loose XP YP l.row.toRowW d [] (fun f vs => PySem.call f vs) := by
  refine Att.attach_call hn hdf fun w s₀ s₁ mg mb fa o pm cd doc a vs ns G Y ho hd hcd hmg hobj hints hlen hg => ?_
  have KX := hY w _ Y
  obtain ⟨fd, hb, hF⟩ := F w mg fa _ Y KX G.T.g hmg
  exact law_run KX G.T.g G.T.b G.T.builtins G.T.nolimit hg hobj hints (Nat.le_trans hlen hn2) hr hF hb fun H hS => want_of (law ns hlen) hS
/-- one def of the text, by what the head's facts say -/
theorem defIn_mk {K : PySem.W.Frag} {h : Heap} {mg : Str → Option Value} (X : K.In h) (G : h.Ns mainGlobals mg) {x : Str} {st : Stmt} {ps : List Str} {f : Addr} {oc : Value} {od an : Option Addr} {osl : Array (Option Value)} {kV doc pm cdv ct : Value}
    (a : PySem.W.nsIn K mainGlobals x = some (some (.ref f))) (l : K.lookup f = some ⟨oc, od, .func (PySem.W.fnOf x x (defArgs st) (defBody st) (defScope st) .none kV doc pm an cdv ct), osl⟩) (c : PySem.W.codeIn K cdv x = true) (k : PySem.W.keepIn K (.ref f) = true)
    (b : ∀ (kV doc pm : Value) (an : Option Addr) (cdv ct : Value) (us : List Value), us.length = ps.length → bindArgs (PySem.W.fnOf x x (defArgs st) (defBody st) (defScope st) .none kV doc pm an cdv ct) ⟨us, []⟩ = pure (ps.zip us)) : DefIn K mg x st ps := by
  have F := fun_mk l c k
  exact ⟨f, _, PySem.W.mg_of X G a, k, F, F.binds b⟩
theorem exm_is {K : PySem.W.Frag} {S : Addr} (h1 : PySem.W.subIn K (.ref S) (.type "BaseException") = some true) (h2 : PySem.W.isClsIn K S = true) (h3 : PySem.W.typeIn K (.ref S) = some (.type "type")) (h4 : PySem.W.subIn K (.ref S) (.ref S) = some true) :
    PySem.W.exmOne K (.ref S) (.ref S) = some true := by
  unfold PySem.W.exmOne
  rw [if_pos (by rw [h1]; rfl)]
  have h2' : (PySem.W.clsIn K S).isSome = true := h2
  show (if ((PySem.W.clsIn K S).isSome && PySem.W.typeIn K (.ref S) == some (.type "type")) = true then PySem.W.subIn K (.ref S) (.ref S) else none) = some true
  rw [if_pos (by rw [h2', h3]; rfl)]
  exact h4
theorem excIn_mk {K : PySem.W.Frag} {h : Heap} {mg : Str → Option Value} (X : K.In h) (G : h.Ns mainGlobals mg) {x : Str} {C : Addr} (a : PySem.W.nsIn K mainGlobals x = some (some (.ref C)))
    (e : PySem.W.excIn K C [.type "ValueError", .type "Exception", .type "BaseException", .type "object"] "ValueError.__new__" = true) (k : PySem.W.keepIn K (.ref C) = true) (b : PySem.W.subIn K (.ref C) (.type "BaseException") = some true) (t : PySem.W.typeIn K (.ref C) = some (.type "type"))
    (i : PySem.W.isClsIn K C = true) (s : PySem.W.subIn K (.ref C) (.ref C) = some true) : ExcIn K mg x := ⟨C, PySem.W.mg_of X G a, e, k, b, t, exm_is b i t s⟩
end DL
end

section
set_option Elab.async false
set_option linter.all false
set_option maxRecDepth 100000
/-! ML1: the meanings reckoned. -/
namespace DL
open PySem
@[simp] theorem wipeE_nil (ρ : DEnv) : wipeE ρ [] = ρ := rfl
@[simp] theorem wipeE_cons (ρ : DEnv) (v : Nat) (vs : List Nat) : wipeE ρ (v :: vs) = (wipeE ρ vs).set v none := rfl
/-! ### values without mutable objects -/
@[simp] theorem unders_nil (n : Nat) : D.unders n [] = true := rfl
@[simp] theorem unders_cons (n : Nat) (d : D) (ds : List D) : D.unders n (d :: ds) = (d.under n && D.unders n ds) := rfl
@[simp] theorem under_int (n : Nat) (i : Int) : (D.int i).under n = true := rfl
@[simp] theorem under_bl (n : Nat) (i : Bool) : (D.bl i).under n = true := rfl
@[simp] theorem under_str (n : Nat) (i : Str) : (D.str i).under n = true := rfl
@[simp] theorem under_non (n : Nat) : D.non.under n = true := rfl
@[simp] theorem under_tup (n : Nat) (ds : List D) : (D.tup ds).under n = D.unders n ds := rfl
@[simp] theorem under_lst (n : Nat) (ds : List D) : (D.lst ds).under n = D.unders n ds := rfl
@[simp] theorem under_rol (n : Nat) (ds : List D) : (D.rol ds).under n = D.unders n ds := rfl
theorem unders_all {n : Nat} : ∀ {ds : List D}, (∀ d ∈ ds, d.under n = true) → D.unders n ds = true
  | [], _ => rfl
  | d :: ds, h => by
    rw [unders_cons, h d List.mem_cons_self, unders_all fun x hx => h x (List.mem_cons_of_mem _ hx)]
    rfl
theorem unders_map {α : Type} {n : Nat} {f : α → D} (h : ∀ a, (f a).under n = true) (l : List α) : D.unders n (l.map f) = true := unders_all fun d hd => by
  obtain ⟨a, _, rfl⟩ := List.mem_map.mp hd
  exact h a
/-- a tuple of ints, a list of ints -/
abbrev tI (l : List Int) : D := .tup (l.map .int)
@[simp] theorem unders_ints (n : Nat) (l : List Int) : D.unders n (l.map D.int) = true := unders_map (fun _ => rfl) l
@[simp] theorem unders_tIs (n : Nat) (l : List (List Int)) : D.unders n (l.map tI) = true := unders_map (f := tI) (fun a => (unders_ints n a : (tI a).under n = true)) l
/-! ### data -/
theorem pyDs_ints (l : List Int) : pyDs (l.map D.int) = l.map PyData.int := by rw [pyDs_map, List.map_map]; rfl
theorem canLay_ints : ∀ l : List Int, PyData.canLayAll0 (l.map PyData.int) = true
  | [] => rfl
  | i :: l => by
    show (PyData.canLay0 (.int i) && PyData.canLayAll0 (l.map PyData.int)) = true
    rw [canLay_ints l]
    rfl
theorem depth_ints : ∀ l : List Int, PyData.depthAll (l.map PyData.int) = 0
  | [] => rfl
  | i :: l => by
    show max (PyData.depth (.int i)) (PyData.depthAll (l.map PyData.int)) = 0
    rw [depth_ints l]
    rfl
@[simp] theorem okD_tI (l : List Int) : okD (tI l) = true := by
  show (PyData.canLayAll0 (pyDs (l.map D.int)) && decide (PyData.depthAll (pyDs (l.map D.int)) + 1 ≤ 64)) = true
  rw [pyDs_ints, canLay_ints, depth_ints]
  rfl
@[simp] theorem okD_int (i : Int) : okD (.int i) = true := rfl
@[simp] theorem okD_bl (i : Bool) : okD (.bl i) = true := rfl
@[simp] theorem okD_non : okD .non = true := rfl
@[simp] theorem eqv_int (i j : Int) : eqvD (.int i) (.int j) = decide (i = j) := by
  show PyData.eqv (.int i) (.int j) = _
  show (i == j) = _
  by_cases h : i = j <;> simp [h]
theorem eqvAll_ints : ∀ l m : List Int, PyData.eqvAll (l.map PyData.int) (m.map PyData.int) = decide (l = m)
  | [], [] => rfl
  | [], _ :: _ => rfl
  | _ :: _, [] => rfl
  | i :: l, j :: m => by
    show (PyData.eqv (.int i) (.int j) && PyData.eqvAll (l.map PyData.int) (m.map PyData.int)) = _
    rw [eqvAll_ints l m]
    by_cases h1 : i = j <;> by_cases h2 : l = m <;> simp [PyData.eqv, h1, h2]
@[simp] theorem eqv_tI (l m : List Int) : eqvD (tI l) (tI m) = decide (l = m) := by
  show PyData.eqvAll (pyDs (l.map D.int)) (pyDs (m.map D.int)) = _
  rw [pyDs_ints, pyDs_ints, eqvAll_ints]
@[simp] theorem eqv_str (x y : Str) : eqvD (.str x) (.str y) = decide (x = y) := by
  show (x == y) = _
  by_cases h : x = y <;> simp [h]
@[simp] theorem eqv_bl (x y : Bool) : eqvD (.bl x) (.bl y) = decide (x = y) := by
  show PyData.eqv (.bool x) (.bool y) = _
  cases x <;> cases y <;> rfl
@[simp] theorem clean_int (M : DSt) (i : Int) : clean M (.int i) = some (.int i) := rfl
@[simp] theorem clean_bl (M : DSt) (i : Bool) : clean M (.bl i) = some (.bl i) := rfl
@[simp] theorem clean_str (M : DSt) (i : Str) : clean M (.str i) = some (.str i) := rfl
@[simp] theorem clean_tI (M : DSt) (l : List Int) : clean M (tI l) = some (tI l) := clean_same (unders_ints 0 l)
theorem eqO_of {a b : D} {M : DSt} (h1 : a.under 0 = true) (h2 : b.under 0 = true) (h3 : okD a = true) (h4 : okD b = true) : eqO a b M = some (.bl (eqvD a b)) := by
  unfold eqO eqM
  rw [clean_same h1, clean_same h2]
  simp [h3, h4]
theorem neO_of {a b : D} {M : DSt} (h1 : a.under 0 = true) (h2 : b.under 0 = true) (h3 : okD a = true) (h4 : okD b = true) : neO a b M = some (.bl (!eqvD a b)) := by
  unfold neO eqM
  rw [clean_same h1, clean_same h2]
  simp [h3, h4]
@[simp] theorem eqO_int (i j : Int) (M : DSt) : eqO (.int i) (.int j) M = some (.bl (decide (i = j))) := by rw [eqO_of rfl rfl rfl rfl, eqv_int]
@[simp] theorem neO_int (i j : Int) (M : DSt) : neO (.int i) (.int j) M = some (.bl (!decide (i = j))) := by rw [neO_of rfl rfl rfl rfl, eqv_int]
theorem eqO_str {i j : Str} (h1 : okD (.str i) = true) (h2 : okD (.str j) = true) (M : DSt) : eqO (.str i) (.str j) M = some (.bl (decide (i = j))) := by rw [eqO_of rfl rfl h1 h2, eqv_str]
theorem neO_str {i j : Str} (h1 : okD (.str i) = true) (h2 : okD (.str j) = true) (M : DSt) : neO (.str i) (.str j) M = some (.bl (!decide (i = j))) := by rw [neO_of rfl rfl h1 h2, eqv_str]
@[simp] theorem eqO_bl (i j : Bool) (M : DSt) : eqO (.bl i) (.bl j) M = some (.bl (decide (i = j))) := by rw [eqO_of rfl rfl rfl rfl, eqv_bl]
@[simp] theorem eqO_tI (i j : List Int) (M : DSt) : eqO (tI i) (tI j) M = some (.bl (decide (i = j))) := by rw [eqO_of (a := tI i) (b := tI j) (unders_ints 0 i) (unders_ints 0 j) (okD_tI i) (okD_tI j), eqv_tI]
@[simp] theorem neO_tI (i j : List Int) (M : DSt) : neO (tI i) (tI j) M = some (.bl (!decide (i = j))) := by rw [neO_of (a := tI i) (b := tI j) (unders_ints 0 i) (unders_ints 0 j) (okD_tI i) (okD_tI j), eqv_tI]
/-! ### bools -/
@[simp] theorem blsD_map : ∀ bs : List Bool, blsD (bs.map D.bl) = some bs
  | [] => rfl
  | b :: bs => by
    show (blsD (bs.map D.bl)).map (b :: ·) = _
    rw [blsD_map bs]
    rfl
@[simp] theorem boolsB_map (F : List Bool → Bool) (bs : List Bool) (M : DSt) : boolsB F [.lst (bs.map D.bl)] M = some (.bl (F bs)) := by
  show ((some (bs.map D.bl)).bind fun xs => (blsD xs).map fun bs => D.bl (F bs)) = _
  rw [Option.bind_some, blsD_map]
  rfl
@[simp] theorem boolsB_fun {α : Type} (F : List Bool → Bool) (f : α → Bool) (l : List α) (M : DSt) : boolsB F [.lst (l.map fun a => D.bl (f a))] M = some (.bl (F (l.map f))) := by
  have e : (l.map fun a => D.bl (f a)) = (l.map f).map D.bl := by rw [List.map_map]; rfl
  rw [e, boolsB_map]
@[simp] theorem boolsB_comp {α : Type} (F : List Bool → Bool) (f : α → Bool) (l : List α) (M : DSt) : boolsB F [.lst (l.map (D.bl ∘ f))] M = some (.bl (F (l.map f))) := boolsB_fun F f l M
/-! ### loops -/
theorem forGo_of {it : ItD} {xs0 : List D} {T : Tg} {body : Sm} (P : List D → DEnv → DSt → Prop) (hi : ∀ xs ρ M, P xs ρ M → it.items M = some xs0)
    (hs : ∀ x xs ρ M, P (x :: xs) ρ M → ∃ ρ1 ρ2 M2, T x ρ M = some ρ1 ∧ body ρ1 M = some (.nx ρ2, M2) ∧ P xs ρ2 M2) : ∀ xs ρ M, P xs ρ M → ∃ ρ' M', forGo it xs0 T body xs ρ M = some (.nx ρ', M') ∧ P [] ρ' M'
  | [], ρ, M, h => ⟨ρ, M, by unfold forGo; rw [if_pos (hi _ _ _ h)], h⟩
  | x :: xs, ρ, M, h => by
    obtain ⟨ρ1, ρ2, M2, e1, e2, h2⟩ := hs x xs ρ M h
    obtain ⟨ρ', M', e3, h3⟩ := forGo_of P hi hs xs ρ2 M2 h2
    refine ⟨ρ', M', ?_, h3⟩
    unfold forGo
    rw [if_pos (hi _ _ _ h), e1]
    dsimp only
    rw [e2]
    exact e3
theorem sFor_of {fi : Dm ItD} {T : Tg} {body : Sm} {ρ : DEnv} {M M1 : DSt} {it : ItD} {xs : List D} (P : List D → DEnv → DSt → Prop) (h1 : fi ρ M = some (.ok it M1)) (h2 : it.items M1 = some xs) (hi : ∀ xs' ρ M, P xs' ρ M → it.items M = some xs)
    (hs : ∀ x xs ρ M, P (x :: xs) ρ M → ∃ ρ1 ρ2 M2, T x ρ M = some ρ1 ∧ body ρ1 M = some (.nx ρ2, M2) ∧ P xs ρ2 M2) (h0 : P xs ρ M1) : ∃ ρ' M', sFor fi T body ρ M = some (.nx ρ', M') ∧ P [] ρ' M' := by
  obtain ⟨ρ', M', e, h⟩ := forGo_of P hi hs xs ρ M1 h0
  refine ⟨ρ', M', ?_, h⟩
  unfold sFor
  rw [h1]
  show (match it.items M1 with
    | some xs => forGo it xs T body xs ρ M1
    | none => none) = _
  rw [h2]
  exact e
theorem sSeq_nx {s t : Sm} {ρ ρ' : DEnv} {M M' : DSt} (h : s ρ M = some (.nx ρ', M')) : sSeq s t ρ M = t ρ' M' := by
  unfold sSeq
  rw [h]
theorem sSeq_rt {s t : Sm} {ρ : DEnv} {M M' : DSt} {d : D} (h : s ρ M = some (.rt d, M')) : sSeq s t ρ M = some (.rt d, M') := by
  unfold sSeq
  rw [h]
theorem sSeq_ex {s t : Sm} {ρ ρ' : DEnv} {M M' : DSt} {x : Exn} (h : s ρ M = some (.ex x ρ', M')) : sSeq s t ρ M = some (.ex x ρ', M') := by
  unfold sSeq
  rw [h]
theorem sIf_of {ft : Dm Bool} {s t : Sm} {ρ : DEnv} {M M1 : DSt} {b : Bool} (h : ft ρ M = some (.ok b M1)) : sIf ft s t ρ M = if b = true then s ρ M1 else t ρ M1 := by
  unfold sIf sb
  rw [h]
theorem sAsg_of {fa : Dm D} {i : Nat} {ρ : DEnv} {M M1 : DSt} {d : D} (h : fa ρ M = some (.ok d M1)) : sAsg fa (gN i) ρ M = some (.nx (ρ.set i (some d)), M1) := by
  unfold sAsg sb
  rw [h]
  rfl
theorem sRet_of {fa : Dm D} {ρ : DEnv} {M M1 : DSt} {d : D} (h : fa ρ M = some (.ok d M1)) : sRet fa ρ M = some (.rt d, M1) := by
  unfold sRet sb
  rw [h]
theorem sRet_ex {fa : Dm D} {ρ : DEnv} {M M1 : DSt} {x : Exn} (h : fa ρ M = some (.ex x M1)) : sRet fa ρ M = some (.ex x ρ, M1) := by
  unfold sRet sb
  rw [h]
theorem sExp_of {fa : Dm D} {ρ : DEnv} {M M1 : DSt} {d : D} (h : fa ρ M = some (.ok d M1)) : sExp fa ρ M = some (.nx ρ, M1) := by
  unfold sExp sb
  rw [h]
theorem sExp_ex {fa : Dm D} {ρ : DEnv} {M M1 : DSt} {x : Exn} (h : fa ρ M = some (.ex x M1)) : sExp fa ρ M = some (.ex x ρ, M1) := by
  unfold sExp sb
  rw [h]
/-! ### expressions -/
theorem vOp_of {g : D → D → DSt → Option D} {fa fb : Dm D} {ρ : DEnv} {M M1 M2 : DSt} {a b d : D} (h1 : fa ρ M = some (.ok a M1)) (h2 : fb ρ M1 = some (.ok b M2)) (h3 : g a b M2 = some d) : vOp g fa fb ρ M = some (.ok d M2) := by
  unfold vOp
  rw [h1, bnd_ok, h2, bnd_ok, h3]
  rfl
theorem vUn_of {g : D → DSt → Option D} {fa : Dm D} {ρ : DEnv} {M M1 : DSt} {a d : D} (h1 : fa ρ M = some (.ok a M1)) (h3 : g a M1 = some d) : vUn g fa ρ M = some (.ok d M1) := by
  unfold vUn
  rw [h1, bnd_ok, h3]
  rfl
theorem vCall_of {g : List D → DSt → Option D} {fs : Dm (List D)} {ρ : DEnv} {M M1 : DSt} {ds : List D} {d : D} (h1 : fs ρ M = some (.ok ds M1)) (h3 : g ds M1 = some d) : vCall g fs ρ M = some (.ok d M1) := by
  unfold vCall
  rw [h1, bnd_ok, h3]
  rfl
theorem a1_of {fa : Dm D} {ρ : DEnv} {M M1 : DSt} {a : D} (h : fa ρ M = some (.ok a M1)) : aCons fa aNil ρ M = some (.ok [a] M1) := by
  unfold aCons
  rw [h]
  rfl
theorem a2_of {fa fb : Dm D} {ρ : DEnv} {M M1 M2 : DSt} {a b : D} (h : fa ρ M = some (.ok a M1)) (h2 : fb ρ M1 = some (.ok b M2)) : aCons fa (aCons fb aNil) ρ M = some (.ok [a, b] M2) := by
  unfold aCons
  rw [h, bnd_ok, h2]
  rfl
theorem tTru_bl {fa : Dm D} {ρ : DEnv} {M M1 : DSt} {b : Bool} (h : fa ρ M = some (.ok (.bl b) M1)) : tTru fa ρ M = some (.ok b M1) := by
  unfold tTru
  rw [h]
  rfl
theorem tBl_of {fa : Dm D} {ρ : DEnv} {M M1 : DSt} {b : Bool} (h : fa ρ M = some (.ok (.bl b) M1)) : tBl fa ρ M = some (.ok b M1) := by
  unfold tBl
  rw [h]
  rfl
theorem tNot2_of {ft : Dm Bool} {ρ : DEnv} {M M1 : DSt} {b : Bool} (h : ft ρ M = some (.ok b M1)) : tNot2 ft ρ M = some (.ok (!b) M1) := by
  unfold tNot2
  rw [h]
  rfl
theorem tOr2_of {fa fb : Dm Bool} {ρ : DEnv} {M M1 M2 : DSt} {a b : Bool} (h : fa ρ M = some (.ok a M1)) (h2 : a = false → fb ρ M1 = some (.ok b M2)) (hm : a = true → M2 = M1) : tOr2 fa fb ρ M = some (.ok (a || b) M2) := by
  unfold tOr2
  rw [h, bnd_ok]
  cases a with
  | true => rw [if_pos rfl, hm rfl]; rfl
  | false => rw [if_neg Bool.false_ne_true, h2 rfl]; rfl
theorem tAnd2_of {fa fb : Dm Bool} {ρ : DEnv} {M M1 M2 : DSt} {a b : Bool} (h : fa ρ M = some (.ok a M1)) (h2 : a = true → fb ρ M1 = some (.ok b M2)) (hm : a = false → M2 = M1) : tAnd2 fa fb ρ M = some (.ok (a && b) M2) := by
  unfold tAnd2
  rw [h, bnd_ok]
  cases a with
  | false => rw [if_neg Bool.false_ne_true, hm rfl]; rfl
  | true => rw [if_pos rfl, h2 rfl]; rfl
theorem vAnd_of {fa fb : Dm D} {ρ : DEnv} {M M1 M2 : DSt} {a b : Bool} (h : fa ρ M = some (.ok (.bl a) M1)) (h2 : a = true → fb ρ M1 = some (.ok (.bl b) M2)) (hm : a = false → M2 = M1) : vAnd fa fb ρ M = some (.ok (.bl (a && b)) M2) := by
  unfold vAnd
  rw [h, bnd_ok]
  cases a with
  | false => show some (Out.ok (D.bl false) M1) = _; rw [hm rfl]; rfl
  | true => show fb ρ M1 = _; rw [h2 rfl]; rfl
theorem vNot_of {fa : Dm D} {ρ : DEnv} {M M1 : DSt} {b : Bool} (h : fa ρ M = some (.ok (.bl b) M1)) : vNot fa ρ M = some (.ok (.bl (!b)) M1) := by
  unfold vNot
  rw [h]
  rfl
/-! ### calls -/
theorem vFn0 {np : Nat} {φ : List D → DSt → R D} {fs : Dm (List D)} {ρ : DEnv} {M M1 : DSt} {ds : List D} {d : D} (h : fs ρ M = some (.ok ds M1)) (hl : ds.length = np) (hu : D.unders 0 ds = true) (hd : d.under 0 = true) (hφ : φ ds [] = some (.ok d [])) : vFn 0 np φ fs ρ M = some (.ok d M1) := by
  unfold vFn
  rw [h, bnd_ok, if_pos ⟨hl, Nat.zero_le _, hu, by simp⟩, List.take_zero, hφ]
  dsimp only
  rw [if_pos ⟨rfl, hd⟩]
  rfl
theorem vFn0x {np : Nat} {φ : List D → DSt → R D} {fs : Dm (List D)} {ρ : DEnv} {M M1 : DSt} {ds : List D} {x : Exn} (h : fs ρ M = some (.ok ds M1)) (hl : ds.length = np) (hu : D.unders 0 ds = true) (hd : XrOk x = true) (hφ : φ ds [] = some (.ex x [])) : vFn 0 np φ fs ρ M = some (.ex x M1) := by
  unfold vFn
  rw [h, bnd_ok, if_pos ⟨hl, Nat.zero_le _, hu, by simp⟩, List.take_zero, hφ]
  dsimp only
  rw [if_pos ⟨rfl, hd⟩]
  rfl
/-- a def without objects of its own -/
theorem def_rt {np N : Nat} {b : Sm} {ds : List D} {d : D} (hl : ds.length = np) (hd : d.under 0 = true) (h : b (ds.map some ++ List.replicate (N - ds.length) none) [] = some (.rt d, [])) : defSem np N b ds [] = some (.ok d []) := by
  unfold defSem
  rw [if_pos hl, h]
  dsimp only
  rw [frz_same hd]
  rfl
theorem def_nx {np N : Nat} {b : Sm} {ds : List D} {ρ : DEnv} (hl : ds.length = np) (h : b (ds.map some ++ List.replicate (N - ds.length) none) [] = some (.nx ρ, [])) : defSem np N b ds [] = some (.ok .non []) := by
  unfold defSem
  rw [if_pos hl, h]
  rfl
theorem def_ex {np N : Nat} {b : Sm} {ds : List D} {ρ : DEnv} {x : Exn} (hl : ds.length = np) (hx : XrOk x = true) (h : b (ds.map some ++ List.replicate (N - ds.length) none) [] = some (.ex x ρ, [])) : defSem np N b ds [] = some (.ex x []) := by
  unfold defSem
  rw [if_pos hl, h]
  show (if XrOk x = true then some (Out.ex x []) else none) = _
  rw [if_pos hx]
/-- .. with objects of its own, all gone at its end -/
theorem def_rtM {np N : Nat} {b : Sm} {ds : List D} {d : D} {M : DSt} (hl : ds.length = np) (hd : d.under 0 = true) (h : b (ds.map some ++ List.replicate (N - ds.length) none) [] = some (.rt d, M)) : defSem np N b ds [] = some (.ok d []) := by
  unfold defSem
  rw [if_pos hl, h]
  dsimp only
  rw [frz_same hd]
  rfl
/-! ### comprehensions that leave the store as it is -/
theorem lcGo_pure {it : ItD} {xs0 : List D} {step : D → DSt → R (List D)} {M : DSt} {f : D → List D} (hi : it.items M = some xs0) : ∀ {xs : List D}, (∀ x ∈ xs, step x M = some (.ok (f x) M)) → lcGo it xs0 step xs M = some (.ok (xs.flatMap f) M)
  | [], _ => by unfold lcGo; rw [if_pos hi]; rfl
  | x :: xs, h => by
    unfold lcGo
    rw [if_pos hi, h x List.mem_cons_self]
    dsimp only
    rw [lcGo_pure hi fun y hy => h y (List.mem_cons_of_mem _ hy)]
    rfl
theorem vLc_pure {fi : Dm ItD} {T : Tg} {ft : Dm Bool} {fe : Dm D} {vs : List Nat} {ρ : DEnv} {M M1 : DSt} {it : ItD} {xs : List D} {f : D → List D} (h1 : fi ρ M = some (.ok it M1)) (h2 : it.items M1 = some xs) (h3 : ∀ x ∈ xs, lcStep T ft fe (wipeE ρ vs) x M1 = some (.ok (f x) M1)) :
    vLc fi T ft fe vs ρ M = some (.ok (.lst (xs.flatMap f)) M1) := by
  unfold vLc
  rw [h1, bnd_ok, h2]
  dsimp only
  rw [lcGo_pure h2 h3]
theorem vLc_map {α : Type} {fi : Dm ItD} {T : Tg} {ft : Dm Bool} {fe : Dm D} {vs : List Nat} {ρ : DEnv} {M M1 : DSt} {it : ItD} {as : List α} {e g : α → D} (h1 : fi ρ M = some (.ok it M1)) (h2 : it.items M1 = some (as.map e)) (h3 : ∀ a ∈ as, lcStep T ft fe (wipeE ρ vs) (e a) M1 = some (.ok [g a] M1)) :
    vLc fi T ft fe vs ρ M = some (.ok (.lst (as.map g)) M1) := by
  unfold vLc
  rw [h1, bnd_ok, h2]
  dsimp only
  have key : ∀ bs : List α, (∀ a ∈ bs, a ∈ as) → lcGo it (as.map e) (lcStep T ft fe (wipeE ρ vs)) (bs.map e) M1 = some (.ok (bs.map g) M1) := by
    intro bs
    induction bs with
    | nil => intro _; simp only [List.map_nil]; unfold lcGo; rw [if_pos h2]
    | cons b bs ih =>
      intro hb
      rw [List.map_cons]
      unfold lcGo
      rw [if_pos h2, h3 b (hb b List.mem_cons_self)]
      dsimp only
      rw [ih fun a ha => hb a (List.mem_cons_of_mem _ ha)]
      rfl
  rw [key as fun _ h => h]
theorem vLc_filter {α : Type} {fi : Dm ItD} {T : Tg} {ft : Dm Bool} {fe : Dm D} {vs : List Nat} {ρ : DEnv} {M M1 : DSt} {it : ItD} {as : List α} {e g : α → D} {p : α → Bool} (h1 : fi ρ M = some (.ok it M1)) (h2 : it.items M1 = some (as.map e)) (h3 : ∀ a ∈ as, lcStep T ft fe (wipeE ρ vs) (e a) M1 = some (.ok (if p a = true then [g a] else []) M1)) :
    vLc fi T ft fe vs ρ M = some (.ok (.lst ((as.filter p).map g)) M1) := by
  unfold vLc
  rw [h1, bnd_ok, h2]
  dsimp only
  have key : ∀ bs : List α, (∀ a ∈ bs, a ∈ as) → lcGo it (as.map e) (lcStep T ft fe (wipeE ρ vs)) (bs.map e) M1 = some (.ok ((bs.filter p).map g) M1) := by
    intro bs
    induction bs with
    | nil => intro _; simp only [List.map_nil]; unfold lcGo; rw [if_pos h2]; rfl
    | cons b bs ih =>
      intro hb
      rw [List.map_cons]
      unfold lcGo
      rw [if_pos h2, h3 b (hb b List.mem_cons_self)]
      dsimp only
      rw [ih fun a ha => hb a (List.mem_cons_of_mem _ ha)]
      by_cases hp : p b = true
      · rw [if_pos hp, List.filter_cons_of_pos hp]
        rfl
      · rw [if_neg hp, List.filter_cons_of_neg hp]
        rfl
  rw [key as fun _ h => h]
theorem vLc2_of {fi fi1 : Dm ItD} {T T1 : Tg} {ft ft1 : Dm Bool} {fe : Dm D} {vs vs1 : List Nat} {ρ : DEnv} {M M1 : DSt} {it : ItD} {xs : List D} {f : D → List D} (h1 : fi ρ M = some (.ok it M1)) (h2 : it.items M1 = some xs)
    (h3 : ∀ x ∈ xs, lcStep2 T ft fi1 T1 ft1 fe vs1 (wipeE ρ vs) x M1 = some (.ok (f x) M1)) (h4 : (xs.flatMap f).length ≤ 1000000) : vLc2 fi T ft fi1 T1 ft1 fe vs vs1 ρ M = some (.ok (.lst (xs.flatMap f)) M1) := by
  unfold vLc2
  rw [h1, bnd_ok, h2]
  dsimp only
  rw [lcGo_pure h2 h3]
  dsimp only
  rw [if_pos h4]
/-- the inner turns -/
theorem lcStep2_of {T T1 : Tg} {ft ft1 : Dm Bool} {fi1 : Dm ItD} {fe : Dm D} {vs1 : List Nat} {ρ0 ρ1 : DEnv} {M M1 M2 : DSt} {x : D} {it : ItD} {xs : List D} {f : D → List D} (h0 : T x ρ0 M = some ρ1) (ht : ft ρ1 M = some (.ok true M1)) (h1 : fi1 ρ1 M1 = some (.ok it M2)) (h2 : it.items M2 = some xs)
    (h3 : ∀ y ∈ xs, lcStep T1 ft1 fe (wipeE ρ1 vs1) y M2 = some (.ok (f y) M2)) : lcStep2 T ft fi1 T1 ft1 fe vs1 ρ0 x M = some (.ok (xs.flatMap f) M2) := by
  unfold lcStep2
  rw [h0]
  dsimp only
  rw [ht]
  dsimp only
  rw [h1]
  dsimp only
  rw [h2]
  dsimp only
  rw [lcGo_pure h2 h3]
/-! ### over typed lists -/
theorem flat_congr {α β : Type} {f g : α → List β} : ∀ {l : List α}, (∀ a ∈ l, f a = g a) → l.flatMap f = l.flatMap g
  | [], _ => rfl
  | x :: l, h => by rw [List.flatMap_cons, List.flatMap_cons, h x List.mem_cons_self, flat_congr fun a ha => h a (List.mem_cons_of_mem _ ha)]
theorem lcGo_typed {α : Type} {it : ItD} {xs0 : List D} {step : D → DSt → R (List D)} {M : DSt} {e : α → D} {F : α → List D} (hi : it.items M = some xs0) : ∀ {as : List α}, (∀ a ∈ as, step (e a) M = some (.ok (F a) M)) → lcGo it xs0 step (as.map e) M = some (.ok (as.flatMap F) M)
  | [], _ => by rw [List.map_nil]; unfold lcGo; rw [if_pos hi]; rfl
  | a :: as, h => by
    rw [List.map_cons]
    unfold lcGo
    rw [if_pos hi, h a List.mem_cons_self]
    dsimp only
    rw [lcGo_typed hi fun y hy => h y (List.mem_cons_of_mem _ hy)]
    rfl
theorem flat_if {α : Type} (l : List α) (p : α → Bool) (g : α → D) : (l.flatMap fun a => if p a = true then [g a] else []) = (l.filter p).map g := by
  induction l with
  | nil => rfl
  | cons x l ih =>
    rw [List.flatMap_cons, ih]
    by_cases h : p x = true
    · rw [if_pos h, List.filter_cons_of_pos h]; rfl
    · rw [if_neg h, List.filter_cons_of_neg h]; rfl
theorem flat_len {α β : Type} {k : Nat} {f : α → List β} : ∀ {l : List α}, (∀ a ∈ l, (f a).length ≤ k) → (l.flatMap f).length ≤ l.length * k
  | [], _ => by simp
  | x :: l, h => by
    rw [List.flatMap_cons, List.length_append, List.length_cons, Nat.succ_mul]
    have h1 := h x List.mem_cons_self
    have h2 := flat_len (l := l) fun a ha => h a (List.mem_cons_of_mem _ ha)
    omega
theorem vLc2_typed {α β : Type} {fi fi1 : Dm ItD} {T T1 : Tg} {ft ft1 : Dm Bool} {fe : Dm D} {vs vs1 : List Nat} {ρ : DEnv} {M M1 : DSt} {it : ItD} {as : List α} {bs : α → List β} {e : α → D} {e1 : β → D} {p : α → β → Bool} {g : α → β → D} {it1 : α → ItD} (h1 : fi ρ M = some (.ok it M1)) (h2 : it.items M1 = some (as.map e))
    (h3 : ∀ a ∈ as, ∃ ρ1, T (e a) (wipeE ρ vs) M1 = some ρ1 ∧ ft ρ1 M1 = some (.ok true M1) ∧ fi1 ρ1 M1 = some (.ok (it1 a) M1) ∧ (it1 a).items M1 = some ((bs a).map e1) ∧ ∀ b ∈ bs a, lcStep T1 ft1 fe (wipeE ρ1 vs1) (e1 b) M1 = some (.ok (if p a b = true then [g a b] else []) M1))
    (h4 : ∀ a ∈ as, (bs a).length ≤ 1000) (h5 : as.length ≤ 1000) : vLc2 fi T ft fi1 T1 ft1 fe vs vs1 ρ M = some (.ok (.lst (as.flatMap fun a => ((bs a).filter (p a)).map (g a))) M1) := by
  have hl : (as.flatMap fun a => ((bs a).filter (p a)).map (g a)).length ≤ as.length * 1000 := flat_len fun a ha => by
    rw [List.length_map]
    exact Nat.le_trans (List.length_filter_le _ _) (h4 a ha)
  unfold vLc2
  rw [h1, bnd_ok, h2]
  dsimp only
  rw [lcGo_typed (F := fun a => ((bs a).filter (p a)).map (g a)) h2 fun a ha => ?_]
  · dsimp only
    rw [if_pos (by omega)]
  · obtain ⟨ρ1, q1, q2, q3, q4, q5⟩ := h3 a ha
    unfold lcStep2
    rw [q1]
    dsimp only
    rw [q2]
    dsimp only
    rw [q3]
    dsimp only
    rw [q4]
    dsimp only
    rw [lcGo_typed (F := fun b => if p a b = true then [g a b] else []) q4 q5, flat_if]
/-- a loop ahead of the rest -/
theorem seq_for {fi : Dm ItD} {T : Tg} {body rest : Sm} {ρ : DEnv} {M M1 : DSt} {it : ItD} {xs : List D} {r : RS} (P : List D → DEnv → DSt → Prop) (h1 : fi ρ M = some (.ok it M1)) (h2 : it.items M1 = some xs) (hi : ∀ xs' ρ M, P xs' ρ M → it.items M = some xs) (h0 : P xs ρ M1)
    (hs : ∀ x xs ρ M, P (x :: xs) ρ M → ∃ ρ1, T x ρ M = some ρ1 ∧ ∃ ρ2 M2, body ρ1 M = some (.nx ρ2, M2) ∧ P xs ρ2 M2) (fin : ∀ ρ' M', P [] ρ' M' → rest ρ' M' = r) : sSeq (sFor fi T body) rest ρ M = r := by
  obtain ⟨ρ', M', e, h⟩ := sFor_of P h1 h2 hi (fun x xs ρ M h => by
    obtain ⟨ρ1, a, ρ2, M2, b, c⟩ := hs x xs ρ M h
    exact ⟨ρ1, ρ2, M2, a, b, c⟩) h0
  rw [sSeq_nx e]
  exact fin ρ' M' h
theorem ex_seq_for {fi : Dm ItD} {T : Tg} {body rest : Sm} {ρ : DEnv} {M M1 : DSt} {it : ItD} {xs : List D} {Q : DEnv → DSt → Prop} (P : List D → DEnv → DSt → Prop) (h1 : fi ρ M = some (.ok it M1)) (h2 : it.items M1 = some xs) (hi : ∀ xs' ρ M, P xs' ρ M → it.items M = some xs) (h0 : P xs ρ M1)
    (hs : ∀ x xs ρ M, P (x :: xs) ρ M → ∃ ρ1, T x ρ M = some ρ1 ∧ ∃ ρ2 M2, body ρ1 M = some (.nx ρ2, M2) ∧ P xs ρ2 M2) (fin : ∀ ρ' M', P [] ρ' M' → ∃ ρ2 M2, rest ρ' M' = some (.nx ρ2, M2) ∧ Q ρ2 M2) : ∃ ρ2 M2, sSeq (sFor fi T body) rest ρ M = some (.nx ρ2, M2) ∧ Q ρ2 M2 := by
  obtain ⟨ρ', M', e, h⟩ := sFor_of P h1 h2 hi (fun x xs ρ M h => by
    obtain ⟨ρ1, a, ρ2, M2, b, c⟩ := hs x xs ρ M h
    exact ⟨ρ1, ρ2, M2, a, b, c⟩) h0
  obtain ⟨ρ2, M2, e2, q⟩ := fin ρ' M' h
  exact ⟨ρ2, M2, by rw [sSeq_nx e]; exact e2, q⟩
theorem ex_seq {s rest : Sm} {ρ ρ1 : DEnv} {M M1 : DSt} {Q : DEnv → DSt → Prop} (h : s ρ M = some (.nx ρ1, M1)) (k : ∃ ρ2 M2, rest ρ1 M1 = some (.nx ρ2, M2) ∧ Q ρ2 M2) : ∃ ρ2 M2, sSeq s rest ρ M = some (.nx ρ2, M2) ∧ Q ρ2 M2 := by
  obtain ⟨ρ2, M2, e, q⟩ := k
  exact ⟨ρ2, M2, by rw [sSeq_nx h]; exact e, q⟩
theorem app_of {fo : Dm D} {fs : Dm (List D)} {ρ : DEnv} {M M1 M2 : DSt} {l : Nat} {xs ys : List D} {y : D} (ho : fo ρ M = some (.ok (.loc l) M1)) (h : M1[l]? = some (.lst xs)) (hs : fs ρ M1 = some (.ok [y] M2)) (h2 : M2[l]? = some (.lst ys)) (hz : ys.length < 1000000) :
    vMth appM fo fs ρ M = some (.ok .non (M2.set l (.lst (ys ++ [y])))) := by
  have e1 : isL M1 (.loc l) = true := by
    unfold isL lstOf
    simp only [h]
    rfl
  have e2 : locL M2 (.loc l) = some (l, ys) := by
    unfold locL
    simp only [h2]
  unfold vMth
  rw [ho, bnd_ok, if_pos e1, hs, bnd_ok]
  unfold appM
  rw [e2]
  dsimp only
  rw [if_pos hz]
  rfl
/-! ### the draw: one object, handed on -/
theorem setix_of {fv fo fi : Dm D} {ρ : DEnv} {M M1 M2 M3 : DSt} {v : D} {l j : Nat} {k : Int} {xs : List D} (hv : fv ρ M = some (.ok v M1)) (ho : fo ρ M1 = some (.ok (.loc l) M2)) (hi : fi ρ M2 = some (.ok (.int k) M3)) (h : M3[l]? = some (.lst xs)) (hk : L2.ixN xs.length k = some j) :
    sSetIx fv fo fi ρ M = some (.nx ρ, M3.set l (.lst (xs.set j v))) := by
  have e2 : locL M3 (.loc l) = some (l, xs) := by
    unfold locL
    simp only [h]
  unfold sSetIx sb
  rw [hv]
  dsimp only
  rw [ho]
  dsimp only
  rw [hi]
  dsimp only
  rw [e2]
  dsimp only
  rw [hk]
theorem vFn1 {np : Nat} {φ : List D → DSt → R D} {fs : Dm (List D)} {ρ : DEnv} {M M1 : DSt} {m m' : MO} {ds : List D} {d : D} (h : fs ρ M = some (.ok ds (m :: M1))) (hl : ds.length = np) (hu : D.unders 1 ds = true) (hm : m.under 1 = true) (hd : d.under 1 = true) (hφ : φ ds [m] = some (.ok d [m'])) :
    vFn 1 np φ fs ρ M = some (.ok d (m' :: M1)) := by
  unfold vFn
  rw [h, bnd_ok, if_pos ⟨hl, by simp, hu, by simp [hm]⟩]
  show (match φ ds [m] with
    | some (.ok d M2) => if M2.length = 1 ∧ d.under 1 = true then some (Out.ok d (M2 ++ (m :: M1).drop 1)) else none
    | some (.ex x M2) => if M2.length = 1 ∧ XrOk x = true then some (Out.ex x (M2 ++ (m :: M1).drop 1)) else none
    | none => none) = _
  rw [hφ]
  dsimp only
  rw [if_pos ⟨rfl, hd⟩]
  rfl
theorem def_rt1 {np N : Nat} {b : Sm} {ds : List D} {d : D} {m : MO} {xs : List D} (hl : ds.length = np) (hd : d.under 0 = true) (hx : D.unders 0 xs = true) (h : b (ds.map some ++ List.replicate (N - ds.length) none) [m] = some (.rt d, [.lst xs])) : defSem np N b ds [m] = some (.ok d [.lst xs]) := by
  unfold defSem
  rw [if_pos hl, h]
  show (match frzD (frzL 1 [.lst xs] 4) d, frzM 1 [.lst xs] [.lst xs] with
    | some d', some Mn => some (Out.ok d' Mn)
    | _, _ => none) = _
  rw [frz_same hd]
  unfold frzM
  rw [frzs_same hx]
  rfl
end DL
end

section
set_option Elab.async false
set_option linter.all false
set_option maxRecDepth 100000
set_option maxHeartbeats 4000000
/-! the walk of keykinds_k62_whole_complements: printed by gen.py -/
namespace Lw
open PySem PySem.Spec PyProof.Rows L2 DL
def topS (i : Nat) : Stmt := PySem.Challenge.pw_keykinds_k62_whole_complements.main.body.getD i (.Pass ⟨0, 0, 0, 0⟩)
abbrev s_is_whole : Stmt := topS 4
theorem sc_is_whole : FnScope ["value"] ["value"] (defScope s_is_whole) := ⟨rfl, rfl, rfl, by decide +kernel, rfl, by decide +kernel, by decide +kernel⟩
abbrev s_is_view : Stmt := topS 8
theorem sc_is_view : FnScope ["value", "label"] ["value"] (defScope s_is_view) := ⟨rfl, rfl, rfl, by decide +kernel, rfl, by decide +kernel, by decide +kernel⟩
abbrev s_check_views : Stmt := topS 9
theorem sc_check_views : FnScope ["one", "two"] ["one", "two"] (defScope s_check_views) := ⟨rfl, rfl, rfl, by decide +kernel, rfl, by decide +kernel, by decide +kernel⟩
abbrev s_does_tell : Stmt := topS 10
theorem sc_does_tell : FnScope ["one", "two", "places", "s", "t"] ["one", "two"] (defScope s_does_tell) := ⟨rfl, rfl, rfl, by decide +kernel, rfl, by decide +kernel, by decide +kernel⟩
abbrev s_view_tells : Stmt := topS 11
theorem sc_view_tells : FnScope ["one", "two"] ["one", "two"] (defScope s_view_tells) := ⟨rfl, rfl, rfl, by decide +kernel, rfl, by decide +kernel, by decide +kernel⟩
abbrev s_part_all : Stmt := topS 12
theorem sc_part_all : FnScope ["one", "two"] ["one", "two"] (defScope s_part_all) := ⟨rfl, rfl, rfl, by decide +kernel, rfl, by decide +kernel, by decide +kernel⟩
abbrev s_are_complements : Stmt := topS 13
theorem sc_are_complements : FnScope ["one", "two"] ["one", "two"] (defScope s_are_complements) := ⟨rfl, rfl, rfl, by decide +kernel, rfl, by decide +kernel, by decide +kernel⟩
abbrev s_plain_views : Stmt := topS 14
theorem sc_plain_views : FnScope ["many", "found", "_", "row", "label"] ["many"] (defScope s_plain_views) := ⟨rfl, rfl, rfl, by decide +kernel, rfl, by decide +kernel, by decide +kernel⟩
abbrev s_least_complements : Stmt := topS 15
theorem sc_least_complements : FnScope ["view", "good", "found", "other", "lesser"] ["view"] (defScope s_least_complements) := ⟨rfl, rfl, rfl, by decide +kernel, rfl, by decide +kernel, by decide +kernel⟩
abbrev s__law_draw : Stmt := topS 17
theorem sc__law_draw : FnScope ["script", "seed", "cell"] ["script"] (defScope s__law_draw) := ⟨rfl, rfl, rfl, by decide +kernel, rfl, by decide +kernel, by decide +kernel⟩
abbrev s__law_take : Stmt := topS 18
theorem sc__law_take : FnScope ["draw", "many", "found"] ["draw", "many"] (defScope s__law_take) := ⟨rfl, rfl, rfl, by decide +kernel, rfl, by decide +kernel, by decide +kernel⟩
abbrev s__law_says : Stmt := topS 19
theorem sc__law_says : FnScope ["value", "due"] ["value", "due"] (defScope s__law_says) := ⟨rfl, rfl, rfl, by decide +kernel, rfl, by decide +kernel, by decide +kernel⟩
abbrev s__law_view : Stmt := topS 20
theorem sc__law_view : FnScope ["draw", "many", "top", "s"] ["draw", "many"] (defScope s__law_view) := ⟨rfl, rfl, rfl, by decide +kernel, rfl, by decide +kernel, by decide +kernel⟩
abbrev s__law_tells : Stmt := topS 21
theorem sc__law_tells : FnScope ["one", "two", "places", "t", "s"] ["one", "two"] (defScope s__law_tells) := ⟨rfl, rfl, rfl, by decide +kernel, rfl, by decide +kernel, by decide +kernel⟩
abbrev s__law_parts_all : Stmt := topS 22
theorem sc__law_parts_all : FnScope ["one", "two", "places", "t", "s"] ["one", "two"] (defScope s__law_parts_all) := ⟨rfl, rfl, rfl, by decide +kernel, rfl, by decide +kernel, by decide +kernel⟩
abbrev s__law_plain : Stmt := topS 23
theorem sc__law_plain : FnScope ["many", "found", "s", "longer", "row", "label"] ["many"] (defScope s__law_plain) := ⟨rfl, rfl, rfl, by decide +kernel, rfl, by decide +kernel, by decide +kernel⟩
abbrev s__law_odd_view : Stmt := topS 24
theorem sc__law_odd_view : FnScope ["draw", "view"] ["draw", "view"] (defScope s__law_odd_view) := ⟨rfl, rfl, rfl, by decide +kernel, rfl, by decide +kernel, by decide +kernel⟩
abbrev s__law_told : Stmt := topS 25
theorem sc__law_told : FnScope ["which", "one", "two"] ["which", "one", "two"] (defScope s__law_told) := ⟨rfl, rfl, rfl, by decide +kernel, rfl, by decide +kernel, by decide +kernel⟩
abbrev s_law : Stmt := topS 26
theorem sc_law : FnScope ["script", "draw", "turn", "many", "one", "two", "good", "least", "odd", "told", "other", "lesser", "which"] ["script"] (defScope s_law) := ⟨rfl, rfl, rfl, by decide +kernel, rfl, by decide +kernel, by decide +kernel⟩
/-- is_whole: value -/
noncomputable def b_is_whole : Sm := (sRet (vAnd (vIsi "int" (vVar 0)) (vNot (vIsi "bool" (vVar 0)))))
noncomputable def m_is_whole : List D → DSt → R D := defSem 1 1 b_is_whole
/-- is_view: value, label -/
noncomputable def b_is_view : Sm := (sSeq (sIf (tOr2 (tNot2 (tTru (vIsi "tuple" (vVar 0)))) (tNot2 (tBl (vChain leI leI (vC (.int 1)) (vCall lenB (aCons (vVar 0) aNil)) (vC (.int 6)))))) (sRet (vC (.bl false))) sPass) (sRet (vCall (boolsB fun bs => bs.all id) (aCons (vLc (iSeq (vVar 0)) (gN 1) tTrue (vAnd (vFn 0 1 m_is_whole (aCons (vVar 1) aNil)) (vChain leI leI (vC (.int 0)) (vVar 1) (vC (.int 9)))) [1]) aNil))))
noncomputable def m_is_view : List D → DSt → R D := defSem 1 2 b_is_view
/-- check_views: one, two -/
noncomputable def b_check_views : Sm := (sIf (tOr2 (tNot2 (tTru (vFn 0 1 m_is_view (aCons (vVar 0) aNil)))) (tOr2 (tNot2 (tTru (vFn 0 1 m_is_view (aCons (vVar 1) aNil)))) (tBl (vOp neO (vCall lenB (aCons (vVar 0) aNil)) (vCall lenB (aCons (vVar 1) aNil)))))) (sRaise "Malformed") sPass)
noncomputable def m_check_views : List D → DSt → R D := defSem 2 2 b_check_views
/-- does_tell: one, two, places, s, t -/
noncomputable def b_does_tell : Sm := (sSeq (sAsg (vRg1 .lst (vCall lenB (aCons (vVar 0) aNil))) (gN 2)) (sRet (vCall (boolsB fun bs => bs.all id) (aCons (vLc2 (iSeq (vVar 2)) (gN 3) tTrue (iSeq (vVar 2)) (gN 4) (tBl (vOp eqO (vOp ixO (vVar 0) (vVar 3)) (vOp ixO (vVar 0) (vVar 4)))) (vOp eqO (vOp ixO (vVar 1) (vVar 3)) (vOp ixO (vVar 1) (vVar 4))) [3, 4] [4]) aNil))))
noncomputable def m_does_tell : List D → DSt → R D := defSem 2 5 b_does_tell
/-- view_tells: one, two -/
noncomputable def b_view_tells : Sm := (sSeq (sExp (vFn 0 2 m_check_views (aCons (vVar 0) (aCons (vVar 1) aNil)))) (sRet (vFn 0 2 m_does_tell (aCons (vVar 0) (aCons (vVar 1) aNil)))))
noncomputable def m_view_tells : List D → DSt → R D := defSem 2 2 b_view_tells
/-- part_all: one, two -/
noncomputable def b_part_all : Sm := (sRet (vOp eqO (vOp lenZipO (vVar 0) (vVar 1)) (vCall lenB (aCons (vVar 0) aNil))))
noncomputable def m_part_all : List D → DSt → R D := defSem 2 2 b_part_all
/-- are_complements: one, two -/
noncomputable def b_are_complements : Sm := (sSeq (sExp (vFn 0 2 m_check_views (aCons (vVar 0) (aCons (vVar 1) aNil)))) (sRet (vFn 0 2 m_part_all (aCons (vVar 0) (aCons (vVar 1) aNil)))))
noncomputable def m_are_complements : List D → DSt → R D := defSem 2 2 b_are_complements
/-- plain_views: many, found, _, row, label -/
noncomputable def b_plain_views : Sm := (sSeq (sAsg (vLst (aCons (vTup aNil) aNil)) (gN 1)) (sSeq (sFor (iRange1 (vVar 0)) (gN 2) (sAsg (vLc2 (iSeq (vVar 1)) (gN 3) tTrue (iRange1 (vOp addO (vUn lenSetU (vVar 3)) (vC (.int 1)))) (gN 4) tTrue (vOp addO (vVar 3) (vTup (aCons (vVar 4) aNil))) [3, 4] [4]) (gN 1))) (sRet (vVar 1))))
noncomputable def m_plain_views : List D → DSt → R D := defSem 1 5 b_plain_views
/-- least_complements: view, good, found, other, lesser -/
noncomputable def b_least_complements : Sm := (sSeq (sExp (vFn 0 2 m_check_views (aCons (vVar 0) (aCons (vVar 0) aNil)))) (sSeq (sAsg (vLc (iSeq (vFn 0 1 m_plain_views (aCons (vCall lenB (aCons (vVar 0) aNil)) aNil))) (gN 3) (tTru (vFn 0 2 m_part_all (aCons (vVar 0) (aCons (vVar 3) aNil)))) (vVar 3) [3]) (gN 1)) (sSeq (sAsg (vLstM aNil) (gN 2)) (sSeq (sFor (iSeq (vVar 1)) (gN 3) (sIf (tNot2 (tTru (vCall (boolsB fun bs => bs.any id) (aCons (vLc (iSeq (vVar 1)) (gN 4) tTrue (vAnd (vOp neO (vVar 4) (vVar 3)) (vFn 0 2 m_does_tell (aCons (vVar 3) (aCons (vVar 4) aNil)))) [4]) aNil)))) (sExp (vMth appM (vVar 2) (aCons (vVar 3) aNil))) sPass)) (sRet (vCall tupB (aCons (vVar 2) aNil)))))))
noncomputable def m_least_complements : List D → DSt → R D := defSem 1 5 b_least_complements
/-- _law_draw: script, seed, cell -/
noncomputable def b__law_draw : Sm := (sSeq (sAsg (vC (.int 7)) (gN 1)) (sSeq (sFor (iSeq (vVar 0)) (gN 2) (sAsg (vOp modO (vCall intB (aCons (vOp addO (vOp addO (vOp mulO (vVar 1) (vC (.int 48271))) (vOp modO (vCall absB (aCons (vCall intB (aCons (vVar 2) aNil)) aNil)) (vC (.int 65521)))) (vC (.int 1))) aNil)) (vC (.int 2147483647))) (gN 1))) (sRet (vLstM (aCons (vLc (iSeq (vVar 0)) (gN 2) tTrue (vCall absB (aCons (vCall intB (aCons (vVar 2) aNil)) aNil)) [2]) (aCons (vUn negU (vC (.int 1))) (aCons (vC (.int 0)) (aCons (vVar 1) aNil))))))))
noncomputable def m__law_draw : List D → DSt → R D := defSemS 1 3 b__law_draw
/-- _law_take: draw, many, found -/
noncomputable def b__law_take : Sm := (sSeq (sIf (tBl (vOp eqO (vOp ixO (vVar 0) (vC (.int 2))) (vC (.int 0)))) (sSeq (sSetIx (vOp addO (vOp ixO (vVar 0) (vC (.int 1))) (vC (.int 1))) (vVar 0) (vC (.int 1))) (sSeq (sIf (tBl (vOp ltI (vOp ixO (vVar 0) (vC (.int 1))) (vCall lenB (aCons (vOp ixO (vVar 0) (vC (.int 0))) aNil)))) (sSetIx (vOp ixO (vOp ixO (vVar 0) (vC (.int 0))) (vOp ixO (vVar 0) (vC (.int 1)))) (vVar 0) (vC (.int 2))) sPass) (sIf (tBl (vOp eqO (vOp ixO (vVar 0) (vC (.int 2))) (vC (.int 0)))) (sSeq (sSetIx (vOp modO (vCall intB (aCons (vOp addO (vOp mulO (vOp ixO (vVar 0) (vC (.int 3))) (vC (.int 48271))) (vC (.int 11))) aNil)) (vC (.int 2147483647))) (vVar 0) (vC (.int 3))) (sSetIx (vOp ixO (vVar 0) (vC (.int 3))) (vVar 0) (vC (.int 2)))) sPass))) sPass) (sSeq (sAsg (vOp modO (vCall intB (aCons (vOp ixO (vVar 0) (vC (.int 2))) aNil)) (vVar 1)) (gN 2)) (sSeq (sSetIx (vOp fdivO (vOp ixO (vVar 0) (vC (.int 2))) (vVar 1)) (vVar 0) (vC (.int 2))) (sRet (vVar 2)))))
noncomputable def m__law_take : List D → DSt → R D := defSem 2 3 b__law_take
/-- _law_says: value, due -/
noncomputable def b__law_says : Sm := (sRet (vAnd (vIsi "bool" (vVar 0)) (vOp eqO (vVar 0) (vVar 1))))
noncomputable def m__law_says : List D → DSt → R D := defSem 2 2 b__law_says
/-- _law_view: draw, many, top, s -/
noncomputable def b__law_view : Sm := (sSeq (sAsg (vOp addO (vC (.int 1)) (vFn 1 2 m__law_take (aCons (vVar 0) (aCons (vC (.int 4)) aNil)))) (gN 2)) (sRet (vCall tupB (aCons (vLc (iRange1 (vVar 1)) (gN 3) tTrue (vFn 1 2 m__law_take (aCons (vVar 0) (aCons (vVar 2) aNil))) [3]) aNil))))
noncomputable def m__law_view : List D → DSt → R D := defSem 2 4 b__law_view
/-- _law_tells: one, two, places, t, s -/
noncomputable def b__law_tells : Sm := (sSeq (sAsg (vRg1 .lst (vCall lenB (aCons (vVar 0) aNil))) (gN 2)) (sRet (vNot (vCall (boolsB fun bs => bs.any id) (aCons (vLc (iSeq (vVar 2)) (gN 3) tTrue (vCall (boolsB fun bs => bs.any id) (aCons (vLc (iSeq (vVar 2)) (gN 4) tTrue (vAnd (vOp eqO (vOp ixO (vVar 0) (vVar 4)) (vOp ixO (vVar 0) (vVar 3))) (vOp neO (vOp ixO (vVar 1) (vVar 4)) (vOp ixO (vVar 1) (vVar 3)))) [4]) aNil)) [3]) aNil)))))
noncomputable def m__law_tells : List D → DSt → R D := defSem 2 5 b__law_tells
/-- _law_parts_all: one, two, places, t, s -/
noncomputable def b__law_parts_all : Sm := (sSeq (sAsg (vRg1 .lst (vCall lenB (aCons (vVar 0) aNil))) (gN 2)) (sRet (vNot (vCall (boolsB fun bs => bs.any id) (aCons (vLc (iSeq (vVar 2)) (gN 3) tTrue (vCall (boolsB fun bs => bs.any id) (aCons (vLc (iSeq (vVar 2)) (gN 4) tTrue (vAnd (vOp ltI (vVar 4) (vVar 3)) (vAnd (vOp eqO (vOp ixO (vVar 0) (vVar 4)) (vOp ixO (vVar 0) (vVar 3))) (vOp eqO (vOp ixO (vVar 1) (vVar 4)) (vOp ixO (vVar 1) (vVar 3))))) [4]) aNil)) [3]) aNil)))))
noncomputable def m__law_parts_all : List D → DSt → R D := defSem 2 5 b__law_parts_all
/-- _law_plain: many, found, s, longer, row, label -/
noncomputable def b__law_plain : Sm := (sSeq (sAsg (vLst (aCons (vTup aNil) aNil)) (gN 1)) (sSeq (sFor (iRange1 (vVar 0)) (gN 2) (sSeq (sAsg (vLst aNil) (gN 3)) (sSeq (sFor (iSeq (vVar 1)) (gN 4) (sAsg (vOp addO (vVar 3) (vLc (iRange1 (vOp addO (vCall maxB (aCons (vOp addO (vVar 4) (vTup (aCons (vUn negU (vC (.int 1))) aNil))) aNil)) (vC (.int 2)))) (gN 5) tTrue (vOp addO (vVar 4) (vTup (aCons (vVar 5) aNil))) [5])) (gN 3))) (sAsg (vVar 3) (gN 1))))) (sRet (vVar 1))))
noncomputable def m__law_plain : List D → DSt → R D := defSem 1 6 b__law_plain
/-- _law_odd_view: draw, view -/
noncomputable def b__law_odd_view : Sm := (sRet (vOp ixO (vLst (aCons (vC .non) (aCons (vTup aNil) (aCons (vC (.int 5)) (aCons (vCall lstB (aCons (vVar 1) aNil)) (aCons (vOp addO (vVar 1) (vTup (aCons (vC (.int 10)) aNil))) (aCons (vOp addO (vVar 1) (vTup (aCons (vUn negU (vC (.int 1))) aNil))) (aCons (vOp addO (vVar 1) (vTup (aCons (vC (.bl true)) aNil))) (aCons (vOp addO (vVar 1) (vTup (aCons (vC (.str "0")) aNil))) (aCons (vOp mulO (vTup (aCons (vC (.int 0)) aNil)) (vC (.int 7))) aNil)))))))))) (vFn 1 2 m__law_take (aCons (vVar 0) (aCons (vC (.int 9)) aNil)))))
noncomputable def m__law_odd_view : List D → DSt → R D := defSem 2 2 b__law_odd_view
/-- _law_told: which, one, two -/
noncomputable def b__law_told : Sm := (sTry (sSeq (sIf (tBl (vOp eqO (vVar 0) (vC (.int 0)))) (sRet (vFn 0 2 m_view_tells (aCons (vVar 1) (aCons (vVar 2) aNil)))) sPass) (sRet (vIf (tBl (vOp eqO (vVar 0) (vC (.int 1)))) (vFn 0 2 m_are_complements (aCons (vVar 1) (aCons (vVar 2) aNil))) (vFn 0 1 m_least_complements (aCons (vVar 1) aNil))))) (mtOne "Malformed") (sRet (vC (.str "<malformed>"))))
noncomputable def m__law_told : List D → DSt → R D := defSem 3 3 b__law_told
/-- law: script, draw, turn, many, one, two, good, least, odd, told, other, lesser, which -/
noncomputable def b_law : Sm := (sSeq (sAsg (vFnS 1 m__law_draw (aCons (vVar 0) aNil)) (gN 1)) (sSeq (sFor (iRange1 (vC (.int 2))) (gN 2) (sSeq (sAsg (vOp addO (vC (.int 1)) (vFn 1 2 m__law_take (aCons (vVar 1) (aCons (vC (.int 5)) aNil)))) (gN 3)) (sSeq (sAsg (vTup (aCons (vFn 1 2 m__law_view (aCons (vVar 1) (aCons (vVar 3) aNil))) (aCons (vFn 1 2 m__law_view (aCons (vVar 1) (aCons (vVar 3) aNil))) aNil))) (gT (gsCons (gN 4) (gsCons (gN 5) gsNil)))) (sSeq (sIf (tOr2 (tNot2 (tTru (vFn 0 2 m__law_says (aCons (vFn 0 2 m_view_tells (aCons (vVar 4) (aCons (vVar 5) aNil))) (aCons (vFn 0 2 m__law_tells (aCons (vVar 4) (aCons (vVar 5) aNil))) aNil))))) (tNot2 (tTru (vFn 0 2 m__law_says (aCons (vFn 0 2 m_are_complements (aCons (vVar 4) (aCons (vVar 5) aNil))) (aCons (vFn 0 2 m__law_parts_all (aCons (vVar 4) (aCons (vVar 5) aNil))) aNil)))))) (sRet (vC (.bl false))) sPass) (sSeq (sAsg (vLc (iSeq (vFn 0 1 m__law_plain (aCons (vVar 3) aNil))) (gN 10) (tTru (vFn 0 2 m__law_parts_all (aCons (vVar 4) (aCons (vVar 10) aNil)))) (vVar 10) [10]) (gN 6)) (sSeq (sAsg (vLc (iSeq (vVar 6)) (gN 10) (tNot2 (tTru (vCall (boolsB fun bs => bs.any id) (aCons (vLc (iSeq (vVar 6)) (gN 11) tTrue (vAnd (vOp neO (vVar 11) (vVar 10)) (vFn 0 2 m__law_tells (aCons (vVar 10) (aCons (vVar 11) aNil)))) [11]) aNil)))) (vVar 10) [10]) (gN 7)) (sSeq (sIf (tBl (vOp neO (vCall reprB (aCons (vFn 0 1 m_least_complements (aCons (vVar 4) aNil)) aNil)) (vCall reprB (aCons (vCall tupB (aCons (vCall sortB (aCons (vVar 7) aNil)) aNil)) aNil)))) (sRet (vC (.bl false))) sPass) (sIf (tAnd2 (tTru (vFn 0 2 m__law_parts_all (aCons (vVar 4) (aCons (vVar 5) aNil)))) (tNot2 (tTru (vCall (boolsB fun bs => bs.any id) (aCons (vLc (iSeq (vVar 7)) (gN 10) tTrue (vFn 0 2 m__law_tells (aCons (vVar 5) (aCons (vVar 10) aNil))) [10]) aNil))))) (sRet (vC (.bl false))) sPass)))))))) (sSeq (sAsg (vFn 1 2 m__law_odd_view (aCons (vVar 1) (aCons (vVar 4) aNil))) (gN 8)) (sSeq (sAsg (vOp addO (vLc (iRange1 (vC (.int 3))) (gN 12) tTrue (vFn 0 3 m__law_told (aCons (vVar 12) (aCons (vVar 8) (aCons (vVar 8) aNil)))) [12]) (vLc (iSeq (vTup (aCons (vC (.int 0)) (aCons (vC (.int 1)) aNil)))) (gN 12) tTrue (vFn 0 3 m__law_told (aCons (vVar 12) (aCons (vVar 4) (aCons (vVar 8) aNil)))) [12])) (gN 9)) (sRet (vOp eqO (vOp addO (vVar 9) (vLc (iSeq (vTup (aCons (vC (.int 0)) (aCons (vC (.int 1)) aNil)))) (gN 12) tTrue (vFn 0 3 m__law_told (aCons (vVar 12) (aCons (vVar 4) (aCons (vOp addO (vVar 4) (vTup (aCons (vC (.int 0)) aNil))) aNil)))) [12])) (vOp mulO (vLst (aCons (vC (.str "<malformed>")) aNil)) (vC (.int 7)))))))))
noncomputable def m_law : List D → DSt → R D := defSem 1 13 b_law
/-- what the text has written -/
structure Txt (K : PySem.W.Frag) (mg : Str → Option Value) : Prop where
  n_abs : mg "abs" = none
  n_all : mg "all" = none
  n_any : mg "any" = none
  n_bool : mg "bool" = none
  n_int : mg "int" = none
  n_isinstance : mg "isinstance" = none
  n_len : mg "len" = none
  n_list : mg "list" = none
  n_max : mg "max" = none
  n_range : mg "range" = none
  n_repr : mg "repr" = none
  n_set : mg "set" = none
  n_sorted : mg "sorted" = none
  n_tuple : mg "tuple" = none
  n_zip : mg "zip" = none
  c_MOST_LABEL : ∃ t, mg "MOST_LABEL" = some (.int 9 t)
  c_MOST_STATES : ∃ t, mg "MOST_STATES" = some (.int 6 t)
  x_Malformed : ExcIn K mg "Malformed"
  d_is_whole : DefIn K mg "is_whole" s_is_whole ["value"]
  d_is_view : DefIn K mg "is_view" s_is_view ["value"]
  d_check_views : DefIn K mg "check_views" s_check_views ["one", "two"]
  d_does_tell : DefIn K mg "does_tell" s_does_tell ["one", "two"]
  d_view_tells : DefIn K mg "view_tells" s_view_tells ["one", "two"]
  d_part_all : DefIn K mg "part_all" s_part_all ["one", "two"]
  d_are_complements : DefIn K mg "are_complements" s_are_complements ["one", "two"]
  d_plain_views : DefIn K mg "plain_views" s_plain_views ["many"]
  d_least_complements : DefIn K mg "least_complements" s_least_complements ["view"]
  d__law_draw : DefIn K mg "_law_draw" s__law_draw ["script"]
  d__law_take : DefIn K mg "_law_take" s__law_take ["draw", "many"]
  d__law_says : DefIn K mg "_law_says" s__law_says ["value", "due"]
  d__law_view : DefIn K mg "_law_view" s__law_view ["draw", "many"]
  d__law_tells : DefIn K mg "_law_tells" s__law_tells ["one", "two"]
  d__law_parts_all : DefIn K mg "_law_parts_all" s__law_parts_all ["one", "two"]
  d__law_plain : DefIn K mg "_law_plain" s__law_plain ["many"]
  d__law_odd_view : DefIn K mg "_law_odd_view" s__law_odd_view ["draw", "view"]
  d__law_told : DefIn K mg "_law_told" s__law_told ["which", "one", "two"]
  d_law : DefIn K mg "law" s_law ["script"]
section
variable {P : Program} {w : World} {K : PySem.W.Frag} {mg : Str → Option Value} {base : Heap}
theorem C_is_whole (T : Txt K mg) : Mean P w K mg base "is_whole" 1 1 m_is_whole := mean_of T.d_is_whole sc_is_whole rfl rfl fun cdv f A outer s H E G => (dss_one (ds_ret (de_and (de_isi (dv 0) isi_int T.n_isinstance T.n_int bb_int) (de_one (de_not (de_isi (dv 0) isi_bool T.n_isinstance T.n_bool bb_bool))))))
theorem C_is_view (T : Txt K mg) : Mean P w K mg base "is_view" 1 2 m_is_view := mean_of T.d_is_view sc_is_view rfl rfl fun cdv f A outer s H E G => (dss_cons (ds_if (dt_w (dw_or (dt_not (dt_tru (de_isi (dv 0) isi_tuple T.n_isinstance T.n_tuple bb_tuple))) (dw_or1 (dt_not (dt_chain o_le o_le de_int (de_b b_len T.n_len bb_len (da_cons (dv 0) da_nil)) (de_gint T.c_MOST_STATES)))))) (dss_one (ds_ret de_bl)) dss_nil) (dss_one (ds_ret (de_b (b_all G.calm) T.n_all bb_all (da_cons (de_lc (own := [("label", 1)]) G.calm G.nd (blkOk_by (by kernel_rfl)) (by decide) (di_seq (dv 0)) (fun s1 H1 C1 cl1 fp1 => (dg_name (G.blk s1 H1 _ _ fp1).nd)) (fun s1 H1 C1 cl1 fp1 => dts_nil) (fun s1 H1 C1 cl1 fp1 => (de_and (dcall 0 (G.blk s1 H1 _ _ fp1) (C_is_whole T) (by decide) (da_cons (dv 1) da_nil)) (de_one (de_chain o_le o_le de_int (dv 1) (de_gint T.c_MOST_LABEL)))))) da_nil)))))
theorem C_check_views (T : Txt K mg) : Mean P w K mg base "check_views" 2 3 m_check_views := mean_of T.d_check_views sc_check_views rfl rfl fun cdv f A outer s H E G => (dss_one (ds_if (dt_w (dw_or (dt_not (dt_tru (dcall 0 G (C_is_view T) (by decide) (da_cons (dv 0) da_nil)))) (dw_or (dt_not (dt_tru (dcall 0 G (C_is_view T) (by decide) (da_cons (dv 1) da_nil)))) (dw_or1 (dt_cmp (o_ne G.u64) (de_b b_len T.n_len bb_len (da_cons (dv 0) da_nil)) (de_b b_len T.n_len bb_len (da_cons (dv 1) da_nil))))))) (dss_one (ds_raiseM G T.x_Malformed)) dss_nil))
theorem C_does_tell (T : Txt K mg) : Mean P w K mg base "does_tell" 2 1 m_does_tell := mean_of T.d_does_tell sc_does_tell rfl rfl fun cdv f A outer s H E G => (dss_cons (ds_set (de_lstRg G.calm (de_b b_len T.n_len bb_len (da_cons (dv 0) da_nil)) T.n_list T.n_range) G.nd) (dss_one (ds_ret (de_b (b_all G.calm) T.n_all bb_all (da_cons (de_lc2 (own := [("s", 3), ("t", 4)]) (vs1 := [4]) G.calm G.nd (blkOk_by (by kernel_rfl)) (by decide) (by decide) (by decide) (di_seq (dv 2)) (fun s1 H1 C1 cl1 fp1 => (dg_name (G.blk s1 H1 _ _ fp1).nd)) (fun s1 H1 C1 cl1 fp1 => dts_nil) (fun s1 H1 C1 cl1 fp1 => (di_seq (dv 2))) (fun s1 H1 C1 cl1 fp1 => (dg_name (G.blk s1 H1 _ _ fp1).nd)) (fun s1 H1 C1 cl1 fp1 => (dts_one (dt_cmp (o_eq (G.blk s1 H1 _ _ fp1).u64) (de_ix o_ix (dv 0) (dv 3)) (de_ix o_ix (dv 0) (dv 4))))) (fun s1 H1 C1 cl1 fp1 => (de_cmp (o_eq (G.blk s1 H1 _ _ fp1).u64) (de_ix o_ix (dv 1) (dv 3)) (de_ix o_ix (dv 1) (dv 4))))) da_nil)))))
theorem C_view_tells (T : Txt K mg) : Mean P w K mg base "view_tells" 2 4 m_view_tells := mean_of T.d_view_tells sc_view_tells rfl rfl fun cdv f A outer s H E G => (dss_cons (ds_exp (dcall 0 G (C_check_views T) (by decide) (da_cons (dv 0) (da_cons (dv 1) da_nil)))) (dss_one (ds_ret (dcall 0 G (C_does_tell T) (by decide) (da_cons (dv 0) (da_cons (dv 1) da_nil))))))
theorem C_part_all (T : Txt K mg) : Mean P w K mg base "part_all" 2 1 m_part_all := mean_of T.d_part_all sc_part_all rfl rfl fun cdv f A outer s H E G => (dss_one (ds_ret (de_cmp (o_eq G.u64) (de_lenSetZip G (dv 0) (dv 1) T.n_len T.n_set T.n_list T.n_zip) (de_b b_len T.n_len bb_len (da_cons (dv 0) da_nil)))))
theorem C_are_complements (T : Txt K mg) : Mean P w K mg base "are_complements" 2 4 m_are_complements := mean_of T.d_are_complements sc_are_complements rfl rfl fun cdv f A outer s H E G => (dss_cons (ds_exp (dcall 0 G (C_check_views T) (by decide) (da_cons (dv 0) (da_cons (dv 1) da_nil)))) (dss_one (ds_ret (dcall 0 G (C_part_all T) (by decide) (da_cons (dv 0) (da_cons (dv 1) da_nil))))))
theorem C_plain_views (T : Txt K mg) : Mean P w K mg base "plain_views" 1 1 m_plain_views := mean_of T.d_plain_views sc_plain_views rfl rfl fun cdv f A outer s H E G => (dss_cons (ds_set (de_lst (da_cons (de_tup da_nil) da_nil)) G.nd) (dss_cons (ds_for G.po G.calm (di_range1 rfl T.n_range (dv 0)) (dg_name G.nd) (dss_one (ds_setLc2 (own := [("row", 3), ("label", 4)]) (vs1 := [4]) G.calm G.nd (blkOk_by (by kernel_rfl)) (by decide) (by decide) (by decide) (by rfl) (di_seq (dv 1)) (fun s1 H1 C1 cl1 fp1 => (dg_name (G.blk s1 H1 _ _ fp1).nd)) (fun s1 H1 C1 cl1 fp1 => dts_nil) (fun s1 H1 C1 cl1 fp1 => (di_range1 rfl T.n_range (de_op o_add (de_lenSet (G.blk s1 H1 _ _ fp1) (dv 3) T.n_len T.n_set) de_int))) (fun s1 H1 C1 cl1 fp1 => (dg_name (G.blk s1 H1 _ _ fp1).nd)) (fun s1 H1 C1 cl1 fp1 => dts_nil) (fun s1 H1 C1 cl1 fp1 => (de_op o_add (dv 3) (de_tup (da_cons (dv 4) da_nil))))))) (dss_one (ds_ret (dv 1)))))
theorem C_least_complements (T : Txt K mg) : Mean P w K mg base "least_complements" 1 4 m_least_complements := mean_of T.d_least_complements sc_least_complements rfl rfl fun cdv f A outer s H E G => (dss_cons (ds_exp (dcall 0 G (C_check_views T) (by decide) (da_cons (dv 0) (da_cons (dv 0) da_nil)))) (dss_cons (ds_setLc (own := [("other", 3)]) G.calm G.nd (blkOk_by (by kernel_rfl)) (by decide) (by rfl) (di_seq (dcall 0 G (C_plain_views T) (by decide) (da_cons (de_b b_len T.n_len bb_len (da_cons (dv 0) da_nil)) da_nil))) (fun s2 H2 C2 cl2 fp2 => (dg_name (G.blk s2 H2 _ _ fp2).nd)) (fun s2 H2 C2 cl2 fp2 => (dts_one (dt_tru (dcall 0 (G.blk s2 H2 _ _ fp2) (C_part_all T) (by decide) (da_cons (dv 0) (da_cons (dv 3) da_nil)))))) (fun s2 H2 C2 cl2 fp2 => (dv 3))) (dss_cons (ds_set (de_lstM da_nil) G.nd) (dss_cons (ds_for G.po G.calm (di_seq (dv 1)) (dg_name G.nd) (dss_one (ds_if (dt_not (dt_tru (de_b (b_any G.calm) T.n_any bb_any (da_cons (de_lc (own := [("lesser", 4)]) G.calm G.nd (blkOk_by (by kernel_rfl)) (by decide) (di_seq (dv 1)) (fun s1 H1 C1 cl1 fp1 => (dg_name (G.blk s1 H1 _ _ fp1).nd)) (fun s1 H1 C1 cl1 fp1 => dts_nil) (fun s1 H1 C1 cl1 fp1 => (de_and (de_cmp (o_ne (G.blk s1 H1 _ _ fp1).u64) (dv 4) (dv 3)) (de_one (dcall 0 (G.blk s1 H1 _ _ fp1) (C_does_tell T) (by decide) (da_cons (dv 3) (da_cons (dv 4) da_nil))))))) da_nil)))) (dss_one (ds_exp (de_append (dv 2) (da_cons (dv 3) da_nil)))) dss_nil))) (dss_one (ds_ret (de_bt b_tup T.n_tuple bb_tuple (da_cons (dv 2) da_nil))))))))
theorem C__law_draw (T : Txt K mg) : Mean P w K mg base "_law_draw" 1 1 m__law_draw := meanS_of T.d__law_draw sc__law_draw rfl rfl fun cdv f A outer s H E G => (dss_cons (ds_set de_int G.nd) (dss_cons (ds_for G.po G.calm (di_seq (dv 0)) (dg_name G.nd) (dss_one (ds_set (de_op o_mod (de_bt b_int T.n_int bb_int (da_cons (de_op o_add (de_op o_add (de_op o_mul (dv 1) de_int) (de_op o_mod (de_b b_abs T.n_abs bb_abs (da_cons (de_bt b_int T.n_int bb_int (da_cons (dv 2) da_nil)) da_nil)) de_int)) de_int) da_nil)) de_int) G.nd))) (dss_one (ds_ret (de_lstM (da_cons (de_lc (own := [("cell", 2)]) G.calm G.nd (blkOk_by (by kernel_rfl)) (by decide) (di_seq (dv 0)) (fun s1 H1 C1 cl1 fp1 => (dg_name (G.blk s1 H1 _ _ fp1).nd)) (fun s1 H1 C1 cl1 fp1 => dts_nil) (fun s1 H1 C1 cl1 fp1 => (de_b b_abs T.n_abs bb_abs (da_cons (de_bt b_int T.n_int bb_int (da_cons (dv 2) da_nil)) da_nil)))) (da_cons (de_un u_neg de_int) (da_cons de_int (da_cons (dv 1) da_nil)))))))))
theorem C__law_take (T : Txt K mg) : Mean P w K mg base "_law_take" 2 1 m__law_take := mean_of T.d__law_take sc__law_take rfl rfl fun cdv f A outer s H E G => (dss_cons (ds_if (dt_cmp (o_eq G.u64) (de_ix o_ix (dv 0) de_int) de_int) (dss_cons (ds_setix (de_op o_add (de_ix o_ix (dv 0) de_int) de_int) (dv 0) de_int) (dss_cons (ds_if (dt_cmp o_lt (de_ix o_ix (dv 0) de_int) (de_b b_len T.n_len bb_len (da_cons (de_ix o_ix (dv 0) de_int) da_nil))) (dss_one (ds_setix (de_ix o_ix (de_ix o_ix (dv 0) de_int) (de_ix o_ix (dv 0) de_int)) (dv 0) de_int)) dss_nil) (dss_one (ds_if (dt_cmp (o_eq G.u64) (de_ix o_ix (dv 0) de_int) de_int) (dss_cons (ds_setix (de_op o_mod (de_bt b_int T.n_int bb_int (da_cons (de_op o_add (de_op o_mul (de_ix o_ix (dv 0) de_int) de_int) de_int) da_nil)) de_int) (dv 0) de_int) (dss_one (ds_setix (de_ix o_ix (dv 0) de_int) (dv 0) de_int))) dss_nil)))) dss_nil) (dss_cons (ds_set (de_op o_mod (de_bt b_int T.n_int bb_int (da_cons (de_ix o_ix (dv 0) de_int) da_nil)) (dv 1)) G.nd) (dss_cons (ds_setix (de_op o_fdiv (de_ix o_ix (dv 0) de_int) (dv 1)) (dv 0) de_int) (dss_one (ds_ret (dv 2))))))
theorem C__law_says (T : Txt K mg) : Mean P w K mg base "_law_says" 2 1 m__law_says := mean_of T.d__law_says sc__law_says rfl rfl fun cdv f A outer s H E G => (dss_one (ds_ret (de_and (de_isi (dv 0) isi_bool T.n_isinstance T.n_bool bb_bool) (de_one (de_cmp (o_eq G.u64) (dv 0) (dv 1))))))
theorem C__law_view (T : Txt K mg) : Mean P w K mg base "_law_view" 2 2 m__law_view := mean_of T.d__law_view sc__law_view rfl rfl fun cdv f A outer s H E G => (dss_cons (ds_set (de_op o_add de_int (dcall 1 G (C__law_take T) (by decide) (da_cons (dv 0) (da_cons de_int da_nil)))) G.nd) (dss_one (ds_ret (de_bt b_tup T.n_tuple bb_tuple (da_cons (de_lc (own := [("s", 3)]) G.calm G.nd (blkOk_by (by kernel_rfl)) (by decide) (di_range1 rfl T.n_range (dv 1)) (fun s1 H1 C1 cl1 fp1 => (dg_name (G.blk s1 H1 _ _ fp1).nd)) (fun s1 H1 C1 cl1 fp1 => dts_nil) (fun s1 H1 C1 cl1 fp1 => (dcall 1 (G.blk s1 H1 _ _ fp1) (C__law_take T) (by decide) (da_cons (dv 0) (da_cons (dv 2) da_nil))))) da_nil)))))
theorem C__law_tells (T : Txt K mg) : Mean P w K mg base "_law_tells" 2 1 m__law_tells := mean_of T.d__law_tells sc__law_tells rfl rfl fun cdv f A outer s H E G => (dss_cons (ds_set (de_lstRg G.calm (de_b b_len T.n_len bb_len (da_cons (dv 0) da_nil)) T.n_list T.n_range) G.nd) (dss_one (ds_ret (de_not (de_b (b_any G.calm) T.n_any bb_any (da_cons (de_lc (own := [("t", 3)]) G.calm G.nd (blkOk_by (by kernel_rfl)) (by decide) (di_seq (dv 2)) (fun s1 H1 C1 cl1 fp1 => (dg_name (G.blk s1 H1 _ _ fp1).nd)) (fun s1 H1 C1 cl1 fp1 => dts_nil) (fun s1 H1 C1 cl1 fp1 => (de_b (b_any (G.blk s1 H1 _ _ fp1).calm) T.n_any bb_any (da_cons (de_lc (own := [("s", 4)]) (G.blk s1 H1 _ _ fp1).calm (G.blk s1 H1 _ _ fp1).nd (blkOk_by (by kernel_rfl)) (by decide) (di_seq (dv 2)) (fun s2 H2 C2 cl2 fp2 => (dg_name ((G.blk s1 H1 _ _ fp1).blk s2 H2 _ _ fp2).nd)) (fun s2 H2 C2 cl2 fp2 => dts_nil) (fun s2 H2 C2 cl2 fp2 => (de_and (de_cmp (o_eq ((G.blk s1 H1 _ _ fp1).blk s2 H2 _ _ fp2).u64) (de_ix o_ix (dv 0) (dv 4)) (de_ix o_ix (dv 0) (dv 3))) (de_one (de_cmp (o_ne ((G.blk s1 H1 _ _ fp1).blk s2 H2 _ _ fp2).u64) (de_ix o_ix (dv 1) (dv 4)) (de_ix o_ix (dv 1) (dv 3))))))) da_nil)))) da_nil))))))
theorem C__law_parts_all (T : Txt K mg) : Mean P w K mg base "_law_parts_all" 2 1 m__law_parts_all := mean_of T.d__law_parts_all sc__law_parts_all rfl rfl fun cdv f A outer s H E G => (dss_cons (ds_set (de_lstRg G.calm (de_b b_len T.n_len bb_len (da_cons (dv 0) da_nil)) T.n_list T.n_range) G.nd) (dss_one (ds_ret (de_not (de_b (b_any G.calm) T.n_any bb_any (da_cons (de_lc (own := [("t", 3)]) G.calm G.nd (blkOk_by (by kernel_rfl)) (by decide) (di_seq (dv 2)) (fun s1 H1 C1 cl1 fp1 => (dg_name (G.blk s1 H1 _ _ fp1).nd)) (fun s1 H1 C1 cl1 fp1 => dts_nil) (fun s1 H1 C1 cl1 fp1 => (de_b (b_any (G.blk s1 H1 _ _ fp1).calm) T.n_any bb_any (da_cons (de_lc (own := [("s", 4)]) (G.blk s1 H1 _ _ fp1).calm (G.blk s1 H1 _ _ fp1).nd (blkOk_by (by kernel_rfl)) (by decide) (di_seq (dv 2)) (fun s2 H2 C2 cl2 fp2 => (dg_name ((G.blk s1 H1 _ _ fp1).blk s2 H2 _ _ fp2).nd)) (fun s2 H2 C2 cl2 fp2 => dts_nil) (fun s2 H2 C2 cl2 fp2 => (de_and (de_cmp o_lt (dv 4) (dv 3)) (de_and (de_cmp (o_eq ((G.blk s1 H1 _ _ fp1).blk s2 H2 _ _ fp2).u64) (de_ix o_ix (dv 0) (dv 4)) (de_ix o_ix (dv 0) (dv 3))) (de_one (de_cmp (o_eq ((G.blk s1 H1 _ _ fp1).blk s2 H2 _ _ fp2).u64) (de_ix o_ix (dv 1) (dv 4)) (de_ix o_ix (dv 1) (dv 3)))))))) da_nil)))) da_nil))))))
theorem C__law_plain (T : Txt K mg) : Mean P w K mg base "_law_plain" 1 1 m__law_plain := mean_of T.d__law_plain sc__law_plain rfl rfl fun cdv f A outer s H E G => (dss_cons (ds_set (de_lst (da_cons (de_tup da_nil) da_nil)) G.nd) (dss_cons (ds_for G.po G.calm (di_range1 rfl T.n_range (dv 0)) (dg_name G.nd) (dss_cons (ds_set (de_lst da_nil) G.nd) (dss_cons (ds_for G.po G.calm (di_seq (dv 1)) (dg_name G.nd) (dss_one (ds_set (de_op o_add (dv 3) (de_lc (own := [("label", 5)]) G.calm G.nd (blkOk_by (by kernel_rfl)) (by decide) (di_range1 rfl T.n_range (de_op o_add (de_b (b_max G.calm G.u66) T.n_max bb_max (da_cons (de_op o_add (dv 4) (de_tup (da_cons (de_un u_neg de_int) da_nil))) da_nil)) de_int)) (fun s1 H1 C1 cl1 fp1 => (dg_name (G.blk s1 H1 _ _ fp1).nd)) (fun s1 H1 C1 cl1 fp1 => dts_nil) (fun s1 H1 C1 cl1 fp1 => (de_op o_add (dv 4) (de_tup (da_cons (dv 5) da_nil)))))) G.nd))) (dss_one (ds_set (dv 3) G.nd))))) (dss_one (ds_ret (dv 1)))))
theorem C__law_odd_view (T : Txt K mg) : Mean P w K mg base "_law_odd_view" 2 2 m__law_odd_view := mean_of T.d__law_odd_view sc__law_odd_view rfl rfl fun cdv f A outer s H E G => (dss_one (ds_ret (de_ix o_ix (de_lst (da_cons de_non (da_cons (de_tup da_nil) (da_cons de_int (da_cons (de_bt b_lst T.n_list bb_list (da_cons (dv 1) da_nil)) (da_cons (de_op o_add (dv 1) (de_tup (da_cons de_int da_nil))) (da_cons (de_op o_add (dv 1) (de_tup (da_cons (de_un u_neg de_int) da_nil))) (da_cons (de_op o_add (dv 1) (de_tup (da_cons de_bl da_nil))) (da_cons (de_op o_add (dv 1) (de_tup (da_cons de_str da_nil))) (da_cons (de_op o_mul (de_tup (da_cons de_int da_nil)) de_int) da_nil)))))))))) (dcall 1 G (C__law_take T) (by decide) (da_cons (dv 0) (da_cons de_int da_nil))))))
theorem C__law_told (T : Txt K mg) : Mean P w K mg base "_law_told" 3 5 m__law_told := mean_of T.d__law_told sc__law_told rfl rfl fun cdv f A outer s H E G => (dss_one (ds_tryM G rfl rfl T.x_Malformed (fun W1 pn1 xe1 G1 => (dss_cons (ds_if (dt_cmp (o_eq G1.u64) (dv 0) de_int) (dss_one (ds_ret (dcall 0 G1 (C_view_tells T) (by decide) (da_cons (dv 1) (da_cons (dv 2) da_nil))))) dss_nil) (dss_one (ds_ret (de_if (dt_cmp (o_eq G1.u64) (dv 0) de_int) (dcall 0 G1 (C_are_complements T) (by decide) (da_cons (dv 1) (da_cons (dv 2) da_nil))) (dcall 0 G1 (C_least_complements T) (by decide) (da_cons (dv 1) da_nil))))))) (fun a1 oe1 pq1 => (dss_one (ds_ret de_str)))))
theorem C_law (T : Txt K mg) : Mean P w K mg base "law" 1 6 m_law := mean_of T.d_law sc_law rfl rfl fun cdv f A outer s H E G => (dss_cons (ds_set (dcallS G (C__law_draw T) (by decide) (da_cons (dv 0) da_nil)) G.nd) (dss_cons (ds_for G.po G.calm (di_range1 rfl T.n_range de_int) (dg_name G.nd) (dss_cons (ds_set (de_op o_add de_int (dcall 1 G (C__law_take T) (by decide) (da_cons (dv 1) (da_cons de_int da_nil)))) G.nd) (dss_cons (ds_asg (de_tup (da_cons (dcall 1 G (C__law_view T) (by decide) (da_cons (dv 1) (da_cons (dv 3) da_nil))) (da_cons (dcall 1 G (C__law_view T) (by decide) (da_cons (dv 1) (da_cons (dv 3) da_nil))) da_nil))) (dg_tup G.calm (dgs_cons (dg_name G.nd) (dgs_cons (dg_name G.nd) dgs_nil)) (gsl_cons (gsl_cons gsl_nil)))) (dss_cons (ds_if (dt_w (dw_or (dt_not (dt_tru (dcall 0 G (C__law_says T) (by decide) (da_cons (dcall 0 G (C_view_tells T) (by decide) (da_cons (dv 4) (da_cons (dv 5) da_nil))) (da_cons (dcall 0 G (C__law_tells T) (by decide) (da_cons (dv 4) (da_cons (dv 5) da_nil))) da_nil))))) (dw_or1 (dt_not (dt_tru (dcall 0 G (C__law_says T) (by decide) (da_cons (dcall 0 G (C_are_complements T) (by decide) (da_cons (dv 4) (da_cons (dv 5) da_nil))) (da_cons (dcall 0 G (C__law_parts_all T) (by decide) (da_cons (dv 4) (da_cons (dv 5) da_nil))) da_nil)))))))) (dss_one (ds_ret de_bl)) dss_nil) (dss_cons (ds_set (de_lc (own := [("other", 10)]) G.calm G.nd (blkOk_by (by kernel_rfl)) (by decide) (di_seq (dcall 0 G (C__law_plain T) (by decide) (da_cons (dv 3) da_nil))) (fun s7 H7 C7 cl7 fp7 => (dg_name (G.blk s7 H7 _ _ fp7).nd)) (fun s7 H7 C7 cl7 fp7 => (dts_one (dt_tru (dcall 0 (G.blk s7 H7 _ _ fp7) (C__law_parts_all T) (by decide) (da_cons (dv 4) (da_cons (dv 10) da_nil)))))) (fun s7 H7 C7 cl7 fp7 => (dv 10))) G.nd) (dss_cons (ds_setLc (own := [("other", 10)]) G.calm G.nd (blkOk_by (by kernel_rfl)) (by decide) (by rfl) (di_seq (dv 6)) (fun s5 H5 C5 cl5 fp5 => (dg_name (G.blk s5 H5 _ _ fp5).nd)) (fun s5 H5 C5 cl5 fp5 => (dts_one (dt_not (dt_tru (de_b (b_any (G.blk s5 H5 _ _ fp5).calm) T.n_any bb_any (da_cons (de_lc (own := [("lesser", 11)]) (G.blk s5 H5 _ _ fp5).calm (G.blk s5 H5 _ _ fp5).nd (blkOk_by (by kernel_rfl)) (by decide) (di_seq (dv 6)) (fun s6 H6 C6 cl6 fp6 => (dg_name ((G.blk s5 H5 _ _ fp5).blk s6 H6 _ _ fp6).nd)) (fun s6 H6 C6 cl6 fp6 => dts_nil) (fun s6 H6 C6 cl6 fp6 => (de_and (de_cmp (o_ne ((G.blk s5 H5 _ _ fp5).blk s6 H6 _ _ fp6).u64) (dv 11) (dv 10)) (de_one (dcall 0 ((G.blk s5 H5 _ _ fp5).blk s6 H6 _ _ fp6) (C__law_tells T) (by decide) (da_cons (dv 10) (da_cons (dv 11) da_nil))))))) da_nil)))))) (fun s5 H5 C5 cl5 fp5 => (dv 10))) (dss_cons (ds_if (dt_cmp (o_ne G.u64) (de_b (b_repr G.gd G.u66) T.n_repr bb_repr (da_cons (dcall 0 G (C_least_complements T) (by decide) (da_cons (dv 4) da_nil)) da_nil)) (de_b (b_repr G.gd G.u66) T.n_repr bb_repr (da_cons (de_bt b_tup T.n_tuple bb_tuple (da_cons (de_b (b_sort G.u66) T.n_sorted bb_sorted (da_cons (dv 7) da_nil)) da_nil)) da_nil))) (dss_one (ds_ret de_bl)) dss_nil) (dss_one (ds_if (dt_w (dw_and (dt_tru (dcall 0 G (C__law_parts_all T) (by decide) (da_cons (dv 4) (da_cons (dv 5) da_nil)))) (dw_and1 (dt_not (dt_tru (de_b (b_any G.calm) T.n_any bb_any (da_cons (de_lc (own := [("other", 10)]) G.calm G.nd (blkOk_by (by kernel_rfl)) (by decide) (di_seq (dv 7)) (fun s4 H4 C4 cl4 fp4 => (dg_name (G.blk s4 H4 _ _ fp4).nd)) (fun s4 H4 C4 cl4 fp4 => dts_nil) (fun s4 H4 C4 cl4 fp4 => (dcall 0 (G.blk s4 H4 _ _ fp4) (C__law_tells T) (by decide) (da_cons (dv 5) (da_cons (dv 10) da_nil))))) da_nil))))))) (dss_one (ds_ret de_bl)) dss_nil))))))))) (dss_cons (ds_set (dcall 1 G (C__law_odd_view T) (by decide) (da_cons (dv 1) (da_cons (dv 4) da_nil))) G.nd) (dss_cons (ds_set (de_op o_add (de_lc (own := [("which", 12)]) G.calm G.nd (blkOk_by (by kernel_rfl)) (by decide) (di_range1 rfl T.n_range de_int) (fun s2 H2 C2 cl2 fp2 => (dg_name (G.blk s2 H2 _ _ fp2).nd)) (fun s2 H2 C2 cl2 fp2 => dts_nil) (fun s2 H2 C2 cl2 fp2 => (dcall 0 (G.blk s2 H2 _ _ fp2) (C__law_told T) (by decide) (da_cons (dv 12) (da_cons (dv 8) (da_cons (dv 8) da_nil)))))) (de_lc (own := [("which", 12)]) G.calm G.nd (blkOk_by (by kernel_rfl)) (by decide) (di_seq (de_tup (da_cons de_int (da_cons de_int da_nil)))) (fun s3 H3 C3 cl3 fp3 => (dg_name (G.blk s3 H3 _ _ fp3).nd)) (fun s3 H3 C3 cl3 fp3 => dts_nil) (fun s3 H3 C3 cl3 fp3 => (dcall 0 (G.blk s3 H3 _ _ fp3) (C__law_told T) (by decide) (da_cons (dv 12) (da_cons (dv 4) (da_cons (dv 8) da_nil))))))) G.nd) (dss_one (ds_ret (de_cmp (o_eq G.u64) (de_op o_add (dv 9) (de_lc (own := [("which", 12)]) G.calm G.nd (blkOk_by (by kernel_rfl)) (by decide) (di_seq (de_tup (da_cons de_int (da_cons de_int da_nil)))) (fun s1 H1 C1 cl1 fp1 => (dg_name (G.blk s1 H1 _ _ fp1).nd)) (fun s1 H1 C1 cl1 fp1 => dts_nil) (fun s1 H1 C1 cl1 fp1 => (dcall 0 (G.blk s1 H1 _ _ fp1) (C__law_told T) (by decide) (da_cons (dv 12) (da_cons (dv 4) (da_cons (de_op o_add (dv 4) (de_tup (da_cons de_int da_nil))) da_nil))))))) (de_op o_mul (de_lst (da_cons de_str da_nil)) de_int))))))))
theorem G_law (T : Txt K mg) {f : Addr} {fd : FuncData} (F : Fun K "law" "law" s_law f fd) : FnG P w K mg base 6 f fd ["script"] (spD K mg 1 m_law) := fn_def F sc_law rfl rfl fun cdv A outer s H E G => (dss_cons (ds_set (dcallS G (C__law_draw T) (by decide) (da_cons (dv 0) da_nil)) G.nd) (dss_cons (ds_for G.po G.calm (di_range1 rfl T.n_range de_int) (dg_name G.nd) (dss_cons (ds_set (de_op o_add de_int (dcall 1 G (C__law_take T) (by decide) (da_cons (dv 1) (da_cons de_int da_nil)))) G.nd) (dss_cons (ds_asg (de_tup (da_cons (dcall 1 G (C__law_view T) (by decide) (da_cons (dv 1) (da_cons (dv 3) da_nil))) (da_cons (dcall 1 G (C__law_view T) (by decide) (da_cons (dv 1) (da_cons (dv 3) da_nil))) da_nil))) (dg_tup G.calm (dgs_cons (dg_name G.nd) (dgs_cons (dg_name G.nd) dgs_nil)) (gsl_cons (gsl_cons gsl_nil)))) (dss_cons (ds_if (dt_w (dw_or (dt_not (dt_tru (dcall 0 G (C__law_says T) (by decide) (da_cons (dcall 0 G (C_view_tells T) (by decide) (da_cons (dv 4) (da_cons (dv 5) da_nil))) (da_cons (dcall 0 G (C__law_tells T) (by decide) (da_cons (dv 4) (da_cons (dv 5) da_nil))) da_nil))))) (dw_or1 (dt_not (dt_tru (dcall 0 G (C__law_says T) (by decide) (da_cons (dcall 0 G (C_are_complements T) (by decide) (da_cons (dv 4) (da_cons (dv 5) da_nil))) (da_cons (dcall 0 G (C__law_parts_all T) (by decide) (da_cons (dv 4) (da_cons (dv 5) da_nil))) da_nil)))))))) (dss_one (ds_ret de_bl)) dss_nil) (dss_cons (ds_set (de_lc (own := [("other", 10)]) G.calm G.nd (blkOk_by (by kernel_rfl)) (by decide) (di_seq (dcall 0 G (C__law_plain T) (by decide) (da_cons (dv 3) da_nil))) (fun s7 H7 C7 cl7 fp7 => (dg_name (G.blk s7 H7 _ _ fp7).nd)) (fun s7 H7 C7 cl7 fp7 => (dts_one (dt_tru (dcall 0 (G.blk s7 H7 _ _ fp7) (C__law_parts_all T) (by decide) (da_cons (dv 4) (da_cons (dv 10) da_nil)))))) (fun s7 H7 C7 cl7 fp7 => (dv 10))) G.nd) (dss_cons (ds_setLc (own := [("other", 10)]) G.calm G.nd (blkOk_by (by kernel_rfl)) (by decide) (by rfl) (di_seq (dv 6)) (fun s5 H5 C5 cl5 fp5 => (dg_name (G.blk s5 H5 _ _ fp5).nd)) (fun s5 H5 C5 cl5 fp5 => (dts_one (dt_not (dt_tru (de_b (b_any (G.blk s5 H5 _ _ fp5).calm) T.n_any bb_any (da_cons (de_lc (own := [("lesser", 11)]) (G.blk s5 H5 _ _ fp5).calm (G.blk s5 H5 _ _ fp5).nd (blkOk_by (by kernel_rfl)) (by decide) (di_seq (dv 6)) (fun s6 H6 C6 cl6 fp6 => (dg_name ((G.blk s5 H5 _ _ fp5).blk s6 H6 _ _ fp6).nd)) (fun s6 H6 C6 cl6 fp6 => dts_nil) (fun s6 H6 C6 cl6 fp6 => (de_and (de_cmp (o_ne ((G.blk s5 H5 _ _ fp5).blk s6 H6 _ _ fp6).u64) (dv 11) (dv 10)) (de_one (dcall 0 ((G.blk s5 H5 _ _ fp5).blk s6 H6 _ _ fp6) (C__law_tells T) (by decide) (da_cons (dv 10) (da_cons (dv 11) da_nil))))))) da_nil)))))) (fun s5 H5 C5 cl5 fp5 => (dv 10))) (dss_cons (ds_if (dt_cmp (o_ne G.u64) (de_b (b_repr G.gd G.u66) T.n_repr bb_repr (da_cons (dcall 0 G (C_least_complements T) (by decide) (da_cons (dv 4) da_nil)) da_nil)) (de_b (b_repr G.gd G.u66) T.n_repr bb_repr (da_cons (de_bt b_tup T.n_tuple bb_tuple (da_cons (de_b (b_sort G.u66) T.n_sorted bb_sorted (da_cons (dv 7) da_nil)) da_nil)) da_nil))) (dss_one (ds_ret de_bl)) dss_nil) (dss_one (ds_if (dt_w (dw_and (dt_tru (dcall 0 G (C__law_parts_all T) (by decide) (da_cons (dv 4) (da_cons (dv 5) da_nil)))) (dw_and1 (dt_not (dt_tru (de_b (b_any G.calm) T.n_any bb_any (da_cons (de_lc (own := [("other", 10)]) G.calm G.nd (blkOk_by (by kernel_rfl)) (by decide) (di_seq (dv 7)) (fun s4 H4 C4 cl4 fp4 => (dg_name (G.blk s4 H4 _ _ fp4).nd)) (fun s4 H4 C4 cl4 fp4 => dts_nil) (fun s4 H4 C4 cl4 fp4 => (dcall 0 (G.blk s4 H4 _ _ fp4) (C__law_tells T) (by decide) (da_cons (dv 5) (da_cons (dv 10) da_nil))))) da_nil))))))) (dss_one (ds_ret de_bl)) dss_nil))))))))) (dss_cons (ds_set (dcall 1 G (C__law_odd_view T) (by decide) (da_cons (dv 1) (da_cons (dv 4) da_nil))) G.nd) (dss_cons (ds_set (de_op o_add (de_lc (own := [("which", 12)]) G.calm G.nd (blkOk_by (by kernel_rfl)) (by decide) (di_range1 rfl T.n_range de_int) (fun s2 H2 C2 cl2 fp2 => (dg_name (G.blk s2 H2 _ _ fp2).nd)) (fun s2 H2 C2 cl2 fp2 => dts_nil) (fun s2 H2 C2 cl2 fp2 => (dcall 0 (G.blk s2 H2 _ _ fp2) (C__law_told T) (by decide) (da_cons (dv 12) (da_cons (dv 8) (da_cons (dv 8) da_nil)))))) (de_lc (own := [("which", 12)]) G.calm G.nd (blkOk_by (by kernel_rfl)) (by decide) (di_seq (de_tup (da_cons de_int (da_cons de_int da_nil)))) (fun s3 H3 C3 cl3 fp3 => (dg_name (G.blk s3 H3 _ _ fp3).nd)) (fun s3 H3 C3 cl3 fp3 => dts_nil) (fun s3 H3 C3 cl3 fp3 => (dcall 0 (G.blk s3 H3 _ _ fp3) (C__law_told T) (by decide) (da_cons (dv 12) (da_cons (dv 4) (da_cons (dv 8) da_nil))))))) G.nd) (dss_one (ds_ret (de_cmp (o_eq G.u64) (de_op o_add (dv 9) (de_lc (own := [("which", 12)]) G.calm G.nd (blkOk_by (by kernel_rfl)) (by decide) (di_seq (de_tup (da_cons de_int (da_cons de_int da_nil)))) (fun s1 H1 C1 cl1 fp1 => (dg_name (G.blk s1 H1 _ _ fp1).nd)) (fun s1 H1 C1 cl1 fp1 => dts_nil) (fun s1 H1 C1 cl1 fp1 => (dcall 0 (G.blk s1 H1 _ _ fp1) (C__law_told T) (by decide) (da_cons (dv 12) (da_cons (dv 4) (da_cons (de_op o_add (dv 4) (de_tup (da_cons de_int da_nil))) da_nil))))))) (de_op o_mul (de_lst (da_cons de_str da_nil)) de_int))))))))
end
theorem all_mk {P : Program} {w : World} {K : PySem.W.Frag} {h : Heap} {mg : Str → Option Value} {fa : Addr} (X : K.In h) (G : h.Ns mainGlobals mg) (hfa : mg "law" = some (.ref fa))
    {f0 : Addr} {oc0 kV0 doc0 pm0 cdv0 ct0 : Value} {od0 an0 : Option Addr} {osl0 : Array (Option Value)}
    {f1 : Addr} {oc1 kV1 doc1 pm1 cdv1 ct1 : Value} {od1 an1 : Option Addr} {osl1 : Array (Option Value)}
    {f2 : Addr} {oc2 kV2 doc2 pm2 cdv2 ct2 : Value} {od2 an2 : Option Addr} {osl2 : Array (Option Value)}
    {f3 : Addr} {oc3 kV3 doc3 pm3 cdv3 ct3 : Value} {od3 an3 : Option Addr} {osl3 : Array (Option Value)}
    {f4 : Addr} {oc4 kV4 doc4 pm4 cdv4 ct4 : Value} {od4 an4 : Option Addr} {osl4 : Array (Option Value)}
    {f5 : Addr} {oc5 kV5 doc5 pm5 cdv5 ct5 : Value} {od5 an5 : Option Addr} {osl5 : Array (Option Value)}
    {f6 : Addr} {oc6 kV6 doc6 pm6 cdv6 ct6 : Value} {od6 an6 : Option Addr} {osl6 : Array (Option Value)}
    {f7 : Addr} {oc7 kV7 doc7 pm7 cdv7 ct7 : Value} {od7 an7 : Option Addr} {osl7 : Array (Option Value)}
    {f8 : Addr} {oc8 kV8 doc8 pm8 cdv8 ct8 : Value} {od8 an8 : Option Addr} {osl8 : Array (Option Value)}
    {f9 : Addr} {oc9 kV9 doc9 pm9 cdv9 ct9 : Value} {od9 an9 : Option Addr} {osl9 : Array (Option Value)}
    {f10 : Addr} {oc10 kV10 doc10 pm10 cdv10 ct10 : Value} {od10 an10 : Option Addr} {osl10 : Array (Option Value)}
    {f11 : Addr} {oc11 kV11 doc11 pm11 cdv11 ct11 : Value} {od11 an11 : Option Addr} {osl11 : Array (Option Value)}
    {f12 : Addr} {oc12 kV12 doc12 pm12 cdv12 ct12 : Value} {od12 an12 : Option Addr} {osl12 : Array (Option Value)}
    {f13 : Addr} {oc13 kV13 doc13 pm13 cdv13 ct13 : Value} {od13 an13 : Option Addr} {osl13 : Array (Option Value)}
    {f14 : Addr} {oc14 kV14 doc14 pm14 cdv14 ct14 : Value} {od14 an14 : Option Addr} {osl14 : Array (Option Value)}
    {f15 : Addr} {oc15 kV15 doc15 pm15 cdv15 ct15 : Value} {od15 an15 : Option Addr} {osl15 : Array (Option Value)}
    {f16 : Addr} {oc16 kV16 doc16 pm16 cdv16 ct16 : Value} {od16 an16 : Option Addr} {osl16 : Array (Option Value)}
    {f17 : Addr} {oc17 kV17 doc17 pm17 cdv17 ct17 : Value} {od17 an17 : Option Addr} {osl17 : Array (Option Value)}
    {f18 : Addr} {oc18 kV18 doc18 pm18 cdv18 ct18 : Value} {od18 an18 : Option Addr} {osl18 : Array (Option Value)}
    {tc0 : Tok}
    {tc1 : Tok}
    {X0 : Addr}
    (a0 : PySem.W.nsIn K mainGlobals "is_whole" = some (some (.ref f0))) (l0 : K.lookup f0 = some ⟨oc0, od0, .func (PySem.W.fnOf "is_whole" "is_whole" (defArgs s_is_whole) (defBody s_is_whole) (defScope s_is_whole) .none kV0 doc0 pm0 an0 cdv0 ct0), osl0⟩) (c0 : PySem.W.codeIn K cdv0 "is_whole" = true) (k0 : PySem.W.keepIn K (.ref f0) = true)
    (a1 : PySem.W.nsIn K mainGlobals "is_view" = some (some (.ref f1))) (l1 : K.lookup f1 = some ⟨oc1, od1, .func (PySem.W.fnOf "is_view" "is_view" (defArgs s_is_view) (defBody s_is_view) (defScope s_is_view) .none kV1 doc1 pm1 an1 cdv1 ct1), osl1⟩) (c1 : PySem.W.codeIn K cdv1 "is_view" = true) (k1 : PySem.W.keepIn K (.ref f1) = true)
    (a2 : PySem.W.nsIn K mainGlobals "check_views" = some (some (.ref f2))) (l2 : K.lookup f2 = some ⟨oc2, od2, .func (PySem.W.fnOf "check_views" "check_views" (defArgs s_check_views) (defBody s_check_views) (defScope s_check_views) .none kV2 doc2 pm2 an2 cdv2 ct2), osl2⟩) (c2 : PySem.W.codeIn K cdv2 "check_views" = true) (k2 : PySem.W.keepIn K (.ref f2) = true)
    (a3 : PySem.W.nsIn K mainGlobals "does_tell" = some (some (.ref f3))) (l3 : K.lookup f3 = some ⟨oc3, od3, .func (PySem.W.fnOf "does_tell" "does_tell" (defArgs s_does_tell) (defBody s_does_tell) (defScope s_does_tell) .none kV3 doc3 pm3 an3 cdv3 ct3), osl3⟩) (c3 : PySem.W.codeIn K cdv3 "does_tell" = true) (k3 : PySem.W.keepIn K (.ref f3) = true)
    (a4 : PySem.W.nsIn K mainGlobals "view_tells" = some (some (.ref f4))) (l4 : K.lookup f4 = some ⟨oc4, od4, .func (PySem.W.fnOf "view_tells" "view_tells" (defArgs s_view_tells) (defBody s_view_tells) (defScope s_view_tells) .none kV4 doc4 pm4 an4 cdv4 ct4), osl4⟩) (c4 : PySem.W.codeIn K cdv4 "view_tells" = true) (k4 : PySem.W.keepIn K (.ref f4) = true)
    (a5 : PySem.W.nsIn K mainGlobals "part_all" = some (some (.ref f5))) (l5 : K.lookup f5 = some ⟨oc5, od5, .func (PySem.W.fnOf "part_all" "part_all" (defArgs s_part_all) (defBody s_part_all) (defScope s_part_all) .none kV5 doc5 pm5 an5 cdv5 ct5), osl5⟩) (c5 : PySem.W.codeIn K cdv5 "part_all" = true) (k5 : PySem.W.keepIn K (.ref f5) = true)
    (a6 : PySem.W.nsIn K mainGlobals "are_complements" = some (some (.ref f6))) (l6 : K.lookup f6 = some ⟨oc6, od6, .func (PySem.W.fnOf "are_complements" "are_complements" (defArgs s_are_complements) (defBody s_are_complements) (defScope s_are_complements) .none kV6 doc6 pm6 an6 cdv6 ct6), osl6⟩) (c6 : PySem.W.codeIn K cdv6 "are_complements" = true) (k6 : PySem.W.keepIn K (.ref f6) = true)
    (a7 : PySem.W.nsIn K mainGlobals "plain_views" = some (some (.ref f7))) (l7 : K.lookup f7 = some ⟨oc7, od7, .func (PySem.W.fnOf "plain_views" "plain_views" (defArgs s_plain_views) (defBody s_plain_views) (defScope s_plain_views) .none kV7 doc7 pm7 an7 cdv7 ct7), osl7⟩) (c7 : PySem.W.codeIn K cdv7 "plain_views" = true) (k7 : PySem.W.keepIn K (.ref f7) = true)
    (a8 : PySem.W.nsIn K mainGlobals "least_complements" = some (some (.ref f8))) (l8 : K.lookup f8 = some ⟨oc8, od8, .func (PySem.W.fnOf "least_complements" "least_complements" (defArgs s_least_complements) (defBody s_least_complements) (defScope s_least_complements) .none kV8 doc8 pm8 an8 cdv8 ct8), osl8⟩) (c8 : PySem.W.codeIn K cdv8 "least_complements" = true) (k8 : PySem.W.keepIn K (.ref f8) = true)
    (a9 : PySem.W.nsIn K mainGlobals "_law_draw" = some (some (.ref f9))) (l9 : K.lookup f9 = some ⟨oc9, od9, .func (PySem.W.fnOf "_law_draw" "_law_draw" (defArgs s__law_draw) (defBody s__law_draw) (defScope s__law_draw) .none kV9 doc9 pm9 an9 cdv9 ct9), osl9⟩) (c9 : PySem.W.codeIn K cdv9 "_law_draw" = true) (k9 : PySem.W.keepIn K (.ref f9) = true)
    (a10 : PySem.W.nsIn K mainGlobals "_law_take" = some (some (.ref f10))) (l10 : K.lookup f10 = some ⟨oc10, od10, .func (PySem.W.fnOf "_law_take" "_law_take" (defArgs s__law_take) (defBody s__law_take) (defScope s__law_take) .none kV10 doc10 pm10 an10 cdv10 ct10), osl10⟩) (c10 : PySem.W.codeIn K cdv10 "_law_take" = true) (k10 : PySem.W.keepIn K (.ref f10) = true)
    (a11 : PySem.W.nsIn K mainGlobals "_law_says" = some (some (.ref f11))) (l11 : K.lookup f11 = some ⟨oc11, od11, .func (PySem.W.fnOf "_law_says" "_law_says" (defArgs s__law_says) (defBody s__law_says) (defScope s__law_says) .none kV11 doc11 pm11 an11 cdv11 ct11), osl11⟩) (c11 : PySem.W.codeIn K cdv11 "_law_says" = true) (k11 : PySem.W.keepIn K (.ref f11) = true)
    (a12 : PySem.W.nsIn K mainGlobals "_law_view" = some (some (.ref f12))) (l12 : K.lookup f12 = some ⟨oc12, od12, .func (PySem.W.fnOf "_law_view" "_law_view" (defArgs s__law_view) (defBody s__law_view) (defScope s__law_view) .none kV12 doc12 pm12 an12 cdv12 ct12), osl12⟩) (c12 : PySem.W.codeIn K cdv12 "_law_view" = true) (k12 : PySem.W.keepIn K (.ref f12) = true)
    (a13 : PySem.W.nsIn K mainGlobals "_law_tells" = some (some (.ref f13))) (l13 : K.lookup f13 = some ⟨oc13, od13, .func (PySem.W.fnOf "_law_tells" "_law_tells" (defArgs s__law_tells) (defBody s__law_tells) (defScope s__law_tells) .none kV13 doc13 pm13 an13 cdv13 ct13), osl13⟩) (c13 : PySem.W.codeIn K cdv13 "_law_tells" = true) (k13 : PySem.W.keepIn K (.ref f13) = true)
    (a14 : PySem.W.nsIn K mainGlobals "_law_parts_all" = some (some (.ref f14))) (l14 : K.lookup f14 = some ⟨oc14, od14, .func (PySem.W.fnOf "_law_parts_all" "_law_parts_all" (defArgs s__law_parts_all) (defBody s__law_parts_all) (defScope s__law_parts_all) .none kV14 doc14 pm14 an14 cdv14 ct14), osl14⟩) (c14 : PySem.W.codeIn K cdv14 "_law_parts_all" = true) (k14 : PySem.W.keepIn K (.ref f14) = true)
    (a15 : PySem.W.nsIn K mainGlobals "_law_plain" = some (some (.ref f15))) (l15 : K.lookup f15 = some ⟨oc15, od15, .func (PySem.W.fnOf "_law_plain" "_law_plain" (defArgs s__law_plain) (defBody s__law_plain) (defScope s__law_plain) .none kV15 doc15 pm15 an15 cdv15 ct15), osl15⟩) (c15 : PySem.W.codeIn K cdv15 "_law_plain" = true) (k15 : PySem.W.keepIn K (.ref f15) = true)
    (a16 : PySem.W.nsIn K mainGlobals "_law_odd_view" = some (some (.ref f16))) (l16 : K.lookup f16 = some ⟨oc16, od16, .func (PySem.W.fnOf "_law_odd_view" "_law_odd_view" (defArgs s__law_odd_view) (defBody s__law_odd_view) (defScope s__law_odd_view) .none kV16 doc16 pm16 an16 cdv16 ct16), osl16⟩) (c16 : PySem.W.codeIn K cdv16 "_law_odd_view" = true) (k16 : PySem.W.keepIn K (.ref f16) = true)
    (a17 : PySem.W.nsIn K mainGlobals "_law_told" = some (some (.ref f17))) (l17 : K.lookup f17 = some ⟨oc17, od17, .func (PySem.W.fnOf "_law_told" "_law_told" (defArgs s__law_told) (defBody s__law_told) (defScope s__law_told) .none kV17 doc17 pm17 an17 cdv17 ct17), osl17⟩) (c17 : PySem.W.codeIn K cdv17 "_law_told" = true) (k17 : PySem.W.keepIn K (.ref f17) = true)
    (a18 : PySem.W.nsIn K mainGlobals "law" = some (some (.ref f18))) (l18 : K.lookup f18 = some ⟨oc18, od18, .func (PySem.W.fnOf "law" "law" (defArgs s_law) (defBody s_law) (defScope s_law) .none kV18 doc18 pm18 an18 cdv18 ct18), osl18⟩) (c18 : PySem.W.codeIn K cdv18 "law" = true) (k18 : PySem.W.keepIn K (.ref f18) = true)
    (z0 : PySem.W.nsIn K mainGlobals "abs" = some none)
    (z1 : PySem.W.nsIn K mainGlobals "all" = some none)
    (z2 : PySem.W.nsIn K mainGlobals "any" = some none)
    (z3 : PySem.W.nsIn K mainGlobals "bool" = some none)
    (z4 : PySem.W.nsIn K mainGlobals "int" = some none)
    (z5 : PySem.W.nsIn K mainGlobals "isinstance" = some none)
    (z6 : PySem.W.nsIn K mainGlobals "len" = some none)
    (z7 : PySem.W.nsIn K mainGlobals "list" = some none)
    (z8 : PySem.W.nsIn K mainGlobals "max" = some none)
    (z9 : PySem.W.nsIn K mainGlobals "range" = some none)
    (z10 : PySem.W.nsIn K mainGlobals "repr" = some none)
    (z11 : PySem.W.nsIn K mainGlobals "set" = some none)
    (z12 : PySem.W.nsIn K mainGlobals "sorted" = some none)
    (z13 : PySem.W.nsIn K mainGlobals "tuple" = some none)
    (z14 : PySem.W.nsIn K mainGlobals "zip" = some none)
    (y0 : PySem.W.nsIn K mainGlobals "MOST_LABEL" = some (some (.int 9 tc0)))
    (y1 : PySem.W.nsIn K mainGlobals "MOST_STATES" = some (some (.int 6 tc1)))
    (xa0 : PySem.W.nsIn K mainGlobals "Malformed" = some (some (.ref X0))) (xe0 : PySem.W.excIn K X0 [.type "ValueError", .type "Exception", .type "BaseException", .type "object"] "ValueError.__new__" = true) (xk0 : PySem.W.keepIn K (.ref X0) = true) (xb0 : PySem.W.subIn K (.ref X0) (.type "BaseException") = some true) (xt0 : PySem.W.typeIn K (.ref X0) = some (.type "type")) (xi0 : PySem.W.isClsIn K X0 = true) (xs0 : PySem.W.subIn K (.ref X0) (.ref X0) = some true) :
    ∃ fd : FuncData, (∀ (s : Shared) (v : Value), BindsTo s fd ⟨[v], []⟩ [("script", v)]) ∧ ∀ base : Heap, K.In base → base.Ns mainGlobals mg → FnG P w K mg base 6 fa fd ["script"] (spD K mg 1 m_law) := by
  have e := hfa.symm.trans (PySem.W.mg_of X G a18)
  cases e
  have T : Txt K mg := {
    d_is_whole := defIn_mk X G a0 l0 c0 k0 fun _ _ _ _ _ _ us hl => match us, hl with | [_], _ => rfl,
    d_is_view := defIn_mk X G a1 l1 c1 k1 fun _ _ _ _ _ _ us hl => match us, hl with | [_], _ => rfl,
    d_check_views := defIn_mk X G a2 l2 c2 k2 fun _ _ _ _ _ _ us hl => match us, hl with | [_, _], _ => rfl,
    d_does_tell := defIn_mk X G a3 l3 c3 k3 fun _ _ _ _ _ _ us hl => match us, hl with | [_, _], _ => rfl,
    d_view_tells := defIn_mk X G a4 l4 c4 k4 fun _ _ _ _ _ _ us hl => match us, hl with | [_, _], _ => rfl,
    d_part_all := defIn_mk X G a5 l5 c5 k5 fun _ _ _ _ _ _ us hl => match us, hl with | [_, _], _ => rfl,
    d_are_complements := defIn_mk X G a6 l6 c6 k6 fun _ _ _ _ _ _ us hl => match us, hl with | [_, _], _ => rfl,
    d_plain_views := defIn_mk X G a7 l7 c7 k7 fun _ _ _ _ _ _ us hl => match us, hl with | [_], _ => rfl,
    d_least_complements := defIn_mk X G a8 l8 c8 k8 fun _ _ _ _ _ _ us hl => match us, hl with | [_], _ => rfl,
    d__law_draw := defIn_mk X G a9 l9 c9 k9 fun _ _ _ _ _ _ us hl => match us, hl with | [_], _ => rfl,
    d__law_take := defIn_mk X G a10 l10 c10 k10 fun _ _ _ _ _ _ us hl => match us, hl with | [_, _], _ => rfl,
    d__law_says := defIn_mk X G a11 l11 c11 k11 fun _ _ _ _ _ _ us hl => match us, hl with | [_, _], _ => rfl,
    d__law_view := defIn_mk X G a12 l12 c12 k12 fun _ _ _ _ _ _ us hl => match us, hl with | [_, _], _ => rfl,
    d__law_tells := defIn_mk X G a13 l13 c13 k13 fun _ _ _ _ _ _ us hl => match us, hl with | [_, _], _ => rfl,
    d__law_parts_all := defIn_mk X G a14 l14 c14 k14 fun _ _ _ _ _ _ us hl => match us, hl with | [_, _], _ => rfl,
    d__law_plain := defIn_mk X G a15 l15 c15 k15 fun _ _ _ _ _ _ us hl => match us, hl with | [_], _ => rfl,
    d__law_odd_view := defIn_mk X G a16 l16 c16 k16 fun _ _ _ _ _ _ us hl => match us, hl with | [_, _], _ => rfl,
    d__law_told := defIn_mk X G a17 l17 c17 k17 fun _ _ _ _ _ _ us hl => match us, hl with | [_, _, _], _ => rfl,
    d_law := defIn_mk X G a18 l18 c18 k18 fun _ _ _ _ _ _ us hl => match us, hl with | [_], _ => rfl,
    n_abs := PySem.W.mg_none_of X G z0,
    n_all := PySem.W.mg_none_of X G z1,
    n_any := PySem.W.mg_none_of X G z2,
    n_bool := PySem.W.mg_none_of X G z3,
    n_int := PySem.W.mg_none_of X G z4,
    n_isinstance := PySem.W.mg_none_of X G z5,
    n_len := PySem.W.mg_none_of X G z6,
    n_list := PySem.W.mg_none_of X G z7,
    n_max := PySem.W.mg_none_of X G z8,
    n_range := PySem.W.mg_none_of X G z9,
    n_repr := PySem.W.mg_none_of X G z10,
    n_set := PySem.W.mg_none_of X G z11,
    n_sorted := PySem.W.mg_none_of X G z12,
    n_tuple := PySem.W.mg_none_of X G z13,
    n_zip := PySem.W.mg_none_of X G z14,
    c_MOST_LABEL := ⟨_, PySem.W.mg_of X G y0⟩,
    c_MOST_STATES := ⟨_, PySem.W.mg_of X G y1⟩,
    x_Malformed := excIn_mk X G xa0 xe0 xk0 xb0 xt0 xi0 xs0 }
  exact ⟨PySem.W.fnOf "law" "law" (defArgs s_law) (defBody s_law) (defScope s_law) .none kV18 doc18 pm18 an18 cdv18 ct18, fun s v => .of_eq rfl, fun base _ _ => G_law T (fun_mk (st := s_law) l18 c18 k18)⟩
end Lw
end

section
set_option Elab.async false
set_option linter.all false
set_option maxRecDepth 100000
namespace Lw
open PySem DL
theorem whole_of (d : D) (h : d.under 0 = true) : m_is_whole [d] [] = some (.ok (.bl (isInt d)) []) := by
  refine def_rt rfl rfl ?_
  cases d <;> simp [b_is_whole, sRet, sb, vAnd, vIsi, vUn, vVar, vNot, isiD, typD, blD, lift, isInt]
/-- labels that may stand in a view -/
def okL : D → Bool
  | .int i => decide (0 ≤ i ∧ i ≤ 9)
  | _ => false
theorem view_tup (ds : List D) (hu : D.unders 0 ds = true) : m_is_view [.tup ds] [] = some (.ok (.bl (decide (1 ≤ ds.length ∧ ds.length ≤ 6) && ds.all okL)) []) := by
  refine def_rt rfl rfl ?_
  have lc : vLc (iSeq (vVar 0)) (gN 1) tTrue (vAnd (vFn 0 1 m_is_whole (aCons (vVar 1) aNil)) (vChain leI leI (vC (.int 0)) (vVar 1) (vC (.int 9)))) [1] [some (.tup ds), none] [] = some (.ok (.lst (ds.map fun d => D.bl (okL d))) []) := by
    have z : ds.map id = ds := List.map_id ds
    refine vLc_map (as := ds) (e := id) (it := .seq (.tup ds)) (by simp [iSeq, vVar, seqOf]) (by simp [ItD.items, seqOf]) fun d hd => ?_
    have du : d.under 0 = true := unders_mem hu d hd
    have e1 : vFn 0 1 m_is_whole (aCons (vVar 1) aNil) [some (.tup ds), some d] [] = some (.ok (.bl (isInt d)) []) :=
      vFn0 (ds := [d]) (by simp [aCons, aNil, vVar]) rfl (by simp [du]) rfl (whole_of d du)
    simp only [lcStep, gN, tTrue, wipeE_cons, wipeE_nil, id]
    simp [vAnd, e1, blD]
    cases d <;> simp [okL, vChain, vC, vVar, iiO, lift, isInt]
    rename_i i
    by_cases h0 : 0 ≤ i <;> simp [h0]
  have e1 : ((1 : Int) ≤ ds.length) ↔ 1 ≤ ds.length := by omega
  have e2 : ((ds.length : Int) ≤ 6) ↔ ds.length ≤ 6 := by omega
  simp only [b_is_view, sSeq, sIf, tOr2, tNot2, tTru, vIsi, vUn, vVar, isiD, typD, bnd_ok, lift_some, truD, tBl, vChain, vC, vCall, aCons, aNil, lenB, seqOf, sb, sRet, sPass, List.map_cons, List.map_nil, List.length_cons, List.length_nil, List.cons_append, List.nil_append, List.replicate]
  simp only [List.getElem?_cons_zero, bnd_ok, lift_some, Option.map_some, truD]
  simp [iiO, blD, lc]
  by_cases h1 : 1 ≤ ds.length
  · by_cases h2 : ds.length ≤ 6
    · simp [e1, e2, h1, h2, lc, List.all_map, lift]
    · simp [e1, e2, h1, h2, lc]
  · simp [e1, e2, h1, lc]
theorem view_not {d : D} (h : d.under 0 = true) (hd : ∀ xs, d ≠ .tup xs) : m_is_view [d] [] = some (.ok (.bl false) []) := by
  refine def_rt rfl rfl ?_
  cases d with
  | tup xs => exact absurd rfl (hd xs)
  | _ => simp [b_is_view, sSeq, sIf, tOr2, tNot2, tTru, vIsi, vUn, vVar, isiD, typD, truD, sb, sRet, vC]
def okView (l : List Int) : Bool := decide (1 ≤ l.length ∧ l.length ≤ 6) && l.all fun x => decide (0 ≤ x ∧ x ≤ 9)
theorem view_tI (l : List Int) : m_is_view [tI l] [] = some (.ok (.bl (okView l)) []) := by
  rw [view_tup _ (unders_ints 0 l), List.length_map, List.all_map]
  rfl
theorem view_any {d : D} (h : d.under 0 = true) : ∃ b, m_is_view [d] [] = some (.ok (.bl b) []) := by
  cases d with
  | tup xs => exact ⟨_, view_tup xs h⟩
  | _ => exact ⟨false, view_not h fun _ z => nomatch z⟩
theorem check_ok {a b : List Int} (ha : okView a = true) (hb : okView b = true) (hl : a.length = b.length) : m_check_views [tI a, tI b] [] = some (.ok .non []) := by
  refine def_nx (ρ := [some (tI a), some (tI b)]) rfl ?_
  have v0 : tTru (vFn 0 1 m_is_view (aCons (vVar 0) aNil)) [some (tI a), some (tI b)] [] = some (.ok true []) := tTru_bl (vFn0 (ds := [tI a]) (by simp [aCons, aNil, vVar]) rfl (by simp) rfl (by rw [view_tI, ha]))
  have v1 : tTru (vFn 0 1 m_is_view (aCons (vVar 1) aNil)) [some (tI a), some (tI b)] [] = some (.ok true []) := tTru_bl (vFn0 (ds := [tI b]) (by simp [aCons, aNil, vVar]) rfl (by simp) rfl (by rw [view_tI, hb]))
  show b_check_views [some (tI a), some (tI b)] [] = _
  simp [b_check_views, sIf, tOr2, tNot2, v0, v1, sb, tBl, vOp, vCall, aCons, aNil, vVar, lenB, seqOf, blD, hl, sPass]
/-- the way out -/
abbrev bad : Exn := ⟨"Malformed", []⟩
theorem check_bad {d e : D} (hd : d.under 0 = true) (he : e.under 0 = true) (h : m_is_view [d] [] = some (.ok (.bl false) []) ∨ m_is_view [e] [] = some (.ok (.bl false) []) ∨ ∃ xs ys, d = .tup xs ∧ e = .tup ys ∧ xs.length ≠ ys.length) : m_check_views [d, e] [] = some (.ex bad []) := by
  refine def_ex (ρ := [some d, some e]) rfl rfl ?_
  obtain ⟨b1, h1⟩ := view_any hd
  obtain ⟨b2, h2⟩ := view_any he
  have v0 : tTru (vFn 0 1 m_is_view (aCons (vVar 0) aNil)) [some d, some e] [] = some (.ok b1 []) := tTru_bl (vFn0 (ds := [d]) (by simp [aCons, aNil, vVar]) rfl (by simp [hd]) rfl h1)
  have v1 : tTru (vFn 0 1 m_is_view (aCons (vVar 1) aNil)) [some d, some e] [] = some (.ok b2 []) := tTru_bl (vFn0 (ds := [e]) (by simp [aCons, aNil, vVar]) rfl (by simp [he]) rfl h2)
  show b_check_views [some d, some e] [] = _
  rcases h with h | h | ⟨xs, ys, rfl, rfl, hn⟩
  · rw [h1] at h
    cases h
    simp [b_check_views, sIf, tOr2, tNot2, v0, sb, sRaise]
  · rw [h2] at h
    cases h
    cases b1 <;> simp [b_check_views, sIf, tOr2, tNot2, v0, v1, sb, sRaise]
  · have hn' : ¬ ((xs.length : Int) = ys.length) := by omega
    cases b1 <;> cases b2 <;> simp [b_check_views, sIf, tOr2, tNot2, v0, v1, sb, sRaise, tBl, vOp, vCall, aCons, aNil, vVar, lenB, seqOf, blD, hn']
end Lw
end

section
set_option Elab.async false
set_option linter.all false
set_option maxRecDepth 100000
namespace Lw
open PySem DL L2
theorem rg0 (n : Nat) : rgD 0 (n : Int) = (List.range n).map fun i : Nat => D.int (i : Int) := by
  unfold rgD
  have e : ((n : Int) - 0).toNat = n := by omega
  rw [e]
  exact List.map_congr_left fun i _ => by rw [Int.zero_add]
theorem ix_tI {l : List Int} {i : Nat} (h : i < l.length) (M : DSt) : ixO (tI l) (.int (i : Int)) M = some (.int (l.getD i 0)) := by
  have e : (l.map D.int)[i]? = some (.int (l.getD i 0)) := by
    rw [List.getElem?_map, List.getElem?_eq_getElem h, List.getD_eq_getElem?_getD, List.getElem?_eq_getElem h]
    rfl
  exact atI_nat e
theorem places {fa : Dm D} {ρ : DEnv} {M : DSt} {ds : List D} (h : fa ρ M = some (.ok (.tup ds) M)) (hl : ds.length ≤ 1000000) : vRg1 .lst (vCall lenB (aCons fa aNil)) ρ M = some (.ok (.lst ((List.range ds.length).map fun i : Nat => D.int (i : Int))) M) := by
  have e : vCall lenB (aCons fa aNil) ρ M = some (.ok (.int ds.length) M) := vCall_of (a1_of h) rfl
  unfold vRg1
  rw [e, bnd_ok]
  have hz : rgOk 0 (ds.length : Int) = true := by
    unfold rgOk
    rw [decide_eq_true_eq]
    omega
  show (if rgOk 0 (ds.length : Int) = true then some (Out.ok (D.lst (rgD 0 ds.length)) M) else none) = _
  rw [if_pos hz, rg0]
/-- b is told by a -/
def tell (a b : List Int) : Bool := (List.range a.length).all fun s => (List.range a.length).all fun t => !(decide (a.getD s 0 = a.getD t 0)) || decide (b.getD s 0 = b.getD t 0)
theorem all_flat {α β : Type} (l : List α) (f : α → List β) (p : β → Bool) : (l.flatMap f).all p = l.all fun a => (f a).all p := by
  induction l with
  | nil => rfl
  | cons x l ih => rw [List.flatMap_cons, List.all_append, ih, List.all_cons]
theorem does_tell_of {a b : List Int} (hl : a.length = b.length) (hz : a.length ≤ 100) : m_does_tell [tI a, tI b] [] = some (.ok (.bl (tell a b)) []) := by
  refine def_rt rfl rfl ?_
  show b_does_tell [some (tI a), some (tI b), none, none, none] [] = _
  unfold b_does_tell
  rw [sSeq_nx (sAsg_of (places (ds := a.map D.int) (by simp [vVar]) (by rw [List.length_map]; omega)))]
  refine sRet_of ?_
  rw [List.length_map]
  simp only [List.set_cons_succ, List.set_cons_zero]
  have inner : vLc2 (iSeq (vVar 2)) (gN 3) tTrue (iSeq (vVar 2)) (gN 4) (tBl (vOp eqO (vOp ixO (vVar 0) (vVar 3)) (vOp ixO (vVar 0) (vVar 4)))) (vOp eqO (vOp ixO (vVar 1) (vVar 3)) (vOp ixO (vVar 1) (vVar 4))) [3, 4] [4]
      [some (tI a), some (tI b), some (.lst ((List.range a.length).map fun i : Nat => D.int (i : Int))), none, none] [] =
      some (.ok (.lst ((List.range a.length).flatMap fun s => ((List.range a.length).filter fun t => decide (a.getD s 0 = a.getD t 0)).map fun t => D.bl (decide (b.getD s 0 = b.getD t 0)))) []) := by
    refine vLc2_typed (as := List.range a.length) (bs := fun _ => List.range a.length) (e := fun i : Nat => D.int (i : Int)) (e1 := fun i : Nat => D.int (i : Int)) (it := .seq (.lst ((List.range a.length).map fun i : Nat => D.int (i : Int)))) (it1 := fun _ => .seq (.lst ((List.range a.length).map fun i : Nat => D.int (i : Int))))
      (by simp [iSeq, vVar, seqOf]) (by simp [ItD.items, seqOf]) (fun s hs => ?_) (fun _ _ => by rw [List.length_range]; omega) (by rw [List.length_range]; omega)
    have hs' := List.mem_range.mp hs
    refine ⟨_, rfl, rfl, by simp [iSeq, vVar, seqOf, wipeE], by simp [ItD.items, seqOf], fun t ht => ?_⟩
    have ht' := List.mem_range.mp ht
    simp only [lcStep, gN, wipeE_cons, wipeE_nil]
    simp [tBl, vOp, vVar, ix_tI hs', ix_tI ht', ix_tI (l := b) (i := s) (by omega), ix_tI (l := b) (i := t) (by omega), blD]
    by_cases h : a[s]?.getD 0 = a[t]?.getD 0 <;> simp [h]
  have e2 : ((List.range a.length).flatMap fun s => ((List.range a.length).filter fun t => decide (a.getD s 0 = a.getD t 0)).map fun t => D.bl (decide (b.getD s 0 = b.getD t 0))) =
      ((List.range a.length).flatMap fun s => ((List.range a.length).filter fun t => decide (a.getD s 0 = a.getD t 0)).map fun t => decide (b.getD s 0 = b.getD t 0)).map D.bl := by
    rw [List.map_flatMap]
    refine flat_congr fun s _ => ?_
    rw [List.map_map]
    rfl
  rw [e2] at inner
  refine vCall_of (a1_of inner) ?_
  rw [boolsB_map, all_flat]
  unfold tell
  congr 2
  refine congrArg (fun f => (List.range a.length).all f) (funext fun s => ?_)
  rw [List.all_map, List.all_filter]
  refine congrArg (fun f => (List.range a.length).all f) (funext fun t => ?_)
  by_cases h : a.getD s 0 = a.getD t 0 <;> simp [h]
end Lw
end

section
set_option Elab.async false
set_option linter.all false
set_option maxRecDepth 100000
namespace Lw
open PySem DL L2
theorem tell_iff {a b : List Int} : tell a b = true ↔ ∀ s < a.length, ∀ t < a.length, a.getD s 0 = a.getD t 0 → b.getD s 0 = b.getD t 0 := by
  unfold tell
  simp only [List.all_eq_true, List.mem_range, Bool.or_eq_true, Bool.not_eq_true', decide_eq_false_iff_not, decide_eq_true_eq]
  constructor
  · intro h s hs t ht e
    rcases h s hs t ht with k | k
    · exact absurd e k
    · exact k
  · intro h s hs t ht
    by_cases e : a.getD s 0 = a.getD t 0
    · exact .inr (h s hs t ht e)
    · exact .inl e
/-- the turns over two ranges, one in the other -/
theorem any_any {n : Nat} {fe : Dm D} {ρ : DEnv} {g : Nat → Nat → Bool} (h2 : ρ[2]? = some (some (.lst ((List.range n).map fun i : Nat => D.int (i : Int))))) (h5 : ρ.length = 5)
    (hf : ∀ t < n, ∀ s < n, fe (((ρ.set 3 none).set 3 (some (.int (t : Int)))).set 4 none |>.set 4 (some (.int (s : Int)))) [] = some (.ok (.bl (g t s)) [])) :
    vCall (boolsB fun bs => bs.any id) (aCons (vLc (iSeq (vVar 2)) (gN 3) tTrue (vCall (boolsB fun bs => bs.any id) (aCons (vLc (iSeq (vVar 2)) (gN 4) tTrue fe [4]) aNil)) [3]) aNil) ρ [] =
      some (.ok (.bl ((List.range n).any fun t => (List.range n).any fun s => g t s)) []) := by
  have outer : vLc (iSeq (vVar 2)) (gN 3) tTrue (vCall (boolsB fun bs => bs.any id) (aCons (vLc (iSeq (vVar 2)) (gN 4) tTrue fe [4]) aNil)) [3] ρ [] = some (.ok (.lst ((List.range n).map fun t => D.bl ((List.range n).any fun s => g t s))) []) := by
    refine vLc_map (as := List.range n) (e := fun i : Nat => D.int (i : Int)) (it := .seq (.lst ((List.range n).map fun i : Nat => D.int (i : Int)))) (by simp [iSeq, vVar, seqOf, h2]) (by simp [ItD.items, seqOf]) fun t ht => ?_
    have ht' := List.mem_range.mp ht
    have inner : vLc (iSeq (vVar 2)) (gN 4) tTrue fe [4] ((ρ.set 3 none).set 3 (some (.int (t : Int)))) [] = some (.ok (.lst ((List.range n).map fun s => D.bl (g t s))) []) := by
      refine vLc_map (as := List.range n) (e := fun i : Nat => D.int (i : Int)) (it := .seq (.lst ((List.range n).map fun i : Nat => D.int (i : Int)))) (by simp [iSeq, vVar, seqOf, h2]) (by simp [ItD.items, seqOf]) fun s hs => ?_
      have q := hf t ht' s (List.mem_range.mp hs)
      simp only [lcStep, gN, wipeE_cons, wipeE_nil, tTrue]
      rw [q]
    have c : vCall (boolsB fun bs => bs.any id) (aCons (vLc (iSeq (vVar 2)) (gN 4) tTrue fe [4]) aNil) ((ρ.set 3 none).set 3 (some (.int (t : Int)))) [] = some (.ok (.bl ((List.range n).any fun s => g t s)) []) := by
      refine vCall_of (a1_of inner) ?_
      rw [boolsB_fun, List.any_map]
      rfl
    simp only [lcStep, gN, wipeE_cons, wipeE_nil, tTrue]
    rw [c]
  refine vCall_of (a1_of outer) ?_
  rw [boolsB_fun, List.any_map]
  rfl
theorem law_tells_of {a b : List Int} (hl : a.length = b.length) (hz : a.length ≤ 100) : m__law_tells [tI a, tI b] [] = some (.ok (.bl (tell a b)) []) := by
  refine def_rt rfl rfl ?_
  show b__law_tells [some (tI a), some (tI b), none, none, none] [] = _
  unfold b__law_tells
  rw [sSeq_nx (sAsg_of (places (ds := a.map D.int) (by simp [vVar]) (by rw [List.length_map]; omega)))]
  rw [List.length_map]
  simp only [List.set_cons_succ, List.set_cons_zero]
  refine sRet_of ?_
  rw [vNot_of (any_any (n := a.length) (g := fun t s => decide (a.getD s 0 = a.getD t 0) && !decide (b.getD s 0 = b.getD t 0)) rfl rfl fun t ht s hs => ?_)]
  · congr 3
    rw [Bool.eq_iff_iff, tell_iff]
    simp only [Bool.not_eq_true', List.any_eq_false, List.mem_range, Bool.and_eq_true, decide_eq_true_eq, not_and, Bool.not_eq_true']
    constructor
    · intro h s hs t ht e
      have := h t ht
      simp only [Bool.not_eq_true, List.any_eq_false, List.mem_range, Bool.and_eq_true, decide_eq_true_eq, not_and] at this
      have := this s hs e
      simpa using this
    · intro h t ht
      simp only [Bool.not_eq_true, List.any_eq_false, List.mem_range, Bool.and_eq_true, decide_eq_true_eq, not_and]
      intro s hs e
      simpa using h s hs t ht e
  · simp only [List.set_cons_succ, List.set_cons_zero]
    refine vAnd_of (vOp_of (vOp_of rfl rfl (ix_tI hs [])) (vOp_of rfl rfl (ix_tI ht [])) (eqO_int _ _ _)) (fun _ => vOp_of (vOp_of rfl rfl (ix_tI (by omega) [])) (vOp_of rfl rfl (ix_tI (by omega) [])) (neO_int _ _ _)) fun _ => rfl
/-- the two part all -/
def part (a b : List Int) : Bool := !((List.range a.length).any fun t => (List.range a.length).any fun s => decide (s < t) && (decide (a.getD s 0 = a.getD t 0) && decide (b.getD s 0 = b.getD t 0)))
theorem law_parts_of {a b : List Int} (hl : a.length = b.length) (hz : a.length ≤ 100) : m__law_parts_all [tI a, tI b] [] = some (.ok (.bl (part a b)) []) := by
  refine def_rt rfl rfl ?_
  show b__law_parts_all [some (tI a), some (tI b), none, none, none] [] = _
  unfold b__law_parts_all
  rw [sSeq_nx (sAsg_of (places (ds := a.map D.int) (by simp [vVar]) (by rw [List.length_map]; omega)))]
  rw [List.length_map]
  simp only [List.set_cons_succ, List.set_cons_zero]
  refine sRet_of ?_
  refine vNot_of (any_any (n := a.length) (g := fun t s => decide (s < t) && (decide (a.getD s 0 = a.getD t 0) && decide (b.getD s 0 = b.getD t 0))) rfl rfl fun t ht s hs => ?_)
  simp only [List.set_cons_succ, List.set_cons_zero]
  have lt : ltI (.int (s : Int)) (.int (t : Int)) [] = some (.bl (decide (s < t))) := by
    show some (D.bl (decide ((s : Int) < t))) = _
    congr 2
    exact decide_eq_decide.mpr (by omega)
  exact vAnd_of (vOp_of rfl rfl lt) (fun _ => vAnd_of (vOp_of (vOp_of rfl rfl (ix_tI hs [])) (vOp_of rfl rfl (ix_tI ht [])) (eqO_int _ _ _))
    (fun _ => vOp_of (vOp_of rfl rfl (ix_tI (by omega) [])) (vOp_of rfl rfl (ix_tI (by omega) [])) (eqO_int _ _ _)) fun _ => rfl) fun _ => rfl
end Lw
end

section
set_option Elab.async false
set_option linter.all false
set_option maxRecDepth 100000
namespace Lw
open PySem DL L2
theorem once_len_le {α β : Type} [DecidableEq β] {f : α → β} : ∀ l : List α, (once f l).length ≤ l.length
  | [] => Nat.le_refl _
  | x :: l => by
    unfold once
    rw [List.length_cons, List.length_cons]
    exact Nat.succ_le_succ (Nat.le_trans (List.length_filter_le _ _) (once_len_le l))
theorem once_len {α β : Type} [DecidableEq β] {f : α → β} : ∀ l : List α, (once f l).length = l.length ↔ (l.map f).Nodup
  | [] => by simp [once]
  | x :: l => by
    unfold once
    rw [List.length_cons, List.length_cons, List.map_cons, List.nodup_cons, ← once_len l]
    constructor
    · intro h
      have h1 : ((once f l).filter fun y => decide (f y ≠ f x)).length = l.length := by omega
      have h2 := List.length_filter_le (fun y => decide (f y ≠ f x)) (once f l)
      have h3 := once_len_le (f := f) l
      have h4 : (once f l).length = l.length := by omega
      refine ⟨fun hm => ?_, h4⟩
      obtain ⟨u, hu, hf⟩ := List.mem_map.mp hm
      obtain ⟨v, hv, hv2⟩ := List.mem_map.mp (once_all (f := f) hu)
      have := (List.length_filter_eq_length_iff.mp (show ((once f l).filter fun y => decide (f y ≠ f x)).length = (once f l).length by omega)) v hv
      rw [decide_eq_true_eq, hv2, hf] at this
      exact this rfl
    · intro ⟨h1, h2⟩
      have h5 : (once f l).filter (fun y => decide (f y ≠ f x)) = once f l := List.filter_eq_self.mpr fun y hy => by
        rw [decide_eq_true_eq]
        intro e
        exact h1 (List.mem_map.mpr ⟨y, once_sub hy, e⟩)
      rw [h5, h2]
theorem zip_ints (a b : List Int) : zipD (a.map D.int) (b.map D.int) = (a.zip b).map fun p => D.tup [.int p.1, .int p.2] := by
  unfold zipD
  rw [List.zipWith_map, List.zip, List.map_zipWith]
theorem nk_pair (p q : Int × Int) : nkD (.tup [.int p.1, .int p.2]) = nkD (.tup [.int q.1, .int q.2]) ↔ p = q := by
  constructor
  · intro h
    have h' : [NestedKey.num p.1, .num p.2] = [.num q.1, .num q.2] := by injection h
    have h1 : NestedKey.num p.1 = .num q.1 := by injection h'
    have h2 : [NestedKey.num p.2] = [.num q.2] := by injection h'
    have h3 : NestedKey.num p.2 = .num q.2 := by injection h2
    have e1 : p.1 = q.1 := by injection h1
    have e2 : p.2 = q.2 := by injection h3
    exact Prod.ext e1 e2
  · rintro rfl; rfl
theorem part_nodup {a b : List Int} (hl : a.length = b.length) : part a b = true ↔ (a.zip b).Nodup := by
  have hz : (a.zip b).length = a.length := by rw [List.length_zip]; omega
  unfold part
  rw [List.Nodup, List.pairwise_iff_getElem]
  simp only [Bool.not_eq_true', List.any_eq_false, List.mem_range, Bool.not_eq_true, Bool.and_eq_true, decide_eq_true_eq, not_and]
  have at_ : ∀ (i : Nat) (h : i < (a.zip b).length), (a.zip b)[i] = (a.getD i 0, b.getD i 0) := fun i h => by
    rw [List.getElem_zip, List.getD_eq_getElem?_getD, List.getD_eq_getElem?_getD, List.getElem?_eq_getElem (by omega), List.getElem?_eq_getElem (by omega)]
    rfl
  constructor
  · intro h i j hi hj hij e
    rw [at_ i hi, at_ j hj] at e
    obtain ⟨e1, e2⟩ := Prod.mk.inj e
    exact h j (by omega) i (by omega) hij e1 e2
  · intro h t ht s hs hst e1 e2
    refine h s t (by omega) (by omega) hst ?_
    rw [at_ s (by omega), at_ t (by omega), e1, e2]
theorem zip_len {a b : List Int} (hl : a.length = b.length) (hz : a.length < 76) (M : DSt) : ∃ n : Nat, lenZipO (tI a) (tI b) M = some (.int (n : Int)) ∧ ((n : Int) = a.length ↔ part a b = true) := by
  have few : (zipD (a.map D.int) (b.map D.int)).length = a.length := by
    rw [zip_ints, List.length_map, List.length_zip]
    omega
  refine ⟨(once nkD (zipD (a.map D.int) (b.map D.int))).length, ?_, ?_⟩
  · show (if (zipD (a.map D.int) (b.map D.int)).all keyT = true ∧ (zipD (a.map D.int) (b.map D.int)).length < 76 then some (D.int (once nkD (zipD (a.map D.int) (b.map D.int))).length) else none) = _
    rw [if_pos]
    refine ⟨?_, by omega⟩
    rw [zip_ints, List.all_map, List.all_eq_true]
    intro p hp
    rfl
  · rw [part_nodup hl]
    have h := once_len (f := nkD) (zipD (a.map D.int) (b.map D.int))
    rw [few] at h
    constructor
    · intro e
      have h' := h.mp (by omega)
      rw [zip_ints, List.map_map] at h'
      exact List.Pairwise.of_map _ (fun p q hne e => hne (by rw [e])) h'
    · intro e
      have h' := h.mpr (by
        rw [zip_ints, List.map_map]
        refine List.pairwise_map.mpr (e.imp fun {p q} hne e => hne ((nk_pair p q).mp e)))
      omega
theorem part_all_of {a b : List Int} (hl : a.length = b.length) (hz : a.length < 76) : m_part_all [tI a, tI b] [] = some (.ok (.bl (part a b)) []) := by
  refine def_rt rfl rfl ?_
  show b_part_all [some (tI a), some (tI b)] [] = _
  unfold b_part_all
  obtain ⟨n, e, h⟩ := zip_len hl hz []
  refine sRet_of (vOp_of (vOp_of rfl rfl e) (vCall_of (a1_of (a := tI a) rfl) (d := .int a.length) ?_) ?_)
  · show some (D.int ((a.map D.int).length)) = _
    rw [List.length_map]
  · rw [eqO_int]
    congr 2
    rw [Bool.eq_iff_iff, decide_eq_true_eq]
    exact h
theorem view_tells_of {a b : List Int} (ha : okView a = true) (hb : okView b = true) (hl : a.length = b.length) : m_view_tells [tI a, tI b] [] = some (.ok (.bl (tell a b)) []) := by
  refine def_rt rfl rfl ?_
  show b_view_tells [some (tI a), some (tI b)] [] = _
  unfold b_view_tells
  have hz : a.length ≤ 6 := by
    unfold okView at ha
    simp only [Bool.and_eq_true, decide_eq_true_eq] at ha
    exact ha.1.2
  rw [sSeq_nx (sExp_of (vFn0 (np := 2) (ds := [tI a, tI b]) (a2_of rfl rfl) rfl (by simp) rfl (check_ok ha hb hl)))]
  exact sRet_of (vFn0 (np := 2) (ds := [tI a, tI b]) (a2_of rfl rfl) rfl (by simp) rfl (does_tell_of hl (by omega)))
theorem are_complements_of {a b : List Int} (ha : okView a = true) (hb : okView b = true) (hl : a.length = b.length) : m_are_complements [tI a, tI b] [] = some (.ok (.bl (part a b)) []) := by
  refine def_rt rfl rfl ?_
  show b_are_complements [some (tI a), some (tI b)] [] = _
  unfold b_are_complements
  have hz : a.length ≤ 6 := by
    unfold okView at ha
    simp only [Bool.and_eq_true, decide_eq_true_eq] at ha
    exact ha.1.2
  rw [sSeq_nx (sExp_of (vFn0 (np := 2) (ds := [tI a, tI b]) (a2_of rfl rfl) rfl (by simp) rfl (check_ok ha hb hl)))]
  exact sRet_of (vFn0 (np := 2) (ds := [tI a, tI b]) (a2_of rfl rfl) rfl (by simp) rfl (part_all_of hl (by omega)))
theorem says_of (b : Bool) : m__law_says [.bl b, .bl b] [] = some (.ok (.bl true) []) := by
  refine def_rt rfl rfl ?_
  show b__law_says [some (.bl b), some (.bl b)] [] = _
  cases b <;> simp [b__law_says, sRet, sb, vAnd, vIsi, vUn, vVar, isiD, typD, blD, lift, vOp]
end Lw
end

section
set_option Elab.async false
set_option linter.all false
set_option maxRecDepth 100000
namespace Lw
open PySem DL L2
def dist (row : List Int) : Nat := (once id row).length
def plains : Nat → List (List Int)
  | 0 => [[]]
  | n + 1 => (plains n).flatMap fun row => (List.range (dist row + 1)).map fun j : Nat => row ++ [(j : Int)]
def mx (row : List Int) : Int := row.foldl max (-1)
theorem pl_facts : (List.range 6).all (fun n => decide ((plains n).length ≤ 60) && (plains n).all fun row => decide (row.length = n) && decide (dist row ≤ 6) && decide (mx row + 1 = dist row) && row.all fun x => decide (0 ≤ x) && decide (x < dist row)) = true := by decide +kernel
theorem pl_at {n : Nat} (h : n < 6) : (plains n).length ≤ 60 ∧ ∀ row ∈ plains n, row.length = n ∧ dist row ≤ 6 ∧ mx row + 1 = dist row ∧ ∀ x ∈ row, 0 ≤ x ∧ x < dist row := by
  have k := List.all_eq_true.mp pl_facts n (List.mem_range.mpr h)
  simp only [Bool.and_eq_true, decide_eq_true_eq, List.all_eq_true] at k
  exact ⟨k.1, fun row hr => ⟨(k.2 row hr).1.1.1, (k.2 row hr).1.1.2, (k.2 row hr).1.2, (k.2 row hr).2⟩⟩
theorem once_map {α β γ : Type} [DecidableEq γ] {f : β → γ} (e : α → β) : ∀ l : List α, once f (l.map e) = (once (fun x => f (e x)) l).map e
  | [] => rfl
  | x :: l => by
    rw [List.map_cons]
    unfold once
    rw [once_map e l, List.map_cons, List.filter_map]
    rfl
theorem once_same {α β γ : Type} [DecidableEq β] [DecidableEq γ] {f : α → β} {g : α → γ} (h : ∀ x y, f x = f y ↔ g x = g y) : ∀ l : List α, once f l = once g l
  | [] => rfl
  | x :: l => by
    unfold once
    rw [once_same h l]
    congr 1
    refine List.filter_congr fun y _ => ?_
    exact decide_eq_decide.mpr (not_congr (h y x))
theorem dist_set (row : List Int) (hz : row.length < 4000) (M : DSt) : lenSetU (tI row) M = some (.int (dist row)) := by
  show (if setOk (row.map D.int) = true then some (D.int (once nkD (row.map D.int)).length) else none) = _
  have ok : setOk (row.map D.int) = true := by
    unfold setOk
    have h1 : (row.map D.int).all isInt = true := by
      rw [List.all_map, List.all_eq_true]
      intro x _
      rfl
    rw [h1, List.length_map, decide_eq_true hz]
    rfl
  have e : (once nkD (row.map D.int)).length = dist row := by
    rw [once_map, List.length_map]
    unfold dist
    rw [once_same (f := fun x => nkD (D.int x)) (g := id) fun x y => ⟨fun h => by
      have h' : NestedKey.num x = .num y := h
      injection h', fun h => by rw [show x = y from h]⟩]
  rw [if_pos ok, e]
theorem tup_add (row : List Int) (j : Int) (hz : row.length ≤ 1000) (M : DSt) : addO (tI row) (.tup [.int j]) M = some (tI (row ++ [j])) := by
  show (if (row.map D.int).length + 1 ≤ 1000000 then some (D.tup (row.map D.int ++ [.int j])) else none) = _
  rw [List.length_map, if_pos (by omega)]
  show some (D.tup (row.map D.int ++ [.int j])) = some (D.tup ((row ++ [j]).map D.int))
  rw [List.map_append]
  rfl
theorem range1_of {fa : Dm D} {ρ : DEnv} {M : DSt} {n : Nat} (h : fa ρ M = some (.ok (.int (n : Int)) M)) (hz : n ≤ 1000000) : iRange1 fa ρ M = some (.ok (.rng 0 n) M) := by
  unfold iRange1
  rw [h, bnd_ok]
  show (if -1000000 ≤ (n : Int) ∧ (n : Int) ≤ 1000000 then some (Out.ok (ItD.rng 0 (n : Int).toNat) M) else none) = _
  rw [if_pos (by omega)]
  rfl
theorem rng_items (n : Nat) (M : DSt) : (ItD.rng 0 n).items M = some ((List.range n).map fun i : Nat => D.int (i : Int)) := by
  show some ((List.range n).map fun i : Nat => D.int (0 + (i : Int))) = _
  congr 1
  exact List.map_congr_left fun i _ => by rw [Int.zero_add]
theorem plains_step {n : Nat} : plains (n + 1) = (plains n).flatMap fun row => (List.range (dist row + 1)).map fun j : Nat => row ++ [(j : Int)] := rfl
theorem plain_views_of {n : Nat} (hn : n < 6) : m_plain_views [.int (n : Int)] [] = some (.ok (.lst ((plains n).map tI)) []) := by
  refine def_rt rfl (unders_tIs 0 _) ?_
  show b_plain_views [some (.int (n : Int)), none, none, none, none] [] = _
  unfold b_plain_views
  have h0 : vLst (aCons (vTup aNil) aNil) [some (.int (n : Int)), none, none, none, none] [] = some (.ok (.lst ((plains 0).map tI)) []) := rfl
  rw [sSeq_nx (sAsg_of h0)]
  simp only [List.set_cons_succ, List.set_cons_zero]
  refine Exists.elim (sFor_of (it := .rng 0 n) (xs := (List.range n).map fun i : Nat => D.int (i : Int))
    (fun xs ρ M => ∃ k, k + xs.length = n ∧ ∃ u v w, ρ = [some (.int (n : Int)), some (.lst ((plains k).map tI)), u, v, w] ∧ M = []) (T := gN 2)
    (body := sAsg (vLc2 (iSeq (vVar 1)) (gN 3) tTrue (iRange1 (vOp addO (vUn lenSetU (vVar 3)) (vC (.int 1)))) (gN 4) tTrue (vOp addO (vVar 3) (vTup (aCons (vVar 4) aNil))) [3, 4] [4]) (gN 1))
    (range1_of (fa := vVar 0) (ρ := [some (.int (n : Int)), some (.lst ((plains 0).map tI)), none, none, none]) (M := []) (n := n) rfl (by omega)) (rng_items n []) (fun xs' ρ M h => by obtain ⟨k, _, _, _, _, _, rfl⟩ := h; exact rng_items n [])
    (fun x xs ρ M h => ?step) ⟨0, by simp, none, none, none, rfl, rfl⟩) fun ρ' h => ?main
  case main =>
    obtain ⟨M', e, k, hk, u, v, w, hρ, hM⟩ := h
    rw [sSeq_nx e]
    have : k = n := by simpa using hk
    subst this
    subst hρ hM
    exact sRet_of rfl
  case step =>
    obtain ⟨k, hk, u, v, w, rfl, rfl⟩ := h
    rw [List.length_cons] at hk
    have hk6 : k < 6 := by omega
    obtain ⟨len, rows⟩ := pl_at hk6
    refine ⟨_, _, _, rfl, sAsg_of (vLc2_typed (as := plains k) (bs := fun row => List.range (dist row + 1)) (e := tI) (e1 := fun i : Nat => D.int (i : Int)) (p := fun _ _ => true) (g := fun row (j : Nat) => tI (row ++ [(j : Int)])) (it := .seq (.lst ((plains k).map tI))) (it1 := fun row => .rng 0 (dist row + 1)) rfl rfl (fun row hr => ?_) (fun row hr => ?_) (by omega)), k + 1, by omega, some x, v, w, ?_, rfl⟩
    · obtain ⟨r1, r2, _⟩ := rows row hr
      refine ⟨_, rfl, rfl, range1_of (n := dist row + 1) (vOp_of (vUn_of rfl (dist_set row (by omega) [])) rfl (by rfl)) (by omega), rng_items _ _, fun j hj => ?_⟩
      rw [if_pos rfl]
      have e1 : vOp addO (vVar 3) (vTup (aCons (vVar 4) aNil)) [some (.int (n : Int)), some (.lst ((plains k).map tI)), some x, some (tI row), some (.int (j : Int))] [] = some (.ok (tI (row ++ [(j : Int)])) []) := vOp_of rfl rfl (tup_add row j (by omega) [])
      show lcStep (gN 4) tTrue (vOp addO (vVar 3) (vTup (aCons (vVar 4) aNil))) [some (.int (n : Int)), some (.lst ((plains k).map tI)), some x, some (tI row), none] (.int (j : Int)) [] = _
      unfold lcStep
      simp only [gN, tTrue, List.set_cons_succ, List.set_cons_zero]
      rw [e1]
    · obtain ⟨_, r2, _⟩ := rows row hr
      rw [List.length_range]
      omega
    · have e3 : ((plains k).flatMap fun row => ((List.range (dist row + 1)).filter fun _ => true).map fun j : Nat => tI (row ++ [(j : Int)])) = (plains (k + 1)).map tI := by
        rw [plains_step, List.map_flatMap]
        refine flat_congr fun row _ => ?_
        rw [List.filter_eq_self.mpr (fun _ _ => rfl), List.map_map]
        rfl
      rw [e3]
      rfl
theorem mx_append (row : List Int) (j : Int) : mx (row ++ [j]) = max (mx row) j := by
  unfold mx
  rw [List.foldl_append]
  rfl
theorem foldl_mx : ∀ (l : List Int) (n : Int), -1 ≤ n → l.foldl max n = max n (mx l)
  | [], n, h => by
    show n = max n (-1)
    omega
  | x :: l, n, h => by
    show l.foldl max (max n x) = max n (l.foldl max (max (-1) x))
    rw [foldl_mx l _ (by omega), foldl_mx l _ (by omega)]
    omega
theorem mx_ge : ∀ (l : List Int), -1 ≤ mx l := fun l => by
  have h := foldl_mx l (-1) (by omega)
  unfold mx at h ⊢
  omega
theorem intsD_map : ∀ l : List Int, intsD (l.map D.int) = some l
  | [] => rfl
  | x :: l => by
    show (intsD (l.map D.int)).map (x :: ·) = _
    rw [intsD_map l]
    rfl
theorem max_of {row : List Int} (h : ∀ x ∈ row, 0 ≤ x) (M : DSt) : maxB [tI (row ++ [-1])] M = some (.int (mx row)) := by
  show ((some ((row ++ [-1]).map D.int)).bind fun xs => (intsD xs).bind fun ns => match ns with
    | [] => none
    | n :: r => some (D.int (r.foldl max n))) = _
  rw [Option.bind_some, intsD_map, Option.bind_some]
  cases row with
  | nil => rfl
  | cons x l =>
    show some (D.int ((l ++ [-1]).foldl max x)) = _
    have h0 := h x List.mem_cons_self
    have g := mx_ge l
    rw [foldl_mx _ _ (by omega), mx_append]
    have e : mx (x :: l) = max x (mx l) := by
      show l.foldl max (max (-1) x) = _
      rw [foldl_mx l _ (by omega)]
      omega
    rw [e]
    congr 2
    omega
theorem law_plain_of {n : Nat} (hn : n < 6) : m__law_plain [.int (n : Int)] [] = some (.ok (.lst ((plains n).map tI)) []) := by
  refine def_rt rfl (unders_tIs 0 _) ?_
  show b__law_plain [some (.int (n : Int)), none, none, none, none, none] [] = _
  unfold b__law_plain
  have h0 : vLst (aCons (vTup aNil) aNil) [some (.int (n : Int)), none, none, none, none, none] [] = some (.ok (.lst ((plains 0).map tI)) []) := rfl
  rw [sSeq_nx (sAsg_of h0)]
  simp only [List.set_cons_succ, List.set_cons_zero]
  refine seq_for (it := .rng 0 n) (xs := (List.range n).map fun i : Nat => D.int (i : Int))
    (fun xs ρ M => ∃ k, k + xs.length = n ∧ ∃ u v w x, ρ = [some (.int (n : Int)), some (.lst ((plains k).map tI)), u, v, w, x] ∧ M = [])
    (range1_of (n := n) rfl (by omega)) (rng_items n []) (fun xs' ρ M h => by obtain ⟨k, _, _, _, _, _, _, rfl⟩ := h; exact rng_items n []) ⟨0, by simp, none, none, none, none, rfl, rfl⟩ (fun x xs ρ M h => ?_) (fun ρ' M' h => ?_)
  · obtain ⟨k, hk, u, v, w, y, rfl, rfl⟩ := h
    rw [List.length_cons] at hk
    have hk6 : k < 6 := by omega
    obtain ⟨len, rows⟩ := pl_at hk6
    refine ⟨_, rfl, ex_seq rfl (ex_seq_for (it := .seq (.lst ((plains k).map tI))) (xs := (plains k).map tI)
      (fun xs ρ M => ∃ done todo, plains k = done ++ todo ∧ xs = todo.map tI ∧ ∃ w y, ρ = [some (.int (n : Int)), some (.lst ((plains k).map tI)), some x, some (.lst ((done.flatMap fun row => (List.range (dist row + 1)).map fun j : Nat => row ++ [(j : Int)]).map tI)), w, y] ∧ M = [])
      rfl rfl (fun xs' ρ M h => by obtain ⟨_, _, _, _, _, _, _, rfl⟩ := h; rfl) ⟨[], plains k, rfl, rfl, w, y, rfl, rfl⟩ (fun z zs ρ M h => ?_) (fun ρ' M' h => ?_))⟩
    · obtain ⟨done, todo, e1, e2, w, y, rfl, rfl⟩ := h
      obtain ⟨row, rest, rfl⟩ : ∃ row rest, todo = row :: rest := by
        cases todo with
        | nil => cases e2
        | cons a b => exact ⟨a, b, rfl⟩
      rw [List.map_cons] at e2
      obtain ⟨rfl, rfl⟩ := List.cons.inj e2
      have hr : row ∈ plains k := by rw [e1]; exact List.mem_append_right _ List.mem_cons_self
      obtain ⟨r1, r2, r3, r4⟩ := rows row hr
      have lbl : iRange1 (vOp addO (vCall maxB (aCons (vOp addO (vVar 4) (vTup (aCons (vUn negU (vC (.int 1))) aNil))) aNil)) (vC (.int 2)))
          [some (.int (n : Int)), some (.lst ((plains k).map tI)), some x, some (.lst ((done.flatMap fun row => (List.range (dist row + 1)).map fun j : Nat => row ++ [(j : Int)]).map tI)), some (tI row), y] [] = some (.ok (.rng 0 (dist row + 1)) []) := by
        refine range1_of (n := dist row + 1) (vOp_of (vCall_of (a1_of (vOp_of rfl rfl (tup_add row (-1) (by omega) []))) (max_of (fun x hx => (r4 x hx).1) [])) rfl ?_) (by omega)
        show some (D.int (mx row + 2)) = some (.int ((dist row + 1 : Nat) : Int))
        congr 2
        omega
      have lc : vLc (iRange1 (vOp addO (vCall maxB (aCons (vOp addO (vVar 4) (vTup (aCons (vUn negU (vC (.int 1))) aNil))) aNil)) (vC (.int 2)))) (gN 5) tTrue (vOp addO (vVar 4) (vTup (aCons (vVar 5) aNil))) [5]
          [some (.int (n : Int)), some (.lst ((plains k).map tI)), some x, some (.lst ((done.flatMap fun row => (List.range (dist row + 1)).map fun j : Nat => row ++ [(j : Int)]).map tI)), some (tI row), y] [] =
          some (.ok (.lst ((List.range (dist row + 1)).map fun i : Nat => tI (row ++ [(i : Int)]))) []) := by
        refine vLc_map (as := List.range (dist row + 1)) (e := fun i : Nat => D.int (i : Int)) lbl (rng_items _ _) fun j hj => ?_
        have e1 : vOp addO (vVar 4) (vTup (aCons (vVar 5) aNil)) [some (.int (n : Int)), some (.lst ((plains k).map tI)), some x, some (.lst ((done.flatMap fun row => (List.range (dist row + 1)).map fun j : Nat => row ++ [(j : Int)]).map tI)), some (tI row), some (.int (j : Int))] [] = some (.ok (tI (row ++ [(j : Int)])) []) := vOp_of rfl rfl (tup_add row j (by omega) [])
        simp only [lcStep, gN, wipeE_cons, wipeE_nil, tTrue, List.set_cons_succ, List.set_cons_zero]
        rw [e1]
      have long : (done.flatMap fun row => (List.range (dist row + 1)).map fun j : Nat => row ++ [(j : Int)]).length ≤ done.length * 7 := flat_len fun r hr' => by
        rw [List.length_map, List.length_range]
        have := (rows r (by rw [e1]; exact List.mem_append_left _ hr')).2.1
        omega
      have short : done.length ≤ 60 := by
        have := congrArg List.length e1
        rw [List.length_append] at this
        omega
      have ev := sAsg_of (i := 3) (vOp_of (g := addO) (fa := vVar 3) rfl lc (d := .lst (((done ++ [row]).flatMap fun row => (List.range (dist row + 1)).map fun j : Nat => row ++ [(j : Int)]).map tI)) (by
        show (if _ + _ ≤ 1000000 then some (D.lst (_ ++ _)) else none) = _
        rw [List.length_map, List.length_map, List.length_range, if_pos (by omega), List.flatMap_append, List.map_append, List.flatMap_cons, List.flatMap_nil, List.append_nil, List.map_map]
        rfl))
      exact ⟨_, rfl, _, _, ev, done ++ [row], rest, by rw [e1]; simp, rfl, some (tI row), y, rfl, rfl⟩
    · obtain ⟨done, todo, e1, e2, w', y', rfl, rfl⟩ := h
      have et : todo = [] := by
        cases todo with
        | nil => rfl
        | cons a b => cases e2
      subst et
      rw [List.append_nil] at e1
      refine ⟨_, _, rfl, k + 1, by omega, some x, some (.lst ((plains (k + 1)).map tI)), w', y', ?_, rfl⟩
      rw [plains_step, e1]
      rfl
  · obtain ⟨k, hk, u, v, w, x, rfl, rfl⟩ := h
    have : k = n := by simpa using hk
    subst this
    exact sRet_of rfl
end Lw
end

section
set_option Elab.async false
set_option linter.all false
set_option maxRecDepth 100000
namespace Lw
open PySem DL L2
def goods (a : List Int) : List (List Int) := (plains a.length).filter fun o => part a o
def lesser (g : List (List Int)) (o : List Int) : Bool := g.any fun l => !(decide (l = o)) && tell o l
def leasts (a : List Int) : List (List Int) := (goods a).filter fun o => !lesser (goods a) o
theorem goods_pl {a o : List Int} (h : o ∈ goods a) : o ∈ plains a.length := (List.mem_filter.mp h).1
theorem len_of {a : List Int} (h : okView a = true) : 1 ≤ a.length ∧ a.length ≤ 6 := by
  unfold okView at h
  simp only [Bool.and_eq_true, decide_eq_true_eq] at h
  exact h.1
/-- is there a lesser one -/
theorem lesser_of {φ : List D → DSt → R D} {gi oi si : Nat} {ρ : DEnv} {M : DSt} {g : List (List Int)} {o : List Int} (hφ : ∀ l ∈ g, φ [tI o, tI l] [] = some (.ok (.bl (tell o l)) [])) (h1 : ρ[gi]? = some (some (.lst (g.map tI)))) (h2 : ρ[oi]? = some (some (tI o))) (h3 : si < ρ.length) (n1 : oi ≠ si) :
    vCall (boolsB fun bs => bs.any id) (aCons (vLc (iSeq (vVar gi)) (gN si) tTrue (vAnd (vOp neO (vVar si) (vVar oi)) (vFn 0 2 φ (aCons (vVar oi) (aCons (vVar si) aNil)))) [si]) aNil) ρ M = some (.ok (.bl (lesser g o)) M) := by
  have v1 : vVar gi ρ M = some (.ok (.lst (g.map tI)) M) := by
    unfold vVar
    rw [h1]
  have lc : vLc (iSeq (vVar gi)) (gN si) tTrue (vAnd (vOp neO (vVar si) (vVar oi)) (vFn 0 2 φ (aCons (vVar oi) (aCons (vVar si) aNil)))) [si] ρ M = some (.ok (.lst (g.map fun l => D.bl (!(decide (l = o)) && tell o l))) M) := by
    refine vLc_map (as := g) (e := tI) (it := .seq (.lst (g.map tI))) (by unfold iSeq; rw [v1, bnd_ok]; rfl) rfl fun l hl => ?_
    have e0 : ((ρ.set si none).set si (some (tI l)))[si]? = some (some (tI l)) := by
      rw [List.getElem?_set_self]
      rw [List.length_set]
      exact h3
    have e1 : ((ρ.set si none).set si (some (tI l)))[oi]? = some (some (tI o)) := by
      rw [List.getElem?_set_ne n1.symm, List.getElem?_set_ne n1.symm]
      exact h2
    have w0 : vVar si ((ρ.set si none).set si (some (tI l))) M = some (.ok (tI l) M) := by unfold vVar; rw [e0]
    have w1 : vVar oi ((ρ.set si none).set si (some (tI l))) M = some (.ok (tI o) M) := by unfold vVar; rw [e1]
    simp only [lcStep, gN, wipeE_cons, wipeE_nil, tTrue]
    rw [vAnd_of (vOp_of w0 w1 (neO_tI l o M)) (fun _ => vFn0 (np := 2) (ds := [tI o, tI l]) (a2_of w1 w0) rfl (by simp) rfl (hφ l hl)) fun _ => rfl]
  refine vCall_of (a1_of lc) ?_
  rw [boolsB_fun, List.any_map]
  rfl
theorem least_of {a : List Int} (ha : okView a = true) (h5 : a.length < 6) : m_least_complements [tI a] [] = some (.ok (.tup ((leasts a).map tI)) []) := by
  obtain ⟨pl1, pl2⟩ := pl_at h5
  have rows : ∀ o ∈ goods a, o.length = a.length := fun o ho => (pl2 o (goods_pl ho)).1
  refine def_rtM (M := [.lst ((leasts a).map tI)]) rfl (unders_tIs 0 _) ?_
  show b_least_complements [some (tI a), none, none, none, none] [] = _
  unfold b_least_complements
  rw [sSeq_nx (sExp_of (vFn0 (np := 2) (ds := [tI a, tI a]) (a2_of rfl rfl) rfl (by simp) rfl (check_ok ha ha rfl)))]
  have pv : vFn 0 1 m_plain_views (aCons (vCall lenB (aCons (vVar 0) aNil)) aNil) [some (tI a), none, none, none, none] [] = some (.ok (.lst ((plains a.length).map tI)) []) := by
    refine vFn0 (ds := [.int (a.length : Int)]) (a1_of (vCall_of (a1_of rfl) ?_)) rfl rfl (unders_tIs 0 _) (plain_views_of h5)
    show some (D.int ((a.map D.int).length)) = _
    rw [List.length_map]
  have g0 : vLc (iSeq (vFn 0 1 m_plain_views (aCons (vCall lenB (aCons (vVar 0) aNil)) aNil))) (gN 3) (tTru (vFn 0 2 m_part_all (aCons (vVar 0) (aCons (vVar 3) aNil)))) (vVar 3) [3] [some (tI a), none, none, none, none] [] = some (.ok (.lst ((goods a).map tI)) []) := by
    refine vLc_filter (as := plains a.length) (e := tI) (g := tI) (p := fun o => part a o) (it := .seq (.lst ((plains a.length).map tI))) (by unfold iSeq; rw [pv]; rfl) rfl fun o ho => ?_
    have e1 : tTru (vFn 0 2 m_part_all (aCons (vVar 0) (aCons (vVar 3) aNil))) [some (tI a), none, none, some (tI o), none] [] = some (.ok (part a o) []) :=
      tTru_bl (vFn0 (np := 2) (ds := [tI a, tI o]) (a2_of rfl rfl) rfl (by simp) rfl (part_all_of (pl2 o ho).1.symm (by omega)))
    simp only [lcStep, gN, wipeE_cons, wipeE_nil, List.set_cons_succ, List.set_cons_zero]
    rw [e1]
    cases part a o <;> rfl
  rw [sSeq_nx (sAsg_of g0)]
  simp only [List.set_cons_succ, List.set_cons_zero]
  have m0 : sAsg (vLstM aNil) (gN 2) [some (tI a), some (.lst ((goods a).map tI)), none, none, none] [] = some (.nx [some (tI a), some (.lst ((goods a).map tI)), some (.loc 0), none, none], [.lst []]) := rfl
  rw [sSeq_nx m0]
  refine seq_for (it := .seq (.lst ((goods a).map tI))) (xs := (goods a).map tI) (fun xs ρ M => ∃ done todo, goods a = done ++ todo ∧ xs = todo.map tI ∧ ∃ u v, ρ = [some (tI a), some (.lst ((goods a).map tI)), some (.loc 0), u, v] ∧ M = [.lst ((done.filter fun o => !lesser (goods a) o).map tI)])
    rfl rfl (fun xs' ρ M h => rfl) ⟨[], goods a, rfl, rfl, none, none, rfl, rfl⟩ (fun x xs ρ M h => ?_) (fun ρ' M' h => ?_)
  · obtain ⟨done, todo, e1, e2, u, v, rfl, rfl⟩ := h
    obtain ⟨o, rest, rfl⟩ : ∃ o rest, todo = o :: rest := by
      cases todo with
      | nil => cases e2
      | cons a b => exact ⟨a, b, rfl⟩
    rw [List.map_cons] at e2
    obtain ⟨rfl, rfl⟩ := List.cons.inj e2
    have ho : o ∈ goods a := by rw [e1]; exact List.mem_append_right _ List.mem_cons_self
    have short : done.length ≤ 60 := by
      have h1 := congrArg List.length e1
      have h2 := List.length_filter_le (fun o => part a o) (plains a.length)
      rw [List.length_append] at h1
      unfold goods at h1
      omega
    have ls := lesser_of (φ := m_does_tell) (gi := 1) (oi := 3) (si := 4) (ρ := [some (tI a), some (.lst ((goods a).map tI)), some (.loc 0), some (tI o), v]) (M := [.lst ((done.filter fun o => !lesser (goods a) o).map tI)]) (g := goods a) (o := o)
      (fun l hl => does_tell_of (by rw [rows o ho, rows l hl]) (by rw [rows o ho]; omega)) rfl rfl (by simp) (by decide)
    refine ⟨_, rfl, ?_⟩
    show ∃ ρ2 M2, sIf _ _ _ [some (tI a), some (.lst ((goods a).map tI)), some (.loc 0), some (tI o), v] _ = _ ∧ _
    rw [sIf_of (tNot2_of (tTru_bl ls))]
    cases hl : lesser (goods a) o with
    | true => exact ⟨_, _, rfl, done ++ [o], rest, by rw [e1]; simp, rfl, _, v, rfl, by rw [List.filter_append, List.filter_cons_of_neg (by rw [hl]; decide)]; simp⟩
    | false =>
      have ap : vMth appM (vVar 2) (aCons (vVar 3) aNil) [some (tI a), some (.lst ((goods a).map tI)), some (.loc 0), some (tI o), v] [.lst ((done.filter fun o => !lesser (goods a) o).map tI)] =
          some (.ok .non [.lst (((done ++ [o]).filter fun o => !lesser (goods a) o).map tI)]) := by
        have hlen : ((done.filter fun o => !lesser (goods a) o).map tI).length < 1000000 := by
          rw [List.length_map]
          have := List.length_filter_le (fun o => !lesser (goods a) o) done
          omega
        have e3 : (done ++ [o]).filter (fun o => !lesser (goods a) o) = done.filter (fun o => !lesser (goods a) o) ++ [o] := by
          rw [List.filter_append, List.filter_cons_of_pos (by rw [hl]; decide)]
          rfl
        rw [app_of (fo := vVar 2) (M1 := [.lst ((done.filter fun o => !lesser (goods a) o).map tI)]) (M2 := [.lst ((done.filter fun o => !lesser (goods a) o).map tI)]) (l := 0) (y := tI o) rfl rfl rfl rfl hlen, e3, List.map_append]
        rfl
      refine ⟨_, _, sExp_of ap, done ++ [o], rest, by rw [e1]; simp, rfl, _, v, rfl, rfl⟩
  · obtain ⟨done, todo, e1, e2, u, v, rfl, rfl⟩ := h
    have et : todo = [] := by
      cases todo with
      | nil => rfl
      | cons a b => cases e2
    subst et
    rw [List.append_nil] at e1
    rw [← e1]
    exact sRet_of rfl
end Lw
end

section
set_option Elab.async false
set_option linter.all false
set_option maxRecDepth 100000
namespace Lw
open PySem DL L2
/-- the draw's object -/
def dr (c : List Int) (i r s : Int) : MO := .lst [.lst (c.map .int), .int i, .int r, .int s]
def DrOk (c : List Int) (i r s : Int) : Prop := (∀ x ∈ c, 0 ≤ x) ∧ -1 ≤ i ∧ 0 ≤ r ∧ 0 ≤ s
/-- the store that holds a draw alone -/
def Drw (m : MO) : Prop := ∃ c i r s, m = dr c i r s ∧ DrOk c i r s
theorem Drw.under {m : MO} (h : Drw m) : m.under 1 = true := by
  obtain ⟨c, i, r, s, rfl, _⟩ := h
  show D.unders 1 [.lst (c.map .int), .int i, .int r, .int s] = true
  simp
theorem take_of {m : MO} (h : Drw m) {many : Int} (h0 : 0 < many) (h1 : many < 1073741824) : ∃ v m', m__law_take [.loc 0, .int many] [m] = some (.ok (.int v) [m']) ∧ Drw m' ∧ 0 ≤ v ∧ v < many := by
  obtain ⟨c, i, r, s, rfl, hc, hi, hr, hs⟩ := h
  -- the last part
  have fin : ∀ (i r s : Int), -1 ≤ i → 0 ≤ r → 0 ≤ s → ∃ v m', sSeq (sAsg (vOp modO (vCall intB (aCons (vOp ixO (vVar 0) (vC (.int 2))) aNil)) (vVar 1)) (gN 2)) (sSeq (sSetIx (vOp fdivO (vOp ixO (vVar 0) (vC (.int 2))) (vVar 1)) (vVar 0) (vC (.int 2))) (sRet (vVar 2))) [some (.loc 0), some (.int many), none] [dr c i r s] = some (.rt (.int v), [m']) ∧
      (∃ r', m' = dr c i r' s ∧ 0 ≤ r') ∧ 0 ≤ v ∧ v < many := fun i r s hi hr hs => by
    have e1 : vOp ixO (vVar 0) (vC (.int 2)) [some (.loc 0), some (.int many), none] [dr c i r s] = some (.ok (.int r) [dr c i r s]) := rfl
    have e2 : vOp modO (vCall intB (aCons (vOp ixO (vVar 0) (vC (.int 2))) aNil)) (vVar 1) [some (.loc 0), some (.int many), none] [dr c i r s] = some (.ok (.int (r % many)) [dr c i r s]) := by
      refine vOp_of (vCall_of (a1_of e1) rfl) rfl ?_
      show (if 0 < many then some (D.int (r % many)) else none) = _
      rw [if_pos h0]
    rw [sSeq_nx (sAsg_of e2)]
    simp only [List.set_cons_succ, List.set_cons_zero]
    have e3 : vOp fdivO (vOp ixO (vVar 0) (vC (.int 2))) (vVar 1) [some (.loc 0), some (.int many), some (.int (r % many))] [dr c i r s] = some (.ok (.int (r / many)) [dr c i r s]) := by
      refine vOp_of (a := .int r) (M1 := [dr c i r s]) rfl rfl ?_
      show (if 0 < many ∧ many < 1073741824 then some (D.int (r / many)) else none) = _
      rw [if_pos ⟨h0, h1⟩]
    have e4 := setix_of (fo := vVar 0) (fi := vC (.int 2)) (l := 0) (k := 2) (j := 2) (xs := [.lst (c.map .int), .int i, .int r, .int s]) e3 rfl rfl rfl rfl
    rw [sSeq_nx e4]
    exact ⟨r % many, dr c i (r / many) s, rfl, ⟨r / many, rfl, Int.ediv_nonneg hr (by omega)⟩, Int.emod_nonneg _ (by omega), Int.emod_lt_of_pos _ h0⟩
  suffices q : ∃ v m', b__law_take [some (.loc 0), some (.int many), none] [dr c i r s] = some (.rt (.int v), [m']) ∧ Drw m' ∧ 0 ≤ v ∧ v < many by
    obtain ⟨v, m', e, k, hv⟩ := q
    obtain ⟨c', i', r', s', rfl, ok⟩ := k
    exact ⟨v, _, def_rt1 rfl rfl (by simp) e, ⟨c', i', r', s', rfl, ok⟩, hv⟩
  unfold b__law_take
  have t1 : ∀ (i r s : Int), tBl (vOp eqO (vOp ixO (vVar 0) (vC (.int 2))) (vC (.int 0))) [some (.loc 0), some (.int many), none] [dr c i r s] = some (.ok (decide (r = 0)) [dr c i r s]) := fun i r s => tBl_of (vOp_of (a := .int r) (M1 := [dr c i r s]) rfl rfl (eqO_int r 0 _))
  by_cases z : r = 0
  · subst z
    -- draw[1] grows
    have s1 : sSetIx (vOp addO (vOp ixO (vVar 0) (vC (.int 1))) (vC (.int 1))) (vVar 0) (vC (.int 1)) [some (.loc 0), some (.int many), none] [dr c i 0 s] = some (.nx [some (.loc 0), some (.int many), none], [dr c (i + 1) 0 s]) := rfl
    have lenc : vCall lenB (aCons (vOp ixO (vVar 0) (vC (.int 0))) aNil) [some (.loc 0), some (.int many), none] [dr c (i + 1) 0 s] = some (.ok (.int c.length) [dr c (i + 1) 0 s]) := by
      refine vCall_of (a1_of (a := .lst (c.map .int)) rfl) ?_
      show some (D.int ((c.map D.int).length)) = _
      rw [List.length_map]
    have t2 : tBl (vOp ltI (vOp ixO (vVar 0) (vC (.int 1))) (vCall lenB (aCons (vOp ixO (vVar 0) (vC (.int 0))) aNil))) [some (.loc 0), some (.int many), none] [dr c (i + 1) 0 s] = some (.ok (decide (i + 1 < c.length)) [dr c (i + 1) 0 s]) :=
      tBl_of (vOp_of (a := .int (i + 1)) rfl lenc rfl)
    obtain ⟨r2, s2, hr2⟩ : ∃ r2, sIf (tBl (vOp ltI (vOp ixO (vVar 0) (vC (.int 1))) (vCall lenB (aCons (vOp ixO (vVar 0) (vC (.int 0))) aNil)))) (sSetIx (vOp ixO (vOp ixO (vVar 0) (vC (.int 0))) (vOp ixO (vVar 0) (vC (.int 1)))) (vVar 0) (vC (.int 2))) sPass [some (.loc 0), some (.int many), none] [dr c (i + 1) 0 s] =
        some (.nx [some (.loc 0), some (.int many), none], [dr c (i + 1) r2 s]) ∧ 0 ≤ r2 := by
      rw [sIf_of t2]
      by_cases k : i + 1 < c.length
      · rw [decide_eq_true k, if_pos rfl]
        obtain ⟨j, hj⟩ : ∃ j : Nat, i + 1 = (j : Int) := ⟨(i + 1).toNat, by omega⟩
        have jl : j < c.length := by omega
        have e5 : vOp ixO (vOp ixO (vVar 0) (vC (.int 0))) (vOp ixO (vVar 0) (vC (.int 1))) [some (.loc 0), some (.int many), none] [dr c (i + 1) 0 s] = some (.ok (.int c[j]) [dr c (i + 1) 0 s]) := by
          refine vOp_of (a := .lst (c.map .int)) (b := .int (i + 1)) rfl rfl ?_
          rw [hj]
          have e : (c.map D.int)[j]? = some (.int c[j]) := by rw [List.getElem?_map, List.getElem?_eq_getElem jl]; rfl
          exact atI_nat e
        exact ⟨c[j], setix_of (fo := vVar 0) (fi := vC (.int 2)) (l := 0) (k := 2) (j := 2) (xs := [.lst (c.map .int), .int (i + 1), .int 0, .int s]) e5 rfl rfl rfl rfl, hc _ (List.getElem_mem jl)⟩
      · rw [decide_eq_false k, if_neg Bool.false_ne_true]
        exact ⟨0, rfl, Int.le_refl 0⟩
    obtain ⟨r3, s3, e6, hr3, hs3⟩ : ∃ r3 s3, sIf (tBl (vOp eqO (vOp ixO (vVar 0) (vC (.int 2))) (vC (.int 0)))) (sSeq (sSetIx (vOp modO (vCall intB (aCons (vOp addO (vOp mulO (vOp ixO (vVar 0) (vC (.int 3))) (vC (.int 48271))) (vC (.int 11))) aNil)) (vC (.int 2147483647))) (vVar 0) (vC (.int 3))) (sSetIx (vOp ixO (vVar 0) (vC (.int 3))) (vVar 0) (vC (.int 2)))) sPass
        [some (.loc 0), some (.int many), none] [dr c (i + 1) r2 s] = some (.nx [some (.loc 0), some (.int many), none], [dr c (i + 1) r3 s3]) ∧ 0 ≤ r3 ∧ 0 ≤ s3 := by
      rw [sIf_of (t1 _ _ _)]
      by_cases k : r2 = 0
      · rw [decide_eq_true k, if_pos rfl]
        have e7 : vOp modO (vCall intB (aCons (vOp addO (vOp mulO (vOp ixO (vVar 0) (vC (.int 3))) (vC (.int 48271))) (vC (.int 11))) aNil)) (vC (.int 2147483647)) [some (.loc 0), some (.int many), none] [dr c (i + 1) r2 s] = some (.ok (.int ((s * 48271 + 11) % 2147483647)) [dr c (i + 1) r2 s]) := by
          refine vOp_of (vCall_of (a1_of (vOp_of (vOp_of (a := .int s) (b := .int 48271) (d := .int (s * 48271)) (M1 := [dr c (i + 1) r2 s]) rfl rfl ?_) rfl rfl)) rfl) rfl rfl
          show (if s.natAbs < 2 ^ 64 ∨ (48271 : Int).natAbs < 2 ^ 64 then some (D.int (s * 48271)) else none) = _
          rw [if_pos (Or.inr (by decide))]
        rw [sSeq_nx (setix_of (fo := vVar 0) (fi := vC (.int 3)) (l := 0) (k := 3) (j := 3) (xs := [.lst (c.map .int), .int (i + 1), .int r2, .int s]) e7 rfl rfl rfl rfl)]
        exact ⟨(s * 48271 + 11) % 2147483647, (s * 48271 + 11) % 2147483647, rfl, Int.emod_nonneg _ (by decide), Int.emod_nonneg _ (by decide)⟩
      · rw [decide_eq_false k, if_neg Bool.false_ne_true]
        exact ⟨r2, s, rfl, hr2, hs⟩
    have first : sIf (tBl (vOp eqO (vOp ixO (vVar 0) (vC (.int 2))) (vC (.int 0)))) (sSeq (sSetIx (vOp addO (vOp ixO (vVar 0) (vC (.int 1))) (vC (.int 1))) (vVar 0) (vC (.int 1))) (sSeq (sIf (tBl (vOp ltI (vOp ixO (vVar 0) (vC (.int 1))) (vCall lenB (aCons (vOp ixO (vVar 0) (vC (.int 0))) aNil)))) (sSetIx (vOp ixO (vOp ixO (vVar 0) (vC (.int 0))) (vOp ixO (vVar 0) (vC (.int 1)))) (vVar 0) (vC (.int 2))) sPass) (sIf (tBl (vOp eqO (vOp ixO (vVar 0) (vC (.int 2))) (vC (.int 0)))) (sSeq (sSetIx (vOp modO (vCall intB (aCons (vOp addO (vOp mulO (vOp ixO (vVar 0) (vC (.int 3))) (vC (.int 48271))) (vC (.int 11))) aNil)) (vC (.int 2147483647))) (vVar 0) (vC (.int 3))) (sSetIx (vOp ixO (vVar 0) (vC (.int 3))) (vVar 0) (vC (.int 2)))) sPass))) sPass
        [some (.loc 0), some (.int many), none] [dr c i 0 s] = some (.nx [some (.loc 0), some (.int many), none], [dr c (i + 1) r3 s3]) := by
      rw [sIf_of (t1 _ _ _), decide_eq_true rfl, if_pos rfl, sSeq_nx s1, sSeq_nx s2]
      exact e6
    rw [sSeq_nx first]
    obtain ⟨v, m', e, ⟨r', rfl, hr'⟩, hv⟩ := fin (i + 1) r3 s3 (by omega) hr3 hs3
    exact ⟨v, _, e, ⟨c, i + 1, r', s3, rfl, hc, by omega, hr', hs3⟩, hv⟩
  · have first : sIf (tBl (vOp eqO (vOp ixO (vVar 0) (vC (.int 2))) (vC (.int 0)))) (sSeq (sSetIx (vOp addO (vOp ixO (vVar 0) (vC (.int 1))) (vC (.int 1))) (vVar 0) (vC (.int 1))) (sSeq (sIf (tBl (vOp ltI (vOp ixO (vVar 0) (vC (.int 1))) (vCall lenB (aCons (vOp ixO (vVar 0) (vC (.int 0))) aNil)))) (sSetIx (vOp ixO (vOp ixO (vVar 0) (vC (.int 0))) (vOp ixO (vVar 0) (vC (.int 1)))) (vVar 0) (vC (.int 2))) sPass) (sIf (tBl (vOp eqO (vOp ixO (vVar 0) (vC (.int 2))) (vC (.int 0)))) (sSeq (sSetIx (vOp modO (vCall intB (aCons (vOp addO (vOp mulO (vOp ixO (vVar 0) (vC (.int 3))) (vC (.int 48271))) (vC (.int 11))) aNil)) (vC (.int 2147483647))) (vVar 0) (vC (.int 3))) (sSetIx (vOp ixO (vVar 0) (vC (.int 3))) (vVar 0) (vC (.int 2)))) sPass))) sPass
        [some (.loc 0), some (.int many), none] [dr c i r s] = some (.nx [some (.loc 0), some (.int many), none], [dr c i r s]) := by
      rw [sIf_of (t1 _ _ _), decide_eq_false z, if_neg Bool.false_ne_true]
      rfl
    rw [sSeq_nx first]
    obtain ⟨v, m', e, ⟨r', rfl, hr'⟩, hv⟩ := fin i r s hi hr hs
    exact ⟨v, _, e, ⟨c, i, r', s, rfl, hc, hi, hr', hs⟩, hv⟩
end Lw
end

section
set_option Elab.async false
set_option linter.all false
set_option maxRecDepth 100000
namespace Lw
open PySem DL L2
theorem aC_of {fa : Dm D} {fs : Dm (List D)} {ρ : DEnv} {M M1 M2 : DSt} {a : D} {as : List D} (h : fa ρ M = some (.ok a M1)) (h2 : fs ρ M1 = some (.ok as M2)) : aCons fa fs ρ M = some (.ok (a :: as) M2) := by
  unfold aCons
  rw [h, bnd_ok, h2]
  rfl
theorem abs_ge (i : Int) : 0 ≤ (if i < 0 then -i else i) := by
  split <;> omega
theorem draw_of (ns : List Int) (hl : ns.length ≤ 63) : ∃ m, m__law_draw [.rol (ns.map .int)] [] = some (.ok (.loc 0) [m]) ∧ Drw m := by
  suffices q : ∃ m, b__law_draw [some (.rol (ns.map .int)), none, none] [] = some (.rt (.loc 0), [m]) ∧ Drw m by
    obtain ⟨m, e, h⟩ := q
    refine ⟨m, ?_, h⟩
    show defSemS 1 3 b__law_draw _ _ = _
    unfold defSemS
    rw [if_pos (show [D.rol (ns.map D.int)].length = 1 from rfl)]
    show (match b__law_draw [some (.rol (ns.map .int)), none, none] [] with
      | some (.rt d, M') => some (Out.ok d M')
      | some (.nx _, M') => some (Out.ok .non M')
      | some (.ex x _, M') => if XrOk x = true then some (Out.ex x M') else none
      | _ => none) = _
    rw [e]
  unfold b__law_draw
  have s0 : sAsg (vC (.int 7)) (gN 1) [some (.rol (ns.map .int)), none, none] [] = some (.nx [some (.rol (ns.map .int)), some (.int 7), none], []) := rfl
  rw [sSeq_nx s0]
  obtain ⟨ρ', M', e, h⟩ := sFor_of (fi := iSeq (vVar 0)) (it := .seq (.rol (ns.map D.int))) (xs := ns.map D.int) (T := gN 2) (body := sAsg (vOp modO (vCall intB (aCons (vOp addO (vOp addO (vOp mulO (vVar 1) (vC (.int 48271))) (vOp modO (vCall absB (aCons (vCall intB (aCons (vVar 2) aNil)) aNil)) (vC (.int 65521)))) (vC (.int 1))) aNil)) (vC (.int 2147483647))) (gN 1))
    (ρ := [some (.rol (ns.map .int)), some (.int 7), none]) (M := []) (M1 := [])
    (fun xs ρ M => ∃ todo : List Int, xs = todo.map D.int ∧ ∃ s v, 0 ≤ s ∧ ρ = [some (.rol (ns.map .int)), some (.int s), v] ∧ M = []) rfl rfl (fun xs' ρ M h => rfl) (fun x xs ρ M h => by
      obtain ⟨todo, e1, s, v, hs, rfl, rfl⟩ := h
      obtain ⟨c, rest, rfl⟩ : ∃ c rest, todo = c :: rest := by
        cases todo with
        | nil => cases e1
        | cons a b => exact ⟨a, b, rfl⟩
      rw [List.map_cons] at e1
      obtain ⟨rfl, rfl⟩ := List.cons.inj e1
      have ev : vOp modO (vCall intB (aCons (vOp addO (vOp addO (vOp mulO (vVar 1) (vC (.int 48271))) (vOp modO (vCall absB (aCons (vCall intB (aCons (vVar 2) aNil)) aNil)) (vC (.int 65521)))) (vC (.int 1))) aNil)) (vC (.int 2147483647))
          [some (.rol (ns.map .int)), some (.int s), some (.int c)] [] = some (.ok (.int ((s * 48271 + (if c < 0 then -c else c) % 65521 + 1) % 2147483647)) []) := by
        refine vOp_of (vCall_of (a1_of (vOp_of (vOp_of (vOp_of (a := .int s) (b := .int 48271) (d := .int (s * 48271)) (M1 := []) rfl rfl ?_) (vOp_of (d := .int ((if c < 0 then -c else c) % 65521)) (vCall_of (a1_of (vCall_of (a1_of rfl) rfl)) rfl) rfl rfl) rfl) rfl rfl)) rfl) rfl rfl
        show (if s.natAbs < 2 ^ 64 ∨ (48271 : Int).natAbs < 2 ^ 64 then some (D.int (s * 48271)) else none) = _
        rw [if_pos (Or.inr (by decide))]
      exact ⟨_, _, _, rfl, sAsg_of ev, rest, rfl, _, some (.int c), Int.emod_nonneg _ (by decide), rfl, rfl⟩) ⟨ns, rfl, 7, none, by decide, rfl, rfl⟩
  rw [sSeq_nx e]
  obtain ⟨todo, _, s, v, hs, rfl, rfl⟩ := h
  have lc : vLc (iSeq (vVar 0)) (gN 2) tTrue (vCall absB (aCons (vCall intB (aCons (vVar 2) aNil)) aNil)) [2] [some (.rol (ns.map .int)), some (.int s), v] [] = some (.ok (.lst (ns.map fun c => D.int (if c < 0 then -c else c))) []) :=
    vLc_map (as := ns) (e := D.int) (it := .seq (.rol (ns.map D.int))) rfl rfl fun c hc => rfl
  refine ⟨dr (ns.map fun c => if c < 0 then -c else c) (-1) 0 s, sRet_of ?_, _, _, _, _, rfl, ?_, by decide, by decide, hs⟩
  · have a4 : aCons (vLc (iSeq (vVar 0)) (gN 2) tTrue (vCall absB (aCons (vCall intB (aCons (vVar 2) aNil)) aNil)) [2]) (aCons (vUn negU (vC (.int 1))) (aCons (vC (.int 0)) (aCons (vVar 1) aNil))) [some (.rol (ns.map .int)), some (.int s), v] [] =
        some (.ok [.lst (ns.map fun c => D.int (if c < 0 then -c else c)), .int (-1), .int 0, .int s] []) := by
      exact aC_of lc rfl
    unfold vLstM
    rw [a4, bnd_ok]
    show some (Out.ok (D.loc 0) [MO.lst [.lst (ns.map fun c => D.int (if c < 0 then -c else c)), .int (-1), .int 0, .int s]]) = _
    unfold dr
    rw [List.map_map]
    rfl
  · intro x hx
    obtain ⟨c, _, rfl⟩ := List.mem_map.mp hx
    exact abs_ge c
/-- a comprehension over a range whose turns change the draw -/
theorem lcGo_draw {it : ItD} {xs0 : List D} {step : D → DSt → R (List D)} {P : Int → Prop} (hi : ∀ m, Drw m → it.items [m] = some xs0) (hs : ∀ x m, x ∈ xs0 → Drw m → ∃ v m', step x [m] = some (.ok [.int v] [m']) ∧ Drw m' ∧ P v) :
    ∀ (xs : List D) (m : MO), (∀ x ∈ xs, x ∈ xs0) → Drw m → ∃ (l : List Int) (m' : MO), lcGo it xs0 step xs [m] = some (.ok (l.map D.int) [m']) ∧ Drw m' ∧ l.length = xs.length ∧ ∀ v ∈ l, P v
  | [], m, _, h => ⟨[], m, by unfold lcGo; rw [if_pos (hi m h)]; rfl, h, rfl, fun _ z => nomatch z⟩
  | x :: xs, m, hx, h => by
    obtain ⟨v, m1, e1, h1, p1⟩ := hs x m (hx x List.mem_cons_self) h
    obtain ⟨l, m2, e2, h2, hl, p2⟩ := lcGo_draw hi hs xs m1 (fun y hy => hx y (List.mem_cons_of_mem _ hy)) h1
    refine ⟨v :: l, m2, ?_, h2, by rw [List.length_cons, List.length_cons, hl], fun y hy => ?_⟩
    · unfold lcGo
      rw [if_pos (hi m h), e1]
      dsimp only
      rw [e2]
      rfl
    · rcases List.mem_cons.mp hy with rfl | hy
      · exact p1
      · exact p2 y hy
theorem view_of {m : MO} (h : Drw m) {n : Nat} (hn : n ≤ 6) : ∃ l m', m__law_view [.loc 0, .int (n : Int)] [m] = some (.ok (tI l) [m']) ∧ Drw m' ∧ l.length = n ∧ ∀ v ∈ l, 0 ≤ v ∧ v ≤ 3 := by
  suffices q : ∃ l m', b__law_view [some (.loc 0), some (.int (n : Int)), none, none] [m] = some (.rt (tI l), [m']) ∧ Drw m' ∧ l.length = n ∧ ∀ v ∈ l, 0 ≤ v ∧ v ≤ 3 by
    obtain ⟨l, m', e, k, hv⟩ := q
    obtain ⟨c', i', r', s', rfl, ok⟩ := k
    exact ⟨l, _, def_rt1 rfl (unders_ints 0 l) (by simp) e, ⟨c', i', r', s', rfl, ok⟩, hv⟩
  unfold b__law_view
  obtain ⟨t, m1, e1, h1, t0, t1⟩ := take_of h (many := 4) (by decide) (by decide)
  have s0 : sAsg (vOp addO (vC (.int 1)) (vFn 1 2 m__law_take (aCons (vVar 0) (aCons (vC (.int 4)) aNil)))) (gN 2) [some (.loc 0), some (.int (n : Int)), none, none] [m] = some (.nx [some (.loc 0), some (.int (n : Int)), some (.int (1 + t)), none], [m1]) :=
    sAsg_of (i := 2) (vOp_of (a := .int 1) (M1 := [m]) rfl (vFn1 (np := 2) (ds := [.loc 0, .int 4]) (a2_of rfl rfl) rfl rfl h.under rfl e1) rfl)
  rw [sSeq_nx s0]
  obtain ⟨l, m2, e2, h2, hl, p2⟩ := lcGo_draw (it := .rng 0 n) (xs0 := (List.range n).map fun i : Nat => D.int (i : Int)) (step := lcStep (gN 3) tTrue (vFn 1 2 m__law_take (aCons (vVar 0) (aCons (vVar 2) aNil))) [some (.loc 0), some (.int (n : Int)), some (.int (1 + t)), none]) (P := fun v => 0 ≤ v ∧ v ≤ 3)
    (fun m _ => rng_items n [m]) (fun x m hx hm => by
      obtain ⟨v, m', e, k, v0, v1⟩ := take_of hm (many := 1 + t) (by omega) (by omega)
      refine ⟨v, m', ?_, k, v0, by omega⟩
      have ev : vFn 1 2 m__law_take (aCons (vVar 0) (aCons (vVar 2) aNil)) [some (.loc 0), some (.int (n : Int)), some (.int (1 + t)), some x] [m] = some (.ok (.int v) [m']) :=
        vFn1 (np := 2) (ds := [.loc 0, .int (1 + t)]) (a2_of rfl rfl) rfl rfl hm.under rfl e
      simp only [lcStep, gN, tTrue, List.set_cons_succ, List.set_cons_zero]
      rw [ev]) _ m1 (fun _ z => z) h1
  refine ⟨l, m2, sRet_of (vCall_of (a1_of (a := .lst (l.map D.int)) ?_) rfl), h2, by rw [hl, List.length_map, List.length_range], p2⟩
  unfold vLc
  have r1 : iRange1 (vVar 1) [some (.loc 0), some (.int (n : Int)), some (.int (1 + t)), none] [m1] = some (.ok (.rng 0 n) [m1]) := range1_of (n := n) rfl (by omega)
  rw [r1, bnd_ok, rng_items]
  dsimp only
  show (match lcGo (.rng 0 n) ((List.range n).map fun i : Nat => D.int (i : Int)) (lcStep (gN 3) tTrue (vFn 1 2 m__law_take (aCons (vVar 0) (aCons (vVar 2) aNil))) [some (.loc 0), some (.int (n : Int)), some (.int (1 + t)), none]) ((List.range n).map fun i : Nat => D.int (i : Int)) [m1] with
    | some (.ok ds M') => some (Out.ok (D.lst ds) M')
    | _ => none) = _
  rw [e2]
theorem okView_of {l : List Int} {n : Nat} (h1 : 1 ≤ n) (h2 : n ≤ 6) (hl : l.length = n) (hv : ∀ v ∈ l, 0 ≤ v ∧ v ≤ 3) : okView l = true := by
  unfold okView
  rw [Bool.and_eq_true, decide_eq_true_eq, List.all_eq_true]
  refine ⟨by omega, fun v h => ?_⟩
  have := hv v h
  rw [decide_eq_true_eq]
  omega
end Lw
end

section
set_option Elab.async false
set_option linter.all false
set_option maxRecDepth 100000
namespace Lw
open PySem DL L2
/-- no view -/
def NoView (d : D) : Prop := d.under 0 = true ∧ m_is_view [d] [] = some (.ok (.bl false) [])
theorem noview_tup {ds : List D} (hu : D.unders 0 ds = true) (h : ¬ (1 ≤ ds.length ∧ ds.length ≤ 6) ∨ ∃ d ∈ ds, okL d = false) : NoView (.tup ds) := by
  refine ⟨hu, ?_⟩
  rw [view_tup ds hu]
  congr 3
  rw [Bool.and_eq_false_iff]
  rcases h with h | ⟨d, h1, h2⟩
  · exact .inl (decide_eq_false h)
  · exact .inr (List.all_eq_false.mpr ⟨d, h1, by rw [h2]; decide⟩)
theorem odd_of {m : MO} (h : Drw m) {a : List Int} (ha : a.length ≤ 5) : ∃ d m', m__law_odd_view [.loc 0, tI a] [m] = some (.ok d [m']) ∧ Drw m' ∧ NoView d := by
  suffices q : ∃ d m', b__law_odd_view [some (.loc 0), some (tI a)] [m] = some (.rt d, [m']) ∧ Drw m' ∧ NoView d by
    obtain ⟨d, m', e, k, hv⟩ := q
    obtain ⟨c', i', r', s', rfl, ok⟩ := k
    exact ⟨d, _, def_rt1 rfl hv.1 (by simp) e, ⟨c', i', r', s', rfl, ok⟩, hv⟩
  unfold b__law_odd_view
  obtain ⟨t, m1, e1, h1, t0, t1⟩ := take_of h (many := 9) (by decide) (by decide)
  have add : ∀ d : D, addO (tI a) (.tup [d]) [m] = some (.tup (a.map D.int ++ [d])) := fun d => by
    show (if (a.map D.int).length + 1 ≤ 1000000 then some (D.tup (a.map D.int ++ [d])) else none) = _
    rw [List.length_map, if_pos (by omega)]
  have av : ∀ (f : Dm D) (d : D), f [some (.loc 0), some (tI a)] [m] = some (.ok d [m]) → vOp addO (vVar 1) (vTup (aCons f aNil)) [some (.loc 0), some (tI a)] [m] = some (.ok (.tup (a.map D.int ++ [d])) [m]) := fun f d hf =>
    vOp_of (a := tI a) (b := .tup [d]) (M1 := [m]) rfl (by unfold vTup; rw [a1_of hf]; rfl) (add d)
  let xs : List D := [.non, .tup [], .int 5, .lst (a.map D.int), .tup (a.map D.int ++ [.int 10]), .tup (a.map D.int ++ [.int (-1)]), .tup (a.map D.int ++ [.bl true]), .tup (a.map D.int ++ [.str "0"]), .tup (List.replicate 7 (.int 0))]
  have hx : ∀ d ∈ xs, NoView d := by
    have more : ∀ d : D, d.under 0 = true → okL d = false → NoView (.tup (a.map D.int ++ [d])) := fun d h0 h => noview_tup (unders_all fun e he => by
      rcases List.mem_append.mp he with he | he
      · obtain ⟨i, _, rfl⟩ := List.mem_map.mp he
        rfl
      · rw [List.mem_singleton.mp he]
        exact h0) (.inr ⟨d, List.mem_append_right _ List.mem_cons_self, h⟩)
    intro d hd
    simp only [xs, List.mem_cons, List.not_mem_nil, or_false] at hd
    rcases hd with rfl | rfl | rfl | rfl | rfl | rfl | rfl | rfl | rfl
    · exact ⟨rfl, view_not rfl fun _ z => nomatch z⟩
    · exact noview_tup rfl (.inl (by decide))
    · exact ⟨rfl, view_not rfl fun _ z => nomatch z⟩
    · exact ⟨unders_ints 0 a, view_not (unders_ints 0 a) fun _ z => nomatch z⟩
    · exact more _ rfl rfl
    · exact more _ rfl rfl
    · exact more _ rfl rfl
    · exact more _ rfl rfl
    · exact noview_tup rfl (.inl (by decide))
  have el : vLst (aCons (vC .non) (aCons (vTup aNil) (aCons (vC (.int 5)) (aCons (vCall lstB (aCons (vVar 1) aNil)) (aCons (vOp addO (vVar 1) (vTup (aCons (vC (.int 10)) aNil))) (aCons (vOp addO (vVar 1) (vTup (aCons (vUn negU (vC (.int 1))) aNil))) (aCons (vOp addO (vVar 1) (vTup (aCons (vC (.bl true)) aNil))) (aCons (vOp addO (vVar 1) (vTup (aCons (vC (.str "0")) aNil))) (aCons (vOp mulO (vTup (aCons (vC (.int 0)) aNil)) (vC (.int 7))) aNil))))))))) [some (.loc 0), some (tI a)] [m] = some (.ok (.lst xs) [m]) := by
    unfold vLst
    rw [aC_of (M1 := [m]) (a := .non) rfl (aC_of (M1 := [m]) (a := .tup []) rfl (aC_of (M1 := [m]) (a := .int 5) rfl (aC_of (M1 := [m]) (a := .lst (a.map D.int)) rfl (aC_of (av _ (.int 10) rfl) (aC_of (av _ (.int (-1)) rfl) (aC_of (av _ (.bl true) rfl) (aC_of (av _ (.str "0") rfl) (aC_of (M1 := [m]) (a := .tup (List.replicate 7 (.int 0))) rfl (rfl : aNil _ [m] = some (.ok [] [m]))))))))))]
    rfl
  obtain ⟨j, rfl⟩ : ∃ j : Nat, t = (j : Int) := ⟨t.toNat, by omega⟩
  have jl : j < xs.length := by
    show j < 9
    omega
  refine ⟨xs[j], m1, sRet_of (vOp_of el (vFn1 (np := 2) (ds := [.loc 0, .int 9]) (a2_of rfl rfl) rfl rfl h.under rfl e1) ?_), h1, hx _ (List.getElem_mem jl)⟩
  exact atI_nat (List.getElem?_eq_getElem jl)
/-- a pair that is refused -/
def Refuse (d e : D) : Prop := d.under 0 = true ∧ e.under 0 = true ∧ m_check_views [d, e] [] = some (.ex bad [])
theorem refuse_l {d e : D} (h : NoView d) (he : e.under 0 = true) : Refuse d e := ⟨h.1, he, check_bad h.1 he (.inl h.2)⟩
theorem refuse_r {d e : D} (h : NoView e) (hd : d.under 0 = true) : Refuse d e := ⟨hd, h.1, check_bad hd h.1 (.inr (.inl h.2))⟩
theorem refuse_len {a b : List Int} (h : a.length ≠ b.length) : Refuse (tI a) (tI b) := ⟨unders_ints 0 a, unders_ints 0 b, check_bad (unders_ints 0 a) (unders_ints 0 b) (.inr (.inr ⟨_, _, rfl, rfl, by rw [List.length_map, List.length_map]; exact h⟩))⟩
theorem check_ex {d e : D} (h : Refuse d e) {f g : Dm D} {ρ : DEnv} {M : DSt} (h1 : f ρ M = some (.ok d M)) (h2 : g ρ M = some (.ok e M)) : sExp (vFn 0 2 m_check_views (aCons f (aCons g aNil))) ρ M = some (.ex bad ρ, M) :=
  sExp_ex (vFn0x (np := 2) (ds := [d, e]) (a2_of h1 h2) rfl (by simp [h.1, h.2.1]) rfl h.2.2)
theorem told_bad {w : Int} {d e : D} (h0 : 0 ≤ w) (h2 : w ≤ 2) (h : Refuse d e) (hw : w = 2 → Refuse d d) : m__law_told [.int w, d, e] [] = some (.ok (.str "<malformed>") []) := by
  refine def_rt rfl rfl ?_
  show b__law_told [some (.int w), some d, some e] [] = _
  have vt : m_view_tells [d, e] [] = some (.ex bad []) := def_ex (ρ := [some d, some e]) rfl rfl (by
    show b_view_tells [some d, some e] [] = _
    exact sSeq_ex (check_ex h rfl rfl))
  have ac : m_are_complements [d, e] [] = some (.ex bad []) := def_ex (ρ := [some d, some e]) rfl rfl (by
    show b_are_complements [some d, some e] [] = _
    exact sSeq_ex (check_ex h rfl rfl))
  have two : ∀ {φ : List D → DSt → R D}, φ [d, e] [] = some (.ex bad []) → vFn 0 2 φ (aCons (vVar 1) (aCons (vVar 2) aNil)) [some (.int w), some d, some e] [] = some (.ex bad []) := fun q =>
    vFn0x (np := 2) (ds := [d, e]) (a2_of rfl rfl) rfl (by simp [h.1, h.2.1]) rfl q
  have tw : ∀ k : Int, tBl (vOp eqO (vVar 0) (vC (.int k))) [some (.int w), some d, some e] [] = some (.ok (decide (w = k)) []) := fun k => tBl_of (vOp_of (a := .int w) (M1 := []) rfl rfl (eqO_int w k _))
  have inner : sSeq (sIf (tBl (vOp eqO (vVar 0) (vC (.int 0)))) (sRet (vFn 0 2 m_view_tells (aCons (vVar 1) (aCons (vVar 2) aNil)))) sPass) (sRet (vIf (tBl (vOp eqO (vVar 0) (vC (.int 1)))) (vFn 0 2 m_are_complements (aCons (vVar 1) (aCons (vVar 2) aNil))) (vFn 0 1 m_least_complements (aCons (vVar 1) aNil)))) [some (.int w), some d, some e] [] = some (.ex bad [some (.int w), some d, some e], []) := by
    by_cases z : w = 0
    · refine sSeq_ex ?_
      rw [sIf_of (tw 0), decide_eq_true z, if_pos rfl]
      exact sRet_ex (two vt)
    · have s1 : sIf (tBl (vOp eqO (vVar 0) (vC (.int 0)))) (sRet (vFn 0 2 m_view_tells (aCons (vVar 1) (aCons (vVar 2) aNil)))) sPass [some (.int w), some d, some e] [] = some (.nx [some (.int w), some d, some e], []) := by
        rw [sIf_of (tw 0), decide_eq_false z, if_neg Bool.false_ne_true]
        rfl
      rw [sSeq_nx s1]
      refine sRet_ex ?_
      unfold vIf
      rw [tw 1, bnd_ok]
      by_cases o : w = 1
      · rw [decide_eq_true o, if_pos rfl]
        exact two ac
      · rw [decide_eq_false o, if_neg Bool.false_ne_true]
        have r := hw (by omega)
        have lc : m_least_complements [d] [] = some (.ex bad []) := def_ex (ρ := [some d, none, none, none, none]) rfl rfl (by
          show b_least_complements [some d, none, none, none, none] [] = _
          exact sSeq_ex (check_ex r rfl rfl))
        exact vFn0x (np := 1) (ds := [d]) (a1_of rfl) rfl (by simp [r.1]) rfl lc
  unfold b__law_told sTry
  rw [inner]
  rfl
end Lw
end

section
set_option Elab.async false
set_option linter.all false
set_option maxRecDepth 100000
namespace Lw
open PySem DL L2
/-! the order of the plain views -/
theorem pl_sorted : (List.range 6).all (fun n => decide ((plains n).Pairwise fun a b => ¬ b < a)) = true := by decide +kernel
theorem leD_tI (a b : List Int) : leD (tI a) (tI b) = !decide (b < a) := by
  show (!PySem.W.dataLt (.tuple (pyDs (b.map D.int))) (.tuple (pyDs (a.map D.int)))) = _
  rw [pyDs_ints, pyDs_ints, PySem.W.dataLt_tuple]
  show (!PySem.W.rowLt (b.map PyData.int) (a.map PyData.int)) = _
  rw [PySem.W.dataLt_ints]
theorem sort_of {n : Nat} (hn : n < 6) {l : List (List Int)} (h : l.Sublist (plains n)) : (l.map tI).mergeSort leD = l.map tI := by
  refine List.mergeSort_of_pairwise ?_
  rw [List.pairwise_map]
  have k := of_decide_eq_true (List.all_eq_true.mp pl_sorted n (List.mem_range.mpr hn))
  refine (k.sublist h).imp fun {a b} hab => ?_
  rw [leD_tI, decide_eq_false hab]
  rfl
theorem alike_ints : ∀ a b : List Int, PySem.W.alikeAll (a.map PyData.int) (b.map PyData.int) = true
  | [], _ => by simp [PySem.W.alikeAll]
  | _ :: _, [] => by simp [PySem.W.alikeAll]
  | x :: a, y :: b => by
    simp only [List.map_cons, PySem.W.alikeAll, alike_ints a b]
    simp [PySem.W.alike]
theorem sortOk_of {l : List (List Int)} (h : ∀ a ∈ l, a ≠ []) (hl : l.length ≤ 1000000) : sortOk (l.map tI) = true := by
  unfold sortOk
  have h1 : alikes (l.map tI) = true := by
    unfold alikes
    rw [List.all_eq_true]
    intro x hx
    rw [List.all_eq_true]
    intro y hy
    obtain ⟨a, _, rfl⟩ := List.mem_map.mp hx
    obtain ⟨b, _, rfl⟩ := List.mem_map.mp hy
    show PySem.W.alike (.tuple (pyDs (a.map D.int))) (.tuple (pyDs (b.map D.int))) = true
    rw [pyDs_ints, pyDs_ints]
    simp only [PySem.W.alike, alike_ints]
  have h2 : (l.map tI).all filledT = true := by
    rw [List.all_eq_true]
    intro x hx
    obtain ⟨a, ha, rfl⟩ := List.mem_map.mp hx
    cases a with
    | nil => exact absurd rfl (h _ ha)
    | cons i r => rfl
  have h3 : (l.map tI).all okD = true := by
    rw [List.all_eq_true]
    intro x hx
    obtain ⟨a, ha, rfl⟩ := List.mem_map.mp hx
    exact okD_tI a
  rw [unders_tIs, h1, h2, h3, List.length_map, decide_eq_true hl]
  rfl
/-! the text of tuples -/
def Short (b : Nat) (d : PyData) : Prop := d.showable = true ∧ d.shown.length ≤ b ∧ ∀ c ∈ d.shown.cps.toList, c < 1114112
theorem short_dig : ∀ i : Int, 0 ≤ i ∧ i ≤ 9 → Short 1 (.int i) := by
  intro i h
  obtain ⟨m, rfl⟩ : ∃ m : Nat, i = (m : Int) := ⟨i.toNat, by omega⟩
  have hm : m < 10 := by omega
  have key : (List.range 10).all (fun m => decide ((PyData.int (m : Int)).showable = true) && decide (((Nat.toDigits 10 m).map Char.toNat).length = 1) && ((Nat.toDigits 10 m).map Char.toNat).all fun c => decide (c < 1114112)) = true := by decide +kernel
  have k := List.all_eq_true.mp key m (List.mem_range.mpr hm)
  simp only [Bool.and_eq_true, decide_eq_true_eq, List.all_eq_true] at k
  have e : (PyData.int (m : Int)).shown.cps.toList = (Nat.toDigits 10 m).map Char.toNat := PySem.W.KIN.signs_num m
  refine ⟨k.1.1, ?_, fun c hc => k.2 c (by rw [← e]; exact hc)⟩
  show (PyData.int (m : Int)).shown.cps.size ≤ 1
  rw [← Array.length_toList, e, k.1.2]
  exact Nat.le_refl _
theorem shownAll_map : ∀ xs : List PyData, PyData.shownAll xs = xs.map PyData.shown
  | [] => rfl
  | x :: xs => by
    show PyData.shown x :: PyData.shownAll xs = _
    rw [shownAll_map xs]
    rfl
theorem showableAll_of : ∀ xs : List PyData, (∀ x ∈ xs, x.showable = true) → PyData.showableAll xs = true
  | [], _ => rfl
  | x :: xs, h => by
    show (PyData.showable x && PyData.showableAll xs) = true
    rw [h x List.mem_cons_self, showableAll_of xs fun y hy => h y (List.mem_cons_of_mem _ hy)]
    rfl
theorem piled_le {b : Nat} : ∀ ts : List Str, (∀ t ∈ ts, t.length ≤ b) → piled ts ≤ ts.length * (b + 2)
  | [], _ => by simp [piled]
  | t :: ts, h => by
    rw [piled_cons, List.length_cons, Nat.succ_mul]
    have h1 := h t List.mem_cons_self
    have h2 := piled_le ts fun y hy => h y (List.mem_cons_of_mem _ hy)
    omega
theorem short_tup {b : Nat} {xs : List PyData} (h : ∀ x ∈ xs, Short b x) : Short (xs.length * (b + 2) + 3) (.tuple xs) := by
  refine ⟨showableAll_of xs fun x hx => (h x hx).1, ?_, fun c hc => ?_⟩
  · show (tupleText (PyData.shownAll xs)).length ≤ _
    rw [shownAll_map]
    have jl : (Str.join ", " (xs.map PyData.shown)).length ≤ xs.length * (b + 2) := by
      cases xs with
      | nil => exact Nat.zero_le _
      | cons x r =>
        have q := join_length_add ((x :: r).map PyData.shown) (by simp)
        have p := piled_le (b := b) ((x :: r).map PyData.shown) fun t ht => by
          obtain ⟨y, hy, rfl⟩ := List.mem_map.mp ht
          exact (h y hy).2.1
        rw [List.length_map] at p
        omega
    unfold tupleText
    rw [strLen_append, strLen_append]
    have e1 : (("(" : String) : Str).length = 1 := rfl
    have e2 : (((if (xs.map PyData.shown).length == 1 then ",)" else ")" : String)) : Str).length ≤ 2 := by
      split
      · exact Nat.le_refl 2
      · exact Nat.le_succ 1
    omega
  · have hc' : c ∈ (tupleText (PyData.shownAll xs)).cps.toList := hc
    rw [shownAll_map] at hc'
    unfold tupleText at hc'
    rw [PyProof.Rows.mem_cps_append, PyProof.Rows.mem_cps_append, PyProof.Rows.mem_join] at hc'
    rcases hc' with (hc' | (⟨t, ht, hc'⟩ | ⟨_, hc'⟩)) | hc'
    · have : c ∈ [40] := hc'
      simp at this
      omega
    · obtain ⟨y, hy, rfl⟩ := List.mem_map.mp ht
      exact (h y hy).2.2 c hc'
    · have : c ∈ [44, 32] := hc'
      simp at this
      omega
    · split at hc'
      · have : c ∈ [44, 41] := hc'
        simp at this
        omega
      · have : c ∈ [41] := hc'
        simp at this
        omega
theorem canLay_rows : ∀ l : List (List Int), PyData.canLayAll0 (l.map fun a => PyData.tuple (a.map PyData.int)) = true
  | [] => rfl
  | a :: l => by
    show (PyData.canLayAll0 (a.map PyData.int) && PyData.canLayAll0 (l.map fun a => PyData.tuple (a.map PyData.int))) = true
    rw [canLay_ints, canLay_rows l]
    rfl
theorem depth_rows : ∀ l : List (List Int), PyData.depthAll (l.map fun a => PyData.tuple (a.map PyData.int)) ≤ 1
  | [] => Nat.zero_le _
  | a :: l => by
    show max (PyData.depthAll (a.map PyData.int) + 1) (PyData.depthAll (l.map fun a => PyData.tuple (a.map PyData.int))) ≤ 1
    rw [depth_ints]
    have := depth_rows l
    omega
/-- the text of rows of labels -/
theorem repr_of {l : List (List Int)} (h : ∀ a ∈ l, a.length ≤ 6 ∧ ∀ x ∈ a, 0 ≤ x ∧ x ≤ 9) (hl : l.length ≤ 60) (M : DSt) : ∃ z : Str, reprB [.tup (l.map tI)] M = some (.str z) ∧ okD (.str z) = true := by
  have e0 : pyD (.tup (l.map tI)) = .tuple (l.map fun a => PyData.tuple (a.map PyData.int)) := by
    show PyData.tuple (pyDs (l.map tI)) = _
    rw [pyDs_map, List.map_map]
    congr 1
    exact List.map_congr_left fun a _ => by
      show PyData.tuple (pyDs (a.map D.int)) = _
      rw [pyDs_ints]
  have sh : Short (l.length * (21 + 2) + 3) (pyD (.tup (l.map tI))) := by
    rw [e0]
    have k := short_tup (b := 21) (xs := l.map fun a => PyData.tuple (a.map PyData.int)) fun x hx => by
      obtain ⟨a, ha, rfl⟩ := List.mem_map.mp hx
      obtain ⟨h1, h2, h3⟩ := short_tup (b := 1) (xs := a.map PyData.int) fun y hy => by
        obtain ⟨i, hi, rfl⟩ := List.mem_map.mp hy
        exact short_dig i ((h a ha).2 i hi)
      rw [List.length_map] at h2
      have := (h a ha).1
      exact ⟨h1, by omega, h3⟩
    rw [List.length_map] at k
    exact k
  have ok : okD (.tup (l.map tI)) = true := by
    show (PyData.canLay0 (pyD (.tup (l.map tI))) && decide (PyData.depth (pyD (.tup (l.map tI))) ≤ 64)) = true
    rw [e0]
    show (PyData.canLayAll0 (l.map fun a => PyData.tuple (a.map PyData.int)) && decide (PyData.depthAll (l.map fun a => PyData.tuple (a.map PyData.int)) + 1 ≤ 64)) = true
    rw [canLay_rows, decide_eq_true (by have := depth_rows l; omega)]
    rfl
  refine ⟨(pyD (.tup (l.map tI))).shown, ?_, ?_⟩
  · show ((clean M (.tup (l.map tI))).bind fun c => if (pyD c).showable = true ∧ (pyD c).shown.length ≤ 1000000 ∧ okD c = true then some (D.str (pyD c).shown) else none) = _
    rw [clean_same (d := .tup (l.map tI)) (unders_tIs 0 l), Option.bind_some, if_pos ⟨sh.1, by have := sh.2.1; omega, ok⟩]
  · show (PyData.strOk (pyD (.tup (l.map tI))).shown && decide (0 ≤ 64)) = true
    unfold PyData.strOk
    rw [Bool.and_eq_true]
    refine ⟨?_, rfl⟩
    rw [← Array.all_toList, List.all_eq_true]
    intro c hc
    exact decide_eq_true (sh.2.2 c hc)
end Lw
end

section
set_option Elab.async false
set_option linter.all false
set_option maxRecDepth 100000
namespace Lw
open PySem DL L2
theorem pl_less : (List.range 6).all (fun n => (plains n).all fun o => (plains n).all fun l => !tell o l || decide (l = o) || decide (dist l < dist o)) = true := by decide +kernel
theorem less_of {n : Nat} (hn : n < 6) {o l : List Int} (ho : o ∈ plains n) (hl : l ∈ plains n) (ht : tell o l = true) (hne : l ≠ o) : dist l < dist o := by
  have k := List.all_eq_true.mp (List.all_eq_true.mp (List.all_eq_true.mp pl_less n (List.mem_range.mpr hn)) o ho) l hl
  rw [ht, decide_eq_false hne] at k
  simpa using k
/-- the plain form of a view -/
def Same (b p : List Int) : Prop := ∀ s < b.length, ∀ t < b.length, (b.getD s 0 = b.getD t 0 ↔ p.getD s 0 = p.getD t 0)
theorem getD_l {l m : List Int} {i : Nat} (h : i < l.length) : (l ++ m).getD i 0 = l.getD i 0 := by
  rw [List.getD_eq_getElem?_getD, List.getD_eq_getElem?_getD, List.getElem?_append_left h]
theorem getD_r {l : List Int} {x : Int} : (l ++ [x]).getD l.length 0 = x := by
  rw [List.getD_eq_getElem?_getD, List.getElem?_append_right (Nat.le_refl _), Nat.sub_self]
  rfl
theorem getD_in {l : List Int} {i : Nat} (h : i < l.length) : l.getD i 0 ∈ l := by
  rw [List.getD_eq_getElem?_getD, List.getElem?_eq_getElem h]
  exact List.getElem_mem h
theorem canon : ∀ (n : Nat), n < 6 → ∀ b : List Int, b.length = n → ∃ p ∈ plains n, Same b p
  | 0, _, b, hb => ⟨[], List.mem_cons_self, fun s hs => by omega⟩
  | n + 1, hn, b, hb => by
    obtain ⟨b0, x, rfl⟩ : ∃ b0 x, b = b0 ++ [x] := by
      have hne : b ≠ [] := fun z => by rw [z] at hb; cases hb
      exact ⟨b.dropLast, b.getLast hne, (List.dropLast_concat_getLast hne).symm⟩
    have hb0 : b0.length = n := by
      rw [List.length_append, List.length_singleton] at hb
      omega
    obtain ⟨p0, hp, sm⟩ := canon n (by omega) b0 hb0
    obtain ⟨r1, r2, r3, r4⟩ := (pl_at (by omega : n < 6)).2 p0 hp
    -- the new label
    obtain ⟨j, hj, hjs⟩ : ∃ j : Nat, j < dist p0 + 1 ∧ ∀ s < n, (b0.getD s 0 = x ↔ p0.getD s 0 = (j : Int)) := by
      by_cases h : ∃ s, s < n ∧ b0.getD s 0 = x
      · obtain ⟨s, hs, e⟩ := h
        have k := r4 _ (getD_in (l := p0) (i := s) (by omega))
        refine ⟨(p0.getD s 0).toNat, by omega, fun t ht => ?_⟩
        have e2 : (((p0.getD s 0).toNat : Nat) : Int) = p0.getD s 0 := by omega
        rw [e2, ← e]
        exact sm t (by omega) s (by omega)
      · refine ⟨dist p0, by omega, fun t ht => ⟨fun e => absurd ⟨t, ht, e⟩ h, fun e => ?_⟩⟩
        have k := r4 _ (getD_in (l := p0) (i := t) (by omega))
        omega
    refine ⟨p0 ++ [(j : Int)], ?_, fun s hs t ht => ?_⟩
    · rw [plains_step]
      exact List.mem_flatMap.mpr ⟨p0, hp, List.mem_map.mpr ⟨j, List.mem_range.mpr hj, rfl⟩⟩
    · rw [hb] at hs ht
      have one : ∀ s, s < n → (b0 ++ [x]).getD s 0 = b0.getD s 0 ∧ (p0 ++ [(j : Int)]).getD s 0 = p0.getD s 0 := fun s hs => ⟨getD_l (by omega), getD_l (by omega)⟩
      have last : (b0 ++ [x]).getD n 0 = x ∧ (p0 ++ [(j : Int)]).getD n 0 = (j : Int) := by
        refine ⟨?_, ?_⟩
        · rw [← hb0]; exact getD_r
        · rw [← r1]; exact getD_r
      by_cases h1 : s < n <;> by_cases h2 : t < n
      · rw [(one s h1).1, (one s h1).2, (one t h2).1, (one t h2).2]
        exact sm s (by omega) t (by omega)
      · have : t = n := by omega
        subst this
        rw [(one s h1).1, (one s h1).2, last.1, last.2]
        exact hjs s h1
      · have : s = n := by omega
        subst this
        rw [(one t h2).1, (one t h2).2, last.1, last.2]
        exact ⟨fun e => ((hjs t h2).mp e.symm).symm, fun e => ((hjs t h2).mpr e.symm).symm⟩
      · have e1 : s = n := by omega
        have e2 : t = n := by omega
        rw [e1, e2]
        simp
theorem tell_trans {a b c : List Int} (hab : a.length = b.length) (h1 : tell a b = true) (h2 : tell b c = true) : tell a c = true := by
  rw [tell_iff] at h1 h2 ⊢
  exact fun s hs t ht e => h2 s (by omega) t (by omega) (h1 s hs t ht e)
theorem part_same {a b p : List Int} (hl : a.length = b.length) (h : Same b p) : part a p = part a b := by
  unfold part
  congr 1
  rw [Bool.eq_iff_iff]
  simp only [List.any_eq_true, List.mem_range, Bool.and_eq_true, decide_eq_true_eq]
  constructor
  · rintro ⟨t, ht, s, hs, q1, q2, q3⟩
    exact ⟨t, ht, s, hs, q1, q2, (h s (by omega) t (by omega)).mpr q3⟩
  · rintro ⟨t, ht, s, hs, q1, q2, q3⟩
    exact ⟨t, ht, s, hs, q1, q2, (h s (by omega) t (by omega)).mp q3⟩
theorem lesser_iff {g : List (List Int)} {o : List Int} : lesser g o = true ↔ ∃ l ∈ g, l ≠ o ∧ tell o l = true := by
  unfold lesser
  simp only [List.any_eq_true, Bool.and_eq_true, Bool.not_eq_true', decide_eq_false_iff_not]
theorem down {a : List Int} (hn : a.length < 6) : ∀ (k : Nat) (o : List Int), o ∈ goods a → dist o ≤ k → ∃ l ∈ leasts a, tell o l = true := by
  intro k
  induction k with
  | zero =>
    intro o ho hk
    refine ⟨o, List.mem_filter.mpr ⟨ho, ?_⟩, by rw [tell_iff]; exact fun _ _ _ _ e => e⟩
    rw [Bool.not_eq_true', Bool.eq_false_iff]
    intro h
    obtain ⟨l, hl, hne, ht⟩ := lesser_iff.mp h
    have := less_of hn (goods_pl ho) (goods_pl hl) ht hne
    omega
  | succ k ih =>
    intro o ho hk
    by_cases h : lesser (goods a) o = true
    · obtain ⟨l, hl, hne, ht⟩ := lesser_iff.mp h
      have := less_of hn (goods_pl ho) (goods_pl hl) ht hne
      obtain ⟨q, hq, hq2⟩ := ih l hl (by omega)
      have e1 := ((pl_at hn).2 o (goods_pl ho)).1
      have e2 := ((pl_at hn).2 l (goods_pl hl)).1
      exact ⟨q, hq, tell_trans (by omega) ht hq2⟩
    · refine ⟨o, List.mem_filter.mpr ⟨ho, ?_⟩, by rw [tell_iff]; exact fun _ _ _ _ e => e⟩
      rw [Bool.not_eq_true', Bool.eq_false_iff]
      exact h
/-- a complement tells one of the least -/
theorem least_told {a b : List Int} (hn : a.length < 6) (hl : a.length = b.length) (h : part a b = true) : ∃ o ∈ leasts a, tell b o = true := by
  obtain ⟨p, hp, sm⟩ := canon b.length (by omega) b rfl
  have e := ((pl_at (by omega : b.length < 6)).2 p hp).1
  have hg : p ∈ goods a := List.mem_filter.mpr ⟨by rw [hl]; exact hp, by rw [part_same hl sm]; exact h⟩
  obtain ⟨o, ho, ht⟩ := down hn (dist p) p hg (Nat.le_refl _)
  exact ⟨o, ho, tell_trans (by omega) (by rw [tell_iff]; exact fun s hs t ht => (sm s hs t ht).mp) ht⟩
end Lw
end

section
set_option Elab.async false
set_option linter.all false
set_option maxRecDepth 100000
namespace Lw
open PySem DL L2
theorem call2 {φ : List D → DSt → R D} {f g : Dm D} {ρ : DEnv} {M : DSt} {x y d : D} (hx : x.under 0 = true) (hy : y.under 0 = true) (hd : d.under 0 = true) (hφ : φ [x, y] [] = some (.ok d [])) (h1 : f ρ M = some (.ok x M)) (h2 : g ρ M = some (.ok y M)) :
    vFn 0 2 φ (aCons f (aCons g aNil)) ρ M = some (.ok d M) := vFn0 (np := 2) (ds := [x, y]) (a2_of h1 h2) rfl (by simp [hx, hy]) hd hφ
theorem tup2_of {f : Dm D} {g : Dm D} {ρ : DEnv} {M M1 M2 : DSt} {a b : D} (h1 : f ρ M = some (.ok a M1)) (h2 : g ρ M1 = some (.ok b M2)) : vTup (aCons f (aCons g aNil)) ρ M = some (.ok (.tup [a, b]) M2) := by
  unfold vTup
  rw [a2_of h1 h2]
  rfl
/-- the turn's variables -/
abbrev E (ns : List Int) (u2 u3 u4 u5 u6 u7 u8 u9 u10 u11 u12 : Option D) : DEnv := [some (.rol (ns.map D.int)), some (.loc 0), u2, u3, u4, u5, u6, u7, u8, u9, u10, u11, u12]
theorem le60 {a : List Int} (hn : a.length < 6) : (leasts a).length ≤ 60 ∧ (goods a).length ≤ 60 := by
  have h1 := (pl_at hn).1
  have h2 := List.length_filter_le (fun o => part a o) (plains a.length)
  have h3 := List.length_filter_le (fun o => !lesser (goods a) o) (goods a)
  exact ⟨by unfold leasts; unfold goods at h3 ⊢; omega, by unfold goods; omega⟩
theorem least_pl {a o : List Int} (h : o ∈ leasts a) : o ∈ plains a.length := goods_pl (List.mem_filter.mp h).1
theorem least_sub (a : List Int) : (leasts a).Sublist (plains a.length) := (List.filter_sublist).trans List.filter_sublist
/-- the two texts are one -/
theorem texts {a : List Int} (ha : okView a = true) (hn : a.length < 6) {ρ : DEnv} {M : DSt} (h4 : vVar 4 ρ M = some (.ok (tI a) M)) (h7 : vVar 7 ρ M = some (.ok (.lst ((leasts a).map tI)) M)) :
    tBl (vOp neO (vCall reprB (aCons (vFn 0 1 m_least_complements (aCons (vVar 4) aNil)) aNil)) (vCall reprB (aCons (vCall tupB (aCons (vCall sortB (aCons (vVar 7) aNil)) aNil)) aNil))) ρ M = some (.ok false M) := by
  have rows := fun o (h : o ∈ leasts a) => (pl_at hn).2 o (least_pl h)
  have h1 := (len_of ha).1
  obtain ⟨z, hz, ok⟩ := repr_of (l := leasts a) (fun o ho => by
    obtain ⟨r1, r2, r3, r4⟩ := rows o ho
    exact ⟨by omega, fun x hx => by have := r4 x hx; omega⟩) (le60 hn).1 M
  have e1 : vCall reprB (aCons (vFn 0 1 m_least_complements (aCons (vVar 4) aNil)) aNil) ρ M = some (.ok (.str z) M) :=
    vCall_of (a1_of (vFn0 (np := 1) (ds := [tI a]) (d := .tup ((leasts a).map tI)) (a1_of h4) rfl (by simp) (unders_tIs 0 _) (least_of ha hn))) hz
  have so : sortB [.lst ((leasts a).map tI)] M = some (.lst ((leasts a).map tI)) := by
    show (if sortOk ((leasts a).map tI) = true then some (D.lst (((leasts a).map tI).mergeSort leD)) else none) = _
    rw [if_pos (sortOk_of (fun o ho e => by
      have := (rows o ho).1
      rw [e] at this
      simp at this
      omega) (by have := (le60 hn).1; omega)), sort_of hn (least_sub a)]
  have e2 : vCall reprB (aCons (vCall tupB (aCons (vCall sortB (aCons (vVar 7) aNil)) aNil)) aNil) ρ M = some (.ok (.str z) M) :=
    vCall_of (a1_of (vCall_of (a1_of (vCall_of (a1_of h7) so)) (d := .tup ((leasts a).map tI)) rfl)) hz
  refine tBl_of (vOp_of e1 e2 ?_)
  rw [neO_str ok ok, decide_eq_true rfl]
  rfl
/-- a complement tells one of the least -/
theorem tells_some {a b : List Int} (hn : a.length < 6) (hl : a.length = b.length) {ρ : DEnv} {M : DSt} (hb : 13 = ρ.length) (h4 : ρ[4]? = some (some (tI a))) (h5 : ρ[5]? = some (some (tI b))) (h7 : ρ[7]? = some (some (.lst ((leasts a).map tI)))) :
    tAnd2 (tTru (vFn 0 2 m__law_parts_all (aCons (vVar 4) (aCons (vVar 5) aNil)))) (tNot2 (tTru (vCall (boolsB fun bs => bs.any id) (aCons (vLc (iSeq (vVar 7)) (gN 10) tTrue (vFn 0 2 m__law_tells (aCons (vVar 5) (aCons (vVar 10) aNil))) [10]) aNil)))) ρ M = some (.ok false M) := by
  have v4 : vVar 4 ρ M = some (.ok (tI a) M) := by unfold vVar; rw [h4]
  have v5 : vVar 5 ρ M = some (.ok (tI b) M) := by unfold vVar; rw [h5]
  have v7 : vVar 7 ρ M = some (.ok (.lst ((leasts a).map tI)) M) := by unfold vVar; rw [h7]
  have rows := fun o (h : o ∈ leasts a) => ((pl_at hn).2 o (least_pl h)).1
  have lc : vLc (iSeq (vVar 7)) (gN 10) tTrue (vFn 0 2 m__law_tells (aCons (vVar 5) (aCons (vVar 10) aNil))) [10] ρ M = some (.ok (.lst ((leasts a).map fun o => D.bl (tell b o))) M) := by
    refine vLc_map (as := leasts a) (e := tI) (it := .seq (.lst ((leasts a).map tI))) (by unfold iSeq; rw [v7]; rfl) rfl fun o ho => ?_
    have e0 : ((ρ.set 10 none).set 10 (some (tI o)))[10]? = some (some (tI o)) := by
      rw [List.getElem?_set_self]
      rw [List.length_set]
      omega
    have e1 : ((ρ.set 10 none).set 10 (some (tI o)))[5]? = some (some (tI b)) := by
      rw [List.getElem?_set_ne (by decide), List.getElem?_set_ne (by decide)]
      exact h5
    have w0 : vVar 10 ((ρ.set 10 none).set 10 (some (tI o))) M = some (.ok (tI o) M) := by unfold vVar; rw [e0]
    have w1 : vVar 5 ((ρ.set 10 none).set 10 (some (tI o))) M = some (.ok (tI b) M) := by unfold vVar; rw [e1]
    simp only [lcStep, gN, wipeE_cons, wipeE_nil, tTrue]
    rw [call2 (x := tI b) (y := tI o) (unders_ints 0 b) (unders_ints 0 o) rfl (law_tells_of (by rw [rows o ho, hl]) (by omega)) w1 w0]
  have an : vCall (boolsB fun bs => bs.any id) (aCons (vLc (iSeq (vVar 7)) (gN 10) tTrue (vFn 0 2 m__law_tells (aCons (vVar 5) (aCons (vVar 10) aNil))) [10]) aNil) ρ M = some (.ok (.bl ((leasts a).any fun o => tell b o)) M) := by
    refine vCall_of (a1_of lc) ?_
    rw [boolsB_fun, List.any_map]
    rfl
  have t1 := tTru_bl (call2 (φ := m__law_parts_all) (x := tI a) (y := tI b) (unders_ints 0 a) (unders_ints 0 b) rfl (law_parts_of hl (by omega)) v4 v5)
  rw [tAnd2_of t1 (fun _ => tNot2_of (tTru_bl an)) fun _ => rfl]
  congr 2
  cases hp : part a b with
  | false => rfl
  | true =>
    obtain ⟨o, ho, ht⟩ := least_told hn hl hp
    rw [List.any_eq_true.mpr ⟨o, ho, ht⟩]
    rfl
/-- the turn's test of one pair -/
theorem pair_test {a b : List Int} (ha : okView a = true) (hb : okView b = true) (hl : a.length = b.length) {ρ : DEnv} {M : DSt} (v4 : vVar 4 ρ M = some (.ok (tI a) M)) (v5 : vVar 5 ρ M = some (.ok (tI b) M)) :
    tOr2 (tNot2 (tTru (vFn 0 2 m__law_says (aCons (vFn 0 2 m_view_tells (aCons (vVar 4) (aCons (vVar 5) aNil))) (aCons (vFn 0 2 m__law_tells (aCons (vVar 4) (aCons (vVar 5) aNil))) aNil))))) (tNot2 (tTru (vFn 0 2 m__law_says (aCons (vFn 0 2 m_are_complements (aCons (vVar 4) (aCons (vVar 5) aNil))) (aCons (vFn 0 2 m__law_parts_all (aCons (vVar 4) (aCons (vVar 5) aNil))) aNil))))) ρ M = some (.ok false M) := by
  have hz := (len_of ha).2
  have c2 : ∀ {φ : List D → DSt → R D} {c : Bool}, φ [tI a, tI b] [] = some (.ok (.bl c) []) → vFn 0 2 φ (aCons (vVar 4) (aCons (vVar 5) aNil)) ρ M = some (.ok (.bl c) M) := fun q => call2 (x := tI a) (y := tI b) (unders_ints 0 a) (unders_ints 0 b) rfl q v4 v5
  have s1 := tNot2_of (tTru_bl (call2 (φ := m__law_says) (d := .bl true) rfl rfl rfl (says_of (tell a b)) (c2 (view_tells_of ha hb hl)) (c2 (law_tells_of hl (by omega)))))
  have s2 := tNot2_of (tTru_bl (call2 (φ := m__law_says) (d := .bl true) rfl rfl rfl (says_of (part a b)) (c2 (are_complements_of ha hb hl)) (c2 (law_parts_of hl (by omega)))))
  exact tOr2_of s1 (fun _ => s2) fun _ => rfl
end Lw
end

section
set_option Elab.async false
set_option linter.all false
set_option maxRecDepth 100000
namespace Lw
open PySem DL L2
/-- the turn's text -/
noncomputable def turnS : Sm := (sSeq (sAsg (vOp addO (vC (.int 1)) (vFn 1 2 m__law_take (aCons (vVar 1) (aCons (vC (.int 5)) aNil)))) (gN 3)) (sSeq (sAsg (vTup (aCons (vFn 1 2 m__law_view (aCons (vVar 1) (aCons (vVar 3) aNil))) (aCons (vFn 1 2 m__law_view (aCons (vVar 1) (aCons (vVar 3) aNil))) aNil))) (gT (gsCons (gN 4) (gsCons (gN 5) gsNil)))) (sSeq (sIf (tOr2 (tNot2 (tTru (vFn 0 2 m__law_says (aCons (vFn 0 2 m_view_tells (aCons (vVar 4) (aCons (vVar 5) aNil))) (aCons (vFn 0 2 m__law_tells (aCons (vVar 4) (aCons (vVar 5) aNil))) aNil))))) (tNot2 (tTru (vFn 0 2 m__law_says (aCons (vFn 0 2 m_are_complements (aCons (vVar 4) (aCons (vVar 5) aNil))) (aCons (vFn 0 2 m__law_parts_all (aCons (vVar 4) (aCons (vVar 5) aNil))) aNil)))))) (sRet (vC (.bl false))) sPass) (sSeq (sAsg (vLc (iSeq (vFn 0 1 m__law_plain (aCons (vVar 3) aNil))) (gN 10) (tTru (vFn 0 2 m__law_parts_all (aCons (vVar 4) (aCons (vVar 10) aNil)))) (vVar 10) [10]) (gN 6)) (sSeq (sAsg (vLc (iSeq (vVar 6)) (gN 10) (tNot2 (tTru (vCall (boolsB fun bs => bs.any id) (aCons (vLc (iSeq (vVar 6)) (gN 11) tTrue (vAnd (vOp neO (vVar 11) (vVar 10)) (vFn 0 2 m__law_tells (aCons (vVar 10) (aCons (vVar 11) aNil)))) [11]) aNil)))) (vVar 10) [10]) (gN 7)) (sSeq (sIf (tBl (vOp neO (vCall reprB (aCons (vFn 0 1 m_least_complements (aCons (vVar 4) aNil)) aNil)) (vCall reprB (aCons (vCall tupB (aCons (vCall sortB (aCons (vVar 7) aNil)) aNil)) aNil)))) (sRet (vC (.bl false))) sPass) (sIf (tAnd2 (tTru (vFn 0 2 m__law_parts_all (aCons (vVar 4) (aCons (vVar 5) aNil)))) (tNot2 (tTru (vCall (boolsB fun bs => bs.any id) (aCons (vLc (iSeq (vVar 7)) (gN 10) tTrue (vFn 0 2 m__law_tells (aCons (vVar 5) (aCons (vVar 10) aNil))) [10]) aNil))))) (sRet (vC (.bl false))) sPass)))))))

theorem goods_of {a : List Int} {n : Nat} (hn : n < 6) (hl : a.length = n) {ρ : DEnv} {M : DSt} (h : 13 = ρ.length) (h3 : ρ[3]? = some (some (.int (n : Int)))) (h4 : ρ[4]? = some (some (tI a))) :
    (vLc (iSeq (vFn 0 1 m__law_plain (aCons (vVar 3) aNil))) (gN 10) (tTru (vFn 0 2 m__law_parts_all (aCons (vVar 4) (aCons (vVar 10) aNil)))) (vVar 10) [10]) ρ M = some (.ok (.lst ((goods a).map tI)) M) := by
  have v3 : vVar 3 ρ M = some (.ok (.int (n : Int)) M) := by unfold vVar; rw [h3]
  have pv : vFn 0 1 m__law_plain (aCons (vVar 3) aNil) ρ M = some (.ok (.lst ((plains n).map tI)) M) :=
    vFn0 (np := 1) (ds := [.int (n : Int)]) (d := .lst ((plains n).map tI)) (a1_of v3) rfl rfl (unders_tIs 0 _) (law_plain_of hn)
  have e : goods a = (plains n).filter fun o => part a o := by unfold goods; rw [hl]
  rw [e]
  refine vLc_filter (as := plains n) (e := tI) (g := tI) (p := fun o => part a o) (it := .seq (.lst ((plains n).map tI))) (by unfold iSeq; rw [pv]; rfl) rfl fun o ho => ?_
  have e0 : ((ρ.set 10 none).set 10 (some (tI o)))[10]? = some (some (tI o)) := by
    rw [List.getElem?_set_self]
    rw [List.length_set]
    omega
  have e1 : ((ρ.set 10 none).set 10 (some (tI o)))[4]? = some (some (tI a)) := by
    rw [List.getElem?_set_ne (by decide), List.getElem?_set_ne (by decide)]
    exact h4
  have w0 : vVar 10 ((ρ.set 10 none).set 10 (some (tI o))) M = some (.ok (tI o) M) := by unfold vVar; rw [e0]
  have w1 : vVar 4 ((ρ.set 10 none).set 10 (some (tI o))) M = some (.ok (tI a) M) := by unfold vVar; rw [e1]
  have t1 := tTru_bl (call2 (φ := m__law_parts_all) (x := tI a) (y := tI o) (unders_ints 0 a) (unders_ints 0 o) rfl (law_parts_of (by rw [hl]; exact ((pl_at hn).2 o ho).1.symm) (by omega)) w1 w0)
  simp only [lcStep, gN, wipeE_cons, wipeE_nil]
  rw [t1]
  cases part a o with
  | true => dsimp only; rw [w0]; rfl
  | false => rfl
theorem leasts_of {a : List Int} (hn : a.length < 6) {ρ : DEnv} {M : DSt} (h : 13 = ρ.length) (h6 : ρ[6]? = some (some (.lst ((goods a).map tI)))) :
    (vLc (iSeq (vVar 6)) (gN 10) (tNot2 (tTru (vCall (boolsB fun bs => bs.any id) (aCons (vLc (iSeq (vVar 6)) (gN 11) tTrue (vAnd (vOp neO (vVar 11) (vVar 10)) (vFn 0 2 m__law_tells (aCons (vVar 10) (aCons (vVar 11) aNil)))) [11]) aNil)))) (vVar 10) [10]) ρ M = some (.ok (.lst ((leasts a).map tI)) M) := by
  have v6 : vVar 6 ρ M = some (.ok (.lst ((goods a).map tI)) M) := by unfold vVar; rw [h6]
  have rows : ∀ o ∈ goods a, o.length = a.length := fun o ho => ((pl_at hn).2 o (goods_pl ho)).1
  refine vLc_filter (as := goods a) (e := tI) (g := tI) (p := fun o => !lesser (goods a) o) (it := .seq (.lst ((goods a).map tI))) (by unfold iSeq; rw [v6]; rfl) rfl fun o ho => ?_
  have e0 : ((ρ.set 10 none).set 10 (some (tI o)))[10]? = some (some (tI o)) := by
    rw [List.getElem?_set_self]
    rw [List.length_set]
    omega
  have e1 : ((ρ.set 10 none).set 10 (some (tI o)))[6]? = some (some (.lst ((goods a).map tI))) := by
    rw [List.getElem?_set_ne (by decide), List.getElem?_set_ne (by decide)]
    exact h6
  have w0 : vVar 10 ((ρ.set 10 none).set 10 (some (tI o))) M = some (.ok (tI o) M) := by unfold vVar; rw [e0]
  have t1 := tNot2_of (tTru_bl (lesser_of (φ := m__law_tells) (gi := 6) (oi := 10) (si := 11) (ρ := (ρ.set 10 none).set 10 (some (tI o))) (M := M) (g := goods a) (o := o)
    (fun l hl => law_tells_of (by rw [rows o ho, rows l hl]) (by rw [rows o ho]; omega)) e1 e0 (by rw [List.length_set, List.length_set]; omega) (by decide)))
  simp only [lcStep, gN, wipeE_cons, wipeE_nil]
  rw [t1]
  cases lesser (goods a) o with
  | false =>
    show (match vVar 10 ((List.set ρ 10 none).set 10 (some (tI o))) M with
      | some (.ok y M2) => some (Out.ok [y] M2)
      | _ => none) = _
    rw [w0]
    rfl
  | true => rfl
theorem turn (ns : List Int) (i : D) (u3 u4 u5 u6 u7 : Option D) {m : MO} (h : Drw m) : ∃ v3 v5 v6 v7 a m', turnS (E ns (some i) u3 u4 u5 u6 u7 none none none none none) [m] = some (.nx (E ns (some i) v3 (some (tI a)) v5 v6 v7 none none none none none), [m']) ∧ Drw m' ∧ okView a = true ∧ a.length < 6 := by
  unfold turnS
  obtain ⟨t, m1, e1, h1, t0, t1⟩ := take_of h (many := 5) (by decide) (by decide)
  obtain ⟨n, hn⟩ : ∃ n : Nat, 1 + t = (n : Int) := ⟨(1 + t).toNat, by omega⟩
  have n1 : 1 ≤ n := by omega
  have n5 : n < 6 := by omega
  have s0 := sAsg_of (i := 3) (vOp_of (g := addO) (fa := vC (.int 1)) (a := .int 1) (ρ := E ns (some i) u3 u4 u5 u6 u7 none none none none none) (M1 := [m]) rfl (vFn1 (np := 2) (ds := [.loc 0, .int 5]) (fs := aCons (vVar 1) (aCons (vC (.int 5)) aNil)) (a2_of rfl rfl) rfl rfl h.under rfl e1) (d := .int (1 + t)) rfl)
  rw [sSeq_nx s0, hn]
  simp only [List.set_cons_succ, List.set_cons_zero]
  obtain ⟨a, m2, e2, h2, la, va⟩ := view_of h1 (n := n) (by omega)
  obtain ⟨b, m3, e3, h3, lb, vb⟩ := view_of h2 (n := n) (by omega)
  have ha := okView_of n1 (by omega) la va
  have hb := okView_of n1 (by omega) lb vb
  have hl : a.length = b.length := by omega
  have f2 : vFn 1 2 m__law_view (aCons (vVar 1) (aCons (vVar 3) aNil)) (E ns (some i) (some (.int (n : Int))) u4 u5 u6 u7 none none none none none) [m1] = some (.ok (tI a) [m2]) := vFn1 (np := 2) (ds := [.loc 0, .int (n : Int)]) (a2_of rfl rfl) rfl rfl h1.under (unders_ints 1 a) e2
  have f3 : vFn 1 2 m__law_view (aCons (vVar 1) (aCons (vVar 3) aNil)) (E ns (some i) (some (.int (n : Int))) u4 u5 u6 u7 none none none none none) [m2] = some (.ok (tI b) [m3]) := vFn1 (np := 2) (ds := [.loc 0, .int (n : Int)]) (a2_of rfl rfl) rfl rfl h2.under (unders_ints 1 b) e3
  have s1 : (sAsg (vTup (aCons (vFn 1 2 m__law_view (aCons (vVar 1) (aCons (vVar 3) aNil))) (aCons (vFn 1 2 m__law_view (aCons (vVar 1) (aCons (vVar 3) aNil))) aNil))) (gT (gsCons (gN 4) (gsCons (gN 5) gsNil)))) (E ns (some i) (some (.int (n : Int))) u4 u5 u6 u7 none none none none none) [m1] = some (.nx (E ns (some i) (some (.int (n : Int))) (some (tI a)) (some (tI b)) u6 u7 none none none none none), [m3]) := by
    unfold sAsg sb
    rw [tup2_of f2 f3]
    rfl
  rw [sSeq_nx s1]
  have s2 : (sIf (tOr2 (tNot2 (tTru (vFn 0 2 m__law_says (aCons (vFn 0 2 m_view_tells (aCons (vVar 4) (aCons (vVar 5) aNil))) (aCons (vFn 0 2 m__law_tells (aCons (vVar 4) (aCons (vVar 5) aNil))) aNil))))) (tNot2 (tTru (vFn 0 2 m__law_says (aCons (vFn 0 2 m_are_complements (aCons (vVar 4) (aCons (vVar 5) aNil))) (aCons (vFn 0 2 m__law_parts_all (aCons (vVar 4) (aCons (vVar 5) aNil))) aNil)))))) (sRet (vC (.bl false))) sPass) (E ns (some i) (some (.int (n : Int))) (some (tI a)) (some (tI b)) u6 u7 none none none none none) [m3] = some (.nx (E ns (some i) (some (.int (n : Int))) (some (tI a)) (some (tI b)) u6 u7 none none none none none), [m3]) := by
    rw [sIf_of (pair_test ha hb hl rfl rfl), if_neg Bool.false_ne_true]
    rfl
  rw [sSeq_nx s2]
  rw [sSeq_nx (sAsg_of (goods_of n5 la rfl rfl rfl))]
  simp only [List.set_cons_succ, List.set_cons_zero]
  rw [sSeq_nx (sAsg_of (leasts_of (a := a) (by omega) rfl rfl))]
  simp only [List.set_cons_succ, List.set_cons_zero]
  have s5 : (sIf (tBl (vOp neO (vCall reprB (aCons (vFn 0 1 m_least_complements (aCons (vVar 4) aNil)) aNil)) (vCall reprB (aCons (vCall tupB (aCons (vCall sortB (aCons (vVar 7) aNil)) aNil)) aNil)))) (sRet (vC (.bl false))) sPass) (E ns (some i) (some (.int (n : Int))) (some (tI a)) (some (tI b)) (some (.lst ((goods a).map tI))) (some (.lst ((leasts a).map tI))) none none none none none) [m3] = some (.nx (E ns (some i) (some (.int (n : Int))) (some (tI a)) (some (tI b)) (some (.lst ((goods a).map tI))) (some (.lst ((leasts a).map tI))) none none none none none), [m3]) := by
    rw [sIf_of (texts ha (by omega) rfl rfl), if_neg Bool.false_ne_true]
    rfl
  rw [sSeq_nx s5]
  refine ⟨some (.int (n : Int)), some (tI b), some (.lst ((goods a).map tI)), some (.lst ((leasts a).map tI)), a, m3, ?_, h3, ha, by omega⟩
  rw [sIf_of (tells_some (by omega) hl rfl rfl rfl rfl), if_neg Bool.false_ne_true]
  rfl
theorem told3 {f g : Dm D} {ρ : DEnv} {M : DSt} {w : Int} {d e : D} (h0 : 0 ≤ w) (h2 : w ≤ 2) (h : Refuse d e) (hw : w = 2 → Refuse d d) (h12 : vVar 12 ρ M = some (.ok (.int w) M)) (hf : f ρ M = some (.ok d M)) (hg : g ρ M = some (.ok e M)) :
    vFn 0 3 m__law_told (aCons (vVar 12) (aCons f (aCons g aNil))) ρ M = some (.ok (.str "<malformed>") M) :=
  vFn0 (np := 3) (ds := [.int w, d, e]) (aC_of h12 (a2_of hf hg)) rfl (by simp [h.1, h.2.1]) rfl (told_bad h0 h2 h hw)
mutual
theorem under_up {n m : Nat} (h : n ≤ m) : ∀ d : D, d.under n = true → d.under m = true
  | .non, _ => rfl
  | .bl _, _ => rfl
  | .int _, _ => rfl
  | .str _, _ => rfl
  | .tup xs, q => unders_up h xs q
  | .lst xs, q => unders_up h xs q
  | .rol xs, q => unders_up h xs q
  | .loc l, q => by
    have q' : l < n := of_decide_eq_true q
    exact decide_eq_true (Nat.lt_of_lt_of_le q' h)
theorem unders_up {n m : Nat} (h : n ≤ m) : ∀ ds : List D, D.unders n ds = true → D.unders m ds = true
  | [], _ => rfl
  | d :: ds, q => by
    rw [unders_cons, Bool.and_eq_true] at q ⊢
    exact ⟨under_up h d q.1, unders_up h ds q.2⟩
end
abbrev mal : D := .str "<malformed>"
theorem law_true : ∀ ns : List Int, ns.length ≤ 63 → m_law [.rol (ns.map D.int)] [] = some (.ok (.bl true) []) := fun ns hns => by
  suffices q : ∃ M, b_law [some (.rol (ns.map D.int)), none, none, none, none, none, none, none, none, none, none, none, none] [] = some (.rt (.bl true), M) by
    obtain ⟨M, e⟩ := q
    exact def_rtM rfl rfl e
  obtain ⟨m, e0, h0⟩ := draw_of ns hns
  have s0 : (sAsg (vFnS 1 m__law_draw (aCons (vVar 0) aNil)) (gN 1)) [some (.rol (ns.map D.int)), none, none, none, none, none, none, none, none, none, none, none, none] [] = some (.nx (E ns none none none none none none none none none none none), [m]) := by
    refine sAsg_of (i := 1) (d := .loc 0) ?_
    unfold vFnS
    rw [a1_of (a := .rol (ns.map D.int)) (M1 := []) rfl, bnd_ok]
    exact e0
  have bl : b_law = sSeq (sAsg (vFnS 1 m__law_draw (aCons (vVar 0) aNil)) (gN 1)) (sSeq (sFor (iRange1 (vC (.int 2))) (gN 2) turnS) (sSeq (sAsg (vFn 1 2 m__law_odd_view (aCons (vVar 1) (aCons (vVar 4) aNil))) (gN 8)) (sSeq (sAsg (vOp addO (vLc (iRange1 (vC (.int 3))) (gN 12) tTrue (vFn 0 3 m__law_told (aCons (vVar 12) (aCons (vVar 8) (aCons (vVar 8) aNil)))) [12]) (vLc (iSeq (vTup (aCons (vC (.int 0)) (aCons (vC (.int 1)) aNil)))) (gN 12) tTrue (vFn 0 3 m__law_told (aCons (vVar 12) (aCons (vVar 4) (aCons (vVar 8) aNil)))) [12])) (gN 9)) (sRet (vOp eqO (vOp addO (vVar 9) (vLc (iSeq (vTup (aCons (vC (.int 0)) (aCons (vC (.int 1)) aNil)))) (gN 12) tTrue (vFn 0 3 m__law_told (aCons (vVar 12) (aCons (vVar 4) (aCons (vOp addO (vVar 4) (vTup (aCons (vC (.int 0)) aNil))) aNil)))) [12])) (vOp mulO (vLst (aCons (vC (.str "<malformed>")) aNil)) (vC (.int 7)))))))) := rfl
  rw [bl, sSeq_nx s0]
  obtain ⟨ρ', M', e1, u2, u3, u4, u5, u6, u7, m1, rfl, rfl, h1, hv⟩ := sFor_of (fi := iRange1 (vC (.int 2))) (it := .rng 0 2) (xs := (List.range 2).map fun i : Nat => D.int (i : Int)) (T := gN 2) (body := turnS)
    (ρ := E ns none none none none none none none none none none none) (M := [m]) (M1 := [m])
    (fun xs ρ M => ∃ u2 u3 u4 u5 u6 u7 m, ρ = E ns u2 u3 u4 u5 u6 u7 none none none none none ∧ M = [m] ∧ Drw m ∧ (xs.length < 2 → ∃ a, u4 = some (tI a) ∧ okView a = true ∧ a.length < 6))
    (range1_of (n := 2) rfl (by decide)) (rng_items 2 _) (fun xs' ρ M _ => rng_items 2 M) (fun x xs ρ M h => by
      obtain ⟨u2, u3, u4, u5, u6, u7, m, rfl, rfl, h, _⟩ := h
      obtain ⟨v3, v5, v6, v7, a, m', e, h', ha, hn⟩ := turn ns x u3 u4 u5 u6 u7 h
      exact ⟨_, _, _, rfl, e, some x, v3, some (tI a), v5, v6, v7, m', rfl, rfl, h', fun _ => ⟨a, rfl, ha, hn⟩⟩)
    ⟨none, none, none, none, none, none, m, rfl, rfl, h0, fun z => absurd z (by decide)⟩
  rw [sSeq_nx e1]
  obtain ⟨a, rfl, ha, hn⟩ := hv (by decide)
  obtain ⟨d, m2, e2, h2, nv⟩ := odd_of h1 (a := a) (by omega)
  have s8 := sAsg_of (i := 8) (M := [m1]) (M1 := [m2]) (vFn1 (M1 := []) (np := 2) (φ := m__law_odd_view) (ds := [.loc 0, tI a]) (fs := aCons (vVar 1) (aCons (vVar 4) aNil)) (ρ := E ns u2 u3 (some (tI a)) u5 u6 u7 none none none none none) (a2_of rfl rfl) rfl (by simp [D.under]) h1.under (under_up (Nat.zero_le 1) d nv.1) e2)
  rw [sSeq_nx s8]
  simp only [List.set_cons_succ, List.set_cons_zero]
  have st : some (D.lst [mal, mal, mal]) = some (D.lst ((List.range 3).map fun _ => mal)) := rfl
  have l1 : ∀ v9, vLc (iRange1 (vC (.int 3))) (gN 12) tTrue (vFn 0 3 m__law_told (aCons (vVar 12) (aCons (vVar 8) (aCons (vVar 8) aNil)))) [12] (E ns u2 u3 (some (tI a)) u5 u6 u7 (some d) v9 none none none) [m2] = some (.ok (.lst [mal, mal, mal]) [m2]) := fun v9 => by
    refine vLc_map (as := List.range 3) (e := fun i : Nat => D.int (i : Int)) (g := fun _ => mal) (it := .rng 0 3) (range1_of (n := 3) rfl (by decide)) (rng_items 3 _) fun w hw => ?_
    have hw := List.mem_range.mp hw
    have k := told3 (f := vVar 8) (g := vVar 8) (ρ := E ns u2 u3 (some (tI a)) u5 u6 u7 (some d) v9 none none (some (.int (w : Int)))) (M := [m2]) (w := (w : Int)) (d := d) (e := d) (by omega) (by omega) (refuse_l nv nv.1) (fun _ => refuse_l nv nv.1) rfl rfl rfl
    simp only [lcStep, gN, wipeE_cons, wipeE_nil, tTrue, List.set_cons_succ, List.set_cons_zero]
    rw [k]
  have two : ∀ (g : Dm D) (e : D) v9, Refuse (tI a) e → (∀ v12, g (E ns u2 u3 (some (tI a)) u5 u6 u7 (some d) v9 none none v12) [m2] = some (.ok e [m2])) → vLc (iSeq (vTup (aCons (vC (.int 0)) (aCons (vC (.int 1)) aNil)))) (gN 12) tTrue (vFn 0 3 m__law_told (aCons (vVar 12) (aCons (vVar 4) (aCons g aNil)))) [12] (E ns u2 u3 (some (tI a)) u5 u6 u7 (some d) v9 none none none) [m2] = some (.ok (.lst [mal, mal]) [m2]) := fun g e v9 r hg => by
    refine vLc_map (as := [(0 : Int), 1]) (e := D.int) (g := fun _ => mal) (it := .seq (.tup [.int 0, .int 1])) rfl rfl fun w hw => ?_
    have hw : w = 0 ∨ w = 1 := by simpa using hw
    have k := told3 (f := vVar 4) (g := g) (ρ := E ns u2 u3 (some (tI a)) u5 u6 u7 (some d) v9 none none (some (.int w))) (M := [m2]) (w := w) (d := tI a) (e := e) (by omega) (by omega) r (fun z => by omega) rfl rfl (hg _)
    simp only [lcStep, gN, wipeE_cons, wipeE_nil, tTrue, List.set_cons_succ, List.set_cons_zero]
    rw [k]
  have s9 := sAsg_of (i := 9) (vOp_of (g := addO) (l1 none) (two (vVar 8) d none (refuse_r nv (unders_ints 0 a)) fun _ => rfl) (d := .lst [mal, mal, mal, mal, mal]) rfl)
  rw [sSeq_nx s9]
  simp only [List.set_cons_succ, List.set_cons_zero]
  refine ⟨[m2], sRet_of (vOp_of (a := .lst (List.replicate 7 mal)) (b := .lst (List.replicate 7 mal)) (M1 := [m2]) (vOp_of (a := .lst [mal, mal, mal, mal, mal]) (b := .lst [mal, mal]) (M1 := [m2]) rfl (two _ (tI (a ++ [0])) (some (.lst [mal, mal, mal, mal, mal])) (refuse_len (by simp)) fun v12 => vOp_of (a := tI a) (b := .tup [.int 0]) (M1 := [m2]) rfl rfl (tup_add a 0 (by omega) _)) rfl) rfl ?_)⟩
  rw [eqO_of rfl rfl (by decide +kernel) (by decide +kernel)]
  congr 2
end Lw
end

section
set_option Elab.async false
set_option linter.all false
set_option maxRecDepth 100000
open PySem PySem.W PyProof.Rows
set_option maxHeartbeats 0 in
theorem PySem.Challenge.cw_keykinds_k62_whole_complements_holds : PySem.Challenge.rw_keykinds_k62_whole_complements.Holds := by
  w_on; o_law; k_head; (case hw => w_witness2)
  k_fill
  refine DL.walk_mean (l := PySem.Challenge.rw_keykinds_k62_whole_complements) (n := 63) (k := 6) (x := "script") (φ := Lw.m_law) rfl (by decide) rfl ⟨rfl, by decide, by decide⟩ (fun w h Y => PySem.W.kIn_of Y) ?F Lw.law_true
  case F =>
    intro w mg fa h Y KX G hmg
    refine' Lw.all_mk KX G hmg ?a0 ?l0 ?c0 ?k0 ?a1 ?l1 ?c1 ?k1 ?a2 ?l2 ?c2 ?k2 ?a3 ?l3 ?c3 ?k3 ?a4 ?l4 ?c4 ?k4 ?a5 ?l5 ?c5 ?k5 ?a6 ?l6 ?c6 ?k6 ?a7 ?l7 ?c7 ?k7 ?a8 ?l8 ?c8 ?k8 ?a9 ?l9 ?c9 ?k9 ?a10 ?l10 ?c10 ?k10 ?a11 ?l11 ?c11 ?k11 ?a12 ?l12 ?c12 ?k12 ?a13 ?l13 ?c13 ?k13 ?a14 ?l14 ?c14 ?k14 ?a15 ?l15 ?c15 ?k15 ?a16 ?l16 ?c16 ?k16 ?a17 ?l17 ?c17 ?k17 ?a18 ?l18 ?c18 ?k18 ?z0 ?z1 ?z2 ?z3 ?z4 ?z5 ?z6 ?z7 ?z8 ?z9 ?z10 ?z11 ?z12 ?z13 ?z14 ?y0 ?y1 ?xa0 ?xe0 ?xk0 ?xb0 ?xt0 ?xi0 ?xs0
    (case a0 => k_is); (case l0 => k_is); (case c0 => k_is); (case k0 => k_is); (case a1 => k_is); (case l1 => k_is); (case c1 => k_is); (case k1 => k_is); (case a2 => k_is); (case l2 => k_is); (case c2 => k_is); (case k2 => k_is); (case a3 => k_is); (case l3 => k_is); (case c3 => k_is); (case k3 => k_is); (case a4 => k_is); (case l4 => k_is); (case c4 => k_is); (case k4 => k_is); (case a5 => k_is); (case l5 => k_is); (case c5 => k_is); (case k5 => k_is); (case a6 => k_is); (case l6 => k_is); (case c6 => k_is); (case k6 => k_is); (case a7 => k_is); (case l7 => k_is); (case c7 => k_is); (case k7 => k_is); (case a8 => k_is); (case l8 => k_is); (case c8 => k_is); (case k8 => k_is); (case a9 => k_is); (case l9 => k_is); (case c9 => k_is); (case k9 => k_is); (case a10 => k_is); (case l10 => k_is); (case c10 => k_is); (case k10 => k_is); (case a11 => k_is); (case l11 => k_is); (case c11 => k_is); (case k11 => k_is); (case a12 => k_is); (case l12 => k_is); (case c12 => k_is); (case k12 => k_is); (case a13 => k_is); (case l13 => k_is); (case c13 => k_is); (case k13 => k_is); (case a14 => k_is); (case l14 => k_is); (case c14 => k_is); (case k14 => k_is); (case a15 => k_is); (case l15 => k_is); (case c15 => k_is); (case k15 => k_is); (case a16 => k_is); (case l16 => k_is); (case c16 => k_is); (case k16 => k_is); (case a17 => k_is); (case l17 => k_is); (case c17 => k_is); (case k17 => k_is); (case a18 => k_is); (case l18 => k_is); (case c18 => k_is); (case k18 => k_is); (case z0 => k_is); (case z1 => k_is); (case z2 => k_is); (case z3 => k_is); (case z4 => k_is); (case z5 => k_is); (case z6 => k_is); (case z7 => k_is); (case z8 => k_is); (case z9 => k_is); (case z10 => k_is); (case z11 => k_is); (case z12 => k_is); (case z13 => k_is); (case z14 => k_is); (case y0 => k_is); (case y1 => k_is); (case xa0 => k_is); (case xe0 => k_exc); (case xk0 => k_is); (case xb0 => k_is); (case xt0 => k_is); (case xi0 => k_is); (case xs0 => first | rfl | k_is)
end
