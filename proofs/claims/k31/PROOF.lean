import PyProof.Rows.All
import Wide.All
import OpenK.AllK
import Wide.FinOn
import HandS.ForMost
import HandS.ForExc
import HandS.HeadHook1
import HandS.Wide
import HandS.TupAny
import HandS.Deep
import HandS.IsInst
import KE.KTupSum
import HandS.NoneIn
import HandS.Style
import HandS.Iter
import HandS.Strs
import HandS.Text
import HandS.Replace
import KE.SortData
import KE.SortKeyHeap
import HandS.SortKw
import HandS.Star
import HandS.FStr
import HandS.TupSets
import PyProof.ReprRoads
import HandS.Zip
import KE.GoesNew
import KE.GoesMore
import HandS.Defaults
import HandS.Property
import KE.KSortKey
import HandS.Words
import HandS.HeadHook2
import HandS.Ends
import HandS.Head0
import HandS.Head1
import HandS.Head2
import HandS.HeadEnd
import HandS.WideBits
import PyProof.NoPylong
import KE.DataCmp
import KE.KExcSuper
import PyProof.ExcBaseAll.ValueError
import PyProof.ExcBaseAll.LookupError
import PyProof.ExcBaseAll.ArithmeticError
import HandS.TryMany
import HandS.ExcValue
import HandS.ExcField
import PyProof.StrLawsRepr
import PyProof.Rows.RegStrFacts
import PyProof.StrLawsIn
import PySem.Challenge.RW_heldlessons_k31_whole_lots
section
set_option Elab.async false
set_option linter.all false
set_option maxRecDepth 100000
set_option maxHeartbeats 1000000
namespace HL
open PySem PySem.Spec L2

/-- data: by value, but for what may change (loc); tpn: a tuple made by tuple(..), of which we know that it has no dict -/
inductive D where
  | non | bl (b : Bool) | int (i : Int) | str (x : Str)
  | tup (xs : List D) | tpn (xs : List D) | lst (xs : List D) | scr (xs : List D) | iset (n : Nat) | ins (C : Str) (ks : List Str) (vs : List D) | err (C : Str) (ks : List Str) (vs : List D) | loc (n : Nat)
  deriving Inhabited
/-- what may change -/
inductive Ob where
  | lst (xs : List D) | ins (C : Str) (ks : List Str) (vs : List D)
abbrev Store := List Ob
structure Exc where
  cls : Str
  ks : List Str
  vs : List D
inductive R (α : Type) where
  | ok (a : α) (S : Store) | exc (e : Exc) (S : Store) | bad
def R.bind {α β : Type} (r : R α) (f : α → Store → R β) : R β := match r with
  | .ok a S => f a S
  | .exc e S => .exc e S
  | .bad => .bad
@[simp] theorem R.bind_ok {α β : Type} (a : α) (S : Store) (f : α → Store → R β) : (R.ok a S).bind f = f a S := rfl
@[simp] theorem R.bind_bad {α β : Type} (f : α → Store → R β) : (R.bad : R α).bind f = .bad := rfl
@[simp] theorem R.bind_exc {α β : Type} (e : Exc) (S : Store) (f : α → Store → R β) : (R.exc e S : R α).bind f = .exc e S := rfl
def ofO {α : Type} (o : Option α) (S : Store) : R α := match o with
  | some a => .ok a S
  | none => .bad
@[simp] theorem ofO_some {α : Type} (a : α) (S : Store) : ofO (some a) S = .ok a S := rfl
abbrev L := List (Option D)

abbrev Frag := PySem.W.Frag
/-- a world: where the store's objects stand, the store, the heap, what is being built (busy) -/
structure Wd where
  ρ : Nat → Addr
  S : Store
  H : Hp
  B : Addr → Prop
def Live (W : Wd) (a : Addr) : Prop := ∃ i, i < W.S.length ∧ W.ρ i = a
def Sq (W : Wd) (a : Addr) (vs : List V) : Prop := W.H a = some (.lst vs) ∧ ¬ Live W a ∧ ¬ W.B a

/-- a list that never changes: it was laid so, or it stands in the written part -/
def SqF (K : Frag) (H : Hp) (a : Addr) (vs : List V) : Prop := (∃ o, H a = some (.frz o (.lst vs))) ∨ ∃ (o : Obj) (its : Array Value) (n : Nat), K.lookup a = some o ∧ o.cls = .type "list" ∧ o.dict = none ∧ o.data = .seq its n ∧ its.size ≤ sizeLine ∧ Vals vs its.toList
theorem SqF.sql {K : Frag} {H : Hp} {a : Addr} {vs : List V} (h : SqF K H a vs) : SqL K H a vs := h.elim (fun z => .inl (.inr z)) .inr
/-- a caught exception at a: its class, its dict -/
abbrev exq (a : Addr) (cls : Value) (d : Option Addr) : HO := .ext fun h => ∃ (oe : Obj) (vs : Array Value), h.get? a = some oe ∧ Zc cls d oe ∧ oe.data = .fields vs
mutual
inductive Rep (K : Frag) (W : Wd) : D → V → Prop
  | non : Rep K W .non .non
  | bl (b : Bool) : Rep K W (.bl b) (.bl b)
  | int (i : Int) : Rep K W (.int i) (.int i)
  | str (x : Str) : Rep K W (.str x) (.str x)
  | tup {xs : List D} {vs : List V} {a : Addr} : SqT K W.H a vs → Reps K W xs vs → Rep K W (.tup xs) (.ref a)
  | tpn {xs : List D} {vs : List V} {a : Addr} : (∃ o : Obj, W.H a = some (.frz o (.tup vs)) ∧ o.dict = none) → Reps K W xs vs → Rep K W (.tpn xs) (.ref a)
  | lst {xs : List D} {vs : List V} {a : Addr} : Sq W a vs → Reps K W xs vs → Rep K W (.lst xs) (.ref a)
  | scr {xs : List D} {vs : List V} {a : Addr} : SqF K W.H a vs → Reps K W xs vs → Rep K W (.scr xs) (.ref a)
  | iset {n : Nat} {a : Addr} : (∃ M, W.H a = some (.set M n)) → ¬ Live W a → Rep K W (.iset n) (.ref a)
  | ins {C : Str} {ks : List Str} {xs : List D} {vs : List V} {a dx : Addr} : W.H a = some (.ins (He.ga K C) dx (ks.zip vs)) → ¬ Live W a → ks.length = vs.length → Reps K W xs vs → Rep K W (.ins C ks xs) (.ref a)
  | err {C : Str} {ks : List Str} {xs : List D} {vs : List V} {a : Addr} {d : Option Addr} : W.H a = some (exq a (.ref (He.ga K C)) d) → (ks = [] ∨ ∃ dd, d = some dd ∧ W.H dd = some (.xd (ks.zip vs))) → ks.length = vs.length → Reps K W xs vs → Rep K W (.err C ks xs) (.ref a)
  | loc {n : Nat} : n < W.S.length → Rep K W (.loc n) (.ref (W.ρ n))
inductive Reps (K : Frag) (W : Wd) : List D → List V → Prop
  | nil : Reps K W [] []
  | cons {d : D} {v : V} {ds : List D} {vs : List V} : Rep K W d v → Reps K W ds vs → Reps K W (d :: ds) (v :: vs)
end
def RepO (K : Frag) (W : Wd) (o : Ob) (a : Addr) : Prop := match o with
  | .lst xs => ∃ vs, W.H a = some (.lst vs) ∧ Reps K W xs vs
  | .ins C ks xs => ∃ dx vs, W.H a = some (.ins (He.ga K C) dx (ks.zip vs)) ∧ ks.length = vs.length ∧ Reps K W xs vs
structure Ok (K : Frag) (W : Wd) : Prop where
  busy : ∀ a, W.B a → W.H a ≠ none
  nb : ∀ a, W.B a → ¬ Live W a
  inj : ∀ i j, i < W.S.length → j < W.S.length → W.ρ i = W.ρ j → i = j
  obj : ∀ i o, W.S[i]? = some o → RepO K W o (W.ρ i)
structure Ext (W W' : Wd) : Prop where
  B : W'.B = W.B
  len : W.S.length ≤ W'.S.length
  rho : ∀ i, i < W.S.length → W'.ρ i = W.ρ i
  keep : ∀ a u, W.H a = some u → ¬ Live W a → W'.H a = some u ∧ ¬ Live W' a
/-- .. where more may be busy -/
structure Exw (W W' : Wd) : Prop where
  len : W.S.length ≤ W'.S.length
  rho : ∀ i, i < W.S.length → W'.ρ i = W.ρ i
  keep : ∀ a u, W.H a = some u → ¬ Live W a → W'.H a = some u ∧ ¬ Live W' a
  fresh : ∀ a u, W.H a = some u → ¬ Live W a → ¬ W.B a → ¬ W'.B a
theorem Ext.w {W W' : Wd} (e : Ext W W') : Exw W W' := ⟨e.len, e.rho, e.keep, fun a u _ _ n => by rw [e.B]; exact n⟩
theorem Exw.trans {W W' W'' : Wd} (a : Exw W W') (b : Exw W' W'') : Exw W W'' :=
  ⟨Nat.le_trans a.len b.len, fun i h => (b.rho i (Nat.lt_of_lt_of_le h a.len)).trans (a.rho i h), fun x u h n => let ⟨h', n'⟩ := a.keep x u h n; b.keep x u h' n',
    fun x u h n m => let ⟨h', n'⟩ := a.keep x u h n; b.fresh x u h' n' (a.fresh x u h n m)⟩
theorem Ext.refl (W : Wd) : Ext W W := ⟨rfl, Nat.le_refl _, fun _ _ => rfl, fun _ _ h n => ⟨h, n⟩⟩
theorem Ext.trans {W W' W'' : Wd} (a : Ext W W') (b : Ext W' W'') : Ext W W'' :=
  ⟨b.B.trans a.B, Nat.le_trans a.len b.len, fun i h => (b.rho i (Nat.lt_of_lt_of_le h a.len)).trans (a.rho i h), fun x u h n => let ⟨h', n'⟩ := a.keep x u h n; b.keep x u h' n'⟩

section
variable {K : Frag} {W W' : Wd}
/-- a live address holds what may change -/
theorem Ok.live (ok : Ok K W) {a : Addr} (l : Live W a) : ∃ u, W.H a = some u ∧ ((∃ xs, u = .lst xs) ∨ ∃ C dx fs, u = .ins C dx fs) := by
  obtain ⟨i, hi, rfl⟩ := l
  have h := ok.obj i _ (List.getElem?_eq_getElem hi)
  cases q : W.S[i] with
  | lst xs =>
    rw [q] at h
    obtain ⟨vs, e, _⟩ := h
    exact ⟨_, e, .inl ⟨_, rfl⟩⟩
  | ins C ks xs =>
    rw [q] at h
    obtain ⟨dx, vs, e, _⟩ := h
    exact ⟨_, e, .inr ⟨_, _, _, rfl⟩⟩
theorem Ok.nlive (ok : Ok K W) {a : Addr} {u : HO} (e : W.H a = some u) (h1 : ∀ xs, u ≠ .lst xs) (h2 : ∀ C dx fs, u ≠ .ins C dx fs) : ¬ Live W a := fun l => by
  obtain ⟨v, e', q⟩ := ok.live l
  rw [e] at e'
  cases e'
  rcases q with ⟨xs, rfl⟩ | ⟨C, dx, fs, rfl⟩
  · exact h1 _ rfl
  · exact h2 _ _ _ rfl
theorem Ok.nlive0 (ok : Ok K W) {a : Addr} (e : W.H a = none) : ¬ Live W a := fun l => by
  obtain ⟨v, e', _⟩ := ok.live l
  rw [e] at e'
  cases e'
theorem SqT.ext (e : Exw W W') (ok : Ok K W) {a : Addr} {vs : List V} (h : SqT K W.H a vs) : SqT K W'.H a vs := by
  rcases h with (h | ⟨o, h⟩) | h
  · exact .inl (.inl (e.keep _ _ h (ok.nlive h (fun _ q => nomatch q) (fun _ _ _ q => nomatch q))).1)
  · exact .inl (.inr ⟨o, (e.keep _ _ h (ok.nlive h (fun _ q => nomatch q) (fun _ _ _ q => nomatch q))).1⟩)
  · exact .inr h
theorem Sq.ext (e : Exw W W') {a : Addr} {vs : List V} (h : Sq W a vs) : Sq W' a vs := ⟨(e.keep _ _ h.1 h.2.1).1, (e.keep _ _ h.1 h.2.1).2, e.fresh _ _ h.1 h.2.1 h.2.2⟩
theorem Sq.sql {K : Frag} {a : Addr} {vs : List V} (h : Sq W a vs) : SqL K W.H a vs := .inl (.inl h.1)
theorem frz_ext (e : Exw W W') (ok : Ok K W) {a : Addr} {o : Obj} {u : HO} (h : W.H a = some (.frz o u)) : W'.H a = some (.frz o u) := (e.keep _ _ h (ok.nlive h (fun _ q => nomatch q) (fun _ _ _ q => nomatch q))).1
theorem SqF.ext (e : Exw W W') (ok : Ok K W) {a : Addr} {vs : List V} (h : SqF K W.H a vs) : SqF K W'.H a vs := h.elim (fun ⟨o, z⟩ => .inl ⟨o, frz_ext e ok z⟩) .inr
mutual
theorem Rep.exw (e : Exw W W') (ok : Ok K W) : ∀ {d : D} {v : V}, Rep K W d v → Rep K W' d v
  | _, _, .non => .non
  | _, _, .bl b => .bl b
  | _, _, .int i => .int i
  | _, _, .str x => .str x
  | _, _, .tup h r => .tup (SqT.ext e ok h) (Reps.exw e ok r)
  | _, _, .tpn ⟨o, h, hd⟩ r => .tpn ⟨o, frz_ext e ok h, hd⟩ (Reps.exw e ok r)
  | _, _, .lst h r => .lst (h.ext e) (Reps.exw e ok r)
  | _, _, .scr h r => .scr (SqF.ext e ok h) (Reps.exw e ok r)
  | _, _, .iset ⟨M, h⟩ n => .iset ⟨M, (e.keep _ _ h n).1⟩ (e.keep _ _ h n).2
  | _, _, .ins h n hl r => .ins (e.keep _ _ h n).1 (e.keep _ _ h n).2 hl (Reps.exw e ok r)
  | _, _, .err h hd hl r => .err (e.keep _ _ h (ok.nlive h (fun _ q => nomatch q) (fun _ _ _ q => nomatch q))).1 (hd.imp id fun ⟨dd, h1, h2⟩ => ⟨dd, h1, (e.keep _ _ h2 (ok.nlive h2 (fun _ q => nomatch q) (fun _ _ _ q => nomatch q))).1⟩) hl (Reps.exw e ok r)
  | _, _, .loc (n := n) h => by
    rw [← e.rho n h]
    exact .loc (Nat.lt_of_lt_of_le h e.len)
theorem Reps.exw (e : Exw W W') (ok : Ok K W) : ∀ {ds : List D} {vs : List V}, Reps K W ds vs → Reps K W' ds vs
  | _, _, .nil => .nil
  | _, _, .cons h r => .cons (Rep.exw e ok h) (Reps.exw e ok r)
end
theorem Rep.ext (e : Ext W W') (ok : Ok K W) {d : D} {v : V} (h : Rep K W d v) : Rep K W' d v := Rep.exw e.w ok h
theorem Reps.ext (e : Ext W W') (ok : Ok K W) {ds : List D} {vs : List V} (h : Reps K W ds vs) : Reps K W' ds vs := Reps.exw e.w ok h
/-- a tuple like any other -/
def nt : D → D
  | .tpn xs => .tup xs
  | d => d
theorem Rep.nt {d : D} {v : V} (r : Rep K W d v) : Rep K W (HL.nt d) v := by
  cases r with
  | tpn h q =>
    obtain ⟨o, h, _⟩ := h
    exact .tup (.inl (.inr ⟨o, h⟩)) q
  | non => exact .non
  | bl b => exact .bl b
  | int i => exact .int i
  | str x => exact .str x
  | tup h q => exact .tup h q
  | lst h q => exact .lst h q
  | scr h q => exact .scr h q
  | iset h n => exact .iset h n
  | ins h n hl q => exact .ins h n hl q
  | err h hd hl q => exact .err h hd hl q
  | loc h => exact .loc h
theorem Reps.length : ∀ {ds : List D} {vs : List V}, Reps K W ds vs → ds.length = vs.length
  | _, _, .nil => rfl
  | _, _, .cons _ r => by rw [List.length_cons, List.length_cons, Reps.length r]
theorem Reps.get : ∀ {ds : List D} {vs : List V} {i : Nat} {d : D}, Reps K W ds vs → ds[i]? = some d → ∃ v, vs[i]? = some v ∧ Rep K W d v
  | _, _, _, _, .nil, h => by simp at h
  | _, _, 0, _, .cons h _, e => by simp at e; subst e; exact ⟨_, rfl, h⟩
  | _, _, i + 1, _, .cons _ r, e => by
    obtain ⟨v, h1, h2⟩ := Reps.get (i := i) r (by simpa using e)
    exact ⟨v, by simpa using h1, h2⟩
theorem Reps.got : ∀ {ds : List D} {vs : List V} {i : Nat} {v : V}, Reps K W ds vs → vs[i]? = some v → ∃ d, ds[i]? = some d ∧ Rep K W d v
  | _, _, _, _, .nil, h => by simp at h
  | _, _, 0, _, .cons h _, e => by simp at e; subst e; exact ⟨_, rfl, h⟩
  | _, _, i + 1, _, .cons _ r, e => by
    obtain ⟨v, h1, h2⟩ := Reps.got (i := i) r (by simpa using e)
    exact ⟨v, by simpa using h1, h2⟩
theorem Reps.append : ∀ {ds es : List D} {vs ws : List V}, Reps K W ds vs → Reps K W es ws → Reps K W (ds ++ es) (vs ++ ws)
  | _, _, _, _, .nil, s => s
  | _, _, _, _, .cons h r, s => .cons h (Reps.append r s)
theorem Reps.set {d : D} {v : V} (h : Rep K W d v) : ∀ {ds : List D} {vs : List V} (i : Nat), Reps K W ds vs → Reps K W (ds.set i d) (vs.set i v)
  | _, _, _, .nil => .nil
  | _, _, 0, .cons _ r => .cons h r
  | _, _, i + 1, .cons q r => .cons q (Reps.set h i r)
theorem Reps.take : ∀ {ds : List D} {vs : List V} (n : Nat), Reps K W ds vs → Reps K W (ds.take n) (vs.take n)
  | _, _, 0, _ => .nil
  | _, _, _ + 1, .nil => .nil
  | _, _, n + 1, .cons h r => .cons h (Reps.take n r)
theorem Reps.drop : ∀ {ds : List D} {vs : List V} (n : Nat), Reps K W ds vs → Reps K W (ds.drop n) (vs.drop n)
  | _, _, 0, r => r
  | _, _, _ + 1, .nil => .nil
  | _, _, n + 1, .cons _ r => Reps.drop n r

/-- the heap grew -/
theorem Ext.same {ρ : Nat → Addr} {S : Store} {H H' : Hp} {B : Addr → Prop} (s : Same H H') : Ext ⟨ρ, S, H, B⟩ ⟨ρ, S, H', B⟩ :=
  ⟨rfl, Nat.le_refl _, fun _ _ => rfl, fun a u h n => ⟨s a u h, n⟩⟩
theorem Ok.same {ρ : Nat → Addr} {S : Store} {H H' : Hp} {B : Addr → Prop} (ok : Ok K ⟨ρ, S, H, B⟩) (s : Same H H') : Ok K ⟨ρ, S, H', B⟩ := by
  refine ⟨fun a b q => ?_, ok.nb, ok.inj, fun i o h => ?_⟩
  · cases z : H a with
    | none => exact ok.busy a b z
    | some u =>
      have q' : H' a = none := q
      rw [s a u z] at q'
      cases q'
  have r := ok.obj i o h
  cases o with
  | lst xs =>
    obtain ⟨vs, e, q⟩ := r
    exact ⟨vs, s _ _ e, Reps.ext (Ext.same s) ok q⟩
  | ins C ks xs =>
    obtain ⟨dx, vs, e, hl, q⟩ := r
    exact ⟨dx, vs, s _ _ e, hl, Reps.ext (Ext.same s) ok q⟩
theorem Same.upd {H : Hp} {p : Addr} {o : HO} (n : H p = none) : Same H (upd H p o) := fun b u e => by
  rw [upd_ne (ne_of_none e n)]
  exact e
end

/-! ### what is wanted behind a function's answer -/
def RepX (K : Frag) (W : Wd) (e : Exc) (cls : Value) (d : Option Addr) : Prop :=
  cls = .ref (He.ga K e.cls) ∧ ((e.ks = [] ∧ e.vs = []) ∨ ∃ dd vs, d = some dd ∧ W.H dd = some (.xd (e.ks.zip vs)) ∧ e.ks.length = vs.length ∧ Reps K W e.vs vs)
def Post {α : Type} (K : Frag) (Wx : WX) (σ : St) (W : Wd) (r : R α) (k : Wd → α → Prop) : Prop := match r with
  | .ok a S => ∀ ρ H, Ext W ⟨ρ, S, H, W.B⟩ → Ok K ⟨ρ, S, H, W.B⟩ → k ⟨ρ, S, H, W.B⟩ a
  | .exc e S => ∀ ρ H cls d, Ext W ⟨ρ, S, H, W.B⟩ → Ok K ⟨ρ, S, H, W.B⟩ → RepX K ⟨ρ, S, H, W.B⟩ e cls d → Wx cls d σ H
  | .bad => False
section
variable {α β : Type} {K : Frag} {Wx : WX} {σ : St} {W W' : Wd} {r : R α} {k k' : Wd → α → Prop}
theorem Post.mono (h : Post K Wx σ W r k) (i : ∀ W' a, Ext W W' → Ok K W' → k W' a → k' W' a) : Post K Wx σ W r k' := by
  cases r with
  | ok a S => exact fun ρ H e o => i _ _ e o (h ρ H e o)
  | exc e S => exact h
  | bad => exact h
theorem Post.weak (h : Post K Wx σ W r k) (e : Ext W W') : Post K Wx σ W' r k := by
  cases r with
  | ok a S =>
    intro ρ H e' o
    have q := e.B
    rw [q] at e' o ⊢
    exact h ρ H (e.trans e') o
  | exc x S =>
    intro ρ H cls d e' o
    have q := e.B
    rw [q] at e' o ⊢
    exact h ρ H cls d (e.trans e') o
  | bad => exact h
theorem Post.bind {f : α → Store → R β} {k : Wd → β → Prop} (h : Post K Wx σ W (r.bind f) k) : Post K Wx σ W r fun W' a => Ext W W' ∧ Ok K W' ∧ Post K Wx σ W' (f a W'.S) k := by
  cases r with
  | ok a S => exact fun ρ H e o => ⟨e, o, Post.weak (r := f a S) h e⟩
  | exc x S => exact h
  | bad => exact h
theorem Post.ok_of (o : Ok K W) {a : α} (h : Post K Wx σ W (.ok a W.S) k) : k W a := h W.ρ W.H (Ext.refl W) o
end

/-! ### slots -/
structure Sl (K : Frag) (W : Wd) (σ : St) (l : L) : Prop where
  len : l.length = σ.length
  get : ∀ (i : Nat) (d : D), l[i]? = some (some d) → ∃ v, σ[i]? = some (some v) ∧ Rep K W d v
section
variable {K : Frag} {W W' : Wd} {σ : St} {l : L}
theorem Sl.ext (s : Sl K W σ l) (e : Ext W W') (ok : Ok K W) : Sl K W' σ l := ⟨s.len, fun i d h => let ⟨v, a, b⟩ := s.get i d h; ⟨v, a, b.ext e ok⟩⟩
theorem Sl.exw (s : Sl K W σ l) (e : Exw W W') (ok : Ok K W) : Sl K W' σ l := ⟨s.len, fun i d h => let ⟨v, a, b⟩ := s.get i d h; ⟨v, a, b.exw e ok⟩⟩
theorem Sl.set (s : Sl K W σ l) {d : D} {v : V} (r : Rep K W d v) (i : Nat) : Sl K W (σ.set i (some v)) (l.set i (some d)) := by
  refine ⟨by rw [List.length_set, List.length_set]; exact s.len, fun j d' h => ?_⟩
  by_cases e : i = j
  · subst e
    by_cases hi : i < l.length
    · rw [List.getElem?_set_self hi] at h
      cases h
      exact ⟨v, by rw [List.getElem?_set_self (by rw [← s.len]; exact hi)], r⟩
    · rw [List.getElem?_eq_none (by rw [List.length_set]; omega)] at h
      cases h
  · rw [List.getElem?_set_ne e] at h
    obtain ⟨w, a, b⟩ := s.get j d' h
    exact ⟨w, by rw [List.getElem?_set_ne e]; exact a, b⟩
end

/-! ### readings -/
section
variable (K : Frag) (Wx : WX)
def tE (f : L → Store → R D) : TE := fun σ H Q => ∃ ρ S B l, Ok K ⟨ρ, S, H, B⟩ ∧ Sl K ⟨ρ, S, H, B⟩ σ l ∧ Post K Wx σ ⟨ρ, S, H, B⟩ (f l S) fun W d => ∀ v, Rep K W d v → Q v W.H
def tT (f : L → Store → R Bool) : TT := fun σ H Q => ∃ ρ S B l, Ok K ⟨ρ, S, H, B⟩ ∧ Sl K ⟨ρ, S, H, B⟩ σ l ∧ Post K Wx σ ⟨ρ, S, H, B⟩ (f l S) fun W b => Q b W.H
def tL (f : L → Store → R (List D)) : TA := fun σ H Q => ∃ ρ S B l, Ok K ⟨ρ, S, H, B⟩ ∧ Sl K ⟨ρ, S, H, B⟩ σ l ∧ Post K Wx σ ⟨ρ, S, H, B⟩ (f l S) fun W ds => ∀ vs, Reps K W ds vs → Q vs W.H
end
theorem _root_.L2.PE.imp {X : Cx} {e : Expr} {t t' : TE} (h : PE X e t) (i : ∀ σ H Q, t' σ H Q → t σ H Q) : PE X e t' := ⟨fun p s σ H Q I q => h.run p s σ H Q I (i σ H Q q)⟩
theorem _root_.L2.PT.imp {X : Cx} {e : Expr} {t t' : TT} (h : PT X e t) (i : ∀ σ H Q, t' σ H Q → t σ H Q) : PT X e t' := ⟨fun p s σ H Q I q => h.run p s σ H Q I (i σ H Q q)⟩
theorem _root_.L2.PA.imp {X : Cx} {e : List Expr} {t t' : TA} (h : PA X e t) (i : ∀ σ H Q, t' σ H Q → t σ H Q) : PA X e t' := ⟨fun p q s σ H Q I z => h.run p q s σ H Q I (i σ H Q z)⟩
theorem _root_.L2.PS.imp {X : Cx} {e : Stmt} {t t' : TS} (h : PS X e t) (i : ∀ D σ H, t' D σ H → t D σ H) : PS X e t' := ⟨fun p s σ H D I q => h.run p s σ H D I (i D σ H q)⟩
theorem _root_.L2.PSs.imp {X : Cx} {e : List Stmt} {t t' : TS} (h : PSs X e t) (i : ∀ D σ H, t' D σ H → t D σ H) : PSs X e t' := ⟨fun p s σ H D I q => h.run p s σ H D I (i D σ H q)⟩

abbrev FE (X : Cx) (Wx : WX) (e : Expr) (f : L → Store → R D) : Prop := PE X e (tE X.K Wx f)
abbrev FT (X : Cx) (Wx : WX) (e : Expr) (f : L → Store → R Bool) : Prop := PT X e (tT X.K Wx f)
abbrev FA (X : Cx) (Wx : WX) (e : List Expr) (f : L → Store → R (List D)) : Prop := PA X e (tL X.K Wx f)

/-! ### names, constants, displays -/
def eLoc (i : Nat) : L → Store → R D := fun l S => match l[i]? with
  | some (some d) => .ok d S
  | _ => .bad
def eCon (d : D) : L → Store → R D := fun _ S => .ok d S
section
variable {X : Cx} {Wx : WX} {pos : Pos}
theorem fe_loc (i : Nat) {x : Str} (hN : X.N[i]? = some x := by rfl) (hv : Vis X.env.scope x := by first | exact Or.inl rfl | exact Or.inr (Or.inl rfl) | exact Or.inr (Or.inr rfl)) (hd : (x == ("__debug__" : Str)) = false := by decide)
    (hcd : (x == ("__classdict__" : Str)) = false := by decide) : FE X Wx (.Name x pos) (eLoc i) := by
  refine (pe_var hN hv hd hcd).imp fun σ H Q ⟨ρ, S, B, l, ok, sl, h⟩ => ?_
  unfold eLoc at h
  cases e : l[i]? with
  | none => rw [e] at h; exact h.elim
  | some o =>
    cases o with
    | none => rw [e] at h; exact h.elim
    | some d =>
      rw [e] at h
      obtain ⟨v, a, b⟩ := sl.get i d e
      exact ⟨v, a, Post.ok_of (W := ⟨ρ, S, H, B⟩) ok h v b⟩
theorem fe_of {e : Expr} {v : V} {d : D} (h : PE X e (tC v)) (r : ∀ W, Rep X.K W d v) : FE X Wx e (eCon d) :=
  h.imp fun σ H Q ⟨ρ, S, B, l, ok, sl, h⟩ => Post.ok_of (W := ⟨ρ, S, H, B⟩) ok h v (r _)
theorem fe_int {i j} : FE X Wx (.Constant (.int i) j pos) (eCon (.int i)) := fe_of pe_int fun _ => .int i
theorem fe_bl {b j} : FE X Wx (.Constant (.bool b) j pos) (eCon (.bl b)) := fe_of pe_bl fun _ => .bl b
theorem fe_non {j} : FE X Wx (.Constant .none j pos) (eCon .non) := fe_of pe_non fun _ => .non
theorem fe_str {x j} : FE X Wx (.Constant (.str x) j pos) (eCon (.str x)) := fe_of pe_str fun _ => .str x

def aNil : L → Store → R (List D) := fun _ S => .ok [] S
def aCons (f : L → Store → R D) (g : L → Store → R (List D)) : L → Store → R (List D) := fun l S => (f l S).bind fun d S1 => (g l S1).bind fun ds S2 => .ok (d :: ds) S2
theorem fa_nil : FA X Wx [] aNil := pa_nil.imp fun σ H Q ⟨ρ, S, B, l, ok, sl, h⟩ => Post.ok_of (W := ⟨ρ, S, H, B⟩) ok h [] .nil
theorem fa_cons {e : Expr} {es : List Expr} {f : L → Store → R D} {g : L → Store → R (List D)} (ha : FE X Wx e f) (hr : FA X Wx es g) (hs : starEach (e :: es) X.env = (false, eval e X.env) :: starEach es X.env := by rfl) : FA X Wx (e :: es) (aCons f g) :=
  (pa_cons ha hr hs).imp fun σ H Q ⟨ρ, S, B, l, ok, sl, h⟩ =>
    ⟨ρ, S, B, l, ok, sl, h.bind.mono fun W1 d e1 o1 ⟨_, _, h1⟩ v rv => ⟨W1.ρ, W1.S, W1.B, l, o1, sl.ext e1 ok, h1.bind.mono fun W2 ds e2 o2 ⟨_, _, h2⟩ vs rvs =>
      Post.ok_of o2 h2 (v :: vs) (.cons (rv.ext e2 o1) rvs)⟩⟩
def eTup (g : L → Store → R (List D)) : L → Store → R D := fun l S => (g l S).bind fun ds S1 => if ds.length ≤ sizeLine then .ok (.tup ds) S1 else .bad
def eLst (g : L → Store → R (List D)) : L → Store → R D := fun l S => (g l S).bind fun ds S1 => if ds.length ≤ sizeLine then .ok (.lst ds) S1 else .bad
/-- a new list that may change -/
def eNew (g : L → Store → R (List D)) : L → Store → R D := fun l S => (g l S).bind fun ds S1 => if ds.length ≤ sizeLine then .ok (.loc S1.length) (S1 ++ [.lst ds]) else .bad

theorem Post.iff_ok {α : Type} {K : Frag} {σ : St} {W : Wd} {c : Prop} [Decidable c] {r : R α} {k : Wd → α → Prop} (h : Post K Wx σ W (if c then r else .bad) k) : c ∧ Post K Wx σ W r k := by
  by_cases hc : c
  · rw [if_pos hc] at h
    exact ⟨hc, h⟩
  · rw [if_neg hc] at h
    exact h.elim
/-- a value at a new address, by value -/
theorem Post.new {K : Frag} {σ : St} {W : Wd} {d : D} {Q : VK} {p : Addr} {o : HO} (ok : Ok K W) (hp : W.H p = none) (h : Post K Wx σ W (.ok d W.S) fun W d => ∀ v, Rep K W d v → Q v W.H)
    (r : ∀ W' : Wd, W'.H = upd W.H p o → ¬ Live W' p → ¬ W'.B p → Ext W W' → Rep K W' d (.ref p)) : Q (.ref p) (upd W.H p o) := by
  have s : Same W.H (upd W.H p o) := Same.upd hp
  refine h W.ρ (upd W.H p o) (Ext.same s) (ok.same s) _ (r ⟨W.ρ, W.S, upd W.H p o, W.B⟩ rfl ?_ ?_ (Ext.same s))
  · exact fun l => ok.nlive0 hp l
  · exact fun l => ok.busy p l hp
theorem fe_tup {es : List Expr} {g : L → Store → R (List D)} {x1} (h : FA X Wx es g) : FE X Wx (.Tuple es x1 pos) (eTup g) :=
  (pe_tup h).imp fun σ H Q ⟨ρ, S, B, l, ok, sl, h⟩ => ⟨ρ, S, B, l, ok, sl, h.bind.mono fun W1 ds e1 o1 ⟨_, _, h1⟩ vs rvs => by
    obtain ⟨hc, h1⟩ := Post.iff_ok h1
    exact ⟨by rw [← rvs.length]; exact hc, fun p hp => Post.new o1 hp h1 fun W' e n nb x => .tup (.inl (.inl (by rw [e]; exact upd_same))) (rvs.ext x o1)⟩⟩
theorem fe_lst {es : List Expr} {g : L → Store → R (List D)} (h : FA X Wx es g) : FE X Wx (.List es pos) (eLst g) :=
  (pe_lst h).imp fun σ H Q ⟨ρ, S, B, l, ok, sl, h⟩ => ⟨ρ, S, B, l, ok, sl, h.bind.mono fun W1 ds e1 o1 ⟨_, _, h1⟩ vs rvs => by
    obtain ⟨hc, h1⟩ := Post.iff_ok h1
    exact ⟨by rw [← rvs.length]; exact hc, fun p hp => Post.new o1 hp h1 fun W' e n nb x => .lst ⟨by rw [e]; exact upd_same, n, nb⟩ (rvs.ext x o1)⟩⟩
end

/-! ### a new object in the store -/
theorem alloc_ok {K : Frag} {W : Wd} {p : Addr} {u : HO} {o : Ob} (ok : Ok K W) (hp : W.H p = none) (r : ∀ W' : Wd, W'.H p = some u → Ext W W' → RepO K W' o p) :
    Ext W ⟨fun i => if i = W.S.length then p else W.ρ i, W.S ++ [o], upd W.H p u, W.B⟩ ∧ Ok K ⟨fun i => if i = W.S.length then p else W.ρ i, W.S ++ [o], upd W.H p u, W.B⟩ := by
  have ne : ∀ i, i < W.S.length → W.ρ i ≠ p := fun i hi q => ok.nlive0 hp ⟨i, hi, q⟩
  have e : Ext W ⟨fun i => if i = W.S.length then p else W.ρ i, W.S ++ [o], upd W.H p u, W.B⟩ := by
    refine ⟨rfl, by simp, fun i hi => if_neg (Nat.ne_of_lt hi), fun a w h n => ⟨Same.upd hp _ _ h, ?_⟩⟩
    rintro ⟨i, hi, q⟩
    by_cases z : i = W.S.length
    · have q' : p = a := by simpa [z] using q
      rw [← q', hp] at h
      cases h
    · have q' : W.ρ i = a := by simpa [z] using q
      have hi' : i < W.S.length + 1 := by simpa using hi
      exact n ⟨i, by omega, q'⟩
  refine ⟨e, fun a b q => ?_, fun a b ⟨i, hi, q⟩ => ?_, fun i j hi hj q => ?_, fun i o' h => ?_⟩
  · cases z : W.H a with
    | none => exact ok.busy a b z
    | some w =>
      have q' : upd W.H p u a = none := q
      rw [Same.upd hp _ _ z] at q'
      cases q'
  · by_cases z : i = W.S.length
    · have q' : p = a := by simpa [z] using q
      rw [← q'] at b
      exact ok.busy p b hp
    · have q' : W.ρ i = a := by simpa [z] using q
      have hi' : i < W.S.length + 1 := by simpa using hi
      exact ok.nb a b ⟨i, by omega, q'⟩
  · have hi : i < W.S.length + 1 := by simpa using hi
    have hj : j < W.S.length + 1 := by simpa using hj
    by_cases zi : i = W.S.length
    · by_cases zj : j = W.S.length
      · omega
      · have q' : p = W.ρ j := by simpa [zi, zj] using q
        exact absurd q'.symm (ne j (by omega))
    · by_cases zj : j = W.S.length
      · have q' : W.ρ i = p := by simpa [zi, zj] using q
        exact absurd q' (ne i (by omega))
      · have q' : W.ρ i = W.ρ j := by simpa [zi, zj] using q
        exact ok.inj i j (by omega) (by omega) q'
  · by_cases z : i = W.S.length
    · subst z
      have h' : o = o' := by simpa using h
      subst h'
      show RepO K _ o (if W.S.length = W.S.length then p else _)
      rw [if_pos rfl]
      exact r _ upd_same e
    · have hi : i < W.S.length + 1 := by
        have := (List.getElem?_eq_some_iff.mp h).1
        simpa using this
      have h' : W.S[i]? = some o' := by
        rw [List.getElem?_append_left (by omega)] at h
        exact h
      show RepO K _ o' (if i = W.S.length then p else W.ρ i)
      rw [if_neg z]
      have q := ok.obj i o' h'
      have neq : W.ρ i ≠ p := ne i (by omega)
      cases o' with
      | lst xs =>
        obtain ⟨vs, e1, q1⟩ := q
        exact ⟨vs, (upd_ne neq).trans e1, Reps.ext e ok q1⟩
      | ins C ks xs =>
        obtain ⟨dx, vs, e1, hl, q1⟩ := q
        exact ⟨dx, vs, (upd_ne neq).trans e1, hl, Reps.ext e ok q1⟩
theorem fe_new {X : Cx} {Wx : WX} {pos : Pos} {es : List Expr} {g : L → Store → R (List D)} (h : FA X Wx es g) : FE X Wx (.List es pos) (eNew g) :=
  (pe_lst h).imp fun σ H Q ⟨ρ, S, B, l, ok, sl, h⟩ => ⟨ρ, S, B, l, ok, sl, h.bind.mono fun W1 ds e1 o1 ⟨_, _, h1⟩ vs rvs => by
    obtain ⟨hc, h1⟩ := Post.iff_ok h1
    refine ⟨by rw [← rvs.length]; exact hc, fun p hp => ?_⟩
    obtain ⟨x, o2⟩ := alloc_ok (p := p) (u := .lst vs) (o := .lst ds) o1 hp fun W' e x => ⟨vs, e, rvs.ext x o1⟩
    refine h1 _ _ x o2 _ ?_
    have q : Rep X.K _ (.loc W1.S.length) (.ref ((⟨fun i => if i = W1.S.length then p else W1.ρ i, W1.S ++ [.lst ds], upd W1.H p (.lst vs), W1.B⟩ : Wd).ρ W1.S.length)) := Rep.loc (K := X.K) (W := ⟨fun i => if i = W1.S.length then p else W1.ρ i, W1.S ++ [.lst ds], upd W1.H p (.lst vs), W1.B⟩) (n := W1.S.length) (by simp)
    simpa using q⟩
end HL
end
section
set_option Elab.async false
set_option linter.all false
set_option maxRecDepth 100000
set_option maxHeartbeats 1000000
namespace HL
open PySem PySem.Spec L2

/-! ### room, with no guard about -/
structure RoomG (k : Nat) (A : Around) : Prop where
  r : Room k A
  g : A.guards = some []
theorem RoomG.mono {j k : Nat} {A : Around} (h : RoomG k A) (le : j ≤ k) : RoomG j A := ⟨h.r.mono le, h.g⟩
theorem RoomG.deeper {k : Nat} {A : Around} (h : RoomG (k + 1) A) (env : Env) : RoomG k (A.deeper env) := ⟨h.r.deeper env, h.g⟩
theorem RoomG.in1 {k : Nat} {A : Around} (h : RoomG (k + 1) A) : RoomG k A.in1 := ⟨h.r.in1, h.g⟩
theorem RoomG.make {k : Nat} {A : Around} (h : RoomG (k + 1) A) (C : Addr) (us : List Value) (kw : List (Str × Value)) : RoomG k (A.under (.builtin "type.__call__" ⟨.ref C :: us, kw⟩)) := by
  refine ⟨h.r.make C us kw, ?_⟩
  have e : (Code.builtin "type.__call__" ⟨.ref C :: us, kw⟩).guards = [] := by
    unfold Code.guards
    rw [if_neg]
    show ¬ guardIds.contains "type.__call__" = true
    decide
  show pushGuards (Code.builtin "type.__call__" ⟨.ref C :: us, kw⟩).guards A.guards = some []
  rw [e]
  exact h.g

/-- the def at f keeps the promise sp where no repr is under way -/
structure FnG (P : Program) (w : World) (K : Frag) (mg : Str → Option Value) (base : Heap) (k : Nat) (f : Addr) (fd : FuncData) (ps : List Str) (sp : Sp) : Prop where
  len : ∀ vs H Q E, sp vs H Q E → vs.length = ps.length
  go : ∀ (A : Around) (outer : List Env) (s : Shared) (H : Hp) (args : Args) (us : List Value) (vs : List V) (Q : VK) (E : XK),
    RoomG k A → Env0 P w K mg base A outer s H → BindsTo s fd args (ps.zip us) → Vals vs us → sp vs H Q E → codeAny (model P w) A (.call (.ref f) args) (CR (L2.CX P w) outer P w H s Q E) s
theorem FnG.mono {P : Program} {w : World} {K : Frag} {mg : Str → Option Value} {base : Heap} {j k : Nat} {f : Addr} {fd : FuncData} {ps : List Str} {sp : Sp} (F : FnG P w K mg base j f fd ps sp) (h : j ≤ k) : FnG P w K mg base k f fd ps sp :=
  ⟨F.len, fun A outer s H args us vs Q E hr => F.go A outer s H args us vs Q E (hr.mono h)⟩
theorem FnG.imp {P : Program} {w : World} {K : Frag} {mg : Str → Option Value} {base : Heap} {k : Nat} {f : Addr} {fd : FuncData} {ps : List Str} {sp sp' : Sp} (F : FnG P w K mg base k f fd ps sp)
    (h : ∀ vs H Q E, sp' vs H Q E → sp vs H Q E) : FnG P w K mg base k f fd ps sp' :=
  ⟨fun vs H Q E q => F.len vs H Q E (h _ _ _ _ q), fun A outer s H args us vs Q E hr he hb hv hs => F.go A outer s H args us vs Q E hr he hb hv (h _ _ _ _ hs)⟩

section
variable {X : Cx} {k : Nat} {f C : Addr} {fd : FuncData} {ps : List Str} {sp : Sp} {E : XK} {pins : List (Addr × Obj)} {σ : L2.St} {H : Hp} {s : Shared} {Q : VK}
/-- how arguments come to the parameters: positional us, named ws (names ks); g puts them in order -/
structure Bd (K : Frag) (fd : FuncData) (ps ks : List Str) (g : {α : Type} → List α → List α → List α) : Prop where
  to : ∀ (s : Shared) (us ws : List Value), K.In s.heap → (g us ws).length = ps.length → BindsTo s fd ⟨us, ks.zip ws⟩ (ps.zip (g us ws))
  rel : ∀ {vs : List V} {us : List Value} {zs : List V} {ws : List Value}, Vals vs us → Vals zs ws → Vals (g vs zs) (g us ws)
theorem out_g {r : Result} {s' : Shared} (hx : PassesAt (L2.CX X.prog X.w) X σ E) (I : Inv X pins σ H s) (hq : CR (L2.CX X.prog X.w) X.stack X.prog X.w H s Q E r s') : match r with
    | .ok (.ret u) => EP X pins σ Q u s'
    | .ok _ => False
    | .error e => X.xe e s' := by
  cases r with
  | error e => exact hx pins H s e s' I hq
  | ok fl => cases fl with
    | ret u => exact I.after hq
    | next => exact hq
    | brk => exact hq
    | cont => exact hq
theorem run_g {us : List Value} {vs : List V} {ks : List Str} {ws : List Value} {zs : List V} {g : {α : Type} → List α → List α → List α} (F : FnG X.prog X.w X.K X.mg X.base k f fd ps sp) (hr : RoomG k X.A) (hb : Bd X.K fd ps ks g) (hx : PassesAt (L2.CX X.prog X.w) X σ E)
    (I : Inv X pins σ H s) (r : Vals vs us) (rz : Vals zs ws) (h : sp (g vs zs) H Q E) : wpAny (model X.prog X.w) X.A (call (.ref f) us (ks.zip ws)) (EP X pins σ Q) X.xe s := by
  have r2 := hb.rel r rz
  have hl : (g us ws).length = ps.length := by rw [← r2.length]; exact F.len _ _ _ _ h
  refine wpAny_call (codeAny_mono (F.go X.A X.stack s H _ _ _ Q E hr I.env0 (hb.to s us ws I.kIn hl) r2 h) fun r s' hq => ?_)
  have z := out_g hx I hq
  cases r with
  | error e => exact z
  | ok fl => cases fl with
    | ret u => exact z
    | next => exact z.elim
    | brk => exact z.elim
    | cont => exact z.elim
/-- g(..) of positional arguments alone -/
abbrev gPos {α : Type} (us : List α) (_ : List α) : List α := us
theorem run_g0 {us : List Value} {vs : List V} (F : FnG X.prog X.w X.K X.mg X.base k f fd ps sp) (hr : RoomG k X.A) (hb : Bd X.K fd ps [] gPos) (hx : PassesAt (L2.CX X.prog X.w) X σ E)
    (I : Inv X pins σ H s) (r : Vals vs us) (h : sp vs H Q E) : wpAny (model X.prog X.w) X.A (call (.ref f) us) (EP X pins σ Q) X.xe s :=
  run_g (ks := []) (ws := []) (zs := []) (g := gPos) F hr hb hx I r .nil h
end
theorem Bd.pos {K : Frag} {fd : FuncData} {ps : List Str} (h : ∀ us : List Value, us.length = ps.length → bindArgs fd ⟨us, []⟩ = pure (ps.zip us)) : Bd K fd ps [] gPos :=
  ⟨fun s us ws _ hl => .of_eq (h us hl), fun r _ => r⟩

/-! ### the promise of a function over data -/
def spOf (K : Frag) (n : Nat) (g : List D → Store → R D) : Sp := fun vs H Q E => ∃ ρ S B ds, Ok K ⟨ρ, S, H, B⟩ ∧ Reps K ⟨ρ, S, H, B⟩ ds vs ∧ ds.length = n ∧ Post K (fun c d _ H => E c d H) [] ⟨ρ, S, H, B⟩ (g ds S) fun W d => ∀ v, Rep K W d v → Q v W.H
theorem spOf.len {K : Frag} {n : Nat} {g : List D → Store → R D} {ps : List Str} (hp : ps.length = n) : ∀ vs H Q E, spOf K n g vs H Q E → vs.length = ps.length := fun vs H Q E ⟨ρ, S, B, ds, _, r, hl, _⟩ => by rw [hp, ← hl, r.length]
theorem Post.at {α : Type} {K : Frag} {Wx : WX} {σ : L2.St} {W : Wd} {r : R α} {k : Wd → α → Prop} (h : Post K Wx σ W r k) : Post K (fun c d _ H => Wx c d σ H) [] W r k := by
  cases r with
  | ok a S => exact h
  | exc e S => exact h
  | bad => exact h
def eCall (g : List D → Store → R D) (fa : L → Store → R (List D)) : L → Store → R D := fun l S => (fa l S).bind fun ds S1 => if ds.length = 0 then .bad else g ds S1
def eCalln (n : Nat) (g : List D → Store → R D) (fa : L → Store → R (List D)) : L → Store → R D := fun l S => (fa l S).bind fun ds S1 => if ds.length = n then g ds S1 else .bad
section
variable {X : Cx} {Wx : WX} {k n : Nat} {f C : Addr} {fd : FuncData} {ps : List Str} {g : List D → Store → R D} {x m : Str} {p pos apos : Pos} {e o : Expr} {es : List Expr} {fa : L → Store → R (List D)}
/-- the callee's promise, where arguments stand for data -/
theorem call_sp {K : Frag} {W : Wd} {σ : L2.St} {ds : List D} {vs : List V} {Q : VK} (ok : Ok K W) (r : Reps K W ds vs) (h : Post K Wx σ W (if ds.length = n then g ds W.S else .bad) fun W d => ∀ v, Rep K W d v → Q v W.H) : spOf K n g vs W.H Q (WE Wx σ) := by
  obtain ⟨hc, h⟩ := Post.iff_ok h
  exact ⟨W.ρ, W.S, W.B, ds, ok, r, hc, h.at⟩
theorem fe_call (F : FnG X.prog X.w X.K X.mg X.base k f fd ps (spOf X.K n g)) (hr : RoomG k X.A) (tk : Takes X Wx) (hm : X.mg x = some (.ref f)) (hk : PySem.W.keepIn X.K (.ref f) = true) (hb : Bd X.K fd ps [] gPos) (hg : Gl X x)
    (ha : FA X Wx (e :: es) fa) (hdb : (x == ("__debug__" : Str)) = false := by decide) (he : starEach (e :: es) X.env = (false, eval e X.env) :: starEach es X.env := by rfl) (hpl : (backTo pos (starEach es X.env)).any (·.1) = false := by rfl) :
    FE X Wx (.Call (.Name x p) (e :: es) [] pos) (eCalln n g fa) := by
  refine ⟨fun pins s σ H Q I ⟨ρ, S, B, l, ok, sl, h⟩ => ?_⟩
  refine wpAny_Call_Name_kw (ld_glob I hg hm ?_ hdb)
  have ha' := ha.run pos pins s σ H (fun vs H1 => spOf X.K n g vs H1 Q (WE Wx σ)) I ⟨ρ, S, B, l, ok, sl, h.bind.mono fun W1 ds e1 o1 ⟨_, _, h1⟩ vs rvs => call_sp o1 rvs h1⟩
  refine PySem.W.callWith_K (h₀ := X.base) I.ok.mod.kin hk (thn ha' fun us s1 ⟨vs, H1, I1, r, q⟩ => ⟨I1.kIn, ?_⟩) he hpl
  exact run_g0 F hr hb (passAt tk σ) I1 r q
theorem fe_call0 (F : FnG X.prog X.w X.K X.mg X.base k f fd ps (spOf X.K n g)) (hr : RoomG k X.A) (tk : Takes X Wx) (hm : X.mg x = some (.ref f)) (hk : PySem.W.keepIn X.K (.ref f) = true) (hb : Bd X.K fd ps [] gPos) (hg : Gl X x)
    (hdb : (x == ("__debug__" : Str)) = false := by decide) : FE X Wx (.Call (.Name x p) [] [] pos) (eCalln n g aNil) := by
  refine ⟨fun pins s σ H Q I ⟨ρ, S, B, l, ok, sl, h⟩ => ?_⟩
  refine wpAny_Call_Name_kw (ld_glob I hg hm ?_ hdb)
  exact PySem.W.callWith_K0 I.kIn hk (run_g0 (us := []) (vs := []) F hr hb (passAt tk σ) I .nil (call_sp (W := ⟨ρ, S, H, B⟩) (ds := []) ok .nil h))
end

/-! ### statements -/
inductive Fl where
  | nx (l : L) (S : Store) | rt (d : D) (S : Store) | bk (l : L) (S : Store) | ct (l : L) (S : Store) | exc (e : Exc) (l : L) (S : Store) | bad
def PostS (K : Frag) (Wx : WX) (W : Wd) (r : Fl) (D : Ends) : Prop := match r with
  | .nx l S => ∀ ρ H σ, Ext W ⟨ρ, S, H, W.B⟩ → Ok K ⟨ρ, S, H, W.B⟩ → Sl K ⟨ρ, S, H, W.B⟩ σ l → D.nx σ H
  | .rt d S => ∀ ρ H v, Ext W ⟨ρ, S, H, W.B⟩ → Ok K ⟨ρ, S, H, W.B⟩ → Rep K ⟨ρ, S, H, W.B⟩ d v → D.rt v H
  | .bk l S => ∀ ρ H σ, Ext W ⟨ρ, S, H, W.B⟩ → Ok K ⟨ρ, S, H, W.B⟩ → Sl K ⟨ρ, S, H, W.B⟩ σ l → D.bk σ H
  | .ct l S => ∀ ρ H σ, Ext W ⟨ρ, S, H, W.B⟩ → Ok K ⟨ρ, S, H, W.B⟩ → Sl K ⟨ρ, S, H, W.B⟩ σ l → D.ct σ H
  | .exc e l S => ∀ ρ H σ cls d, Ext W ⟨ρ, S, H, W.B⟩ → Ok K ⟨ρ, S, H, W.B⟩ → Sl K ⟨ρ, S, H, W.B⟩ σ l → RepX K ⟨ρ, S, H, W.B⟩ e cls d → Wx cls d σ H
  | .bad => False
def R.toS {α : Type} (r : R α) (l : L) (k : α → Store → Fl) : Fl := match r with
  | .ok a S => k a S
  | .exc e S => .exc e l S
  | .bad => .bad
@[simp] theorem R.toS_ok {α : Type} (a : α) (S : Store) (l : L) (k : α → Store → Fl) : (R.ok a S).toS l k = k a S := rfl
@[simp] theorem R.toS_bad {α : Type} (l : L) (k : α → Store → Fl) : (R.bad : R α).toS l k = .bad := rfl
@[simp] theorem R.toS_exc {α : Type} (e : Exc) (S : Store) (l : L) (k : α → Store → Fl) : (R.exc e S : R α).toS l k = .exc e l S := rfl
section
variable {K : Frag} {Wx : WX} {W W' : Wd} {r : Fl} {E E' : Ends} {σ : L2.St} {l : L}
theorem PostS.weak (h : PostS K Wx W r E) (e : Ext W W') : PostS K Wx W' r E := by
  have q := e.B
  cases r with
  | nx l S =>
    intro ρ H σ e' o
    rw [q] at e' o ⊢
    exact h ρ H σ (e.trans e') o
  | rt d S =>
    intro ρ H v e' o
    rw [q] at e' o ⊢
    exact h ρ H v (e.trans e') o
  | bk l S =>
    intro ρ H σ e' o
    rw [q] at e' o ⊢
    exact h ρ H σ (e.trans e') o
  | ct l S =>
    intro ρ H σ e' o
    rw [q] at e' o ⊢
    exact h ρ H σ (e.trans e') o
  | exc x l S =>
    intro ρ H σ cls d e' o
    rw [q] at e' o ⊢
    exact h ρ H σ cls d (e.trans e') o
  | bad => exact h
theorem PostS.toS {α : Type} {r : R α} {k : α → Store → Fl} (sl : Sl K W σ l) (ok : Ok K W) (h : PostS K Wx W (r.toS l k) E) : Post K Wx σ W r fun W' a => Ext W W' ∧ Ok K W' ∧ PostS K Wx W' (k a W'.S) E := by
  cases r with
  | ok a S => exact fun ρ H e o => ⟨e, o, PostS.weak (r := k a S) h e⟩
  | exc x S => exact fun ρ H cls d e o rx => h ρ H σ cls d e o (sl.ext e ok) rx
  | bad => exact h
end
def tS (K : Frag) (Wx : WX) (f : L → Store → Fl) : TS := fun D σ H => ∃ ρ S B l, Ok K ⟨ρ, S, H, B⟩ ∧ Sl K ⟨ρ, S, H, B⟩ σ l ∧ PostS K Wx ⟨ρ, S, H, B⟩ (f l S) D
abbrev FS (X : Cx) (Wx : WX) (st : Stmt) (f : L → Store → Fl) : Prop := PS X st (tS X.K Wx f)
abbrev FB (X : Cx) (Wx : WX) (st : List Stmt) (f : L → Store → Fl) : Prop := PSs X st (tS X.K Wx f)
def Fl.andThen (r : Fl) (g : L → Store → Fl) : Fl := match r with
  | .nx l S => g l S
  | .rt d S => .rt d S
  | .bk l S => .bk l S
  | .ct l S => .ct l S
  | .exc e l S => .exc e l S
  | .bad => .bad
@[simp] theorem Fl.andThen_nx (l : L) (S : Store) (g : L → Store → Fl) : (Fl.nx l S).andThen g = g l S := rfl
@[simp] theorem Fl.andThen_rt (d : D) (S : Store) (g : L → Store → Fl) : (Fl.rt d S).andThen g = .rt d S := rfl
@[simp] theorem Fl.andThen_bk (l : L) (S : Store) (g : L → Store → Fl) : (Fl.bk l S).andThen g = .bk l S := rfl
@[simp] theorem Fl.andThen_ct (l : L) (S : Store) (g : L → Store → Fl) : (Fl.ct l S).andThen g = .ct l S := rfl
@[simp] theorem Fl.andThen_exc (e : Exc) (l : L) (S : Store) (g : L → Store → Fl) : (Fl.exc e l S).andThen g = .exc e l S := rfl
@[simp] theorem Fl.andThen_bad (g : L → Store → Fl) : Fl.bad.andThen g = .bad := rfl
def bSeq (f g : L → Store → Fl) : L → Store → Fl := fun l S => (f l S).andThen g
def bNil : L → Store → Fl := fun l S => .nx l S
def sRet (f : L → Store → R D) : L → Store → Fl := fun l S => (f l S).toS l fun d S1 => .rt d S1
def sRetN : L → Store → Fl := fun l S => .rt .non S
def sDrop (f : L → Store → R D) : L → Store → Fl := fun l S => (f l S).toS l fun _ S1 => .nx l S1
def sSet (i : Nat) (f : L → Store → R D) : L → Store → Fl := fun l S => (f l S).toS l fun d S1 => .nx (l.set i (some d)) S1
def sIf (c : L → Store → R Bool) (f g : L → Store → Fl) : L → Store → Fl := fun l S => (c l S).toS l fun b S1 => if b then f l S1 else g l S1
def sBad : L → Store → Fl := fun _ _ => .bad
def sBrk : L → Store → Fl := fun l S => .bk l S
def sCnt : L → Store → Fl := fun l S => .ct l S
section
variable {X : Cx} {Wx : WX} {st : Stmt} {rest : List Stmt} {f g : L → Store → Fl} {e : Expr} {fe : L → Store → R D} {pos : Pos}
theorem fb_nil : FB X Wx [] bNil := pss_nil.imp fun D σ H ⟨ρ, S, B, l, ok, sl, h⟩ => h ρ H σ (Ext.refl _) ok sl
theorem fb_cons (h1 : FS X Wx st f) (h2 : FB X Wx rest g) : FB X Wx (st :: rest) (bSeq f g) :=
  (pss_cons h1 h2).imp fun D σ H ⟨ρ, S, B, l, ok, sl, h⟩ => by
    refine ⟨ρ, S, B, l, ok, sl, ?_⟩
    unfold bSeq at h
    cases q : f l S with
    | nx l' S' =>
      rw [q] at h
      exact fun ρ' H' σ' e' o' s' => ⟨ρ', S', B, l', o', s', PostS.weak (r := g l' S') h e'⟩
    | rt d S' => rw [q] at h; exact h
    | bk l' S' => rw [q] at h; exact h
    | ct l' S' => rw [q] at h; exact h
    | exc x l' S' => rw [q] at h; exact h
    | bad => rw [q] at h; exact h
theorem fb_one (h1 : FS X Wx st f) : FB X Wx [st] f := (pss_one h1).imp fun D σ H h => h
theorem fs_pass : FS X Wx (.Pass pos) bNil := ps_pass.imp fun D σ H ⟨ρ, S, B, l, ok, sl, h⟩ => h ρ H σ (Ext.refl _) ok sl
theorem fs_brk : FS X Wx (.Break pos) sBrk := ps_break.imp fun D σ H ⟨ρ, S, B, l, ok, sl, h⟩ => h ρ H σ (Ext.refl _) ok sl
theorem fs_cnt : FS X Wx (.Continue pos) sCnt := ps_continue.imp fun D σ H ⟨ρ, S, B, l, ok, sl, h⟩ => h ρ H σ (Ext.refl _) ok sl
theorem fs_bad : FS X Wx st sBad := ps_never.imp fun D σ H ⟨ρ, S, B, l, ok, sl, h⟩ => h
theorem fs_ret (he : FE X Wx e fe) : FS X Wx (.Return (some e) pos) (sRet fe) :=
  (ps_ret he).imp fun D σ H ⟨ρ, S, B, l, ok, sl, h⟩ => ⟨ρ, S, B, l, ok, sl, (h.toS sl ok).mono fun W1 d e1 o1 ⟨_, _, h1⟩ v rv => h1 W1.ρ W1.H v (Ext.refl _) o1 rv⟩
theorem fs_retN : FS X Wx (.Return none pos) sRetN := ps_retN.imp fun D σ H ⟨ρ, S, B, l, ok, sl, h⟩ => h ρ H .non (Ext.refl _) ok .non
theorem fs_expr (he : FE X Wx e fe) (hs : swapsWith e none pos.line X.env = pure false := by rfl) : FS X Wx (.Expr e pos) (sDrop fe) :=
  (ps_expr he hs).imp fun D σ H ⟨ρ, S, B, l, ok, sl, h⟩ => ⟨ρ, S, B, l, ok, sl, (h.toS sl ok).mono fun W1 d e1 o1 ⟨_, _, h1⟩ v rv => h1 W1.ρ W1.H σ (Ext.refl _) o1 (sl.ext e1 ok)⟩
theorem fs_set (i : Nat) {x : Str} {pos' : Pos} (hN : X.N.Nodup) (he : FE X Wx e fe) (hi : X.N[i]? = some x := by rfl) (hx : Loc X.env.scope x := by first | exact Or.inl rfl | exact Or.inr rfl) (hs : swapsWith e (some (.Name x pos')) pos.line X.env = pure false := by rfl)
    (hf : X.fn x = true ∨ X.env.scope.names.lookup x = some .local := by first | exact .inl rfl | exact .inr rfl) : FS X Wx (.Assign [.Name x pos'] e pos) (sSet i fe) :=
  (ps_set hN hi hx he hs hf).imp fun D σ H ⟨ρ, S, B, l, ok, sl, h⟩ => ⟨ρ, S, B, l, ok, sl, (h.toS sl ok).mono fun W1 d e1 o1 ⟨_, _, h1⟩ v rv => h1 W1.ρ W1.H _ (Ext.refl _) o1 ((sl.ext e1 ok).set rv i)⟩
theorem fs_if {c : Expr} {a b : List Stmt} {fc : L → Store → R Bool} (hc : FT X Wx c fc) (ha : FB X Wx a f) (hb : FB X Wx b g) : FS X Wx (.If c a b pos) (sIf fc f g) :=
  (ps_if hc ha hb).imp fun D σ H ⟨ρ, S, B, l, ok, sl, h⟩ => ⟨ρ, S, B, l, ok, sl, (h.toS sl ok).mono fun W1 d e1 o1 ⟨_, _, h1⟩ => by
    cases d with
    | true =>
      rw [if_pos rfl] at h1 ⊢
      exact ⟨W1.ρ, W1.S, W1.B, l, o1, sl.ext e1 ok, h1⟩
    | false =>
      rw [if_neg Bool.false_ne_true] at h1 ⊢
      exact ⟨W1.ρ, W1.S, W1.B, l, o1, sl.ext e1 ok, h1⟩⟩
end

/-! ### a def by its body -/
mutual
def noLoc : D → Bool
  | .loc _ => false
  | .tup xs => noLocs xs
  | .tpn xs => noLocs xs
  | .lst xs => noLocs xs
  | .scr xs => noLocs xs
  | .ins _ _ xs => noLocs xs
  | .err _ _ xs => noLocs xs
  | _ => true
def noLocs : List D → Bool
  | [] => true
  | d :: ds => noLoc d && noLocs ds
end
/-- what stood in the store stands there still, or holds flat data now -/
def Pres (S S' : Store) : Prop := S.length ≤ S'.length ∧ ∀ i o, i < S.length → S'[i]? = some o → S[i]? = some o ∨ match o with
  | .lst xs => noLocs xs = true
  | .ins _ _ xs => noLocs xs = true
/-- what was new in the store, by value -/
def frz (n0 : Nat) (S : Store) : Nat → D → Option D
  | 0, d => if noLoc d = true then some d else none
  | f + 1, d => if noLoc d = true then some d else match d with
    | .tup xs => (xs.mapM (frz n0 S f)).map .tup
    | .tpn xs => (xs.mapM (frz n0 S f)).map .tpn
    | .lst xs => (xs.mapM (frz n0 S f)).map .lst
    | .scr xs => (xs.mapM (frz n0 S f)).map .scr
    | .ins C ks xs => (xs.mapM (frz n0 S f)).map (.ins C ks)
    | .loc n => if n0 ≤ n then match S[n]? with
      | some (.lst xs) => (xs.mapM (frz n0 S f)).map .lst
      | some (.ins C ks xs) => (xs.mapM (frz n0 S f)).map (.ins C ks)
      | none => none
      else none
    | _ => none
theorem frz_flat {n0 : Nat} {S : Store} {f : Nat} {d : D} (h : noLoc d = true) : frz n0 S f d = some d := by
  cases f with
  | zero => unfold frz; rw [if_pos h]
  | succ f => unfold frz; rw [if_pos h]
open Classical in
noncomputable def fin (tr : Bool) (S0 : Store) (d : D) (S : Store) : R D := if tr then (if Pres S0 S then ofO (frz S0.length S 9 d) (S.take S0.length) else .bad) else .ok d S
noncomputable def finish (tr : Bool) (S0 : Store) (r : Fl) : R D := match r with
  | .nx _ S => fin tr S0 .non S
  | .rt d S => fin tr S0 d S
  | .exc e _ S => .exc e S
  | _ => .bad
/-- the function of a def: n names in all, the arguments first -/
noncomputable def run (tr : Bool) (n : Nat) (f : L → Store → Fl) : List D → Store → R D := fun ds S => finish tr S (f (ds.map some ++ List.replicate (n - ds.length) none) S)
section
variable {K : Frag} {W W' : Wd}
theorem live_cut {ρ : Nat → Addr} {S : Store} {H : Hp} {B : Addr → Prop} {n : Nat} {a : Addr} (h : Live ⟨ρ, S.take n, H, B⟩ a) : Live ⟨ρ, S, H, B⟩ a := by
  obtain ⟨i, hi, q⟩ := h
  refine ⟨i, Nat.lt_of_lt_of_le hi ?_, q⟩
  show (S.take n).length ≤ S.length
  rw [List.length_take]
  exact Nat.min_le_right _ _
mutual
theorem Rep.cut {ρ : Nat → Addr} {S : Store} {H : Hp} {B : Addr → Prop} (n : Nat) : ∀ {d : D} {v : V}, noLoc d = true → Rep K ⟨ρ, S, H, B⟩ d v → Rep K ⟨ρ, S.take n, H, B⟩ d v
  | _, _, _, .non => .non
  | _, _, _, .bl b => .bl b
  | _, _, _, .int i => .int i
  | _, _, _, .str x => .str x
  | _, _, z, .tup h r => .tup h (Reps.cut n z r)
  | _, _, z, .tpn h r => .tpn h (Reps.cut n z r)
  | _, _, z, .lst h r => .lst ⟨h.1, fun z => h.2.1 (live_cut z), h.2.2⟩ (Reps.cut n z r)
  | _, _, z, .scr h r => .scr h (Reps.cut n z r)
  | _, _, z, .iset h b => .iset h (fun z => b (live_cut z))
  | _, _, z, .ins h b hl r => .ins h (fun z => b (live_cut z)) hl (Reps.cut n z r)
  | _, _, z, .err h hd hl r => .err h hd hl (Reps.cut n z r)
  | _, _, z, .loc h => by cases z
theorem Reps.cut {ρ : Nat → Addr} {S : Store} {H : Hp} {B : Addr → Prop} (n : Nat) : ∀ {ds : List D} {vs : List V}, noLocs ds = true → Reps K ⟨ρ, S, H, B⟩ ds vs → Reps K ⟨ρ, S.take n, H, B⟩ ds vs
  | _, _, _, .nil => .nil
  | _, _, z, .cons h r => by
    unfold noLocs at z
    obtain ⟨z1, z2⟩ := Bool.and_eq_true_iff.mp z
    exact .cons (Rep.cut n z1 h) (Reps.cut n z2 r)
end
mutual
theorem Rep.back {ρ0 ρ : Nat → Addr} {S0 S : Store} {H0 H : Hp} {B0 B : Addr → Prop} (hlen : (S.take S0.length).length = S0.length) : ∀ {d : D} {u v : V}, Rep K ⟨ρ0, S0, H0, B0⟩ d u → Rep K ⟨ρ, S, H, B⟩ d v → Rep K ⟨ρ, S.take S0.length, H, B⟩ d v
  | _, _, _, .non, .non => .non
  | _, _, _, .bl _, .bl b => .bl b
  | _, _, _, .int _, .int i => .int i
  | _, _, _, .str _, .str x => .str x
  | _, _, _, .tup _ q, .tup h r => .tup h (Reps.back hlen q r)
  | _, _, _, .tpn _ q, .tpn h r => .tpn h (Reps.back hlen q r)
  | _, _, _, .lst _ q, .lst h r => .lst ⟨h.1, fun z => h.2.1 (live_cut z), h.2.2⟩ (Reps.back hlen q r)
  | _, _, _, .scr _ q, .scr h r => .scr h (Reps.back hlen q r)
  | _, _, _, .iset _ _, .iset h b => .iset h (fun z => b (live_cut z))
  | _, _, _, .ins _ _ _ q, .ins h b hl r => .ins h (fun z => b (live_cut z)) hl (Reps.back hlen q r)
  | _, _, _, .err _ _ _ q, .err h hd hl r => .err h hd hl (Reps.back hlen q r)
  | .loc n, _, _, hn, h => by
    cases hn with
    | loc hn => cases h with
      | loc h => exact Rep.loc (K := K) (W := ⟨ρ, S.take S0.length, H, B⟩) (n := n) (by show n < (S.take S0.length).length; rw [hlen]; exact hn)
theorem Reps.back {ρ0 ρ : Nat → Addr} {S0 S : Store} {H0 H : Hp} {B0 B : Addr → Prop} (hlen : (S.take S0.length).length = S0.length) : ∀ {xs : List D} {ws vs : List V}, Reps K ⟨ρ0, S0, H0, B0⟩ xs ws → Reps K ⟨ρ, S, H, B⟩ xs vs → Reps K ⟨ρ, S.take S0.length, H, B⟩ xs vs
  | _, _, _, .nil, .nil => .nil
  | _, _, _, .cons h q, .cons h' r => .cons (Rep.back hlen h h') (Reps.back hlen q r)
end
theorem mapM_some {α β : Type} {f : α → Option β} : ∀ {xs : List α} {ys : List β}, xs.mapM f = some ys → (xs = [] ∧ ys = []) ∨ ∃ x xr y yr, xs = x :: xr ∧ ys = y :: yr ∧ f x = some y ∧ xr.mapM f = some yr
  | [], ys, h => by
    rw [List.mapM_nil] at h
    cases h
    exact .inl ⟨rfl, rfl⟩
  | x :: xs, ys, h => by
    rw [List.mapM_cons] at h
    cases q : f x with
    | none => rw [q] at h; cases h
    | some y => cases q2 : xs.mapM f with
      | none => rw [q, q2] at h; cases h
      | some yr =>
        rw [q, q2] at h
        cases h
        exact .inr ⟨x, xs, y, yr, rfl, rfl, q, q2⟩
theorem cut_dead {ρ : Nat → Addr} {S : Store} {H : Hp} {B : Addr → Prop} {n0 n : Nat} (ok : Ok K ⟨ρ, S, H, B⟩) (hn : n < S.length) (h : n0 ≤ n) : ¬ Live ⟨ρ, S.take n0, H, B⟩ (ρ n) := fun ⟨i, hi, q⟩ => by
  have hi : i < (S.take n0).length := hi
  rw [List.length_take] at hi
  have e := ok.inj i n (Nat.lt_of_lt_of_le hi (Nat.min_le_right _ _)) hn q
  omega
theorem Reps.frz {ρ : Nat → Addr} {S : Store} {H : Hp} {B : Addr → Prop} {n0 : Nat} {g : D → Option D} (h : ∀ d d' v, g d = some d' → Rep K ⟨ρ, S, H, B⟩ d v → Rep K ⟨ρ, S.take n0, H, B⟩ d' v) : ∀ {ds es : List D} {vs : List V}, ds.mapM g = some es → Reps K ⟨ρ, S, H, B⟩ ds vs → Reps K ⟨ρ, S.take n0, H, B⟩ es vs
  | _, _, _, m, .nil => by
    rcases mapM_some m with ⟨_, rfl⟩ | ⟨_, _, _, _, e, _⟩
    · exact .nil
    · cases e
  | _, _, _, m, .cons r rs => by
    rcases mapM_some m with ⟨e, _⟩ | ⟨_, _, _, _, e, rfl, q1, q2⟩
    · cases e
    · cases e
      exact .cons (h _ _ _ q1 r) (Reps.frz h q2 rs)
theorem Rep.frz {ρ : Nat → Addr} {S : Store} {H : Hp} {B : Addr → Prop} {n0 : Nat} (ok : Ok K ⟨ρ, S, H, B⟩) : ∀ {f : Nat} {d d' : D} {v : V}, HL.frz n0 S f d = some d' → Rep K ⟨ρ, S, H, B⟩ d v → Rep K ⟨ρ, S.take n0, H, B⟩ d' v
  | 0, d, d', v, z, r => by
    unfold HL.frz at z
    by_cases c : noLoc d = true
    · rw [if_pos c] at z
      cases z
      exact r.cut n0 c
    · rw [if_neg c] at z
      cases z
  | f + 1, d, d', v, z, r => by
    have ih : ∀ d d' v, HL.frz n0 S f d = some d' → Rep K ⟨ρ, S, H, B⟩ d v → Rep K ⟨ρ, S.take n0, H, B⟩ d' v := fun d d' v z r => Rep.frz ok z r
    unfold HL.frz at z
    by_cases c : noLoc d = true
    · rw [if_pos c] at z
      cases z
      exact r.cut n0 c
    · rw [if_neg c] at z
      cases r with
      | non => cases z
      | bl => cases z
      | int => cases z
      | str => cases z
      | iset h b => cases z
      | err h hd hl q => cases z
      | tup h q =>
        obtain ⟨es, m, rfl⟩ := Option.map_eq_some_iff.mp z
        exact .tup h (Reps.frz ih m q)
      | tpn h q =>
        obtain ⟨es, m, rfl⟩ := Option.map_eq_some_iff.mp z
        exact .tpn h (Reps.frz ih m q)
      | lst h q =>
        obtain ⟨es, m, rfl⟩ := Option.map_eq_some_iff.mp z
        exact .lst ⟨h.1, fun z => h.2.1 (live_cut z), h.2.2⟩ (Reps.frz ih m q)
      | scr h q =>
        obtain ⟨es, m, rfl⟩ := Option.map_eq_some_iff.mp z
        exact .scr h (Reps.frz ih m q)
      | ins h b hl q =>
        obtain ⟨es, m, rfl⟩ := Option.map_eq_some_iff.mp z
        exact .ins h (fun z => b (live_cut z)) hl (Reps.frz ih m q)
      | @loc n hn =>
        have hn : n < S.length := hn
        dsimp only at z
        by_cases c2 : n0 ≤ n
        · rw [if_pos c2] at z
          have o := ok.obj n _ (List.getElem?_eq_getElem hn)
          have nb : ¬ B (ρ n) := fun b => ok.nb _ b ⟨n, hn, rfl⟩
          rw [List.getElem?_eq_getElem hn] at z
          cases q : S[n] with
          | lst xs =>
            have o : RepO K ⟨ρ, S, H, B⟩ S[n] (ρ n) := o
            rw [q] at z o
            obtain ⟨es, m, rfl⟩ := Option.map_eq_some_iff.mp z
            obtain ⟨vs, e, rs⟩ := o
            exact .lst ⟨e, cut_dead ok hn c2, nb⟩ (Reps.frz ih m rs)
          | ins C ks xs =>
            have o : RepO K ⟨ρ, S, H, B⟩ S[n] (ρ n) := o
            rw [q] at z o
            obtain ⟨es, m, rfl⟩ := Option.map_eq_some_iff.mp z
            obtain ⟨dx, vs, e, hl, rs⟩ := o
            exact .ins e (cut_dead ok hn c2) hl (Reps.frz ih m rs)
        · rw [if_neg c2] at z
          cases z
open Classical in
theorem fin_ok {tr : Bool} {S0 : Store} {E : XK} {Q : VK} {d : D} {S : Store} {ρ0 : Nat → Addr} {H0 : Hp} {B : Addr → Prop} (ok0 : Ok K ⟨ρ0, S0, H0, B⟩) (h : Post K (fun c d _ H => E c d H) [] ⟨ρ0, S0, H0, B⟩ (fin tr S0 d S) fun W d => ∀ v, Rep K W d v → Q v W.H)
    {ρ : Nat → Addr} {H : Hp} {v : V} (e : Ext ⟨ρ0, S0, H0, B⟩ ⟨ρ, S, H, B⟩) (ok : Ok K ⟨ρ, S, H, B⟩) (r : Rep K ⟨ρ, S, H, B⟩ d v) : Q v H := by
  unfold fin at h
  cases tr with
  | false =>
    rw [if_neg Bool.false_ne_true] at h
    exact h ρ H e ok v r
  | true =>
    rw [if_pos rfl] at h
    obtain ⟨hp, h⟩ := Post.iff_ok h
    have hlen : (S.take S0.length).length = S0.length := by rw [List.length_take]; exact Nat.min_eq_left hp.1
    have hle : ∀ {i : Nat}, i < (S.take S0.length).length → i < S.length := fun hi => Nat.lt_of_lt_of_le hi (by rw [List.length_take]; exact Nat.min_le_right _ _)
    have e2 : Ext ⟨ρ0, S0, H0, B⟩ ⟨ρ, S.take S0.length, H, B⟩ := ⟨rfl, Nat.le_of_eq hlen.symm, e.rho, fun a u z n => ⟨(e.keep a u z n).1, fun q => (e.keep a u z n).2 (live_cut q)⟩⟩
    have ok2 : Ok K ⟨ρ, S.take S0.length, H, B⟩ := by
      refine ⟨ok.busy, fun a b q => ok.nb a b (live_cut q), fun i j hi hj q => ok.inj i j (hle hi) (hle hj) q, fun i o z => ?_⟩
      have hi : i < S0.length := by
        have q : i < (S.take S0.length).length := (List.getElem?_eq_some_iff.mp z).1
        rw [hlen] at q
        exact q
      have z' : S[i]? = some o := by
        have q : (S.take S0.length)[i]? = some o := z
        rw [List.getElem?_take_of_lt hi] at q
        exact q
      have w := ok.obj i o z'
      rcases hp.2 i o hi z' with same | flat
      · have w0 := ok0.obj i o same
        cases o with
        | lst xs =>
          obtain ⟨vs, e1, q1⟩ := w
          obtain ⟨ws, _, q0⟩ := w0
          exact ⟨vs, e1, Reps.back hlen q0 q1⟩
        | ins C ks xs =>
          obtain ⟨dx, vs, e1, hl, q1⟩ := w
          obtain ⟨_, ws, _, _, q0⟩ := w0
          exact ⟨dx, vs, e1, hl, Reps.back hlen q0 q1⟩
      · cases o with
        | lst xs =>
          obtain ⟨vs, e1, q1⟩ := w
          exact ⟨vs, e1, Reps.cut _ flat q1⟩
        | ins C ks xs =>
          obtain ⟨dx, vs, e1, hl, q1⟩ := w
          exact ⟨dx, vs, e1, hl, Reps.cut _ flat q1⟩
    cases hz : HL.frz S0.length S 9 d with
    | none => rw [hz] at h; exact h.elim
    | some d' =>
      rw [hz] at h
      exact h ρ H e2 ok2 v (Rep.frz ok hz r)
end
end HL
end
section
set_option Elab.async false
set_option linter.all false
set_option maxRecDepth 100000
set_option maxHeartbeats 1000000
namespace HL
open PySem PySem.Spec L2

/-! ### values by the store -/
def seqL (d : D) (S : Store) : Option (List D) := match d with
  | .lst xs => some xs
  | .scr xs => some xs
  | .loc n => match S[n]? with
    | some (.lst xs) => some xs
    | _ => none
  | _ => none
/-- a list or a tuple -/
def seqD (d : D) (S : Store) : Option (List D) := match d with
  | .tup xs => some xs
  | .tpn xs => some xs
  | d => seqL d S
section
variable {K : Frag} {W : Wd} {ρ : Nat → Addr} {S : Store} {H : Hp}
theorem seqL_ok (ok : Ok K W) {d : D} {v : V} {xs : List D} (r : Rep K W d v) (e : seqL d W.S = some xs) : ∃ a vs, v = .ref a ∧ SqL K W.H a vs ∧ Reps K W xs vs := by
  cases r with
  | lst h q =>
    cases (show some _ = some xs from e)
    exact ⟨_, _, rfl, h.sql, q⟩
  | scr h q =>
    cases (show some _ = some xs from e)
    exact ⟨_, _, rfl, h.sql, q⟩
  | @loc n hn =>
    have e' : (match W.S[n]? with
      | some (.lst xs) => some xs
      | _ => none) = some xs := e
    cases z : W.S[n]? with
    | none => rw [z] at e'; cases e'
    | some o => cases o with
      | lst ys =>
        rw [z] at e'
        cases e'
        obtain ⟨vs, h1, h2⟩ := ok.obj n _ z
        exact ⟨_, vs, rfl, SqL.of h1, h2⟩
      | ins C ks zs => rw [z] at e'; cases e'
  | _ => cases e
theorem seqD_ok (ok : Ok K W) {d : D} {v : V} {xs : List D} (r : Rep K W d v) (e : seqD d W.S = some xs) : ∃ a vs, v = .ref a ∧ (SqL K W.H a vs ∨ SqT K W.H a vs) ∧ Reps K W xs vs := by
  cases r with
  | tup h q =>
    cases (show some _ = some xs from e)
    exact ⟨_, _, rfl, .inr h, q⟩
  | tpn h q =>
    cases (show some _ = some xs from e)
    obtain ⟨o, h, _⟩ := h
    exact ⟨_, _, rfl, .inr (.inl (.inr ⟨o, h⟩)), q⟩
  | lst h q =>
    obtain ⟨a, vs, e1, h1, q1⟩ := seqL_ok ok (.lst h q) (show seqL (.lst _) W.S = some xs from e)
    exact ⟨a, vs, e1, .inl h1, q1⟩
  | scr h q =>
    obtain ⟨a, vs, e1, h1, q1⟩ := seqL_ok ok (.scr h q) (show seqL (.scr _) W.S = some xs from e)
    exact ⟨a, vs, e1, .inl h1, q1⟩
  | loc hn =>
    obtain ⟨a, vs, e1, h1, q1⟩ := seqL_ok ok (.loc hn) (show seqL (.loc _) W.S = some xs from e)
    exact ⟨a, vs, e1, .inl h1, q1⟩
  | _ => cases e
end

/-! ### rules over values -/
/-- a function of two data and the store, that changes nothing -/
def rP2 (K : Frag) (p : D → D → Store → Option D) : R2 := fun x y H Q => ∃ ρ S B d e r, Ok K ⟨ρ, S, H, B⟩ ∧ Rep K ⟨ρ, S, H, B⟩ d x ∧ Rep K ⟨ρ, S, H, B⟩ e y ∧ p d e S = some r ∧ ∀ H' v, Same H H' → Rep K ⟨ρ, S, H', B⟩ r v → Q v H'
abbrev OpD (X : Cx) (f : Value → Value → Sem Value) (p : D → D → Store → Option D) : Prop := OpR X f (rP2 X.K p)
def rPl (K : Frag) (p : List D → Store → Option D) : List V → Hp → VK → Prop := fun xs H Q => ∃ ρ S B ds r, Ok K ⟨ρ, S, H, B⟩ ∧ Reps K ⟨ρ, S, H, B⟩ ds xs ∧ p ds S = some r ∧ ∀ H' v, Same H H' → Rep K ⟨ρ, S, H', B⟩ r v → Q v H'
abbrev CallD (X : Cx) (f : Value) (p : List D → Store → Option D) : Prop := CallR X f (rPl X.K p)
def mBin (p : D → D → Store → Option D) (f g : L → Store → R D) : L → Store → R D := fun l S => (f l S).bind fun d S1 => (g l S1).bind fun e S2 => ofO (p d e S2) S2
def mCall (p : List D → Store → Option D) (fa : L → Store → R (List D)) : L → Store → R D := fun l S => (fa l S).bind fun ds S1 => ofO (p ds S1) S1
def mUn (p : D → Store → Option D) (f : L → Store → R D) : L → Store → R D := fun l S => (f l S).bind fun d S1 => ofO (p d S1) S1
theorem Post.ofO {α : Type} {K : Frag} {Wx : WX} {σ : L2.St} {W : Wd} {o : Option α} {k : Wd → α → Prop} (h : Post K Wx σ W (ofO o W.S) k) : ∃ a, o = some a ∧ ∀ H', Same W.H H' → Ok K W → k ⟨W.ρ, W.S, H', W.B⟩ a := by
  cases o with
  | none => exact h.elim
  | some a => exact ⟨a, rfl, fun H' s ok => h W.ρ H' (Ext.same s) (ok.same s)⟩
section
variable {X : Cx} {Wx : WX} {pos : Pos} {a b c : Expr} {fa fb fc : L → Store → R D} {p p' : D → D → Store → Option D}
theorem bin_ok {K : Frag} {σ : L2.St} {W : Wd} {l : L} {f g : L → Store → R D} {Q : VK} (ok : Ok K W) (sl : Sl K W σ l) (h : Post K Wx σ W (mBin p f g l W.S) fun W d => ∀ v, Rep K W d v → Q v W.H) :
    tE K Wx f σ W.H fun x H1 => tE K Wx g σ H1 fun y H2 => rP2 K p x y H2 Q :=
  ⟨W.ρ, W.S, W.B, l, ok, sl, h.bind.mono fun W1 d e1 o1 ⟨_, _, h1⟩ v rv => ⟨W1.ρ, W1.S, W1.B, l, o1, sl.ext e1 ok, h1.bind.mono fun W2 d2 e2 o2 ⟨_, _, h2⟩ u ru => by
    obtain ⟨r, er, q⟩ := h2.ofO
    exact ⟨W2.ρ, W2.S, W2.B, d, d2, r, o2, rv.ext e2 o1, ru, er, fun H' v' s rv' => q H' s o2 v' rv'⟩⟩⟩
theorem fe_bin {op : Operator} (ho : OpD X (binaryOp op) p) (ha : FE X Wx a fa) (hb : FE X Wx b fb) : FE X Wx (.BinOp a op b pos) (mBin p fa fb) :=
  (pe_op ho ha hb).imp fun σ H Q ⟨ρ, S, B, l, ok, sl, h⟩ => bin_ok (W := ⟨ρ, S, H, B⟩) ok sl h
theorem fe_cmp {op : CmpOp} (ho : OpD X (compareOp op) p) (ha : FE X Wx a fa) (hb : FE X Wx b fb) (hm : behindInMarks op b = false := by rfl) : FE X Wx (.Compare a [op] [b] pos) (mBin p fa fb) :=
  (pe_cmpR ho ha hb hm).imp fun σ H Q ⟨ρ, S, B, l, ok, sl, h⟩ => bin_ok (W := ⟨ρ, S, H, B⟩) ok sl h
/-- a test from a value that is a bool -/
def asB (f : L → Store → R D) : L → Store → R Bool := fun l S => (f l S).bind fun d S1 => match d with
  | .bl b => .ok b S1
  | _ => .bad
theorem asB_ok {K : Frag} {σ : L2.St} {H : Hp} {f : L → Store → R D} {Q : Bool → Hp → Prop} (h : tT K Wx (asB f) σ H Q) : tE K Wx f σ H fun x H' => ∃ k, x = .bl k ∧ Q k H' := by
  obtain ⟨ρ, S, B, l, ok, sl, h⟩ := h
  refine ⟨ρ, S, B, l, ok, sl, h.bind.mono fun W1 d e1 o1 ⟨_, _, h1⟩ v rv => ?_⟩
  cases rv with
  | bl k => exact ⟨k, rfl, Post.ok_of o1 h1⟩
  | _ => exact h1.elim
theorem ft_cmp {op : CmpOp} (ho : OpD X (compareOp op) p) (ha : FE X Wx a fa) (hb : FE X Wx b fb) (hm : behindInMarks op b = false := by rfl) : FT X Wx (.Compare a [op] [b] pos) (asB (mBin p fa fb)) :=
  (pt_cmpR ho ha hb hm).imp fun σ H Q h => by
    obtain ⟨ρ, S, B, l, ok, sl, h⟩ := asB_ok h
    exact bin_ok (W := ⟨ρ, S, H, B⟩) ok sl h
/-- an expression that gives a bool, as a test -/
theorem ft_val {e : Expr} {f : L → Store → R D} (h : FE X Wx e f) (he : ∀ whole, isTrue e X.env whole = (do let v ← whole; standAt e.pos; holding [v] (truthy v)) := by intro _; rfl) : FT X Wx e (asB f) :=
  (pt_val h he).imp fun σ H Q h => asB_ok h
/-- a op b op' c -/
def mChain (p p' : D → D → Store → Option D) (f g k : L → Store → R D) : L → Store → R D := fun l S => (f l S).bind fun d S1 => (g l S1).bind fun e S2 => match p d e S2 with
  | some (.bl true) => (k l S2).bind fun z S3 => ofO (p' e z S3) S3
  | some (.bl false) => .ok (.bl false) S2
  | _ => .bad
theorem chain_ok {K : Frag} {σ : L2.St} {W : Wd} {l : L} {Q : VK} (ok : Ok K W) (sl : Sl K W σ l) (h : Post K Wx σ W (mChain p p' fa fb fc l W.S) fun W d => ∀ v, Rep K W d v → Q v W.H) : tChain (rP2 K p) (rP2 K p') (tE K Wx fa) (tE K Wx fb) (tE K Wx fc) σ W.H Q :=
  ⟨W.ρ, W.S, W.B, l, ok, sl, h.bind.mono fun W1 d e1 o1 ⟨_, _, h1⟩ v rv => ⟨W1.ρ, W1.S, W1.B, l, o1, sl.ext e1 ok, h1.bind.mono fun W2 d2 e2 o2 ⟨_, _, h2⟩ u ru => by
    cases q : p d d2 W2.S with
    | none => rw [q] at h2; exact h2.elim
    | some r =>
      rw [q] at h2
      refine ⟨W2.ρ, W2.S, W2.B, d, d2, r, o2, rv.ext e2 o1, ru, q, fun H' v' s rv' => ?_⟩
      cases r with
      | bl b =>
        cases rv' with
        | bl b =>
          refine ⟨b, rfl, ?_⟩
          cases b with
          | true =>
            rw [if_pos rfl]
            have e3 : Ext W2 ⟨W2.ρ, W2.S, H', W2.B⟩ := Ext.same s
            have o3 : Ok K ⟨W2.ρ, W2.S, H', W2.B⟩ := o2.same s
            refine ⟨W2.ρ, W2.S, W2.B, l, o3, (sl.ext (e1.trans e2) ok).ext e3 o2, (Post.weak h2 e3).bind.mono fun W4 z e4 o4 ⟨_, _, h4⟩ w rw' => ?_⟩
            obtain ⟨r4, er4, q4⟩ := h4.ofO
            exact ⟨W4.ρ, W4.S, W4.B, d2, z, r4, o4, (ru.ext e3 o2).ext e4 o3, rw', er4, fun H5 v5 s5 rv5 => q4 H5 s5 o4 v5 rv5⟩
          | false =>
            rw [if_neg Bool.false_ne_true]
            exact h2 W2.ρ H' (Ext.same s) (o2.same s) _ (.bl false)
      | _ => exact h2.elim⟩⟩
theorem fe_chain {op op' : CmpOp} (ho : OpD X (compareOp op) p) (ho' : OpD X (compareOp op') p') (ha : FE X Wx a fa) (hb : FE X Wx b fb) (hc : FE X Wx c fc) (hm : lastMarks [op, op'] [b, c] = false := by with_unfolding_all rfl) :
    FE X Wx (.Compare a [op, op'] [b, c] pos) (mChain p p' fa fb fc) :=
  (pe_chain ho ho' ha hb hc hm).imp fun σ H Q ⟨ρ, S, B, l, ok, sl, h⟩ => chain_ok (W := ⟨ρ, S, H, B⟩) ok sl h
theorem ft_chain {op op' : CmpOp} (ho : OpD X (compareOp op) p) (ho' : OpD X (compareOp op') p') (ha : FE X Wx a fa) (hb : FE X Wx b fb) (hc : FE X Wx c fc) (hm : lastMarks [op, op'] [b, c] = false := by with_unfolding_all rfl) :
    FT X Wx (.Compare a [op, op'] [b, c] pos) (asB (mChain p p' fa fb fc)) :=
  (pt_chain ho ho' ha hb hc hm).imp fun σ H Q h => by
    obtain ⟨ρ, S, B, l, ok, sl, h⟩ := asB_ok h
    exact chain_ok (W := ⟨ρ, S, H, B⟩) ok sl h
end

/-! ### and, or, not, if -/
def mNot (f : L → Store → R Bool) : L → Store → R Bool := fun l S => (f l S).bind fun b S1 => .ok (!b) S1
def mAnd (f g : L → Store → R Bool) : L → Store → R Bool := fun l S => (f l S).bind fun b S1 => if b then g l S1 else .ok false S1
def mOr (f g : L → Store → R Bool) : L → Store → R Bool := fun l S => (f l S).bind fun b S1 => if b then .ok true S1 else g l S1
def mIf (c : L → Store → R Bool) (f g : L → Store → R D) : L → Store → R D := fun l S => (c l S).bind fun b S1 => if b then f l S1 else g l S1
/-- values (bools): and, or, not -/
def vAnd (f g : L → Store → R D) : L → Store → R D := fun l S => (f l S).bind fun d S1 => match d with
  | .bl true => g l S1
  | .bl false => .ok (.bl false) S1
  | _ => .bad
def vOr (f g : L → Store → R D) : L → Store → R D := fun l S => (f l S).bind fun d S1 => match d with
  | .bl true => .ok (.bl true) S1
  | .bl false => g l S1
  | _ => .bad
def vNot (f : L → Store → R D) : L → Store → R D := fun l S => (f l S).bind fun d S1 => match d with
  | .bl b => .ok (.bl (!b)) S1
  | _ => .bad
section
variable {X : Cx} {Wx : WX} {pos : Pos} {a b c : Expr} {rest : List Expr} {f g k : L → Store → R D} {t u : L → Store → R Bool}
abbrev FW (X : Cx) (Wx : WX) (e : Expr) (f : L → Store → R Bool) : Prop := PW X e (tT X.K Wx f)
theorem _root_.L2.PW.imp {X : Cx} {e : Expr} {t t' : TT} (h : PW X e t) (i : ∀ σ H Q, t' σ H Q → t σ H Q) : PW X e t' := ⟨fun w p s σ H Q I q => h.run w p s σ H Q I (i σ H Q q)⟩
theorem ft_not (h : FT X Wx a t) : FT X Wx (.UnaryOp .Not a pos) (mNot t) :=
  (pt_not h).imp fun σ H Q ⟨ρ, S, B, l, ok, sl, h⟩ => ⟨ρ, S, B, l, ok, sl, h.bind.mono fun W1 d e1 o1 ⟨_, _, h1⟩ => Post.ok_of o1 h1⟩
theorem fw_and1 (h : FT X Wx a t) : FW X Wx (.BoolOp .And [a] pos) t := pw_and1 h
theorem fw_or1 (h : FT X Wx a t) : FW X Wx (.BoolOp .Or [a] pos) t := pw_or1 h
theorem fw_and (h : FT X Wx a t) (r : FW X Wx (.BoolOp .And (b :: rest) pos) u) : FW X Wx (.BoolOp .And (a :: b :: rest) pos) (mAnd t u) :=
  (pw_and h r).imp fun σ H Q ⟨ρ, S, B, l, ok, sl, h⟩ => ⟨ρ, S, B, l, ok, sl, h.bind.mono fun W1 d e1 o1 ⟨_, _, h1⟩ => by
    cases d with
    | true => exact iteT ⟨W1.ρ, W1.S, W1.B, l, o1, sl.ext e1 ok, h1⟩
    | false => exact iteF (Post.ok_of o1 h1)⟩
theorem fw_or (h : FT X Wx a t) (r : FW X Wx (.BoolOp .Or (b :: rest) pos) u) : FW X Wx (.BoolOp .Or (a :: b :: rest) pos) (mOr t u) :=
  (pw_or h r).imp fun σ H Q ⟨ρ, S, B, l, ok, sl, h⟩ => ⟨ρ, S, B, l, ok, sl, h.bind.mono fun W1 d e1 o1 ⟨_, _, h1⟩ => by
    cases d with
    | true => exact iteT (Post.ok_of o1 h1)
    | false => exact iteF ⟨W1.ρ, W1.S, W1.B, l, o1, sl.ext e1 ok, h1⟩⟩
theorem ft_w {e : Expr} (h : FW X Wx e t) : FT X Wx e t := PW.pt h
theorem fe_if (hc : FT X Wx c t) (ha : FE X Wx a f) (hb : FE X Wx b g) : FE X Wx (.IfExp c a b pos) (mIf t f g) :=
  (pe_ifExp hc ha hb).imp fun σ H Q ⟨ρ, S, B, l, ok, sl, h⟩ => ⟨ρ, S, B, l, ok, sl, h.bind.mono fun W1 d e1 o1 ⟨_, _, h1⟩ => by
    cases d with
    | true => exact iteT ⟨W1.ρ, W1.S, W1.B, l, o1, sl.ext e1 ok, h1⟩
    | false => exact iteF ⟨W1.ρ, W1.S, W1.B, l, o1, sl.ext e1 ok, h1⟩⟩
theorem fe_one {op : PySem.BoolOp} (h : FE X Wx a f) : FE X Wx (.BoolOp op [a] pos) f := pe_one h
theorem fe_and (h : FE X Wx a f) (r : FE X Wx (.BoolOp .And (b :: rest) pos) g) : FE X Wx (.BoolOp .And (a :: b :: rest) pos) (vAnd f g) :=
  (pe_and h r).imp fun σ H Q ⟨ρ, S, B, l, ok, sl, h⟩ => ⟨ρ, S, B, l, ok, sl, h.bind.mono fun W1 d e1 o1 ⟨_, _, h1⟩ v rv => by
    cases rv with
    | bl k =>
      refine ⟨k, rfl, ?_⟩
      cases k with
      | true => exact iteT ⟨W1.ρ, W1.S, W1.B, l, o1, sl.ext e1 ok, h1⟩
      | false => exact iteF (Post.ok_of o1 h1 _ (.bl false))
    | _ => exact h1.elim⟩
theorem fe_or (h : FE X Wx a f) (r : FE X Wx (.BoolOp .Or (b :: rest) pos) g) : FE X Wx (.BoolOp .Or (a :: b :: rest) pos) (vOr f g) :=
  (pe_or h r).imp fun σ H Q ⟨ρ, S, B, l, ok, sl, h⟩ => ⟨ρ, S, B, l, ok, sl, h.bind.mono fun W1 d e1 o1 ⟨_, _, h1⟩ v rv => by
    cases rv with
    | bl k =>
      refine ⟨k, rfl, ?_⟩
      cases k with
      | true => exact iteT (Post.ok_of o1 h1 _ (.bl true))
      | false => exact iteF ⟨W1.ρ, W1.S, W1.B, l, o1, sl.ext e1 ok, h1⟩
    | _ => exact h1.elim⟩
theorem fe_not (h : FE X Wx a f) : FE X Wx (.UnaryOp .Not a pos) (vNot f) :=
  (pe_not h).imp fun σ H Q ⟨ρ, S, B, l, ok, sl, h⟩ => ⟨ρ, S, B, l, ok, sl, h.bind.mono fun W1 d e1 o1 ⟨_, _, h1⟩ v rv => by
    cases rv with
    | bl k => exact ⟨k, rfl, Post.ok_of o1 h1 _ (.bl _)⟩
    | _ => exact h1.elim⟩
end

/-! ### arithmetic -/
def pAdd (d e : D) (S : Store) : Option D := match nt d, nt e with
  | .int i, .int j => some (.int (i + j))
  | .str x, .str y => if x.length + y.length ≤ sizeLine then some (.str (x ++ y)) else none
  | .tup xs, .tup ys => if xs.length + ys.length ≤ sizeLine then some (.tup (xs ++ ys)) else none
  | .lst xs, .lst ys => if xs.length + ys.length ≤ sizeLine then some (.lst (xs ++ ys)) else none
  | _, _ => none
def pSub (d e : D) (_ : Store) : Option D := match d, e with
  | .int i, .int j => some (.int (i - j))
  | _, _ => none
instance (i j : Int) : Decidable (CMul i j) := inferInstanceAs (Decidable (_ ∨ _))
instance (i j : Int) : Decidable (CDiv i j) := inferInstanceAs (Decidable (_ ∧ _))
instance (i j : Int) : Decidable (CPow i j) := inferInstanceAs (Decidable (_ ∧ _))
def pMul (d e : D) (_ : Store) : Option D := match d, e with
  | .int i, .int j => if CMul i j then some (.int (i * j)) else none
  | .lst xs, .int k => if 0 ≤ k ∧ k < 1000000 ∧ xs.length * k.toNat ≤ sizeLine then some (.lst (List.replicate k.toNat xs).flatten) else none
  | _, _ => none
def pDiv (d e : D) (_ : Store) : Option D := match d, e with
  | .int i, .int j => if CDiv i j then some (.int (i / j)) else none
  | _, _ => none
def pMod (d e : D) (_ : Store) : Option D := match d, e with
  | .int i, .int j => if 0 < j then some (.int (i % j)) else none
  | _, _ => none
def pPow (d e : D) (_ : Store) : Option D := match d, e with
  | .int i, .int j => if CPow i j then some (.int (i ^ j.toNat)) else none
  | _, _ => none
section
variable {X : Cx}
theorem new_lst {K : Frag} {ρ : Nat → Addr} {S : Store} {H : Hp} {B : Addr → Prop} {p : Addr} {vs : List V} {xs : List D} (ok : Ok K ⟨ρ, S, H, B⟩) (hp : H p = none) (q : Reps K ⟨ρ, S, H, B⟩ xs vs) : Same H (upd H p (.lst vs)) ∧ Rep K ⟨ρ, S, upd H p (.lst vs), B⟩ (.lst xs) (.ref p) :=
  ⟨Same.upd hp, .lst ⟨upd_same, fun l => ok.nlive0 hp l, fun l => ok.busy p l hp⟩ (q.ext (Ext.same (Same.upd hp)) ok)⟩
theorem new_tup {K : Frag} {ρ : Nat → Addr} {S : Store} {H : Hp} {B : Addr → Prop} {p : Addr} {vs : List V} {xs : List D} (ok : Ok K ⟨ρ, S, H, B⟩) (hp : H p = none) (q : Reps K ⟨ρ, S, H, B⟩ xs vs) : Same H (upd H p (.tup vs)) ∧ Rep K ⟨ρ, S, upd H p (.tup vs), B⟩ (.tup xs) (.ref p) :=
  ⟨Same.upd hp, .tup (SqT.of upd_same) (q.ext (Ext.same (Same.upd hp)) ok)⟩
theorem Reps.flat {K : Frag} {W : Wd} {xs : List D} {vs : List V} (q : Reps K W xs vs) : ∀ n : Nat, Reps K W (List.replicate n xs).flatten (List.replicate n vs).flatten
  | 0 => .nil
  | n + 1 => by
    rw [List.replicate_succ, List.replicate_succ, List.flatten_cons, List.flatten_cons]
    exact q.append (Reps.flat q n)
theorem op_pAdd : OpD X (binaryOp .Add) pAdd := by
  intro pins s σ H x y v u Q I rx ry ⟨ρ, S, B, d, e, r, ok, rd, re, hp, k⟩
  unfold pAdd at hp
  replace rd := rd.nt
  replace re := re.nt
  generalize nt d = d at rd hp
  generalize nt e = e at re hp
  split at hp
  · cases hp; cases rd; cases re
    exact op_add pins s σ H _ _ v u Q I rx ry ⟨_, _, rfl, rfl, k _ _ (Same.refl H) (.int _)⟩
  · split at hp
    · rename_i hz
      cases hp; cases rd; cases re
      exact op_add_str pins s σ H _ _ v u Q I rx ry ⟨_, _, rfl, rfl, hz, k _ _ (Same.refl H) (.str _)⟩
    · cases hp
  · split at hp
    · rename_i hz
      cases hp
      cases rd with
      | tup h1 q1 => cases re with
        | tup h2 q2 =>
          refine op_catA pins s σ H _ _ v u Q I rx ry ⟨_, _, _, _, rfl, rfl, h1, h2, by rw [← q1.length, ← q2.length]; exact hz, fun e1 => ?_, fun _ e2 => ?_, fun _ _ p hp => ?_⟩
          · subst e1
            have z := q1.length
            rw [List.length_nil] at z
            rw [List.eq_nil_of_length_eq_zero z] at k
            exact k _ _ (Same.refl H) (.tup h2 q2)
          · subst e2
            have z := q2.length
            rw [List.length_nil] at z
            rw [List.eq_nil_of_length_eq_zero z, List.append_nil] at k
            exact k _ _ (Same.refl H) (.tup h1 q1)
          · obtain ⟨sm, z⟩ := new_tup ok hp (q1.append q2)
            exact k _ _ sm z
    · cases hp
  · split at hp
    · rename_i hz
      cases hp
      cases rd with
      | lst h1 q1 => cases re with
        | lst h2 q2 =>
          refine op_cat pins s σ H _ _ v u Q I rx ry ⟨_, _, _, _, rfl, rfl, h1.1, h2.1, by rw [← q1.length, ← q2.length]; exact hz, fun p hp => ?_⟩
          obtain ⟨sm, z⟩ := new_lst ok hp (q1.append q2)
          exact k _ _ sm z
    · cases hp
  · cases hp
theorem op_pSub : OpD X (binaryOp .Sub) pSub := by
  intro pins s σ H x y v u Q I rx ry ⟨ρ, S, B, d, e, r, ok, rd, re, hp, k⟩
  unfold pSub at hp
  split at hp
  · cases hp; cases rd; cases re
    exact op_sub pins s σ H _ _ v u Q I rx ry ⟨_, _, rfl, rfl, k _ _ (Same.refl H) (.int _)⟩
  · cases hp
theorem op_pDiv : OpD X (binaryOp .FloorDiv) pDiv := by
  intro pins s σ H x y v u Q I rx ry ⟨ρ, S, B, d, e, r, ok, rd, re, hp, k⟩
  unfold pDiv at hp
  split at hp
  · split at hp
    · rename_i hz
      cases hp; cases rd; cases re
      exact op_fdiv pins s σ H _ _ v u Q I rx ry ⟨_, _, rfl, rfl, hz, k _ _ (Same.refl H) (.int _)⟩
    · cases hp
  · cases hp
theorem op_pMod : OpD X (binaryOp .Mod) pMod := by
  intro pins s σ H x y v u Q I rx ry ⟨ρ, S, B, d, e, r, ok, rd, re, hp, k⟩
  unfold pMod at hp
  split at hp
  · split at hp
    · rename_i hz
      cases hp; cases rd; cases re
      exact op_mod pins s σ H _ _ v u Q I rx ry ⟨_, _, rfl, rfl, hz, k _ _ (Same.refl H) (.int _)⟩
    · cases hp
  · cases hp
theorem op_pPow : OpD X (binaryOp .Pow) pPow := by
  intro pins s σ H x y v u Q I rx ry ⟨ρ, S, B, d, e, r, ok, rd, re, hp, k⟩
  unfold pPow at hp
  split at hp
  · split at hp
    · rename_i hz
      cases hp; cases rd; cases re
      exact op_pow pins s σ H _ _ v u Q I rx ry ⟨_, _, rfl, rfl, hz, k _ _ (Same.refl H) (.int _)⟩
    · cases hp
  · cases hp
theorem op_pMul : OpD X (binaryOp .Mult) pMul := by
  intro pins s σ H x y v u Q I rx ry ⟨ρ, S, B, d, e, r, ok, rd, re, hp, k⟩
  unfold pMul at hp
  split at hp
  · split at hp
    · rename_i hz
      cases hp; cases rd; cases re
      exact op_mul pins s σ H _ _ v u Q I rx ry ⟨_, _, rfl, rfl, hz, k _ _ (Same.refl H) (.int _)⟩
    · cases hp
  · split at hp
    · rename_i hz
      cases hp
      cases rd with
      | lst h1 q1 => cases re with
        | int _ =>
          refine op_rep pins s σ H _ _ v u Q I rx ry ⟨_, _, _, rfl, rfl, h1.1, by omega, by omega, by rw [← q1.length]; exact hz.2.2, fun p hp => ?_⟩
          obtain ⟨sm, z⟩ := new_lst ok hp (q1.flat _)
          exact k _ _ sm z
    · cases hp
  · cases hp
end
end HL
end
section
set_option Elab.async false
set_option linter.all false
set_option maxRecDepth 100000
set_option maxHeartbeats 1000000
namespace HL
open PySem PySem.Spec L2

/-! ### data as the library has it -/
mutual
def toPy : D → Option PyData
  | .non => some .none
  | .bl b => some (.bool b)
  | .int i => some (.int i)
  | .str x => some (.str x)
  | .tup xs => (toPys xs).map .tuple
  | .tpn xs => (toPys xs).map .tuple
  | .lst xs => (toPys xs).map .list
  | .scr xs => (toPys xs).map .list
  | .iset _ => none
  | .ins _ _ _ => none
  | .err _ _ _ => none
  | .loc _ => none
def toPys : List D → Option (List PyData)
  | [] => some []
  | d :: ds => match toPy d, toPys ds with
    | some p, some ps => some (p :: ps)
    | _, _ => none
end
def toPyS (d : D) (S : Store) : Option PyData := match d with
  | .loc n => match S[n]? with
    | some (.lst xs) => (toPys xs).map .list
    | _ => none
  | d => toPy d
section
variable {K : Frag} {W : Wd}
mutual
theorem Rep.dp (ok : Ok K W) : ∀ {d : D} {v : V} {p : PyData}, Rep K W d v → toPy d = some p → Dp K W.H v p
  | _, _, _, .non, e => by cases e; exact .non
  | _, _, _, .bl b, e => by cases e; exact .bl b
  | _, _, _, .int i, e => by cases e; exact .int i
  | _, _, _, .str x, e => by cases e; exact .str x
  | _, _, _, .tup (xs := xs) h r, e => by
    have e' : (toPys xs).map PyData.tuple = some _ := e
    obtain ⟨ps, h1, rfl⟩ := Option.map_eq_some_iff.mp e'
    exact .tup h (Reps.dp ok r h1)
  | _, _, _, .tpn (xs := xs) h r, e => by
    have e' : (toPys xs).map PyData.tuple = some _ := e
    obtain ⟨ps, h1, rfl⟩ := Option.map_eq_some_iff.mp e'
    obtain ⟨o, h, _⟩ := h
    exact .tup (.inl (.inr ⟨o, h⟩)) (Reps.dp ok r h1)
  | _, _, _, .lst (xs := xs) h r, e => by
    have e' : (toPys xs).map PyData.list = some _ := e
    obtain ⟨ps, h1, rfl⟩ := Option.map_eq_some_iff.mp e'
    exact .lst h.sql (Reps.dp ok r h1)
  | _, _, _, .scr (xs := xs) h r, e => by
    have e' : (toPys xs).map PyData.list = some _ := e
    obtain ⟨ps, h1, rfl⟩ := Option.map_eq_some_iff.mp e'
    exact .lst h.sql (Reps.dp ok r h1)
  | _, _, _, .iset _ _, e => by cases e
  | _, _, _, .ins _ _ _ _, e => by cases e
  | _, _, _, .err _ _ _ _, e => by cases e
  | _, _, _, .loc _, e => by cases e
theorem Reps.dp (ok : Ok K W) : ∀ {ds : List D} {vs : List V} {ps : List PyData}, Reps K W ds vs → toPys ds = some ps → DpAll K W.H vs ps
  | _, _, _, .nil, e => by cases e; exact .nil
  | _, _, _, .cons (d := d) (ds := ds) h r, e => by
    unfold toPys at e
    cases h1 : toPy d with
    | none => rw [h1] at e; cases e
    | some p => cases h2 : toPys ds with
      | none => rw [h1, h2] at e; cases e
      | some ps =>
        rw [h1, h2] at e
        cases e
        exact .cons (Rep.dp ok h h1) (Reps.dp ok r h2)
end
theorem Rep.dpS (ok : Ok K W) {d : D} {v : V} {p : PyData} (r : Rep K W d v) (e : toPyS d W.S = some p) : Dp K W.H v p := by
  by_cases hl : ∃ n, d = .loc n
  · obtain ⟨n, rfl⟩ := hl
    cases r with
    | loc hn =>
      have e' : (match W.S[n]? with
        | some (.lst xs) => (toPys xs).map PyData.list
        | _ => none) = some p := e
      cases z : W.S[n]? with
      | none => rw [z] at e'; cases e'
      | some o => cases o with
        | lst xs =>
          rw [z] at e'
          obtain ⟨ps, h1, rfl⟩ := Option.map_eq_some_iff.mp e'
          obtain ⟨vs, h2, h3⟩ := ok.obj n _ z
          exact .lst (SqL.of h2) (Reps.dp ok h3 h1)
        | ins C ks xs => rw [z] at e'; cases e'
  · have e' : toPy d = some p := by
      cases d with
      | loc n => exact absurd ⟨n, rfl⟩ hl
      | _ => exact e
    exact r.dp ok e'
end

/-! ### ==, !=, <, <=, >, >= -/
def pEq (d e : D) (S : Store) : Option D := match toPyS d S, toPyS e S with
  | some p, some q => if SeqAt.shaped p = true ∧ SeqAt.shaped q = true then some (.bl (PyData.eqv p q)) else none
  | _, _ => none
def pNe (d e : D) (S : Store) : Option D := match toPyS d S, toPyS e S with
  | some p, some q => if SeqAt.shaped p = true ∧ SeqAt.shaped q = true then some (.bl (!PyData.eqv p q)) else none
  | _, _ => none
def pLt (d e : D) (_ : Store) : Option D := match d, e with
  | .int i, .int j => some (.bl (decide (i < j)))
  | _, _ => none
def pLe (d e : D) (_ : Store) : Option D := match d, e with
  | .int i, .int j => some (.bl (decide (i ≤ j)))
  | _, _ => none
def pGt (d e : D) (_ : Store) : Option D := match d, e with
  | .int i, .int j => some (.bl (decide (j < i)))
  | _, _ => none
def pGe (d e : D) (_ : Store) : Option D := match d, e with
  | .int i, .int j => some (.bl (decide (j ≤ i)))
  | _, _ => none
/-- x is None -/
def pIsN (d e : D) (_ : Store) : Option D := match e with
  | .non => some (.bl (match d with | .non => true | _ => false))
  | _ => none
def pNotN (d e : D) (_ : Store) : Option D := match e with
  | .non => some (.bl (match d with | .non => false | _ => true))
  | _ => none
/-- x in xs -/
def inP (p : PyData) (ps : List PyData) : Bool := ps.any fun z => PyData.eqv z p
def pIn (d e : D) (S : Store) : Option D := match d, nt e with
  | .str x, .str y => some (.bl (!(Builtin.Str.occurrences y x 0 y.length 1).isEmpty))
  | d, .tup ys => if flats (d :: ys) then some (.bl (ys.any fun y => eqF y d)) else none
  | d, e => match toPyS d S, toPyS e S with
    | some p, some (.list ps) => if SeqAt.shaped p = true ∧ SeqAt.shaped (.list ps) = true then some (.bl (inP p ps)) else none
    | _, _ => none
where
  flats (ds : List D) : Bool := ds.all fun d => match d with
    | .non => true
    | .bl _ => true
    | .int _ => true
    | .str _ => true
    | _ => false
  eqF (d e : D) : Bool := match d, e with
    | .non, .non => true
    | .bl a, .bl b => a == b
    | .bl a, .int b => (if a then 1 else 0) == b
    | .int a, .bl b => a == (if b then 1 else 0)
    | .int a, .int b => a == b
    | .str a, .str b => a == b
    | _, _ => false
def pNotIn (d e : D) (S : Store) : Option D := match pIn d e S with
  | some (.bl b) => some (.bl (!b))
  | _ => none
section
variable {X : Cx}
theorem op_pEq (hu : X.A.units + 64 < cLine) : OpD X (compareOp .Eq) pEq := by
  intro pins s σ H x y v u Q I rx ry ⟨ρ, S, B, d, e, r, ok, rd, re, hp, k⟩
  unfold pEq at hp
  split at hp
  · rename_i p q h1 h2
    split at hp
    · rename_i hs
      cases hp
      exact op_eqD hu pins s σ H x y v u Q I rx ry ⟨p, q, rd.dpS ok h1, re.dpS ok h2, hs.1, hs.2, k _ _ (Same.refl H) (.bl _)⟩
    · cases hp
  · cases hp
theorem op_pNe (hu : X.A.units + 64 < cLine) : OpD X (compareOp .NotEq) pNe := by
  intro pins s σ H x y v u Q I rx ry ⟨ρ, S, B, d, e, r, ok, rd, re, hp, k⟩
  unfold pNe at hp
  split at hp
  · rename_i p q h1 h2
    split at hp
    · rename_i hs
      cases hp
      exact op_neD hu pins s σ H x y v u Q I rx ry ⟨p, q, rd.dpS ok h1, re.dpS ok h2, hs.1, hs.2, k _ _ (Same.refl H) (.bl _)⟩
    · cases hp
  · cases hp
theorem op_pLt : OpD X (compareOp .Lt) pLt := by
  intro pins s σ H x y v u Q I rx ry ⟨ρ, S, B, d, e, r, ok, rd, re, hp, k⟩
  unfold pLt at hp
  split at hp
  · cases hp; cases rd; cases re
    exact op_lt pins s σ H _ _ v u Q I rx ry ⟨_, _, rfl, rfl, k _ _ (Same.refl H) (.bl _)⟩
  · cases hp
theorem op_pLe : OpD X (compareOp .LtE) pLe := by
  intro pins s σ H x y v u Q I rx ry ⟨ρ, S, B, d, e, r, ok, rd, re, hp, k⟩
  unfold pLe at hp
  split at hp
  · cases hp; cases rd; cases re
    exact op_le pins s σ H _ _ v u Q I rx ry ⟨_, _, rfl, rfl, k _ _ (Same.refl H) (.bl _)⟩
  · cases hp
theorem op_pGt : OpD X (compareOp .Gt) pGt := by
  intro pins s σ H x y v u Q I rx ry ⟨ρ, S, B, d, e, r, ok, rd, re, hp, k⟩
  unfold pGt at hp
  split at hp
  · cases hp; cases rd; cases re
    exact op_gt pins s σ H _ _ v u Q I rx ry ⟨_, _, rfl, rfl, k _ _ (Same.refl H) (.bl _)⟩
  · cases hp
theorem op_pGe : OpD X (compareOp .GtE) pGe := by
  intro pins s σ H x y v u Q I rx ry ⟨ρ, S, B, d, e, r, ok, rd, re, hp, k⟩
  unfold pGe at hp
  split at hp
  · cases hp; cases rd; cases re
    exact op_ge pins s σ H _ _ v u Q I rx ry ⟨_, _, rfl, rfl, k _ _ (Same.refl H) (.bl _)⟩
  · cases hp
theorem op_pIsN : OpD X (compareOp .Is) pIsN := by
  intro pins s σ H x y v u Q I rx ry ⟨ρ, S, B, d, e, r, ok, rd, re, hp, k⟩
  unfold pIsN at hp
  split at hp
  · cases hp
    cases re
    refine op_isN pins s σ H _ _ v u Q I rx ry ⟨rfl, k _ _ (Same.refl H) ?_⟩
    cases rd <;> exact .bl _
  · cases hp
theorem op_pNotN : OpD X (compareOp .IsNot) pNotN := by
  intro pins s σ H x y v u Q I rx ry ⟨ρ, S, B, d, e, r, ok, rd, re, hp, k⟩
  unfold pNotN at hp
  split at hp
  · cases hp
    cases re
    refine op_notN pins s σ H _ _ v u Q I rx ry ⟨rfl, k _ _ (Same.refl H) ?_⟩
    cases rd <;> exact .bl _
  · cases hp
theorem eqF_ok {K : Frag} {W : Wd} {d e : D} {v u : V} (rd : Rep K W d v) (re : Rep K W e u) (h1 : pIn.flats [d] = true) (h2 : pIn.flats [e] = true) : eqV v u = pIn.eqF d e := by
  cases rd <;> cases re <;> first | rfl | cases h1 | cases h2
theorem flats_ok {K : Frag} {W : Wd} : ∀ {ds : List D} {vs : List V}, Reps K W ds vs → pIn.flats ds = true → vs.all flatV = true
  | _, _, .nil, _ => rfl
  | d :: ds, v :: vs, .cons h r, z => by
    have z' : (pIn.flats [d] && pIn.flats ds) = true := by
      unfold pIn.flats at z ⊢
      simpa [List.all_cons] using z
    obtain ⟨z1, z2⟩ := Bool.and_eq_true_iff.mp z'
    rw [List.all_cons, flats_ok r z2, Bool.and_true]
    cases h <;> first | rfl | cases z1
theorem any_ok {K : Frag} {W : Wd} {d : D} {v : V} (rd : Rep K W d v) (hd : pIn.flats [d] = true) : ∀ {ds : List D} {vs : List V}, Reps K W ds vs → pIn.flats ds = true → inV v vs = ds.any fun y => pIn.eqF y d
  | _, _, .nil, _ => rfl
  | e :: ds, u :: vs, .cons h r, z => by
    have z' : (pIn.flats [e] && pIn.flats ds) = true := by
      unfold pIn.flats at z ⊢
      simpa [List.all_cons] using z
    obtain ⟨z1, z2⟩ := Bool.and_eq_true_iff.mp z'
    have ih := any_ok rd hd r z2
    unfold inV at ih ⊢
    rw [List.any_cons, List.any_cons, ih, eqF_ok h rd z1 hd]
theorem op_pIn (hu : X.A.units + 65 < cLine) : OpD X (compareOp .In) pIn := by
  intro pins s σ H x y v u Q I rx ry ⟨ρ, S, B, d, e, r, ok, rd, re, hp, k⟩
  unfold pIn at hp
  replace re := re.nt
  generalize nt e = e at re hp
  split at hp
  · cases hp; cases rd; cases re
    exact op_in_str pins s σ H _ _ v u Q I rx ry ⟨_, _, rfl, rfl, k _ _ (Same.refl H) (.bl _)⟩
  · rename_i ys
    split at hp
    · rename_i hf
      cases hp
      cases re with
      | tup h1 q1 =>
        have z' : (pIn.flats [d] && pIn.flats ys) = true := by
          unfold pIn.flats at hf ⊢
          simpa [List.all_cons] using hf
        obtain ⟨z1, z2⟩ := Bool.and_eq_true_iff.mp z'
        have fx : flatV x = true := by
          have := flats_ok (.cons rd .nil) z1
          simpa using this
        refine op_in_seq pins s σ H _ _ v u Q I rx ry ⟨_, _, rfl, .inr h1, fx, flats_ok q1 z2, ?_⟩
        rw [if_neg Bool.false_ne_true, any_ok rd z1 q1 z2]
        exact k _ _ (Same.refl H) (.bl _)
    · cases hp
  · split at hp
    · rename_i p ps h1 h2
      split at hp
      · rename_i hs
        cases hp
        exact op_inD hu pins s σ H x y v u Q I rx ry ⟨p, ps, rd.dpS ok h1, re.dpS ok h2, hs.1, hs.2, k _ _ (Same.refl H) (.bl _)⟩
      · cases hp
    · cases hp
theorem op_pNotIn (hu : X.A.units + 65 < cLine) : OpD X (compareOp .NotIn) pNotIn := by
  intro pins s σ H x y v u Q I rx ry ⟨ρ, S, B, d, e, r, ok, rd, re, hp, k⟩
  unfold pNotIn at hp
  split at hp
  case h_2 => cases hp
  case h_1 b hb =>
    cases hp
    unfold pIn at hb
    replace re := re.nt
    generalize nt e = e at re hb
    split at hb
    · cases hb; cases rd; cases re
      exact op_notin_str pins s σ H _ _ v u Q I rx ry ⟨_, _, rfl, rfl, k _ _ (Same.refl H) (.bl _)⟩
    · rename_i ys
      split at hb
      · rename_i hf
        cases hb
        cases re with
        | tup h1 q1 =>
          have z' : (pIn.flats [d] && pIn.flats ys) = true := by
            unfold pIn.flats at hf ⊢
            simpa [List.all_cons] using hf
          obtain ⟨z1, z2⟩ := Bool.and_eq_true_iff.mp z'
          have fx : flatV x = true := by
            have := flats_ok (.cons rd .nil) z1
            simpa using this
          refine op_notIn_seq pins s σ H _ _ v u Q I rx ry ⟨_, _, rfl, .inr h1, fx, flats_ok q1 z2, ?_⟩
          rw [if_pos rfl, any_ok rd z1 q1 z2]
          exact k _ _ (Same.refl H) (.bl _)
      · cases hb
    · split at hb
      · rename_i p ps h1 h2
        split at hb
        · rename_i hs
          cases hb
          exact op_notInD hu pins s σ H x y v u Q I rx ry ⟨p, ps, rd.dpS ok h1, re.dpS ok h2, hs.1, hs.2, k _ _ (Same.refl H) (.bl _)⟩
        · cases hb
      · cases hb
end

/-! ### items, slices -/
def ixD {α : Type} (xs : List α) (i : Int) : Option α := atI xs i
def pIx (d e : D) (S : Store) : Option D := match d, e with
  | .str z, .int i => if z.length ≤ sizeLine then (atI z.cps.toList i).map fun c => .str ⟨#[c]⟩ else none
  | d, .int i => (seqD d S).bind fun xs => atI xs i
  | _, _ => none
theorem atI_rep {K : Frag} {W : Wd} {xs : List D} {vs : List V} {i : Int} {d : D} (q : Reps K W xs vs) (h : atI xs i = some d) : ∃ v, atI vs i = some v ∧ Rep K W d v := by
  unfold atI at h ⊢
  rw [← q.length]
  obtain ⟨j, h1, h2⟩ := Option.bind_eq_some_iff.mp h
  rw [h1]
  exact q.get h2
section
variable {X : Cx} {Wx : WX} {pos p2 : Pos} {a b : Expr} {f g : L → Store → R D}
theorem ix_pIx : IxR X (rP2 X.K pIx) := by
  intro va sc pins s σ H x y v u Q I rx ry ⟨ρ, S, B, d, e, r, ok, rd, re, hp, k⟩ hs
  unfold pIx at hp
  split at hp
  · split at hp
    · rename_i hz
      obtain ⟨c, h1, rfl⟩ := Option.map_eq_some_iff.mp hp
      cases rd; cases re
      exact ix_seq va sc pins s σ H _ _ v u Q I rx ry (.inr (.inr ⟨_, _, c, rfl, rfl, hz, h1, k _ _ (Same.refl H) (.str _)⟩)) hs
    · cases hp
  · obtain ⟨xs, h1, h2⟩ := Option.bind_eq_some_iff.mp hp
    obtain ⟨a, vs, rfl, h3, q⟩ := seqD_ok ok rd h1
    obtain ⟨w, h4, rw'⟩ := atI_rep q h2
    cases re
    rcases h3 with h3 | h3
    · exact ix_seq va sc pins s σ H _ _ v u Q I rx ry (.inl ⟨a, vs, _, w, rfl, rfl, h3, h4, k _ _ (Same.refl H) rw'⟩) hs
    · exact ix_seq va sc pins s σ H _ _ v u Q I rx ry (.inr (.inl ⟨a, vs, _, w, rfl, rfl, h3, h4, k _ _ (Same.refl H) rw'⟩)) hs
  · cases hp
theorem fe_ix (ha : FE X Wx a f) (hb : FE X Wx b g) (hs : PlainIx b := by exact fun _ _ => rfl) : FE X Wx (.Subscript a b pos) (mBin pIx f g) :=
  (pe_ix ix_pIx ha hb hs).imp fun σ H Q ⟨ρ, S, B, l, ok, sl, h⟩ => bin_ok (W := ⟨ρ, S, H, B⟩) ok sl h

/-- a part of a slice -/
def oNone : L → Store → R (Option Int) := fun _ S => .ok none S
def oSome (f : L → Store → R D) : L → Store → R (Option Int) := fun l S => (f l S).bind fun d S1 => match d with
  | .int i => .ok (some i) S1
  | _ => .bad
def tO (K : Frag) (Wx : WX) (f : L → Store → R (Option Int)) : TO := fun σ H Q => ∃ ρ S B l, Ok K ⟨ρ, S, H, B⟩ ∧ Sl K ⟨ρ, S, H, B⟩ σ l ∧ Post K Wx σ ⟨ρ, S, H, B⟩ (f l S) fun W o => Q o W.H
abbrev FO (X : Cx) (Wx : WX) (e : Option Expr) (f : L → Store → R (Option Int)) : Prop := PO X e (tO X.K Wx f)
theorem _root_.L2.PO.imp {X : Cx} {e : Option Expr} {t t' : TO} (h : PO X e t) (i : ∀ σ H Q, t' σ H Q → t σ H Q) : PO X e t' := ⟨fun p s σ H Q I q => h.run p s σ H Q I (i σ H Q q)⟩
theorem fo_none : FO X Wx none oNone := po_none.imp fun σ H Q ⟨ρ, S, B, l, ok, sl, h⟩ => Post.ok_of (W := ⟨ρ, S, H, B⟩) ok h
theorem fo_some {e : Expr} (h : FE X Wx e f) : FO X Wx (some e) (oSome f) := (po_some h).imp fun σ H Q ⟨ρ, S, B, l, ok, sl, h⟩ => ⟨ρ, S, B, l, ok, sl, h.bind.mono fun W1 d e1 o1 ⟨_, _, h1⟩ v rv => by
  cases rv with
  | int i => exact ⟨i, rfl, Post.ok_of o1 h1⟩
  | _ => exact h1.elim⟩
def cutD {α : Type} (xs : List α) (lo hi : Option Int) : List α := (xs.drop (HT.sIx xs.length 0 lo)).take (HT.sIx xs.length xs.length hi - HT.sIx xs.length 0 lo)
def pSl (d : D) (lo hi : Option Int) (S : Store) : Option D := match nt d with
  | .str z => if z.length ≤ sizeLine then some (.str (cutS z lo hi)) else none
  | .tup xs => some (.tup (cutD xs lo hi))
  | d => (seqL d S).map fun xs => .lst (cutD xs lo hi)
def mSl (f : L → Store → R D) (lo hi : L → Store → R (Option Int)) : L → Store → R D := fun l S => (f l S).bind fun d S1 => (lo l S1).bind fun i S2 => (hi l S2).bind fun j S3 => ofO (pSl d i j S3) S3
theorem Reps.cutD {K : Frag} {W : Wd} {xs : List D} {vs : List V} (q : Reps K W xs vs) (lo hi : Option Int) : Reps K W (cutD xs lo hi) (cutV vs lo hi) := by
  unfold HL.cutD cutV
  rw [← q.length]
  exact (q.drop _).take _
def rSlD (K : Frag) : V → Option Int → Option Int → Hp → VK → Prop := fun x lo hi H Q => ∃ ρ S B d r, Ok K ⟨ρ, S, H, B⟩ ∧ Rep K ⟨ρ, S, H, B⟩ d x ∧ pSl d lo hi S = some r ∧ ∀ H' v, Same H H' → Rep K ⟨ρ, S, H', B⟩ r v → Q v H'
theorem sl_pSl : SlR X (rSlD X.K) := by
  intro pins s σ H x v vl vu lo hi sl Q I rx hsl pl pu ⟨ρ, S, B, d, r, ok, rd, hp, k⟩
  unfold pSl at hp
  replace rd := rd.nt
  generalize nt d = d at rd hp
  split at hp
  · split at hp
    · rename_i hz
      cases hp; cases rd
      exact sl_str pins s σ H _ v vl vu lo hi sl Q I rx hsl pl pu ⟨_, rfl, hz, k _ _ (Same.refl H) (.str _)⟩
    · cases hp
  · rename_i xs
    cases hp
    cases rd with
    | @tup _ vs a h q =>
      refine sl_tupA pins s σ H _ v vl vu lo hi sl Q I rx hsl pl pu ⟨a, vs, rfl, h, fun hw => ?_, fun _ p hp => ?_⟩
      · have e : cutD xs lo hi = xs := by
          rw [← q.length] at hw
          unfold HL.cutD
          rw [hw.1, hw.2, List.drop_zero, Nat.sub_zero, List.take_length]
        rw [e] at k
        exact k _ _ (Same.refl H) (.tup h q)
      · obtain ⟨sm, z⟩ := new_tup ok hp (q.cutD lo hi)
        exact k _ _ sm z
  · obtain ⟨xs, h1, rfl⟩ := Option.map_eq_some_iff.mp hp
    obtain ⟨a, vs, rfl, h3, q⟩ := seqL_ok ok rd h1
    refine sl_list pins s σ H _ v vl vu lo hi sl Q I rx hsl pl pu ⟨a, vs, rfl, h3, fun p hp => ?_⟩
    obtain ⟨sm, z⟩ := new_lst ok hp (q.cutD lo hi)
    exact k _ _ sm z
theorem fe_sl {lo hi : Option Expr} {fl fh : L → Store → R (Option Int)} (ha : FE X Wx a f) (hl : FO X Wx lo fl) (hu : FO X Wx hi fh) : FE X Wx (.Subscript a (.Slice lo hi none p2) pos) (mSl f fl fh) :=
  (pe_slice sl_pSl ha hl hu).imp fun σ H Q ⟨ρ, S, B, l, ok, sl, h⟩ => ⟨ρ, S, B, l, ok, sl, h.bind.mono fun W1 d e1 o1 ⟨_, _, h1⟩ v rv =>
    ⟨W1.ρ, W1.S, W1.B, l, o1, sl.ext e1 ok, h1.bind.mono fun W2 i e2 o2 ⟨_, _, h2⟩ => ⟨W2.ρ, W2.S, W2.B, l, o2, (sl.ext e1 ok).ext e2 o1, h2.bind.mono fun W3 j e3 o3 ⟨_, _, h3⟩ => by
      obtain ⟨r, er, q⟩ := h3.ofO
      exact ⟨W3.ρ, W3.S, W3.B, d, r, o3, (rv.ext e2 o1).ext e3 o2, er, fun H' v' s rv' => q H' s o3 v' rv'⟩⟩⟩⟩
end

/-! ### small built-ins -/
def pLen (ds : List D) (S : Store) : Option D := match ds with
  | [.str z] => if z.length ≤ sizeLine then some (.int z.length) else none
  | [d] => (seqD d S).map fun xs => .int xs.length
  | _ => none
def pInt (ds : List D) (_ : Store) : Option D := match ds with
  | [.int i] => some (.int i)
  | [.bl b] => some (.int (if b then 1 else 0))
  | [.str z] => match PySem.intText? z with
    | some n => if z.length ≤ 640 then some (.int n) else none
    | none => none
  | _ => none
def pAbs (ds : List D) (_ : Store) : Option D := match ds with
  | [.int i] => some (.int (if i < 0 then -i else i))
  | _ => none
def pStr (ds : List D) (_ : Store) : Option D := match ds with
  | [.int i] => if i.natAbs.log2 < 1920 then some (.str (toString i)) else none
  | _ => none
def pBool (ds : List D) (_ : Store) : Option D := match ds with
  | [.int i] => some (.bl (i != 0))
  | [.bl b] => some (.bl b)
  | _ => none
def pMax2 (ds : List D) (_ : Store) : Option D := match ds with
  | [.int i, .int j] => some (.int (if j > i then j else i))
  | _ => none
def pMin2 (ds : List D) (_ : Store) : Option D := match ds with
  | [.int i, .int j] => some (.int (if j < i then j else i))
  | _ => none
def pTuple (ds : List D) (S : Store) : Option D := match ds with
  | [.tup xs] => some (.tup xs)
  | [.tpn xs] => some (.tpn xs)
  | [d] => (seqL d S).map fun xs => .tpn xs
  | _ => none
def pList (ds : List D) (S : Store) : Option D := match ds with
  | [d] => (seqD d S).map fun xs => .lst xs
  | _ => none
def intsD : List D → Option (List Int)
  | [] => some []
  | .int i :: ds => (intsD ds).map (i :: ·)
  | _ => none
def blsD : List D → Option (List Bool)
  | [] => some []
  | .bl i :: ds => (blsD ds).map (i :: ·)
  | _ => none
def pSum (ds : List D) (S : Store) : Option D := match ds with
  | [d] => ((seqD d S).bind intsD).map fun ns => .int ns.sum
  | _ => none
def pAll (ds : List D) (S : Store) : Option D := match ds with
  | [d] => ((seqL d S).bind blsD).map fun bs => .bl (bs.all id)
  | _ => none
def pAny (ds : List D) (S : Store) : Option D := match ds with
  | [d] => ((seqL d S).bind blsD).map fun bs => .bl (bs.any id)
  | _ => none
section
variable {K : Frag} {W : Wd}
theorem ints_ok : ∀ {ds : List D} {vs : List V} {ns : List Int}, Reps K W ds vs → intsD ds = some ns → vs = ns.map V.int
  | _, _, _, .nil, e => by cases e; rfl
  | _, _, _, .cons (d := d) h r, e => by
    cases h with
    | int i =>
      obtain ⟨ns, h1, rfl⟩ := Option.map_eq_some_iff.mp (show (intsD _).map (i :: ·) = some _ from e)
      rw [ints_ok r h1]
      rfl
    | _ => cases e
theorem bls_ok : ∀ {ds : List D} {vs : List V} {ns : List Bool}, Reps K W ds vs → blsD ds = some ns → vs = ns.map V.bl
  | _, _, _, .nil, e => by cases e; rfl
  | _, _, _, .cons (d := d) h r, e => by
    cases h with
    | bl i =>
      obtain ⟨ns, h1, rfl⟩ := Option.map_eq_some_iff.mp (show (blsD _).map (i :: ·) = some _ from e)
      rw [bls_ok r h1]
      rfl
    | _ => cases e
theorem Reps.one {d : D} {vs : List V} (r : Reps K W [d] vs) : ∃ v, vs = [v] ∧ Rep K W d v := by
  cases r with
  | cons h r => cases r; exact ⟨_, rfl, h⟩
theorem Reps.two {d e : D} {vs : List V} (r : Reps K W [d, e] vs) : ∃ v u, vs = [v, u] ∧ Rep K W d v ∧ Rep K W e u := by
  cases r with
  | cons h r => cases r with
    | cons h' r => cases r; exact ⟨_, _, rfl, h, h'⟩
end
section
variable {X : Cx}
theorem call_pLen : CallD X (.builtin "len") pLen := by
  intro pins s σ H xs us Q I r ⟨ρ, S, B, ds, e, ok, rd, hp, k⟩
  unfold pLen at hp
  split at hp
  · split at hp
    · rename_i hz
      cases hp
      obtain ⟨v, rfl, h⟩ := rd.one
      cases h
      exact call_len_str pins s σ H _ us Q I r ⟨_, rfl, hz, k _ _ (Same.refl H) (.int _)⟩
    · cases hp
  · obtain ⟨ys, h1, rfl⟩ := Option.map_eq_some_iff.mp hp
    obtain ⟨v, rfl, h⟩ := rd.one
    obtain ⟨a, vs, rfl, h3, q⟩ := seqD_ok ok h h1
    refine call_len_seq pins s σ H _ us Q I r ⟨a, vs, rfl, h3, ?_⟩
    rw [← q.length]
    exact k _ _ (Same.refl H) (.int _)
  · cases hp
theorem call_pInt : CallD X (.type "int") pInt := by
  intro pins s σ H xs us Q I r ⟨ρ, S, B, ds, e, ok, rd, hp, k⟩
  unfold pInt at hp
  split at hp
  · cases hp
    obtain ⟨v, rfl, h⟩ := rd.one
    cases h
    exact call_int1 pins s σ H _ us Q I r (.inl ⟨_, rfl, k _ _ (Same.refl H) (.int _)⟩)
  · cases hp
    obtain ⟨v, rfl, h⟩ := rd.one
    cases h
    exact call_int1 pins s σ H _ us Q I r (.inr ⟨_, rfl, k _ _ (Same.refl H) (.int _)⟩)
  · rename_i z
    split at hp
    · rename_i n hn
      split at hp
      · rename_i hl
        cases hp
        obtain ⟨v, rfl, h⟩ := rd.one
        cases h
        exact call_int_str pins s σ H _ us Q I r ⟨_, n, rfl, hn, hl, k _ _ (Same.refl H) (.int _)⟩
      · cases hp
    · cases hp
  · cases hp
theorem call_pAbs : CallD X (.builtin "abs") pAbs := by
  intro pins s σ H xs us Q I r ⟨ρ, S, B, ds, e, ok, rd, hp, k⟩
  unfold pAbs at hp
  split at hp
  · cases hp
    obtain ⟨v, rfl, h⟩ := rd.one
    cases h
    exact call_abs pins s σ H _ us Q I r ⟨_, rfl, k _ _ (Same.refl H) (.int _)⟩
  · cases hp
theorem call_pStr : CallD X (.type "str") pStr := by
  intro pins s σ H xs us Q I r ⟨ρ, S, B, ds, e, ok, rd, hp, k⟩
  unfold pStr at hp
  split at hp
  · split at hp
    · rename_i hz
      cases hp
      obtain ⟨v, rfl, h⟩ := rd.one
      cases h
      exact call_str_int pins s σ H _ us Q I r ⟨_, rfl, hz, k _ _ (Same.refl H) (.str _)⟩
    · cases hp
  · cases hp
theorem call_pBool : CallD X (.type "bool") pBool := by
  intro pins s σ H xs us Q I r ⟨ρ, S, B, ds, e, ok, rd, hp, k⟩
  unfold pBool at hp
  split at hp
  · cases hp
    obtain ⟨v, rfl, h⟩ := rd.one
    cases h
    exact call_bool1 pins s σ H _ us Q I r (.inl ⟨_, rfl, k _ _ (Same.refl H) (.bl _)⟩)
  · cases hp
    obtain ⟨v, rfl, h⟩ := rd.one
    cases h
    exact call_bool1 pins s σ H _ us Q I r (.inr ⟨_, rfl, k _ _ (Same.refl H) (.bl _)⟩)
  · cases hp
theorem call_pMax2 (hc : X.calm = true) : CallD X (.builtin "max") pMax2 := by
  intro pins s σ H xs us Q I r ⟨ρ, S, B, ds, e, ok, rd, hp, k⟩
  unfold pMax2 at hp
  split at hp
  · cases hp
    obtain ⟨v, u, rfl, h, h'⟩ := rd.two
    cases h; cases h'
    exact call_max2 hc pins s σ H _ us Q I r ⟨_, _, rfl, k _ _ (Same.refl H) (.int _)⟩
  · cases hp
theorem call_pMin2 (hc : X.calm = true) : CallD X (.builtin "min") pMin2 := by
  intro pins s σ H xs us Q I r ⟨ρ, S, B, ds, e, ok, rd, hp, k⟩
  unfold pMin2 at hp
  split at hp
  · cases hp
    obtain ⟨v, u, rfl, h, h'⟩ := rd.two
    cases h; cases h'
    exact call_min2 hc pins s σ H _ us Q I r ⟨_, _, rfl, k _ _ (Same.refl H) (.int _)⟩
  · cases hp
theorem call_pTuple : CallD X (.type "tuple") pTuple := by
  intro pins s σ H xs us Q I r ⟨ρ, S, B, ds, e, ok, rd, hp, k⟩
  unfold pTuple at hp
  split at hp
  · cases hp
    obtain ⟨v, rfl, h⟩ := rd.one
    cases h with
    | tup h q => exact call_tuple_of pins s σ H _ us Q I r ⟨_, _, rfl, .inr ⟨h, k _ _ (Same.refl H) (.tup h q)⟩⟩
  · cases hp
    obtain ⟨v, rfl, h⟩ := rd.one
    cases h with
    | tpn h q =>
      obtain ⟨o, h, hd⟩ := h
      exact call_tuple_of pins s σ H _ us Q I r ⟨_, _, rfl, .inr ⟨.inl (.inr ⟨o, h⟩), k _ _ (Same.refl H) (.tpn ⟨o, h, hd⟩ q)⟩⟩
  · obtain ⟨ys, h1, rfl⟩ := Option.map_eq_some_iff.mp hp
    obtain ⟨v, rfl, h⟩ := rd.one
    obtain ⟨a, vs, rfl, h3, q⟩ := seqL_ok ok h h1
    obtain ⟨u, rfl, rx⟩ := vals1 r
    cases rx
    obtain ⟨its, r', pl, hz⟩ := I.list h3
    have hlen := r'.length
    refine PySem.call_tuple_list pl.isList (fun h' kp => ?_) (by simp only [List.size_toArray] <;> omega)
    have I1 : Inv X pins σ H { s with heap := h' } := I.kept (t' := s.toks) kp
    have hn : H h'.objs.size = none := I1.hok.fresh (Nat.le_refl _)
    have I2 : Inv X pins σ (upd H h'.objs.size (.frz { cls := .type "tuple", data := .seq its.toArray } (.tup vs))) { s with heap := h'.push { cls := .type "tuple", data := .seq its.toArray } } :=
      I1.laid (t' := s.toks) (fun b o e => Heap.get?_push_of_some _ e) (Nat.le_refl _) ⟨Heap.get?_push_size _ rfl, show ObjOk X.prog X.w _ _ _ (.tup vs) from ⟨hz, its, r', PyProof.Rows.IsTup.new _ _⟩⟩
    have sm : Same H (upd H h'.objs.size (.frz { cls := .type "tuple", data := .seq its.toArray } (.tup vs))) := Same.upd hn
    exact ⟨.ref h'.objs.size, _, I2, rfl, k _ _ sm (.tpn ⟨_, upd_same, rfl⟩ (q.ext (Ext.same sm) ok))⟩
  · cases hp
theorem call_pList : CallD X (.type "list") pList := by
  intro pins s σ H xs us Q I r ⟨ρ, S, B, ds, e, ok, rd, hp, k⟩
  unfold pList at hp
  split at hp
  · obtain ⟨ys, h1, rfl⟩ := Option.map_eq_some_iff.mp hp
    obtain ⟨v, rfl, h⟩ := rd.one
    obtain ⟨a, vs, rfl, h3, q⟩ := seqD_ok ok h h1
    refine call_list_of pins s σ H _ us Q I r ⟨a, vs, rfl, h3, fun l hl => ?_⟩
    obtain ⟨sm, z⟩ := new_lst ok hl q
    exact k _ _ sm z
  · cases hp
theorem call_pSum (hc : X.calm = true) : CallD X (.builtin "sum") pSum := by
  intro pins s σ H xs us Q I r ⟨ρ, S, B, ds, e, ok, rd, hp, k⟩
  unfold pSum at hp
  split at hp
  · obtain ⟨ns, h1, rfl⟩ := Option.map_eq_some_iff.mp hp
    obtain ⟨ys, h2, h4⟩ := Option.bind_eq_some_iff.mp h1
    obtain ⟨v, rfl, h⟩ := rd.one
    obtain ⟨a, vs, rfl, h3, q⟩ := seqD_ok ok h h2
    rw [ints_ok q h4] at h3
    rcases h3 with h3 | h3
    · exact cr_sum hc pins s σ H _ us Q I r ⟨a, ns, rfl, h3, k _ _ (Same.refl H) (.int _)⟩
    · obtain ⟨its, rv, hl, _⟩ := I.tuple h3
      rw [Vals.ref1 r]
      have hi := rv.ints
      obtain ⟨xs, hx⟩ := hi.allInts.items
      have hn : PySem.numsOf (PySem.intItems xs).toList = ns := by rw [← hx]; exact hi.numsOf
      rw [PySem.nums_intItems] at hn
      have hl2 : s.heap.IsTuple a (PySem.intItems xs) := by rw [← hx]; exact hl
      refine PySem.W.ktm_sumG (I.ok.hd hc) hl2 fun h' tk t' hk => ?_
      rw [PySem.preSum_eq, List.take_of_length_le (by simp), hn]
      exact ⟨.int _, H, I.kept hk, ⟨_, rfl⟩, k _ _ (Same.refl H) (.int _)⟩
  · cases hp
theorem call_pAll (hc : X.calm = true) : CallD X (.builtin "all") pAll := by
  intro pins s σ H xs us Q I r ⟨ρ, S, B, ds, e, ok, rd, hp, k⟩
  unfold pAll at hp
  split at hp
  · obtain ⟨ns, h1, rfl⟩ := Option.map_eq_some_iff.mp hp
    obtain ⟨ys, h2, h4⟩ := Option.bind_eq_some_iff.mp h1
    obtain ⟨v, rfl, h⟩ := rd.one
    obtain ⟨a, vs, rfl, h3, q⟩ := seqL_ok ok h h2
    rw [bls_ok q h4] at h3
    exact cr_all hc pins s σ H _ us Q I r ⟨a, ns, rfl, h3, k _ _ (Same.refl H) (.bl _)⟩
  · cases hp
theorem call_pAny (hc : X.calm = true) : CallD X (.builtin "any") pAny := by
  intro pins s σ H xs us Q I r ⟨ρ, S, B, ds, e, ok, rd, hp, k⟩
  unfold pAny at hp
  split at hp
  · obtain ⟨ns, h1, rfl⟩ := Option.map_eq_some_iff.mp hp
    obtain ⟨ys, h2, h4⟩ := Option.bind_eq_some_iff.mp h1
    obtain ⟨v, rfl, h⟩ := rd.one
    obtain ⟨a, vs, rfl, h3, q⟩ := seqL_ok ok h h2
    rw [bls_ok q h4] at h3
    exact cr_any hc pins s σ H _ us Q I r ⟨a, ns, rfl, h3, k _ _ (Same.refl H) (.bl _)⟩
  · cases hp
variable {Wx : WX} {x : Str} {p pos : Pos} {e : Expr} {es : List Expr} {id T : String} {pf : List D → Store → Option D} {fa : L → Store → R (List D)}
theorem cb_ok {K : Frag} {σ : L2.St} {H : Hp} {Q : VK} (h : tE K Wx (mCall pf fa) σ H Q) : tCB (rPl K pf) (tL K Wx fa) σ H Q := by
  obtain ⟨ρ, S, B, l, ok, sl, h⟩ := h
  refine ⟨ρ, S, B, l, ok, sl, h.bind.mono fun W1 ds e1 o1 ⟨_, _, h1⟩ vs rvs => ?_⟩
  obtain ⟨r, er, q⟩ := h1.ofO
  exact ⟨W1.ρ, W1.S, W1.B, ds, r, o1, rvs, er, fun H' v' s rv' => q H' s o1 v' rv'⟩
theorem fe_b (hc : CallD X (.builtin id) pf) (hm : X.mg x = none) (hv : bootBuiltins x = some (.builtin id)) (hg : Gl X x) (ha : FA X Wx (e :: es) fa) (hn : x ≠ "__name__" := by decide) (hdb : (x == ("__debug__" : Str)) = false := by decide)
    (he : starEach (e :: es) X.env = (false, eval e X.env) :: starEach es X.env := by rfl) (hpl : (backTo pos (starEach es X.env)).any (·.1) = false := by rfl) : FE X Wx (.Call (.Name x p) (e :: es) [] pos) (mCall pf fa) :=
  (pe_callB hc hg hm hv ha hn hdb he hpl).imp fun σ H Q h => cb_ok h
theorem fe_ty (hc : CallD X (.type T) pf) (hm : X.mg x = none) (hv : bootBuiltins x = some (.type T)) (hg : Gl X x) (ha : FA X Wx (e :: es) fa) (hn : x ≠ "__name__" := by decide) (hdb : (x == ("__debug__" : Str)) = false := by decide)
    (he : starEach (e :: es) X.env = (false, eval e X.env) :: starEach es X.env := by rfl) (hpl : (backTo pos (starEach es X.env)).any (·.1) = false := by rfl) : FE X Wx (.Call (.Name x p) (e :: es) [] pos) (mCall pf fa) :=
  (pe_callTy hc hg hm hv ha hn hdb he hpl).imp fun σ H Q h => cb_ok h
end
end HL
end
section
set_option Elab.async false
set_option linter.all false
set_option maxRecDepth 100000
set_option maxHeartbeats 1000000
namespace HL
open PySem PySem.Spec L2

/-! ### targets: names -/
abbrev Tgt := D → Store → Option (List (Nat × D))
def setA {α : Type} (l : List (Option α)) : List (Nat × α) → List (Option α)
  | [] => l
  | (i, d) :: r => setA (l.set i (some d)) r
inductive RepA (K : Frag) (W : Wd) : List (Nat × D) → List (Nat × V) → Prop
  | nil : RepA K W [] []
  | cons {i : Nat} {d : D} {v : V} {as : List (Nat × D)} {vs : List (Nat × V)} : Rep K W d v → RepA K W as vs → RepA K W ((i, d) :: as) ((i, v) :: vs)
theorem RepA.append {K : Frag} {W : Wd} : ∀ {as bs : List (Nat × D)} {vs ws : List (Nat × V)}, RepA K W as vs → RepA K W bs ws → RepA K W (as ++ bs) (vs ++ ws)
  | _, _, _, _, .nil, s => s
  | _, _, _, _, .cons h r, s => .cons h (RepA.append r s)
theorem RepA.split {K : Frag} {W : Wd} : ∀ {as bs : List (Nat × D)} {vs : List (Nat × V)}, RepA K W (as ++ bs) vs → ∃ v1 v2, vs = v1 ++ v2 ∧ RepA K W as v1 ∧ RepA K W bs v2
  | [], _, vs, h => ⟨[], vs, rfl, .nil, h⟩
  | (i, d) :: as, bs, _, .cons h r => by
    obtain ⟨v1, v2, e, h1, h2⟩ := RepA.split (as := as) r
    exact ⟨(i, _) :: v1, v2, by rw [e]; rfl, .cons h h1, h2⟩
theorem setA_append {α : Type} : ∀ (as bs : List (Nat × α)) (l : List (Option α)), setA l (as ++ bs) = setA (setA l as) bs
  | [], _, _ => rfl
  | (i, d) :: as, bs, l => setA_append as bs _
theorem Sl.setA {K : Frag} {W : Wd} : ∀ {as : List (Nat × D)} {vs : List (Nat × V)} {σ : L2.St} {l : L}, Sl K W σ l → RepA K W as vs → Sl K W (HL.setA σ vs) (HL.setA l as)
  | _, _, _, _, s, .nil => s
  | _, _, _, _, s, .cons (i := i) (as := as) (vs := vs) h r => by
    unfold HL.setA
    exact Sl.setA (s.set h i) r
theorem RepA.ix {K : Frag} {W : Wd} : ∀ {as : List (Nat × D)} {vs : List (Nat × V)}, RepA K W as vs → as.map (·.1) = vs.map (·.1)
  | _, _, .nil => rfl
  | _, _, .cons h r => by
    rw [List.map_cons, List.map_cons, RepA.ix r]
def tG (K : Frag) (b : Tgt) : TG := fun v σ H Q => ∃ ρ S B d as, Ok K ⟨ρ, S, H, B⟩ ∧ Rep K ⟨ρ, S, H, B⟩ d v ∧ b d S = some as ∧ ∀ vs, RepA K ⟨ρ, S, H, B⟩ as vs → Q (setA σ vs) H
def tGs (K : Frag) (b : List D → Store → Option (List (Nat × D))) : TGs := fun us σ H Q => ∃ ρ S B ds as, Ok K ⟨ρ, S, H, B⟩ ∧ Reps K ⟨ρ, S, H, B⟩ ds us ∧ b ds S = some as ∧ ∀ vs, RepA K ⟨ρ, S, H, B⟩ as vs → Q (setA σ vs) H
structure FG (X : Cx) (e : Expr) (b : Tgt) (ix : List Nat) : Prop where
  g : PG X e (tG X.K b)
  ix : ∀ d S as, b d S = some as → as.map (·.1) = ix
structure FGs (X : Cx) (es : List Expr) (b : List D → Store → Option (List (Nat × D))) (ix : List Nat) : Prop where
  g : PGs X es (tGs X.K b)
  ix : ∀ d S as, b d S = some as → as.map (·.1) = ix
theorem _root_.L2.PG.imp {X : Cx} {e : Expr} {t t' : TG} (h : PG X e t) (i : ∀ v σ H Q, t' v σ H Q → t v σ H Q) : PG X e t' := ⟨fun p s σ H v u Q I r q => h.run p s σ H v u Q I r (i v σ H Q q)⟩
theorem _root_.L2.PGs.imp {X : Cx} {e : List Expr} {t t' : TGs} (h : PGs X e t) (i : ∀ v σ H Q, t' v σ H Q → t v σ H Q) : PGs X e t' := ⟨fun p s σ H v u Q I r q => h.run p s σ H v u Q I r (i v σ H Q q)⟩
theorem _root_.L2.PG.or {X : Cx} {e : Expr} {t t' : TG} (h : PG X e t) (h' : PG X e t') : PG X e (fun v σ H Q => t v σ H Q ∨ t' v σ H Q) := ⟨fun p s σ H v u Q I r q => by
  rcases q with q | q
  · exact h.run p s σ H v u Q I r q
  · exact h'.run p s σ H v u Q I r q⟩
def gN (i : Nat) : Tgt := fun d _ => some [(i, d)]
def gsNil : List D → Store → Option (List (Nat × D)) := fun ds _ => match ds with
  | [] => some []
  | _ => none
def gsCons (b : Tgt) (c : List D → Store → Option (List (Nat × D))) : List D → Store → Option (List (Nat × D)) := fun ds S => match ds with
  | d :: ds => match b d S, c ds S with
    | some as, some bs => some (as ++ bs)
    | _, _ => none
  | [] => none
def gT (n : Nat) (c : List D → Store → Option (List (Nat × D))) : Tgt := fun d S => match seqD d S with
  | some ds => if ds.length = n then c ds S else none
  | none => none
section
variable {X : Cx} {pos : Pos} {e : Expr} {es : List Expr} {b : Tgt} {c : List D → Store → Option (List (Nat × D))} {ix iy : List Nat}
theorem fg_name (i : Nat) {x : Str} (hN : X.N.Nodup) (hi : X.N[i]? = some x := by rfl) (hx : Loc X.env.scope x := by first | exact Or.inl rfl | exact Or.inr rfl) (hf : X.fn x = true ∨ X.env.scope.names.lookup x = some .local := by first | exact .inl rfl | exact .inr rfl) : FG X (.Name x pos) (gN i) [i] :=
  ⟨(pg_name hN hi hx hf).imp fun v σ H Q ⟨ρ, S, B, d, as, ok, r, e, q⟩ => by
    cases e
    exact q [(i, v)] (.cons r .nil), fun d S as e => by cases e; rfl⟩
theorem gsNil_ix : ∀ d S as, gsNil d S = some as → as.map (·.1) = [] := fun d S as e => by
  unfold gsNil at e
  split at e
  · cases e; rfl
  · cases e
theorem fgs_nil : FGs X [] gsNil [] :=
  ⟨pgs_nil.imp fun v σ H Q ⟨ρ, S, B, ds, as, ok, r, e, q⟩ => by
    cases r with
    | nil =>
      cases e
      exact ⟨rfl, q [] .nil⟩
    | cons _ _ => exact (nomatch e), gsNil_ix⟩
theorem gsCons_ix (h : ∀ d S as, b d S = some as → as.map (·.1) = ix) (r : ∀ d S as, c d S = some as → as.map (·.1) = iy) : ∀ d S as, gsCons b c d S = some as → as.map (·.1) = ix ++ iy := fun d S as e => by
  unfold gsCons at e
  split at e
  · rename_i d ds
    split at e
    · rename_i a1 a2 h1 h2
      cases e
      rw [List.map_append, h _ _ _ h1, r _ _ _ h2]
    · cases e
  · cases e
theorem gT_ix {n : Nat} (h : ∀ d S as, c d S = some as → as.map (·.1) = ix) : ∀ d S as, gT n c d S = some as → as.map (·.1) = ix := fun d S as e => by
  unfold gT at e
  split at e
  · split at e
    · exact h _ _ _ e
    · cases e
  · cases e
theorem fgs_cons (h : FG X e b ix) (r : FGs X es c iy) (hs : (assignEach (e :: es) X.env).map (·.2) = assign e X.env :: (assignEach es X.env).map (·.2) := by rfl) : FGs X (e :: es) (gsCons b c) (ix ++ iy) :=
  ⟨(pgs_cons h.g r.g hs).imp fun us σ H Q ⟨ρ, S, B, ds, as, ok, rr, e, q⟩ => by
    cases rr with
    | nil => cases e
    | @cons d v ds vs rd rs =>
      unfold gsCons at e
      dsimp only at e
      cases h1 : b d S with
      | none => rw [h1] at e; cases e
      | some a1 => cases h2 : c ds S with
        | none => rw [h1, h2] at e; cases e
        | some a2 =>
          rw [h1, h2] at e
          cases e
          refine ⟨v, vs, rfl, ρ, S, B, d, a1, ok, rd, h1, fun w1 r1 => ⟨ρ, S, B, ds, a2, ok, rs, h2, fun w2 r2 => ?_⟩⟩
          have z := q (w1 ++ w2) (r1.append r2)
          rw [setA_append] at z
          exact z, gsCons_ix h.ix r.ix⟩
theorem fg_tup {k n : Nat} (hc : X.calm = true) (h : FGs X es c ix) (hn : (assignEach es X.env).length = n := by rfl) (hst : (assignEach es X.env).findIdx? (·.1) = none := by rfl) : FG X (.Tuple es k pos) (gT n c) ix :=
  ⟨((pg_tup hc h.g hn hst).or (pg_lst hc h.g hn hst)).imp fun v σ H Q ⟨ρ, S, B, d, as, ok, r, e, q⟩ => by
    unfold gT at e
    cases h1 : seqD d S with
    | none => rw [h1] at e; cases e
    | some ds =>
      rw [h1] at e
      dsimp only at e
      by_cases hl : ds.length = n
      · rw [if_pos hl] at e
        obtain ⟨a, vs, rfl, h2, q2⟩ := seqD_ok ok r h1
        rcases h2 with h2 | h2
        · exact .inr ⟨a, vs, rfl, h2, by rw [← q2.length]; exact hl, ρ, S, B, ds, as, ok, q2, e, q⟩
        · exact .inl ⟨a, vs, rfl, h2, by rw [← q2.length]; exact hl, ρ, S, B, ds, as, ok, q2, e, q⟩
      · rw [if_neg hl] at e
        exact (nomatch e), gT_ix h.ix⟩
end

/-! ### what is walked -/
/-- lists in the store that are walked stay as they are -/
abbrev Hld := List (Nat × List D)
def held : Hld → Store → Prop
  | [], _ => True
  | (n, ds) :: w, S => S[n]? = some (.lst ds) ∧ held w S
@[simp] theorem held_none (S : Store) : held [] S = True := rfl
@[simp] theorem held_some (n : Nat) (ds : List D) (w : Hld) (S : Store) : held ((n, ds) :: w) S = (S[n]? = some (.lst ds) ∧ held w S) := rfl
structure ItD (K : Frag) (W : Wd) (w : Hld) (ds : List D) (J : It) : Prop where
  go : ∀ W' i, Exw W W' → Ok K W' → held w W'.S → i < ds.length → J.go i W'.H
  yld : ∀ W' i x H', Exw W W' → Ok K W' → held w W'.S → i < ds.length → J.yld i W'.H x H' → Same W'.H H' ∧ ∃ d, ds[i]? = some d ∧ Rep K ⟨W'.ρ, W'.S, H', W'.B⟩ d x
  stop : ∀ W' i, Exw W W' → Ok K W' → held w W'.S → ds.length = i → J.stop i W'.H
abbrev Src := List D × Hld
def tI (K : Frag) (Wx : WX) (f : L → Store → R Src) : TI := fun σ H Q => ∃ ρ S B l, Ok K ⟨ρ, S, H, B⟩ ∧ Sl K ⟨ρ, S, H, B⟩ σ l ∧ Post K Wx σ ⟨ρ, S, H, B⟩ (f l S) fun W x => ∀ J, ItD K W x.2 x.1 J → Q J W.H
abbrev FI (X : Cx) (Wx : WX) (tg e : Expr) (f : L → Store → R Src) : Prop := PI X tg e (tI X.K Wx f)
theorem _root_.L2.PI.imp {X : Cx} {tg e : Expr} {t t' : TI} (h : PI X tg e t) (i : ∀ σ H Q, t' σ H Q → t σ H Q) : PI X tg e t' := ⟨fun p s σ H Q I q => h.run p s σ H Q I (i σ H Q q)⟩
/-- the items of a list, a tuple, a text -/
def itemsV (d : D) (S : Store) : Option Src := match d with
  | .tup xs => some (xs, [])
  | .tpn xs => some (xs, [])
  | .lst xs => some (xs, [])
  | .scr xs => some (xs, [])
  | .str z => some (z.cps.toList.map fun c => .str ⟨#[c]⟩, [])
  | .loc n => match S[n]? with
    | some (.lst xs) => some (xs, [(n, xs)])
    | _ => none
  | _ => none
def iVal (f : L → Store → R D) : L → Store → R Src := fun l S => (f l S).bind fun d S1 => ofO (itemsV d S1) S1
section
variable {K : Frag} {W : Wd}
theorem itd_list {a : Addr} {xs : List D} {vs : List V} (h : Sq W a vs) (q : Reps K W xs vs) (ok : Ok K W) : ItD K W [] xs (Itl K a) where
  go := fun W' i e o _ hi => by
    obtain ⟨v, hv, _⟩ := q.get (List.getElem?_eq_getElem hi)
    exact ⟨vs, v, (h.ext e).sql, hv⟩
  yld := fun W' i x H' e o _ hi ⟨eH, y⟩ => by
    subst eH
    have hx := y vs (h.ext e).sql
    obtain ⟨d, h1, h2⟩ := (Reps.exw e ok q).got hx
    exact ⟨Same.refl _, d, h1, h2⟩
  stop := fun W' i e o _ hi => ⟨vs, (h.ext e).sql, by rw [← q.length]; omega⟩
theorem itd_loc {n : Nat} {xs : List D} (hn : n < W.S.length) (ok : Ok K W) : ItD K W [(n, xs)] xs (Itl K (W.ρ n)) where
  go := fun W' i e o hh hi => by
    obtain ⟨vs, ha, q⟩ := o.obj n _ hh.1
    obtain ⟨v, hv, _⟩ := q.get (List.getElem?_eq_getElem hi)
    rw [e.rho n hn] at ha
    exact ⟨vs, v, .inl (.inl ha), hv⟩
  yld := fun W' i x H' e o hh hi ⟨eH, y⟩ => by
    subst eH
    obtain ⟨vs, ha, q⟩ := o.obj n _ hh.1
    rw [e.rho n hn] at ha
    have hx := y vs (.inl (.inl ha))
    obtain ⟨d, h1, h2⟩ := q.got hx
    exact ⟨Same.refl _, d, h1, h2⟩
  stop := fun W' i e o hh hi => by
    obtain ⟨vs, ha, q⟩ := o.obj n _ hh.1
    rw [e.rho n hn] at ha
    exact ⟨vs, .inl (.inl ha), by rw [← q.length]; omega⟩
theorem itd_scr {a : Addr} {xs : List D} {vs : List V} (h : SqF K W.H a vs) (q : Reps K W xs vs) (ok : Ok K W) : ItD K W [] xs (Itl K a) where
  go := fun W' i e o _ hi => by
    obtain ⟨v, hv, _⟩ := q.get (List.getElem?_eq_getElem hi)
    exact ⟨vs, v, (SqF.ext e ok h).sql, hv⟩
  yld := fun W' i x H' e o _ hi ⟨eH, y⟩ => by
    subst eH
    have hx := y vs ((SqF.ext e ok h).sql)
    obtain ⟨d, h1, h2⟩ := (Reps.exw e ok q).got hx
    exact ⟨Same.refl _, d, h1, h2⟩
  stop := fun W' i e o _ hi => ⟨vs, (SqF.ext e ok h).sql, by rw [← q.length]; omega⟩
theorem itd_tup {a : Addr} {xs : List D} {vs : List V} (h : SqT K W.H a vs) (q : Reps K W xs vs) (ok : Ok K W) : ItD K W [] xs (Itt K a) where
  go := fun W' i e o _ hi => by
    obtain ⟨v, hv, _⟩ := q.get (List.getElem?_eq_getElem hi)
    exact ⟨vs, v, SqT.ext e ok h, hv⟩
  yld := fun W' i x H' e o _ hi ⟨eH, y⟩ => by
    subst eH
    have hx := y vs (SqT.ext e ok h)
    obtain ⟨d, h1, h2⟩ := (Reps.exw e ok q).got hx
    exact ⟨Same.refl _, d, h1, h2⟩
  stop := fun W' i e o _ hi => ⟨vs, SqT.ext e ok h, by rw [← q.length]; omega⟩
theorem itd_str {z : Str} : ItD K W [] (z.cps.toList.map fun c => .str ⟨#[c]⟩) (Its z) where
  go := fun W' i e o _ hi => by
    show i < z.cps.size
    simpa using hi
  yld := fun W' i x H' e o _ hi ⟨eH, c, hc, ev⟩ => by
    subst eH ev
    refine ⟨Same.refl _, .str ⟨#[c]⟩, ?_, .str _⟩
    rw [List.getElem?_map]
    have : z.cps.toList[i]? = some c := by simpa using hc
    rw [this]
    rfl
  stop := fun W' i e o _ hi => by
    show z.cps.size ≤ i
    have : z.cps.size = i := by simpa using hi
    omega
theorem itd_rng {lo : Int} {n : Nat} : ItD K W [] ((List.range n).map fun (i : Nat) => .int (lo + i)) (Itr lo n) where
  go := fun W' i e o _ hi => by
    show i < n
    simpa using hi
  yld := fun W' i x H' e o _ hi ⟨eH, ev⟩ => by
    subst eH ev
    have hi' : i < n := by simpa using hi
    refine ⟨Same.refl _, .int (lo + i), ?_, .int _⟩
    rw [List.getElem?_map, List.getElem?_range hi']
    rfl
  stop := fun W' i e o _ hi => by
    show n ≤ i
    have : n = i := by simpa using hi
    omega
end
section
variable {X : Cx} {Wx : WX} {tg e a b : Expr} {f g : L → Store → R D} {fa : L → Store → R (List D)} {p pos : Pos}
theorem _root_.L2.PI.or {X : Cx} {tg e : Expr} {t t' : TI} (h : PI X tg e t) (h' : PI X tg e t') : PI X tg e (fun σ H Q => t σ H Q ∨ t' σ H Q) := ⟨fun p s σ H Q I q => by
  rcases q with q | q
  · exact h.run p s σ H Q I q
  · exact h'.run p s σ H Q I q⟩
/-- over a list, a tuple, a text -/
theorem fi_val (he : FE X Wx e f) : FI X Wx tg e (iVal f) :=
  ((pi_list he).or ((pi_tup he).or (pi_str he))).imp fun σ H Q ⟨ρ, S, B, l, ok, sl, h⟩ => by
    have hb := h.bind
    cases q : f l S with
    | bad => rw [q] at hb; exact hb.elim
    | exc x S1 =>
      rw [q] at hb
      refine .inl ⟨ρ, S, B, l, ok, sl, ?_⟩
      rw [q]
      exact hb
    | ok d S1 =>
      rw [q] at hb
      cases d with
      | tup xs =>
        refine .inr (.inl ⟨ρ, S, B, l, ok, sl, ?_⟩)
        rw [q]
        exact fun ρ' H' e' o' v rv => by
          obtain ⟨_, _, h1⟩ := hb ρ' H' e' o'
          cases rv with
          | tup h2 q2 => exact ⟨_, rfl, ⟨_, h2⟩, Post.ok_of (W := ⟨ρ', S1, H', B⟩) o' h1 _ (itd_tup h2 q2 o')⟩
      | tpn xs =>
        refine .inr (.inl ⟨ρ, S, B, l, ok, sl, ?_⟩)
        rw [q]
        exact fun ρ' H' e' o' v rv => by
          obtain ⟨_, _, h1⟩ := hb ρ' H' e' o'
          cases rv with
          | tpn h2 q2 =>
            obtain ⟨o2, h2, _⟩ := h2
            exact ⟨_, rfl, ⟨_, .inl (.inr ⟨o2, h2⟩)⟩, Post.ok_of (W := ⟨ρ', S1, H', B⟩) o' h1 _ (itd_tup (.inl (.inr ⟨o2, h2⟩)) q2 o')⟩
      | lst xs =>
        refine .inl ⟨ρ, S, B, l, ok, sl, ?_⟩
        rw [q]
        exact fun ρ' H' e' o' v rv => by
          obtain ⟨_, _, h1⟩ := hb ρ' H' e' o'
          cases rv with
          | lst h2 q2 => exact ⟨_, rfl, ⟨_, h2.sql⟩, Post.ok_of (W := ⟨ρ', S1, H', B⟩) o' h1 _ (itd_list h2 q2 o')⟩
      | loc n =>
        refine .inl ⟨ρ, S, B, l, ok, sl, ?_⟩
        rw [q]
        exact fun ρ' H' e' o' v rv => by
          obtain ⟨_, _, h1⟩ := hb ρ' H' e' o'
          cases rv with
          | loc hn =>
            have hn : n < S1.length := hn
            cases q2 : S1[n]? with
            | none => simp [itemsV, q2, ofO] at h1; exact h1.elim
            | some ob => cases ob with
              | ins C ks xs => simp [itemsV, q2, ofO] at h1; exact h1.elim
              | lst xs =>
                simp only [itemsV, q2, ofO] at h1
                obtain ⟨vs, ha, _⟩ := o'.obj n _ q2
                exact ⟨_, rfl, ⟨_, .inl (.inl ha)⟩, Post.ok_of (W := ⟨ρ', S1, H', B⟩) o' h1 _ (itd_loc (W := ⟨ρ', S1, H', B⟩) hn o')⟩
      | scr xs =>
        refine .inl ⟨ρ, S, B, l, ok, sl, ?_⟩
        rw [q]
        exact fun ρ' H' e' o' v rv => by
          obtain ⟨_, _, h1⟩ := hb ρ' H' e' o'
          cases rv with
          | scr h2 q2 =>
            exact ⟨_, rfl, ⟨_, h2.sql⟩, Post.ok_of (W := ⟨ρ', S1, H', B⟩) o' h1 _ (itd_scr h2 q2 o')⟩
      | str z =>
        refine .inr (.inr ⟨ρ, S, B, l, ok, sl, ?_⟩)
        rw [q]
        exact fun ρ' H' e' o' v rv => by
          obtain ⟨_, _, h1⟩ := hb ρ' H' e' o'
          cases rv
          exact ⟨_, rfl, Post.ok_of (W := ⟨ρ', S1, H', B⟩) o' h1 _ itd_str⟩
      | _ =>
        refine .inl ⟨ρ, S, B, l, ok, sl, ?_⟩
        rw [q]
        exact fun ρ' H' e' o' v rv => (hb ρ' H' e' o').2.2.elim
/-- over range(a), range(a, b) -/
def iRg1 (fa : L → Store → R (List D)) : L → Store → R Src := fun l S => (fa l S).bind fun ds S1 => match ds with
  | [.int j] => if j < 2 ^ 62 ∧ -(2 ^ 62) ≤ j then .ok ((List.range j.toNat).map fun (i : Nat) => .int (0 + i), []) S1 else .bad
  | _ => .bad
def iRg2 (fa : L → Store → R (List D)) : L → Store → R Src := fun l S => (fa l S).bind fun ds S1 => match ds with
  | [.int i, .int j] => if (-(2 ^ 62) ≤ i ∧ i < 2 ^ 62) ∧ -(2 ^ 62) ≤ j ∧ j < 2 ^ 62 then .ok ((List.range (j - i).toNat).map fun (k : Nat) => .int (i + k), []) S1 else .bad
  | _ => .bad
theorem fi_rg1 (hm : X.mg "range" = none) (hg : Gl X "range") (ha : FA X Wx [a] fa) (hs : starEach [a] X.env = [(false, eval a X.env)] := by rfl) : FI X Wx tg (.Call (.Name "range" p) [a] [] pos) (iRg1 fa) :=
  (pi_range1 hg hm ha hs).imp fun σ H Q ⟨ρ, S, B, l, ok, sl, h⟩ => ⟨ρ, S, B, l, ok, sl, h.bind.mono fun W1 ds e1 o1 ⟨_, _, h1⟩ vs rvs => by
    split at h1
    · obtain ⟨hc, h1⟩ := Post.iff_ok h1
      obtain ⟨v, rfl, r⟩ := rvs.one
      cases r
      exact ⟨_, rfl, hc.2, hc.1, Post.ok_of o1 h1 _ itd_rng⟩
    · exact h1.elim⟩
theorem fi_rg2 (hm : X.mg "range" = none) (hg : Gl X "range") (ha : FA X Wx [a, b] fa) (hs : starEach [a, b] X.env = [(false, eval a X.env), (false, eval b X.env)] := by rfl) (hs2 : starEach [b] X.env = [(false, eval b X.env)] := by rfl) :
    FI X Wx tg (.Call (.Name "range" p) [a, b] [] pos) (iRg2 fa) :=
  (pi_range2 hg hm ha hs hs2).imp fun σ H Q ⟨ρ, S, B, l, ok, sl, h⟩ => ⟨ρ, S, B, l, ok, sl, h.bind.mono fun W1 ds e1 o1 ⟨_, _, h1⟩ vs rvs => by
    split at h1
    · obtain ⟨hc, h1⟩ := Post.iff_ok h1
      obtain ⟨v, u, rfl, r, r'⟩ := rvs.two
      cases r; cases r'
      exact ⟨_, _, rfl, ⟨hc.1.1, hc.1.2, hc.2.1, hc.2.2⟩, Post.ok_of o1 h1 _ itd_rng⟩
    · exact h1.elim⟩
end

/-! ### for -/
open Classical in
noncomputable def forGo (g : Tgt) (b : L → Store → Fl) (w : Hld) : List D → L → Store → Fl
  | [], l, S => if held w S then .nx l S else .bad
  | d :: ds, l, S => if held w S then match g d S with
    | none => .bad
    | some as => match b (setA l as) S with
      | .nx l1 S1 => forGo g b w ds l1 S1
      | .ct l1 S1 => forGo g b w ds l1 S1
      | .bk l1 S1 => .nx l1 S1
      | .rt d S1 => .rt d S1
      | .exc e l1 S1 => .exc e l1 S1
      | .bad => .bad
    else .bad
noncomputable def sFor (fi : L → Store → R Src) (g : Tgt) (b : L → Store → Fl) : L → Store → Fl := fun l S => (fi l S).toS l fun x S1 => forGo g b x.2 x.1 l S1
theorem PostS.iff_ok {K : Frag} {Wx : WX} {W : Wd} {c : Prop} [Decidable c] {r : Fl} {E : Ends} (h : PostS K Wx W (if c then r else .bad) E) : c ∧ PostS K Wx W r E := by
  by_cases hc : c
  · rw [if_pos hc] at h
    exact ⟨hc, h⟩
  · rw [if_neg hc] at h
    exact h.elim
section
variable {X : Cx} {Wx : WX} {tg e : Expr} {f : L → Store → R Src} {g : Tgt} {ix : List Nat} {body : List Stmt} {fb : L → Store → Fl} {pos : Pos}
open Classical in
theorem fs_for (hp : PassesOwn (model X.prog X.w) X.A X.env X.xe) (hc : X.calm = true) (hi : FI X Wx tg e f) (hg : FG X tg g ix) (hb : FB X Wx body fb) (hs : ∀ x, foldedSetIterable e X.env x = pure x := by intro _; rfl) :
    FS X Wx (.For tg e body [] pos) (sFor f g fb) :=
  (ps_for hp hc hi hg.g hb hs).imp fun D σ H ⟨ρ, S, B, l, ok, sl, h⟩ => ⟨ρ, S, B, l, ok, sl, (h.toS sl ok).mono fun W1 x e1 o1 ⟨_, _, h1⟩ J it => by
    obtain ⟨ds, w⟩ := x
    dsimp only at h1 it
    refine ⟨fun i m σ H => m = ds.length - i ∧ i ≤ ds.length ∧ ∃ ρ S l, Ok X.K ⟨ρ, S, H, W1.B⟩ ∧ Sl X.K ⟨ρ, S, H, W1.B⟩ σ l ∧ Ext W1 ⟨ρ, S, H, W1.B⟩ ∧ PostS X.K Wx ⟨ρ, S, H, W1.B⟩ (forGo g fb w (ds.drop i) l S) D,
      ⟨ds.length, by simp, Nat.zero_le _, W1.ρ, W1.S, l, o1, sl.ext e1 ok, Ext.refl _, by simpa using h1⟩, ?_⟩
    rintro i m σ H ⟨rfl, hi, ρ, S, l, ok, sl, e, h⟩
    by_cases hlt : i < ds.length
    · rw [List.drop_eq_getElem_cons hlt] at h
      unfold forGo at h
      obtain ⟨hh, h⟩ := PostS.iff_ok h
      refine .inr ⟨it.go ⟨ρ, S, H, W1.B⟩ i e.w ok hh hlt, fun σ' H' => ∃ ρ S l, Ok X.K ⟨ρ, S, H', W1.B⟩ ∧ Sl X.K ⟨ρ, S, H', W1.B⟩ σ' l ∧ Ext W1 ⟨ρ, S, H', W1.B⟩ ∧ PostS X.K Wx ⟨ρ, S, H', W1.B⟩ (forGo g fb w (ds.drop (i + 1)) l S) D,
        fun σ' H' n => ⟨ds.length - (i + 1), by omega, rfl, hlt, n⟩, fun x H' y => ?_⟩
      obtain ⟨sm, d, hd, rd⟩ := it.yld ⟨ρ, S, H, W1.B⟩ i x H' e.w ok hh hlt y
      rw [List.getElem?_eq_getElem hlt] at hd
      cases hd
      cases q : g ds[i] S with
      | none => rw [q] at h; exact h.elim
      | some as =>
        rw [q] at h
        dsimp only at h
        have e2 : Ext ⟨ρ, S, H, W1.B⟩ ⟨ρ, S, H', W1.B⟩ := Ext.same sm
        refine ⟨ρ, S, W1.B, ds[i], as, ok.same sm, rd, q, fun vs rvs => ⟨ρ, S, W1.B, _, ok.same sm, (sl.ext e2 ok).setA rvs, ?_⟩⟩
        have h := PostS.weak h e2
        cases q2 : fb (setA l as) S with
        | nx l1 S1 => rw [q2] at h; exact fun ρ' H2 σ' e' o' s' => ⟨ρ', S1, l1, o', s', (e.trans e2).trans e', PostS.weak h e'⟩
        | ct l1 S1 => rw [q2] at h; exact fun ρ' H2 σ' e' o' s' => ⟨ρ', S1, l1, o', s', (e.trans e2).trans e', PostS.weak h e'⟩
        | bk l1 S1 => rw [q2] at h; exact h
        | rt d S1 => rw [q2] at h; exact h
        | exc x l1 S1 => rw [q2] at h; exact h
        | bad => rw [q2] at h; exact h
    · have ei : ds.drop i = [] := List.drop_eq_nil_of_le (by omega)
      rw [ei] at h
      unfold forGo at h
      obtain ⟨hh, h⟩ := PostS.iff_ok h
      exact .inl ⟨it.stop ⟨ρ, S, H, W1.B⟩ i e.w ok hh (by omega), h ρ H σ (Ext.refl _) ok sl⟩⟩
end

/-! ### while -/
def whGo (c : L → Store → R Bool) (b : L → Store → Fl) : Nat → L → Store → Fl
  | 0, _, _ => .bad
  | n + 1, l, S => (c l S).toS l fun t S1 => if t = true then match b l S1 with
      | .nx l1 S2 => whGo c b n l1 S2
      | .ct l1 S2 => whGo c b n l1 S2
      | .bk l1 S2 => .nx l1 S2
      | .rt d S2 => .rt d S2
      | .exc e l1 S2 => .exc e l1 S2
      | .bad => .bad
    else .nx l S1
open Classical in
noncomputable def sWh (c : L → Store → R Bool) (b : L → Store → Fl) : L → Store → Fl := fun l S => if h : ∃ n, whGo c b n l S ≠ .bad then whGo c b h.choose l S else .bad
section
variable {X : Cx} {Wx : WX} {c : Expr} {fc : L → Store → R Bool} {body : List Stmt} {fb : L → Store → Fl} {pos : Pos}
theorem whGo_succ : ∀ {n : Nat} {l : L} {S : Store}, whGo fc fb n l S ≠ .bad → whGo fc fb (n + 1) l S = whGo fc fb n l S
  | 0, l, S, h => absurd rfl h
  | n + 1, l, S, h => by
    rw [whGo] at h ⊢
    rw [whGo]
    cases q : fc l S with
    | bad => rfl
    | exc e S1 => rfl
    | ok t S1 =>
      rw [q] at h
      rw [R.toS_ok] at h
      rw [R.toS_ok, R.toS_ok]
      cases t with
      | false => rfl
      | true =>
        rw [if_pos rfl] at h ⊢
        rw [if_pos rfl]
        cases q2 : fb l S1 with
        | nx l1 S2 => rw [q2] at h; exact whGo_succ h
        | ct l1 S2 => rw [q2] at h; exact whGo_succ h
        | _ => rfl
theorem whGo_le {n m : Nat} {l : L} {S : Store} (h : whGo fc fb n l S ≠ .bad) (hm : n ≤ m) : whGo fc fb m l S = whGo fc fb n l S := by
  obtain ⟨k, rfl⟩ := Nat.exists_eq_add_of_le hm
  clear hm
  induction k with
  | zero => rfl
  | succ k ih =>
    have z : whGo fc fb (n + k) l S ≠ .bad := by rw [ih]; exact h
    exact (whGo_succ z).trans ih
theorem sWh_of {n : Nat} {l : L} {S : Store} {r : Fl} (h : whGo fc fb n l S = r) (hr : r ≠ .bad) : sWh fc fb l S = r := by
  have hn : whGo fc fb n l S ≠ .bad := by rw [h]; exact hr
  have ex : ∃ n, whGo fc fb n l S ≠ .bad := ⟨n, hn⟩
  unfold sWh
  rw [dif_pos ex]
  rcases Nat.le_total n ex.choose with le | le
  · rw [whGo_le hn le, h]
  · rw [← whGo_le ex.choose_spec le, h]
theorem fs_while (hp : PassesOwn (model X.prog X.w) X.A X.env X.xe) (hc : FT X Wx c fc) (hb : FB X Wx body fb) : FS X Wx (.While c body [] pos) (sWh fc fb) :=
  (ps_while hp hc hb).imp fun D σ H ⟨ρ, S, B, l, ok, sl, h⟩ => by
    unfold sWh at h
    by_cases ex : ∃ n, whGo fc fb n l S ≠ .bad
    · rw [dif_pos ex] at h
      refine ⟨fun m σ H => ∃ ρ S l, Ok X.K ⟨ρ, S, H, B⟩ ∧ Sl X.K ⟨ρ, S, H, B⟩ σ l ∧ PostS X.K Wx ⟨ρ, S, H, B⟩ (whGo fc fb m l S) D, ⟨_, ρ, S, l, ok, sl, h⟩, ?_⟩
      rintro m σ H ⟨ρ, S, l, ok, sl, h⟩
      cases m with
      | zero => exact h.elim
      | succ m =>
        rw [whGo] at h
        refine ⟨ρ, S, B, l, ok, sl, (h.toS sl ok).mono fun W1 t e1 o1 ⟨_, _, h1⟩ => ?_⟩
        have eB := e1.B
        have eB : W1.B = B := eB
        obtain ⟨ρ1, S1, H1, B1⟩ := W1
        cases eB
        cases t with
        | false =>
          rw [if_neg Bool.false_ne_true] at h1
          show D.nx σ H1
          exact h1 ρ1 H1 σ (Ext.refl _) o1 (sl.ext e1 ok)
        | true =>
          rw [if_pos rfl] at h1
          refine (if_pos rfl).mpr ?_
          refine ⟨fun σ' H' => ∃ ρ S l, Ok X.K ⟨ρ, S, H', B1⟩ ∧ Sl X.K ⟨ρ, S, H', B1⟩ σ' l ∧ PostS X.K Wx ⟨ρ, S, H', B1⟩ (whGo fc fb m l S) D, fun σ' H' n => ⟨m, Nat.lt_succ_self _, n⟩, ρ1, S1, B1, l, o1, sl.ext e1 ok, ?_⟩
          dsimp only at h1
          cases q2 : fb l S1 with
          | nx l1 S2 => rw [q2] at h1; exact fun ρ' H2 σ' e' o' s' => ⟨ρ', S2, l1, o', s', PostS.weak h1 e'⟩
          | ct l1 S2 => rw [q2] at h1; exact fun ρ' H2 σ' e' o' s' => ⟨ρ', S2, l1, o', s', PostS.weak h1 e'⟩
          | bk l1 S2 => rw [q2] at h1; exact h1
          | rt d S2 => rw [q2] at h1; exact h1
          | exc x l1 S2 => rw [q2] at h1; exact h1
          | bad => rw [q2] at h1; exact h1
    · rw [dif_neg ex] at h
      exact h.elim
end
end HL
end
section
set_option Elab.async false
set_option linter.all false
set_option maxRecDepth 100000
set_option maxHeartbeats 1000000
namespace HL
open PySem PySem.Spec L2

/-! ### slots forgotten -/
def wp {α : Type} (l : List (Option α)) : List Nat → List (Option α)
  | [] => l
  | v :: vs => (wp l vs).set v none
theorem wipe_wp (σ : L2.St) : ∀ vs : List Nat, wipe σ vs = wp σ vs
  | [] => rfl
  | v :: vs => by unfold wipe wp; rw [wipe_wp σ vs]
section
variable {α : Type}
theorem wp_length (l : List (Option α)) : ∀ vs : List Nat, (wp l vs).length = l.length
  | [] => rfl
  | v :: vs => by unfold wp; rw [List.length_set, wp_length l vs]
theorem wp_get (l : List (Option α)) (j : Nat) : ∀ vs : List Nat, (wp l vs)[j]? = if j ∈ vs then (l[j]?).map (fun _ => none) else l[j]?
  | [] => by simp [wp]
  | v :: vs => by
    unfold wp
    rw [List.getElem?_set, wp_length, wp_get l j vs]
    by_cases e : v = j
    · subst e
      by_cases h : v < l.length
      · simp [h]
      · simp [h]
    · have e' : ¬ j = v := fun z => e z.symm
      simp [e, e']
theorem setA_length : ∀ (as : List (Nat × α)) (l : List (Option α)), (setA l as).length = l.length
  | [], _ => rfl
  | (i, d) :: as, l => by unfold setA; rw [setA_length as, List.length_set]
theorem setA_get {j : Nat} : ∀ (as : List (Nat × α)) (l : List (Option α)), j ∉ as.map (·.1) → (setA l as)[j]? = l[j]?
  | [], _, _ => rfl
  | (i, d) :: as, l, h => by
    unfold setA
    rw [setA_get as _ fun z => h (by rw [List.map_cons]; exact List.mem_cons_of_mem _ z)]
    exact List.getElem?_set_ne fun e => h (by rw [List.map_cons]; exact e ▸ List.mem_cons_self)
theorem wp_setA {as : List (Nat × α)} {l : List (Option α)} {vs : List Nat} (h : ∀ i ∈ as.map (·.1), i ∈ vs) : wp (setA (wp l vs) as) vs = wp l vs := by
  refine List.ext_getElem? fun j => ?_
  rw [wp_get (setA (wp l vs) as), wp_get l]
  by_cases hj : j ∈ vs
  · rw [if_pos hj, if_pos hj]
    by_cases hl : j < l.length
    · rw [List.getElem?_eq_getElem (by rw [setA_length, wp_length]; exact hl), List.getElem?_eq_getElem hl]
      rfl
    · rw [List.getElem?_eq_none (by rw [setA_length, wp_length]; omega), List.getElem?_eq_none (by omega)]
  · rw [if_neg hj, if_neg hj, setA_get _ _ fun z => hj (h j z), wp_get, if_neg hj]
end
theorem Sl.wp {K : Frag} {W : Wd} {σ : L2.St} {l : L} (s : Sl K W σ l) (vs : List Nat) : Sl K W (wipe σ vs) (HL.wp l vs) := by
  refine ⟨by rw [wipe_wp, wp_length, wp_length]; exact s.len, fun i d h => ?_⟩
  rw [wp_get] at h
  by_cases hi : i ∈ vs
  · rw [if_pos hi] at h
    cases q : l[i]? with
    | none => rw [q] at h; cases h
    | some o => rw [q] at h; cases h
  · rw [if_neg hi] at h
    obtain ⟨v, a, b⟩ := s.get i d h
    refine ⟨v, ?_, b⟩
    rw [wipe_wp, wp_get, if_neg hi]
    exact a

/-! ### what is being built is busy -/
abbrev plusB (B : Addr → Prop) (D : Addr) : Addr → Prop := fun a => B a ∨ a = D
theorem ne_lst {H : Hp} {a A : Addr} {u : HO} {xs : List V} (hD : H A = some (.lst xs)) (h : H a = some u) (hu : ∀ ys, u ≠ .lst ys) : a ≠ A := fun e => by
  rw [e, hD] at h
  exact hu xs (Option.some.inj h).symm
section
variable {K : Frag} {ρ : Nat → Addr} {S : Store} {H : Hp} {B : Addr → Prop} {D : Addr}
mutual
theorem Rep.poke {xs ys : List V} (hD : H D = some (.lst xs)) : ∀ {d : HL.D} {v : V}, Rep K ⟨ρ, S, H, plusB B D⟩ d v → Rep K ⟨ρ, S, upd H D (.lst ys), plusB B D⟩ d v
  | _, _, .non => .non
  | _, _, .bl b => .bl b
  | _, _, .int i => .int i
  | _, _, .str x => .str x
  | _, _, .tup h r => .tup (by
      rcases h with (h | ⟨o, h⟩) | h
      · exact .inl (.inl ((upd_ne (ne_lst hD h fun _ => nofun)).trans h))
      · exact .inl (.inr ⟨o, (upd_ne (ne_lst hD h fun _ => nofun)).trans h⟩)
      · exact .inr h) (Reps.poke hD r)
  | _, _, .tpn ⟨o, h, hd⟩ r => .tpn ⟨o, (upd_ne (ne_lst hD h fun _ => nofun)).trans h, hd⟩ (Reps.poke hD r)
  | _, _, .lst h r => .lst ⟨(upd_ne fun e => h.2.2 (.inr e)).trans h.1, h.2.1, h.2.2⟩ (Reps.poke hD r)
  | _, _, .scr h r => .scr (h.elim (fun ⟨o, h⟩ => .inl ⟨o, (upd_ne (ne_lst hD h fun _ => nofun)).trans h⟩) .inr) (Reps.poke hD r)
  | _, _, .iset ⟨M, h⟩ n => .iset ⟨M, (upd_ne (ne_lst hD h fun _ => nofun)).trans h⟩ n
  | _, _, .ins h n hl r => .ins ((upd_ne (ne_lst hD h fun _ => nofun)).trans h) n hl (Reps.poke hD r)
  | _, _, .err h hd hl r => .err ((upd_ne (ne_lst hD h fun _ => nofun)).trans h) (hd.imp id fun ⟨dd, h1, h2⟩ => ⟨dd, h1, (upd_ne (ne_lst hD h2 fun _ => nofun)).trans h2⟩) hl (Reps.poke hD r)
  | _, _, .loc h => Rep.loc (K := K) (W := ⟨ρ, S, upd H D (.lst ys), plusB B D⟩) h
theorem Reps.poke {xs ys : List V} (hD : H D = some (.lst xs)) : ∀ {ds : List HL.D} {vs : List V}, Reps K ⟨ρ, S, H, plusB B D⟩ ds vs → Reps K ⟨ρ, S, upd H D (.lst ys), plusB B D⟩ ds vs
  | _, _, .nil => .nil
  | _, _, .cons h r => .cons (Rep.poke hD h) (Reps.poke hD r)
end
theorem Ok.poke {xs ys : List V} (hD : H D = some (.lst xs)) (nl : ¬ Live ⟨ρ, S, H, plusB B D⟩ D) (ok : Ok K ⟨ρ, S, H, plusB B D⟩) : Ok K ⟨ρ, S, upd H D (.lst ys), plusB B D⟩ := by
  refine ⟨fun a b q => ?_, ok.nb, ok.inj, fun i o h => ?_⟩
  · have q : upd H D (.lst ys) a = none := q
    by_cases e : a = D
    · rw [e, upd_same] at q; cases q
    · rw [upd_ne e] at q; exact ok.busy a b q
  · have r := ok.obj i o h
    have hi : i < S.length := (List.getElem?_eq_some_iff.mp h).1
    have ne : ρ i ≠ D := fun e => nl ⟨i, hi, e⟩
    cases o with
    | lst xs =>
      obtain ⟨vs, e, q⟩ := r
      exact ⟨vs, (upd_ne ne).trans e, Reps.poke hD q⟩
    | ins C ks xs =>
      obtain ⟨dx, vs, e, hl, q⟩ := r
      exact ⟨dx, vs, (upd_ne ne).trans e, hl, Reps.poke hD q⟩
mutual
theorem Rep.less {B' : Addr → Prop} (hb : ∀ a, B' a → B a) : ∀ {d : HL.D} {v : V}, Rep K ⟨ρ, S, H, B⟩ d v → Rep K ⟨ρ, S, H, B'⟩ d v
  | _, _, .non => .non
  | _, _, .bl b => .bl b
  | _, _, .int i => .int i
  | _, _, .str x => .str x
  | _, _, .tup h r => .tup h (Reps.less hb r)
  | _, _, .tpn h r => .tpn h (Reps.less hb r)
  | _, _, .lst h r => .lst ⟨h.1, h.2.1, fun z => h.2.2 (hb _ z)⟩ (Reps.less hb r)
  | _, _, .scr h r => .scr h (Reps.less hb r)
  | _, _, .iset h n => .iset h n
  | _, _, .ins h n hl r => .ins h n hl (Reps.less hb r)
  | _, _, .err h hd hl r => .err h hd hl (Reps.less hb r)
  | _, _, .loc h => Rep.loc (K := K) (W := ⟨ρ, S, H, B'⟩) h
theorem Reps.less {B' : Addr → Prop} (hb : ∀ a, B' a → B a) : ∀ {ds : List HL.D} {vs : List V}, Reps K ⟨ρ, S, H, B⟩ ds vs → Reps K ⟨ρ, S, H, B'⟩ ds vs
  | _, _, .nil => .nil
  | _, _, .cons h r => .cons (Rep.less hb h) (Reps.less hb r)
end
theorem Ok.less {B' : Addr → Prop} (hb : ∀ a, B' a → B a) (ok : Ok K ⟨ρ, S, H, B⟩) : Ok K ⟨ρ, S, H, B'⟩ := by
  refine ⟨fun a b => ok.busy a (hb a b), fun a b => ok.nb a (hb a b), ok.inj, fun i o h => ?_⟩
  have r := ok.obj i o h
  cases o with
  | lst xs =>
    obtain ⟨vs, e, q⟩ := r
    exact ⟨vs, e, Reps.less hb q⟩
  | ins C ks xs =>
    obtain ⟨dx, vs, e, hl, q⟩ := r
    exact ⟨dx, vs, e, hl, Reps.less hb q⟩
end
/-- a new list, busy -/
theorem busy_ok {K : Frag} {W : Wd} {D : Addr} {xs : List V} (ok : Ok K W) (hD : W.H D = none) : Exw W ⟨W.ρ, W.S, upd W.H D (.lst xs), plusB W.B D⟩ ∧ Ok K ⟨W.ρ, W.S, upd W.H D (.lst xs), plusB W.B D⟩ ∧ ¬ Live ⟨W.ρ, W.S, upd W.H D (.lst xs), plusB W.B D⟩ D := by
  have nl : ¬ Live W D := ok.nlive0 hD
  have e : Exw W ⟨W.ρ, W.S, upd W.H D (.lst xs), plusB W.B D⟩ := ⟨Nat.le_refl _, fun _ _ => rfl, fun a u h n => ⟨Same.upd hD _ _ h, n⟩, fun a u h n m z => by
    rcases z with z | z
    · exact m z
    · rw [z, hD] at h; cases h⟩
  refine ⟨e, ⟨fun a b q => ?_, fun a b q => ?_, ok.inj, fun i o h => ?_⟩, nl⟩
  · have q : upd W.H D (.lst xs) a = none := q
    by_cases z : a = D
    · rw [z, upd_same] at q; cases q
    · rw [upd_ne z] at q
      rcases b with b | b
      · exact ok.busy a b q
      · exact z b
  · rcases b with b | b
    · exact ok.nb a b q
    · rw [b] at q; exact nl q
  · have r := ok.obj i o h
    have hi : i < W.S.length := (List.getElem?_eq_some_iff.mp h).1
    have ne : W.ρ i ≠ D := fun e => nl ⟨i, hi, e⟩
    cases o with
    | lst ys =>
      obtain ⟨vs, e1, q⟩ := r
      exact ⟨vs, (upd_ne ne).trans e1, Reps.exw e ok q⟩
    | ins C ks ys =>
      obtain ⟨dx, vs, e1, hl, q⟩ := r
      exact ⟨dx, vs, (upd_ne ne).trans e1, hl, Reps.exw e ok q⟩

/-! ### one clause -/
abbrev wx0 : WX := fun _ _ _ _ => False
open Classical in
noncomputable def cGo (g : Tgt) (t : L → Store → R Bool) (e : L → Store → R D) (w : Hld) (l : L) : List D → Nat → Store → Option (List D × Store)
  | [], n, S => if held w S then some ([], S) else none
  | d :: ds, n, S => if held w S then match g d S with
    | none => none
    | some as => match t (setA l as) S with
      | .ok true S1 => match e (setA l as) S1 with
        | .ok y S2 => if n < sizeLine then match cGo g t e w l ds (n + 1) S2 with
          | some (ys, S3) => some (y :: ys, S3)
          | none => none
          else none
        | _ => none
      | .ok false S1 => cGo g t e w l ds n S1
      | _ => none
    else none
noncomputable def eLc (fi : L → Store → R Src) (g : Tgt) (t : L → Store → R Bool) (e : L → Store → R D) (vs : List Nat) : L → Store → R D := fun l S => (fi l S).bind fun x S1 => match cGo g t e x.2 (wp l vs) x.1 0 S1 with
  | some (ds, S2) => .ok (.lst ds) S2
  | none => .bad
/-- .. that may change -/
noncomputable def eLcN (fi : L → Store → R Src) (g : Tgt) (t : L → Store → R Bool) (e : L → Store → R D) (vs : List Nat) : L → Store → R D := fun l S => (fi l S).bind fun x S1 => match cGo g t e x.2 (wp l vs) x.1 0 S1 with
  | some (ds, S2) => .ok (.loc S2.length) (S2 ++ [.lst ds])
  | none => .bad
def tYesF : L → Store → R Bool := fun _ S => .ok true S
abbrev FTs (X : Cx) (ifs : List Expr) (t : L → Store → R Bool) : Prop := PTs X ifs (tT X.K wx0 t)
theorem fts_nil {X : Cx} : FTs X [] tYesF := ⟨fun pins s σ H Q I ⟨ρ, S, B, l, ok, sl, h⟩ => pts_nil.run pins s σ H Q I (Post.ok_of (W := ⟨ρ, S, H, B⟩) ok h)⟩
theorem fts_one {X : Cx} {c : Expr} {t : L → Store → R Bool} (h : FT X wx0 c t) : FTs X [c] t := pts_one h

theorem if_same {c : Prop} [Decidable c] {α : Type} {a r : α} {n : α} (h : (if c then a else n) = r) (hn : n ≠ r) : c ∧ a = r := by
  by_cases hc : c
  · rw [if_pos hc] at h; exact ⟨hc, h⟩
  · rw [if_neg hc] at h; exact absurd h hn
open Classical in
theorem lc_go {K : Frag} {Wx : WX} {fi : L → Store → R Src} {g : Tgt} {ix vs : List Nat} {t : L → Store → R Bool} {e : L → Store → R D} {σ : L2.St} {Q : VK} {H : Hp} {ρ : Nat → Addr} {S : Store} {B : Addr → Prop} {l : L}
    (ok : Ok K ⟨ρ, S, H, B⟩) (sl : Sl K ⟨ρ, S, H, B⟩ σ l) (hix : ∀ d S as, g d S = some as → as.map (·.1) = ix) (hv : ∀ i ∈ ix, i ∈ vs)
    (h : Post K Wx σ ⟨ρ, S, H, B⟩ (fi l S) fun W1 x => ∃ dF SF, cGo g t e x.2 (wp l vs) x.1 0 W1.S = some (dF, SF) ∧ ∀ ρ' H' A us, Exw W1 ⟨ρ', SF, H', plusB W1.B A⟩ → Ok K ⟨ρ', SF, H', plusB W1.B A⟩ → H' A = some (.lst us) → ¬ Live ⟨ρ', SF, H', plusB W1.B A⟩ A → ¬ W1.B A → W1.H A = none → Reps K ⟨ρ', SF, H', plusB W1.B A⟩ dF us → Q (.ref A) H') :
    tLc (tI K Wx fi) (tG K g) (tT K wx0 t) (tE K wx0 e) vs σ H Q := by
  refine ⟨ρ, S, B, l, ok, sl, h.mono fun W1 x e1 o1 ⟨dF, SF, hc, hq⟩ J it A hA => ?_⟩
  obtain ⟨ds, w⟩ := x
  dsimp only at hc it
  have sl1 := (sl.ext e1 ok).wp vs
  generalize hl0 : wp l vs = l0 at hc sl1
  have hwl : ∀ as : List (Nat × V), as.map (·.1) = ix → wipe (setA (wipe σ vs) as) vs = wipe σ vs := fun as ha => by
    rw [wipe_wp, wipe_wp]
    exact wp_setA fun i hi => hv i (by rw [← ha]; exact hi)
  obtain ⟨b1, b2, b3⟩ := busy_ok (xs := []) o1 hA
  refine ⟨fun i m H => m = ds.length - i ∧ i ≤ ds.length ∧ ∃ ρ S acc us tl, Exw W1 ⟨ρ, S, H, plusB W1.B A⟩ ∧ Ok K ⟨ρ, S, H, plusB W1.B A⟩ ∧ ¬ Live ⟨ρ, S, H, plusB W1.B A⟩ A ∧ H A = some (.lst us) ∧ Reps K ⟨ρ, S, H, plusB W1.B A⟩ acc us ∧ cGo g t e w l0 (ds.drop i) acc.length S = some (tl, SF) ∧ acc ++ tl = dF,
    ⟨ds.length, by simp, Nat.zero_le _, W1.ρ, W1.S, [], [], dF, b1, b2, b3, upd_same, .nil, by simpa using hc, rfl⟩, ?_⟩
  rintro i m H ⟨rfl, hi, ρ, S, acc, us, tl, e2, ok2, nl, hu, ra, hc, hd⟩
  have sl2 := sl1.exw e2 o1
  by_cases hlt : i < ds.length
  · rw [List.drop_eq_getElem_cons hlt, cGo] at hc
    obtain ⟨hh, hc⟩ := if_same hc (by simp)
    refine .inr ⟨it.go ⟨ρ, S, H, _⟩ i e2 ok2 hh hlt, fun H => ∃ ρ S acc us tl, Exw W1 ⟨ρ, S, H, plusB W1.B A⟩ ∧ Ok K ⟨ρ, S, H, plusB W1.B A⟩ ∧ ¬ Live ⟨ρ, S, H, plusB W1.B A⟩ A ∧ H A = some (.lst us) ∧ Reps K ⟨ρ, S, H, plusB W1.B A⟩ acc us ∧ cGo g t e w l0 (ds.drop (i + 1)) acc.length S = some (tl, SF) ∧ acc ++ tl = dF,
      fun H' n => ⟨ds.length - (i + 1), by omega, rfl, hlt, n⟩, fun x H' y => ?_⟩
    obtain ⟨sm, d, hd', rd⟩ := it.yld ⟨ρ, S, H, _⟩ i x H' e2 ok2 hh hlt y
    rw [List.getElem?_eq_getElem hlt] at hd'
    cases hd'
    cases q : g ds[i] S with
    | none => rw [q] at hc; cases hc
    | some as =>
      rw [q] at hc
      dsimp only at hc
      have e3 : Ext ⟨ρ, S, H, plusB W1.B A⟩ ⟨ρ, S, H', plusB W1.B A⟩ := Ext.same sm
      have ok3 : Ok K ⟨ρ, S, H', plusB W1.B A⟩ := ok2.same sm
      have hu3 : H' A = some (.lst us) := sm _ _ hu
      refine ⟨ρ, S, _, ds[i], as, ok3, rd, q, fun vv rvv => ⟨hwl vv (by rw [← rvv.ix]; exact hix _ _ _ q), ?_⟩⟩
      have sl3 := (sl2.ext e3 ok2).setA rvv
      refine ⟨ρ, S, _, _, ok3, sl3, ?_⟩
      cases q2 : t (setA l0 as) S with
      | bad => rw [q2] at hc; cases hc
      | exc x S1 => rw [q2] at hc; cases hc
      | ok b S1 =>
        rw [q2] at hc
        intro ρ4 H4 e4 ok4
        have hu4 := e4.keep _ _ hu3 nl
        cases b with
        | false =>
          dsimp only at hc
          refine (if_neg Bool.false_ne_true).mpr ?_
          exact ⟨ρ4, S1, acc, us, tl, (e2.trans e3.w).trans e4.w, ok4, hu4.2, hu4.1, (ra.ext e3 ok2).ext e4 ok3, hc, hd⟩
        | true =>
          dsimp only at hc
          refine (if_pos rfl).mpr ?_
          refine ⟨ρ4, S1, _, _, ok4, sl3.ext e4 ok3, ?_⟩
          cases q3 : e (setA l0 as) S1 with
          | bad => rw [q3] at hc; cases hc
          | exc x S2 => rw [q3] at hc; cases hc
          | ok y S2 =>
            rw [q3] at hc
            dsimp only at hc
            obtain ⟨hn, hc⟩ := if_same hc (by simp)
            intro ρ5 H5 e5 ok5 v rv
            have hu5 := e5.keep _ _ hu4.1 hu4.2
            cases q4 : cGo g t e w l0 (ds.drop (i + 1)) (acc.length + 1) S2 with
            | none => rw [q4] at hc; cases hc
            | some pr =>
              obtain ⟨ys, S3⟩ := pr
              rw [q4] at hc
              cases hc
              have ra5 := ((ra.ext e3 ok2).ext e4 ok3).ext e5 ok4
              have ex5 : Exw W1 ⟨ρ5, S2, H5, plusB W1.B A⟩ := ((e2.trans e3.w).trans e4.w).trans e5.w
              refine ⟨us, hu5.1, by rw [← ra.length]; exact hn, ρ5, S2, acc ++ [y], us ++ [v], ys, ⟨ex5.len, ex5.rho, fun a u z n => ?_, ex5.fresh⟩, ok5.poke hu5.1 hu5.2, hu5.2, upd_same, ?_, by simpa using q4, by rw [← hd]; simp⟩
              · obtain ⟨z1, z2⟩ := ex5.keep a u z n
                exact ⟨(upd_ne fun e => by rw [e, hA] at z; cases z).trans z1, z2⟩
              · exact Reps.append (Reps.poke hu5.1 ra5) (.cons (Rep.poke hu5.1 rv) .nil)
  · have ei : ds.drop i = [] := List.drop_eq_nil_of_le (by omega)
    rw [ei, cGo] at hc
    obtain ⟨hh, hc⟩ := if_same hc (by simp)
    cases hc
    rw [List.append_nil] at hd
    subst hd
    exact .inl ⟨it.stop ⟨ρ, SF, H, _⟩ i e2 ok2 hh (by omega), hq ρ H A us e2 ok2 hu nl (fun z => o1.busy _ z hA) hA ra⟩

/-! ### what was built joins the store -/
section
variable {K : Frag} {ρ : Nat → Addr} {S : Store} {H : Hp} {B : Addr → Prop} {A : Addr}
theorem live_join {ds : List D} {a : Addr} (h : Live ⟨fun i => if i = S.length then A else ρ i, S ++ [.lst ds], H, B⟩ a) : a = A ∨ ∀ B', Live ⟨ρ, S, H, B'⟩ a := by
  obtain ⟨i, hi, q⟩ := h
  have hi : i < (S ++ [Ob.lst ds]).length := hi
  rw [List.length_append, List.length_singleton] at hi
  by_cases z : i = S.length
  · have q' : A = a := by simpa [z] using q
    exact .inl q'.symm
  · have q' : ρ i = a := by simpa [z] using q
    exact .inr fun B' => ⟨i, by show i < S.length; omega, q'⟩
mutual
theorem Rep.join {es : List D} {us : List V} (hu : H A = some (.lst us)) : ∀ {d : D} {v : V}, Rep K ⟨ρ, S, H, plusB B A⟩ d v → Rep K ⟨fun i => if i = S.length then A else ρ i, S ++ [.lst es], H, B⟩ d v
  | _, _, .non => .non
  | _, _, .bl b => .bl b
  | _, _, .int i => .int i
  | _, _, .str x => .str x
  | _, _, .tup h r => .tup h (Reps.join hu r)
  | _, _, .tpn h r => .tpn h (Reps.join hu r)
  | _, _, .lst h r => .lst ⟨h.1, fun z => (live_join z).elim (fun e => h.2.2 (.inr e)) (fun z => h.2.1 (z _)), fun z => h.2.2 (.inl z)⟩ (Reps.join hu r)
  | _, _, .scr h r => .scr h (Reps.join hu r)
  | _, _, .iset ⟨M, h⟩ n => .iset ⟨M, h⟩ (fun z => (live_join z).elim (fun e => ne_lst (H := H) hu h (fun _ => nofun) e) (fun z => n (z _)))
  | _, _, .ins h n hl r => .ins h (fun z => (live_join z).elim (fun e => by rw [e] at h; have h : H A = _ := h; rw [hu] at h; cases h) (fun z => n (z _))) hl (Reps.join hu r)
  | _, _, .err h hd hl r => .err h hd hl (Reps.join hu r)
  | _, _, .loc (n := n) h => by
    have h : n < S.length := h
    have e : (⟨ρ, S, H, plusB B A⟩ : Wd).ρ n = (⟨fun i => if i = S.length then A else ρ i, S ++ [.lst es], H, B⟩ : Wd).ρ n := (if_neg (Nat.ne_of_lt h)).symm
    rw [e]
    exact Rep.loc (by show n < (S ++ [Ob.lst es]).length; rw [List.length_append, List.length_singleton]; omega)
theorem Reps.join {es : List D} {us : List V} (hu : H A = some (.lst us)) : ∀ {ds : List D} {vs : List V}, Reps K ⟨ρ, S, H, plusB B A⟩ ds vs → Reps K ⟨fun i => if i = S.length then A else ρ i, S ++ [.lst es], H, B⟩ ds vs
  | _, _, .nil => .nil
  | _, _, .cons h r => .cons (Rep.join hu h) (Reps.join hu r)
end
theorem join_ok {W1 : Wd} {ds : List D} {us : List V} (e : Exw W1 ⟨ρ, S, H, plusB W1.B A⟩) (ok : Ok K ⟨ρ, S, H, plusB W1.B A⟩) (hu : H A = some (.lst us)) (nl : ¬ Live ⟨ρ, S, H, plusB W1.B A⟩ A) (nb : ¬ W1.B A) (hA : W1.H A = none) (r : Reps K ⟨ρ, S, H, plusB W1.B A⟩ ds us) :
    Ext W1 ⟨fun i => if i = S.length then A else ρ i, S ++ [.lst ds], H, W1.B⟩ ∧ Ok K ⟨fun i => if i = S.length then A else ρ i, S ++ [.lst ds], H, W1.B⟩ := by
  have hlen : W1.S.length ≤ S.length := e.len
  refine ⟨⟨rfl, ?_, fun i hi => ?_, fun a u z n => ?_⟩, ⟨fun a b => ok.busy a (.inl b), fun a b z => ?_, fun i j hi hj q => ?_, fun i o' h => ?_⟩⟩
  · show W1.S.length ≤ (S ++ [Ob.lst ds]).length
    rw [List.length_append]; omega
  · show (if i = S.length then A else ρ i) = W1.ρ i
    rw [if_neg (by omega)]
    exact e.rho i hi
  · obtain ⟨z1, z2⟩ := e.keep a u z n
    refine ⟨z1, fun z3 => ?_⟩
    rcases live_join z3 with z3 | z3
    · rw [z3, hA] at z; cases z
    · exact z2 (z3 _)
  · rcases live_join z with z | z
    · exact nb (z ▸ b)
    · exact ok.nb a (.inl b) (z _)
  · have hi : i < S.length + 1 := by simpa using hi
    have hj : j < S.length + 1 := by simpa using hj
    have ne : ∀ k, k < S.length → ρ k ≠ A := fun k hk q => nl ⟨k, hk, q⟩
    by_cases zi : i = S.length
    · by_cases zj : j = S.length
      · omega
      · have q' : A = ρ j := by simpa [zi, zj] using q
        exact absurd q'.symm (ne j (by omega))
    · by_cases zj : j = S.length
      · have q' : ρ i = A := by simpa [zi, zj] using q
        exact absurd q' (ne i (by omega))
      · have q' : ρ i = ρ j := by simpa [zi, zj] using q
        exact ok.inj i j (by show i < S.length; omega) (by show j < S.length; omega) q'
  · by_cases z : i = S.length
    · subst z
      have h' : Ob.lst ds = o' := by simpa using h
      subst h'
      show RepO K _ (.lst ds) (if S.length = S.length then A else _)
      rw [if_pos rfl]
      exact ⟨us, hu, Reps.join hu r⟩
    · have hi : i < S.length + 1 := by
        have := (List.getElem?_eq_some_iff.mp h).1
        simpa using this
      have h' : S[i]? = some o' := by
        have h : (S ++ [Ob.lst ds])[i]? = some o' := h
        rw [List.getElem?_append_left (by omega)] at h
        exact h
      show RepO K _ o' (if i = S.length then A else ρ i)
      rw [if_neg z]
      have q := ok.obj i o' h'
      cases o' with
      | lst xs =>
        obtain ⟨vs, e1, q1⟩ := q
        exact ⟨vs, e1, Reps.join hu q1⟩
      | ins C ks xs =>
        obtain ⟨dx, vs, e1, hl, q1⟩ := q
        exact ⟨dx, vs, e1, hl, Reps.join hu q1⟩
end
section
variable {X : Cx} {Wx : WX} {elt tg iter : Expr} {ifs : List Expr} {scope : Scope} {own : List (Str × Nat)} {pos : Pos} {fi : L → Store → R Src} {g : Tgt} {ix : List Nat} {t : L → Store → R Bool} {e : L → Store → R D}
theorem lc_val {K : Frag} {σ : L2.St} {W : Wd} {Q : VK} {vs : List Nat} {l : L} (h : Post K Wx σ W (eLc fi g t e vs l W.S) fun W d => ∀ v, Rep K W d v → Q v W.H) :
    Post K Wx σ W (fi l W.S) fun W1 x => ∃ dF SF, cGo g t e x.2 (wp l vs) x.1 0 W1.S = some (dF, SF) ∧ ∀ ρ' H' A us, Exw W1 ⟨ρ', SF, H', plusB W1.B A⟩ → Ok K ⟨ρ', SF, H', plusB W1.B A⟩ → H' A = some (.lst us) → ¬ Live ⟨ρ', SF, H', plusB W1.B A⟩ A → ¬ W1.B A → W1.H A = none → Reps K ⟨ρ', SF, H', plusB W1.B A⟩ dF us → Q (.ref A) H' :=
  h.bind.mono fun W1 x e1 o1 ⟨_, _, h1⟩ => by
    cases q : cGo g t e x.2 (wp l vs) x.1 0 W1.S with
    | none => rw [q] at h1; exact h1.elim
    | some pr =>
      rw [q] at h1
      exact ⟨pr.1, pr.2, rfl, fun ρ' H' A us e' o' hu nl nb hA r => h1 ρ' H' ⟨rfl, e'.len, e'.rho, e'.keep⟩ (o'.less fun a h => .inl h) _ (.lst ⟨hu, nl, nb⟩ (r.less fun a h => .inl h))⟩
theorem lc_new {K : Frag} {σ : L2.St} {W : Wd} {Q : VK} {vs : List Nat} {l : L} (h : Post K Wx σ W (eLcN fi g t e vs l W.S) fun W d => ∀ v, Rep K W d v → Q v W.H) :
    Post K Wx σ W (fi l W.S) fun W1 x => ∃ dF SF, cGo g t e x.2 (wp l vs) x.1 0 W1.S = some (dF, SF) ∧ ∀ ρ' H' A us, Exw W1 ⟨ρ', SF, H', plusB W1.B A⟩ → Ok K ⟨ρ', SF, H', plusB W1.B A⟩ → H' A = some (.lst us) → ¬ Live ⟨ρ', SF, H', plusB W1.B A⟩ A → ¬ W1.B A → W1.H A = none → Reps K ⟨ρ', SF, H', plusB W1.B A⟩ dF us → Q (.ref A) H' :=
  h.bind.mono fun W1 x e1 o1 ⟨_, _, h1⟩ => by
    cases q : cGo g t e x.2 (wp l vs) x.1 0 W1.S with
    | none => rw [q] at h1; exact h1.elim
    | some pr =>
      rw [q] at h1
      refine ⟨pr.1, pr.2, rfl, fun ρ' H' A us e' o' hu nl nb hA r => ?_⟩
      obtain ⟨x, o2⟩ := join_ok e' o' hu nl nb hA r
      refine h1 _ _ x o2 _ ?_
      have q : Rep K _ (.loc pr.2.length) (.ref ((⟨fun i => if i = pr.2.length then A else ρ' i, pr.2 ++ [.lst pr.1], H', W1.B⟩ : Wd).ρ pr.2.length)) := Rep.loc (K := K) (W := ⟨fun i => if i = pr.2.length then A else ρ' i, pr.2 ++ [.lst pr.1], H', W1.B⟩) (n := pr.2.length) (by simp)
      simpa using q
theorem fe_lc (hc : X.calm = true) (hN : X.N.Nodup) (hi : FI X Wx tg iter fi) (okB : BlkOk X.N X.env.scope scope own)
    (hg : ∀ (s : Shared) (H : Hp) (C : Addr) (cl : List (Str × Addr)) (fp : List Addr), FG (X.blk s H scope (compEnvC scope cl C X.env) fp) tg g ix) (hix : ∀ i ∈ ix, i ∈ own.map (·.2)) (ht : ∀ (s : Shared) (H : Hp) (C : Addr) (cl : List (Str × Addr)) (fp : List Addr), FTs (X.blk s H scope (compEnvC scope cl C X.env) fp) ifs t)
    (he : ∀ (s : Shared) (H : Hp) (C : Addr) (cl : List (Str × Addr)) (fp : List Addr), FE (X.blk s H scope (compEnvC scope cl C X.env) fp) wx0 elt e) (hs : ∀ x, foldedSetIterable iter X.env x = pure x := by intro _; rfl) :
    FE X Wx (.ListComp elt [⟨tg, iter, ifs, 0⟩] scope pos) (eLc fi g t e (own.map (·.2))) :=
  (pe_lc hc hN hi okB (fun s H C cl fp => (hg s H C cl fp).g) ht he hs).imp fun σ H Q ⟨ρ, S, B, l, ok, sl, h⟩ =>
    lc_go ok sl (hg X.s_0 H 0 [] []).ix hix (lc_val (W := ⟨ρ, S, H, B⟩) h)
theorem fe_lcN (hc : X.calm = true) (hN : X.N.Nodup) (hi : FI X Wx tg iter fi) (okB : BlkOk X.N X.env.scope scope own)
    (hg : ∀ (s : Shared) (H : Hp) (C : Addr) (cl : List (Str × Addr)) (fp : List Addr), FG (X.blk s H scope (compEnvC scope cl C X.env) fp) tg g ix) (hix : ∀ i ∈ ix, i ∈ own.map (·.2)) (ht : ∀ (s : Shared) (H : Hp) (C : Addr) (cl : List (Str × Addr)) (fp : List Addr), FTs (X.blk s H scope (compEnvC scope cl C X.env) fp) ifs t)
    (he : ∀ (s : Shared) (H : Hp) (C : Addr) (cl : List (Str × Addr)) (fp : List Addr), FE (X.blk s H scope (compEnvC scope cl C X.env) fp) wx0 elt e) (hs : ∀ x, foldedSetIterable iter X.env x = pure x := by intro _; rfl) :
    FE X Wx (.ListComp elt [⟨tg, iter, ifs, 0⟩] scope pos) (eLcN fi g t e (own.map (·.2))) :=
  (pe_lc hc hN hi okB (fun s H C cl fp => (hg s H C cl fp).g) ht he hs).imp fun σ H Q ⟨ρ, S, B, l, ok, sl, h⟩ =>
    lc_go ok sl (hg X.s_0 H 0 [] []).ix hix (lc_new (W := ⟨ρ, S, H, B⟩) h)
theorem ps_toE {K : Frag} {f : L → Store → R D} {i : Nat} {D : Ends} {σ : L2.St} {H : Hp} {ρ : Nat → Addr} {S : Store} {B : Addr → Prop} {l : L} (ok : Ok K ⟨ρ, S, H, B⟩) (sl : Sl K ⟨ρ, S, H, B⟩ σ l) (h : PostS K Wx ⟨ρ, S, H, B⟩ (sSet i f l S) D) :
    Post K Wx σ ⟨ρ, S, H, B⟩ (f l S) fun W d => ∀ v, Rep K W d v → gName i v σ W.H D.nx :=
  (PostS.toS sl ok h).mono fun W1 d e1 o1 ⟨_, _, h1⟩ v rv => h1 W1.ρ W1.H _ (Ext.refl _) o1 ((sl.ext e1 ok).set rv i)
/-- name = [..] on one line, the name a local -/
theorem fs_setLc {i : Nat} {y : Str} {py spos : Pos} (hc : X.calm = true) (hN : X.N.Nodup) (hi : FI X Wx tg iter fi) (okB : BlkOk X.N X.env.scope scope own)
    (hg : ∀ (s : Shared) (H : Hp) (C : Addr) (cl : List (Str × Addr)) (fp : List Addr), FG (X.blk s H scope (compEnvC scope cl C X.env) fp) tg g ix) (hix : ∀ i ∈ ix, i ∈ own.map (·.2)) (ht : ∀ (s : Shared) (H : Hp) (C : Addr) (cl : List (Str × Addr)) (fp : List Addr), FTs (X.blk s H scope (compEnvC scope cl C X.env) fp) ifs t)
    (he : ∀ (s : Shared) (H : Hp) (C : Addr) (cl : List (Str × Addr)) (fp : List Addr), FE (X.blk s H scope (compEnvC scope cl C X.env) fp) wx0 elt e)
    (hy : X.N[i]? = some y := by rfl) (hyl : X.env.scope.names.lookup y = some .local := by rfl) (hk : X.env.scope.kind = .function := by rfl) (hl : (py.line == pos.line) = true := by rfl) (ha : (scope.names.any fun (n, k) => n == y && (k == .local || k == .cell)) = false := by rfl) (hs : ∀ x, foldedSetIterable iter X.env x = pure x := by intro _; rfl) :
    FS X Wx (.Assign [.Name y py] (.ListComp elt [⟨tg, iter, ifs, 0⟩] scope pos) spos) (sSet i (eLc fi g t e (own.map (·.2)))) :=
  (ps_setLc hc hN hy hyl (sw_true hk hyl hl ha) hi okB (fun s H C cl fp => (hg s H C cl fp).g) ht he hs).imp fun D σ H ⟨ρ, S, B, l, ok, sl, h⟩ =>
    lc_go (Q := fun x H1 => gName i x σ H1 D.nx) ok sl (hg X.s_0 H 0 [] []).ix hix (lc_val (W := ⟨ρ, S, H, B⟩) (ps_toE ok sl h))
theorem fs_setLcN {i : Nat} {y : Str} {py spos : Pos} (hc : X.calm = true) (hN : X.N.Nodup) (hi : FI X Wx tg iter fi) (okB : BlkOk X.N X.env.scope scope own)
    (hg : ∀ (s : Shared) (H : Hp) (C : Addr) (cl : List (Str × Addr)) (fp : List Addr), FG (X.blk s H scope (compEnvC scope cl C X.env) fp) tg g ix) (hix : ∀ i ∈ ix, i ∈ own.map (·.2)) (ht : ∀ (s : Shared) (H : Hp) (C : Addr) (cl : List (Str × Addr)) (fp : List Addr), FTs (X.blk s H scope (compEnvC scope cl C X.env) fp) ifs t)
    (he : ∀ (s : Shared) (H : Hp) (C : Addr) (cl : List (Str × Addr)) (fp : List Addr), FE (X.blk s H scope (compEnvC scope cl C X.env) fp) wx0 elt e)
    (hy : X.N[i]? = some y := by rfl) (hyl : X.env.scope.names.lookup y = some .local := by rfl) (hk : X.env.scope.kind = .function := by rfl) (hl : (py.line == pos.line) = true := by rfl) (ha : (scope.names.any fun (n, k) => n == y && (k == .local || k == .cell)) = false := by rfl) (hs : ∀ x, foldedSetIterable iter X.env x = pure x := by intro _; rfl) :
    FS X Wx (.Assign [.Name y py] (.ListComp elt [⟨tg, iter, ifs, 0⟩] scope pos) spos) (sSet i (eLcN fi g t e (own.map (·.2)))) :=
  (ps_setLc hc hN hy hyl (sw_true hk hyl hl ha) hi okB (fun s H C cl fp => (hg s H C cl fp).g) ht he hs).imp fun D σ H ⟨ρ, S, B, l, ok, sl, h⟩ =>
    lc_go (Q := fun x H1 => gName i x σ H1 D.nx) ok sl (hg X.s_0 H 0 [] []).ix hix (lc_new (W := ⟨ρ, S, H, B⟩) (ps_toE ok sl h))
end
end HL
end
section
set_option Elab.async false
set_option linter.all false
set_option maxRecDepth 100000
set_option maxHeartbeats 1000000
namespace HL
open PySem PySem.Spec L2

/-! ### an object of the store written -/
section
variable {K : Frag} {W : Wd} {n : Nat} {u : HO} {o : Ob}
theorem wr_live {ρ : Nat → Addr} {S : Store} {H H' : Hp} {B B' : Addr → Prop} {a : Addr} : Live ⟨ρ, S.set n o, H', B'⟩ a ↔ Live ⟨ρ, S, H, B⟩ a := by
  constructor
  · rintro ⟨i, hi, q⟩
    exact ⟨i, by simpa using hi, q⟩
  · rintro ⟨i, hi, q⟩
    exact ⟨i, by simpa using hi, q⟩
theorem wr_ok (ok : Ok K W) (hn : n < W.S.length) (r : ∀ W' : Wd, W'.H (W.ρ n) = some u → Ext W W' → RepO K W' o (W.ρ n)) :
    Ext W ⟨W.ρ, W.S.set n o, upd W.H (W.ρ n) u, W.B⟩ ∧ Ok K ⟨W.ρ, W.S.set n o, upd W.H (W.ρ n) u, W.B⟩ := by
  have e : Ext W ⟨W.ρ, W.S.set n o, upd W.H (W.ρ n) u, W.B⟩ := by
    refine ⟨rfl, by simp, fun _ _ => rfl, fun a v h nl => ⟨?_, fun q => nl (wr_live.mp q)⟩⟩
    exact (upd_ne fun e => nl ⟨n, hn, e.symm⟩).trans h
  refine ⟨e, fun a b q => ?_, fun a b q => ok.nb a b (wr_live.mp q), fun i j hi hj q => ok.inj i j (by simpa using hi) (by simpa using hj) q, fun i o' h => ?_⟩
  · have q : upd W.H (W.ρ n) u a = none := q
    by_cases z : a = W.ρ n
    · rw [z, upd_same] at q; cases q
    · rw [upd_ne z] at q; exact ok.busy a b q
  · have h : (W.S.set n o)[i]? = some o' := h
    by_cases z : n = i
    · subst z
      rw [List.getElem?_set_self hn] at h
      cases h
      exact r _ upd_same e
    · rw [List.getElem?_set_ne z] at h
      have hi : i < W.S.length := (List.getElem?_eq_some_iff.mp h).1
      have ne : W.ρ i ≠ W.ρ n := fun q => z (ok.inj _ _ hi hn q).symm
      have q := ok.obj i o' h
      cases o' with
      | lst xs =>
        obtain ⟨vs, e1, q1⟩ := q
        exact ⟨vs, (upd_ne ne).trans e1, Reps.ext e ok q1⟩
      | ins C ks xs =>
        obtain ⟨dx, vs, e1, hl, q1⟩ := q
        exact ⟨dx, vs, (upd_ne ne).trans e1, hl, Reps.ext e ok q1⟩
end

/-! ### targets of all forms -/
abbrev TgtH := D → L → Store → Option (L × Store)
def tH (K : Frag) (b : TgtH) : TG := fun v σ H Q => ∃ ρ S B l d l' S', Ok K ⟨ρ, S, H, B⟩ ∧ Sl K ⟨ρ, S, H, B⟩ σ l ∧ Rep K ⟨ρ, S, H, B⟩ d v ∧ b d l S = some (l', S') ∧ ∀ ρ' H' σ', Ext ⟨ρ, S, H, B⟩ ⟨ρ', S', H', B⟩ → Ok K ⟨ρ', S', H', B⟩ → Sl K ⟨ρ', S', H', B⟩ σ' l' → Q σ' H'
def tHs (K : Frag) (b : List D → L → Store → Option (L × Store)) : TGs := fun us σ H Q => ∃ ρ S B l ds l' S', Ok K ⟨ρ, S, H, B⟩ ∧ Sl K ⟨ρ, S, H, B⟩ σ l ∧ Reps K ⟨ρ, S, H, B⟩ ds us ∧ b ds l S = some (l', S') ∧ ∀ ρ' H' σ', Ext ⟨ρ, S, H, B⟩ ⟨ρ', S', H', B⟩ → Ok K ⟨ρ', S', H', B⟩ → Sl K ⟨ρ', S', H', B⟩ σ' l' → Q σ' H'
abbrev FH (X : Cx) (e : Expr) (b : TgtH) : Prop := PG X e (tH X.K b)
abbrev FHs (X : Cx) (es : List Expr) (b : List D → L → Store → Option (L × Store)) : Prop := PGs X es (tHs X.K b)
def hNm (i : Nat) : TgtH := fun d l S => some (l.set i (some d), S)
def hsNil : List D → L → Store → Option (L × Store) := fun ds l S => match ds with
  | [] => some (l, S)
  | _ => none
def hsCons (b : TgtH) (c : List D → L → Store → Option (L × Store)) : List D → L → Store → Option (L × Store) := fun ds l S => match ds with
  | d :: ds => match b d l S with
    | some (l1, S1) => c ds l1 S1
    | none => none
  | [] => none
def hT (n : Nat) (c : List D → L → Store → Option (L × Store)) : TgtH := fun d l S => match seqD d S with
  | some ds => if ds.length = n then c ds l S else none
  | none => none
/-- o[i] = d of a list in the store -/
def setIx (o i d : D) (S : Store) : Option Store := match o, i with
  | .loc n, .int k => match S[n]? with
    | some (.lst xs) => match ixN xs.length k with
      | some j => some (S.set n (.lst (xs.set j d)))
      | none => none
    | _ => none
  | _, _ => none
def hIx (fo fi : L → Store → R D) : TgtH := fun d l S => match fo l S with
  | .ok o S1 => match fi l S1 with
    | .ok i S2 => match setIx o i d S2 with
      | some S3 => some (l, S3)
      | none => none
    | _ => none
  | _ => none
section
variable {X : Cx} {pos : Pos} {e o i : Expr} {es : List Expr} {b : TgtH} {c : List D → L → Store → Option (L × Store)} {fo fi : L → Store → R D}
theorem fh_name (i : Nat) {x : Str} (hN : X.N.Nodup) (hi : X.N[i]? = some x := by rfl) (hx : Loc X.env.scope x := by first | exact Or.inl rfl | exact Or.inr rfl) (hf : X.fn x = true ∨ X.env.scope.names.lookup x = some .local := by first | exact .inl rfl | exact .inr rfl) : FH X (.Name x pos) (hNm i) :=
  (pg_name hN hi hx hf).imp fun v σ H Q ⟨ρ, S, B, l, d, l', S', ok, sl, r, e, q⟩ => by
    cases e
    exact q ρ H _ (Ext.refl _) ok (sl.set r i)
theorem fhs_nil : FHs X [] hsNil :=
  pgs_nil.imp fun v σ H Q ⟨ρ, S, B, l, ds, l', S', ok, sl, r, e, q⟩ => by
    cases r with
    | nil =>
      cases e
      exact ⟨rfl, q ρ H σ (Ext.refl _) ok sl⟩
    | cons _ _ => exact (nomatch e)
theorem fhs_cons (h : FH X e b) (r : FHs X es c) (hs : (assignEach (e :: es) X.env).map (·.2) = assign e X.env :: (assignEach es X.env).map (·.2) := by rfl) : FHs X (e :: es) (hsCons b c) :=
  (pgs_cons h r hs).imp fun us σ H Q ⟨ρ, S, B, l, ds, l', S', ok, sl, rr, e, q⟩ => by
    cases rr with
    | nil => cases e
    | @cons d v ds vs rd rs =>
      unfold hsCons at e
      dsimp only at e
      cases h1 : b d l S with
      | none => rw [h1] at e; cases e
      | some p =>
        obtain ⟨l1, S1⟩ := p
        rw [h1] at e
        exact ⟨v, vs, rfl, ρ, S, B, l, d, l1, S1, ok, sl, rd, h1, fun ρ1 H1 σ1 e1 o1 s1 => ⟨ρ1, S1, B, l1, ds, l', S', o1, s1, rs.ext e1 ok, e, fun ρ2 H2 σ2 e2 o2 s2 => q ρ2 H2 σ2 (e1.trans e2) o2 s2⟩⟩
theorem fh_tup {k n : Nat} (hc : X.calm = true) (h : FHs X es c) (hn : (assignEach es X.env).length = n := by rfl) (hst : (assignEach es X.env).findIdx? (·.1) = none := by rfl) : FH X (.Tuple es k pos) (hT n c) :=
  ((pg_tup hc h hn hst).or (pg_lst hc h hn hst)).imp fun v σ H Q ⟨ρ, S, B, l, d, l', S', ok, sl, r, e, q⟩ => by
    unfold hT at e
    cases h1 : seqD d S with
    | none => rw [h1] at e; cases e
    | some ds =>
      rw [h1] at e
      dsimp only at e
      by_cases hl : ds.length = n
      · rw [if_pos hl] at e
        obtain ⟨a, vs, rfl, h2, q2⟩ := seqD_ok ok r h1
        rcases h2 with h2 | h2
        · exact .inr ⟨a, vs, rfl, h2, by rw [← q2.length]; exact hl, ρ, S, B, l, ds, l', S', ok, sl, q2, e, q⟩
        · exact .inl ⟨a, vs, rfl, h2, by rw [← q2.length]; exact hl, ρ, S, B, l, ds, l', S', ok, sl, q2, e, q⟩
      · rw [if_neg hl] at e
        cases e
theorem setIx_ok {K : Frag} {W : Wd} {o i d : D} {x y v : V} {S' : Store} {Q : Hp → Prop} (ok : Ok K W) (ro : Rep K W o x) (ri : Rep K W i y) (rd : Rep K W d v) (e : setIx o i d W.S = some S')
    (k : ∀ ρ' H', Ext W ⟨ρ', S', H', W.B⟩ → Ok K ⟨ρ', S', H', W.B⟩ → Q H') : rSetL x y v W.H Q := by
  unfold setIx at e
  split at e
  · rename_i n j
    split at e
    · rename_i xs hx
      split at e
      · rename_i m hm
        cases e
        obtain ⟨vs, h1, q⟩ := ok.obj n _ hx
        cases ri
        cases ro with
        | loc hn =>
          obtain ⟨e2, o2⟩ := wr_ok (u := .lst (vs.set m v)) (o := .lst (xs.set m d)) ok hn fun W' eh ex => ⟨_, eh, Reps.set (rd.ext ex ok) m (q.ext ex ok)⟩
          exact ⟨_, vs, j, m, rfl, rfl, h1, by rw [← q.length]; exact hm, k _ _ e2 o2⟩
      · cases e
    · cases e
  · cases e
theorem fh_ix (ho : FE X wx0 o fo) (hi : FE X wx0 i fi)
    (ha : ∀ v, assign (.Subscript o i pos) X.env v = (do
      let ov ← holding [v] (eval o X.env)
      let iv ← holding [v, ov] (eval i X.env)
      standAt pos
      holding [v, ov, iv] (setItem ov iv v)
      release [v, ov, iv] []) := by intro _; rfl) : FH X (.Subscript o i pos) (hIx fo fi) :=
  (pg_sub ho hi set_list ha).imp fun v σ H Q ⟨ρ, S, B, l, d, l', S', ok, sl, r, e, q⟩ => by
    unfold hIx at e
    refine ⟨ρ, S, B, l, ok, sl, ?_⟩
    cases h1 : fo l S with
    | bad => rw [h1] at e; cases e
    | exc x S1 => rw [h1] at e; cases e
    | ok od S1 =>
      rw [h1] at e
      dsimp only at e
      intro ρ1 H1 e1 o1 x rx
      refine ⟨ρ1, S1, B, l, o1, sl.ext e1 ok, ?_⟩
      cases h2 : fi l S1 with
      | bad => rw [h2] at e; cases e
      | exc x S1 => rw [h2] at e; cases e
      | ok id S2 =>
        rw [h2] at e
        dsimp only at e
        intro ρ2 H2 e2 o2 y ry
        cases h3 : setIx od id d S2 with
        | none => rw [h3] at e; cases e
        | some S3 =>
          rw [h3] at e
          cases e
          refine setIx_ok (W := ⟨ρ2, S2, H2, B⟩) o2 (rx.ext e2 o1) ry ((r.ext e1 ok).ext e2 o1) h3 fun ρ' H' e3 o3 => q ρ' H' σ ((e1.trans e2).trans e3) o3 (((sl.ext e1 ok).ext e2 o1).ext e3 o2)
end

/-! ### assignments -/
def sAsg (fe : L → Store → R D) (b : TgtH) : L → Store → Fl := fun l S => (fe l S).toS l fun d S1 => match b d l S1 with
  | some (l2, S2) => .nx l2 S2
  | none => .bad
def sPar (i j : Nat) (fa : L → Store → R (List D)) : L → Store → Fl := fun l S => (fa l S).toS l fun ds S1 => match ds with
  | [d, e] => .nx ((l.set i (some d)).set j (some e)) S1
  | _ => .bad
def sPar3 (i j k : Nat) (fa : L → Store → R (List D)) : L → Store → Fl := fun l S => (fa l S).toS l fun ds S1 => match ds with
  | [d, e, f] => .nx (((l.set i (some d)).set j (some e)).set k (some f)) S1
  | _ => .bad
def sAug (i : Nat) (p : D → D → Store → Option D) (fe : L → Store → R D) : L → Store → Fl := fun l S => match l[i]? with
  | some (some x) => (fe l S).toS l fun y S1 => match p x y S1 with
    | some z => .nx (l.set i (some z)) S1
    | none => .bad
  | _ => .bad
def pAddI (d e : D) (_ : Store) : Option D := match d, e with
  | .int i, .int j => some (.int (i + j))
  | _, _ => none
def pSubI (d e : D) (_ : Store) : Option D := match d, e with
  | .int i, .int j => some (.int (i - j))
  | _, _ => none
section
variable {X : Cx} {Wx : WX} {pos : Pos} {e tg : Expr} {fe : L → Store → R D} {b : TgtH} {fa : L → Store → R (List D)}
theorem fs_asg (he : FE X Wx e fe) (hg : FH X tg b) (hs : swapsWithSole [tg] e pos.line X.env = pure false := by rfl) (hw : swappedStores [tg] e X.env = pure none := by rfl)
    (h1 : (assignEach [tg] X.env).map (·.2) = [assign tg X.env] := by rfl) : FS X Wx (.Assign [tg] e pos) (sAsg fe b) :=
  (ps_asg he hg hs hw h1).imp fun D σ H ⟨ρ, S, B, l, ok, sl, h⟩ => ⟨ρ, S, B, l, ok, sl, (h.toS sl ok).mono fun W1 d e1 o1 ⟨_, _, h1⟩ v rv => by
    cases q : b d l W1.S with
    | none => rw [q] at h1; exact h1.elim
    | some p =>
      rw [q] at h1
      exact ⟨W1.ρ, W1.S, W1.B, l, d, p.1, p.2, o1, sl.ext e1 ok, rv, q, h1⟩⟩
theorem Reps.three {K : Frag} {W : Wd} {d e f : D} {vs : List V} (r : Reps K W [d, e, f] vs) : ∃ v u w, vs = [v, u, w] ∧ Rep K W d v ∧ Rep K W e u ∧ Rep K W f w := by
  cases r with
  | cons h r => cases r with
    | cons h' r => cases r with
      | cons h'' r => cases r; exact ⟨_, _, _, rfl, h, h', h''⟩
theorem fs_par (i j : Nat) {x y : Str} {a b : Expr} {px py pt : Pos} {kt k2 pt2} (hc : X.calm = true) (hN : X.N.Nodup) (ha : FA X Wx [a, b] fa) (hi : X.N[i]? = some x := by rfl) (hj : X.N[j]? = some y := by rfl) (hij : i ≠ j := by decide)
    (hx : X.env.scope.names.lookup x = some .local := by rfl) (hy : X.env.scope.names.lookup y = some .local := by rfl)
    (hw : swappedStores [.Tuple [.Name x px, .Name y py] kt pt] (.Tuple [a, b] k2 pt2) X.env = pure (some [x, y]) := by rfl)
    (hs : swapsWithSole [.Tuple [.Name x px, .Name y py] kt pt] (.Tuple [a, b] k2 pt2) pos.line X.env = pure false := by rfl) :
    FS X Wx (.Assign [.Tuple [.Name x px, .Name y py] kt pt] (.Tuple [a, b] k2 pt2) pos) (sPar i j fa) :=
  (ps_par hc hN hi hj hij hx hy ha hw hs).imp fun D σ H ⟨ρ, S, B, l, ok, sl, h⟩ => ⟨ρ, S, B, l, ok, sl, (h.toS sl ok).mono fun W1 ds e1 o1 ⟨_, _, h1⟩ vs rvs => by
    split at h1
    · obtain ⟨v, u, rfl, r1, r2⟩ := rvs.two
      exact ⟨v, u, rfl, h1 W1.ρ W1.H _ (Ext.refl _) o1 (((sl.ext e1 ok).set r1 i).set r2 j)⟩
    · exact h1.elim⟩
theorem fs_par3 (i j k : Nat) {x y z : Str} {a b c : Expr} {px py pz pt : Pos} {kt k2 pt2} (hc : X.calm = true) (hN : X.N.Nodup) (ha : FA X Wx [a, b, c] fa) (hi : X.N[i]? = some x := by rfl) (hj : X.N[j]? = some y := by rfl) (hk : X.N[k]? = some z := by rfl) (hij : i ≠ j := by decide) (hik : i ≠ k := by decide) (hjk : j ≠ k := by decide)
    (hx : X.env.scope.names.lookup x = some .local := by rfl) (hy : X.env.scope.names.lookup y = some .local := by rfl) (hz : X.env.scope.names.lookup z = some .local := by rfl)
    (hw : swappedStores [.Tuple [.Name x px, .Name y py, .Name z pz] kt pt] (.Tuple [a, b, c] k2 pt2) X.env = pure (some [x, y, z]) := by rfl)
    (hs : swapsWithSole [.Tuple [.Name x px, .Name y py, .Name z pz] kt pt] (.Tuple [a, b, c] k2 pt2) pos.line X.env = pure false := by rfl) :
    FS X Wx (.Assign [.Tuple [.Name x px, .Name y py, .Name z pz] kt pt] (.Tuple [a, b, c] k2 pt2) pos) (sPar3 i j k fa) :=
  (ps_par3 hc hN hi hj hk hij hik hjk hx hy hz ha hw hs).imp fun D σ H ⟨ρ, S, B, l, ok, sl, h⟩ => ⟨ρ, S, B, l, ok, sl, (h.toS sl ok).mono fun W1 ds e1 o1 ⟨_, _, h1⟩ vs rvs => by
    split at h1
    · obtain ⟨v, u, w, rfl, r1, r2, r3⟩ := rvs.three
      exact ⟨v, u, w, rfl, h1 W1.ρ W1.H _ (Ext.refl _) o1 ((((sl.ext e1 ok).set r1 i).set r2 j).set r3 k)⟩
    · exact h1.elim⟩
abbrev IpD (X : Cx) (op : Operator) (p : D → D → Store → Option D) : Prop := PIp X op (rP2 X.K p)
theorem ip_pAdd : IpD X .Add pAddI := by
  intro pins s σ H x y v u Q I rx ry ⟨ρ, S, B, d, e, r, ok, rd, re, hp, k⟩
  unfold pAddI at hp
  split at hp
  · cases hp; cases rd; cases re
    exact ip_add pins s σ H _ _ v u Q I rx ry ⟨_, _, rfl, rfl, k _ _ (Same.refl H) (.int _)⟩
  · cases hp
theorem ip_pSub : IpD X .Sub pSubI := by
  intro pins s σ H x y v u Q I rx ry ⟨ρ, S, B, d, e, r, ok, rd, re, hp, k⟩
  unfold pSubI at hp
  split at hp
  · cases hp; cases rd; cases re
    exact ip_sub pins s σ H _ _ v u Q I rx ry ⟨_, _, rfl, rfl, k _ _ (Same.refl H) (.int _)⟩
  · cases hp
theorem fs_aug (i : Nat) {x : Str} {op : Operator} {p : D → D → Store → Option D} {pos' : Pos} (ho : IpD X op p) (hN : X.N.Nodup) (he : FE X Wx e fe) (hi : X.N[i]? = some x := by rfl) (hx : Loc X.env.scope x := by first | exact Or.inl rfl | exact Or.inr rfl) (hf : X.fn x = true ∨ X.env.scope.names.lookup x = some .local := by first | exact .inl rfl | exact .inr rfl) :
    FS X Wx (.AugAssign (.Name x pos') op e pos) (sAug i p fe) :=
  (ps_aug hN hi hx he ho hf).imp fun D σ H ⟨ρ, S, B, l, ok, sl, h⟩ => by
    unfold sAug at h
    split at h
    · rename_i x0 hx0
      obtain ⟨v, e1, r1⟩ := sl.get i _ hx0
      refine ⟨v, e1, ρ, S, B, l, ok, sl, (h.toS sl ok).mono fun W1 y e1 o1 ⟨_, _, h1⟩ u ru => ?_⟩
      cases q : p x0 y W1.S with
      | none => rw [q] at h1; exact h1.elim
      | some z =>
        rw [q] at h1
        refine ⟨W1.ρ, W1.S, W1.B, x0, y, z, o1, r1.ext e1 ok, ru, q, fun H' w sm rw' => h1 W1.ρ H' _ (Ext.same sm) (o1.same sm) (Sl.set (sl.ext (e1.trans (Ext.same sm)) ok) rw' i)⟩
    · exact h.elim
end

/-! ### methods of built-in types -/
def tyD (d : D) (S : Store) : String := match d with
  | .str _ => "str"
  | .int _ => "int"
  | .tpn _ => "tuple"
  | .lst _ => "list"
  | .scr _ => "list"
  | .loc n => match S[n]? with
    | some (.lst _) => "list"
    | _ => ""
  | _ => ""
theorem ty_of {X : Cx} {pins : List (Addr × Obj)} {σ : L2.St} {s : Shared} {W : Wd} {d : D} {v : V} {u : Value} {T : String} (I : Inv X pins σ W.H s) (ok : Ok X.K W) (r : Rep X.K W d v) (ru : RelV v u) (h : tyD d W.S = T) (hT : T ≠ "") :
    s.TypeIs u T ∧ ∀ a, u = .ref a → ∃ ob, s.heap.get? a = some ob ∧ ob.dict = none := by
  have lst : ∀ {a : Addr} {vs : List V}, SqL X.K W.H a vs → s.TypeIs (.ref a) "list" ∧ ∀ b, (.ref a : Value) = .ref b → ∃ ob, s.heap.get? b = some ob ∧ ob.dict = none := fun {a vs} hq => by
    obtain ⟨its, _, pl, _⟩ := I.list hq
    refine ⟨pl.isList.typeIs, fun a e => ?_⟩
    cases e
    obtain ⟨o, n, e, c, hd, _⟩ := pl
    exact ⟨o, e, hd⟩
  cases r with
  | str z =>
    obtain ⟨t, rfl⟩ := ru
    cases h
    exact ⟨typeIs_str s z t, fun _ e => nomatch e⟩
  | int i =>
    obtain ⟨t, rfl⟩ := ru
    cases h
    exact ⟨typeIs_int s i t, fun _ e => nomatch e⟩
  | tpn h1 q =>
    obtain ⟨o, h1, hd⟩ := h1
    cases ru
    cases h
    obtain ⟨h2, h3⟩ := I.hok _ _ h1
    obtain ⟨_, its, _, o', ho', hc', _⟩ := h3
    refine ⟨⟨o', ho', hc'⟩, fun a e => ?_⟩
    cases e
    exact ⟨o, h2, hd⟩
  | lst h1 q =>
    cases ru
    cases h
    exact lst h1.sql
  | scr h1 q =>
    cases ru
    cases h
    exact lst h1.sql
  | @loc n hn =>
    cases ru
    unfold tyD at h
    dsimp only at h
    split at h
    · rename_i xs hx
      cases h
      obtain ⟨vs, h1, _⟩ := ok.obj n _ hx
      exact lst (.inl (.inl h1))
    · exact absurd h.symm hT
  | _ => exact absurd h.symm hT
/-- a method: of a thing and its arguments; what is behind in the store -/
def rM (K : Frag) (pm : D → List D → Store → Option (D × Store)) : V → List V → Hp → VK → Prop := fun x xs H Q => ∃ ρ S B d ds r S', Ok K ⟨ρ, S, H, B⟩ ∧ Rep K ⟨ρ, S, H, B⟩ d x ∧ Reps K ⟨ρ, S, H, B⟩ ds xs ∧ pm d ds S = some (r, S') ∧
  ∀ ρ' H' v, Ext ⟨ρ, S, H, B⟩ ⟨ρ', S', H', B⟩ → Ok K ⟨ρ', S', H', B⟩ → Rep K ⟨ρ', S', H', B⟩ r v → Q v H'
abbrev MtD (X : Cx) (id : String) (pm : D → List D → Store → Option (D × Store)) : Prop := MtR X id (rM X.K pm)
def mMeth (T : String) (pm : D → List D → Store → Option (D × Store)) (fo : L → Store → R D) (fa : L → Store → R (List D)) : L → Store → R D := fun l S => (fo l S).bind fun d S1 => if tyD d S1 = T then (fa l S1).bind fun ds S2 => match pm d ds S2 with
    | some (r, S3) => .ok r S3
    | none => .bad
  else .bad
section
variable {X : Cx} {Wx : WX} {o e : Expr} {es : List Expr} {name : Str} {apos cpos : Pos} {T id : String} {pm : D → List D → Store → Option (D × Store)} {fo : L → Store → R D} {fa : L → Store → R (List D)}
theorem fe_meth (pa : PlainAttrs T) (slot : Slot T name id) (hty : typeOf (.builtin id) = pure (.type "method_descriptor")) (hm : MtD X id pm) (hT : T ≠ "") (ho : FE X Wx o fo) (ha : FA X Wx (e :: es) fa)
    (hbase : attributeBase o name X.env (eval o X.env) = eval o X.env := by rfl)
    (hfew : ((backTo cpos (starEach (e :: es) X.env)).all (fun x => !x.1) && (backToKw cpos (keywordEach [] X.env)).all (fun x => x.1.isSome)
      && decide ((e :: es).length + ([] : List Keyword).length + (if ([] : List Keyword).isEmpty then 0 else 1) < 30)) = true := by rfl)
    (hline : (apos.endLine == cpos.line) = true := by rfl) (hs : starEach (e :: es) X.env = (false, eval e X.env) :: starEach es X.env := by rfl) (hplain : (backTo cpos (starEach es X.env)).any (·.1) = false := by rfl) :
    FE X Wx (.Call (.Attribute o name apos) (e :: es) [] cpos) (mMeth T pm fo fa) := by
  refine ⟨fun pins s σ H Q I ⟨ρ, S, B, l, ok, sl, h⟩ => ?_⟩
  refine wpAny_Call_method_late hbase hfew hline rfl (thn (ho.run pins s σ H (fun x H1 => ∃ ρ1 S1 d, Ok X.K ⟨ρ1, S1, H1, B⟩ ∧ Rep X.K ⟨ρ1, S1, H1, B⟩ d x ∧ tyD d S1 = T ∧ tL X.K Wx fa σ H1 fun xs H2 => rM X.K pm x xs H2 Q) I
    ⟨ρ, S, B, l, ok, sl, h.bind.mono fun W1 d e1 o1 ⟨_, _, h1⟩ x rx => ?_⟩) fun v s1 ⟨x, H1, I1, r1, ρ1, S1, d, o1, rd, ty, q1⟩ => ?_)
  · obtain ⟨hc, h1⟩ := Post.iff_ok h1
    have eB : W1.B = B := e1.B
    obtain ⟨ρ1, S1, H1, B1⟩ := W1
    cases eB
    refine ⟨ρ1, S1, d, o1, rx, hc, ρ1, S1, B1, l, o1, sl.ext e1 ok, h1.bind.mono fun W2 ds e2 o2 ⟨_, _, h2⟩ xs rxs => ?_⟩
    cases q : pm d ds W2.S with
    | none => rw [q] at h2; exact h2.elim
    | some p =>
      rw [q] at h2
      exact ⟨W2.ρ, W2.S, W2.B, d, ds, p.1, p.2, o2, rx.ext e2 o1, rxs, q, fun ρ' H' v e3 o3 rv => h2 ρ' H' e3 o3 v rv⟩
  · obtain ⟨t1, t2⟩ := ty_of I1 o1 rd r1 ty hT
    refine ⟨T, id, pa, slot, hty, t1, t2, ?_⟩
    have hA := ha.run cpos pins s1 σ H1 _ I1 q1
    rw [hs] at hA ⊢
    refine Calls.callWith_builtin (by show (false || (backTo cpos (starEach es X.env)).any (·.1)) = false; rw [hplain] <;> rfl) (Calls.evalArgs_plain ?_)
    exact thn hA fun us s2 ⟨vs, H2, I2, r2, q2⟩ => hm pins s2 σ H2 x vs v us Q I2 r1 r2 q2
theorem fe_meth0 (pa : PlainAttrs T) (slot : Slot T name id) (hty : typeOf (.builtin id) = pure (.type "method_descriptor")) (hm : MtD X id pm) (hT : T ≠ "") (ho : FE X Wx o fo)
    (hbase : attributeBase o name X.env (eval o X.env) = eval o X.env := by rfl) (hline : (apos.endLine == cpos.line) = true := by rfl) :
    FE X Wx (.Call (.Attribute o name apos) [] [] cpos) (mMeth T pm fo aNil) := by
  refine ⟨fun pins s σ H Q I ⟨ρ, S, B, l, ok, sl, h⟩ => ?_⟩
  refine wpAny_Call_method0_late hbase hline (thn (ho.run pins s σ H (fun x H1 => ∃ ρ1 S1 d, Ok X.K ⟨ρ1, S1, H1, B⟩ ∧ Rep X.K ⟨ρ1, S1, H1, B⟩ d x ∧ tyD d S1 = T ∧ rM X.K pm x [] H1 Q) I
    ⟨ρ, S, B, l, ok, sl, h.bind.mono fun W1 d e1 o1 ⟨_, _, h1⟩ x rx => ?_⟩) fun v s1 ⟨x, H1, I1, r1, ρ1, S1, d, o1, rd, ty, q1⟩ => ?_)
  · obtain ⟨hc, h1⟩ := Post.iff_ok h1
    have eB : W1.B = B := e1.B
    obtain ⟨ρ1, S1, H1, B1⟩ := W1
    cases eB
    refine ⟨ρ1, S1, d, o1, rx, hc, ?_⟩
    have h2 := Post.ok_of (W := ⟨ρ1, S1, H1, B1⟩) o1 h1.bind
    obtain ⟨_, _, h2⟩ := h2
    cases q : pm d [] S1 with
    | none => rw [q] at h2; exact h2.elim
    | some p =>
      rw [q] at h2
      exact ⟨ρ1, S1, B1, d, [], p.1, p.2, o1, rx, .nil, q, fun ρ' H' v e3 o3 rv => h2 ρ' H' e3 o3 v rv⟩
  · obtain ⟨t1, t2⟩ := ty_of I1 o1 rd r1 ty hT
    exact ⟨T, id, pa, slot, hty, t1, t2, Calls.callWith_builtin rfl (PySem.evalArgs_none (hm pins s1 σ H1 x [] v [] Q I1 r1 .nil q1))⟩
end
/-- what stays as it is -/
def same1 (p : D → List D → Store → Option D) : D → List D → Store → Option (D × Store) := fun d ds S => (p d ds S).map fun r => (r, S)
def qAppend (d : D) (ds : List D) (S : Store) : Option (D × Store) := match d, ds with
  | .loc n, [e] => match S[n]? with
    | some (.lst xs) => if xs.length < sizeLine then some (.non, S.set n (.lst (xs ++ [e]))) else none
    | _ => none
  | _, _ => none
def qExtend (d : D) (ds : List D) (S : Store) : Option (D × Store) := match d, ds with
  | .loc n, [.lst ys] => match S[n]? with
    | some (.lst xs) => if xs.length + ys.length ≤ sizeLine then some (.non, S.set n (.lst (xs ++ ys))) else none
    | _ => none
  | _, _ => none
def qPop (d : D) (ds : List D) (S : Store) : Option (D × Store) := match d, ds with
  | .loc n, [] => match S[n]? with
    | some (.lst xs) => match xs.getLast? with
      | some e => some (e, S.set n (.lst xs.dropLast))
      | none => none
    | _ => none
  | _, _ => none
/-- the place of the first equal one -/
def pIndexL (d : D) (ds : List D) (S : Store) : Option D := match ds with
  | [e] => match toPyS d S, toPyS e S with
    | some (.list ps), some p => if SeqAt.shaped (.list ps) = true ∧ SeqAt.shaped p = true then (ps.findIdx? fun z => PyData.eqv z p).map fun (j : Nat) => D.int (j : Int) else none
    | _, _ => none
  | _ => none
def strsD : List D → Option (List Str)
  | [] => some []
  | .str i :: ds => (strsD ds).map (i :: ·)
  | _ => none
def pIndexT (d : D) (ds : List D) (_ : Store) : Option D := match d, ds with
  | .tpn xs, [.str z] => (strsD xs).bind fun ys => (ys.findIdx? fun y => y == z).map fun (j : Nat) => D.int (j : Int)
  | _, _ => none
def pJoin (d : D) (ds : List D) (S : Store) : Option D := match d, ds with
  | .str a, [e] => ((seqD e S).bind strsD).bind fun ys => if (ys.map (·.length)).sum + ys.length * a.length ≤ 16777216 then some (.str (Txt.join a ys)) else none
  | _, _ => none
def pUpper (d : D) (ds : List D) (_ : Store) : Option D := match d, ds with
  | .str a, [] => if a.length ≤ 5592405 then some (.str (Txt.upper a)) else none
  | _, _ => none
def pSplit (d : D) (ds : List D) (_ : Store) : Option D := match d, ds with
  | .str a, [.str b] => if (b.length == 0) = false ∧ a.length + 2 ≤ sizeLine then some (.lst ((Txt.split a b).map .str)) else none
  | _, _ => none
def pEndsw (d : D) (ds : List D) (_ : Store) : Option D := match d, ds with
  | .str a, [.str b] => some (.bl (Txt.endswith a b))
  | _, _ => none
section
variable {X : Cx}
theorem findIdx?_some {α : Type} {p : α → Bool} : ∀ {xs : List α} {j : Nat}, xs.findIdx? p = some j → ∃ z, xs[j]? = some z ∧ p z = true ∧ ∀ m z', m < j → xs[m]? = some z' → p z' = false
  | [], j, h => by simp at h
  | x :: xs, j, h => by
    rw [List.findIdx?_cons] at h
    by_cases hp : p x = true
    · rw [if_pos hp] at h
      cases h
      exact ⟨x, rfl, hp, fun m z' hm => absurd hm (Nat.not_lt_zero _)⟩
    · rw [if_neg hp] at h
      obtain ⟨i, h1, rfl⟩ := Option.map_eq_some_iff.mp h
      obtain ⟨z, h2, h3, h4⟩ := findIdx?_some h1
      refine ⟨z, by simpa using h2, h3, fun m z' hm hz => ?_⟩
      cases m with
      | zero =>
        have e : x = z' := by simpa using hz
        rw [← e]
        simpa using hp
      | succ m => exact h4 m z' (by omega) (by simpa using hz)
theorem strs_ok {K : Frag} {W : Wd} : ∀ {ds : List D} {vs : List V} {ns : List Str}, Reps K W ds vs → strsD ds = some ns → vs = ns.map V.str
  | _, _, _, .nil, e => by cases e; rfl
  | _, _, _, .cons (d := d) h r, e => by
    cases h with
    | str i =>
      obtain ⟨ns, h1, rfl⟩ := Option.map_eq_some_iff.mp (show (strsD _).map (i :: ·) = some _ from e)
      rw [strs_ok r h1]
      rfl
    | _ => cases e
theorem mt_qAppend : MtD X "list.append" qAppend := fun pins s σ H x xs v us Q I rx rxs ⟨ρ, S, B, d, ds, r, S', ok, rd, rds, hp, k⟩ => by
  unfold qAppend at hp
  split at hp
  · rename_i n e
    split at hp
    · rename_i ys hy
      split at hp
      · rename_i hz
        cases hp
        obtain ⟨vs, h1, q⟩ := ok.obj n _ hy
        obtain ⟨w, rfl, rw'⟩ := rds.one
        cases rd with
        | loc hn =>
          obtain ⟨e2, o2⟩ := wr_ok (W := ⟨ρ, S, H, B⟩) (n := n) (u := .lst (vs ++ [w])) (o := .lst (ys ++ [e])) ok hn fun W' eh ex => ⟨_, eh, Reps.append (q.ext ex ok) (.cons (rw'.ext ex ok) .nil)⟩
          exact mt_append pins s σ H _ _ v us Q I rx rxs ⟨_, vs, w, rfl, rfl, h1, by rw [← q.length]; exact hz, k _ _ _ e2 o2 .non⟩
      · cases hp
    · cases hp
  · cases hp
theorem mt_qExtend : MtD X "list.extend" qExtend := fun pins s σ H x xs v us Q I rx rxs ⟨ρ, S, B, d, ds, r, S', ok, rd, rds, hp, k⟩ => by
  unfold qExtend at hp
  split at hp
  · rename_i n zs
    split at hp
    · rename_i ys hy
      split at hp
      · rename_i hz
        cases hp
        obtain ⟨vs, h1, q⟩ := ok.obj n _ hy
        obtain ⟨w, rfl, rw'⟩ := rds.one
        cases rd with
        | loc hn =>
          cases rw' with
          | @lst _ ws a h2 q2 =>
            obtain ⟨e2, o2⟩ := wr_ok (W := ⟨ρ, S, H, B⟩) (n := n) (u := .lst (vs ++ ws)) (o := .lst (ys ++ zs)) ok hn fun W' eh ex => ⟨_, eh, Reps.append (q.ext ex ok) (q2.ext ex ok)⟩
            exact mt_extend pins s σ H _ _ v us Q I rx rxs ⟨_, a, vs, ws, rfl, rfl, h1, h2.1, by rw [← q.length, ← q2.length]; exact hz, k _ _ _ e2 o2 .non⟩
      · cases hp
    · cases hp
  · cases hp
theorem Reps.dropLast {K : Frag} {W : Wd} {ds : List D} {vs : List V} (q : Reps K W ds vs) : Reps K W ds.dropLast vs.dropLast := by
  rw [List.dropLast_eq_take, List.dropLast_eq_take, ← q.length]
  exact q.take _
theorem mt_qPop : MtD X "list.pop" qPop := fun pins s σ H x xs v us Q I rx rxs ⟨ρ, S, B, d, ds, r, S', ok, rd, rds, hp, k⟩ => by
  unfold qPop at hp
  split at hp
  · rename_i n
    split at hp
    · rename_i ys hy
      split at hp
      · rename_i e hz
        cases hp
        obtain ⟨vs, h1, q⟩ := ok.obj n _ hy
        cases rds
        rw [List.getLast?_eq_getElem?] at hz
        obtain ⟨w, hw, rw'⟩ := q.get hz
        cases rd with
        | loc hn =>
          obtain ⟨e2, o2⟩ := wr_ok (W := ⟨ρ, S, H, B⟩) (n := n) (u := .lst vs.dropLast) (o := .lst ys.dropLast) ok hn fun W' eh ex => ⟨_, eh, (q.ext ex ok).dropLast⟩
          exact mt_pop pins s σ H _ _ v us Q I rx rxs ⟨_, vs, w, rfl, rfl, h1, by rw [← q.length]; exact hw, k _ _ _ e2 o2 (rw'.ext e2 ok)⟩
      · cases hp
    · cases hp
  · cases hp
/-- a method that changes nothing -/
theorem mt_same {id : String} {p : D → List D → Store → Option D} (h : ∀ (pins : List (Addr × Obj)) (s : Shared) (σ : L2.St) (H : Hp) (x : V) (xs : List V) (v : Value) (us : List Value) (Q : VK), Inv X pins σ H s → RelV x v → Vals xs us →
    (∃ ρ S B d ds r, Ok X.K ⟨ρ, S, H, B⟩ ∧ Rep X.K ⟨ρ, S, H, B⟩ d x ∧ Reps X.K ⟨ρ, S, H, B⟩ ds xs ∧ p d ds S = some r ∧ ∀ H' v, Same H H' → Rep X.K ⟨ρ, S, H', B⟩ r v → Q v H') → wpAny (model X.prog X.w) X.A (call (.builtin id) (v :: us)) (EP X pins σ Q) X.xe s) : MtD X id (same1 p) :=
  fun pins s σ H x xs v us Q I rx rxs ⟨ρ, S, B, d, ds, r, S', ok, rd, rds, hp, k⟩ => by
    obtain ⟨r', h1, h2⟩ := Option.map_eq_some_iff.mp hp
    cases h2
    exact h pins s σ H x xs v us Q I rx rxs ⟨ρ, S, B, d, ds, r, ok, rd, rds, h1, fun H' v' sm rv => k ρ H' v' (Ext.same sm) (ok.same sm) rv⟩
theorem mt_pIndexL (hu : X.A.units + 65 < cLine) : MtD X "list.index" (same1 pIndexL) := mt_same fun pins s σ H x xs v us Q I rx rxs ⟨ρ, S, B, d, ds, r, ok, rd, rds, hp, k⟩ => by
  unfold pIndexL at hp
  split at hp
  · split at hp
    · rename_i e ps p h1 h2
      split at hp
      · rename_i hs
        obtain ⟨j, hj, rfl⟩ := Option.map_eq_some_iff.mp hp
        obtain ⟨z, a1, a2, a3⟩ := findIdx?_some hj
        obtain ⟨w, rfl, rw'⟩ := rds.one
        have dp := rd.dpS ok h1
        cases dp with
        | lst hl hr => exact mt_indexD hu pins s σ H _ _ v us Q I rx rxs ⟨_, w, p, ps, j, z, rfl, rfl, Dp.lst hl hr, rw'.dpS ok h2, hs.1, hs.2, a1, a2, a3, k _ _ (Same.refl H) (.int _)⟩
      · cases hp
    · cases hp
  · cases hp
theorem mt_pIndexT : MtD X "tuple.index" (same1 pIndexT) := mt_same fun pins s σ H x xs v us Q I rx rxs ⟨ρ, S, B, d, ds, r, ok, rd, rds, hp, k⟩ => by
  unfold pIndexT at hp
  split at hp
  · obtain ⟨ys, h1, h2⟩ := Option.bind_eq_some_iff.mp hp
    obtain ⟨j, hj, rfl⟩ := Option.map_eq_some_iff.mp h2
    obtain ⟨z, a1, a2, a3⟩ := findIdx?_some hj
    obtain ⟨w, rfl, rw'⟩ := rds.one
    cases rw'
    cases rd with
    | tpn h3 q =>
      obtain ⟨o, h3, _⟩ := h3
      rw [strs_ok q h1] at h3
      have e : z = _ := beq_iff_eq.mp a2
      subst e
      exact mt_tup_index pins s σ H _ _ v us Q I rx rxs ⟨_, ys, _, j, rfl, rfl, .inl (.inr ⟨o, h3⟩), a1, fun m hm he => by
        have := a3 m _ hm he
        simp at this, k _ _ (Same.refl H) (.int _)⟩
  · cases hp
theorem mt_pJoin : MtD X "str.join" (same1 pJoin) := mt_same fun pins s σ H x xs v us Q I rx rxs ⟨ρ, S, B, d, ds, r, ok, rd, rds, hp, k⟩ => by
  unfold pJoin at hp
  split at hp
  · obtain ⟨ys, h1, h2⟩ := Option.bind_eq_some_iff.mp hp
    obtain ⟨zs, h3, h4⟩ := Option.bind_eq_some_iff.mp h1
    split at h2
    · rename_i hz
      cases h2
      obtain ⟨w, rfl, rw'⟩ := rds.one
      cases rd
      obtain ⟨a, vs, rfl, h5, q⟩ := seqD_ok ok rw' h3
      rw [strs_ok q h4] at h5
      exact mt_join pins s σ H _ _ v us Q I rx rxs ⟨_, a, ys, rfl, rfl, h5, hz, k _ _ (Same.refl H) (.str _)⟩
    · cases h2
  · cases hp
theorem mt_pUpper : MtD X "str.upper" (same1 pUpper) := mt_same fun pins s σ H x xs v us Q I rx rxs ⟨ρ, S, B, d, ds, r, ok, rd, rds, hp, k⟩ => by
  unfold pUpper at hp
  split at hp
  · split at hp
    · rename_i hz
      cases hp
      cases rds
      cases rd
      exact mt_upper pins s σ H _ _ v us Q I rx rxs ⟨_, rfl, rfl, hz, k _ _ (Same.refl H) (.str _)⟩
    · cases hp
  · cases hp
theorem mt_pEndsw : MtD X "str.endswith" (same1 pEndsw) := mt_same fun pins s σ H x xs v us Q I rx rxs ⟨ρ, S, B, d, ds, r, ok, rd, rds, hp, k⟩ => by
  unfold pEndsw at hp
  split at hp
  · cases hp
    obtain ⟨w, rfl, rw'⟩ := rds.one
    cases rd
    cases rw'
    exact mt_endswith pins s σ H _ _ v us Q I rx rxs ⟨_, _, rfl, rfl, k _ _ (Same.refl H) (.bl _)⟩
  · cases hp
theorem Reps.strs {K : Frag} {W : Wd} : ∀ ys : List Str, Reps K W (ys.map .str) (ys.map V.str)
  | [] => .nil
  | y :: ys => .cons (.str y) (Reps.strs ys)
theorem mt_pSplit : MtD X "str.split" (same1 pSplit) := mt_same fun pins s σ H x xs v us Q I rx rxs ⟨ρ, S, B, d, ds, r, ok, rd, rds, hp, k⟩ => by
  unfold pSplit at hp
  split at hp
  · split at hp
    · rename_i hz
      cases hp
      obtain ⟨w, rfl, rw'⟩ := rds.one
      cases rd
      cases rw'
      refine mt_split pins s σ H _ _ v us Q I rx rxs ⟨_, _, rfl, rfl, hz.1, hz.2, fun p hp => ?_⟩
      obtain ⟨sm, z⟩ := new_lst ok hp (Reps.strs _)
      exact k _ _ sm z
    · cases hp
  · cases hp
end
end HL
end
section
set_option Elab.async false
set_option linter.all false
set_option maxRecDepth 100000
set_option maxHeartbeats 1000000
namespace HL
open PySem PySem.Spec L2

/-! ### isinstance -/
def tyName (d : D) (S : Store) : Option String := match d with
  | .non => some "NoneType"
  | .bl _ => some "bool"
  | .int _ => some "int"
  | .str _ => some "str"
  | .tup _ => some "tuple"
  | .tpn _ => some "tuple"
  | .lst _ => some "list"
  | .scr _ => some "list"
  | .iset _ => some "set"
  | .loc n => match S[n]? with
    | some (.lst _) => some "list"
    | _ => none
  | .ins _ _ _ => none
  | .err _ _ _ => none
/-- is a thing of that type one of the type T -/
def subT (a T : String) : Bool := a == T || (a == "bool" && T == "int")
theorem kit_subT {K : Frag} {a T : String} (ha : a ∈ ["NoneType", "bool", "int", "str", "tuple", "list", "set"]) (hT : T ∈ ["bool", "int", "str", "tuple", "list"]) : PySem.W.kitOne K (.type a) (.type T) = some (subT a T) := by
  refine kit_ty ?_
  have h : ∀ a ∈ ["NoneType", "bool", "int", "str", "tuple", "list", "set"], ∀ T ∈ ["bool", "int", "str", "tuple", "list"], kitB a T = some (subT a T) := by decide +kernel
  exact h a ha T hT
def isiT (T : String) (d : D) (S : Store) : Option D := (tyName d S).map fun a => .bl (subT a T)
theorem tyName_ok {K : Frag} {W : Wd} {d : D} {v : V} {a : String} (ok : Ok K W) (r : Rep K W d v) (h : tyName d W.S = some a) : TyX K W.H v (.type a) ∧ a ∈ ["NoneType", "bool", "int", "str", "tuple", "list", "set"] := by
  have tup : ∀ {p : Addr} {vs : List V}, SqT K W.H p vs → TyX K W.H (.ref p) (.type "tuple") := fun {p vs} h => by
    rcases h with (h | ⟨o, h⟩) | ⟨o, its, n, h1, h2, _⟩
    · exact .base (.tup h)
    · exact .fTuple h
    · exact .kTuple h1 h2
  cases r with
  | non => cases h; exact ⟨.base .non, by simp⟩
  | bl b => cases h; exact ⟨.base (.bl b), by simp⟩
  | int i => cases h; exact ⟨.base (.int i), by simp⟩
  | str x => cases h; exact ⟨.base (.str x), by simp⟩
  | tup h1 q => cases h; exact ⟨tup h1, by simp⟩
  | tpn h1 q => cases h; obtain ⟨o, h1, _⟩ := h1; exact ⟨.fTuple h1, by simp⟩
  | lst h1 q => cases h; exact ⟨.base (.lst h1.1), by simp⟩
  | scr h1 q =>
    cases h
    rcases h1 with ⟨o, h1⟩ | ⟨o, its, n, h1, h2, _⟩
    · exact ⟨.base (.frz h1), by simp⟩
    · exact ⟨.kList h1 h2, by simp⟩
  | iset h1 n => cases h; obtain ⟨M, h1⟩ := h1; exact ⟨.set h1, by simp⟩
  | ins h1 n hl q => cases h
  | err h1 hd hl q => cases h
  | @loc n hn =>
    unfold tyName at h
    dsimp only at h
    split at h
    · rename_i xs hx
      cases h
      obtain ⟨vs, h1, _⟩ := ok.obj n _ hx
      exact ⟨.base (.lst h1), by simp⟩
    · cases h
def mIsi (p : D → Store → Option D) (f : L → Store → R D) : L → Store → R D := fun l S => (f l S).bind fun d S1 => ofO (p d S1) S1
/-- what must hold of a class of the text, for isinstance(x, C) -/
structure IsiC (X : Cx) (C : Str) : Prop where
  no : ∀ a ∈ ["NoneType", "bool", "int", "str", "tuple", "list", "set"], PySem.W.kitOne X.K (.type a) (.ref (He.ga X.K C)) = some false
  cl : Cls X.K (He.ga X.K C)
  ha : PySem.W.findIn X.K (.ref (He.ga X.K C)) "__class__" = some (some (.builtin "object.__class__"))
  hn : PySem.W.specialIn X.K (.builtin "object.__class__") "__get__" = some (some (.builtin "getset_descriptor.__get__"))
  htk : PySem.W.takesIn X.K (.builtin "object.__class__") = some true
  mro : PySem.W.mroIn X.K (He.ga X.K C) (Value.type "object") = some true
def isiC (C : Str) (d : D) (S : Store) : Option D := match d with
  | .ins C' _ _ => if C' = C then some (.bl true) else none
  | .loc n => match S[n]? with
    | some (.ins C' _ _) => if C' = C then some (.bl true) else none
    | some (.lst _) => some (.bl false)
    | none => none
  | d => (tyName d S).map fun _ => .bl false
section
variable {X : Cx} {Wx : WX} {e : Expr} {f : L → Store → R D} {x : Str} {p p2 pos : Pos}
theorem fe_isiT {T : String} (hT : T ∈ ["bool", "int", "str", "tuple", "list"]) (hm : X.mg "isinstance" = none) (hg : Gl X "isinstance") (hmT : X.mg x = none) (hgT : Gl X x) (he : FE X Wx e f) (hv : bootBuiltins x = some (.type T)) (hn : x ≠ "__name__" := by decide) (hdb : (x == ("__debug__" : Str)) = false := by decide)
    (hs : starEach [e, .Name x p2] X.env = [(false, eval e X.env), (false, eval (.Name x p2) X.env)] := by rfl) (hs2 : starEach [.Name x p2] X.env = [(false, eval (.Name x p2) X.env)] := by rfl) (hpl : (backTo pos (starEach [.Name x p2] X.env)).any (·.1) = false := by rfl) :
    FE X Wx (.Call (.Name "isinstance" p) [e, .Name x p2] [] pos) (mIsi (isiT T) f) :=
  (pe_callB call_isi hg hm (by decide +kernel) (pa_cons he (pa_cons (pe_bltn (v := V.ty T) hgT hmT hv rfl hn hdb) pa_nil hs2) hs) (he := hs) (hpl := hpl)).imp fun σ H Q ⟨ρ, S, B, l, ok, sl, h⟩ => ⟨ρ, S, B, l, ok, sl, h.bind.mono fun W1 d e1 o1 ⟨_, _, h1⟩ v rv => by
    obtain ⟨r, er, q⟩ := h1.ofO
    obtain ⟨a, h2, rfl⟩ := Option.map_eq_some_iff.mp er
    obtain ⟨ty, ha⟩ := tyName_ok o1 rv h2
    exact ⟨v, V.ty T, .type a, .type T, subT a T, rfl, .ty T, ty, kit_subT ha hT, q W1.H (Same.refl _) o1 _ (.bl _)⟩⟩
theorem ins_ty {C : Str} (c : IsiC X C) {W : Wd} {d : D} {v : V} {b : D} (ok : Ok X.K W) (r : Rep X.K W d v) (h : isiC C d W.S = some b) : ∃ t k, b = .bl k ∧ TyX X.K W.H v t ∧ PySem.W.kitOne X.K t (.ref (He.ga X.K C)) = some k := by
  have base : ∀ {a : String}, tyName d W.S = some a → b = .bl false → ∃ t k, b = .bl k ∧ TyX X.K W.H v t ∧ PySem.W.kitOne X.K t (.ref (He.ga X.K C)) = some k := fun {a} ha hb => by
    obtain ⟨ty, hm⟩ := tyName_ok ok r ha
    exact ⟨_, false, hb, ty, c.no a hm⟩
  have self : PySem.W.kitOne X.K (.ref (He.ga X.K C)) (.ref (He.ga X.K C)) = some true := by
    unfold PySem.W.kitOne
    rw [if_pos (beq_self_eq_true _)]
  unfold isiC at h
  split at h
  · rename_i C' ks vs
    split at h
    · rename_i hC
      subst hC
      cases h
      cases r with
      | ins h1 n hl q => exact ⟨_, true, rfl, .base (.ins h1 c.cl c.ha c.hn c.htk c.mro), self⟩
    · cases h
  · rename_i n
    split at h
    · rename_i C' ks vs hx
      split at h
      · rename_i hC
        subst hC
        cases h
        obtain ⟨dx, vs, h1, _⟩ := ok.obj n _ hx
        cases r with
        | loc hn => exact ⟨_, true, rfl, .base (.ins h1 c.cl c.ha c.hn c.htk c.mro), self⟩
      · cases h
    · rename_i xs hx
      cases h
      exact base (a := "list") (by unfold tyName; dsimp only; rw [hx]) rfl
    · cases h
  · obtain ⟨a, h1, rfl⟩ := Option.map_eq_some_iff.mp h
    exact base h1 rfl
theorem fe_isiC {C : Str} (c : IsiC X C) (hm : X.mg "isinstance" = none) (hg : Gl X "isinstance") (hmT : X.mg x = some (.ref (He.ga X.K C))) (hgT : Gl X x) (he : FE X Wx e f) (hdb : (x == ("__debug__" : Str)) = false := by decide)
    (hs : starEach [e, .Name x p2] X.env = [(false, eval e X.env), (false, eval (.Name x p2) X.env)] := by rfl) (hs2 : starEach [.Name x p2] X.env = [(false, eval (.Name x p2) X.env)] := by rfl) (hpl : (backTo pos (starEach [.Name x p2] X.env)).any (·.1) = false := by rfl) :
    FE X Wx (.Call (.Name "isinstance" p) [e, .Name x p2] [] pos) (mIsi (isiC C) f) :=
  (pe_callB call_isi hg hm (by decide +kernel) (pa_cons he (pa_cons (pe_glob (v := V.ref (He.ga X.K C)) hgT hmT rfl hdb) pa_nil hs2) hs) (he := hs) (hpl := hpl)).imp fun σ H Q ⟨ρ, S, B, l, ok, sl, h⟩ => ⟨ρ, S, B, l, ok, sl, h.bind.mono fun W1 d e1 o1 ⟨_, _, h1⟩ v rv => by
    obtain ⟨r, er, q⟩ := h1.ofO
    obtain ⟨t, k, rfl, ty, hk⟩ := ins_ty c o1 rv er
    exact ⟨v, V.ref (He.ga X.K C), t, .ref (He.ga X.K C), k, rfl, .own _, ty, hk, q W1.H (Same.refl _) o1 _ (.bl _)⟩⟩
end

/-! ### is, of truth values; divmod -/
def pIsB (d e : D) (_ : Store) : Option D := match d, e with
  | .bl a, .bl b => some (.bl (decide (a = b)))
  | _, _ => none
def pNotB (d e : D) (_ : Store) : Option D := match d, e with
  | .bl a, .bl b => some (.bl (!decide (a = b)))
  | _, _ => none
def pDivmod (ds : List D) (_ : Store) : Option D := match ds with
  | [.int i, .int j] => if CDiv i j then some (.tup [.int (i / j), .int (i % j)]) else none
  | _ => none
section
variable {X : Cx}
theorem op_pIsB : OpD X (compareOp .Is) pIsB := by
  intro pins s σ H x y v u Q I rx ry ⟨ρ, S, B, d, e, r, ok, rd, re, hp, k⟩
  unfold pIsB at hp
  split at hp
  · cases hp; cases rd; cases re
    exact op_isBl pins s σ H _ _ v u Q I rx ry ⟨_, _, rfl, rfl, k _ _ (Same.refl H) (.bl _)⟩
  · cases hp
theorem op_pNotB : OpD X (compareOp .IsNot) pNotB := by
  intro pins s σ H x y v u Q I rx ry ⟨ρ, S, B, d, e, r, ok, rd, re, hp, k⟩
  unfold pNotB at hp
  split at hp
  · cases hp; cases rd; cases re
    exact op_notBl pins s σ H _ _ v u Q I rx ry ⟨_, _, rfl, rfl, k _ _ (Same.refl H) (.bl _)⟩
  · cases hp
theorem call_pDivmod : CallD X (.builtin "divmod") pDivmod := by
  intro pins s σ H xs us Q I r ⟨ρ, S, B, ds, e, ok, rd, hp, k⟩
  unfold pDivmod at hp
  split at hp
  · split at hp
    · rename_i hc
      cases hp
      obtain ⟨v, u, rfl, h, h'⟩ := rd.two
      cases h; cases h'
      refine call_divmod pins s σ H _ us Q I r ⟨_, _, rfl, hc, fun p hp => ?_⟩
      obtain ⟨sm, z⟩ := new_tup (B := B) ok hp (.cons (.int _) (.cons (.int _) .nil))
      exact k _ _ sm z
    · cases hp
  · cases hp
end

/-! ### sets of ints -/
/-- the distinct ones, in the order of their first place -/
def dd (ns : List Int) : List Int := ns.foldl (fun acc x => if acc.any (· == x) then acc else acc ++ [x]) []
def pSet (ds : List D) (S : Store) : Option D := match ds with
  | [d] => ((seqL d S).bind intsD).bind fun ns => if ns.length + 1 < 4096 then some (.iset (dd ns).length) else none
  | _ => none
def pLenS (ds : List D) (S : Store) : Option D := match ds with
  | [.iset n] => if n < 4096 then some (.int n) else none
  | ds => pLen ds S
theorem firstMet_dd (ns : List Int) : PyProof.Rows.firstMet (fun i => ns.getD i 0) ns.length = dd ns := by
  unfold PyProof.Rows.firstMet dd
  have e : (List.range ns.length).map (fun i => ns.getD i 0) = ns := by
    refine List.ext_getElem? fun j => ?_
    rw [List.getElem?_map]
    by_cases hj : j < ns.length
    · rw [List.getElem?_range hj, List.getElem?_eq_getElem hj]
      simp [List.getD_eq_getElem?_getD, hj]
    · rw [List.getElem?_eq_none (by simpa using hj), List.getElem?_eq_none (by omega)]
      rfl
  rw [e]
  rfl
section
variable {X : Cx}
theorem call_pSet (hc : X.calm = true) : CallD X (.type "set") pSet := by
  intro pins s σ H xs us Q I r ⟨ρ, S, B, ds, e, ok, rd, hp, k⟩
  unfold pSet at hp
  split at hp
  · obtain ⟨ns, h1, hp⟩ := Option.bind_eq_some_iff.mp hp
    obtain ⟨ys, h2, h4⟩ := Option.bind_eq_some_iff.mp h1
    split at hp
    · rename_i hz
      cases hp
      obtain ⟨v, rfl, h⟩ := rd.one
      obtain ⟨a, vs, rfl, h3, q⟩ := seqL_ok ok h h2
      rw [ints_ok q h4] at h3
      obtain ⟨u, rfl, rx⟩ := vals1 r
      cases rx
      obtain ⟨its, rv, pl, _⟩ := I.list h3
      have hl : its.toArray.size = ns.length := by rw [List.size_toArray, ← rv.length, List.length_map]
      refine call_set_list (I.ok.hd hc) pl.isList (ns := ns) (by simpa using rv.ints) (by rw [hl]; unfold scanBound; omega) fun h' tk hS hk => ?_
      rw [hl, firstMet_dd] at hS
      have hn : H s.heap.objs.size = none := I.hok.fresh (Nat.le_refl _)
      have hS' : ObjOk X.prog X.w (upd H s.heap.objs.size (.set (fun k' => (dd ns).any (· == k')) (dd ns).length)) h' s.heap.objs.size (.set (fun k' => (dd ns).any (· == k')) (dd ns).length) := hS
      refine ⟨.ref s.heap.objs.size, upd H s.heap.objs.size (.set (fun k' => (dd ns).any (· == k')) (dd ns).length), I.laid (t' := tk) (fun b o e => hk b o (Heap.lt_size e) e) (Nat.le_refl _) hS', rfl, k _ _ (Same.upd hn) (.iset ⟨_, upd_same⟩ fun l => ok.nlive0 hn l)⟩
    · cases hp
  · cases hp
theorem call_pLenS : CallD X (.builtin "len") pLenS := by
  intro pins s σ H xs us Q I r ⟨ρ, S, B, ds, e, ok, rd, hp, k⟩
  unfold pLenS at hp
  split at hp
  · split at hp
    · rename_i n hz
      cases hp
      obtain ⟨v, rfl, h⟩ := rd.one
      cases h with
      | @iset _ a h nl =>
        obtain ⟨M, h⟩ := h
        obtain ⟨u, rfl, rx⟩ := vals1 r
        cases rx
        obtain ⟨o, es, ep, t, ho, hex, hd, _, _, _, hf, hn⟩ := (show ObjOk X.prog X.w H s.heap a (.set M n) from I.hok a _ h)
        refine call_len_set ho hex hd hf (by rw [hn]; omega) ⟨.int n, H, I.tok _, ⟨_, by rw [hn]⟩, k _ _ (Same.refl H) (.int _)⟩
    · cases hp
  · exact call_pLen pins s σ H xs us Q I r ⟨ρ, S, B, ds, e, ok, rd, hp, k⟩
end

/-! ### sorted -/
def encD (d : D) : PyData := (toPy d).getD .none
noncomputable def sortD (rev : Bool) (xs : List D) : List D := xs.mergeSort (PySem.W.dataLe rev encD)
structure CanSort (xs : List D) : Prop where
  py : ∀ d ∈ xs, ∃ p, toPy d = some p
  al : PySem.W.AllAlike (xs.map encD)
  so : PySem.W.Sortable (xs.map encD)
  le : xs.length ≤ sizeLine
  dp : ∀ d ∈ xs, (encD d).depth ≤ 60
open Classical in
noncomputable def pSorted (rev : Bool) (ds : List D) (S : Store) : Option D := match ds with
  | [d] => (seqL d S).bind fun xs => if CanSort xs then some (.lst (sortD rev xs)) else none
  | _ => none
section
variable {X : Cx}
theorem reps_each {K : Frag} {W : Wd} : ∀ {ds : List D} {vs : List V} {us : List Value}, Reps K W ds vs → Vals vs us → PySem.W.EachIs (fun u d => ∃ v, Rep K W d v ∧ RelV v u) us ds
  | _, _, _, .nil, .nil => .nil
  | _, _, _, .cons h r, .cons q t => .cons ⟨_, h, q⟩ (reps_each r t)
theorem each_reps {K : Frag} {W : Wd} : ∀ {ds : List D} {us : List Value}, PySem.W.EachIs (fun u d => ∃ v, Rep K W d v ∧ RelV v u) us ds → ∃ vs, Reps K W ds vs ∧ Vals vs us
  | _, _, .nil => ⟨[], .nil, .nil⟩
  | _, _, .cons ⟨v, h, q⟩ t => by
    obtain ⟨vs, a, b⟩ := each_reps t
    exact ⟨v :: vs, .cons h a, .cons q b⟩
theorem reps_reads {pins : List (Addr × Obj)} {σ : L2.St} {s : Shared} {W : Wd} (I : Inv X pins σ W.H s) (ok : Ok X.K W) : ∀ {ds : List D} {vs : List V} {us : List Value}, (∀ d ∈ ds, ∃ p, toPy d = some p) → Reps X.K W ds vs → Vals vs us → PySem.W.EachIs (fun u d => ∃ as, Reads s.heap u (encD d) as) us ds
  | _, _, _, _, .nil, .nil => .nil
  | d :: ds, _, _, hp, .cons h r, .cons q t => by
    obtain ⟨p, hd⟩ := hp d List.mem_cons_self
    have e : encD d = p := by unfold encD; rw [hd]; rfl
    refine .cons ?_ (reps_reads I ok (fun d hd => hp d (List.mem_cons_of_mem _ hd)) r t)
    rw [e]
    exact Dp.reads I p _ _ (h.dp ok hd) q
theorem sorted_end {pins : List (Addr × Obj)} {σ : L2.St} {s : Shared} {H : Hp} {ρ : Nat → Addr} {S : Store} {B : Addr → Prop} {Q : VK} {ys : List D} {h' : Heap} {tk c : Nat} {out : List Value} (I : Inv X pins σ H s) (ok : Ok X.K ⟨ρ, S, H, B⟩) (hk : ∀ b o, s.heap.get? b = some o → h'.get? b = some o)
    (hL : ys.length ≤ sizeLine) (ho : h'.get? (s.heap.objs.size + 1) = some (PyProof.Rows.seqObj "list" out.toArray c)) (e : PySem.W.EachIs (fun u d => ∃ v, Rep X.K ⟨ρ, S, H, B⟩ d v ∧ RelV v u) out ys)
    (k : ∀ H' v, Same H H' → Rep X.K ⟨ρ, S, H', B⟩ (.lst ys) v → Q v H') : EP X pins σ Q (.ref (s.heap.objs.size + 1)) { s with heap := h', toks := tk } := by
  obtain ⟨vs, r, t⟩ := each_reps e
  have hn : H (s.heap.objs.size + 1) = none := I.hok.fresh (Nat.le_succ _)
  obtain ⟨sm, z⟩ := new_lst (p := s.heap.objs.size + 1) ok hn r
  exact ⟨.ref _, upd H (s.heap.objs.size + 1) (.lst vs), I.laid (t' := tk) hk (Nat.le_succ _) ⟨by rw [← r.length]; exact hL, out, c, t, ho⟩, rfl, k _ _ sm z⟩
theorem call_pSorted (hu : X.A.units + 64 < cLine) : CallD X (.builtin "sorted") (pSorted false) := by
  intro pins s σ H xs us Q I r ⟨ρ, S, B, ds, e, ok, rd, hp, k⟩
  unfold pSorted at hp
  split at hp
  · obtain ⟨ys, h1, h2⟩ := Option.bind_eq_some_iff.mp hp
    split at h2
    · rename_i cs
      cases h2
      obtain ⟨v, rfl, h⟩ := rd.one
      obtain ⟨a, vs, rfl, h3, q⟩ := seqL_ok ok h h1
      obtain ⟨u, rfl, rx⟩ := vals1 r
      cases rx
      obtain ⟨its, rv, pl, _⟩ := I.list h3
      refine PySem.W.sorted_data pl.isList (reps_each q rv) (reps_reads I ok cs.py q rv) cs.al cs.so cs.le (fun d hd => ?_) fun out hl ho => ?_
      · have := cs.dp d hd
        omega
      · obtain ⟨c, hc⟩ := PyProof.Rows.sortedAll_at s.heap its out.toArray
        exact sorted_end I ok (fun _ _ => PyProof.Rows.sortedAll_old) (by rw [List.length_mergeSort]; exact cs.le) hc ho k
    · cases h2
  · cases hp
/-- sorted(xs, reverse=b) -/
theorem callK_pSorted {b : Bool} (hu : X.A.units + 64 < cLine) : CallRK X (.builtin "sorted") [Str.ofString "reverse"] (fun xs zs H Q => zs = [.bl b] ∧ rPl X.K (pSorted b) xs H Q) := by
  intro pins s σ H xs zs us ws Q I r rz ⟨hz, ρ, S, B, ds, e, ok, rd, hp, k⟩
  subst hz
  obtain ⟨w1, rfl, e1⟩ := vals1 rz
  obtain rfl : w1 = Value.bool b := e1
  unfold pSorted at hp
  split at hp
  · obtain ⟨ys, h1, h2⟩ := Option.bind_eq_some_iff.mp hp
    split at h2
    · rename_i cs
      cases h2
      obtain ⟨v, rfl, h⟩ := rd.one
      obtain ⟨a, vs, rfl, h3, q⟩ := seqL_ok ok h h1
      obtain ⟨u, rfl, rx⟩ := vals1 r
      cases rx
      obtain ⟨its, rv, pl, _⟩ := I.list h3
      refine PySem.W.sorted_rev_data pl.isList (reps_each q rv) (reps_reads I ok cs.py q rv) cs.al cs.so cs.le (fun d hd => ?_) fun out hl ho => ?_
      · have := cs.dp d hd
        omega
      · obtain ⟨c, hc⟩ := PyProof.Rows.sortedAll_at s.heap its out.toArray
        exact sorted_end I ok (fun _ _ => PyProof.Rows.sortedAll_old) (by rw [List.length_mergeSort]; exact cs.le) hc ho k
    · cases h2
  · cases hp
variable {Wx : WX} {x : Str} {p pos kpos : Pos} {e : Expr} {fa : L → Store → R (List D)}
theorem fe_sortedRev {b : Bool} {i j : Pos} {k} (hu : X.A.units + 64 < cLine) (hm : X.mg "sorted" = none) (hg : Gl X "sorted") (ha : FA X Wx [e] fa)
    (he : backTo pos (starEach [e] X.env) = (false, eval e X.env) :: backTo pos (starEach [] X.env) := by rfl) (hpl : (backTo pos (starEach [e] X.env)).any (·.1) = false := by rfl)
    (hall : (backToKw pos (keywordEach [⟨some "reverse", .Constant (.bool b) k i, j⟩] X.env)).all (·.1.isSome) = true := by rfl) (hnone : (backToKw pos (keywordEach [⟨some "reverse", .Constant (.bool b) k i, j⟩] X.env)).any (·.1.isNone) = false := by rfl) (hks : (backToKw pos (keywordEach [⟨some "reverse", .Constant (.bool b) k i, j⟩] X.env)).filterMap (·.1) = [Str.ofString "reverse"] := by rfl) :
    FE X Wx (.Call (.Name "sorted" p) [e] [⟨some "reverse", .Constant (.bool b) k i, j⟩] pos) (mCall (pSorted b) fa) :=
  (pe_callBK (callK_pSorted (b := b) hu) hg hm (by decide +kernel) ha (pk_cons pe_bl pk_nil) (he := he) (hpl := hpl) (hall := hall) (hnone := hnone) (hks := hks)).imp fun σ H Q h => by
    obtain ⟨ρ, S, B, l, ok, sl, h⟩ := h
    refine ⟨ρ, S, B, l, ok, sl, h.bind.mono fun W1 ds e1 o1 ⟨_, _, h1⟩ vs rvs => ?_⟩
    obtain ⟨r, er, q⟩ := h1.ofO
    exact ⟨rfl, W1.ρ, W1.S, W1.B, ds, r, o1, rvs, er, fun H' v' s rv' => q H' s o1 v' rv'⟩
end

/-! ### star -/
def aStar (f : L → Store → R D) (g : L → Store → R (List D)) : L → Store → R (List D) := fun l S => (f l S).bind fun d S1 => (ofO (seqD d S1) S1).bind fun xs S2 => (g l S2).bind fun ds S3 => .ok (xs ++ ds) S3
section
variable {X : Cx} {Wx : WX} {e : Expr} {es : List Expr} {f : L → Store → R D} {g : L → Store → R (List D)} {p : Pos}
theorem fa_star (he : FE X Wx e f) (hr : FA X Wx es g) (hs : starEach (.Starred e p :: es) X.env = (true, eval e X.env) :: starEach es X.env := by rfl) : FA X Wx (.Starred e p :: es) (aStar f g) :=
  (StX.pa_star he hr hs).imp fun σ H Q ⟨ρ, S, B, l, ok, sl, h⟩ => ⟨ρ, S, B, l, ok, sl, h.bind.mono fun W1 d e1 o1 ⟨_, _, h1⟩ v rv => by
    cases q : seqD d W1.S with
    | none => rw [q] at h1; exact h1.elim
    | some xs =>
      rw [q] at h1
      have h1 : Post X.K Wx σ W1 ((g l W1.S).bind fun ds S3 => .ok (xs ++ ds) S3) _ := h1
      obtain ⟨a, vs, rfl, h3, rs⟩ := seqD_ok o1 rv q
      exact ⟨a, vs, rfl, h3.symm, W1.ρ, W1.S, W1.B, l, o1, sl.ext e1 ok, h1.bind.mono fun W2 ds e2 o2 ⟨_, _, h2⟩ ws rws => Post.ok_of o2 h2 _ ((rs.ext e2 o1).append rws)⟩⟩
end

/-! ### f-strings -/
def eFmt (f : L → Store → R D) : L → Store → R D := fun l S => (f l S).bind fun d S1 => match d with
  | .str y => if y.length ≤ sizeLine then .ok (.str y) S1 else .bad
  | .int i => if i.natAbs.log2 < 1920 then .ok (.str (toString i)) S1 else .bad
  | _ => .bad
def jGo : List (L → Store → R D) → Str → L → Store → R D
  | [], acc, _, S => .ok (.str acc) S
  | f :: fs, acc, l, S => (f l S).bind fun d S1 => match d with
    | .str y => if (acc ++ y).length ≤ sizeLine then jGo fs (acc ++ y) l S1 else .bad
    | _ => .bad
def eJoin (fs : List (L → Store → R D)) : L → Store → R D := jGo fs Str.empty
inductive FJ (X : Cx) (Wx : WX) : List Expr → List (L → Store → R D) → Prop
  | nil : FJ X Wx [] []
  | cons {e : Expr} {es : List Expr} {f : L → Store → R D} {fs : List (L → Store → R D)} : FE X Wx e f → FJ X Wx es fs → FJ X Wx (e :: es) (f :: fs)
section
variable {X : Cx} {Wx : WX} {e v1 v2 : Expr} {es rest : List Expr} {f : L → Store → R D} {fs : List (L → Store → R D)} {pos : Pos}
theorem fe_fmt (he : FE X Wx e f) : FE X Wx (.FormattedValue e (-1) none pos) (eFmt f) :=
  (pe_fmt he).imp fun σ H Q ⟨ρ, S, B, l, ok, sl, h⟩ => ⟨ρ, S, B, l, ok, sl, h.bind.mono fun W1 d e1 o1 ⟨_, _, h1⟩ v rv => by
    split at h1
    · obtain ⟨hc, h1⟩ := Post.iff_ok h1
      cases rv
      exact .inl ⟨_, rfl, hc, Post.ok_of o1 h1 _ (.str _)⟩
    · obtain ⟨hc, h1⟩ := Post.iff_ok h1
      cases rv
      exact .inr ⟨_, rfl, hc, Post.ok_of o1 h1 _ (.str _)⟩
    · exact h1.elim⟩
theorem FJ.pj : ∀ {es : List Expr} {fs : List (L → Store → R D)}, FJ X Wx es fs → PJ X es (fs.map (tE X.K Wx))
  | _, _, .nil => .nil
  | _, _, .cons h r => .cons h (FJ.pj r)
theorem jGo_ok {K : Frag} {σ : L2.St} {Q : VK} {l : L} : ∀ {fs : List (L → Store → R D)} {acc : Str} {ρ : Nat → Addr} {S : Store} {H : Hp} {B : Addr → Prop}, Ok K ⟨ρ, S, H, B⟩ → Sl K ⟨ρ, S, H, B⟩ σ l → Post K Wx σ ⟨ρ, S, H, B⟩ (jGo fs acc l S) (fun W d => ∀ v, Rep K W d v → Q v W.H) →
    tJs (fs.map (tE K Wx)) acc σ H fun out H1 => Q (.str out) H1
  | [], acc, ρ, S, H, B, ok, sl, h => Post.ok_of (W := ⟨ρ, S, H, B⟩) ok h _ (.str _)
  | f :: fs, acc, ρ, S, H, B, ok, sl, h => ⟨ρ, S, B, l, ok, sl, h.bind.mono fun W1 d e1 o1 ⟨_, _, h1⟩ v rv => by
    split at h1
    · obtain ⟨hc, h1⟩ := Post.iff_ok h1
      cases rv
      exact ⟨_, rfl, hc, jGo_ok (ρ := W1.ρ) (S := W1.S) (B := W1.B) o1 (sl.ext e1 ok) h1⟩
    · exact h1.elim⟩
theorem fe_joined (h : FJ X Wx (v1 :: v2 :: rest) fs) : FE X Wx (.JoinedStr (v1 :: v2 :: rest) pos) (eJoin fs) :=
  (pe_joined h.pj).imp fun σ H Q ⟨ρ, S, B, l, ok, sl, h⟩ => jGo_ok ok sl h
theorem fe_joined1 (he : FE X Wx e f) : FE X Wx (.JoinedStr [e] pos) f := pe_joined1 he
end

/-! ### repr -/
def pRepr (ds : List D) (S : Store) : Option D := match ds with
  | [d] => (toPyS d S).bind fun p => if p.showable = true ∧ p.shown.length ≤ sizeLine ∧ p.depth ≤ 60 ∧ p.hasDict = false then some (.str p.shown) else none
  | _ => none
theorem call_pRepr {X : Cx} (hg : X.A.guards = some []) (hu : X.A.units + 64 < cLine) : CallD X (.builtin "repr") pRepr := by
  intro pins s σ H xs us Q I r ⟨ρ, S, B, ds, e, ok, rd, hp, k⟩
  unfold pRepr at hp
  split at hp
  · obtain ⟨p, h1, h2⟩ := Option.bind_eq_some_iff.mp hp
    split at h2
    · rename_i hs
      obtain ⟨hs1, hs2, hs3, hs4⟩ := hs
      cases h2
      obtain ⟨v, rfl, h⟩ := rd.one
      obtain ⟨u, rfl, rx⟩ := vals1 r
      have dp := h.dpS (W := ⟨ρ, S, H, B⟩) ok h1
      have fin : ∀ t : PySem.Tok, ∀ h' tk, (∀ b o, s.heap.get? b = some o → h'.get? b = some o) → EP X pins σ Q (.str p.shown t) { s with heap := h', toks := tk } := fun t h' tk hk =>
        ⟨.str p.shown, H, I.kept (t' := tk) hk, ⟨t, rfl⟩, k _ _ (Same.refl H) (.str _)⟩
      have rf : ∀ a, v = .ref a → wpAny (model X.prog X.w) X.A (call (.builtin "repr") [u]) (EP X pins σ Q) X.xe s := fun a ea => by
        subst ea
        obtain ⟨as, rr⟩ := Dp.reads I p _ _ dp rx
        cases rx
        exact PySem.repr_of_reads' rr hs1 (fun z => by rw [hs4] at z; cases z) hg (by omega) (fun _ _ e => e) (fun h' u tk hk => fin _ h' tk hk) hs2
      cases dp with
      | non =>
        cases rx
        exact PySem.P.repr_of_none (fin _ s.heap (s.toks + 1) fun _ _ e => e)
      | bl b =>
        cases rx
        exact PySem.P.repr_of_bool (fin _ s.heap (s.toks + 1) fun _ _ e => e)
      | int i =>
        obtain ⟨t, rfl⟩ := rx
        exact PySem.P.repr_of_int (by simpa [PyData.showable] using hs1) (fin _ s.heap (s.toks + 1) fun _ _ e => e)
      | str x =>
        obtain ⟨t, rfl⟩ := rx
        exact PySem.P.repr_of_str (fin _ s.heap (s.toks + 1) fun _ _ e => e) (hsz := hs2)
      | lst _ _ => exact rf _ rfl
      | tup _ _ => exact rf _ rfl
    · cases h2
  · cases hp
end HL
end
section
set_option Elab.async false
set_option linter.all false
set_option maxRecDepth 100000
set_option maxHeartbeats 1000000
namespace HL
open PySem PySem.Spec L2

/-! ### a list or a tuple -/
def Sq2 (K : Frag) (t : Bool) (H : Hp) (a : Addr) (vs : List V) : Prop := match t with
  | true => SqT K H a vs
  | false => SqL K H a vs
def itr (t : Bool) (h : Heap) (it a : Addr) (i : Nat) : Prop := match t with
  | true => h.IsTupleIter it a i
  | false => h.IsListIter it a i
def isq (t : Bool) (h : Heap) (a : Addr) (its : Array Value) : Prop := match t with
  | true => h.IsTuple a its
  | false => h.IsList a its
def itO (t : Bool) (a : Addr) : Obj := { cls := .type (if t then "tuple_iterator" else "list_iterator"), data := .fields #[.ref a, .int 0 0] }
theorem itr_start {t : Bool} {h : Heap} {it a : Addr} (e : h.get? it = some (itO t a)) : itr t h it a 0 := by
  cases t with
  | true => exact ⟨_, e, rfl, rfl⟩
  | false => exact ⟨_, e, rfl, rfl⟩
theorem itr_obj {t : Bool} {h : Heap} {it a : Addr} {i : Nat} (x : itr t h it a i) : ∃ o, h.get? it = some o ∧ ∀ v, o.data ≠ .cell v := by
  cases t with
  | true => obtain ⟨o, e, _, d⟩ := x; exact ⟨o, e, fun v q => by rw [d] at q; cases q⟩
  | false => obtain ⟨o, e, _, d⟩ := x; exact ⟨o, e, fun v q => by rw [d] at q; cases q⟩
theorem itr_at {t : Bool} {h h' : Heap} {it a : Addr} {i : Nat} (x : itr t h it a i) (k : ∀ o, h.get? it = some o → h'.get? it = some o) : itr t h' it a i := by
  cases t with
  | true => exact Heap.IsTupleIter.at x k
  | false => exact Heap.IsListIter.at x k
theorem itr_lt {t : Bool} {h : Heap} {it a : Addr} {i : Nat} (x : itr t h it a i) : it < h.objs.size := by
  obtain ⟨o, e, _⟩ := itr_obj x
  exact Heap.lt_size e
theorem begins2 (t : Bool) (a : Addr) (its : Array Value) : Begins (.ref a) (itO t a) fun h => isq t h a its := by
  cases t with
  | true => exact begins_tuple a its
  | false => exact begins_list a its
theorem draws2 {prog : Program} {w : World} {A : Around} (hh : A.handled = none) (t : Bool) (it a : Addr) (hne : a ≠ it) (its : Array Value) :
    Draws prog w A it [it, a] its.size (fun i v => its[i]? = some v) (fun i h => itr t h it a i ∧ isq t h a its) := by
  cases t with
  | true => exact Draws.tuple hh it a hne its
  | false => exact Draws.list hh it a hne its
section
variable {X : Cx} {pins : List (Addr × Obj)} {σ : L2.St} {H : Hp} {s : Shared} {t : Bool} {a : Addr} {vs ws : List V}
theorem sq2_at (I : Inv X pins σ H s) (h : Sq2 X.K t H a vs) : ∃ its : List Value, Vals vs its ∧ isq t s.heap a its.toArray ∧ vs.length ≤ sizeLine ∧ a < s.heap.objs.size := by
  cases t with
  | true =>
    obtain ⟨its, r, p, z⟩ := I.tuple h
    obtain ⟨o, ho, hc, n, hd⟩ := p
    exact ⟨its, r, ⟨o, ho, hc, n, hd⟩, z, Heap.lt_size ho⟩
  | false =>
    obtain ⟨its, r, p, z⟩ := I.list h
    exact ⟨its, r, p.isList, z, p.lt⟩
theorem sq2_inj (I : Inv X pins σ H s) (h : Sq2 X.K t H a vs) (h' : Sq2 X.K t H a ws) : vs = ws := by
  cases t with
  | true => exact I.tuple_inj h h'
  | false => exact I.list_inj h h'
end

/-! ### zip of two -/
def Itz2 (K : Frag) (t1 t2 : Bool) (a b : Addr) : It :=
  ⟨fun i H => ∃ (xs ys : List V) (x y : V), Sq2 K t1 H a xs ∧ Sq2 K t2 H b ys ∧ xs[i]? = some x ∧ ys[i]? = some y,
    fun i H v H' => ∃ T x y, v = .ref T ∧ H T = none ∧ H' = upd H T (.tup [x, y]) ∧ (∀ xs, Sq2 K t1 H a xs → xs[i]? = some x) ∧ ∀ ys, Sq2 K t2 H b ys → ys[i]? = some y,
    fun i H => ∃ xs ys : List V, Sq2 K t1 H a xs ∧ Sq2 K t2 H b ys ∧ min xs.length ys.length = i⟩
/-- the state of a zip over two -/
def tnz2 (t1 t2 : Bool) (a b z TI TO i1 i2 : Addr) (i : Nat) (h : Heap) : Prop := IsZip h z TI TO .none ∧ IsTupOf2 h TI (.ref i1) (.ref i2) ∧ (∃ x y, IsTupOf2 h TO x y) ∧ itr t1 h i1 a i ∧ itr t2 h i2 b i
theorem vals_gets {vs : List V} {its : List Value} (r : Vals vs its) {i : Nat} {x : V} (h : vs[i]? = some x) : ∃ u, its.toArray[i]? = some u ∧ RelV x u := by
  obtain ⟨u, hu, ru⟩ := r.get h
  exact ⟨u, by simpa using hu, ru⟩
theorem min_lt_get {α β : Type} {xs : List α} {ys : List β} {i : Nat} {x : α} {y : β} (hx : xs[i]? = some x) (hy : ys[i]? = some y) : i < min xs.length ys.length := by
  obtain ⟨h1, _⟩ := List.getElem?_eq_some_iff.mp hx
  obtain ⟨h2, _⟩ := List.getElem?_eq_some_iff.mp hy
  omega
theorem turn_z2 {P : Program} {w : World} {K : Frag} {elts : List Expr} {kk : Nat} {tpos : Pos} {t1 t2 : Bool} {a b z TI TO i1 i2 : Addr} (D : ZipSep2 z TI TO i1 i2 [i1, a] [i2, b]) (na : a ≠ i1) (nb : b ≠ i2) :
    Turn P w K (.Tuple elts kk tpos) (Itz2 K t1 t2 a b) [z, TI, TO, i1, i2] z (tnz2 t1 t2 a b z TI TO i1 i2) where
  mem := by simp
  obj := fun i h st c hc => by
    obtain ⟨hz, hTI, ⟨x, y, hTO⟩, h1, h2⟩ := st
    have e' : c = z ∨ c = TI ∨ c = TO ∨ c = i1 ∨ c = i2 := by simpa using hc
    rcases e' with rfl | rfl | rfl | rfl | rfl
    · exact ⟨_, hz, fun v q => nomatch q⟩
    · exact ⟨_, hTI, fun v q => nomatch q⟩
    · exact ⟨_, hTO, fun v q => nomatch q⟩
    · exact itr_obj h1
    · exact itr_obj h2
  keep := fun i h h' st k => by
    obtain ⟨hz, hTI, ⟨x, y, hTO⟩, h1, h2⟩ := st
    exact ⟨k z (by simp) _ hz, k TI (by simp) _ hTI, ⟨x, y, k TO (by simp) _ hTO⟩, itr_at h1 fun o q => k i1 (by simp) o q, itr_at h2 fun o q => k i2 (by simp) o q⟩
  item := by
    intro X hP hw hK hc i pins s σ H E I hf st hg
    subst hP hw hK
    have lt : ∀ c ∈ [z, TI, TO, i1, i2], c < s.heap.objs.size := fun c hcm => by
      obtain ⟨hz, hTI, ⟨x, y, hTO⟩, h1, h2⟩ := st
      have e' : c = z ∨ c = TI ∨ c = TO ∨ c = i1 ∨ c = i2 := by simpa using hcm
      rcases e' with rfl | rfl | rfl | rfl | rfl
      · exact Heap.lt_size hz
      · exact Heap.lt_size hTI
      · exact Heap.lt_size hTO
      · exact itr_lt h1
      · exact itr_lt h2
    obtain ⟨hz, hTI, hTO, h1, h2⟩ := st
    obtain ⟨xs, ys, x, y, hqx, hqy, hx, hy⟩ := hg
    obtain ⟨its1, r1, p1, _, l1⟩ := sq2_at I hqx
    obtain ⟨its2, r2, p2, _, l2⟩ := sq2_at I hqy
    obtain ⟨u1, hu1, ru1⟩ := vals_gets r1 hx
    obtain ⟨u2, hu2, ru2⟩ := vals_gets r2 hy
    have hh : X.A.in1.handled = none := I.ok.hd hc
    have hlt := min_lt_get hx hy
    have W := GoesN.zip2 (elts := elts) (x1 := kk) (pos := tpos) D (draws2 (prog := X.prog) (w := X.w) hh t1 i1 a na its1.toArray) (draws2 (prog := X.prog) (w := X.w) hh t2 i2 b nb its2.toArray)
    refine W.goes i s (fun u s2 => ∃ v H', Inv X pins σ H' s2 ∧ RelV v u ∧ (Itz2 X.K t1 t2 a b).yld i H v H' ∧ tnz2 t1 t2 a b z TI TO i1 i2 (i + 1) s2.heap ∧ ∀ c ∈ [z, TI, TO, i1, i2], H' c = none) E
      (by rw [List.size_toArray, List.size_toArray, ← r1.length, ← r2.length]; exact hlt) ⟨hz, hTI, hTO, ⟨h1, p1⟩, ⟨h2, p2⟩⟩ fun v h' tk hY st' keep _ => ?_
    obtain ⟨T, w1, w2, rfl, hT, e1, e2, ht⟩ := hY
    rw [hu1] at e1
    cases e1
    rw [hu2] at e2
    cases e2
    have new : ObjOk X.prog X.w (upd H T (.tup [x, y])) h' T (.tup [x, y]) := ⟨by show 2 ≤ sizeLine; decide, [u1, u2], .cons ru1 (.cons ru2 .nil), ht⟩
    have I1 : Inv X pins σ (upd H T (.tup [x, y])) { s with heap := h', toks := tk } := I.turnedNew (ch := [z, TI, TO, i1, i2]) (fun c o hb q => keep c o (fun q' => hb (by
      have e' : c = z ∨ c = TO ∨ c = i1 ∨ c = i2 := by simpa using q'
      rcases e' with rfl | rfl | rfl | rfl <;> simp)) q) hf hT new
    refine ⟨.ref T, _, I1, rfl, ⟨T, x, y, rfl, I.hok.fresh hT, rfl, fun l hl => by rw [sq2_inj I hl hqx]; exact hx, fun l hl => by rw [sq2_inj I hl hqy]; exact hy⟩, ⟨st'.1, st'.2.1, st'.2.2.1, st'.2.2.2.1.1, st'.2.2.2.2.1⟩, fun c hcm => ?_⟩
    rw [upd_ne (Nat.ne_of_lt (Nat.lt_of_lt_of_le (lt c hcm) hT))]
    exact (hf c hcm).1
  done := by
    intro X hP hw hK hc i pins s σ H E I hf st hg
    subst hP hw hK
    obtain ⟨hz, hTI, hTO, h1, h2⟩ := st
    obtain ⟨xs, ys, hqx, hqy, hend⟩ := hg
    obtain ⟨its1, r1, p1, _, l1⟩ := sq2_at I hqx
    obtain ⟨its2, r2, p2, _, l2⟩ := sq2_at I hqy
    have hh : X.A.in1.handled = none := I.ok.hd hc
    have W := GoesN.zip2 (elts := elts) (x1 := kk) (pos := tpos) D (draws2 (prog := X.prog) (w := X.w) hh t1 i1 a na its1.toArray) (draws2 (prog := X.prog) (w := X.w) hh t2 i2 b nb its2.toArray)
    have en : min its1.toArray.size its2.toArray.size = i := by rw [List.size_toArray, List.size_toArray, ← r1.length, ← r2.length]; exact hend
    refine W.stops s (fun s1 => Inv X pins σ H s1) E (by rw [en]; exact ⟨hz, hTI, hTO, ⟨h1, p1⟩, ⟨h2, p2⟩⟩) fun h' tk keep _ => ?_
    exact I.turnedL (ch := [z, TI, TO, i1, i2]) (fun c o hb q => keep c o (fun q' => hb (by
      have e' : c = z ∨ c = TO ∨ c = i1 ∨ c = i2 := by simpa using q'
      rcases e' with rfl | rfl | rfl | rfl <;> simp)) q) hf
  self := fun A i s Q E st h => wpAny_pyIter_zip st.1 h

/-! ### zip of three -/
def Itz3 (K : Frag) (t1 t2 t3 : Bool) (a b c : Addr) : It :=
  ⟨fun i H => ∃ (xs ys zs : List V) (x y u : V), Sq2 K t1 H a xs ∧ Sq2 K t2 H b ys ∧ Sq2 K t3 H c zs ∧ xs[i]? = some x ∧ ys[i]? = some y ∧ zs[i]? = some u,
    fun i H v H' => ∃ T x y u, v = .ref T ∧ H T = none ∧ H' = upd H T (.tup [x, y, u]) ∧ (∀ xs, Sq2 K t1 H a xs → xs[i]? = some x) ∧ (∀ ys, Sq2 K t2 H b ys → ys[i]? = some y) ∧ ∀ zs, Sq2 K t3 H c zs → zs[i]? = some u,
    fun i H => ∃ xs ys zs : List V, Sq2 K t1 H a xs ∧ Sq2 K t2 H b ys ∧ Sq2 K t3 H c zs ∧ min (min xs.length ys.length) zs.length = i⟩
def tnz3 (t1 t2 t3 : Bool) (a b c z TI TO i1 i2 i3 : Addr) (i : Nat) (h : Heap) : Prop := IsZip h z TI TO .none ∧ IsTupOf3 h TI (.ref i1) (.ref i2) (.ref i3) ∧ (∃ x y u, IsTupOf3 h TO x y u) ∧ itr t1 h i1 a i ∧ itr t2 h i2 b i ∧ itr t3 h i3 c i
theorem turn_z3 {P : Program} {w : World} {K : Frag} {elts : List Expr} {kk : Nat} {tpos : Pos} {t1 t2 t3 : Bool} {a b c z TI TO i1 i2 i3 : Addr} (D : ZipSep3 z TI TO i1 i2 i3 [i1, a] [i2, b] [i3, c]) (na : a ≠ i1) (nb : b ≠ i2) (nc : c ≠ i3) :
    Turn P w K (.Tuple elts kk tpos) (Itz3 K t1 t2 t3 a b c) [z, TI, TO, i1, i2, i3] z (tnz3 t1 t2 t3 a b c z TI TO i1 i2 i3) where
  mem := by simp
  obj := fun i h st d hd => by
    obtain ⟨hz, hTI, ⟨x, y, u, hTO⟩, h1, h2, h3⟩ := st
    have e' : d = z ∨ d = TI ∨ d = TO ∨ d = i1 ∨ d = i2 ∨ d = i3 := by simpa using hd
    rcases e' with rfl | rfl | rfl | rfl | rfl | rfl
    · exact ⟨_, hz, fun v q => nomatch q⟩
    · exact ⟨_, hTI, fun v q => nomatch q⟩
    · exact ⟨_, hTO, fun v q => nomatch q⟩
    · exact itr_obj h1
    · exact itr_obj h2
    · exact itr_obj h3
  keep := fun i h h' st k => by
    obtain ⟨hz, hTI, ⟨x, y, u, hTO⟩, h1, h2, h3⟩ := st
    exact ⟨k z (by simp) _ hz, k TI (by simp) _ hTI, ⟨x, y, u, k TO (by simp) _ hTO⟩, itr_at h1 fun o q => k i1 (by simp) o q, itr_at h2 fun o q => k i2 (by simp) o q, itr_at h3 fun o q => k i3 (by simp) o q⟩
  item := by
    intro X hP hw hK hc i pins s σ H E I hf st hg
    subst hP hw hK
    have lt : ∀ d ∈ [z, TI, TO, i1, i2, i3], d < s.heap.objs.size := fun d hcm => by
      obtain ⟨hz, hTI, ⟨x, y, u, hTO⟩, h1, h2, h3⟩ := st
      have e' : d = z ∨ d = TI ∨ d = TO ∨ d = i1 ∨ d = i2 ∨ d = i3 := by simpa using hcm
      rcases e' with rfl | rfl | rfl | rfl | rfl | rfl
      · exact Heap.lt_size hz
      · exact Heap.lt_size hTI
      · exact Heap.lt_size hTO
      · exact itr_lt h1
      · exact itr_lt h2
      · exact itr_lt h3
    obtain ⟨hz, hTI, hTO, h1, h2, h3⟩ := st
    obtain ⟨xs, ys, zs, x, y, u, hqx, hqy, hqz, hx, hy, hu⟩ := hg
    obtain ⟨its1, r1, p1, _, l1⟩ := sq2_at I hqx
    obtain ⟨its2, r2, p2, _, l2⟩ := sq2_at I hqy
    obtain ⟨its3, r3, p3, _, l3⟩ := sq2_at I hqz
    obtain ⟨u1, hu1, ru1⟩ := vals_gets r1 hx
    obtain ⟨u2, hu2, ru2⟩ := vals_gets r2 hy
    obtain ⟨u3, hu3, ru3⟩ := vals_gets r3 hu
    have hh : X.A.in1.handled = none := I.ok.hd hc
    have hlt := min_lt_get hx hy
    have hlt3 := (List.getElem?_eq_some_iff.mp hu).1
    have W := GoesN.zip3 (elts := elts) (x1 := kk) (pos := tpos) D (draws2 (prog := X.prog) (w := X.w) hh t1 i1 a na its1.toArray) (draws2 (prog := X.prog) (w := X.w) hh t2 i2 b nb its2.toArray) (draws2 (prog := X.prog) (w := X.w) hh t3 i3 c nc its3.toArray)
    refine W.goes i s (fun u s2 => ∃ v H', Inv X pins σ H' s2 ∧ RelV v u ∧ (Itz3 X.K t1 t2 t3 a b c).yld i H v H' ∧ tnz3 t1 t2 t3 a b c z TI TO i1 i2 i3 (i + 1) s2.heap ∧ ∀ d ∈ [z, TI, TO, i1, i2, i3], H' d = none) E
      (by rw [List.size_toArray, List.size_toArray, List.size_toArray, ← r1.length, ← r2.length, ← r3.length]; omega) ⟨hz, hTI, hTO, ⟨h1, p1⟩, ⟨h2, p2⟩, ⟨h3, p3⟩⟩ fun v h' tk hY st' keep _ => ?_
    obtain ⟨T, w1, w2, w3, rfl, hT, e1, e2, e3, ht⟩ := hY
    rw [hu1] at e1
    cases e1
    rw [hu2] at e2
    cases e2
    rw [hu3] at e3
    cases e3
    have new : ObjOk X.prog X.w (upd H T (.tup [x, y, u])) h' T (.tup [x, y, u]) := ⟨by show 3 ≤ sizeLine; decide, [u1, u2, u3], .cons ru1 (.cons ru2 (.cons ru3 .nil)), ht⟩
    have I1 : Inv X pins σ (upd H T (.tup [x, y, u])) { s with heap := h', toks := tk } := I.turnedNew (ch := [z, TI, TO, i1, i2, i3]) (fun d o hb q => keep d o (fun q' => hb (by
      have e' : d = z ∨ d = TO ∨ d = i1 ∨ d = i2 ∨ d = i3 := by simpa using q'
      rcases e' with rfl | rfl | rfl | rfl | rfl <;> simp)) q) hf hT new
    refine ⟨.ref T, _, I1, rfl, ⟨T, x, y, u, rfl, I.hok.fresh hT, rfl, fun l hl => by rw [sq2_inj I hl hqx]; exact hx, fun l hl => by rw [sq2_inj I hl hqy]; exact hy, fun l hl => by rw [sq2_inj I hl hqz]; exact hu⟩, ⟨st'.1, st'.2.1, st'.2.2.1, st'.2.2.2.1.1, st'.2.2.2.2.1.1, st'.2.2.2.2.2.1⟩, fun d hcm => ?_⟩
    rw [upd_ne (Nat.ne_of_lt (Nat.lt_of_lt_of_le (lt d hcm) hT))]
    exact (hf d hcm).1
  done := by
    intro X hP hw hK hc i pins s σ H E I hf st hg
    subst hP hw hK
    obtain ⟨hz, hTI, hTO, h1, h2, h3⟩ := st
    obtain ⟨xs, ys, zs, hqx, hqy, hqz, hend⟩ := hg
    obtain ⟨its1, r1, p1, _, l1⟩ := sq2_at I hqx
    obtain ⟨its2, r2, p2, _, l2⟩ := sq2_at I hqy
    obtain ⟨its3, r3, p3, _, l3⟩ := sq2_at I hqz
    have hh : X.A.in1.handled = none := I.ok.hd hc
    have W := GoesN.zip3 (elts := elts) (x1 := kk) (pos := tpos) D (draws2 (prog := X.prog) (w := X.w) hh t1 i1 a na its1.toArray) (draws2 (prog := X.prog) (w := X.w) hh t2 i2 b nb its2.toArray) (draws2 (prog := X.prog) (w := X.w) hh t3 i3 c nc its3.toArray)
    have en : min (min its1.toArray.size its2.toArray.size) its3.toArray.size = i := by rw [List.size_toArray, List.size_toArray, List.size_toArray, ← r1.length, ← r2.length, ← r3.length]; exact hend
    refine W.stops s (fun s1 => Inv X pins σ H s1) E (by rw [en]; exact ⟨hz, hTI, hTO, ⟨h1, p1⟩, ⟨h2, p2⟩, ⟨h3, p3⟩⟩) fun h' tk keep _ => ?_
    exact I.turnedL (ch := [z, TI, TO, i1, i2, i3]) (fun d o hb q => keep d o (fun q' => hb (by
      have e' : d = z ∨ d = TO ∨ d = i1 ∨ d = i2 ∨ d = i3 := by simpa using q'
      rcases e' with rfl | rfl | rfl | rfl | rfl <;> simp)) q) hf
  self := fun A i s Q E st h => wpAny_pyIter_zip st.1 h

/-! ### enumerate -/
def Ite2 (K : Frag) (t : Bool) (a : Addr) : It :=
  ⟨fun i H => ∃ (xs : List V) (x : V), Sq2 K t H a xs ∧ xs[i]? = some x, fun i H v H' => ∃ T x, v = .ref T ∧ H T = none ∧ H' = upd H T (.tup [.int (i : Nat), x]) ∧ ∀ xs, Sq2 K t H a xs → xs[i]? = some x, fun i H => ∃ xs : List V, Sq2 K t H a xs ∧ xs.length = i⟩
def tne2 (t : Bool) (a e it : Addr) (i : Nat) (h : Heap) : Prop := (∃ old, IsEnum h e it (0 + ((i : Nat) : Int)) old) ∧ itr t h it a i
theorem turn_e2 {P : Program} {w : World} {K : Frag} {elts : List Expr} {kk : Nat} {tpos : Pos} {t : Bool} {a e it : Addr} (na : a ≠ it) (ne : e ≠ it) (nea : e ≠ a) :
    Turn P w K (.Tuple elts kk tpos) (Ite2 K t a) [e, it] e (tne2 t a e it) where
  mem := by simp
  obj := fun i h st d hd => by
    obtain ⟨⟨old, he⟩, h1⟩ := st
    have e' : d = e ∨ d = it := by simpa using hd
    rcases e' with rfl | rfl
    · exact ⟨_, he, fun v q => nomatch q⟩
    · exact itr_obj h1
  keep := fun i h h' st k => by
    obtain ⟨⟨old, he⟩, h1⟩ := st
    exact ⟨⟨old, k e (by simp) _ he⟩, itr_at h1 fun o q => k it (by simp) o q⟩
  item := by
    intro X hP hw hK hc i pins s σ H E I hf st hg
    subst hP hw hK
    have lt : ∀ d ∈ [e, it], d < s.heap.objs.size := fun d hcm => by
      obtain ⟨⟨old, he⟩, h1⟩ := st
      have e' : d = e ∨ d = it := by simpa using hcm
      rcases e' with rfl | rfl
      · exact Heap.lt_size he
      · exact itr_lt h1
    obtain ⟨he, h1⟩ := st
    obtain ⟨xs, x, hqx, hx⟩ := hg
    obtain ⟨its1, r1, p1, _, l1⟩ := sq2_at I hqx
    obtain ⟨u1, hu1, ru1⟩ := vals_gets r1 hx
    have hh : X.A.in1.handled = none := I.ok.hd hc
    have W := GoesN.enumFrom (elts := elts) (x1 := kk) (pos := tpos) 0 (draws2 (prog := X.prog) (w := X.w) hh t it a na its1.toArray) e ne (by simp [ne, nea]) (by simp)
    refine W.goes i s (fun u s2 => ∃ v H', Inv X pins σ H' s2 ∧ RelV v u ∧ (Ite2 X.K t a).yld i H v H' ∧ tne2 t a e it (i + 1) s2.heap ∧ ∀ d ∈ [e, it], H' d = none) E
      (by rw [List.size_toArray, ← r1.length]; exact (List.getElem?_eq_some_iff.mp hx).1) ⟨he, ⟨h1, p1⟩⟩ fun v h' tk hY st' keep _ => ?_
    obtain ⟨T, tt, w1, rfl, hT, e1, ht⟩ := hY
    rw [hu1] at e1
    cases e1
    have z0 : (0 : Int) + ((i : Nat) : Int) = (i : Nat) := by omega
    rw [z0] at ht
    have new : ObjOk X.prog X.w (upd H T (.tup [.int (i : Nat), x])) h' T (.tup [.int (i : Nat), x]) := ⟨by show 2 ≤ sizeLine; decide, [.int (i : Nat) tt, u1], .cons ⟨_, rfl⟩ (.cons ru1 .nil), ht⟩
    have I1 : Inv X pins σ (upd H T (.tup [.int (i : Nat), x])) { s with heap := h', toks := tk } := I.turnedNew (ch := [e, it]) (fun d o hb q => keep d o hb q) hf hT new
    refine ⟨.ref T, _, I1, rfl, ⟨T, x, rfl, I.hok.fresh hT, rfl, fun l hl => by rw [sq2_inj I hl hqx]; exact hx⟩, ⟨st'.1, st'.2.1⟩, fun d hcm => ?_⟩
    rw [upd_ne (Nat.ne_of_lt (Nat.lt_of_lt_of_le (lt d hcm) hT))]
    exact (hf d hcm).1
  done := by
    intro X hP hw hK hc i pins s σ H E I hf st hg
    subst hP hw hK
    obtain ⟨he, h1⟩ := st
    obtain ⟨xs, hqx, hend⟩ := hg
    obtain ⟨its1, r1, p1, _, l1⟩ := sq2_at I hqx
    have hh : X.A.in1.handled = none := I.ok.hd hc
    have W := GoesN.enumFrom (elts := elts) (x1 := kk) (pos := tpos) 0 (draws2 (prog := X.prog) (w := X.w) hh t it a na its1.toArray) e ne (by simp [ne, nea]) (by simp)
    have en : its1.toArray.size = i := by rw [List.size_toArray, ← r1.length]; exact hend
    refine W.stops s (fun s1 => Inv X pins σ H s1) E (by rw [en]; exact ⟨he, ⟨h1, p1⟩⟩) fun h' tk keep _ => ?_
    exact I.turnedL (ch := [e, it]) (fun d o hb q => keep d o hb q) hf
  self := fun A i s Q E st h => let ⟨⟨_, he⟩, _⟩ := st; wpAny_pyIter_enum he h

/-! enumerate(v) begins -/
set_option maxHeartbeats 1000000 in
theorem meets_enum1 {v : Value} {ob : Obj} {Hv : Heap → Prop} (B : Begins v ob Hv) :
    Meets (Builtin.«enumerate.__new__» ⟨[.type "enumerate", v], []⟩) (fun _ R s => Hv s.heap ∧
      R (.ok (.ret (.ref (s.heap.push ob).objs.size))) { s with heap := (s.heap.push ob).push { cls := .type "enumerate", data := .fields #[.none, .bool false, .ref s.heap.objs.size, rawInt 0, .none, .none] } }) :=
  .of_wp fun prog w A R s hs => by
    obtain ⟨hq, gg, dr, tks, oss⟩ := s
    obtain ⟨hb, hs⟩ := hs
    have hsub := sub_enumerate
    have q1 : ∀ {A' : Around} {E : Value → Shared → Prop} {Q : Value → Shared → Prop}, Q (.ref hq.objs.size) ⟨hq.push ob, gg, dr, tks, oss⟩ → wpAny (model prog w) A' (pyIter v) Q E ⟨hq, gg, dr, tks, oss⟩ :=
      fun q => B.iter prog w _ _ ⟨hq, gg, dr, tks, oss⟩ _ hb q
    wp_walk using q1
    refine wpAny_stack_any fun stk => wpAny_pure ?_
    split
    · rename_i cc _ _ _ _ _
      cases (cc == Value.type "enumerate")
      · wp_walk using q1
        exact ⟨_, rfl, hs⟩
      · wp_walk using q1
        exact ⟨_, rfl, hs⟩
    · wp_walk using q1
      exact ⟨_, rfl, hs⟩
theorem enum_call1 {prog : Program} {w : World} {A : Around} {E : Value → Shared → Prop} {s : Shared} {v : Value} {ob : Obj} {Hv : Heap → Prop} {Q : Value → Shared → Prop} (B : Begins v ob Hv) (hv : Hv s.heap)
    (h : ∀ h', IsEnum h' (s.heap.objs.size + 1) s.heap.objs.size 0 .none → h'.get? s.heap.objs.size = some ob → (∀ b o, s.heap.get? b = some o → h'.get? b = some o) → Q (.ref (s.heap.objs.size + 1)) { s with heap := h' }) :
    wpAny (model prog w) A (call (.type "enumerate") [v]) Q E s := by
  refine callType_new F.called_enumerate (by decide) (F.typeCall_enumerate_1 _) (F.newCall_enumerate_1 _) (fun obj => F.args_object_init_2 obj _) F.entry_enumerate_new (meets_enum1 B) ⟨hv, ?_⟩
  have hz : (s.heap.push ob).objs.size = s.heap.objs.size + 1 := Heap.size_push ..
  show _ ∧ _
  rw [hz]
  have he : IsEnum ((s.heap.push ob).push { cls := .type "enumerate", data := .fields #[.none, .bool false, .ref s.heap.objs.size, rawInt 0, .none, .none] }) (s.heap.objs.size + 1) s.heap.objs.size 0 .none := by
    have := Heap.get?_push_size (s.heap.push ob) (o := { cls := .type "enumerate", data := .fields #[.none, .bool false, .ref s.heap.objs.size, rawInt 0, .none, .none] }) rfl
    rw [hz] at this
    exact this
  exact ⟨⟨_, he, rfl⟩, h _ he (Heap.get?_push_of_some _ (Heap.get?_push_size _ B.free)) fun b o x => Heap.get?_push_of_some _ (Heap.get?_push_of_some _ x)⟩

/-! ### what is walked -/
/-- a list or a tuple, and what of the store must stay -/
def sq1 (d : D) (S : Store) : Option Src := match d with
  | .str _ => none
  | d => itemsV d S
/-- it stands somewhere, and stays there -/
def Stands (K : Frag) (W : Wd) (x : Src) (v : V) (t : Bool) (a : Addr) : Prop := v = .ref a ∧ (∃ vs, Sq2 K t W.H a vs) ∧ ∀ W', Exw W W' → Ok K W' → held x.2 W'.S → ∃ vs, Sq2 K t W'.H a vs ∧ Reps K W' x.1 vs
theorem sq1_ok {K : Frag} {W : Wd} {d : D} {v : V} {x : Src} (ok : Ok K W) (r : Rep K W d v) (h : sq1 d W.S = some x) : ∃ t a, Stands K W x v t a := by
  cases r with
  | non => cases h
  | bl => cases h
  | int => cases h
  | str => cases h
  | iset => cases h
  | ins => cases h
  | err => cases h
  | tup h1 q =>
    cases h
    exact ⟨true, _, rfl, ⟨_, h1⟩, fun W' e o _ => ⟨_, SqT.ext e ok h1, Reps.exw e ok q⟩⟩
  | tpn h1 q =>
    cases h
    obtain ⟨o, h1, _⟩ := h1
    exact ⟨true, _, rfl, ⟨_, .inl (.inr ⟨o, h1⟩)⟩, fun W' e o' _ => ⟨_, SqT.ext e ok (.inl (.inr ⟨o, h1⟩)), Reps.exw e ok q⟩⟩
  | lst h1 q =>
    cases h
    exact ⟨false, _, rfl, ⟨_, h1.sql⟩, fun W' e o _ => ⟨_, (h1.ext e).sql, Reps.exw e ok q⟩⟩
  | scr h1 q =>
    cases h
    exact ⟨false, _, rfl, ⟨_, h1.sql⟩, fun W' e o' _ => ⟨_, (SqF.ext e ok h1).sql, Reps.exw e ok q⟩⟩
  | @loc n hn =>
    unfold sq1 itemsV at h
    dsimp only at h
    split at h
    · rename_i xs hx
      cases h
      obtain ⟨vs, ha, _⟩ := ok.obj n _ hx
      refine ⟨false, _, rfl, ⟨vs, .inl (.inl ha)⟩, fun W' e o hh => ?_⟩
      obtain ⟨vs, ha, q⟩ := o.obj n _ hh.1
      rw [e.rho n hn] at ha
      exact ⟨vs, .inl (.inl ha), q⟩
    · cases h
theorem Stands.mono {K : Frag} {W W' : Wd} {x : Src} {v : V} {t : Bool} {a : Addr} (h : Stands K W x v t a) (e : Exw W W') (ok : Ok K W') (hh : held x.2 W'.S) : Stands K W' x v t a :=
  ⟨h.1, let ⟨vs, q, _⟩ := h.2.2 W' e ok hh; ⟨vs, q⟩, fun W'' e' o' h' => h.2.2 W'' (e.trans e') o' h'⟩
theorem held_app {w1 w2 : Hld} {S : Store} : held (w1 ++ w2) S ↔ held w1 S ∧ held w2 S := by
  induction w1 with
  | nil => simp
  | cons p w1 ih =>
    obtain ⟨n, ds⟩ := p
    rw [List.cons_append]
    simp only [held_some, ih, and_assoc]
def pairD (x y : D) : D := .tup [x, y]
def zipD (xs ys : List D) : List D := List.zipWith pairD xs ys
def zip3D : List D → List D → List D → List D
  | x :: xs, y :: ys, z :: zs => .tup [x, y, z] :: zip3D xs ys zs
  | _, _, _ => []
def enuD (xs : List D) : List D := List.zipWith (fun (i : Nat) x => .tup [.int (i : Nat), x]) (List.range xs.length) xs
theorem zipD_length (xs ys : List D) : (zipD xs ys).length = min xs.length ys.length := by unfold zipD; rw [List.length_zipWith]
theorem zip3D_length : ∀ (xs ys zs : List D), (zip3D xs ys zs).length = min (min xs.length ys.length) zs.length
  | x :: xs, y :: ys, z :: zs => by
    unfold zip3D
    rw [List.length_cons, zip3D_length xs ys zs]
    simp only [List.length_cons]
    omega
  | [], _, _ => by simp [zip3D]
  | _ :: _, [], _ => by simp [zip3D]
  | _ :: _, _ :: _, [] => by simp [zip3D]
theorem zip3D_get : ∀ {xs ys zs : List D} {i : Nat} {x y z : D}, xs[i]? = some x → ys[i]? = some y → zs[i]? = some z → (zip3D xs ys zs)[i]? = some (.tup [x, y, z])
  | x' :: xs, y' :: ys, z' :: zs, 0, x, y, z, hx, hy, hz => by
    simp at hx hy hz
    subst hx hy hz
    rfl
  | x' :: xs, y' :: ys, z' :: zs, i + 1, x, y, z, hx, hy, hz => by
    unfold zip3D
    rw [List.getElem?_cons_succ]
    exact zip3D_get (by simpa using hx) (by simpa using hy) (by simpa using hz)
  | [], _, _, i, x, y, z, hx, hy, hz => by simp at hx
  | _ :: _, [], _, i, x, y, z, hx, hy, hz => by simp at hy
  | _ :: _, _ :: _, [], i, x, y, z, hx, hy, hz => by simp at hz
theorem enuD_length (xs : List D) : (enuD xs).length = xs.length := by unfold enuD; rw [List.length_zipWith, List.length_range, Nat.min_self]
theorem zipD_get {xs ys : List D} {i : Nat} {x y : D} (hx : xs[i]? = some x) (hy : ys[i]? = some y) : (zipD xs ys)[i]? = some (.tup [x, y]) := by
  unfold zipD
  rw [List.getElem?_zipWith, hx, hy]
  rfl
theorem enuD_get {xs : List D} {i : Nat} {x : D} (hx : xs[i]? = some x) : (enuD xs)[i]? = some (.tup [.int (i : Nat), x]) := by
  unfold enuD
  rw [List.getElem?_zipWith, hx, List.getElem?_range (List.getElem?_eq_some_iff.mp hx).1]
/-- a new tuple of what was there -/
theorem tup_new {K : Frag} {W : Wd} {T : Addr} {vs : List V} {ds : List D} (ok : Ok K W) (hT : W.H T = none) (r : Reps K W ds vs) : Same W.H (upd W.H T (.tup vs)) ∧ Rep K ⟨W.ρ, W.S, upd W.H T (.tup vs), W.B⟩ (.tup ds) (.ref T) :=
  ⟨Same.upd hT, .tup (.inl (.inl upd_same)) (r.ext (Ext.same (Same.upd hT)) ok)⟩
section
variable {K : Frag} {W : Wd} {x y u : Src} {vx vy vu : V} {t1 t2 t3 : Bool} {a b c : Addr}
theorem itd_z2 (h1 : Stands K W x vx t1 a) (h2 : Stands K W y vy t2 b) : ItD K W (x.2 ++ y.2) (zipD x.1 y.1) (Itz2 K t1 t2 a b) where
  go := fun W' i e o hh hi => by
    rw [zipD_length] at hi
    obtain ⟨g1, g2⟩ := held_app.mp hh
    obtain ⟨vs, q1, r1⟩ := h1.2.2 W' e o g1
    obtain ⟨ws, q2, r2⟩ := h2.2.2 W' e o g2
    obtain ⟨v, hv, _⟩ := r1.get (List.getElem?_eq_getElem (Nat.lt_of_lt_of_le hi (Nat.min_le_left _ _)))
    obtain ⟨w, hw, _⟩ := r2.get (List.getElem?_eq_getElem (Nat.lt_of_lt_of_le hi (Nat.min_le_right _ _)))
    exact ⟨vs, ws, v, w, q1, q2, hv, hw⟩
  yld := fun W' i z H' e o hh hi ⟨T, v, w, ez, hT, eH, y1, y2⟩ => by
    subst ez eH
    obtain ⟨g1, g2⟩ := held_app.mp hh
    obtain ⟨vs, q1, r1⟩ := h1.2.2 W' e o g1
    obtain ⟨ws, q2, r2⟩ := h2.2.2 W' e o g2
    obtain ⟨d1, e1, k1⟩ := r1.got (y1 _ q1)
    obtain ⟨d2, e2, k2⟩ := r2.got (y2 _ q2)
    obtain ⟨sm, rp⟩ := tup_new o hT (.cons k1 (.cons k2 .nil))
    exact ⟨sm, _, zipD_get e1 e2, rp⟩
  stop := fun W' i e o hh hi => by
    rw [zipD_length] at hi
    obtain ⟨g1, g2⟩ := held_app.mp hh
    obtain ⟨vs, q1, r1⟩ := h1.2.2 W' e o g1
    obtain ⟨ws, q2, r2⟩ := h2.2.2 W' e o g2
    exact ⟨vs, ws, q1, q2, by rw [← r1.length, ← r2.length]; exact hi⟩
theorem itd_z3 (h1 : Stands K W x vx t1 a) (h2 : Stands K W y vy t2 b) (h3 : Stands K W u vu t3 c) : ItD K W (x.2 ++ (y.2 ++ u.2)) (zip3D x.1 y.1 u.1) (Itz3 K t1 t2 t3 a b c) where
  go := fun W' i e o hh hi => by
    rw [zip3D_length] at hi
    obtain ⟨g1, g2⟩ := held_app.mp hh
    obtain ⟨g2, g3⟩ := held_app.mp g2
    obtain ⟨vs, q1, r1⟩ := h1.2.2 W' e o g1
    obtain ⟨ws, q2, r2⟩ := h2.2.2 W' e o g2
    obtain ⟨us, q3, r3⟩ := h3.2.2 W' e o g3
    obtain ⟨v, hv, _⟩ := r1.get (List.getElem?_eq_getElem (show i < x.1.length by omega))
    obtain ⟨w, hw, _⟩ := r2.get (List.getElem?_eq_getElem (show i < y.1.length by omega))
    obtain ⟨z, hz, _⟩ := r3.get (List.getElem?_eq_getElem (show i < u.1.length by omega))
    exact ⟨vs, ws, us, v, w, z, q1, q2, q3, hv, hw, hz⟩
  yld := fun W' i z H' e o hh hi ⟨T, v, w, w3, ez, hT, eH, y1, y2, y3⟩ => by
    subst ez eH
    obtain ⟨g1, g2⟩ := held_app.mp hh
    obtain ⟨g2, g3⟩ := held_app.mp g2
    obtain ⟨vs, q1, r1⟩ := h1.2.2 W' e o g1
    obtain ⟨ws, q2, r2⟩ := h2.2.2 W' e o g2
    obtain ⟨us, q3, r3⟩ := h3.2.2 W' e o g3
    obtain ⟨d1, e1, k1⟩ := r1.got (y1 _ q1)
    obtain ⟨d2, e2, k2⟩ := r2.got (y2 _ q2)
    obtain ⟨d3, e3, k3⟩ := r3.got (y3 _ q3)
    obtain ⟨sm, rp⟩ := tup_new o hT (.cons k1 (.cons k2 (.cons k3 .nil)))
    exact ⟨sm, _, zip3D_get e1 e2 e3, rp⟩
  stop := fun W' i e o hh hi => by
    rw [zip3D_length] at hi
    obtain ⟨g1, g2⟩ := held_app.mp hh
    obtain ⟨g2, g3⟩ := held_app.mp g2
    obtain ⟨vs, q1, r1⟩ := h1.2.2 W' e o g1
    obtain ⟨ws, q2, r2⟩ := h2.2.2 W' e o g2
    obtain ⟨us, q3, r3⟩ := h3.2.2 W' e o g3
    exact ⟨vs, ws, us, q1, q2, q3, by rw [← r1.length, ← r2.length, ← r3.length]; exact hi⟩
theorem itd_e2 (h1 : Stands K W x vx t1 a) : ItD K W x.2 (enuD x.1) (Ite2 K t1 a) where
  go := fun W' i e o hh hi => by
    rw [enuD_length] at hi
    obtain ⟨vs, q1, r1⟩ := h1.2.2 W' e o hh
    obtain ⟨v, hv, _⟩ := r1.get (List.getElem?_eq_getElem hi)
    exact ⟨vs, v, q1, hv⟩
  yld := fun W' i z H' e o hh hi ⟨T, v, ez, hT, eH, y1⟩ => by
    subst ez eH
    obtain ⟨vs, q1, r1⟩ := h1.2.2 W' e o hh
    obtain ⟨d1, e1, k1⟩ := r1.got (y1 _ q1)
    obtain ⟨sm, rp⟩ := tup_new o hT (.cons (.int _) (.cons k1 .nil))
    exact ⟨sm, _, enuD_get e1, rp⟩
  stop := fun W' i e o hh hi => by
    rw [enuD_length] at hi
    obtain ⟨vs, q1, r1⟩ := h1.2.2 W' e o hh
    exact ⟨vs, q1, by rw [← r1.length]; exact hi⟩
end
def iZip2 (fa : L → Store → R (List D)) : L → Store → R Src := fun l S => (fa l S).bind fun ds S1 => match ds with
  | [d, e] => match sq1 d S1, sq1 e S1 with
    | some x, some y => .ok (zipD x.1 y.1, x.2 ++ y.2) S1
    | _, _ => .bad
  | _ => .bad
def iZip3 (fa : L → Store → R (List D)) : L → Store → R Src := fun l S => (fa l S).bind fun ds S1 => match ds with
  | [d, e, f] => match sq1 d S1, sq1 e S1, sq1 f S1 with
    | some x, some y, some z => .ok (zip3D x.1 y.1 z.1, x.2 ++ (y.2 ++ z.2)) S1
    | _, _, _ => .bad
  | _ => .bad
def iEnu (fa : L → Store → R (List D)) : L → Store → R Src := fun l S => (fa l S).bind fun ds S1 => match ds with
  | [d] => match sq1 d S1 with
    | some x => .ok (enuD x.1, x.2) S1
    | none => .bad
  | _ => .bad
section
variable {X : Cx} {Wx : WX} {e1 e2 e3 : Expr} {fa : L → Store → R (List D)} {p pos tpos : Pos} {elts : List Expr} {kk : Nat}
theorem fi_enum (hm : X.mg "enumerate" = none) (hg : Gl X "enumerate") (ha : FA X Wx [e1] fa) (hs : starEach [e1] X.env = [(false, eval e1 X.env)] := by rfl) : FI X Wx (.Tuple elts kk tpos) (.Call (.Name "enumerate" p) [e1] [] pos) (iEnu fa) := by
  refine ⟨fun pins s σ H Q I ⟨ρ, S, B, l, ok, sl, h⟩ => ?_⟩
  refine PyProof.Rows.Call_ (ld_blt I hg hm PyProof.Rows.boot_enumerate (PyProof.Rows.callWith_type1 (thn (ha.run pos pins s σ H (fun vs H1 => ∃ v t a, vs = [v] ∧ v = .ref a ∧ (∃ ws, Sq2 X.K t H1 a ws) ∧ Q (Ite2 X.K t a) H1) I ⟨ρ, S, B, l, ok, sl, h.bind.mono fun W1 ds e1 o1 ⟨_, _, h1⟩ vs rvs => ?_⟩)
    fun us s1 ⟨vs, H1, I1, r1, v, t, a, ev, ea, hq, q⟩ => ?_) hs rfl))
  · split at h1
    · rename_i d _
      obtain ⟨v, rfl, rv⟩ := rvs.one
      cases hx : sq1 d W1.S with
      | none => rw [hx] at h1; exact h1.elim
      | some x =>
        rw [hx] at h1
        obtain ⟨t, a, st⟩ := sq1_ok o1 rv hx
        exact ⟨v, t, a, rfl, st.1, st.2.1, Post.ok_of o1 h1 _ (itd_e2 st)⟩
    · exact h1.elim
  · subst ev ea
    obtain ⟨ws, hq⟩ := hq
    obtain ⟨u, rfl, ru⟩ := vals1 r1
    cases ru
    obtain ⟨its, rv, p1, _, la⟩ := sq2_at I1 hq
    refine enum_call1 (begins2 t a its.toArray) p1 fun h' he hit hk => wpAny_pyIter_enum he ?_
    have I2 : Inv X pins σ H1 { s1 with heap := h' } := I1.kept (t' := s1.toks) hk
    have ne1 : a ≠ s1.heap.objs.size := Nat.ne_of_lt la
    have ne2 : s1.heap.objs.size + 1 ≠ a := Nat.ne_of_gt (Nat.lt_succ_of_lt la)
    refine ⟨s1.heap.objs.size + 1, [s1.heap.objs.size + 1, s1.heap.objs.size], _, _, H1, rfl, I2, turn_e2 (t := t) ne1 (Nat.succ_ne_self _) ne2, ⟨⟨.none, by simpa using he⟩, itr_start hit⟩, fun b hb => ?_, q⟩
    have e' : b = s1.heap.objs.size + 1 ∨ b = s1.heap.objs.size := by simpa using hb
    have hle : s1.heap.objs.size ≤ b := by
      rcases e' with z | z
      · rw [z]; exact Nat.le_add_right _ _
      · rw [z]; exact Nat.le_refl _
    exact I1.fpOk hle (I1.hok.fresh hle)
theorem fi_zip2 (hm : X.mg "zip" = none) (hg : Gl X "zip") (ha : FA X Wx [e1, e2] fa) (hs : starEach [e1, e2] X.env = (false, eval e1 X.env) :: starEach [e2] X.env := by rfl) (hpl : (backTo pos (starEach [e2] X.env)).any (·.1) = false := by rfl) :
    FI X Wx (.Tuple elts kk tpos) (.Call (.Name "zip" p) [e1, e2] [] pos) (iZip2 fa) := by
  refine ⟨fun pins s σ H Q I ⟨ρ, S, B, l, ok, sl, h⟩ => ?_⟩
  refine PyProof.Rows.Call_ (ld_blt I hg hm PyProof.Rows.boot_zip (PyProof.Rows.callWith_type1 (thn (ha.run pos pins s σ H (fun vs H1 => ∃ v w t a t2 b, vs = [v, w] ∧ v = .ref a ∧ w = .ref b ∧ (∃ ws, Sq2 X.K t H1 a ws) ∧ (∃ ws, Sq2 X.K t2 H1 b ws) ∧ Q (Itz2 X.K t t2 a b) H1) I ⟨ρ, S, B, l, ok, sl, h.bind.mono fun W1 ds e1 o1 ⟨_, _, h1⟩ vs rvs => ?_⟩)
    fun us s1 ⟨vs, H1, I1, r1, v, w, t, a, t2, b, ev, ea, eb, hq, hq2, q⟩ => ?_) hs hpl))
  · split at h1
    · rename_i d e _
      obtain ⟨v, w, rfl, rv, rw'⟩ := rvs.two
      cases hx : sq1 d W1.S with
      | none => rw [hx] at h1; exact h1.elim
      | some x => cases hy : sq1 e W1.S with
        | none => rw [hx, hy] at h1; exact h1.elim
        | some y =>
          rw [hx, hy] at h1
          obtain ⟨t, a, st⟩ := sq1_ok o1 rv hx
          obtain ⟨t2, b, st2⟩ := sq1_ok o1 rw' hy
          exact ⟨v, w, t, a, t2, b, rfl, st.1, st2.1, st.2.1, st2.2.1, Post.ok_of o1 h1 _ (itd_z2 st st2)⟩
    · exact h1.elim
  · subst ev ea eb
    obtain ⟨ws, hq⟩ := hq
    obtain ⟨ws2, hq2⟩ := hq2
    obtain ⟨u, u2, rfl, ru, ru2⟩ := vals2 r1
    cases ru
    cases ru2
    obtain ⟨its, rv, p1, _, la⟩ := sq2_at I1 hq
    obtain ⟨its2, rv2, p2, _, lb⟩ := sq2_at I1 hq2
    refine zip_begins2 (begins2 t a its.toArray) (begins2 t2 b its2.toArray) p1 p2 fun h' hz hTI hTO g1 g2 _ hk => wpAny_pyIter_zip hz ?_
    have I2 : Inv X pins σ H1 { s1 with heap := h' } := I1.kept (t' := s1.toks) hk
    have D := zip_sep2 (N := s1.heap.objs.size) (fp1 := [a]) (fp2 := [b]) (fun x hx => by cases List.mem_singleton.mp hx; exact la) (fun x hx => by cases List.mem_singleton.mp hx; exact lb)
    refine ⟨s1.heap.objs.size + 4, [s1.heap.objs.size + 4, s1.heap.objs.size + 2, s1.heap.objs.size + 3, s1.heap.objs.size, s1.heap.objs.size + 1], _, _, H1, rfl, I2, turn_z2 (t1 := t) (t2 := t2) D (Nat.ne_of_lt la) (Nat.ne_of_lt (Nat.lt_succ_of_lt lb)), ⟨hz, hTI, ⟨_, _, hTO⟩, itr_start g1, itr_start g2⟩, fun c hcm => ?_, q⟩
    have e' : c = s1.heap.objs.size + 4 ∨ c = s1.heap.objs.size + 2 ∨ c = s1.heap.objs.size + 3 ∨ c = s1.heap.objs.size ∨ c = s1.heap.objs.size + 1 := by simpa using hcm
    have hle : s1.heap.objs.size ≤ c := by
      rcases e' with z | z | z | z | z <;> (rw [z]; first | exact Nat.le_add_right _ _ | exact Nat.le_refl _)
    exact I1.fpOk hle (I1.hok.fresh hle)
theorem fi_zip3 (hm : X.mg "zip" = none) (hg : Gl X "zip") (ha : FA X Wx [e1, e2, e3] fa) (hs : starEach [e1, e2, e3] X.env = (false, eval e1 X.env) :: starEach [e2, e3] X.env := by rfl) (hpl : (backTo pos (starEach [e2, e3] X.env)).any (·.1) = false := by rfl) :
    FI X Wx (.Tuple elts kk tpos) (.Call (.Name "zip" p) [e1, e2, e3] [] pos) (iZip3 fa) := by
  refine ⟨fun pins s σ H Q I ⟨ρ, S, B, l, ok, sl, h⟩ => ?_⟩
  refine PyProof.Rows.Call_ (ld_blt I hg hm PyProof.Rows.boot_zip (PyProof.Rows.callWith_type1 (thn (ha.run pos pins s σ H (fun vs H1 => ∃ t a t2 b t3 c, vs = [.ref a, .ref b, .ref c] ∧ (∃ ws, Sq2 X.K t H1 a ws) ∧ (∃ ws, Sq2 X.K t2 H1 b ws) ∧ (∃ ws, Sq2 X.K t3 H1 c ws) ∧ Q (Itz3 X.K t t2 t3 a b c) H1) I ⟨ρ, S, B, l, ok, sl, h.bind.mono fun W1 ds e1 o1 ⟨_, _, h1⟩ vs rvs => ?_⟩)
    fun us s1 ⟨vs, H1, I1, r1, t, a, t2, b, t3, c, ev, hq, hq2, hq3, q⟩ => ?_) hs hpl))
  · split at h1
    · rename_i d e f _
      cases rvs with
      | cons rv rvs => cases rvs with
        | cons rw' rvs => cases rvs with
          | cons ru rvs =>
            cases rvs
            cases hx : sq1 d W1.S with
            | none => rw [hx] at h1; exact h1.elim
            | some x => cases hy : sq1 e W1.S with
              | none => rw [hx, hy] at h1; exact h1.elim
              | some y => cases hz : sq1 f W1.S with
                | none => rw [hx, hy, hz] at h1; exact h1.elim
                | some z =>
                  rw [hx, hy, hz] at h1
                  obtain ⟨t, a, st⟩ := sq1_ok o1 rv hx
                  obtain ⟨t2, b, st2⟩ := sq1_ok o1 rw' hy
                  obtain ⟨t3, c, st3⟩ := sq1_ok o1 ru hz
                  exact ⟨t, a, t2, b, t3, c, by rw [st.1, st2.1, st3.1], st.2.1, st2.2.1, st3.2.1, Post.ok_of o1 h1 _ (itd_z3 st st2 st3)⟩
    · exact h1.elim
  · subst ev
    obtain ⟨ws, hq⟩ := hq
    obtain ⟨ws2, hq2⟩ := hq2
    obtain ⟨ws3, hq3⟩ := hq3
    cases r1 with
    | cons ru r1 => cases r1 with
      | cons ru2 r1 => cases r1 with
        | cons ru3 r1 =>
          cases r1
          cases ru
          cases ru2
          cases ru3
          obtain ⟨its, rv, p1, _, la⟩ := sq2_at I1 hq
          obtain ⟨its2, rv2, p2, _, lb⟩ := sq2_at I1 hq2
          obtain ⟨its3, rv3, p3, _, lc⟩ := sq2_at I1 hq3
          refine zip_begins3 (begins2 t a its.toArray) (begins2 t2 b its2.toArray) (begins2 t3 c its3.toArray) p1 p2 p3 fun h' hz hTI hTO g1 g2 g3 _ hk => wpAny_pyIter_zip hz ?_
          have I2 : Inv X pins σ H1 { s1 with heap := h' } := I1.kept (t' := s1.toks) hk
          have D := zip_sep3 (N := s1.heap.objs.size) (fp1 := [a]) (fp2 := [b]) (fp3 := [c]) (fun x hx => by cases List.mem_singleton.mp hx; exact la) (fun x hx => by cases List.mem_singleton.mp hx; exact lb) (fun x hx => by cases List.mem_singleton.mp hx; exact lc)
          have lc' : c < s1.heap.objs.size + 2 := Nat.lt_succ_of_lt (Nat.lt_succ_of_lt lc)
          refine ⟨s1.heap.objs.size + 5, [s1.heap.objs.size + 5, s1.heap.objs.size + 3, s1.heap.objs.size + 4, s1.heap.objs.size, s1.heap.objs.size + 1, s1.heap.objs.size + 2], _, _, H1, rfl, I2, turn_z3 (t1 := t) (t2 := t2) (t3 := t3) D (Nat.ne_of_lt la) (Nat.ne_of_lt (Nat.lt_succ_of_lt lb)) (Nat.ne_of_lt lc'), ⟨hz, hTI, ⟨_, _, _, hTO⟩, itr_start g1, itr_start g2, itr_start g3⟩, fun d hcm => ?_, q⟩
          have e' : d = s1.heap.objs.size + 5 ∨ d = s1.heap.objs.size + 3 ∨ d = s1.heap.objs.size + 4 ∨ d = s1.heap.objs.size ∨ d = s1.heap.objs.size + 1 ∨ d = s1.heap.objs.size + 2 := by simpa using hcm
          have hle : s1.heap.objs.size ≤ d := by
            rcases e' with z | z | z | z | z | z <;> (rw [z]; first | exact Nat.le_add_right _ _ | exact Nat.le_refl _)
          exact I1.fpOk hle (I1.hok.fresh hle)
end
end HL
end
section
set_option Elab.async false
set_option linter.all false
set_option maxRecDepth 100000
set_option maxHeartbeats 1000000
namespace HL
open PySem PySem.Spec L2

/-! ### what a context grants -/
structure Fit (X : Cx) (Wx : WX) (k : Nat) : Prop where
  tk : Takes X Wx
  hp : PassesOwn (model X.prog X.w) X.A X.env X.xe
  rm : RoomG k X.A
  cm : X.calm = true
  nd : X.N.Nodup
section
variable {X : Cx} {Wx : WX} {k : Nat}
theorem Fit.hu (c : Fit X Wx k) : X.A.units + 65 < cLine := by
  have := c.rm.r.un
  omega
theorem Fit.hu4 (c : Fit X Wx k) : X.A.units + 64 < cLine := by
  have := c.rm.r.un
  omega
theorem Fit.blk (c : Fit X Wx k) (s : Shared) (H : Hp) (scope : Scope) (cenv : Env) (fp : List Addr) : Fit (X.blk s H scope cenv fp) wx0 k :=
  ⟨fun u s' ⟨_, _, _, _, _, _, _, _, _, _, _, _, _, _, _, _, w⟩ => w.elim, PassesOwn.never, c.rm, c.cm, c.nd⟩
end

/-! ### a def by its body -/
def Kn (P : Program) (w : World) (K : Frag) (mg : Str → Option Value) (base : Heap) (qual x : Str) (st : Stmt) (f : Addr) (ps : List Str) (k n : Nat) (g : List D → Store → R D) : Prop :=
  ∃ fd, FunD K x qual (defArgs st) (defBody st) (defScope st) [] [] f fd ∧ FnG P w K mg base k f fd ps (spOf K n g) ∧ Bd K fd ps [] gPos
section
variable {P : Program} {w : World} {K : Frag} {mg : Str → Option Value} {base : Heap} {x qual : Str} {f : Addr} {fd : FuncData} {N ps : List Str} {k n : Nat} {sp : Sp} {params : Arguments} {body : List Stmt} {scope : Scope}
theorem fnG_of (F : FunD K x qual params body scope [] [] f fd) (S : FnScope N ps scope) (len : ∀ vs H Q E, sp vs H Q E → vs.length = ps.length)
    (hbody : ∀ (cdv : Value) (A : Around) (outer : List Env) (s : Shared) (H : Hp) (vs : List V) (Q : VK) (E : XK), RoomG k (A.deeper (PyProof.Rows.envOfC qual scope s.heap.objs.size f cdv)) → sp vs H Q E →
      ∃ t, PSs (cxOf (L2.CX P w) P w K mg base N qual scope f cdv A outer s H E) body t ∧ t { nx := fun _ H' => Q .non H', rt := Q } (L2.start N vs) H) : FnG P w K mg base (k + 1) f fd ps sp := by
  obtain ⟨oc, od, dV, kV, doc, pm, an, cdv, ct, osl, rfl, lk, hcd, _, _⟩ := F.ex
  refine ⟨len, fun A outer s H args us vs Q E hr e0 hb r hsp => ?_⟩
  have hl := len _ _ _ _ hsp
  have KX : K.In s.heap := e0.mod.kin.keeps fun b o e => (e0.bs b o e).1
  have lim : s.heap.NoLimit := e0.mod.nolimit.keeps fun b o e => (e0.bs b o e).1
  have hkind : ∀ y ∈ ps.zip us, scope.names.lookup y.1 = some .local ∨ (scope.names.lookup y.1 = some .cell ∧ ((cellsFrom (s.heap.objs.size + 1) scope.names []).lookup y.1).isSome = true) := fun ⟨z, v⟩ hy => by
    rcases S.par z (List.of_mem_zip hy).1 with q | q
    · exact .inl q
    · exact .inr ⟨q, PySem.W.cellsFrom_some _ _ _ (.inl q)⟩
  refine PySem.codeAny_call_function hr.r.depth (KX _ _ lk) rfl S.co S.gen rfl (PySem.W.codeRec_of KX hcd) (hb _ _ _ _ ?_)
  refine wpAny_newFunctionEnv_cells S.kind hkind fun env he s1 xx => ?_
  subst he
  refine ⟨lim.keeps xx.toInCall.keep, PySem.codeAny_func ?_⟩
  obtain ⟨t, ht, hq⟩ := hbody cdv A outer s H vs Q E (hr.deeper _) hsp
  have I : Inv (cxOf (L2.CX P w) P w K mg base N qual scope f cdv A outer s H E) [] (L2.start N vs) H s1 := inv_start S hr.r.hd e0 hl r xx
  refine wpAny_mono (ht.run [] s1 (L2.start N vs) H _ I hq) (fun fl s' hs => ?_) fun e s' hs => hs
  have fin : ∀ {σ' : L2.St} {H' : Hp} {v : V} {u : Value}, Inv (cxOf (L2.CX P w) P w K mg base N qual scope f cdv A outer s H E) [] σ' H' s' → RelV v u → Q v H' → CE outer P w H s Q u s' :=
    fun {σ' H' v u} J rv q => ⟨v, H', J.os, J.bare, J.base, J.hok, rv, q⟩
  cases fl with
  | ret u =>
    obtain ⟨v, σ', H', J, rv, q⟩ := hs
    exact fin J rv q
  | next =>
    obtain ⟨σ', H', J, q⟩ := hs
    exact fin (v := V.non) (u := Value.none) J rfl q
  | brk =>
    obtain ⟨_, _, _, q⟩ := hs
    exact False.elim q
  | cont =>
    obtain ⟨_, _, _, q⟩ := hs
    exact False.elim q
theorem start_sl {W : Wd} {ds : List D} {vs : List V} (r : Reps K W ds vs) : Sl K W (L2.start N vs) (ds.map some ++ List.replicate (N.length - ds.length) none) := by
  have hl := r.length
  refine ⟨by unfold L2.start; rw [List.length_append, List.length_append, List.length_map, List.length_map, List.length_replicate, List.length_replicate, hl], fun i d h => ?_⟩
  by_cases hi : i < ds.length
  · rw [List.getElem?_append_left (by simpa using hi), List.getElem?_map] at h
    obtain ⟨d', h1, h2⟩ := Option.map_eq_some_iff.mp h
    cases h2
    obtain ⟨v, hv, rv⟩ := r.get h1
    refine ⟨v, ?_, rv⟩
    unfold L2.start
    rw [List.getElem?_append_left (by rw [List.length_map, ← hl]; exact hi), List.getElem?_map, hv]
    rfl
  · rw [List.getElem?_append_right (by simpa using hi), List.getElem?_replicate] at h
    split at h <;> cases h
theorem spOf_body {Wx : XK → WX} (hW : Wx = fun E c d _ H => E c d H) {tr : Bool} {bf : L → Store → Fl} {vs : List V} {H : Hp} {Q : VK} {E : XK} (h : spOf K n (run tr N.length bf) vs H Q E) :
    tS K (Wx E) bf { nx := fun _ H' => Q .non H', rt := Q } (L2.start N vs) H := by
  subst hW
  obtain ⟨ρ, S, B, ds, ok, r, hl, h⟩ := h
  unfold run at h
  refine ⟨ρ, S, B, _, ok, start_sl (N := N) r, ?_⟩
  generalize hq : bf (ds.map some ++ List.replicate (N.length - ds.length) none) S = fl at h
  cases fl with
  | nx l' S' => exact fun ρ' H' σ' e o s => fin_ok ok h e o .non
  | rt d S' => exact fun ρ' H' v e o rv => fin_ok ok h e o rv
  | exc x l' S' => exact fun ρ' H' σ' cls d e o s rx => h ρ' H' cls d e o rx
  | bk l' S' => exact h.elim
  | ct l' S' => exact h.elim
  | bad => exact h.elim
theorem Kn.of {st : Stmt} {tr : Bool} {bf : L → Store → Fl} (F : ∃ fd, FunD K x qual (defArgs st) (defBody st) (defScope st) [] [] f fd) (S : FnScope N ps (defScope st)) (hn : ps.length = n)
    (hb : ∀ (kV doc pm : Value) (an : Option Addr) (cdv ct : Value) (us : List Value), us.length = ps.length → bindArgs (PySem.W.fnOf x qual (defArgs st) (defBody st) (defScope st) .none kV doc pm an cdv ct) ⟨us, []⟩ = pure (ps.zip us))
    (body : ∀ (X : Cx) (E : XK), (∃ cdv A outer s H, X = cxOf (L2.CX P w) P w K mg base N qual (defScope st) f cdv A outer s H E) → Fit X (fun c d _ H => E c d H) k → FB X (fun c d _ H => E c d H) (defBody st) bf) :
    Kn P w K mg base qual x st f ps (k + 1) n (run tr N.length bf) := by
  obtain ⟨fd, F⟩ := F
  refine ⟨fd, F, fnG_of F S (spOf.len hn) fun cdv A outer s H vs Q E hr h => ⟨_, body _ E ⟨cdv, A, outer, s, H, rfl⟩ ⟨takes_of rfl rfl rfl rfl, passes_of rfl, hr, rfl, S.nd⟩, spOf_body (Wx := fun E c d _ H => E c d H) rfl h⟩, ?_⟩
  obtain ⟨oc, od, dV, kV, doc, pm, an, cdv, ct, osl, rfl, lk, hcd, hD, hK⟩ := F.ex
  rcases hD with ⟨_, rfl⟩ | ⟨e, _⟩
  · exact Bd.pos (hb kV doc pm an cdv ct)
  · exact absurd rfl e
end

/-! ### calls of defs -/
/-- the items at these places -/
def gIx {α : Type} (ix : List Nat) (us : List α) : List α := ix.filterMap fun i => us[i]?
theorem gIx_vals {vs : List V} {us : List Value} (r : Vals vs us) : ∀ ix : List Nat, Vals (gIx ix vs) (gIx ix us)
  | [] => .nil
  | i :: ix => by
    unfold gIx
    rw [List.filterMap_cons, List.filterMap_cons]
    by_cases hi : i < vs.length
    · obtain ⟨u, hu, ru⟩ := r.get (List.getElem?_eq_getElem hi)
      rw [List.getElem?_eq_getElem hi, hu]
      exact .cons ru (gIx_vals r ix)
    · rw [List.getElem?_eq_none (by omega), List.getElem?_eq_none (by rw [← r.length]; omega)]
      exact gIx_vals r ix
theorem gIx_reps {K : Frag} {W : Wd} {ds : List D} {vs : List V} (r : Reps K W ds vs) : ∀ ix : List Nat, Reps K W (gIx ix ds) (gIx ix vs)
  | [] => .nil
  | i :: ix => by
    unfold gIx
    rw [List.filterMap_cons, List.filterMap_cons]
    by_cases hi : i < ds.length
    · obtain ⟨u, hu, ru⟩ := r.get (List.getElem?_eq_getElem hi)
      rw [List.getElem?_eq_getElem hi, hu]
      exact .cons ru (gIx_reps r ix)
    · rw [List.getElem?_eq_none (by omega), List.getElem?_eq_none (by rw [← r.length]; omega)]
      exact gIx_reps r ix
/-- a positional, b by name, put in order -/
def eCallK (n a b : Nat) (ix : List Nat) (g : List D → Store → R D) (fa fk : L → Store → R (List D)) : L → Store → R D := fun l S => (fa l S).bind fun ds S1 => (fk l S1).bind fun es S2 => if ds.length = a ∧ es.length = b ∧ (gIx ix (ds ++ es)).length = n then g (gIx ix (ds ++ es)) S2 else .bad
abbrev FK (X : Cx) (Wx : WX) (kws : List Keyword) (f : L → Store → R (List D)) : Prop := PK X kws (tL X.K Wx f)
theorem _root_.L2.PK.imp {X : Cx} {e : List Keyword} {t t' : TA} (h : PK X e t) (i : ∀ σ H Q, t' σ H Q → t σ H Q) : PK X e t' := ⟨fun pos p s σ H Q I q => h.run pos p s σ H Q I (i σ H Q q)⟩
section
variable {X : Cx} {Wx : WX} {j k n : Nat} {f : Addr} {ps : List Str} {g : List D → Store → R D} {qual x : Str} {st : Stmt} {p pos kpos : Pos} {e : Expr} {es : List Expr} {fa fk : L → Store → R (List D)} {fe : L → Store → R D} {kws : List Keyword} {nm : Option Str}
theorem fk_nil : FK X Wx [] aNil := pk_nil.imp fun σ H Q ⟨ρ, S, B, l, ok, sl, h⟩ => Post.ok_of (W := ⟨ρ, S, H, B⟩) ok h [] .nil
theorem fk_cons (ha : FE X Wx e fe) (hr : FK X Wx kws fk) : FK X Wx (⟨nm, e, kpos⟩ :: kws) (aCons fe fk) :=
  (pk_cons ha hr).imp fun σ H Q ⟨ρ, S, B, l, ok, sl, h⟩ =>
    ⟨ρ, S, B, l, ok, sl, h.bind.mono fun W1 d e1 o1 ⟨_, _, h1⟩ v rv => ⟨W1.ρ, W1.S, W1.B, l, o1, sl.ext e1 ok, h1.bind.mono fun W2 ds e2 o2 ⟨_, _, h2⟩ vs rvs =>
      Post.ok_of o2 h2 (v :: vs) (.cons (rv.ext e2 o1) rvs)⟩⟩
theorem fe_kn (h : Kn X.prog X.w X.K X.mg X.base qual x st f ps j n g) (c : Fit X Wx k) (hm : X.mg x = some (.ref f)) (hg : Gl X x) (ha : FA X Wx (e :: es) fa) (hj : j ≤ k := by decide) (hdb : (x == ("__debug__" : Str)) = false := by decide)
    (he : starEach (e :: es) X.env = (false, eval e X.env) :: starEach es X.env := by rfl) (hpl : (backTo pos (starEach es X.env)).any (·.1) = false := by rfl) : FE X Wx (.Call (.Name x p) (e :: es) [] pos) (eCalln n g fa) := by
  obtain ⟨fd, F, G, b⟩ := h
  exact fe_call (G.mono hj) c.rm c.tk hm F.kp b hg ha hdb he hpl
theorem fe_kn0 (h : Kn X.prog X.w X.K X.mg X.base qual x st f ps j n g) (c : Fit X Wx k) (hm : X.mg x = some (.ref f)) (hg : Gl X x) (hj : j ≤ k := by decide) (hdb : (x == ("__debug__" : Str)) = false := by decide) : FE X Wx (.Call (.Name x p) [] [] pos) (eCalln n g aNil) := by
  obtain ⟨fd, F, G, b⟩ := h
  exact fe_call0 (G.mono hj) c.rm c.tk hm F.kp b hg hdb
/-- the callee's promise -/
theorem kn_sp {K : Frag} {W : Wd} {σ : L2.St} {ds : List D} {vs : List V} {Q : VK} (ok : Ok K W) (r : Reps K W ds vs) (hl : ds.length = n) (h : Post K Wx σ W (g ds W.S) fun W d => ∀ v, Rep K W d v → Q v W.H) : spOf K n g vs W.H Q (WE Wx σ) :=
  ⟨W.ρ, W.S, W.B, ds, ok, r, hl, h.at⟩
theorem run_kn {pins : List (Addr × Obj)} {σ : L2.St} {s : Shared} {W : Wd} {Q : VK} {fd : FuncData} {args : Args} {us : List Value} {vs : List V} {ds : List D} (G : FnG X.prog X.w X.K X.mg X.base j f fd ps (spOf X.K n g)) (hr : RoomG j X.A) (tk : Takes X Wx)
    (hb : BindsTo s fd args (ps.zip us)) (I : Inv X pins σ W.H s) (r : Vals vs us) (ok : Ok X.K W) (rd : Reps X.K W ds vs) (hl : ds.length = n) (h : Post X.K Wx σ W (g ds W.S) fun W d => ∀ v, Rep X.K W d v → Q v W.H) :
    codeAny (model X.prog X.w) X.A (.call (.ref f) args) (fun r s' => match r with
      | .ok (.ret u) => EP X pins σ Q u s'
      | .ok _ => False
      | .error e => X.xe e s') s := by
  refine codeAny_mono (G.go X.A X.stack s W.H args us vs Q (WE Wx σ) hr I.env0 hb r (kn_sp ok rd hl h)) fun r s' hq => ?_
  have z := out_g (passAt tk σ) I hq
  cases r with
  | error e => exact z
  | ok fl => cases fl <;> exact z
theorem fe_knK (a b : Nat) (ix : List Nat) {ks : List Str} (h : Kn X.prog X.w X.K X.mg X.base qual x st f ps j n g) (c : Fit X Wx k) (hm : X.mg x = some (.ref f)) (hg : Gl X x) (ha : FA X Wx (e :: es) fa) (hk : FK X Wx kws fk)
    (hbk : ∀ (kV doc pm : Value) (an : Option Addr) (cdv ct : Value) (us ws : List Value), us.length = a → ws.length = b → bindArgs (PySem.W.fnOf x qual (defArgs st) (defBody st) (defScope st) .none kV doc pm an cdv ct) ⟨us, ks.zip ws⟩ = pure (ps.zip (gIx ix (us ++ ws))))
    (hj : j ≤ k := by decide) (hall : (backToKw pos (keywordEach kws X.env)).all (·.1.isSome) = true := by rfl) (hks : (backToKw pos (keywordEach kws X.env)).filterMap (·.1) = ks := by rfl)
    (hdb : (x == ("__debug__" : Str)) = false := by decide) (he : starEach (e :: es) X.env = (false, eval e X.env) :: starEach es X.env := by rfl)
    (hpl : ((backTo pos (starEach (e :: es) X.env)).any (·.1) || (backToKw pos (keywordEach kws X.env)).any (·.1.isNone)) = false := by rfl) : FE X Wx (.Call (.Name x p) (e :: es) kws pos) (eCallK n a b ix g fa fk) := by
  obtain ⟨fd, F, G, _⟩ := h
  refine ⟨fun pins s σ H Q I ⟨ρ, S, B, l, ok, sl, h⟩ => ?_⟩
  refine wpAny_Call_Name_kw (ld_glob I hg hm ?_ hdb)
  refine PySem.W.callWith_KW (h₀ := X.base) I.ok.mod.kin F.kp hall (thn (ha.run pos pins s σ H (fun vs H1 => tL X.K Wx fk σ H1 fun zs H2 => ∃ ρ2 S2 ds es, Ok X.K ⟨ρ2, S2, H2, B⟩ ∧ Reps X.K ⟨ρ2, S2, H2, B⟩ (ds ++ es) (vs ++ zs) ∧ vs.length = a ∧ zs.length = b ∧ (gIx ix (ds ++ es)).length = n ∧ Post X.K Wx σ ⟨ρ2, S2, H2, B⟩ (g (gIx ix (ds ++ es)) S2) fun W d => ∀ v, Rep X.K W d v → Q v W.H) I
    ⟨ρ, S, B, l, ok, sl, h.bind.mono fun W1 ds e1 o1 ⟨_, _, h1⟩ vs rvs => ?_⟩) fun us s1 ⟨vs, H1, I1, r, q⟩ => ?_) hpl he
  · have eB : W1.B = B := e1.B
    obtain ⟨ρ1, S1, H1, B1⟩ := W1
    cases eB
    refine ⟨ρ1, S1, B1, l, o1, sl.ext e1 ok, h1.bind.mono fun W2 es e2 o2 ⟨_, _, h2⟩ zs rzs => ?_⟩
    have eB : W2.B = B1 := e2.B
    obtain ⟨ρ2, S2, H2, B2⟩ := W2
    cases eB
    obtain ⟨hc, h2⟩ := Post.iff_ok h2
    exact ⟨ρ2, S2, ds, es, o2, (rvs.ext e2 o1).append rzs, by rw [← rvs.length]; exact hc.1, by rw [← rzs.length]; exact hc.2.1, hc.2.2, h2⟩
  · refine thn (hk.run pos pins s1 σ H1 _ I1 q) fun ws s2 ⟨zs, H2, I2, rz, ρ2, S2, ds, es, o2, rr, l1, l2, l3, q2⟩ => ⟨I2.kIn, ?_⟩
    rw [hks]
    have r2 := gIx_vals (r.append rz) ix
    have hbt : BindsTo s2 fd ⟨us, ks.zip ws⟩ (ps.zip (gIx ix (us ++ ws))) := by
      obtain ⟨oc, od, dV, kV, doc, pm, an, cdv, ct, osl, rfl, lk, hcd, hD, hK⟩ := F.ex
      rcases hD with ⟨_, rfl⟩ | ⟨e, _⟩
      · exact .of_eq (hbk kV doc pm an cdv ct us ws (by rw [← r.length]; exact l1) (by rw [← rz.length]; exact l2))
      · exact absurd rfl e
    refine wpAny_call (codeAny_mono (run_kn (W := ⟨ρ2, S2, H2, B⟩) G (c.rm.mono hj) c.tk hbt I2 r2 o2 (gIx_reps rr ix) l3 q2) fun r s' hq => ?_)
    cases r with
    | error e => exact hq
    | ok fl => cases fl with
      | ret u => exact hq
      | next => exact hq.elim
      | brk => exact hq.elim
      | cont => exact hq.elim
end
end HL
end
section
set_option Elab.async false
set_option linter.all false
set_option maxRecDepth 100000
set_option maxHeartbeats 1000000
namespace HL
open PySem PySem.Spec L2

/-! ### an instance, by value or in the store -/
def insOf (C : Str) (d : D) (S : Store) : Option (List Str × List D) := match d with
  | .ins C' ks vs => if C' = C then some (ks, vs) else none
  | .loc n => match S[n]? with
    | some (.ins C' ks vs) => if C' = C then some (ks, vs) else none
    | _ => none
  | _ => none
theorem insOf_ok {K : Frag} {W : Wd} {C : Str} {d : D} {v : V} {ks : List Str} {xs : List D} (ok : Ok K W) (r : Rep K W d v) (h : insOf C d W.S = some (ks, xs)) :
    ∃ a dx vs, v = .ref a ∧ W.H a = some (.ins (He.ga K C) dx (ks.zip vs)) ∧ ks.length = vs.length ∧ Reps K W xs vs := by
  unfold insOf at h
  split at h
  · split at h
    · rename_i hC
      subst hC
      cases h
      cases r with
      | ins h1 n hl q => exact ⟨_, _, _, rfl, h1, hl, q⟩
    · cases h
  · split at h
    · rename_i hx
      split at h
      · rename_i hC
        subst hC
        cases h
        obtain ⟨dx, vs, h1, hl, q⟩ := ok.obj _ _ hx
        cases r with
        | loc hn => exact ⟨_, dx, vs, rfl, h1, hl, q⟩
      · cases h
    · cases h
  · cases h
theorem lookup_rep {K : Frag} {W : Wd} {f : Str} : ∀ {ks : List Str} {xs : List D} {vs : List V} {d : D}, Reps K W xs vs → (ks.zip xs).lookup f = some d → ∃ v, (ks.zip vs).lookup f = some v ∧ Rep K W d v
  | [], xs, vs, d, r, h => by rw [List.zip_nil_left] at h; cases h
  | k :: ks, [], vs, d, r, h => by rw [List.zip_nil_right] at h; cases h
  | k :: ks, x :: xs, _, d, .cons (v := v) (vs := vs) r rs, h => by
    rw [List.zip_cons_cons, List.lookup_cons] at h ⊢
    cases e : f == k with
    | true => rw [e] at h; cases h; exact ⟨v, rfl, r⟩
    | false => rw [e] at h; exact lookup_rep rs h
theorem lookup_not {α : Type} {f : Str} : ∀ {ks : List Str} {vs : List α}, f ∉ ks → (ks.zip vs).lookup f = none
  | [], vs, h => by rw [List.zip_nil_left]; rfl
  | k :: ks, [], h => by rw [List.zip_nil_right]; rfl
  | k :: ks, v :: vs, h => by
    rw [List.zip_cons_cons, List.lookup_cons]
    have e : (f == k) = false := by
      rw [beq_eq_false_iff_ne]
      exact fun e => h (e ▸ List.mem_cons_self)
    rw [e]
    exact lookup_not fun z => h (List.mem_cons_of_mem _ z)
/-- e.f -/
def pFld (C f : Str) (d : D) (S : Store) : Option D := (insOf C d S).bind fun x => (x.1.zip x.2).lookup f
def eFld (C f : Str) (fo : L → Store → R D) : L → Store → R D := fun l S => (fo l S).bind fun d S1 => ofO (pFld C f d S1) S1
/-- nothing is raised -/
def R.noX {α : Type} (r : R α) : R α := match r with
  | .exc _ _ => .bad
  | r => r
@[simp] theorem R.noX_ok {α : Type} (a : α) (S : Store) : (R.ok a S).noX = .ok a S := rfl
@[simp] theorem R.noX_bad {α : Type} : (R.bad : R α).noX = .bad := rfl
/-- e.f, a property -/
def eProp (C : Str) (g : List D → Store → R D) (fo : L → Store → R D) : L → Store → R D := fun l S => (fo l S).bind fun d S1 => match insOf C d S1 with
  | some _ => (g [d] S1).noX
  | none => .bad
/-- e.m(..), a def of the class -/
def eUm (C m : Str) (n : Nat) (g : List D → Store → R D) (fo : L → Store → R D) (fa : L → Store → R (List D)) : L → Store → R D := fun l S => (fo l S).bind fun d S1 => match insOf C d S1 with
  | some x => if m ∈ x.1 then .bad else (fa l S1).bind fun ds S2 => if ds.length + 1 = n then g (d :: ds) S2 else .bad
  | none => .bad
def eUmK (C m : Str) (n a b : Nat) (ix : List Nat) (g : List D → Store → R D) (fo : L → Store → R D) (fa fk : L → Store → R (List D)) : L → Store → R D := fun l S => (fo l S).bind fun d S1 => match insOf C d S1 with
  | some x => if m ∈ x.1 then .bad else (fa l S1).bind fun ds S2 => (fk l S2).bind fun es S3 => if ds.length = a ∧ es.length = b ∧ (gIx ix (d :: ds ++ es)).length = n then g (gIx ix (d :: ds ++ es)) S3 else .bad
  | none => .bad
/-- C(..) -/
noncomputable def eMake (tr : Bool) (C : Str) (n : Nat) (g : List D → Store → R D) (fa : L → Store → R (List D)) : L → Store → R D := fun l S => (fa l S).bind fun ds S1 => if ds.length + 1 = n then (g (.loc S1.length :: ds) (S1 ++ [.ins C [] []])).bind fun r S2 => match r with
    | .non => fin tr S1 (.loc S1.length) S2
    | _ => .bad
  else .bad
noncomputable def eMakeK (tr : Bool) (C : Str) (n a b : Nat) (ix : List Nat) (g : List D → Store → R D) (fa fk : L → Store → R (List D)) : L → Store → R D := fun l S => (fa l S).bind fun ds S1 => (fk l S1).bind fun es S1 => if ds.length = a ∧ es.length = b ∧ (gIx ix (.loc S1.length :: ds ++ es)).length = n then (g (gIx ix (.loc S1.length :: ds ++ es)) (S1 ++ [.ins C [] []])).bind fun r S2 => match r with
    | .non => fin tr S1 (.loc S1.length) S2
    | _ => .bad
  else .bad
section
variable {X : Cx} {Wx : WX} {C : Str} {j k n : Nat} {ps : List Str} {g : List D → Store → R D} {qual x m : Str} {st : Stmt} {p pos apos : Pos} {o e : Expr} {es : List Expr} {fo : L → Store → R D} {fa fk : L → Store → R (List D)} {f : Str} {kws : List Keyword}
theorem fe_fld (ho : FE X Wx o fo) (c : Cls X.K (He.ga X.K C)) (n : NoAttr X.K (He.ga X.K C) f) (hb : attributeBase o f X.env (eval o X.env) = eval o X.env := by rfl) : FE X Wx (.Attribute o f pos) (eFld C f fo) :=
  (pe_fld ho hb).imp fun σ H Q ⟨ρ, S, B, l, ok, sl, h⟩ => ⟨ρ, S, B, l, ok, sl, h.bind.mono fun W1 d e1 o1 ⟨_, _, h1⟩ v rv => by
    obtain ⟨r, er, q⟩ := h1.ofO
    obtain ⟨⟨ks, xs⟩, h2, h3⟩ := Option.bind_eq_some_iff.mp er
    obtain ⟨a, dx, vs, rfl, ha, hl, rs⟩ := insOf_ok o1 rv h2
    obtain ⟨w, hw, rw'⟩ := lookup_rep rs h3
    exact ⟨a, _, dx, _, w, rfl, ha, c, n, hw, q W1.H (Same.refl _) o1 w rw'⟩⟩
/-- nothing comes out of a callee that wants nothing of exceptions -/
theorem no_exc {P : Program} {w : World} {outer : List Env} {H : Hp} {s : Shared} {u : Value} {s' : Shared} (h : L2.CX P w outer H s (fun _ _ _ => False) u s') : False := by
  obtain ⟨_, _, _, _, _, _, _, _, _, _, _, _, z⟩ := h
  exact z
theorem noX_post {α : Type} {K : Frag} {W : Wd} {σ : L2.St} {r : R α} {q : Wd → α → Prop} (h : Post K Wx σ W r.noX q) : Post K (fun _ _ _ _ => False) [] W r q := by
  cases r with
  | ok a S => exact h
  | exc e S => exact h.elim
  | bad => exact h.elim
theorem fe_prop {pa ga' : Addr} (h : Kn X.prog X.w X.K X.mg X.base qual x st ga' ps j 1 g) (c : Fit X Wx k) (cl : Cls X.K (He.ga X.K C)) (hp : PropOf X.K (He.ga X.K C) f pa ga') (ho : FE X Wx o fo) (hj : j + 1 ≤ k := by decide) (hb : attributeBase o f X.env (eval o X.env) = eval o X.env := by rfl) : FE X Wx (.Attribute o f pos) (eProp C g fo) := by
  obtain ⟨fd, F, G, b⟩ := h
  refine ⟨fun pins s σ H Q I ⟨ρ, S, B, l, ok, sl, h⟩ => ?_⟩
  refine attr_of hb (thn (ho.run pins s σ H (fun v H1 => ∃ ρ1 S1 d a dx fs, Ok X.K ⟨ρ1, S1, H1, B⟩ ∧ Rep X.K ⟨ρ1, S1, H1, B⟩ d v ∧ v = .ref a ∧ H1 a = some (.ins (He.ga X.K C) dx fs) ∧ Post X.K (fun _ _ _ _ => False) [] ⟨ρ1, S1, H1, B⟩ (g [d] S1) fun W d => ∀ v, Rep X.K W d v → Q v W.H) I
    ⟨ρ, S, B, l, ok, sl, h.bind.mono fun W1 d e1 o1 ⟨_, _, h1⟩ v rv => ?_⟩) fun u s1 ⟨v, H1, I1, rx, ρ1, S1, d, a, dx, fs, o1, rd, ev, ea, q⟩ => ?_)
  · have eB : W1.B = B := e1.B
    obtain ⟨ρ1, S1, H1, B1⟩ := W1
    cases eB
    cases hi : insOf C d S1 with
    | none => rw [hi] at h1; exact h1.elim
    | some y =>
      rw [hi] at h1
      obtain ⟨ks, xs⟩ := y
      obtain ⟨a, dx, vs, rfl, ha, hl, rs⟩ := insOf_ok (W := ⟨ρ1, S1, H1, B1⟩) o1 rv hi
      exact ⟨ρ1, S1, d, a, dx, _, o1, rv, rfl, ha, noX_post h1⟩
  · subst ev
    obtain rfl : u = Value.ref a := rx
    obtain ⟨mA, O, _, _, _, _⟩ := ins_get I1.hok ea
    obtain ⟨od, J, _⟩ := O.look
    obtain ⟨rest, hrec⟩ := hp.rec_
    have I2 := I1.tok (s1.toks + 1)
    have hc : (PySem.W.clsIn X.K (He.ga X.K C)).isSome = true := by
      obtain ⟨cd, hc, _⟩ := PySem.W.any_some cl.hd
      rw [hc]
      rfl
    have rr : RoomG (j + 1) X.A := c.rm.mono hj
    have hlen : ps.length = 1 := by
      have := G.len [.ref a] H1 Q (fun _ _ _ => False) ⟨ρ1, S1, B, [d], o1, .cons rd .nil, rfl, q⟩
      simpa using this.symm
    refine PySem.W.get_bind I1.kIn J (PySem.W.plainGet_of (cl.get f)).1 (PySem.W.findObj_data hc hp.at_ hp.get hp.tak) (PySem.W.plainGet_of (cl.get f)).2 (wpAny_call (PySem.W.prop_get (s := { s1 with toks := s1.toks + 1 }) I1.kIn hrec ?_))
    refine codeAny_mono (G.go X.A.in1 X.stack { s1 with toks := s1.toks + 1 } H1 ⟨[.ref a], []⟩ [.ref a] [.ref a] Q (fun _ _ _ => False) rr.in1 I2.env0.in1 (b.to _ [.ref a] [] I2.kIn hlen.symm) (.cons rfl .nil) ⟨ρ1, S1, B, [d], o1, .cons rd .nil, rfl, q⟩) fun r s' hq => ?_
    cases r with
    | error er => exact (no_exc hq).elim
    | ok fl =>
      cases fl with
      | ret u =>
        obtain ⟨v, H', I3, rv, q3⟩ := I2.after hq
        show wpAny _ _ (handedOut u) _ _ _
        rw [PySem.W.handedOut_of (handed_of rv)]
        exact wpAny_pure ⟨v, H', I3, rv, q3⟩
      | next => exact hq.elim
      | brk => exact hq.elim
      | cont => exact hq.elim
/-- what a method's call needs, in the context of the object -/
theorem um_obj {K : Frag} {W : Wd} {d : D} {v : V} {ks : List Str} {xs : List D} (ok : Ok K W) (rv : Rep K W d v) (hi : insOf C d W.S = some (ks, xs)) (hm : m ∉ ks) : ∃ a dx fs, v = .ref a ∧ W.H a = some (.ins (He.ga K C) dx fs) ∧ fs.lookup m = none := by
  obtain ⟨a, dx, vs, rfl, ha, hl, rs⟩ := insOf_ok ok rv hi
  exact ⟨a, dx, _, rfl, ha, lookup_not hm⟩
theorem fe_um {pl : Sem Bool} {fA : Addr} (h : Kn X.prog X.w X.K X.mg X.base qual x st fA ps j n g) (c : Fit X Wx k) (cl : Cls X.K (He.ga X.K C)) (hm : Meth X.K (He.ga X.K C) m fA) (ho : FE X Wx o fo) (ha : FA X Wx (e :: es) fa) (hj : j ≤ k := by decide)
    (hst : starEach (e :: es) X.env = (false, eval e X.env) :: starEach es X.env := by rfl) (hpl : (backTo pos (starEach es X.env)).any (·.1) = false := by rfl)
    (ht : eval (.Call (.Attribute o m apos) (e :: es) [] pos) X.env = (do
      let ov ← eval o X.env
      standAt apos.atName
      let (f, first) ← holding [ov] (getMethod ov m pl)
      callWith pos f first (backTo pos (starEach (e :: es) X.env)) (backToKw pos (keywordEach [] X.env))) := by rfl) : FE X Wx (.Call (.Attribute o m apos) (e :: es) [] pos) (eUm C m n g fo fa) := by
  obtain ⟨fd, F, G, b⟩ := h
  refine ⟨fun pins s σ H Q I ⟨ρ, S, B, l, ok, sl, h⟩ => ?_⟩
  refine PySem.W.methodCall_KW (pl := pl) (thn (ho.run pins s σ H (fun v H1 => ∃ a dx fs, v = .ref a ∧ H1 a = some (.ins (He.ga X.K C) dx fs) ∧ fs.lookup m = none ∧ tL X.K Wx fa σ H1 fun vs H2 => spOf X.K n g (.ref a :: vs) H2 Q (WE Wx σ)) I
    ⟨ρ, S, B, l, ok, sl, h.bind.mono fun W1 d e1 o1 ⟨_, _, h1⟩ v rv => ?_⟩) fun u s1 ⟨v, H1, I1, rx, a, dx, fs, ev, ea, hl, q⟩ => ?_) ht
  · have eB : W1.B = B := e1.B
    obtain ⟨ρ1, S1, H1, B1⟩ := W1
    cases eB
    cases hi : insOf C d S1 with
    | none => rw [hi] at h1; exact h1.elim
    | some y =>
      rw [hi] at h1
      obtain ⟨ks, xs⟩ := y
      dsimp only at h1
      by_cases hmk : m ∈ ks
      · rw [if_pos hmk] at h1; exact h1.elim
      · rw [if_neg hmk] at h1
        obtain ⟨a, dx, fs, rfl, hA, hn⟩ := um_obj (W := ⟨ρ1, S1, H1, B1⟩) o1 rv hi hmk
        refine ⟨a, dx, fs, rfl, hA, hn, ρ1, S1, B1, l, o1, sl.ext e1 ok, h1.bind.mono fun W2 ds e2 o2 ⟨_, _, h2⟩ vs rvs => ?_⟩
        obtain ⟨hc, h2⟩ := Post.iff_ok h2
        exact kn_sp o2 (.cons (rv.ext e2 o1) rvs) hc h2
  · subst ev
    obtain rfl : u = Value.ref a := rx
    refine getmeth_ok I1 ea cl hm hl ?_
    refine PySem.W.callWith_K (first := [.ref a]) (h₀ := X.base) I1.ok.mod.kin hm.kp (thn (ha.run pos pins s1 σ H1 _ I1 q) fun us s2 ⟨vs, H2, I2, r, q2⟩ => ⟨I2.kIn, ?_⟩) hst hpl
    exact run_g0 (us := .ref a :: us) (vs := .ref a :: vs) (G.mono hj) c.rm b (passAt c.tk σ) I2 (.cons rfl r) q2
theorem fe_um0 {pl : Sem Bool} {fA : Addr} (h : Kn X.prog X.w X.K X.mg X.base qual x st fA ps j n g) (c : Fit X Wx k) (cl : Cls X.K (He.ga X.K C)) (hm : Meth X.K (He.ga X.K C) m fA) (ho : FE X Wx o fo) (hj : j ≤ k := by decide)
    (ht : eval (.Call (.Attribute o m apos) [] [] pos) X.env = (do
      let ov ← eval o X.env
      standAt apos.atName
      let (f, first) ← holding [ov] (getMethod ov m pl)
      callWith pos f first (backTo pos (starEach [] X.env)) (backToKw pos (keywordEach [] X.env))) := by rfl) : FE X Wx (.Call (.Attribute o m apos) [] [] pos) (eUm C m n g fo aNil) := by
  obtain ⟨fd, F, G, b⟩ := h
  refine ⟨fun pins s σ H Q I ⟨ρ, S, B, l, ok, sl, h⟩ => ?_⟩
  refine PySem.W.methodCall_KW (pl := pl) (thn (ho.run pins s σ H (fun v H1 => ∃ a dx fs, v = .ref a ∧ H1 a = some (.ins (He.ga X.K C) dx fs) ∧ fs.lookup m = none ∧ spOf X.K n g [.ref a] H1 Q (WE Wx σ)) I
    ⟨ρ, S, B, l, ok, sl, h.bind.mono fun W1 d e1 o1 ⟨_, _, h1⟩ v rv => ?_⟩) fun u s1 ⟨v, H1, I1, rx, a, dx, fs, ev, ea, hl, q⟩ => ?_) ht
  · have eB : W1.B = B := e1.B
    obtain ⟨ρ1, S1, H1, B1⟩ := W1
    cases eB
    cases hi : insOf C d S1 with
    | none => rw [hi] at h1; exact h1.elim
    | some y =>
      rw [hi] at h1
      obtain ⟨ks, xs⟩ := y
      dsimp only at h1
      by_cases hmk : m ∈ ks
      · rw [if_pos hmk] at h1; exact h1.elim
      · rw [if_neg hmk] at h1
        obtain ⟨a, dx, fs, rfl, hA, hn⟩ := um_obj (W := ⟨ρ1, S1, H1, B1⟩) o1 rv hi hmk
        obtain ⟨_, _, h2⟩ := Post.ok_of (W := ⟨ρ1, S1, H1, B1⟩) o1 h1.bind
        obtain ⟨hc, h2⟩ := Post.iff_ok h2
        exact ⟨a, dx, fs, rfl, hA, hn, kn_sp (W := ⟨ρ1, S1, H1, B1⟩) o1 (.cons rv .nil) hc h2⟩
  · subst ev
    obtain rfl : u = Value.ref a := rx
    refine getmeth_ok I1 ea cl hm hl ?_
    exact PySem.W.callWith_K0 (first := [.ref a]) I1.kIn hm.kp (run_g0 (us := [.ref a]) (vs := [.ref a]) (G.mono hj) c.rm b (passAt c.tk σ) I1 (.cons rfl .nil) q)

/-! ### making -/
/-- the new instance joins the store -/
theorem made_ok {K : Frag} {W : Wd} {C : Str} {a dx : Addr} (ok : Ok K W) (ha : W.H a = none) (hdx : W.H dx = none) (ne : dx ≠ a) :
    Ext W ⟨fun i => if i = W.S.length then a else W.ρ i, W.S ++ [.ins C [] []], upd (upd W.H dx (.own a)) a (.ins (He.ga K C) dx []), W.B⟩ ∧ Ok K ⟨fun i => if i = W.S.length then a else W.ρ i, W.S ++ [.ins C [] []], upd (upd W.H dx (.own a)) a (.ins (He.ga K C) dx []), W.B⟩ := by
  have s1 : Same W.H (upd W.H dx (.own a)) := Same.upd hdx
  have e1 : Ext W ⟨W.ρ, W.S, upd W.H dx (.own a), W.B⟩ := Ext.same s1
  have o1 : Ok K ⟨W.ρ, W.S, upd W.H dx (.own a), W.B⟩ := ok.same s1
  have ha' : upd W.H dx (.own a) a = none := (upd_ne (Ne.symm ne)).trans ha
  obtain ⟨e2, o2⟩ := alloc_ok (W := ⟨W.ρ, W.S, upd W.H dx (.own a), W.B⟩) (p := a) (u := .ins (He.ga K C) dx []) (o := .ins C [] []) o1 ha' fun W' eh ex => ⟨dx, [], eh, rfl, .nil⟩
  exact ⟨e1.trans e2, o2⟩
theorem fe_make {tr : Bool} (h : Kn X.prog X.w X.K X.mg X.base qual x st (He.ma X.K (He.ga X.K C) "__init__") ps j n g) (c : Fit X Wx k) (M : Mk X.K (He.ga X.K C) (He.ma X.K (He.ga X.K C) "__init__")) (hm : X.mg C = some (.ref (He.ga X.K C))) (hg : Gl X C) (ha : FA X Wx (e :: es) fa) (hj : j + 1 ≤ k := by decide)
    (hdb : (C == ("__debug__" : Str)) = false := by decide) (he : starEach (e :: es) X.env = (false, eval e X.env) :: starEach es X.env := by rfl) (hpl : (backTo pos (starEach es X.env)).any (·.1) = false := by rfl) : FE X Wx (.Call (.Name C p) (e :: es) [] pos) (eMake tr C n g fa) := by
  obtain ⟨fd, F, G, b⟩ := h
  refine ⟨fun pins s σ H Q I ⟨ρ, S, B, l, ok, sl, h⟩ => ?_⟩
  refine wpAny_Call_Name_kw (ld_glob I hg hm ?_ hdb)
  refine PySem.W.callWith_K (h₀ := X.base) I.ok.mod.kin M.kp (thn (ha.run pos pins s σ H (fun vs H1 => ∀ a dx, H1 a = none → H1 dx = none → dx ≠ a → spOf X.K n g (.ref a :: vs) (upd (upd H1 dx (.own a)) a (.ins (He.ga X.K C) dx [])) (fun v H2 => v = .non ∧ Q (.ref a) H2) (WE Wx σ)) I
    ⟨ρ, S, B, l, ok, sl, h.bind.mono fun W1 ds e1 o1 ⟨_, _, h1⟩ vs rvs a dx ha hdx hne => ?_⟩) fun us s1 ⟨vs, H1, I1, r, q⟩ => ⟨I1.kIn, ?_⟩) he hpl
  · obtain ⟨hc, h1⟩ := Post.iff_ok h1
    obtain ⟨e2, o2⟩ := made_ok (C := C) o1 ha hdx hne
    refine ⟨_, _, _, .loc W1.S.length :: ds, o2, .cons ?_ (rvs.ext e2 o1), hc, ?_⟩
    · have q : Rep X.K ⟨fun i => if i = W1.S.length then a else W1.ρ i, W1.S ++ [.ins C [] []], upd (upd W1.H dx (.own a)) a (.ins (He.ga X.K C) dx []), W1.B⟩ (.loc W1.S.length) (.ref ((⟨fun i => if i = W1.S.length then a else W1.ρ i, W1.S ++ [.ins C [] []], upd (upd W1.H dx (.own a)) a (.ins (He.ga X.K C) dx []), W1.B⟩ : Wd).ρ W1.S.length)) :=
        Rep.loc (K := X.K) (W := ⟨fun i => if i = W1.S.length then a else W1.ρ i, W1.S ++ [.ins C [] []], upd (upd W1.H dx (.own a)) a (.ins (He.ga X.K C) dx []), W1.B⟩) (n := W1.S.length) (by simp)
      simpa using q
    · cases hq : g (.loc W1.S.length :: ds) (W1.S ++ [.ins C [] []]) with
      | bad => rw [hq] at h1; exact h1.elim
      | exc x S2 =>
        rw [hq] at h1
        exact fun ρ' H' cls d e3 o3 rx => h1 ρ' H' cls d (e2.trans e3) o3 rx
      | ok r S2 =>
        rw [hq] at h1
        intro ρ' H' e3 o3 v rv
        cases rv with
        | non =>
          refine ⟨rfl, fin_ok (E := WE Wx σ) o1 h1.at (e2.trans e3) o3 ?_⟩
          have hlt : W1.S.length < S2.length := by
            have := e3.len
            simp at this
            omega
          have hr : ρ' W1.S.length = a := by
            have := e3.rho W1.S.length (by simp)
            simpa using this
          rw [← hr]
          exact Rep.loc (K := X.K) (W := ⟨ρ', S2, H', W1.B⟩) hlt
        | _ => exact h1.elim
  · have I2 := Inv.made (C := He.ga X.K C) I1
    have hq := q (s1.heap.objs.size + 1) s1.heap.objs.size (I1.hok.fresh (Nat.le_succ _)) (I1.hok.fresh (Nat.le_refl _)) (Nat.ne_of_lt (Nat.lt_succ_self _))
    have r2 : Vals (V.ref (s1.heap.objs.size + 1) :: vs) (Value.ref (s1.heap.objs.size + 1) :: us) := .cons rfl r
    have hl : (Value.ref (s1.heap.objs.size + 1) :: us).length = ps.length := by rw [← r2.length]; exact G.len _ _ _ _ hq
    refine wpAny_call (make_map (f := He.ma X.K (He.ga X.K C) "__init__") I1.kIn M.makes M.init (beq_iff_eq.mp M.fn) (codeAny_mono (G.go _ X.stack _ _ ⟨Value.ref (s1.heap.objs.size + 1) :: us, []⟩ (Value.ref (s1.heap.objs.size + 1) :: us) _ _ (WE Wx σ) ((c.rm.mono hj).make (He.ga X.K C) us [])
      (I2.env0.make (He.ga X.K C) us []) (b.to _ (Value.ref (s1.heap.objs.size + 1) :: us) [] I2.kIn hl) r2 hq) fun r s' hq' => ?_))
    cases r with
    | error er => exact passAt c.tk σ pins _ _ er s' I2 hq'
    | ok fl =>
      cases fl with
      | ret u =>
        obtain ⟨v, H', I3, rv, ev, q3⟩ := I2.after hq'
        subst ev
        exact ⟨rv, ⟨V.ref (s1.heap.objs.size + 1), H', I3, rfl, q3⟩⟩
      | next => exact hq'.elim
      | brk => exact hq'.elim
      | cont => exact hq'.elim
end

/-! ### e.f = v -/
def putK (f : Str) : List Str → List Str
  | [] => [f]
  | g :: ks => if g = f then g :: ks else g :: putK f ks
def putV {α : Type} (f : Str) (d : α) : List Str → List α → List α
  | [], _ => [d]
  | g :: ks, v :: vs => if g = f then d :: vs else v :: putV f d ks vs
  | _ :: _, [] => []
theorem putF_zip {f : Str} {y : V} : ∀ {ks : List Str} {vs : List V}, ks.length = vs.length → putF f y (ks.zip vs) = (putK f ks).zip (putV f y ks vs)
  | [], [], _ => rfl
  | g :: ks, v :: vs, h => by
    rw [List.zip_cons_cons]
    unfold putF putK putV
    by_cases e : g = f
    · rw [if_pos e, if_pos e, if_pos e, List.zip_cons_cons]
    · rw [if_neg e, if_neg e, if_neg e, List.zip_cons_cons, putF_zip (by simpa using h)]
theorem put_length {f : Str} {y : V} : ∀ {ks : List Str} {vs : List V}, ks.length = vs.length → (putK f ks).length = (putV f y ks vs).length
  | [], [], _ => rfl
  | g :: ks, v :: vs, h => by
    unfold putK putV
    by_cases e : g = f
    · rw [if_pos e, if_pos e]; simpa using h
    · rw [if_neg e, if_neg e, List.length_cons, List.length_cons, put_length (by simpa using h)]
theorem put_reps {K : Frag} {W : Wd} {f : Str} {d : D} {y : V} (r : Rep K W d y) : ∀ {ks : List Str} {xs : List D} {vs : List V}, Reps K W xs vs → Reps K W (putV f d ks xs) (putV f y ks vs)
  | [], _, _, _ => .cons r .nil
  | g :: ks, _, _, .nil => .nil
  | g :: ks, _, _, .cons h rs => by
    unfold putV
    by_cases e : g = f
    · rw [if_pos e, if_pos e]; exact .cons r rs
    · rw [if_neg e, if_neg e]; exact .cons h (put_reps r rs)
def setFl (C f : Str) (o d : D) (S : Store) : Option Store := match o with
  | .loc n => match S[n]? with
    | some (.ins C' ks vs) => if C' = C ∧ ks.length < 1000 then some (S.set n (.ins C (putK f ks) (putV f d ks vs))) else none
    | _ => none
  | _ => none
def sSetF (C f : Str) (fo fv : L → Store → R D) : L → Store → Fl := fun l S => (fv l S).toS l fun d S1 => (fo l S1).toS l fun o S2 => match setFl C f o d S2 with
  | some S3 => .nx l S3
  | none => .bad
section
variable {X : Cx} {Wx : WX} {C f : Str} {o value : Expr} {fo fv : L → Store → R D} {pos pos' : Pos}
theorem fs_setF (ho : FE X Wx o fo) (hv : FE X Wx value fv) (c : Cls X.K (He.ga X.K C)) (n : NoAttr X.K (He.ga X.K C) f) (hs : swapsWith value (some (.Attribute o f pos')) pos.line X.env = pure false := by rfl) : FS X Wx (.Assign [.Attribute o f pos'] value pos) (sSetF C f fo fv) :=
  (ps_fld ho hv hs).imp fun D σ H ⟨ρ, S, B, l, ok, sl, h⟩ => ⟨ρ, S, B, l, ok, sl, (h.toS sl ok).mono fun W1 d e1 o1 ⟨_, _, h1⟩ y ry => ⟨W1.ρ, W1.S, W1.B, l, o1, sl.ext e1 ok, (h1.toS (sl.ext e1 ok) o1).mono fun W2 ob e2 o2 ⟨_, _, h2⟩ v rv => by
    unfold setFl at h2
    cases ob with
    | loc m =>
      dsimp only at h2
      cases hx : W2.S[m]? with
      | none => rw [hx] at h2; exact h2.elim
      | some oo => cases oo with
        | lst xs => rw [hx] at h2; exact h2.elim
        | ins C' ks xs =>
          rw [hx] at h2
          dsimp only at h2
          by_cases hc : C' = C ∧ ks.length < 1000
          · rw [if_pos hc] at h2
            obtain ⟨hC, hk⟩ := hc
            subst hC
            obtain ⟨dx, vs, hA, hl, rs⟩ := o2.obj m _ hx
            cases rv with
            | loc hn =>
              refine ⟨_, _, dx, ks.zip vs, rfl, hA, c, n, by rw [List.length_zip, ← hl, Nat.min_self]; exact hk, ?_⟩
              rw [putF_zip hl]
              obtain ⟨e3, o3⟩ := wr_ok (W := W2) (n := m) (u := .ins (He.ga X.K C') dx ((putK f ks).zip (putV f y ks vs))) (o := .ins C' (putK f ks) (putV f d ks xs)) o2 hn fun W' eh ex => ⟨dx, _, eh, put_length hl, put_reps ((ry.ext e2 o1).ext ex o2) (rs.ext ex o2)⟩
              exact h2 _ _ σ e3 o3 (((sl.ext e1 ok).ext e2 o1).ext e3 o2)
          · rw [if_neg hc] at h2; exact h2.elim
    | _ => exact h2.elim⟩⟩
end
end HL
end
section
set_option Elab.async false
set_option linter.all false
set_option maxRecDepth 100000
set_option maxHeartbeats 1000000
namespace HL
open PySem PySem.Spec L2

/-! ### constants of the module -/
section
variable {X : Cx} {Wx : WX} {x : Str} {p pos : Pos}
theorem fe_gint {i : Int} (hg : Gl X x) (h : ∃ t, X.mg x = some (.int i t)) (hdb : (x == ("__debug__" : Str)) = false := by decide) : FE X Wx (.Name x p) (eCon (.int i)) := by
  obtain ⟨t, h⟩ := h
  exact fe_of (pe_glob (v := V.int i) hg h ⟨t, rfl⟩ hdb) fun _ => .int i
theorem fe_gstr {z : Str} (hg : Gl X x) (h : ∃ t, X.mg x = some (.str z t)) (hdb : (x == ("__debug__" : Str)) = false := by decide) : FE X Wx (.Name x p) (eCon (.str z)) := by
  obtain ⟨t, h⟩ := h
  exact fe_of (pe_glob (v := V.str z) hg h ⟨t, rfl⟩ hdb) fun _ => .str z
end

/-! ### sorted(xs, key=f), f of the form (len(x), x), xs tuples without lists -/
mutual
def noL : PyData → Bool
  | .list _ => false
  | .dict _ => false
  | .tuple xs => noLs xs
  | _ => true
def noLs : List PyData → Bool
  | [] => true
  | d :: ds => noL d && noLs ds
end
mutual
theorem reads_noL {h : Heap} : ∀ {d : PyData} {v : Value} {as : List Addr}, noL d = true → Reads h v d as → as = []
  | .none, _, _, _, r => by cases r; rfl
  | .bool _, _, _, _, r => by cases r; rfl
  | .int _, _, _, _, r => by cases r; rfl
  | .str _, _, _, _, r => by cases r; rfl
  | .list _, _, _, z, _ => by cases z
  | .dict _, _, _, z, _ => by cases z
  | .tuple xs, _, _, z, r => by
    cases r with
    | tuple h1 h2 h3 h4 => exact readsAll_noL z h4
theorem readsAll_noL {h : Heap} : ∀ {ds : List PyData} {vs : List Value} {as : List Addr}, noLs ds = true → ReadsAll h vs ds as → as = []
  | [], _, _, _, r => by cases r; rfl
  | d :: ds, _, _, z, r => by
    unfold noLs at z
    obtain ⟨z1, z2⟩ := Bool.and_eq_true_iff.mp z
    cases r with
    | cons h1 h2 => rw [reads_noL z1 h1, readsAll_noL z2 h2]; rfl
end
def tupOf (d : D) : List D := match nt d with
  | .tup xs => xs
  | _ => []
/-- (len(x), x) -/
def keyLot (d : D) : PyData := .tuple [.int (tupOf d).length, encD d]
structure CanSortK (xs : List D) : Prop where
  py : ∀ d ∈ xs, (∃ ys, nt d = .tup ys) ∧ ∃ p, toPy d = some p ∧ noL p = true
  al : PySem.W.AllAlike (xs.map keyLot)
  le : xs.length ≤ sizeLine
  dp : ∀ d ∈ xs, (encD d).depth ≤ 60
open Classical in
noncomputable def pSortLot (ds : List D) (S : Store) : Option D := match ds with
  | [d] => (seqL d S).bind fun xs => if CanSortK xs then some (.lst (xs.mergeSort (PySem.W.dataLe false keyLot))) else none
  | _ => none
/-- the def at f gives (len(x), x) -/
structure IsLotKey (K : Frag) (f : Addr) : Prop where
  ex : ∃ (x qual : Str) (params : Arguments) (body : List Stmt) (scope : Scope) (fd : FuncData) (y : Str) (p1 p2 p3 p4 p5 p6 : Pos) (kk : Nat), FunD K x qual params body scope [] [] f fd ∧ body = [.Return (some (.Tuple [.Call (.Name "len" p1) [.Name y p2] [] p3, .Name y p4] kk p5)) p6] ∧ FnScope [y] [y] scope ∧
    scope.names.lookup y = some .local ∧ scope.names.lookup (Str.ofString "len") = some NameKind.globalImplicit ∧ (y == ("__debug__" : Str)) = false ∧ (∀ (kV doc pm : Value) (an : Option Addr) (cdv ct : Value) (u : Value), bindArgs (PySem.W.fnOf x qual params body scope .none kV doc pm an cdv ct) ⟨[u], []⟩ = pure ([y].zip [u]))
theorem key_pure {X : Cx} {s : Shared} {H : Hp} {f a : Addr} {vs : List V} {p : PyData} {A : Around} (Fk : IsLotKey X.K f) (hA : RoomG 1 A) (e0 : Env0 X.prog X.w X.K X.mg X.base A X.stack s H) (hlen : X.mg "len" = none) (h : SqT X.K H a vs) (hr : Reads s.heap (.ref a) p []) :
    wpAny (model X.prog X.w) A (call (.ref f) [.ref a]) (PySem.W.KeyPure (.tuple [.int vs.length, p]) s) (fun _ _ => False) s := by
  obtain ⟨x, qual, params, body, scope, fd, y, p1, p2, p3, p4, p5, p6, kk, F, hbody, S, hy, hl, hdb, hb⟩ := Fk.ex
  obtain ⟨oc, od, dV, kV, doc, pm, an, cdv, ct, osl, rfl, lk, hcd, hD, _⟩ := F.ex
  have KX : X.K.In s.heap := e0.mod.kin.keeps fun b o e => (e0.bs b o e).1
  have lim : s.heap.NoLimit := e0.mod.nolimit.keeps fun b o e => (e0.bs b o e).1
  obtain rfl : dV = .none := by
    rcases hD with ⟨_, h⟩ | ⟨h, _⟩
    · exact h
    · exact absurd rfl h
  have hkind : ∀ z ∈ [y].zip [Value.ref a], scope.names.lookup z.1 = some .local ∨ (scope.names.lookup z.1 = some .cell ∧ ((cellsFrom (s.heap.objs.size + 1) scope.names []).lookup z.1).isSome = true) := fun z hz => by
    obtain ⟨n, v⟩ := z
    have := (List.of_mem_zip hz).1
    have e : n = y := by simpa using this
    exact .inl (by rw [e]; exact hy)
  have hB : BindsTo s (PySem.W.fnOf x qual params body scope .none kV doc pm an cdv ct) ⟨[.ref a], []⟩ ([y].zip [.ref a]) := BindsTo.of_eq (hb kV doc pm an cdv ct (.ref a))
  have main : codeAny (model X.prog X.w) A (.call (.ref f) ⟨[.ref a], []⟩) (fun r s' => match r with
    | .ok (.ret u) => PySem.W.KeyPure (.tuple [.int vs.length, p]) s u s'
    | _ => False) s := by
    refine PySem.codeAny_call_function hA.r.depth (KX _ _ lk) rfl S.co S.gen rfl (PySem.W.codeRec_of KX hcd) (hB _ _ _ _ ?_)
    refine wpAny_newFunctionEnv_cells S.kind hkind fun env he s1 xx => ?_
    subst he
    refine ⟨lim.keeps xx.toInCall.keep, PySem.codeAny_func ?_⟩
    have I : Inv (cxOf (L2.CX X.prog X.w) X.prog X.w X.K X.mg X.base [y] qual scope f cdv A X.stack s H (fun _ _ _ => False)) [] (L2.start [y] [V.ref a]) H s1 := inv_start S hA.r.hd e0 rfl (.cons rfl .nil) xx
    obtain ⟨h1, tk, rfl, hk⟩ := xx.done
    obtain ⟨m, hn, hl2⟩ := I.loc
    obtain ⟨u, ru, look⟩ := hl2 0 y (.ref a) rfl rfl (.inl hy)
    obtain rfl : u = .ref a := ru
    have hm : m y = some (.ref a) := by
      rcases look with ⟨_, hm⟩ | ⟨hk', _⟩
      · exact hm
      · have z : scope.names.lookup y = some .cell ∨ scope.names.lookup y = some .free := hk'
        rcases z with z | z <;> (rw [hy] at z; cases z)
    have ld : ∀ {Q : Value → Shared → Prop} {E : Value → Shared → Prop} {q : Pos} {t : Nat}, Q (.ref a) ⟨h1, s.gens, s.drawn, t, s.os⟩ → wpAny (model X.prog X.w) (A.deeper (PyProof.Rows.envOfC qual scope s.heap.objs.size f cdv)) (eval (.Name y q) (PyProof.Rows.envOfC qual scope s.heap.objs.size f cdv)) Q E ⟨h1, s.gens, s.drawn, t, s.os⟩ :=
      fun {Q E q t} hq => wpAny_Name (wpAny_loadName_local S.kind hy hn hm hq) hdb
    obtain ⟨its, rv, pl, hz⟩ := I.tuple h
    have hlen' := rv.length
    have hn2 := line63
    subst hbody
    refine wpAny_execs_cons (wpAny_Return_some (wpAny_Tuple_spliced ?_))
    refine Calls.spliced_cons (wpAny_Call_Name_kw (ld_blt I (show scope.names.lookup (Str.ofString "len") = some NameKind.globalImplicit from hl) hlen boot_len ?_))
    refine PyProof.Rows.callWith_builtin1 (Calls.spliced_cons (ld (Calls.spliced_nil ?_))) rfl rfl
    refine PyProof.Rows.len_tuple pl (by simp only [List.size_toArray] <;> omega) ?_
    refine Calls.spliced_cons (ld (Calls.spliced_nil ⟨by show 2 ≤ sizeLine; decide, ?_⟩))
    refine ⟨_, _, rfl, fun b o e => Heap.get?_push_of_some _ (hk b o e), ?_⟩
    have e2 : ((its.toArray.size : Nat) : Int) = (vs.length : Nat) := by rw [List.size_toArray, hlen']
    have rr : Reads (h1.push { cls := .type "tuple", data := .seq [Value.int (its.toArray.size : Nat) (tk + 1), .ref a].toArray }) (.ref a) p [] := PyProof.Rows.Reads.keeps (fun b o e => Heap.get?_push_of_some _ (hk b o e)) hr
    refine Reads.tuple (Heap.get?_push_size _ rfl) rfl rfl ?_
    rw [← e2]
    exact .cons (as := []) (.int _ _) (.cons (as := []) rr .nil)
  refine wpAny_call (codeAny_mono main fun r s' hq => ?_)
  cases r with
  | error e => exact hq.elim
  | ok fl => cases fl with
    | ret u => exact hq
    | next => exact hq.elim
    | brk => exact hq.elim
    | cont => exact hq.elim
theorem sortable_keys (xs : List D) : PySem.W.Sortable (xs.map keyLot) := .inl fun d hd => by
  obtain ⟨b, _, rfl⟩ := List.mem_map.mp hd
  exact ⟨_, _, rfl⟩
section
variable {X : Cx} {Wx : WX} {k : Nat} {f : Addr} {x : Str} {p pos p2 kpos : Pos} {e : Expr} {fa : L → Store → R (List D)}
theorem callK_lot (Fk : IsLotKey X.K f) (c : Fit X Wx k) (hk3 : 3 ≤ k) (hlen : X.mg "len" = none) : CallRK X (.builtin "sorted") [Str.ofString "key"] (fun xs zs H Q => zs = [.ref f] ∧ rPl X.K pSortLot xs H Q) := by
  intro pins s σ H xs zs us ws Q I r rz ⟨hz, ρ, S, B, ds, e, ok, rd, hp, k'⟩
  subst hz
  obtain ⟨w1, rfl, e1⟩ := vals1 rz
  obtain rfl : w1 = Value.ref f := e1
  unfold pSortLot at hp
  split at hp
  · obtain ⟨ys, h1, h2⟩ := Option.bind_eq_some_iff.mp hp
    split at h2
    · rename_i cs
      cases h2
      obtain ⟨v, rfl, h⟩ := rd.one
      obtain ⟨a, vs, rfl, h3, q⟩ := seqL_ok ok h h1
      obtain ⟨u, rfl, rx⟩ := vals1 r
      cases rx
      obtain ⟨its, rv, pl, _⟩ := I.list h3
      have rA : RoomG 1 X.A.in1.in1 := ((c.rm.mono hk3).in1).in1
      refine PySem.W.sorted_key_data (b := false) keyLot pl.isList (reps_each q rv) cs.al (sortable_keys ys) cs.le (fun d hd => ?_) (PyProof.Rows.ksk_s1 _ _) (fun _ => PyProof.Rows.ksk_l1 _ _) (fun _ => PyProof.Rows.ksk_t1 _ _) (fun v d hv hd h tk hk => ?_) fun out c' h' tk hk _ ho hl hE => ?_
      · have := cs.dp d hd
        have hu := c.rm.r.un
        have : (keyLot d).depth ≤ 61 := by
          show max 0 (max (encD d).depth 0) + 1 ≤ 61
          omega
        omega
      · obtain ⟨w, rw', ru⟩ := hv
        obtain ⟨⟨zs, hz⟩, pp, hpp, hnl⟩ := cs.py d hd
        have ed : encD d = pp := by unfold encD; rw [hpp]; rfl
        have I2 : Inv X pins σ H { s with heap := h, toks := tk } := I.kept (t' := tk) hk
        have rn := rw'.nt
        rw [hz] at rn
        cases rn with
        | @tup _ ws2 b h4 q4 =>
          cases ru
          obtain ⟨as, rr⟩ := Dp.reads I2 pp _ _ (rw'.dp ok hpp) rfl
          have z := reads_noL hnl rr
          subst z
          have hl4 : ws2.length = (tupOf d).length := by
            unfold tupOf
            rw [hz]
            exact q4.length.symm
          have kp := key_pure (A := X.A.in1.in1) (s := { s with heap := h, toks := tk }) Fk rA I2.env0.in1.in1 hlen h4 rr
          rw [hl4] at kp
          unfold keyLot
          rw [ed]
          exact kp
      · exact sorted_end I ok hk (by rw [List.length_mergeSort]; exact cs.le) ho hE k'
    · cases h2
  · cases hp
theorem fe_sortLot {x2 : Str} (Fk : IsLotKey X.K f) (c : Fit X Wx k) (hm : X.mg "sorted" = none) (hg : Gl X "sorted") (hmx : X.mg x2 = some (.ref f)) (hgx : Gl X x2) (hlen : X.mg "len" = none) (ha : FA X Wx [e] fa) (hk3 : 3 ≤ k := by decide) (hdb : (x2 == ("__debug__" : Str)) = false := by decide)
    (he : backTo pos (starEach [e] X.env) = (false, eval e X.env) :: backTo pos (starEach [] X.env) := by rfl) (hpl : (backTo pos (starEach [e] X.env)).any (·.1) = false := by rfl)
    (hall : (backToKw pos (keywordEach [⟨some "key", .Name x2 p2, kpos⟩] X.env)).all (·.1.isSome) = true := by rfl) (hnone : (backToKw pos (keywordEach [⟨some "key", .Name x2 p2, kpos⟩] X.env)).any (·.1.isNone) = false := by rfl) (hks : (backToKw pos (keywordEach [⟨some "key", .Name x2 p2, kpos⟩] X.env)).filterMap (·.1) = [Str.ofString "key"] := by rfl) :
    FE X Wx (.Call (.Name "sorted" p) [e] [⟨some "key", .Name x2 p2, kpos⟩] pos) (mCall pSortLot fa) :=
  (pe_callBK (callK_lot Fk c hk3 hlen) hg hm (by decide +kernel) ha (pk_cons (pe_glob (v := V.ref f) hgx hmx rfl hdb) pk_nil) (he := he) (hpl := hpl) (hall := hall) (hnone := hnone) (hks := hks)).imp fun σ H Q h => by
    obtain ⟨ρ, S, B, l, ok, sl, h⟩ := h
    refine ⟨ρ, S, B, l, ok, sl, h.bind.mono fun W1 ds e1 o1 ⟨_, _, h1⟩ vs rvs => ?_⟩
    obtain ⟨r, er, q⟩ := h1.ofO
    exact ⟨rfl, W1.ρ, W1.S, W1.B, ds, r, o1, rvs, er, fun H' v' s rv' => q H' s o1 v' rv'⟩
end

/-! ### what the head must tell -/
/-- a def as it stands at an address -/
structure DefA where
  at_ : Frag → Addr
  name : Str
  qual : Str
  params : Arguments
  body : List Stmt
  scope : Scope
def fnA (K : Frag) (a : Addr) : He.FnW := match K.lookup a with
  | some ⟨_, _, .func fd, _⟩ => some (fd.name, fd.qualname, fd.params, fd.body, fd.scope, fd.globals, fd.closure, fd.builtins)
  | _ => none
def DefA.val (d : DefA) : He.FnW := some (d.name, d.qual, d.params, .stmts d.body, d.scope, mainGlobals, [], builtinsNs)
def DefA.ok (K : Frag) (d : DefA) : Bool := PySem.W.keepIn K (.ref (d.at_ K)) && (match K.lookup (d.at_ K) with
  | some ⟨_, _, .func fd, _⟩ => PySem.W.codeIn K fd.code d.qual && (He.dflB K fd.defaults [] && He.kwdB K fd.kwdefaults [])
  | _ => false)
theorem DefA.funD {K : Frag} {d : DefA} (e : fnA K (d.at_ K) = d.val) (c : d.ok K = true) : ∃ fd, FunD K d.name d.qual d.params d.body d.scope [] [] (d.at_ K) fd := by
  obtain ⟨kp, c2⟩ := He.ba c
  unfold fnA at e
  cases q : K.lookup (d.at_ K) with
  | none =>
    rw [q] at c2
    cases c2
  | some o =>
    obtain ⟨oc, od, dt, osl⟩ := o
    rw [q] at c2 e
    cases dt with
    | func fd =>
      obtain ⟨n1, n2, n3, n4, n5, n6, n7, n8, n9, n10, n11, n12, n13, n14, n15⟩ := fd
      have e2 : (some (n1, n2, n3, n4, n5, n6, n7, n15) : He.FnW) = some (d.name, d.qual, d.params, .stmts d.body, d.scope, mainGlobals, [], builtinsNs) := e
      simp only [Option.some.injEq, Prod.mk.injEq] at e2
      obtain ⟨h1, h2, h3, h4, h5, h6, h7, h8⟩ := e2
      subst h1 h2 h3 h4 h5 h6 h7 h8
      have c3 : (PySem.W.codeIn K n13 d.qual && (He.dflB K n8 [] && He.kwdB K n9 [])) = true := c2
      obtain ⟨k1, k2⟩ := He.ba c3
      obtain ⟨k3, k4⟩ := He.ba k2
      exact ⟨_, ⟨oc, od, n8, n9, n10, n11, n12, n13, n14, osl, rfl, q, k1, He.dflB_ok k3, He.kwdB_ok k4⟩, kp⟩
    | _ => cases c2
/-- a property: the class, the name -/
def prP (K : Frag) (C a : Str) : Addr := He.ma K (He.ga K C) a
def prGet (C a : Str) (K : Frag) : Addr := match PySem.W.recIn K (prP K C a) "property" with
  | some (.ref g :: _) => g
  | _ => 0
def prB (K : Frag) (x : Str × Str) : Bool := He.eqO (PySem.W.findIn K (.ref (He.ga K x.1)) x.2) (some (some (.ref (prP K x.1 x.2)))) && (He.eqO (PySem.W.specialIn K (.ref (prP K x.1 x.2)) "__get__") (some (some (.builtin "property.__get__"))) &&
  (decide (PySem.W.takesIn K (.ref (prP K x.1 x.2)) = some true) && (match PySem.W.recIn K (prP K x.1 x.2) "property" with
    | some (.ref _ :: _) => true
    | _ => false)))
theorem prB_ok {K : Frag} {x : Str × Str} (h : prB K x = true) : PropOf K (He.ga K x.1) x.2 (prP K x.1 x.2) (prGet x.1 x.2 K) := by
  obtain ⟨h1, h⟩ := He.ba h
  obtain ⟨h2, h⟩ := He.ba h
  obtain ⟨h3, h4⟩ := He.ba h
  refine ⟨He.eqO_ok h1, He.eqO_ok h2, of_decide_eq_true h3, ?_⟩
  unfold prGet
  split at h4
  · rename_i g r e
    rw [e]
    exact ⟨r, rfl⟩
  · cases h4
/-- a class for isinstance -/
def isB (K : Frag) (C : Str) : Bool := (["NoneType", "bool", "int", "str", "tuple", "list", "set"].all fun a => decide (PySem.W.kitOne K (.type a) (.ref (He.ga K C)) = some false)) && ((He.Fa.cls C).ok K && (He.eqO (PySem.W.findIn K (.ref (He.ga K C)) "__class__") (some (some (.builtin "object.__class__"))) &&
  (He.eqO (PySem.W.specialIn K (.builtin "object.__class__") "__get__") (some (some (.builtin "getset_descriptor.__get__"))) && (decide (PySem.W.takesIn K (.builtin "object.__class__") = some true) && decide (PySem.W.mroIn K (He.ga K C) (Value.type "object") = some true)))))
theorem isB_ok {X : Cx} {C : Str} (h : isB X.K C = true) : IsiC X C := by
  obtain ⟨h1, h⟩ := He.ba h
  obtain ⟨h2, h⟩ := He.ba h
  obtain ⟨h3, h⟩ := He.ba h
  obtain ⟨h4, h⟩ := He.ba h
  obtain ⟨h5, h6⟩ := He.ba h
  exact ⟨fun a ha => of_decide_eq_true (List.all_eq_true.mp h1 a ha), He.cls_ok h2, He.eqO_ok h3, He.eqO_ok h4, of_decide_eq_true h5, of_decide_eq_true h6⟩
abbrev AlA : Type := Bool × List He.FnW
def obsA (fa : List He.Fa) (fn : List DefA) (pr : List (Str × Str)) (is : List Str) (K : Frag) : AlA := ((fa.all fun f => f.ok K) && ((fn.all fun d => d.ok K) && ((pr.all fun x => prB K x) && is.all fun x => isB K x)), fn.map fun d => fnA K (d.at_ K))
def valA (fn : List DefA) : AlA := (true, fn.map DefA.val)
/-- what the head has told -/
structure TxOf (fa : List He.Fa) (fn : List DefA) (pr : List (Str × Str)) (is : List Str) (K : Frag) (mg : Str → Option Value) : Prop where
  heap : ∃ h : Heap, K.In h ∧ h.Ns mainGlobals mg
  says : obsA fa fn pr is K = valA fn
section
variable {fa : List He.Fa} {fn : List DefA} {pr : List (Str × Str)} {is : List Str} {K : Frag} {mg : Str → Option Value}
theorem TxOf.parts (T : TxOf fa fn pr is K mg) : (fa.all fun f => f.ok K) = true ∧ (fn.all fun d => d.ok K) = true ∧ (pr.all fun x => prB K x) = true ∧ (is.all fun x => isB K x) = true ∧ (fn.map fun d => fnA K (d.at_ K)) = fn.map DefA.val := by
  have h := T.says
  have h1 : ((fa.all fun f => f.ok K) && ((fn.all fun d => d.ok K) && ((pr.all fun x => prB K x) && is.all fun x => isB K x))) = true := congrArg (fun z : AlA => z.1) h
  obtain ⟨a, h1⟩ := He.ba h1
  obtain ⟨b, h1⟩ := He.ba h1
  obtain ⟨c, d⟩ := He.ba h1
  exact ⟨a, b, c, d, congrArg (fun z : AlA => z.2) h⟩
theorem TxOf.fact (T : TxOf fa fn pr is K mg) (i : Nat) {f : He.Fa} (h : fa[i]? = some f) : f.ok K = true := List.all_eq_true.mp T.parts.1 f (List.mem_of_getElem? h)
theorem TxOf.fr (T : TxOf fa fn pr is K mg) (i : Nat) {x : Str} (h : fa[i]? = some (.free x)) : mg x = none := let ⟨_, k, g⟩ := T.heap; He.free_ok k g (T.fact i h)
theorem TxOf.gl (T : TxOf fa fn pr is K mg) (i : Nat) {x : Str} (h : fa[i]? = some (.glo x)) : mg x = some (.ref (He.ga K x)) := let ⟨_, k, g⟩ := T.heap; He.glo_ok k g (T.fact i h)
theorem TxOf.it (T : TxOf fa fn pr is K mg) (i : Nat) {x : Str} {n : Int} (h : fa[i]? = some (.int x n)) : ∃ t, mg x = some (.int n t) := let ⟨_, k, g⟩ := T.heap; He.int_ok k g (T.fact i h)
theorem TxOf.st (T : TxOf fa fn pr is K mg) (i : Nat) {x z : Str} (h : fa[i]? = some (.str x z)) : ∃ t, mg x = some (.str z t) := let ⟨_, k, g⟩ := T.heap; He.str_ok k g (T.fact i h)
theorem TxOf.cl (T : TxOf fa fn pr is K mg) (i : Nat) {x : Str} (h : fa[i]? = some (.cls x)) : Cls K (He.ga K x) := He.cls_ok (T.fact i h)
theorem TxOf.na (T : TxOf fa fn pr is K mg) (i : Nat) {x f : Str} (h : fa[i]? = some (.noat x f)) : NoAttr K (He.ga K x) f := He.noat_ok (T.fact i h)
theorem TxOf.mr (T : TxOf fa fn pr is K mg) (i : Nat) {x : Str} (h : fa[i]? = some (.mkr x)) : Mk K (He.ga K x) (He.ma K (He.ga K x) "__init__") := He.mkr_ok (T.fact i h)
theorem TxOf.me (T : TxOf fa fn pr is K mg) (i : Nat) {x m : Str} (h : fa[i]? = some (.meth x m)) : Meth K (He.ga K x) m (He.ma K (He.ga K x) m) := He.meth_ok (T.fact i h)
theorem TxOf.dn (T : TxOf fa fn pr is K mg) (i : Nat) {d : DefA} (h : fn[i]? = some d) : ∃ fd, FunD K d.name d.qual d.params d.body d.scope [] [] (d.at_ K) fd := by
  obtain ⟨_, b, _, _, e⟩ := T.parts
  have e2 : (fn.map fun d => fnA K (d.at_ K))[i]? = (fn.map DefA.val)[i]? := by rw [e]
  rw [List.getElem?_map, List.getElem?_map, h] at e2
  exact DefA.funD (Option.some.inj e2) (List.all_eq_true.mp b d (List.mem_of_getElem? h))
theorem TxOf.pp (T : TxOf fa fn pr is K mg) (i : Nat) {x : Str × Str} (h : pr[i]? = some x) : PropOf K (He.ga K x.1) x.2 (prP K x.1 x.2) (prGet x.1 x.2 K) := prB_ok (List.all_eq_true.mp T.parts.2.2.1 x (List.mem_of_getElem? h))
theorem TxOf.is_ {X : Cx} (T : TxOf fa fn pr is X.K mg) (i : Nat) {x : Str} (h : is[i]? = some x) : IsiC X x := isB_ok (List.all_eq_true.mp T.parts.2.2.2.1 x (List.mem_of_getElem? h))
end

/-! ### comprehensions, by contexts that fit -/
section
variable {X : Cx} {Wx : WX} {k : Nat} {elt tg iter : Expr} {ifs : List Expr} {scope : Scope} {own : List (Str × Nat)} {pos : Pos} {fi : L → Store → R Src} {g : Tgt} {ix : List Nat} {t : L → Store → R Bool} {e : L → Store → R D}
theorem fe_lcF (c : Fit X Wx k) (hi : FI X Wx tg iter fi) (okB : BlkOk X.N X.env.scope scope own) (hg : ∀ (s : Shared) (H : Hp) (C : Addr) (cl : List (Str × Addr)) (fp : List Addr), Fit (X.blk s H scope (compEnvC scope cl C X.env) fp) wx0 k → FG (X.blk s H scope (compEnvC scope cl C X.env) fp) tg g ix) (hix : ∀ i ∈ ix, i ∈ own.map (·.2)) (ht : ∀ (s : Shared) (H : Hp) (C : Addr) (cl : List (Str × Addr)) (fp : List Addr), Fit (X.blk s H scope (compEnvC scope cl C X.env) fp) wx0 k → FTs (X.blk s H scope (compEnvC scope cl C X.env) fp) ifs t) (he : ∀ (s : Shared) (H : Hp) (C : Addr) (cl : List (Str × Addr)) (fp : List Addr), Fit (X.blk s H scope (compEnvC scope cl C X.env) fp) wx0 k → FE (X.blk s H scope (compEnvC scope cl C X.env) fp) wx0 elt e) (hs : ∀ x, foldedSetIterable iter X.env x = pure x := by intro _; rfl) : FE X Wx (.ListComp elt [⟨tg, iter, ifs, 0⟩] scope pos) (eLc fi g t e (own.map (·.2))) :=
  fe_lc c.cm c.nd hi okB (fun s H C cl fp => hg s H C cl fp (c.blk s H _ _ fp)) hix (fun s H C cl fp => ht s H C cl fp (c.blk s H _ _ fp)) (fun s H C cl fp => he s H C cl fp (c.blk s H _ _ fp)) hs
theorem fe_lcNF (c : Fit X Wx k) (hi : FI X Wx tg iter fi) (okB : BlkOk X.N X.env.scope scope own) (hg : ∀ (s : Shared) (H : Hp) (C : Addr) (cl : List (Str × Addr)) (fp : List Addr), Fit (X.blk s H scope (compEnvC scope cl C X.env) fp) wx0 k → FG (X.blk s H scope (compEnvC scope cl C X.env) fp) tg g ix) (hix : ∀ i ∈ ix, i ∈ own.map (·.2)) (ht : ∀ (s : Shared) (H : Hp) (C : Addr) (cl : List (Str × Addr)) (fp : List Addr), Fit (X.blk s H scope (compEnvC scope cl C X.env) fp) wx0 k → FTs (X.blk s H scope (compEnvC scope cl C X.env) fp) ifs t) (he : ∀ (s : Shared) (H : Hp) (C : Addr) (cl : List (Str × Addr)) (fp : List Addr), Fit (X.blk s H scope (compEnvC scope cl C X.env) fp) wx0 k → FE (X.blk s H scope (compEnvC scope cl C X.env) fp) wx0 elt e) (hs : ∀ x, foldedSetIterable iter X.env x = pure x := by intro _; rfl) : FE X Wx (.ListComp elt [⟨tg, iter, ifs, 0⟩] scope pos) (eLcN fi g t e (own.map (·.2))) :=
  fe_lcN c.cm c.nd hi okB (fun s H C cl fp => hg s H C cl fp (c.blk s H _ _ fp)) hix (fun s H C cl fp => ht s H C cl fp (c.blk s H _ _ fp)) (fun s H C cl fp => he s H C cl fp (c.blk s H _ _ fp)) hs
theorem fs_setLcF (i : Nat) {y : Str} {py spos : Pos} (c : Fit X Wx k) (hi : FI X Wx tg iter fi) (okB : BlkOk X.N X.env.scope scope own) (hg : ∀ (s : Shared) (H : Hp) (C : Addr) (cl : List (Str × Addr)) (fp : List Addr), Fit (X.blk s H scope (compEnvC scope cl C X.env) fp) wx0 k → FG (X.blk s H scope (compEnvC scope cl C X.env) fp) tg g ix) (hix : ∀ i ∈ ix, i ∈ own.map (·.2)) (ht : ∀ (s : Shared) (H : Hp) (C : Addr) (cl : List (Str × Addr)) (fp : List Addr), Fit (X.blk s H scope (compEnvC scope cl C X.env) fp) wx0 k → FTs (X.blk s H scope (compEnvC scope cl C X.env) fp) ifs t) (he : ∀ (s : Shared) (H : Hp) (C : Addr) (cl : List (Str × Addr)) (fp : List Addr), Fit (X.blk s H scope (compEnvC scope cl C X.env) fp) wx0 k → FE (X.blk s H scope (compEnvC scope cl C X.env) fp) wx0 elt e) (hy : X.N[i]? = some y := by rfl) (hyl : X.env.scope.names.lookup y = some .local := by rfl) (hk : X.env.scope.kind = .function := by rfl) (hl : (py.line == pos.line) = true := by rfl) (ha : (scope.names.any fun (n, k) => n == y && (k == .local || k == .cell)) = false := by rfl) (hs : ∀ x, foldedSetIterable iter X.env x = pure x := by intro _; rfl) : FS X Wx (.Assign [.Name y py] (.ListComp elt [⟨tg, iter, ifs, 0⟩] scope pos) spos) (sSet i (eLc fi g t e (own.map (·.2)))) :=
  fs_setLc c.cm c.nd hi okB (fun s H C cl fp => hg s H C cl fp (c.blk s H _ _ fp)) hix (fun s H C cl fp => ht s H C cl fp (c.blk s H _ _ fp)) (fun s H C cl fp => he s H C cl fp (c.blk s H _ _ fp)) hy hyl hk hl ha hs
theorem fs_setLcNF (i : Nat) {y : Str} {py spos : Pos} (c : Fit X Wx k) (hi : FI X Wx tg iter fi) (okB : BlkOk X.N X.env.scope scope own) (hg : ∀ (s : Shared) (H : Hp) (C : Addr) (cl : List (Str × Addr)) (fp : List Addr), Fit (X.blk s H scope (compEnvC scope cl C X.env) fp) wx0 k → FG (X.blk s H scope (compEnvC scope cl C X.env) fp) tg g ix) (hix : ∀ i ∈ ix, i ∈ own.map (·.2)) (ht : ∀ (s : Shared) (H : Hp) (C : Addr) (cl : List (Str × Addr)) (fp : List Addr), Fit (X.blk s H scope (compEnvC scope cl C X.env) fp) wx0 k → FTs (X.blk s H scope (compEnvC scope cl C X.env) fp) ifs t) (he : ∀ (s : Shared) (H : Hp) (C : Addr) (cl : List (Str × Addr)) (fp : List Addr), Fit (X.blk s H scope (compEnvC scope cl C X.env) fp) wx0 k → FE (X.blk s H scope (compEnvC scope cl C X.env) fp) wx0 elt e) (hy : X.N[i]? = some y := by rfl) (hyl : X.env.scope.names.lookup y = some .local := by rfl) (hk : X.env.scope.kind = .function := by rfl) (hl : (py.line == pos.line) = true := by rfl) (ha : (scope.names.any fun (n, k) => n == y && (k == .local || k == .cell)) = false := by rfl) (hs : ∀ x, foldedSetIterable iter X.env x = pure x := by intro _; rfl) : FS X Wx (.Assign [.Name y py] (.ListComp elt [⟨tg, iter, ifs, 0⟩] scope pos) spos) (sSet i (eLcN fi g t e (own.map (·.2)))) :=
  fs_setLcN c.cm c.nd hi okB (fun s H C cl fp => hg s H C cl fp (c.blk s H _ _ fp)) hix (fun s H C cl fp => ht s H C cl fp (c.blk s H _ _ fp)) (fun s H C cl fp => he s H C cl fp (c.blk s H _ _ fp)) hy hyl hk hl ha hs
end
end HL
end
section
set_option Elab.async false
set_option linter.all false
set_option maxRecDepth 100000
set_option maxHeartbeats 1000000
namespace HL
open PySem PySem.Spec L2

/-! ### the Hook: all that stands in the heap -/
def frAll (g : Addr → Option Obj) : Frag := He.frG g (List.range 2000)
section
variable (fa : List He.Fa) (fn : List DefA) (pr : List (Str × Str)) (is : List Str)
def hookA : PySem.W.Hook where
  α := AlA
  obs := fun s => obsA fa fn pr is (frAll s.heap.get?)
  val := fun _ => valA fn
  says := fun _ h => ∃ K : Frag, K.In h ∧ obsA fa fn pr is K = valA fn
  of := fun _ _ e => ⟨_, He.frG_in, e⟩
  keeps := fun _ _ _ ⟨K, hK, c⟩ k => ⟨K, PySem.W.Frag.In.keeps hK k, c⟩
def obT (s : PySem.W.SharedT) : AlA := obsA fa fn pr is (frAll (HandSHeadRun.getT s))
theorem obT_eq (s : PySem.W.SharedT) : obT fa fn pr is s = (hookA fa fn pr is).obs s.abs := by
  have e : HandSHeadRun.getT s = s.abs.heap.get? := funext (HandSHeadRun.getT_eq s)
  show obsA fa fn pr is (frAll (HandSHeadRun.getT s)) = obsA fa fn pr is (frAll s.abs.heap.get?)
  rw [e]
end

/-! ### the law's call -/
/-- the script's numbers, as data -/
def cellsD (ns : List Int) : D := .scr (ns.map .int)
theorem reps_ints {K : Frag} {W : Wd} : ∀ ns : List Int, Reps K W (ns.map .int) (ns.map V.int)
  | [] => .nil
  | n :: ns => .cons (.int n) (reps_ints ns)
theorem law_callG {P : Program} {w : World} {K : Frag} {mg mb : Str → Option Value} {k : Nat} {fA cell : Addr} {fd : FuncData} {x : Str} {g : List D → Store → R D} {st : Shared} {us : List Value} {ns : List Int}
    (KX : K.In st.heap) (nsG : st.heap.Ns mainGlobals mg) (nsB : st.heap.Ns builtinsNs mb) (bB : ∀ y : Str, y ≠ "__name__" → mb y = bootBuiltins y) (nl : st.heap.NoLimit) (noG : st.gens = #[])
    (hcell : st.heap.get? cell = some { cls := .type "list", data := .seq us.toArray }) (hus : PyProof.Rows.IntsAre us ns) (hlen : ns.length ≤ sizeLine) (room : RoomG k callerA)
    (F : ∀ base : Heap, K.In base → base.Ns mainGlobals mg → FnG P w K mg base k fA fd [x] (spOf K 1 g)) (bind1 : ∀ (s : Shared) (u : Value), BindsTo s fd ⟨[u], []⟩ [(x, u)])
    (law : ∃ S, g [cellsD ns] [] = .ok (.bl true) S) :
    codeAny (model P w) callerA (.call (.ref fA) ⟨[.ref cell], []⟩) (fun r s' => r = .ok (.ret (.bool true)) ∧ OldK st.heap s'.heap ∧ s'.os = st.os ∧ PyProof.Rows.AllBare s'.gens) st := by
  have vu := vals_ints hus
  have lenU := hus.length
  obtain ⟨SF, law⟩ := law
  -- whatever of the script alone is tracked
  have go : ∀ H : Hp, Only H → SqF K H cell (ns.map V.int) → HOk P w H st.heap → (∀ b, H b ≠ none → b = cell) → (H cell ≠ none → K.lookup cell = none) →
      codeAny (model P w) callerA (.call (.ref fA) ⟨[.ref cell], []⟩) (fun r s' => r = .ok (.ret (.bool true)) ∧ OldK st.heap s'.heap ∧ s'.os = st.os ∧ PyProof.Rows.AllBare s'.gens) st := by
    intro H only hq hHOk own notK
    have toBase : ∀ {b : Addr} {ob : Obj}, st.heap.get? b = some ob → H b = none → (hidT st.heap H).get? b = some ob := fun e n => hidT_get e n
    have dictFree : ∀ {b : Addr} {ob : Obj} {es : Array DictEntry} {ep : Nat}, st.heap.get? b = some ob → ob.data = .dict es ep → H b = none := fun {b ob es ep} e d => by
      cases z : H b with
      | none => rfl
      | some u =>
        have eb : b = cell := own b (by rw [z]; simp)
        subst eb
        rw [hcell] at e
        cases e
        have d2 : Data.seq us.toArray _ = Data.dict es ep := d
        cases d2
    have nsBase : ∀ {b : Addr} {m : Str → Option Value}, st.heap.Ns b m → (hidT st.heap H).Ns b m := fun {b m} ⟨ob, es, ep, e, d, rr⟩ => ⟨ob, es, ep, toBase e (dictFree e d), d, rr⟩
    have KB : K.In (hidT st.heap H) := fun b ob e => toBase (KX b ob e) (by
      cases z : H b with
      | none => rfl
      | some u =>
        have eb : b = cell := own b (by rw [z]; simp)
        subst eb
        rw [notK (by rw [z]; simp)] at e
        cases e)
    have modB : L2.Mod K mg (hidT st.heap H) := ⟨KB, nsBase nsG, ⟨mb, nsBase nsB, bB⟩, let ⟨mc, n1, n2⟩ := nl; ⟨mc, nsBase n1, n2⟩⟩
    have env : Env0 P w K mg (hidT st.heap H) callerA [] st H := ⟨rfl, modB, fun b ob e => of_hidT e, Nat.le_of_eq (hidT_size _ _), trivial, fun b hb => absurd (show b ∈ ([] : List Addr) from hb) (by simp), hHOk, .of_eq noG⟩
    have ok : Ok K ⟨fun _ => 0, [], H, fun _ => False⟩ := ⟨fun _ z => z.elim, fun _ z => z.elim, fun i j hi => absurd hi (Nat.not_lt_zero _), fun i o hi => by simp at hi⟩
    have sp : spOf K 1 g [.ref cell] H (fun v _ => v = .bl true) (fun _ _ _ => False) := by
      refine ⟨fun _ => 0, [], fun _ => False, [cellsD ns], ok, .cons (.scr hq (reps_ints ns)) .nil, rfl, ?_⟩
      rw [law]
      intro ρ' H' _ _ v rv
      cases rv
      rfl
    refine codeAny_mono ((F _ KB (nsBase nsG)).go callerA [] st H ⟨[.ref cell], []⟩ [.ref cell] [.ref cell] _ _ room env (bind1 st (.ref cell)) (.cons rfl .nil) sp) fun r s' hres => ?_
    cases r with
    | error er => exact (no_exc hres).elim
    | ok fl =>
      cases fl with
      | next => exact hres.elim
      | brk => exact hres.elim
      | cont => exact hres.elim
      | ret u =>
        obtain ⟨v, H', osE, bareE, unE, hok', rv, hv⟩ := hres
        have hv' : v = .bl true := hv
        subst hv'
        obtain rfl : u = Value.bool true := rv
        refine ⟨rfl, OldK.of_keep fun b ob e => ?_, osE, bareE⟩
        cases z : H b with
        | none => exact unE.keep b ob e z (by intro hb; exact absurd (show b ∈ ([] : List Addr) from hb) (by simp)) (by simp)
        | some u =>
          rcases only b with hn | ⟨o2, ys, hf⟩
          · rw [z] at hn; cases hn
          · have hf2 := unE.frzs b o2 _ hf
            obtain ⟨g1, _⟩ := hHOk b _ hf
            obtain ⟨g2, _⟩ := hok' b _ hf2
            rw [e] at g1
            cases g1
            exact g2
  cases inK : K.lookup cell with
  | some ob =>
    have e := KX cell ob inK
    rw [hcell] at e
    cases e
    exact go (fun _ => none) (fun _ => .inl rfl) (.inr ⟨_, us.toArray, _, inK, rfl, rfl, rfl, by rw [List.size_toArray, lenU]; exact hlen, by simpa using vu⟩) (fun b u z => nomatch (show (none : Option HO) = some u from z)) (fun b z => absurd rfl z) fun z => absurd rfl z
  | none =>
    refine go (fun b => if b = cell then some (.frz { cls := .type "list", data := .seq us.toArray } (.lst (ns.map V.int))) else none) (fun b => ?_) (.inl ⟨{ cls := .type "list", data := .seq us.toArray }, if_pos rfl⟩) (fun b u z => ?_) (fun b z => ?_) fun _ => inK
    · by_cases eb : b = cell
      · exact .inr ⟨_, _, if_pos eb⟩
      · exact .inl (if_neg eb)
    · by_cases eb : b = cell
      · have z2 := (if_pos eb).symm.trans z
        cases z2
        subst eb
        exact ⟨hcell, by rw [List.length_map]; exact hlen, us, _, vu, hcell⟩
      · exact nomatch (if_neg eb).symm.trans z
    · by_cases eb : b = cell
      · exact eb
      · exact absurd (if_neg eb) z
/-- the goal that the head leaves -/
theorem walkG {l : PySem.W.OpenLaw} {n k : Nat} {q : Program} {loose : List Str} {XP : (Str → Option Value) → Heap → Prop} {YP : World → Heap → Prop} {d : DefRec} {x : Str} {g : List D → Store → R D}
    (hn : l.most = some n) (hn2 : n ≤ sizeLine) (hdf : d.params.defaults = []) (room : RoomG k callerA)
    (F : ∀ (w : World) (mg : Str → Option Value) (fA : Addr) (h : Heap), YP w h → h.Ns mainGlobals mg → mg d.name = some (.ref fA) →
      ∃ (K : Frag) (fd : FuncData), K.In h ∧ (∀ (s : Shared) (u : Value), BindsTo s fd ⟨[u], []⟩ [(x, u)]) ∧ ∀ base : Heap, K.In base → base.Ns mainGlobals mg → FnG l.prog w K mg base k fA fd [x] (spOf K 1 g))
    (law : ∀ ns : List Int, ns.length ≤ n → ∃ S, g [cellsD ns] [] = .ok (.bl true) S) : PySem.W.WalkO q loose XP YP l.row.toRowW d [] (fun f vs => PySem.call f vs) := by
  refine Att.attach_call hn hdf fun w s0 s1 mg mb fA o pm cd doc a vs ns G Y ho hd hcd hmg hobj hints hlen hg => ?_
  obtain ⟨K, fd, KX, hb, hF⟩ := F w mg fA _ Y G.T.g hmg
  exact law_callG KX G.T.g G.T.b G.T.builtins G.T.nolimit hg hobj hints (Nat.le_trans hlen hn2) room hF hb (law ns hlen)
end HL
end
section
set_option Elab.async false
set_option linter.all false
set_option maxRecDepth 100000
set_option maxHeartbeats 1000000
namespace HL
open PySem PySem.Spec L2

/-! ### a call by names alone -/
section
variable {X : Cx} {Wx : WX} {j k n : Nat} {f : Addr} {ps : List Str} {g : List D → Store → R D} {qual x : Str} {st : Stmt} {p pos kpos : Pos} {fk : L → Store → R (List D)} {kws : List Keyword}
def eCallK0 (n b : Nat) (ix : List Nat) (g : List D → Store → R D) (fk : L → Store → R (List D)) : L → Store → R D := fun l S => (fk l S).bind fun es S2 => if es.length = b ∧ (gIx ix es).length = n then g (gIx ix es) S2 else .bad
theorem fe_knK0 (b : Nat) (ix : List Nat) {ks : List Str} (h : Kn X.prog X.w X.K X.mg X.base qual x st f ps j n g) (c : Fit X Wx k) (hm : X.mg x = some (.ref f)) (hg : Gl X x) (hk : FK X Wx kws fk)
    (hbk : ∀ (kV doc pm : Value) (an : Option Addr) (cdv ct : Value) (ws : List Value), ws.length = b → bindArgs (PySem.W.fnOf x qual (defArgs st) (defBody st) (defScope st) .none kV doc pm an cdv ct) ⟨[], ks.zip ws⟩ = pure (ps.zip (gIx ix ws)))
    (hj : j ≤ k := by decide) (hall : (backToKw pos (keywordEach kws X.env)).all (·.1.isSome) = true := by rfl) (hks : (backToKw pos (keywordEach kws X.env)).filterMap (·.1) = ks := by rfl)
    (hdb : (x == ("__debug__" : Str)) = false := by decide)
    (hpl : ((backTo pos (starEach [] X.env)).any (·.1) || (backToKw pos (keywordEach kws X.env)).any (·.1.isNone)) = false := by rfl) : FE X Wx (.Call (.Name x p) [] kws pos) (eCallK0 n b ix g fk) := by
  obtain ⟨fd, F, G, _⟩ := h
  refine ⟨fun pins s σ H Q I ⟨ρ, S, B, l, ok, sl, h⟩ => ?_⟩
  refine wpAny_Call_Name_kw (ld_glob I hg hm ?_ hdb)
  refine PySem.W.callWith_KW0 (h₀ := X.base) I.ok.mod.kin F.kp hall (thn (hk.run pos pins s σ H (fun zs H2 => ∃ ρ2 S2 es, Ok X.K ⟨ρ2, S2, H2, B⟩ ∧ Reps X.K ⟨ρ2, S2, H2, B⟩ es zs ∧ zs.length = b ∧ (gIx ix es).length = n ∧ Post X.K Wx σ ⟨ρ2, S2, H2, B⟩ (g (gIx ix es) S2) fun W d => ∀ v, Rep X.K W d v → Q v W.H) I
    ⟨ρ, S, B, l, ok, sl, h.bind.mono fun W2 es e2 o2 ⟨_, _, h2⟩ zs rzs => ?_⟩) fun ws s2 ⟨zs, H2, I2, rz, ρ2, S2, es, o2, rr, l2, l3, q2⟩ => ⟨I2.kIn, ?_⟩) hpl
  · have eB : W2.B = B := e2.B
    obtain ⟨ρ2, S2, H2, B2⟩ := W2
    cases eB
    obtain ⟨hc, h2⟩ := Post.iff_ok h2
    exact ⟨ρ2, S2, es, o2, rzs, by rw [← rzs.length]; exact hc.1, hc.2, h2⟩
  · rw [hks]
    have r2 := gIx_vals rz ix
    have hbt : BindsTo s2 fd ⟨[], ks.zip ws⟩ (ps.zip (gIx ix ws)) := by
      obtain ⟨oc, od, dV, kV, doc, pm, an, cdv, ct, osl, rfl, lk, hcd, hD, hK⟩ := F.ex
      rcases hD with ⟨_, rfl⟩ | ⟨e, _⟩
      · exact .of_eq (hbk kV doc pm an cdv ct ws (by rw [← rz.length]; exact l2))
      · exact absurd rfl e
    refine wpAny_call (codeAny_mono (run_kn (W := ⟨ρ2, S2, H2, B⟩) G (c.rm.mono hj) c.tk hbt I2 r2 o2 (gIx_reps rr ix) l3 q2) fun r s' hq => ?_)
    cases r with
    | error e => exact hq
    | ok fl => cases fl with
      | ret u => exact hq
      | next => exact hq.elim
      | brk => exact hq.elim
      | cont => exact hq.elim
end

/-! ### min(xs), max(xs) of a list of whole numbers -/
def minI : List Int → Int
  | [] => 0
  | x :: xs => xs.foldl min x
def maxI : List Int → Int
  | [] => 0
  | x :: xs => xs.foldl max x
theorem minI_fold : ∀ (xs : List Int) (x : Int), (xs.foldl min x = x ∨ xs.foldl min x ∈ xs) ∧ xs.foldl min x ≤ x ∧ ∀ y ∈ xs, xs.foldl min x ≤ y
  | [], x => ⟨.inl rfl, Int.le_refl _, fun _ h => nomatch h⟩
  | z :: xs, x => by
    obtain ⟨a, b, c⟩ := minI_fold xs (min x z)
    rw [List.foldl_cons]
    refine ⟨?_, by omega, fun y hy => ?_⟩
    · rcases a with a | a
      · rw [a]
        by_cases h : x ≤ z
        · exact .inl (by omega)
        · exact .inr (by rw [show min x z = z by omega]; exact .head _)
      · exact .inr (.tail _ a)
    · rcases List.mem_cons.mp hy with rfl | hy
      · omega
      · exact c y hy
theorem minI_spec {xs : List Int} (h : 0 < xs.length) : minI xs ∈ xs ∧ ∀ y ∈ xs, minI xs ≤ y := by
  cases xs with
  | nil => simp at h
  | cons x xs =>
    obtain ⟨a, b, c⟩ := minI_fold xs x
    refine ⟨?_, fun y hy => ?_⟩
    · show xs.foldl min x ∈ x :: xs
      rcases a with a | a
      · rw [a]; exact .head _
      · exact .tail _ a
    · rcases List.mem_cons.mp hy with rfl | hy
      · exact b
      · exact c y hy
theorem maxI_fold : ∀ (xs : List Int) (x : Int), (xs.foldl max x = x ∨ xs.foldl max x ∈ xs) ∧ x ≤ xs.foldl max x ∧ ∀ y ∈ xs, y ≤ xs.foldl max x
  | [], x => ⟨.inl rfl, Int.le_refl _, fun _ h => nomatch h⟩
  | z :: xs, x => by
    obtain ⟨a, b, c⟩ := maxI_fold xs (max x z)
    rw [List.foldl_cons]
    refine ⟨?_, by omega, fun y hy => ?_⟩
    · rcases a with a | a
      · rw [a]
        by_cases h : z ≤ x
        · exact .inl (by omega)
        · exact .inr (by rw [show max x z = z by omega]; exact .head _)
      · exact .inr (.tail _ a)
    · rcases List.mem_cons.mp hy with rfl | hy
      · omega
      · exact c y hy
theorem maxI_spec {xs : List Int} (h : 0 < xs.length) : maxI xs ∈ xs ∧ ∀ y ∈ xs, y ≤ maxI xs := by
  cases xs with
  | nil => simp at h
  | cons x xs =>
    obtain ⟨a, b, c⟩ := maxI_fold xs x
    refine ⟨?_, fun y hy => ?_⟩
    · show xs.foldl max x ∈ x :: xs
      rcases a with a | a
      · rw [a]; exact .head _
      · exact .tail _ a
    · rcases List.mem_cons.mp hy with rfl | hy
      · exact b
      · exact c y hy
def pMinL (ds : List D) (S : Store) : Option D := match ds with
  | [d] => ((seqL d S).bind intsD).bind fun ns => if 0 < ns.length then some (.int (minI ns)) else none
  | _ => none
def pMaxL (ds : List D) (S : Store) : Option D := match ds with
  | [d] => ((seqL d S).bind intsD).bind fun ns => if 0 < ns.length then some (.int (maxI ns)) else none
  | _ => none
section
variable {X : Cx}
theorem call_pMinL (hc : X.calm = true) : CallD X (.builtin "min") pMinL := by
  intro pins s σ H xs us Q I r ⟨ρ, S, B, ds, e, ok, rd, hp, k⟩
  unfold pMinL at hp
  split at hp
  · obtain ⟨ns, h1, hp⟩ := Option.bind_eq_some_iff.mp hp
    obtain ⟨ys, h2, h4⟩ := Option.bind_eq_some_iff.mp h1
    split at hp
    · rename_i hn
      cases hp
      obtain ⟨v, rfl, h⟩ := rd.one
      obtain ⟨a, vs, rfl, h3, q⟩ := seqL_ok ok h h2
      rw [ints_ok q h4] at h3
      obtain ⟨m1, m2⟩ := minI_spec hn
      refine cr_min hc pins s σ H _ us Q I r ⟨a, ns, rfl, h3, hn, fun m a1 a2 => ?_⟩
      have := m2 m a1
      have := a2 _ m1
      rw [show m = minI ns by omega]
      exact k _ _ (Same.refl H) (.int _)
    · cases hp
  · cases hp
theorem call_pMaxL (hc : X.calm = true) : CallD X (.builtin "max") pMaxL := by
  intro pins s σ H xs us Q I r ⟨ρ, S, B, ds, e, ok, rd, hp, k⟩
  unfold pMaxL at hp
  split at hp
  · obtain ⟨ns, h1, hp⟩ := Option.bind_eq_some_iff.mp hp
    obtain ⟨ys, h2, h4⟩ := Option.bind_eq_some_iff.mp h1
    split at hp
    · rename_i hn
      cases hp
      obtain ⟨v, rfl, h⟩ := rd.one
      obtain ⟨a, vs, rfl, h3, q⟩ := seqL_ok ok h h2
      rw [ints_ok q h4] at h3
      obtain ⟨m1, m2⟩ := maxI_spec hn
      refine cr_max hc pins s σ H _ us Q I r ⟨a, ns, rfl, h3, hn, fun m a1 a2 => ?_⟩
      have := m2 m a1
      have := a2 _ m1
      rw [show m = maxI ns by omega]
      exact k _ _ (Same.refl H) (.int _)
    · cases hp
  · cases hp
end

/-! ### xs[::-1] of a list -/
def mRev (f : L → Store → R D) : L → Store → R D := fun l S => (f l S).bind fun d S1 => ofO ((seqL d S1).map fun xs => D.lst xs.reverse) S1
theorem Reps.reverse {K : Frag} {W : Wd} : ∀ {ds : List D} {vs : List V}, Reps K W ds vs → Reps K W ds.reverse vs.reverse
  | _, _, .nil => .nil
  | _, _, .cons h r => by
    rw [List.reverse_cons, List.reverse_cons]
    exact (Reps.reverse r).append (.cons h .nil)
theorem fe_rev {X : Cx} {Wx : WX} {e : Expr} {f : L → Store → R D} {k : Nat} {p1 p2 p3 pos : Pos} (he : FE X Wx e f) : FE X Wx (.Subscript e (.Slice none none (some (.UnaryOp .USub (.Constant (.int 1) k p1) p2)) p3) pos) (mRev f) :=
  (pe_revL he).imp fun σ H Q ⟨ρ, S, B, l, ok, sl, h⟩ => ⟨ρ, S, B, l, ok, sl, h.bind.mono fun W1 d e1 o1 ⟨_, _, h1⟩ v rv => by
    cases q : seqL d W1.S with
    | none => rw [q] at h1; exact h1.elim
    | some xs =>
      rw [q] at h1
      obtain ⟨a, vs, rfl, h3, rs⟩ := seqL_ok o1 rv q
      refine ⟨a, vs, rfl, h3, fun p hp => ?_⟩
      have h1 : Post X.K Wx σ W1 (.ok (D.lst xs.reverse) W1.S) _ := h1
      exact Post.new o1 hp h1 fun W' e n nb x => .lst ⟨by rw [e]; exact upd_same, n, nb⟩ (rs.reverse.ext x o1)⟩

/-! ### list(xs) that may change -/
def eListN (f : L → Store → R D) : L → Store → R D := fun l S => (f l S).bind fun d S1 => match seqD d S1 with
  | some ys => R.ok (D.loc S1.length) (S1 ++ [Ob.lst ys])
  | none => .bad
theorem fe_listN {X : Cx} {Wx : WX} {e : Expr} {f : L → Store → R D} {p pos : Pos} (hm : X.mg "list" = none) (hg : Gl X "list") (he : FE X Wx e f)
    (hs : starEach [e] X.env = (false, eval e X.env) :: starEach [] X.env := by rfl) (hpl : (backTo pos (starEach [] X.env)).any (·.1) = false := by rfl) : FE X Wx (.Call (.Name "list" p) [e] [] pos) (eListN f) := by
  refine (pe_callTy call_list_of hg hm (by decide +kernel) (fa_cons he fa_nil hs) (by decide) (by decide) hs hpl).imp fun σ H Q ⟨ρ, S, B, l, ok, sl, h⟩ => ?_
  have h' : Post X.K Wx σ ⟨ρ, S, H, B⟩ ((f l S).bind fun d S1 => match seqD d S1 with
    | some ys => R.ok (D.loc S1.length) (S1 ++ [Ob.lst ys])
    | none => .bad) _ := h
  refine ⟨ρ, S, B, l, ok, sl, ?_⟩
  have ha : aCons f aNil l S = (f l S).bind fun d S1 => .ok [d] S1 := rfl
  rw [ha]
  cases hf : f l S with
  | bad => rw [hf] at h'; exact h'
  | exc x S1 => rw [hf] at h'; exact h'
  | ok d S1 =>
    rw [hf] at h'
    intro ρ1 H1 e1 o1 us rus
    have h1 : Post X.K Wx σ ⟨ρ, S, H, B⟩ (match seqD d S1 with
      | some ys => R.ok (D.loc S1.length) (S1 ++ [Ob.lst ys])
      | none => .bad) _ := h'
    obtain ⟨v, rfl, rv⟩ := rus.one
    cases q : seqD d S1 with
    | none => rw [q] at h1; exact h1.elim
    | some ys =>
      rw [q] at h1
      obtain ⟨a, vs, rfl, h3, rs⟩ := seqD_ok (W := ⟨ρ1, S1, H1, B⟩) o1 rv q
      refine ⟨a, vs, rfl, h3, fun p hp => ?_⟩
      obtain ⟨x, o2⟩ := alloc_ok (W := ⟨ρ1, S1, H1, B⟩) (p := p) (u := .lst vs) (o := .lst ys) o1 hp fun W' e x => ⟨vs, e, rs.ext x o1⟩
      refine h1 _ _ (e1.trans x) o2 _ ?_
      have q : Rep X.K _ (.loc S1.length) (.ref ((⟨fun i => if i = S1.length then p else ρ1 i, S1 ++ [.lst ys], upd H1 p (.lst vs), B⟩ : Wd).ρ S1.length)) := Rep.loc (K := X.K) (W := ⟨fun i => if i = S1.length then p else ρ1 i, S1 ++ [.lst ys], upd H1 p (.lst vs), B⟩) (n := S1.length) (by simp)
      simpa using q
/-! ### -1 -/
theorem fe_neg {X : Cx} {Wx : WX} {i : Int} {k : Nat} {p1 pos : Pos} : FE X Wx (.UnaryOp .USub (.Constant (.int i) k p1) pos) (eCon (.int (-i))) :=
  (pe_un un_neg pe_int).imp fun σ H Q ⟨ρ, S, B, l, ok, sl, h⟩ => ⟨i, rfl, Post.ok_of (W := ⟨ρ, S, H, B⟩) ok h _ (.int _)⟩
end HL
end
section
set_option Elab.async false
set_option linter.all false
set_option maxRecDepth 100000
set_option maxHeartbeats 1000000
namespace HL
open PySem PySem.Spec L2
section
variable {X : Cx} {Wx : WX} {es : List Expr} {t : TA} {pos : Pos}
def tTupN (t : TA) : TE := fun σ H Q => t σ H fun xs H1 => xs.length ≤ sizeLine ∧ ∀ p o, H1 p = none → o.dict = none → Q (.ref p) (upd H1 p (.frz o (.tup xs)))
theorem pe_tupN {x1} (h : PA X es t) : PE X (.Tuple es x1 pos) (tTupN t) := by
  refine ⟨fun pins s σ H Q I hq => ?_⟩
  refine wpAny_Tuple_spliced (thn (h.run pos pins s σ H _ I hq) fun us s1 ⟨xs, H1, I1, r, z, q⟩ => ⟨by rw [← r.length]; exact z, ?_⟩)
  have hf : H1 s1.heap.objs.size = none := I1.hok.fresh (Nat.le_refl _)
  refine ⟨.ref s1.heap.objs.size, upd H1 s1.heap.objs.size (.frz { cls := .type "tuple", data := .seq us.toArray } (.tup xs)), I1.laid (t' := s1.toks) (fun b u e => Heap.get?_push_of_some _ e) (Nat.le_refl _) ?_, rfl, q _ _ hf rfl⟩
  exact ⟨Heap.get?_push_size _ rfl, show ObjOk X.prog X.w _ _ _ (.tup xs) from ⟨z, us, r, PyProof.Rows.IsTup.new _ _⟩⟩
def eTupN (g : L → Store → R (List D)) : L → Store → R D := fun l S => (g l S).bind fun ds S1 => if ds.length ≤ sizeLine then .ok (.tpn ds) S1 else .bad
theorem fe_tupN {g : L → Store → R (List D)} {x1} (h : FA X Wx es g) : FE X Wx (.Tuple es x1 pos) (eTupN g) :=
  (pe_tupN h).imp fun σ H Q ⟨ρ, S, B, l, ok, sl, h⟩ => ⟨ρ, S, B, l, ok, sl, h.bind.mono fun W1 ds e1 o1 ⟨_, _, h1⟩ vs rvs => by
    obtain ⟨hc, h1⟩ := Post.iff_ok h1
    exact ⟨by rw [← rvs.length]; exact hc, fun p o hp hd => Post.new o1 hp h1 fun W' e n nb x => .tpn ⟨o, by rw [e]; exact upd_same, hd⟩ (rvs.ext x o1)⟩⟩
end
end HL
end
section
set_option Elab.async false
set_option linter.all false
set_option maxRecDepth 100000
set_option maxHeartbeats 1000000
namespace HL
open PySem PySem.Spec L2
section
open PyProof.Rows
variable {prog : Program} {w : World} {A : Around} {E : Value → Shared → Prop} {s : Shared}
theorem sliceApplied_back {sl : Addr} {vs : Value} {n : Nat} {Q : Int × Int × Nat → Shared → Prop} (hs : s.heap.IsSliceOf sl .none .none vs) (ps : IsPart vs (some (-1)))
    (h : Q ((n : Int) - 1, -1, n) s) : wpAny (model prog w) A (Builtin.Slice.sliceApplied (.ref sl) (pure (n : Int))) Q E s := by
  obtain ⟨os, hos, hcs, hds⟩ := id hs
  unfold Builtin.Slice.sliceApplied Builtin.Slice.sliceFields
  refine wpAny_bind (wpAny_bind (wpAny_field hos hds (x := .none) rfl (wpAny_bind (wpAny_field hos hds (x := .none) rfl (wpAny_bind (wpAny_field hos hds (x := vs) rfl (wpAny_pure ?_)))))))
  refine wpAny_bind (HT.slicePart_ ps ?_)
  show wpAny _ _ (if ((-1 : Int) == 0) = true then _ else _) _ _ s
  rw [if_neg (by decide)]
  refine wpAny_bind (slicePart_none (wpAny_bind (slicePart_none (wpAny_bind (wpAny_pure ?_)))))
  show wpAny _ _ (match Builtin.Slice.sliceAdjust none none (-1) (n : Int) with | (lo, hi) => pure (lo, (-1 : Int), Builtin.Slice.slicePlaces lo hi (-1))) _ _ s
  have e : Builtin.Slice.sliceAdjust none none (-1) (n : Int) = ((n : Int) - 1, -1) := rfl
  rw [e]
  show wpAny _ _ (pure (((n : Int) - 1), (-1 : Int), Builtin.Slice.slicePlaces ((n : Int) - 1) (-1) (-1))) _ _ s
  have e2 : Builtin.Slice.slicePlaces ((n : Int) - 1) (-1) (-1) = n := by
    unfold Builtin.Slice.slicePlaces
    rw [if_neg (by omega)]
    have e3 : ((n : Int) - 1 - -1 - 1) / - -1 = (n : Int) - 1 := by
      show ((n : Int) - 1 - -1 - 1) / 1 = _
      rw [Int.ediv_one]
      omega
    rw [e3]
    split <;> omega
  rw [e2]
  exact wpAny_pure h
theorem pick_back (xs : Array Value) : ((List.range xs.size).filterMap fun (m : Nat) => xs[((xs.size : Int) - 1 + (m : Int) * (-1)).toNat]?).toArray = xs.toList.reverse.toArray := by
  have := PySem.W.krv_pick xs
  rw [← this]
  unfold slicePick
  rw [PySem.W.krv_bounds]
  dsimp only
  rw [PySem.W.krv_sliceRange, List.filterMap_map]
  congr 2
  funext m
  have : ((xs.size : Int) - 1 + (m : Int) * (-1)).toNat = xs.size - 1 - m := by omega
  rw [this]
  rfl
theorem getItem_tuple_back {t sl : Addr} {items : Array Value} {vs : Value} {Q : Value → Shared → Prop} (ht : IsTup s.heap t items) (hs : s.heap.IsSliceOf sl .none .none vs) (ps : IsPart vs (some (-1)))
    (h : Q (.ref s.heap.objs.size) { s with heap := s.heap.push { cls := .type "tuple", data := .seq items.toList.reverse.toArray } })
    (hsz : items.size ≤ sizeLine) : wpAny (model prog w) A (getItem (.ref t) (.ref sl)) Q E s := by
  have htake : sizeOk (.seq items.toList.reverse.toArray) := by
    show items.toList.reverse.toArray.size ≤ sizeLine
    rw [List.size_toArray, List.length_reverse, Array.length_toList]
    exact hsz
  obtain ⟨os, hos, hcs, hds⟩ := id hs
  have hTs : s.TypeIs (.ref sl) "slice" := ⟨os, hos, hcs⟩
  unfold getItem
  try with_reducible refine wpAny_holding ?_
  first | refine wpAny_bind (wpAny_pure ?_) | skip
  refine wpAny_bind (wpAny_sequenceKey ht.typeIs (by decide) ?_)
  refine wpAny_bind (wpAny_callSpecial?_slot (name := Str.ofString "__getitem__") ht.typeIs PyProof.Rows.slot_tuple_getitem
    (wpAny_call_entry PyProof.Rows.slot_tuple_getitem ht.typeIs entry_tuple_getitem ?_ (args_tuple_getitem _ _)))
  show wpAny _ _ (Builtin.Tuple.tupleItemsOf (.ref t) >>= _) _ _ s
  refine wpAny_bind (tupleItemsOf_ ht ?_)
  refine wpAny_bind (wpAny_typeOf hTs ?_)
  rw [if_pos (by decide)]
  refine wpAny_bind (sliceApplied_back hs ps ?_)
  have hno : ¬ ((((items.size : Int) - 1) == 0 && (-1 : Int) == 1 && items.size == items.size) = true) := by
    intro q
    rw [Bool.and_eq_true, Bool.and_eq_true] at q
    have q1 : (-1 : Int) = 1 := eq_of_beq q.1.2
    omega
  show wpAny _ _ (if (((items.size : Int) - 1) == 0 && (-1 : Int) == 1 && items.size == items.size) = true then _ else _) _ _ s
  rw [if_neg hno, pick_back]
  first
    | exact wpAny_bind (m := Builtin.Tuple.tupleExact _) (wpAny_newObj_type (wpAny_pure ⟨_, rfl, wpAny_pure h⟩) htake)
    | exact wpAny_bind (m := Builtin.Tuple.tupleExact _) (wpAny_newObj_type (wpAny_bind (wpAny_pure (wpAny_pure ⟨_, rfl, wpAny_pure h⟩))) htake)
    | exact wpAny_bind (wpAny_bind (m := Builtin.Tuple.tupleExact _) (wpAny_newObj_type (wpAny_pure (wpAny_pure ⟨_, rfl, wpAny_pure h⟩)) htake))
    | exact wpAny_bind (wpAny_bind (m := Builtin.Tuple.tupleExact _) (wpAny_newObj_type (wpAny_pure ⟨_, rfl, wpAny_pure h⟩) htake))
end
section
variable {X : Cx} {Wx : WX}
def tRevT (K : PySem.W.Frag) (te : TE) : TE := fun σ H Q => te σ H fun x H1 => ∃ a xs, x = .ref a ∧ SqT K H1 a xs ∧ ∀ p o, H1 p = none → o.dict = none → Q (.ref p) (upd H1 p (.frz o (.tup xs.reverse)))
open PyProof.Rows in
theorem pe_revT {e : Expr} {te : TE} {k : Nat} {p1 p2 p3 pos : Pos} (he : PE X e te) : PE X (.Subscript e (.Slice none none (some (.UnaryOp .USub (.Constant (.int 1) k p1) p2)) p3) pos) (tRevT X.K te) := by
  refine ⟨fun pins s σ H Q I h => ?_⟩
  refine Subscript_ (thn (he.run pins s σ H _ I h) fun v s1 ⟨x, H1, I1, r1, q1⟩ => ?_)
  obtain ⟨a, xs, ex, hx, q⟩ := q1
  subst ex
  cases r1
  have hst : PO X (some (.UnaryOp .USub (.Constant (.int 1) k p1) p2)) (tPart (tUn (rU fun i => .int (-i)) (tC (.int 1)))) := po_some (pe_un un_neg pe_int)
  refine wpAny_Slice (thn (po_none.run pins s1 σ H1 (fun o H2 => o = none ∧ H2 = H1) I1 ⟨rfl, rfl⟩) fun vl s2 ⟨l, H2, I2, pl, el, e2⟩ => ?_)
  subst el e2
  refine thn (po_none.run pins s2 σ H2 (fun o H3 => o = none ∧ H3 = H2) I2 ⟨rfl, rfl⟩) fun vu s3 ⟨u, H3, I3, pu, eu, e3⟩ => ?_
  subst eu e3
  refine thn (hst.run pins s3 σ H3 (fun o H4 => o = some (-1) ∧ H4 = H3) I3 ⟨1, rfl, -1, rfl, rfl, rfl⟩) fun vs s4 ⟨o, H4, I4, ps, eo, e4⟩ => ?_
  subst eo e4
  cases pl
  cases pu
  have I5 : Inv X pins σ H4 { s4 with heap := s4.heap.push { cls := .type "slice", data := .fields #[.none, .none, vs] } } := I4.kept (t' := s4.toks) fun b ob q => Heap.get?_push_of_some _ q
  obtain ⟨its, r, ht, hz⟩ := I5.tuple hx
  have hlen := r.length
  show wpAny (model X.prog X.w) X.A (subscriptTail e (.Slice none none (some (.UnaryOp .USub (.Constant (.int 1) k p1) p2)) p3) (.ref a) (.ref s4.heap.objs.size)) (EP X pins σ Q) X.xe { s4 with heap := s4.heap.push { cls := .type "slice", data := .fields #[.none, .none, vs] } }
  refine tail_any (ops := [.ref a, .ref s4.heap.objs.size]) ht.typeIs (PyProof.Rows.slot_tuple_getitem.lookup) ?_ (by with_unfolding_all rfl)
  refine getItem_tuple_back ht (Heap.IsSliceOf.new _ .none .none vs) ps ?_ (by rw [List.size_toArray]; omega)
  have hf : H4 s4.heap.objs.size = none := I4.hok.fresh (Nat.le_refl _)
  have hf5 : H4 (s4.heap.push { cls := .type "slice", data := .fields #[.none, .none, vs] }).objs.size = none := I5.hok.fresh (Nat.le_refl _)
  rw [List.toList_toArray]
  refine ⟨.ref _, upd H4 _ (.frz { cls := .type "tuple", data := .seq its.reverse.toArray } (.tup xs.reverse)), I5.laid (t' := s4.toks) (fun b ob q => Heap.get?_push_of_some _ q) (Nat.le_refl _) ?_, rfl, q _ _ hf5 rfl⟩
  exact ⟨Heap.get?_push_size _ rfl, show ObjOk X.prog X.w _ _ _ (.tup xs.reverse) from ⟨by rw [List.length_reverse]; exact hz, its.reverse, r.reverse, PyProof.Rows.IsTup.new _ _⟩⟩
/-- t[::-1] -/
def mRevT (f : L → Store → R D) : L → Store → R D := fun l S => (f l S).bind fun d S1 => match nt d with
  | .tup xs => .ok (.tpn xs.reverse) S1
  | _ => .bad
theorem fe_revT {e : Expr} {f : L → Store → R D} {k : Nat} {p1 p2 p3 pos : Pos} (he : FE X Wx e f) : FE X Wx (.Subscript e (.Slice none none (some (.UnaryOp .USub (.Constant (.int 1) k p1) p2)) p3) pos) (mRevT f) :=
  (pe_revT he).imp fun σ H Q ⟨ρ, S, B, l, ok, sl, h⟩ => ⟨ρ, S, B, l, ok, sl, h.bind.mono fun W1 d e1 o1 ⟨_, _, h1⟩ v rv => by
    replace rv := rv.nt
    generalize nt d = d at rv h1
    cases rv with
    | tup h3 q =>
      refine ⟨_, _, rfl, h3, fun p o hp hd => ?_⟩
      exact Post.new o1 hp h1 fun W' e n nb x => .tpn ⟨o, by rw [e]; exact upd_same, hd⟩ (q.reverse.ext x o1)
    | _ => exact h1.elim⟩
/-! ### x *= e -/
def pMulI (d e : D) (_ : Store) : Option D := match d, e with
  | .int i, .int j => if CMul i j then some (.int (i * j)) else none
  | _, _ => none
theorem ip_pMul : IpD X .Mult pMulI := by
  intro pins s σ H x y v u Q I rx ry ⟨ρ, S, B, d, e, r, ok, rd, re, hp, k⟩
  unfold pMulI at hp
  split at hp
  · split at hp
    · rename_i hz
      cases hp; cases rd; cases re
      exact iop_mul pins s σ H _ _ v u Q I rx ry ⟨_, _, rfl, rfl, hz, k _ _ (Same.refl H) (.int _)⟩
    · cases hp
  · cases hp
end

/-! ### divmod by a great number -/
def pDivmodW (ds : List D) (_ : Store) : Option D := match ds with
  | [.int i, .int j] => if 0 < j ∧ j.natAbs.log2 < 9000 then some (.tup [.int (i / j), .int (i % j)]) else none
  | _ => none
theorem call_pDivmodW {X : Cx} : CallD X (.builtin "divmod") pDivmodW := by
  intro pins s σ H xs us Q I r ⟨ρ, S, B, ds, e, ok, rd, hp, k⟩
  unfold pDivmodW at hp
  split at hp
  · split at hp
    · rename_i hc
      cases hp
      obtain ⟨v, u, rfl, h, h'⟩ := rd.two
      cases h; cases h'
      refine call_divmodW pins s σ H _ us Q I r ⟨_, _, rfl, ⟨hc.1, PyProof.noPylong_of_log2 hc.2⟩, fun p hp => ?_⟩
      obtain ⟨sm, z⟩ := new_tup (B := B) ok hp (.cons (.int _) (.cons (.int _) .nil))
      exact k _ _ sm z
    · cases hp
  · cases hp

/-! ### a block, behind which what it made is frozen -/
/-- by value; what is older stays -/
def frzS (n0 : Nat) (S : Store) (d : D) : Option D := match d with
  | .loc n => if n < n0 then some (.loc n) else frz n0 S 9 (.loc n)
  | d => frz n0 S 9 d
def fzL (n0 : Nat) (S : Store) : L → Option L
  | [] => some []
  | none :: l => (fzL n0 S l).map (none :: ·)
  | some d :: l => (frzS n0 S d).bind fun d' => (fzL n0 S l).map (some d' :: ·)
open Classical in
noncomputable def bFz (f g : L → Store → Fl) : L → Store → Fl := fun l S => match f l S with
  | .nx l1 S1 => if Pres S S1 then match fzL S.length S1 l1 with
    | some l2 => g l2 (S1.take S.length)
    | none => .bad
    else .bad
  | .rt d S1 => .rt d S1
  | .bk l1 S1 => .bk l1 S1
  | .ct l1 S1 => .ct l1 S1
  | .exc e l1 S1 => .exc e l1 S1
  | .bad => .bad
section
variable {K : Frag}
theorem cut_ok {S0 S : Store} {ρ0 ρ : Nat → Addr} {H0 H : Hp} {B : Addr → Prop} (ok0 : Ok K ⟨ρ0, S0, H0, B⟩) (hp : Pres S0 S) (e : Ext ⟨ρ0, S0, H0, B⟩ ⟨ρ, S, H, B⟩) (ok : Ok K ⟨ρ, S, H, B⟩) :
    Ext ⟨ρ0, S0, H0, B⟩ ⟨ρ, S.take S0.length, H, B⟩ ∧ Ok K ⟨ρ, S.take S0.length, H, B⟩ := by
  have hlen : (S.take S0.length).length = S0.length := by rw [List.length_take]; exact Nat.min_eq_left hp.1
  have hle : ∀ {i : Nat}, i < (S.take S0.length).length → i < S.length := fun hi => Nat.lt_of_lt_of_le hi (by rw [List.length_take]; exact Nat.min_le_right _ _)
  refine ⟨⟨rfl, Nat.le_of_eq hlen.symm, e.rho, fun a u z n => ⟨(e.keep a u z n).1, fun q => (e.keep a u z n).2 (live_cut q)⟩⟩, ?_⟩
  refine ⟨ok.busy, fun a b q => ok.nb a b (live_cut q), fun i j hi hj q => ok.inj i j (hle hi) (hle hj) q, fun i o z => ?_⟩
  have hi : i < S0.length := by
    have q : i < (S.take S0.length).length := (List.getElem?_eq_some_iff.mp z).1
    rw [hlen] at q
    exact q
  have z' : S[i]? = some o := by
    have q : (S.take S0.length)[i]? = some o := z
    rw [List.getElem?_take_of_lt hi] at q
    exact q
  have w := ok.obj i o z'
  rcases hp.2 i o hi z' with same | flat
  · have w0 := ok0.obj i o same
    cases o with
    | lst xs =>
      obtain ⟨vs, e1, q1⟩ := w
      obtain ⟨ws, _, q0⟩ := w0
      exact ⟨vs, e1, Reps.back hlen q0 q1⟩
    | ins C ks xs =>
      obtain ⟨dx, vs, e1, hl, q1⟩ := w
      obtain ⟨_, ws, _, _, q0⟩ := w0
      exact ⟨dx, vs, e1, hl, Reps.back hlen q0 q1⟩
  · cases o with
    | lst xs =>
      obtain ⟨vs, e1, q1⟩ := w
      exact ⟨vs, e1, Reps.cut _ flat q1⟩
    | ins C ks xs =>
      obtain ⟨dx, vs, e1, hl, q1⟩ := w
      exact ⟨dx, vs, e1, hl, Reps.cut _ flat q1⟩
theorem frzS_ok {ρ : Nat → Addr} {S : Store} {H : Hp} {B : Addr → Prop} {n0 : Nat} (hn : n0 ≤ S.length) (ok : Ok K ⟨ρ, S, H, B⟩) {d d' : D} {v : V} (h : frzS n0 S d = some d') (r : Rep K ⟨ρ, S, H, B⟩ d v) : Rep K ⟨ρ, S.take n0, H, B⟩ d' v := by
  unfold frzS at h
  split at h
  · rename_i n
    split at h
    · rename_i hlt
      cases h
      cases r with
      | loc z => exact Rep.loc (K := K) (W := ⟨ρ, S.take n0, H, B⟩) (n := n) (by show n < (S.take n0).length; rw [List.length_take]; omega)
    · exact Rep.frz ok h r
  · exact Rep.frz ok h r
theorem fzL_ok {ρ : Nat → Addr} {S : Store} {H : Hp} {B : Addr → Prop} {n0 : Nat} (hn : n0 ≤ S.length) (ok : Ok K ⟨ρ, S, H, B⟩) : ∀ {l l' : L} {σ : L2.St}, fzL n0 S l = some l' → Sl K ⟨ρ, S, H, B⟩ σ l → Sl K ⟨ρ, S.take n0, H, B⟩ σ l'
  | [], l', σ, h, s => by
    cases h
    exact ⟨s.len, fun i d h => by simp at h⟩
  | none :: l, l', σ, h, s => by
    unfold fzL at h
    obtain ⟨l2, h2, rfl⟩ := Option.map_eq_some_iff.mp h
    cases σ with
    | nil => have := s.len; simp at this
    | cons x σ =>
      have ih := fzL_ok hn ok h2 (σ := σ) ⟨by have := s.len; simpa using this, fun i d h => s.get (i + 1) d (by simpa using h)⟩
      refine ⟨by simp [ih.len], fun i d h => ?_⟩
      cases i with
      | zero => simp at h
      | succ i => exact ih.get i d (by simpa using h)
  | some d0 :: l, l', σ, h, s => by
    unfold fzL at h
    obtain ⟨d1, h1, h⟩ := Option.bind_eq_some_iff.mp h
    obtain ⟨l2, h2, rfl⟩ := Option.map_eq_some_iff.mp h
    cases σ with
    | nil => have := s.len; simp at this
    | cons x σ =>
      have ih := fzL_ok hn ok h2 (σ := σ) ⟨by have := s.len; simpa using this, fun i d h => s.get (i + 1) d (by simpa using h)⟩
      refine ⟨by simp [ih.len], fun i d h => ?_⟩
      cases i with
      | zero =>
        simp at h
        subst h
        obtain ⟨v, a, b⟩ := s.get 0 d0 rfl
        exact ⟨v, a, frzS_ok hn ok h1 b⟩
      | succ i => exact ih.get i d (by simpa using h)
end
section
variable {X : Cx} {Wx : WX} {s1 s2 : Stmt} {rest : List Stmt} {f1 f2 g : L → Store → Fl}
open Classical in
theorem fb_fz2 (h1 : FS X Wx s1 f1) (h2 : FS X Wx s2 f2) (h3 : FB X Wx rest g) : FB X Wx (s1 :: s2 :: rest) (bFz (bSeq f1 f2) g) :=
  (pss_cons h1 (pss_cons h2 h3)).imp fun D σ H ⟨ρ, S, B, l, ok, sl, h⟩ => by
    refine ⟨ρ, S, B, l, ok, sl, ?_⟩
    unfold bFz bSeq at h
    cases q : f1 l S with
    | nx l1 S1 =>
      rw [q] at h
      refine fun ρ1 H1 σ1 e1 o1 t1 => ⟨ρ1, S1, B, l1, o1, t1, ?_⟩
      rw [Fl.andThen_nx] at h
      cases q2 : f2 l1 S1 with
      | nx l2 S2 =>
        rw [q2] at h
        dsimp only at h
        refine fun ρ2 H2 σ2 e2 o2 t2 => ?_
        obtain ⟨hp, h⟩ := PostS.iff_ok h
        cases q3 : fzL S.length S2 l2 with
        | none => rw [q3] at h; exact h.elim
        | some l3 =>
          rw [q3] at h
          have e : Ext ⟨ρ, S, H, B⟩ ⟨ρ2, S2, H2, B⟩ := e1.trans e2
          obtain ⟨e3, o3⟩ := cut_ok ok hp e o2
          exact ⟨ρ2, _, B, l3, o3, fzL_ok hp.1 o2 q3 t2, PostS.weak h e3⟩
      | rt d S' => rw [q2] at h; exact PostS.weak (r := .rt d S') h e1
      | bk l' S' => rw [q2] at h; exact PostS.weak (r := .bk l' S') h e1
      | ct l' S' => rw [q2] at h; exact PostS.weak (r := .ct l' S') h e1
      | exc x l' S' => rw [q2] at h; exact PostS.weak (r := .exc x l' S') h e1
      | bad => rw [q2] at h; exact h
    | rt d S' => rw [q] at h; exact h
    | bk l' S' => rw [q] at h; exact h
    | ct l' S' => rw [q] at h; exact h
    | exc x l' S' => rw [q] at h; exact h
    | bad => rw [q] at h; exact h
end
end HL
end
section
set_option Elab.async false
set_option linter.all false
set_option maxRecDepth 100000
set_option maxHeartbeats 1000000
namespace HL
open PySem PySem.Spec L2
def isNo : PyData → Bool
  | .none => true
  | _ => false
/-- < by what the data hold -/
def pLtD (d e : D) (_ : Store) : Option D := match toPy d, toPy e with
  | some p, some q => if PySem.W.alike p q = true ∧ isNo p = false ∧ p.depth ≤ 60 then some (.bl (PySem.W.dataLt p q)) else none
  | _, _ => none
section
variable {X : Cx}
theorem op_pLtD (hu : X.A.units + 64 < cLine) : OpD X (compareOp .Lt) pLtD := by
  intro pins s σ H x y v u Q I rx ry ⟨ρ, S, B, d, e, r, ok, rd, re, hp, k⟩
  unfold pLtD at hp
  split at hp
  · rename_i p q h1 h2
    split at hp
    · rename_i hs
      cases hp
      obtain ⟨as, ra⟩ := Dp.reads I p _ _ (rd.dp ok h1) rx
      obtain ⟨bs, rb⟩ := Dp.reads I q _ _ (re.dp ok h2) ry
      refine PySem.W.lt_data ra rb hs.1 (fun z => by have q := hs.2.1; rw [z] at q; cases q) (by have := hs.2.2; omega) ?_
      exact ⟨.bl _, _, I, rfl, k _ _ (Same.refl H) (.bl _)⟩
    · cases hp
  · cases hp
end
end HL
end
section
set_option Elab.async false
set_option linter.all false
set_option maxRecDepth 100000
set_option maxHeartbeats 2000000
/-! HX1: a class of errors with one field whose __init__ calls super().__init__() and sets it: making one (raw); its base is a built-in's or a class of the program over it. -/
namespace PySem
namespace ExX
open PySem.W PySem.Calls PyProof.Rows PySem.HandSPX Builtin Builtin.ObjectAttr
def iA (f : Str) (q : Nat → Pos) : Arguments := { posonlyargs := [], args := [{ arg := "self", annotation := none, pos := q 0 }, { arg := f, annotation := none, pos := q 1 }], vararg := none, kwonlyargs := [], kw_defaults := [], kwarg := none, defaults := [] }
def iB (f : Str) (q : Nat → Pos) : List Stmt := [.Expr (.Call (.Attribute (.Call (.Name "super" (q 0)) [] [] (q 1)) "__init__" (q 2)) [] [] (q 3)) (q 4), .Assign [.Attribute (.Name "self" (q 5)) f (q 6)] (.Name f (q 7)) (q 8)]
def iS (f : Str) : Scope := { kind := .function, names := [(PySem.Str.ofString "self", .local), (f, .local), (PySem.Str.ofString "__class__", .free), (PySem.Str.ofString "super", .globalImplicit)], isGenerator := false, isCoroutine := false, more := [] }
/-- what is asked of the program -/
structure TopX (P : Program) (mg : Str → Option Value) : Prop where
  top : (P.main.scope.names.lookup ("super" : Str)).isSome = false
  free : mg "super" = none
/-- what the head says of a class x at C of errors with the field f, and of its __init__ at fI -/
structure XTxt (P : Program) (K : Frag) (mg : Str → Option Value) (nm f : Str) (C fI : Addr) : Prop where
  nf : f = "given" ∨ f = "index" ∨ f = "most"
  gC : mg nm = some (.ref C)
  cls : ∃ B newId initId bmB n q N bs bm sn sub ab col dd k0 k1 k2 k3 k5, K.lookup C = some (excClassObj n q C N bs bm true sn sub ab col dd k0 k1 k2 k3 k5 newId) ∧ ExcBaseFacts B newId initId bmB ∧ KxsFacts B initId ∧
    (∀ X : String, bm.contains (.type X) = bmB.contains (.type X)) ∧ (∀ self, refuseLoop self "__setattr__" bm = pure ()) ∧ bm.contains (.type "object") = true ∧ alongIn K "__init__" bm = some (some (.builtin initId)) ∧ subIn K (.ref C) (.type B) = some true ∧ mroIn K C (.ref C) = some true
  sa : findIn K (.ref C) "__setattr__" = some (some (.builtin "object.__setattr__"))
  ga : findIn K (.ref C) "__getattribute__" = some (some (.builtin "BaseException.__getattribute__"))
  gg : findIn K (.ref C) "__getattr__" = some none
  noN : findIn K (.ref C) f = some none
  iC : findIn K (.ref C) "__init__" = some (some (.ref fI))
  tC : typeIn K (.ref fI) = some (.type "function")
  kC : keepIn K (.ref C) = true
  exC : subIn K (.ref C) (.type "BaseException") = some true
  tyC : typeIn K (.ref C) = some (.type "type")
  hdC : hasDictIn K C = true
  op : nsIn K cStatics "thirdparty.any" = some none
  fn : ∃ (oc : Value) (od : Option Addr) (qual : Str) (doc pm : Value) (an : Option Addr) (cda cc : Addr) (ct : Value) (osl : Array (Option Value)) (q p : Nat → Pos) (ccl : Value) (cdd : Option Addr) (vs : Array Value) (ccs : Array (Option Value)) (file : Str) (tf : Tok) (cl : Value) (cld : Option Addr) (csl : Array (Option Value)),
    K.lookup fI = some ⟨oc, od, .func (ksFn "__init__" qual (iA f q) (iB f p) (iS f) .none .none doc pm an (.ref cda) ct cc), osl⟩ ∧ codeIn K (.ref cda) qual = true ∧
    K.lookup cda = some ⟨ccl, cdd, .fields vs, ccs⟩ ∧ vs[2]? = some (.str file tf) ∧ ((P.main.file : Str) == file) = true ∧ K.lookup cc = some ⟨cl, cld, .cell (some (.ref C)), csl⟩ ∧ ((p 2).endLine == (p 3).line) = true
theorem one_size (v : Value) : [v].length ≤ sizeLine := by
  rw [sizeLine_eq]
  exact (by decide : 1 ≤ 16777216)
theorem ldC {M : Model} {A : Around} {s : Shared} {env : Env} {L : Addr} {m : Str → Option Value} {x : Str} {pos : Pos} {v : Value} {Q : Value → Shared → Prop} {E : Value → Shared → Prop} (hL : env.locals = L) (hn : s.heap.Ns L m) (hv : m x = some v) (h : Q v s)
    (hk : env.scope.kind = .function) (hl : env.kindOf x = some .local) (hd : (x == ("__debug__" : Str)) = false) :
    wpAny M A (eval (.Name x pos) env) Q E s := by
  subst hL
  exact wpAny_Name (wpAny_loadName_local hk hl hn hv h) hd
theorem call_eq {o : Expr} {name : Str} {apos pos : Pos} {env : Env} (hline : (apos.endLine == pos.line) = true) : eval (.Call (.Attribute o name apos) [] [] pos) env = (do
      let ov ← attributeBase o name env (eval o env)
      standAt apos.atName
      let (f, first) ← holding [ov] (getMethod ov name (do return (← importBound o env).getD true))
      callWith pos f first (backTo pos (starEach [] env)) []) := by
  have hpos : methodCallPos true o env apos pos = pure pos := by unfold methodCallPos; simp [hline]
  rw [arm_eval_Call]
  have hform : methodCallForm (([] : List Expr).length + ([] : List Keyword).length) (backTo pos (starEach [] env)) (backToKw pos (keywordEach [] env)) = true := rfl
  unfold methodCall
  rw [hform]
  simp only [hpos, pure_bind, calleeOf, if_true]
  rfl
/-- what __init__ leaves of a fresh exception at x -/
structure InitEnd (h h' : Heap) (f : Str) (x C dx t1 : Addr) (v : Value) : Prop where
  keep : ∀ b o, b ≠ x → h.get? b = some o → h'.get? b = some o
  obj : h'.get? x = some { cls := .ref C, dict := some dx, data := .fields #[.ref t1, .none, .none, .none, .bool false, .none] }
  dbig : h.objs.size ≤ dx
  dne : dx ≠ x
  ns : h'.Ns1 dx (fun y => if y = f then some v else none)
/-- a made error -/
structure OwnMade (h h' : Heap) (f : Str) (e C d : Addr) (v : Value) : Prop where
  keep : ∀ b o, h.get? b = some o → h'.get? b = some o
  new : h.objs.size ≤ e
  obj : ∃ oe vs, h'.get? e = some oe ∧ oe.cls = .ref C ∧ oe.dict = some d ∧ oe.data = .fields vs ∧ vs[1]? = some .none
  dbig : h.objs.size ≤ d
  dne : d ≠ e
  ns : h'.Ns1 d (fun y => if y = f then some v else none)
section
variable {prog : Program} {w : World} {A : Around} {E : Value → Shared → Prop} {R : Result → Shared → Prop} {hp : Heap} {g : Array GenState} {d : Drawn} {t : Nat} {os : OsState}
/-- exc_osa over any built-in base that lets __setattr__ pass -/
theorem exc_osaB {K : W.Frag} {name : Str} {tk : Tok} {v : Value} {x C : Addr} {fv : Array Value} {cd : ClassData}
    (X : K.In hp) (hx : hp.get? x = some { cls := .ref C, data := .fields fv }) (hcd : W.clsIn K C = some cd) (hps : ∀ self, refuseLoop self "__setattr__" cd.mro = pure ()) (ne : cd.mro.isEmpty = false) (hob : cd.mro.contains (.type "object") = true) (hh : cd.hasDict = true) (ha : W.findIn K (.ref C) name = some none)
    (hq : ∀ h' tk' dx, (∀ b o, b ≠ x → hp.get? b = some o → h'.get? b = some o) → hp.objs.size ≤ dx → dx ≠ x → h'.get? x = some { cls := .ref C, dict := some dx, data := .fields fv } →
      h'.Ns1 dx (fun y => if y = name then some v else none) → R (.ok (.ret .none)) ⟨h', g, d, tk', os⟩) :
    codeAny (model prog w) A (.call (.builtin "object.__setattr__") ⟨[.ref x, .str name tk, v], []⟩) R ⟨hp, g, d, t, os⟩ := by
  have I : W.InstAt hp x { cls := .ref C, data := .fields fv } C none := ⟨hx, rfl, rfl, trivial⟩
  have SF := F.store_object
  have hxs : x ≠ hp.objs.size := Nat.ne_of_lt (Heap.lt_size hx)
  have sub : W.Looks (model prog w) hp (isInstance (.ref x) (.type "object")) true := I.type.andThen (W.looks_mroIn X (by unfold W.mroIn; rw [hcd, Option.bind_some, if_neg (by rw [ne]; decide), hob]))
  refine codeAny_call_builtin SF.slot.plain SF.entry (@W.check_slot (model prog w) _ _ ⟨hp, g, d, t, os⟩ "object.__setattr__" "object" "__setattr__" (.ref x) [.str name tk, v] [] _ SF.kind SF.split sub (SF.args (.ref x) (.str name tk) v) ?_)
  have hmr : W.Looks (model prog w) hp (mroOf (.ref C)) cd.mro := (W.looks_clsIn X hcd).andThen .now
  have L3 : W.Looks (model prog w) hp (storeTaker? none) none := .now
  have hcls : W.Looks (model prog w) hp (classData C) cd := W.looks_clsIn X hcd
  rw [W.osa_eq, refuse_eq]
  refine wpAny_bind (wpAny_bind (I.type.at (wpAny_bind (hmr.at ?_))))
  rw [hps]
  refine wpAny_pure (wpAny_bind (I.type.at (wpAny_bind ((W.looks_findIn X ha).at (wpAny_bind (L3.at ?_))))))
  show wpAny _ _ (storeInOwnDict (.ref x) (.ref C) (.str name tk) name v false) _ _ _
  obtain ⟨nm, bs, mro, ns, qn, hd, sn, sb, ab, col, del⟩ := cd
  dsimp only at hh
  subst hh
  unfold storeInOwnDict ownDictForStores
  repeat (first | with_reducible refine store_in_new ?_ ?_ | with_reducible refine wpAny_loadPart_at hx ?_ | with_reducible refine hcls.at ?_ | wp_step)
  · exact ⟨_, #[], _, (Heap.get?_update_ne _ _ _ _ hxs.symm).trans (Heap.get?_push_at rfl rfl), rfl, fun e he => absurd he (by simp), fun _ => rfl⟩
  · intro h' tk' hn' hs
    have hx₁ : (hp.push { cls := .type "dict", data := .dict #[] }).get? x = some { cls := .ref C, data := .fields fv } := Heap.get?_push_of_some _ hx
    refine hq h' tk' hp.objs.size (fun b o hb ho => ?_) (Nat.le_refl _) hxs.symm ?_ hn'
    · exact (hs.2 b (Nat.ne_of_lt (Heap.lt_size ho))).trans ((Heap.get?_update_ne _ _ _ _ hb).trans (Heap.get?_push_of_some _ ho))
    · exact (hs.2 x hxs).trans (Heap.get?_update_self _ hx₁ rfl)
end
section
variable {prog : Program} {w : World} {A : Around} {E : Value → Shared → Prop} {R : Result → Shared → Prop} {s : Shared} {K : Frag} {mg mb : Str → Option Value} {nm f : Str} {C fI : Addr}
theorem x_init (T : XTxt prog K mg nm f C fI) (TP : TopX prog mg) {x t0 : Addr} {v : Value} (X : K.In s.heap) (hg : s.heap.Ns mainGlobals mg) (hb : s.heap.Ns builtinsNs mb) (hbs : mb "super" = some (.type "super")) (hlim : s.heap.NoLimit) (hx : s.heap.get? x = some (excO C t0)) (hnx : K.lookup x = none) (hroom : A.depth < recursionLimit)
    (hq : ∀ h' tk dx t1, InitEnd s.heap h' f x C dx t1 v → R (.ok (.ret .none)) { s with heap := h', toks := tk }) :
    codeAny (model prog w) A (.call (.ref fI) ⟨[.ref x, v], []⟩) R s := by
  obtain ⟨oc, od, qual, doc, pm, an, cda, cc, ct, osl, q, p, ccl, cdd, vs, ccs, file, tf, cl, cld, csl, ho, hcd, hcode, hvs, hfile, hcell, hline⟩ := T.fn
  obtain ⟨B, newId, initId, bmB, n, cq, N, bs, bm, sn, sub, ab, col, dd, k0, k1, k2, k3, k5, hC, FB, KF, hT, hps, hobj, hal, hsB, hsC⟩ := T.cls
  have hcl : clsIn K C = some { name := n, bases := bs, mro := .ref C :: bm, ns := N, qualname := cq, hasDict := true, slotNames := sn, subclasses := sub, abstract := ab, collection := col, hasDel := false } := by unfold clsIn; rw [hC] <;> rfl
  have fnot : (f == ("self" : Str)) = false ∧ (f == ("__debug__" : Str)) = false ∧ (("self" : Str) == f) = false ∧ (("__class__" : Str) == f) = false ∧ (("super" : Str) == f) = false := by
    rcases T.nf with rfl | rfl | rfl <;> decide
  refine ks_codeAny_call_defAt (fd := ksFn "__init__" qual (iA f q) (iB f p) (iS f) .none .none doc pm an (.ref cda) ct cc) (body := iB f p) (binds := [("self", .ref x), (f, v)]) hroom (X _ _ ho) rfl hlim (codeRec_of X hcd) rfl ?_ ?_ ?_ (fun h₁ hns k => ?_) rfl rfl rfl
  · rcases T.nf with rfl | rfl | rfl <;> exact BindsTo.of_eq (by first | rfl | with_unfolding_all rfl)
  · show ∀ y ∈ (iS f).names, y.2 ≠ .cell
    rcases T.nf with rfl | rfl | rfl <;> decide
  · intro y hy
    show (iS f).names.lookup y.1 = some .local
    have hy2 : y = ((PySem.Str.ofString "self", Value.ref x) : Str × Value) ∨ y = (f, v) := by
      rcases List.mem_cons.mp hy with e | hy
      · exact .inl e
      · exact .inr (List.mem_singleton.mp hy)
    rcases hy2 with rfl | rfl
    · rfl
    · show (iS f).names.lookup f = some .local
      rcases T.nf with rfl | rfl | rfl <;> rfl
  have kl : (iS f).names.lookup f = some .local := by rcases T.nf with rfl | rfl | rfl <;> rfl
  have X₁ : K.In h₁ := X.keeps k
  have hx₁ := k _ _ hx
  have hC₁ := X₁ _ _ hC
  have hlt : s.heap.objs.size < h₁.objs.size := hns.lt
  have hxL : x < s.heap.objs.size := Heap.lt_size hx
  obtain ⟨hh, g, d, tk, os⟩ := s
  refine ks_wpAt_execs_cons ?_
  refine ks_wpAt_Expr_any ?_
  refine ks_wpAt_MethodCall ?_ (call_eq hline)
  have ks : (iS f).names.lookup ("super" : Str) = some .globalImplicit := by rcases T.nf with rfl | rfl | rfl <;> rfl
  have kc : (iS f).names.lookup ("__class__" : Str) = some .free := by rcases T.nf with rfl | rfl | rfl <;> rfl
  have kself : (iS f).names.lookup ("self" : Str) = some .local := by rcases T.nf with rfl | rfl | rfl <;> rfl
  refine ks_wpAt_super_base (env := ksEnv qual (iS f) hh.objs.size fI (.ref cda) cc) ks kc rfl rfl (X₁ _ _ ho) rfl rfl rfl (X₁ _ _ hcode) rfl hvs hfile TP.top ?_
  refine ks_loadName_global rfl ks (loadGlobal_builtin (env := ksEnv qual (iS f) hh.objs.size fI (.ref cda) cc) (hg.keeps k) TP.free (hb.keeps k) hbs ⟨rfl, ?_⟩)
  refine wpAny_loadName_free rfl kc rfl ⟨_, X₁ _ _ hcell, rfl⟩ ?_
  have mself : List.lookup ("self" : Str) [((f, v) : Str × Value), ("self", .ref x)] = some (.ref x) := by simp [List.lookup, fnot]
  have mf : List.lookup f [((f, v) : Str × Value), ("self", .ref x)] = some v := by simp [List.lookup]
  refine wpAny_loadName_local rfl kself hns mself ?_
  refine ks_wpAny_isType_cls hC₁ rfl ⟨rfl, ?_⟩
  refine ks_wpAny_call_super hC₁ rfl hx₁ rfl (fun c e => by cases e) (looks_mroIn X₁ hsC) (fun h₂ e2 k2 => ?_)
  have X₂ : K.In h₂ := X₁.keeps k2
  have hx₂ := k2 _ _ hx₁
  have hC₂ := X₂ _ _ hC
  have hxC : x ≠ C := fun z => by
    rw [z] at hx₁
    rw [hC₁] at hx₁
    cases hx₁
  have I₂ : InstAt h₂ x (excO C t0) C none := ⟨hx₂, rfl, rfl, trivial⟩
  refine kxs_getMethod (K := K) KF e2 (looks_opaque X₂ T.op) (l₀ := .ref C :: bm) (l := bm) ?_ ?_ X₂ hal (I₂.type.andThen (looks_subIn X₂ hsB)) hxC rfl ?_
  · exact fun A Q E s k q => wpAny_bind ((looks_clsIn X₂ hcl) A _ E s k (wpAny_pure q))
  · simp
  have kk : (h₂.push (kxs_mw initId x)).get? h₂.objs.size = some (kxs_mw initId x) := Heap.get?_push_size h₂ rfl
  refine kxs_callWith (i := initId) (x := x) rfl (evalArgs_empty ⟨kk, ?_⟩)
  have hx₃ : (h₂.push (kxs_mw initId x)).get? x = some (excO C t0) := Heap.get?_push_of_some _ hx₂
  have hC₃ : (h₂.push (kxs_mw initId x)).get? C = _ := Heap.get?_push_of_some _ hC₂
  refine wpAny_call (codeAny_of_tree ?_)
  show wpAny _ _ (callAny (.ref h₂.objs.size) ⟨[], []⟩) _ _ _
  simp only [callAny]
  refine wpAny_bind (wpAny_load kk ?_)
  simp only [kxs_mw, show (Value.type "method-wrapper" == Value.type "method" || Value.type "method-wrapper" == Value.type "builtin_function_or_method" || Value.type "method-wrapper" == Value.type "method-wrapper") = true by decide, if_true]
  refine KFB.if_so (by decide) ?_
  refine wpAny_bind (check_bound_init FB.toExcCallFacts hC₃ hx₃ rfl ?_)
  refine wpAny_bind (wpAny_pure (wpAny_pure ?_))
  refine ⟨plainId_quiet FB.init.plain _, codeAny_builtin FB.initEntry ?_⟩
  refine exc_init_tree (cls := .ref C) (t0 := t0) (dv := none) (c2 := .none) (c3 := .none) (b4 := .bool false) hx₃ (by rw [sizeLine_eq]; decide) fun h₄ k4 hx4 ht4 => ?_
  -- self.f = f
  have k04 : ∀ b o, b ≠ x → hh.get? b = some o → h₄.get? b = some o := fun b o hb e => k4 b o hb (Heap.get?_push_of_some _ (k2 _ _ (k _ _ e)))
  have X₄ : K.In h₄ := fun a o e => k4 a o (fun z => by rw [z, hnx] at e; cases e) (Heap.get?_push_of_some _ (X₂ _ _ e))
  have hns4 : h₄.Ns hh.objs.size (fun y => List.lookup y [((f, v) : Str × Value), ("self", .ref x)]) := by
    obtain ⟨oL, es, ep, hL, r⟩ := hns
    exact ⟨oL, es, ep, k4 _ _ (Nat.ne_of_gt hxL) (Heap.get?_push_of_some _ (k2 _ _ hL)), r⟩
  have zz : hh.objs.size < h₄.objs.size := hns4.lt
  show PySem.wpAt _ _ _ (execs [.Assign [.Attribute (.Name "self" (p 5)) f (p 6)] (.Name f (p 7)) (p 8)] _) _ _ _
  refine wpAt_of_wpAny (wpAny_execs_cons (plainObj_wpAny_Assign_Attribute ?_ ?_))
  · refine ldC (v := v) rfl hns4 mf (ldC (v := .ref x) rfl hns4 mself ?_ rfl kself (by decide)) rfl kl fnot.2.1
    refine set_plain X₄ (ox := excO C (h₂.push (kxs_mw initId x)).objs.size) (od := none) ⟨hx4, rfl, rfl, trivial⟩ T.sa ?_
    refine exc_osaB X₄ hx4 hcl ?_ ?_ ?_ rfl T.noN (fun h₅ tk₅ dx k₅ dn dne hx₅ hn₅ => ?_)
    · intro self
      show refuseLoop self "__setattr__" (.ref C :: bm) = _
      rw [refuseLoop_ref]
      exact hps self
    · rfl
    · show List.contains (.ref C :: bm) _ = true
      rw [List.contains_cons, hobj, Bool.or_true]
    · show wpAny _ _ (execs _ _) _ _ _
      exact wpAny_execs_nil (hq h₅ tk₅ dx _ ⟨fun b o hb e => k₅ b o hb (k04 b o hb e), hx₅, Nat.le_of_lt (Nat.lt_of_lt_of_le zz dn), dne, hn₅⟩)
  · rcases T.nf with rfl | rfl | rfl <;> rfl
theorem x_made (T : XTxt prog K mg nm f C fI) (TP : TopX prog mg) {v : Value} (X : K.In s.heap) (hg : s.heap.Ns mainGlobals mg) (hb : s.heap.Ns builtinsNs mb) (hbs : mb "super" = some (.type "super")) (hlim : s.heap.NoLimit) (hroom : A.depth + 1 < recursionLimit)
    (hq : ∀ h' tk e d, OwnMade s.heap h' f e C d v → R (.ok (.ret (.ref e))) { s with heap := h', toks := tk }) :
    codeAny (model prog w) A (.call (.ref C) ⟨[v], []⟩) R s := by
  obtain ⟨B, newId, initId, bmB, n, cq, N, bs, bm, sn, sub, ab, col, dd, k0, k1, k2, k3, k5, hC, FB, KF, hT, hps, hobj, hal, hsB, hsC⟩ := T.cls
  obtain ⟨hp, g, dr, tk, os⟩ := s
  have k : ∀ b o, hp.get? b = some o → ((hp.push (kdv_tup [v])).push (excO C hp.objs.size)).get? b = some o := fun b o e => Heap.get?_push_of_some _ (Heap.get?_push_of_some _ e)
  have hget : ((hp.push (kdv_tup [v])).push (excO C hp.objs.size)).get? (hp.objs.size + 1) = some (excO C hp.objs.size) := by heap_get
  have hnx : K.lookup (hp.objs.size + 1) = none := by
    cases e : K.lookup (hp.objs.size + 1) with
    | none => rfl
    | some o =>
      have z : hp.get? (hp.objs.size + 1) = some o := X _ _ e
      exact absurd (Nat.lt_of_succ_lt (Heap.lt_size z)) (Nat.lt_irrefl _)
  refine call_own FB hT (X _ _ hC) (looks_findIn X T.iC) (fun self => bind_fn X self T.tC) (one_size v) ?_
  refine x_init (s := ⟨(hp.push (kdv_tup [v])).push (excO C hp.objs.size), g, dr, tk, os⟩) T TP (X.keeps k) (hg.keeps k) (hb.keeps k) hbs (hlim.keeps k) hget hnx ?_ fun h' tk' dx t1 ⟨k', hx, dn, dne, hns⟩ => ?_
  · show A.depth + 1 < recursionLimit
    exact hroom
  · have old : ∀ b o, hp.get? b = some o → h'.get? b = some o := fun b o e => k' b o (Nat.ne_of_lt (Nat.lt_succ_of_lt (Heap.lt_size e))) (k b o e)
    have z : hp.objs.size + 1 + 1 ≤ dx := by
      first
        | (simpa only [Heap.size_push] using dn)
        | exact dn
        | (have q := dn; rw [Heap.size_push, Heap.size_push] at q; exact q)
    exact ⟨rfl, hq h' tk' (hp.objs.size + 1) dx ⟨old, Nat.le_succ _, ⟨_, _, hx, rfl, rfl, rfl, rfl⟩, Nat.le_trans (Nat.le_trans (Nat.le_succ _) (Nat.le_succ _)) z, dne, hns⟩⟩
end
end ExX
end PySem
end
section
set_option Elab.async false
set_option linter.all false
set_option maxRecDepth 100000
set_option maxHeartbeats 2000000
/-! HX2: try with clauses, where the caught error is a thing like others (tracked). -/
namespace L2
open PySem PySem.Spec PyProof.Rows
open HL (exq)
section
variable {X : Cx} {pins : List (Addr × Obj)} {σ : St} {H : Hp} {s : Shared}
theorem exq_ok {P : Program} {w : World} {H : Hp} {h : Heap} {a : Addr} {cls : Value} {d : Option Addr} {oe : Obj} {vs : Array Value} (e : h.get? a = some oe) (z : Zc cls d oe) (hd : oe.data = .fields vs) : ObjOk P w H h a (exq a cls d) :=
  ⟨⟨oe, vs, e, z, hd⟩, ⟨oe, e⟩, fun h1 h2 ⟨oe, vs, e, z, hd⟩ k => ⟨oe, vs, k _ e, z, hd⟩⟩
theorem exq_at {P : Program} {w : World} {H : Hp} {h : Heap} {a : Addr} {cls : Value} {d : Option Addr} (hok : HOk P w H h) (e : H a = some (exq a cls d)) : ∃ (oe : Obj) (vs : Array Value), h.get? a = some oe ∧ Zc cls d oe ∧ oe.data = .fields vs := (hok a _ e).1
/-- an object that is not of the entry becomes known -/
theorem Inv.track {a : Addr} {cls : Value} {d : Option Addr} {oe : Obj} {vs : Array Value} (I : Inv X pins σ H s) (hn : H a = none) (h0 : X.s_0.heap.get? a = none) (he : s.heap.get? a = some oe) (hz : Zc cls d oe) (hd : oe.data = .fields vs) (nL : a ≠ X.env.locals)
    (nP : ∀ p ∈ X.pn ++ pins, p.1 ≠ a) : Inv X pins σ (upd H a (exq a cls d)) s :=
  { ok := I.ok, os := I.os, bare := I.bare
    base := {
      keep := I.base.keep, slot := I.base.slot
      free := fun b o e n hx => by
        rw [upd_ne (fun z => by rw [z, h0] at e; cases e)]
        exact I.base.free b o e n hx
      there := I.base.there
      tups := fun b xs q => by
        have z := I.base.tups b xs q
        rw [upd_ne (ne_of_none z hn)]
        exact z
      frzs := fun b o u q => by
        have z := I.base.frzs b o u q
        rw [upd_ne (ne_of_none z hn)]
        exact z
      tbls := fun b ps q => by
        obtain ⟨more, z⟩ := I.base.tbls b ps q
        exact ⟨more, by rw [upd_ne (ne_of_none z hn)]; exact z⟩ }
    loc := I.loc, cell := I.cell
    free := by rw [upd_ne (Ne.symm nL)]; exact I.free
    freeC := fun x c e => by
      rw [upd_ne (fun z => ?_)]
      · exact I.freeC x c e
      · obtain ⟨v, o, e1, e2⟩ := I.cell x c e
        rw [z, he] at e1
        cases e1
        rw [hd] at e2
        cases e2
    pin := fun p hp => by
      obtain ⟨e1, e2, e3⟩ := I.pin p hp
      exact ⟨e1, by rw [upd_ne (nP p hp)]; exact e2, e3⟩
    hok := HOk.laidN I.hok (fun b u e => e) hn (exq_ok he hz hd), len := I.len }
theorem Inv.suiteT (I : Inv X pins σ H s) (a : Addr) : Inv (X.suite a (X.pn ++ pins)) [] σ H s :=
  ⟨I.ok.suite _ _, I.os, I.bare, I.base, I.loc, I.cell, I.free, I.freeC, fun p hp => by
    have hp' : p ∈ X.pn ++ pins := by rw [List.append_nil] at hp; exact hp
    exact I.pin p hp', I.hok, I.len⟩
theorem Inv.unsuiteT {a : Addr} {pn' : List (Addr × Obj)} (I : Inv (X.suite a (X.pn ++ pins)) pn' σ H s) (ok : X.Ok) : Inv X pins σ H s :=
  ⟨ok, I.os, I.bare, I.base, I.loc, I.cell, I.free, I.freeC, fun p hp => I.pin p (List.mem_append_left _ hp), I.hok, I.len⟩
end
/-- the ends behind a clause with a name (slot i) -/
def endsAt (D : Ends) : Option Nat → Ends
  | some i => { nx := fun σ' H' => D.nx (σ'.set i none) H', rt := D.rt, bk := fun σ' H' => D.bk (σ'.set i none) H', ct := fun σ' H' => D.ct (σ'.set i none) H' }
  | none => D
def slotX (σ : St) (a : Addr) : Option Nat → St
  | some i => σ.set i (some (.ref a))
  | none => σ
/-- what the clauses wish of an exception of the body, one after the other -/
def wManyT (K : PySem.W.Frag) (Wout : WX) (D : Ends) : List (Value × Option Nat × TS) → WX
  | [] => Wout
  | (c, oi, ts) :: r => fun cls d σ H => ∃ b, PySem.W.exmOne K cls c = some b ∧ (b = true → ∀ a, H a = none → ts (endsAt D oi) (slotX σ a oi) (upd H a (exq a cls d))) ∧ (b = false → wManyT K Wout D r cls d σ H)
inductive HdsT (X : Cx) : List ExceptHandler → List (Value × Option Nat × TS) → Prop
  | nil : HdsT X [] []
  | as_ {x n : Str} {i : Nat} {c : Value} {ts : TS} {b₀ : Stmt} {suite : List Stmt} {np pos' : Pos} {hds : List ExceptHandler} {l : List (Value × Option Nat × TS)} (hc : Names X x c) (hi : X.N[i]? = some n) (hln : X.env.kindOf n = some .local)
      (hsu : ∀ (a : Addr) (pn : List (Addr × Obj)), PSs (X.suite a pn) (b₀ :: suite) ts) (r : HdsT X hds l) :
      HdsT X (.ExceptHandler (some (.Name x np)) (some n) (b₀ :: suite) pos' :: hds) ((c, some i, ts) :: l)
  | no {x : Str} {c : Value} {ts : TS} {b₀ : Stmt} {suite : List Stmt} {np pos' : Pos} {hds : List ExceptHandler} {l : List (Value × Option Nat × TS)} (hc : Names X x c)
      (hsu : ∀ (a : Addr) (pn : List (Addr × Obj)), PSs (X.suite a pn) (b₀ :: suite) ts) (r : HdsT X hds l) :
      HdsT X (.ExceptHandler (some (.Name x np)) none (b₀ :: suite) pos' :: hds) ((c, none, ts) :: l)
section
variable {X : Cx} {body : List Stmt} {h₀ : ExceptHandler} {hds : List ExceptHandler} {l : List (Value × Option Nat × TS)} {pos : Pos} {tb : WX → TS} {Wout : WX}
theorem ps_try_T (hs : X.stack = X.env :: X.outer) (hf : X.env.frame = some X.env.locals) (hex : X.ex = []) (hN : X.N.Nodup) (tk : Takes X Wout)
    (hb : ∀ (W : WX) (pn : List (Addr × Obj)) (xe : Value → Shared → Prop), Takes (X.tr pn xe) W → PassesOwn (model X.prog X.w) X.A X.env xe → PSs (X.tr pn xe) body (tb W))
    (hh : HdsT X (h₀ :: hds) l) : PS X (.Try body (h₀ :: hds) [] [] pos) (fun D σ H => tb (wManyT X.K Wout D l) D σ H) := by
  refine ⟨fun pins s σ H D I h => ?_⟩
  have ok := I.ok
  have hfr : X.A.frames = some (X.env :: X.outer) := by rw [ok.frames, hs]
  refine wpAny_Try_except ?_
  refine wpAny_mono ((hb (wManyT X.K Wout D l) (X.pn ++ pins) (fun e s₁ => wpAny (model X.prog X.w) X.A (noteFrame e X.env) (fun _ s₂ => wpAny (model X.prog X.w) X.A (setFlight e none) (fun _ s₃ =>
    wpAny (model X.prog X.w) X.A (handleBy e X.env (h₀ :: hds)) (SP X pins D) X.xe s₃) X.xe s₂) X.xe s₁) (fun u s' xx => ?_) PassesOwn.looking).run [] s σ H D (I.toTry _) h) (fun f s1 hsp => ?_) (fun e s1 he => he)
  · -- the catch
    obtain ⟨a, B, sI, pins', σ', H', cls, d, rfl, J', nb, up, sky, na, os, ag, w⟩ := xx
    have J : Inv X pins σ' H' sI := J'.ofTry ok
    have sky' : Sky B (X.env :: X.outer) a (Zc cls d) X.env.locals s'.heap := by rw [← hs]; exact sky
    have Ba : B.get? a = none := by
      rcases sky with h | h | h
      · exact h.2.1
      · exact h.2.1
      · exact h.2.1
    show wpAny (model X.prog X.w) X.A (noteFrame (.ref a) X.env) _ _ _
    refine Sky.land Zc.steady hfr hf sky' fun h3 fl3 up3 => ?_
    have J3 : Inv X pins σ' H' { s' with heap := h3 } := J.landed nb fl3.1 (up.trans up3) os ag
    obtain ⟨oe3, vs3, he3, hz3, hd3⟩ := fl3.there
    have notFr : ∀ {h : Heap} {o : Obj} {vs : Array Value}, h.FunFrames B (X.env :: X.outer) → h.get? a = some o → o.data = .fields vs → a ∉ frs (X.env :: X.outer) := fun {h o vs} ff e dd hm => by
      obtain ⟨_, o', e', hnf⟩ := ff.mem hm
      rw [e] at e'; cases e'
      exact hnf _ dd
    have nfr := notFr fl3.2.2.1 he3 hd3
    have nL : a ≠ X.env.locals := fun z => nfr (List.mem_filterMap.mpr ⟨X.env, List.mem_cons_self, by rw [hf, z]⟩)
    have nF : a ∉ X.fs := fun hm => by
      obtain ⟨e, he, q⟩ := List.mem_filterMap.mp hm
      exact nfr (List.mem_filterMap.mpr ⟨e, List.mem_cons_of_mem _ he, q⟩)
    have nI : ∀ b o, sI.heap.get? b = some o → b ∉ frs X.stack → b ≠ a := fun b o e hb z => by
      have q := nb b o e hb
      rw [z, Ba] at q
      cases q
    have h0 : X.s_0.heap.get? a = none := by
      cases e : X.s_0.heap.get? a with
      | none => rfl
      | some o =>
        obtain ⟨o', e'⟩ := J.base.there a o e (by rw [hex]; exact fun z => nomatch z)
        exact absurd rfl (nI a o' e' (by rw [hs]; exact nfr))
    have nP : ∀ p ∈ X.pn ++ pins, p.1 ≠ a := fun p hp => by
      obtain ⟨e1, _, e3, e4, _⟩ := J.pin p hp
      refine nI _ _ e1 fun hm => ?_
      rw [hs] at hm
      obtain ⟨e, he, q⟩ := List.mem_filterMap.mp hm
      rcases List.mem_cons.mp he with rfl | he
      · rw [hf] at q
        exact e3 (Option.some.inj q).symm
      · exact e4 (List.mem_filterMap.mpr ⟨e, he, q⟩)
    have S3 := J3.suite he3 hd3 na nL nF
    have go : ∀ {hds' : List ExceptHandler} {l' : List (Value × Option Nat × TS)}, HdsT X hds' l' → wManyT X.K Wout D l' cls d σ' H' →
        wpAny (model X.prog X.w) X.A (handleBy (.ref a) X.env hds') (SP X pins D) X.xe { s' with heap := h3 } := by
      have LT : PySem.W.Looks (model X.prog X.w) h3 (typeOf (.ref a)) cls := fun A Q E s k q => wpAny_typeOf_ref (k _ _ he3) (by rw [hz3.1]; exact q)
      have test : ∀ {x : Str} {c : Value} {np : Pos} {Q : Value → Shared → Prop} {E : Value → Shared → Prop}, Names X x c → Q c { s' with heap := h3 } → wpAny (model X.prog X.w) (X.A.mark (some (.ref a))) (eval (.Name x np) X.env) Q E { s' with heap := h3 } := fun {x c np Q E} hc q => by
        obtain ⟨hg, hdbg, hm | ⟨hm, hv, hnn⟩⟩ := hc
        · exact ld_glob (X := X.suite a ((a, oe3) :: (X.pn ++ pins))) S3 hg hm q hdbg
        · exact ld_blt (X := X.suite a ((a, oe3) :: (X.pn ++ pins))) S3 hg hm hv q hnn hdbg
      intro hds' l' hk
      induction hk with
      | nil =>
        intro w
        refine wpAny_handleBy_nil ?_
        obtain ⟨k1, k2, k3, oe, vs, T, oT, ts', he, hz, hd, h1, hr⟩ := id fl3
        unfold PySem.passOn
        refine wpAny_bind (wpAny_field he hd h1 ?_)
        rw [if_neg (show ¬ ((Value.ref T == Value.none) = true) from by simp)]
        have fin : wpAny (model X.prog X.w) X.A (setFlight (.ref a) X.env.frame) (fun _ s4 => wpAny (model X.prog X.w) X.A (throw (.ref a) : Sem Flow) (SP X pins D) X.xe s4) X.xe { s' with heap := h3 } := by
          rw [hf]
          refine HandSPX.setFlight_upZ fl3 fun h4 hh4 up4 => wpAny_throw (tk _ _ ?_)
          exact ⟨a, B, sI, pins, σ', H', cls, d, rfl, J, nb, (up.trans up3).trans up4, .inr (.inr (by rw [hs]; exact hh4)), na, os, ag, w⟩
        first
          | exact wpAny_bind (wpAny_pure (wpAny_bind fin))
          | exact wpAny_bind fin
      | @as_ x n i c ts b₀ suite np pos' hds2 l2 hc hi hln hsu r ih =>
        intro w
        obtain ⟨b, hb1, hyes, hno⟩ := w
        refine wpAny_handleBy_cons (codeAny_handlers_test ?_) (by intro q; cases q)
        have LM := PySem.W.exm_one (M := model X.prog X.w) (J3.kIn) LT hb1
        refine test hc (LM.here ?_)
        cases b with
        | true =>
          refine codeAny_handlers_suite_as ?_
          refine HandSPX.lands_againZ fl3 fun h4 fl4 up4 => ?_
          have J4 : Inv X pins σ' H' { s' with heap := h4 } := J.landed nb fl4.1 ((up.trans up3).trans up4) os ag
          obtain ⟨oe4, vs4, he4, hz4, hd4⟩ := fl4.there
          have S4 := (J4.track na h0 he4 hz4 hd4 nL nP).suiteT a
          refine store_ok (X := X.suite a (X.pn ++ pins)) (v := .ref a) S4 hN hi (.inl hln) rfl (fun s5 S5 => ?_) (.inr hln)
          refine wpAny_mono ((hsu a (X.pn ++ pins)).run [] s5 _ _ _ S5 (hyes rfl a na)) (fun f s6 hsp => ?_) (fun _ _ z => False.elim z)
          have end_ : ∀ {σ6 : St} {H6 : Hp} {Q : Shared → Prop}, Inv (X.suite a (X.pn ++ pins)) [] σ6 H6 s6 → (∀ s7, Inv X pins (σ6.set i none) H6 s7 → Q s7) →
              wpAny (model X.prog X.w) X.A (do bindName X.env n .none; unbindBehindTheSuite X.env n pos') (fun _ s7 => Q s7) X.xe s6 := fun {σ6 H6 Q} S6 hq => gone_ok (S6.unsuiteT ok) hN hi hln hq
          cases f with
          | next =>
            obtain ⟨σ6, H6, S6, q6⟩ := hsp
            exact end_ S6 fun s7 J7 => ⟨_, _, J7, q6⟩
          | brk =>
            obtain ⟨σ6, H6, S6, q6⟩ := hsp
            exact end_ S6 fun s7 J7 => ⟨_, _, J7, q6⟩
          | cont =>
            obtain ⟨σ6, H6, S6, q6⟩ := hsp
            exact end_ S6 fun s7 J7 => ⟨_, _, J7, q6⟩
          | ret u =>
            obtain ⟨v6, σ6, H6, S6, r6, q6⟩ := hsp
            exact end_ S6 fun s7 J7 => ⟨_, _, _, J7, r6, q6⟩
        | false =>
          show wpAny _ X.A (handleBy (.ref a) X.env hds2) _ _ _
          exact ih (hno rfl)
      | @no x c ts b₀ suite np pos' hds2 l2 hc hsu r ih =>
        intro w
        obtain ⟨b, hb1, hyes, hno⟩ := w
        refine wpAny_handleBy_cons (codeAny_handlers_test ?_) (by intro q; cases q)
        have LM := PySem.W.exm_one (M := model X.prog X.w) (J3.kIn) LT hb1
        refine test hc (LM.here ?_)
        cases b with
        | true =>
          refine codeAny_handlers_suite ?_
          refine HandSPX.lands_againZ fl3 fun h4 fl4 up4 => ?_
          have J4 : Inv X pins σ' H' { s' with heap := h4 } := J.landed nb fl4.1 ((up.trans up3).trans up4) os ag
          obtain ⟨oe4, vs4, he4, hz4, hd4⟩ := fl4.there
          have S4 := (J4.track na h0 he4 hz4 hd4 nL nP).suiteT a
          refine wpAny_mono ((hsu a (X.pn ++ pins)).run [] _ _ _ _ S4 (hyes rfl a na)) (fun f s6 hsp => ?_) (fun _ _ z => False.elim z)
          cases f with
          | next =>
            obtain ⟨σ6, H6, S6, q6⟩ := hsp
            exact ⟨_, _, S6.unsuiteT ok, q6⟩
          | brk =>
            obtain ⟨σ6, H6, S6, q6⟩ := hsp
            exact ⟨_, _, S6.unsuiteT ok, q6⟩
          | cont =>
            obtain ⟨σ6, H6, S6, q6⟩ := hsp
            exact ⟨_, _, S6.unsuiteT ok, q6⟩
          | ret u =>
            obtain ⟨v6, σ6, H6, S6, r6, q6⟩ := hsp
            exact ⟨_, _, _, S6.unsuiteT ok, r6, q6⟩
        | false =>
          show wpAny _ X.A (handleBy (.ref a) X.env hds2) _ _ _
          exact ih (hno rfl)
    exact go hh w
  · cases f with
    | next =>
      obtain ⟨σ', H', J', q⟩ := hsp
      exact wpAny_execs_nil ⟨σ', H', J'.ofTry ok, q⟩
    | brk =>
      obtain ⟨σ', H', J', q⟩ := hsp
      exact ⟨σ', H', J'.ofTry ok, q⟩
    | cont =>
      obtain ⟨σ', H', J', q⟩ := hsp
      exact ⟨σ', H', J'.ofTry ok, q⟩
    | ret u =>
      obtain ⟨v, σ', H', J', r, q⟩ := hsp
      exact ⟨v, σ', H', J'.ofTry ok, r, q⟩
end
end L2
end
section
set_option Elab.async false
set_option linter.all false
set_option maxRecDepth 100000
set_option maxHeartbeats 2000000
/-! HX3: raise C(e), try, e.f as readings over data. -/
namespace L2
open PySem PySem.Spec PyProof.Rows
section
variable {X : Cx} {C fI : Addr} {nm f : Str}
/-- C(e) -/
def tMkX (C : Addr) (f : Str) (ta : TA) : St → Hp → XK → Prop := fun σ H Q => ta σ H fun vs H1 => ∃ v, vs = [v] ∧ ∀ d, H1 d = none → Q (.ref C) (some d) (upd H1 d (.xd [(f, v)]))
theorem relO_one {v : V} {v' : Value} (r : RelV v v') (f g : Str) : RelO (List.lookup g [(f, v)]) (if g = f then some v' else none) := by
  by_cases hw : g = f
  · subst hw
    rw [if_pos rfl]
    have q : List.lookup g [(g, v)] = some v := by simp [List.lookup]
    rw [q]
    exact r
  · rw [if_neg hw]
    have qw : (g == f) = false := by simpa using hw
    have q2 : List.lookup g [(f, v)] = none := by simp [List.lookup, qw]
    rw [q2]
    trivial
theorem pmk_x {a : Expr} {ta : TA} {p pos : Pos} {k : Nat} (T : PySem.ExX.XTxt X.prog X.K X.mg nm f C fI) (TP : PySem.ExX.TopX X.prog X.mg) (hr : Room (k + 1) X.A) (ha : PA X [a] ta) (hg : Gl X nm) (hdb : (nm == ("__debug__" : Str)) = false)
    (he : starEach (a :: []) X.env = (false, eval a X.env) :: starEach [] X.env := by rfl) (hpl : (backTo pos (starEach [] X.env)).any (·.1) = false := by rfl) :
    PMk X (.Call (.Name nm p) [a] [] pos) (tMkX C f ta) := by
  intro pins s σ H Q I h
  refine wpAny_Call_Name_kw (ld_glob I hg T.gC ?_ hdb)
  refine PySem.W.callWith_K (h₀ := X.base) I.ok.mod.kin T.kC (thn (ha.run pos pins s σ H _ I h) fun us s1 hh => ?_) he hpl
  obtain ⟨vs, H1, I1, r1, v, ev, q1⟩ := hh
  subst ev
  refine ⟨I1.kIn, ?_⟩
  cases r1 with
  | cons rv rn =>
    rename_i v' us'
    cases rn
    show wpAny _ _ (call (.ref C) [v']) _ _ _
    have hlim := I1.nolimit
    have hglob := I1.ok.mod.glob.keeps I1.bk
    obtain ⟨mb, hb0, hbs⟩ := I1.ok.mod.blt
    have hb1 := hb0.keeps I1.bk
    obtain ⟨hp, g, dr, tk, os⟩ := s1
    refine wpAny_call (PySem.ExX.x_made T TP I1.kIn hglob hb1 ((hbs _ (by decide)).trans PyProof.Rows.Boot.«super») hlim (by have := hr.dp; omega) fun h' tk' e d M => ?_)
    show MkP X pins σ Q (.ref e) ⟨h', g, dr, tk', os⟩
    obtain ⟨oe, fv, hoe, hc, hd, hdat, h1⟩ := M.obj
    have hns := M.ns
    obtain ⟨G', g1, g2⟩ := restrict h' fun b => decide (b ≠ e)
    have gk : ∀ b, b ≠ e → G'.get? b = h'.get? b := fun b hb => g1 b (decide_eq_true hb)
    have ge : G'.get? e = none := g2 e (by simp)
    have old : ∀ b o, hp.get? b = some o → G'.get? b = some o := fun b o q => (gk b (Nat.ne_of_lt (Nat.lt_of_lt_of_le (Heap.lt_size q) M.new))).trans (M.keep b o q)
    have ob : ObjOk X.prog X.w (upd H1 d (.xd [(f, v)])) G' d (.xd [(f, v)]) :=
      ⟨_, hns.at (fun o q => (gk d M.dne).trans q), fun g => relO_one rv f g⟩
    have J : Inv X pins σ (upd H1 d (.xd [(f, v)])) ⟨G', g, dr, tk', os⟩ := I1.laid (t' := tk') old M.dbig ob
    refine ⟨e, oe, fv, ⟨G', g, dr, tk', os⟩, _, .ref C, some d, rfl, J, fun b o q => ?_, ge, hoe, ⟨hc, hd⟩, hdat, h1, ?_, rfl, I1.bare, raises_own T.exC T.tyC, q1 d (I1.hok.fresh M.dbig)⟩
    · by_cases hb : b = e
      · have q' : G'.get? b = some o := q
        rw [hb, ge] at q'; cases q'
      · exact (gk b hb).symm.trans q
    · rw [upd_ne (Ne.symm M.dne)]
      exact I1.hok.fresh M.new
end
end L2
namespace HL
open PySem PySem.Spec L2
section
variable {X : Cx} {Wx : WX} {k : Nat} {C : Str} {f : Str} {fI : Addr} {fe : L → Store → R D} {e : Expr}
/-- raise C(e): C's one field is f -/
def sRaise (C f : Str) (fe : L → Store → R D) : L → Store → Fl := fun l S => (fe l S).toS l fun d S1 => .exc ⟨C, [f], [d]⟩ l S1
theorem fs_raise {p pos pos2 : Pos} (hc : X.calm = true) (T : PySem.ExX.XTxt X.prog X.K X.mg C f (He.ga X.K C) fI) (TP : PySem.ExX.TopX X.prog X.mg) (hr : Room (k + 1) X.A) (tk : Takes X Wx) (ha : FA X Wx [e] (aCons fe aNil)) (hg : Gl X C) (hdb : (C == ("__debug__" : Str)) = false := by decide)
    (he : starEach (e :: []) X.env = (false, eval e X.env) :: starEach [] X.env := by rfl) (hpl : (backTo pos (starEach [] X.env)).any (·.1) = false := by rfl) :
    FS X Wx (.Raise (some (.Call (.Name C p) [e] [] pos)) none pos2) (sRaise C f fe) := by
  refine PS.imp (ps_raise hc tk (pmk_x T TP hr ha hg hdb he hpl)) fun D σ H h => ?_
  obtain ⟨ρ, S, B, l, ok, sl, h⟩ := h
  refine ⟨ρ, S, B, l, ok, sl, ?_⟩
  have h2 := PostS.toS sl ok h
  show Post _ _ _ _ ((fe l S).bind fun d S1 => (R.ok [] S1).bind fun ds S2 => .ok (d :: ds) S2) _
  cases q : fe l S with
  | bad => rw [q] at h2; exact h2.elim
  | exc x S1 => rw [q] at h2; exact h2
  | ok d S1 =>
    rw [q] at h2
    intro ρ1 H1 e1 o1 vs rv
    obtain ⟨_, _, h3⟩ := h2 ρ1 H1 e1 o1
    cases rv with
    | cons rd rn =>
      cases rn
      rename_i v
      refine ⟨v, rfl, fun dd hn => ?_⟩
      have sm := Same.upd (o := .xd [(f, v)]) hn
      refine h3 ρ1 _ σ (.ref (He.ga X.K C)) (some dd) (Ext.same sm) (o1.same sm) ((sl.ext e1 ok).ext (Ext.same sm) o1) ⟨rfl, .inr ⟨dd, [v], rfl, upd_same, rfl, ?_⟩⟩
      exact Reps.ext (Ext.same sm) o1 (.cons rd .nil)
end

/-! ### try -/
/-- where an error is handled: what is known of it -/
structure GdS (A : Around) : Prop where
  g : A.guards = some []
structure FitS (X : Cx) : Prop where
  rm : GdS X.A
  un : X.A.units + 100 < cLine
  nd : X.N.Nodup
section
variable {X : Cx}
theorem FitS.hu (c : FitS X) : X.A.units + 65 < cLine := by
  have := c.un
  omega
theorem FitS.hu4 (c : FitS X) : X.A.units + 64 < cLine := by
  have := c.un
  omega
theorem Fit.suite {Wx : WX} {k : Nat} (c : Fit X Wx k) (a : Addr) (pn : List (Addr × Obj)) : FitS (X.suite a pn) :=
  ⟨⟨c.rm.g⟩, by
    have := c.rm.r.un
    show X.A.units + 100 < cLine
    omega, c.nd⟩
theorem Fit.tr {Wx W : WX} {k : Nat} (c : Fit X Wx k) {pn : List (Addr × Obj)} {xe : Value → Shared → Prop} (tk : Takes (X.tr pn xe) W) (pass : PassesOwn (model X.prog X.w) X.A X.env xe) : Fit (X.tr pn xe) W k := ⟨tk, pass, c.rm, c.cm, c.nd⟩
end
/-- an except clause: the classes that it takes, those that it does not, its slot, its suite -/
structure Hn where
  yes : List Str
  no : List Str
  at_ : Option Nat
  f : L → Store → Fl
def Fl.out (r : Fl) (oi : Option Nat) : Fl := match r with
  | .nx l S => .nx (match oi with
    | some i => l.set i none
    | none => l) S
  | .rt d S => .rt d S
  | .bk l S => .bk (match oi with
    | some i => l.set i none
    | none => l) S
  | .ct l S => .ct (match oi with
    | some i => l.set i none
    | none => l) S
  | _ => .bad
def hRun : List Hn → Exc → L → Store → Fl
  | [], e, l, S => .exc e l S
  | h :: r, e, l, S => if h.yes.contains e.cls = true then (h.f (match h.at_ with
      | some i => l.set i (some (.err e.cls e.ks e.vs))
      | none => l) S).out h.at_ else if h.no.contains e.cls = true then hRun r e l S else .bad
def sTry (f : L → Store → Fl) (hs : List Hn) : L → Store → Fl := fun l S => match f l S with
  | .exc e l1 S1 => hRun hs e l1 S1
  | r => r
/-- which classes the class x takes -/
def TakesB (K : Frag) (x : Str) (yes no : List Str) : Prop := (∀ D ∈ yes, PySem.W.exmOne K (.ref (He.ga K D)) (.ref (He.ga K x)) = some true) ∧ ∀ D ∈ no, PySem.W.exmOne K (.ref (He.ga K D)) (.ref (He.ga K x)) = some false
inductive HdsF (X : Cx) : List ExceptHandler → List Hn → Prop
  | nil : HdsF X [] []
  | as_ {x n : Str} {i : Nat} {g : L → Store → Fl} {yes no : List Str} {b₀ : Stmt} {suite : List Stmt} {np pos' : Pos} {hds : List ExceptHandler} {l : List Hn} (hc : Names X x (.ref (He.ga X.K x))) (tb : TakesB X.K x yes no) (hi : X.N[i]? = some n) (hln : X.env.kindOf n = some .local)
      (hsu : ∀ (a : Addr) (pn : List (Addr × Obj)), FitS (X.suite a pn) → FB (X.suite a pn) wx0 (b₀ :: suite) g) (r : HdsF X hds l) :
      HdsF X (.ExceptHandler (some (.Name x np)) (some n) (b₀ :: suite) pos' :: hds) (⟨yes, no, some i, g⟩ :: l)
  | no {x : Str} {g : L → Store → Fl} {yes no : List Str} {b₀ : Stmt} {suite : List Stmt} {np pos' : Pos} {hds : List ExceptHandler} {l : List Hn} (hc : Names X x (.ref (He.ga X.K x))) (tb : TakesB X.K x yes no)
      (hsu : ∀ (a : Addr) (pn : List (Addr × Obj)), FitS (X.suite a pn) → FB (X.suite a pn) wx0 (b₀ :: suite) g) (r : HdsF X hds l) :
      HdsF X (.ExceptHandler (some (.Name x np)) none (b₀ :: suite) pos' :: hds) (⟨yes, no, none, g⟩ :: l)
section
variable {K : Frag} {Wx : WX} {W : Wd} {σ : L2.St} {l : L} {D : Ends}
theorem Sl.clr (s : Sl K W σ l) (i : Nat) : Sl K W (σ.set i none) (l.set i none) := by
  refine ⟨by rw [List.length_set, List.length_set]; exact s.len, fun j d h => ?_⟩
  by_cases e : i = j
  · subst e
    by_cases hi : i < l.length
    · rw [List.getElem?_set_self hi] at h
      cases h
    · rw [List.getElem?_eq_none (by rw [List.length_set]; omega)] at h
      cases h
  · rw [List.getElem?_set_ne e] at h
    obtain ⟨w, a, b⟩ := s.get j d h
    exact ⟨w, by rw [List.getElem?_set_ne e]; exact a, b⟩
theorem out_post {r : Fl} {oi : Option Nat} (h : PostS K Wx W (r.out oi) D) : PostS K wx0 W r (endsAt D oi) := by
  cases r with
  | nx l S =>
    intro ρ H σ e o s
    cases oi with
    | some i => exact h ρ H _ e o (s.clr i)
    | none => exact h ρ H _ e o s
  | bk l S =>
    intro ρ H σ e o s
    cases oi with
    | some i => exact h ρ H _ e o (s.clr i)
    | none => exact h ρ H _ e o s
  | ct l S =>
    intro ρ H σ e o s
    cases oi with
    | some i => exact h ρ H _ e o (s.clr i)
    | none => exact h ρ H _ e o s
  | rt d S =>
    intro ρ H v e o q
    cases oi with
    | some i => exact h ρ H v e o q
    | none => exact h ρ H v e o q
  | exc e l S => exact h.elim
  | bad => exact h.elim
end
section
variable {X : Cx} {Wx : WX} {k : Nat} {hds : List ExceptHandler} {hl : List Hn}
theorem hds_of (c : Fit X Wx k) (hh : HdsF X hds hl) : ∃ l', HdsT X hds l' ∧ ∀ (e : Exc) (l : L) (S : Store) (W : Wd) (D : Ends), PostS X.K Wx W (hRun hl e l S) D → ∀ ρ H σ cls d, Ext W ⟨ρ, S, H, W.B⟩ → Ok X.K ⟨ρ, S, H, W.B⟩ → Sl X.K ⟨ρ, S, H, W.B⟩ σ l → RepX X.K ⟨ρ, S, H, W.B⟩ e cls d →
    wManyT X.K Wx D l' cls d σ H := by
  have step : ∀ {x : Str} {g : L → Store → Fl} {yes no : List Str} {oi : Option Nat} {hl2 : List Hn} {l2 : List (Value × Option Nat × TS)}, TakesB X.K x yes no →
      (∀ (e : Exc) (l : L) (S : Store) (W : Wd) (D : Ends), PostS X.K Wx W (hRun hl2 e l S) D → ∀ ρ H σ cls d, Ext W ⟨ρ, S, H, W.B⟩ → Ok X.K ⟨ρ, S, H, W.B⟩ → Sl X.K ⟨ρ, S, H, W.B⟩ σ l → RepX X.K ⟨ρ, S, H, W.B⟩ e cls d → wManyT X.K Wx D l2 cls d σ H) →
      ∀ (e : Exc) (l : L) (S : Store) (W : Wd) (D : Ends), PostS X.K Wx W (hRun (⟨yes, no, oi, g⟩ :: hl2) e l S) D → ∀ ρ H σ cls d, Ext W ⟨ρ, S, H, W.B⟩ → Ok X.K ⟨ρ, S, H, W.B⟩ → Sl X.K ⟨ρ, S, H, W.B⟩ σ l → RepX X.K ⟨ρ, S, H, W.B⟩ e cls d →
        wManyT X.K Wx D ((.ref (He.ga X.K x), oi, tS X.K wx0 g) :: l2) cls d σ H := by
    intro x g yes no oi hl2 l2 tb ih e l S W D h ρ H σ cls d ext ok sl rx
    obtain ⟨rfl, rx2⟩ := id rx
    unfold hRun at h
    by_cases hy : yes.contains e.cls = true
    · refine ⟨true, tb.1 _ (by simpa using hy), fun _ a na => ?_, fun q => Bool.noConfusion q⟩
      rw [if_pos hy] at h
      have sm : Same H (upd H a (exq a (.ref (He.ga X.K e.cls)) d)) := Same.upd na
      have h2 := (out_post h).weak (ext.trans (Ext.same sm))
      cases oi with
      | none => exact ⟨ρ, S, W.B, _, ok.same sm, sl.ext (Ext.same sm) ok, h2⟩
      | some i =>
        have rr : Rep X.K ⟨ρ, S, upd H a (exq a (.ref (He.ga X.K e.cls)) d), W.B⟩ (.err e.cls e.ks e.vs) (.ref a) := by
          rcases rx2 with ⟨e1, e2⟩ | ⟨dd, vs, e1, e2, e3, e4⟩
          · rw [e1, e2]
            exact .err (d := d) (vs := []) upd_same (.inl rfl) rfl .nil
          · exact .err (d := d) (vs := vs) upd_same (.inr ⟨dd, e1, sm _ _ e2⟩) e3 (Reps.ext (Ext.same sm) ok e4)
        exact ⟨ρ, S, W.B, _, ok.same sm, (sl.ext (Ext.same sm) ok).set rr i, h2⟩
    · rw [if_neg hy] at h
      by_cases hn : no.contains e.cls = true
      · rw [if_pos hn] at h
        exact ⟨false, tb.2 _ (by simpa using hn), fun q => Bool.noConfusion q, fun _ => ih e l S W D h ρ H σ _ d ext ok sl rx⟩
      · rw [if_neg hn] at h
        exact h.elim
  induction hh with
  | nil => exact ⟨[], .nil, fun e l S W D h ρ H σ cls d ext ok sl rx => h ρ H σ cls d ext ok sl rx⟩
  | as_ hc tb hi hln hsu r ih =>
    obtain ⟨l2, t2, ih⟩ := ih
    exact ⟨_, .as_ hc hi hln (fun a pn => hsu a pn (c.suite a pn)) t2, step tb ih⟩
  | no hc tb hsu r ih =>
    obtain ⟨l2, t2, ih⟩ := ih
    exact ⟨_, .no hc (fun a pn => hsu a pn (c.suite a pn)) t2, step tb ih⟩
theorem fs_try {body : List Stmt} {h₀ : ExceptHandler} {f : L → Store → Fl} {pos : Pos} (hs : X.stack = X.env :: X.outer) (hf : X.env.frame = some X.env.locals) (hex : X.ex = []) (c : Fit X Wx k)
    (hb : ∀ (W : WX) (pn : List (Addr × Obj)) (xe : Value → Shared → Prop), Fit (X.tr pn xe) W k → FB (X.tr pn xe) W body f) (hh : HdsF X (h₀ :: hds) hl) : FS X Wx (.Try body (h₀ :: hds) [] [] pos) (sTry f hl) := by
  obtain ⟨l', T, post⟩ := hds_of c hh
  refine PS.imp (ps_try_T (tb := fun W => tS X.K W f) hs hf hex c.nd c.tk (fun W pn xe tk pass => hb W pn xe (c.tr tk pass)) T) fun D σ H h => ?_
  obtain ⟨ρ, S, B, l, ok, sl, h⟩ := h
  refine ⟨ρ, S, B, l, ok, sl, ?_⟩
  unfold sTry at h
  cases q : f l S with
  | nx l1 S1 => rw [q] at h; exact h
  | rt d S1 => rw [q] at h; exact h
  | bk l1 S1 => rw [q] at h; exact h
  | ct l1 S1 => rw [q] at h; exact h
  | bad => rw [q] at h; exact h
  | exc e l1 S1 =>
    rw [q] at h
    exact fun ρ H σ cls d ext o s rx => post e l1 S1 _ D h ρ H σ cls d ext o s rx
end

/-! ### e.f, e an error -/
section
variable {X : Cx} {Wx : WX} {f : Str} {e : Expr} {g : L → Store → R D} {pos : Pos}
def pErr (cs : List Str) (f : Str) : D → Store → Option D := fun d _ => match d with
  | .err C ks vs => if cs.contains C = true then (ks.zip vs).lookup f else none
  | _ => none
/-- the field f of errors of the class at C can be read -/
def ErrC (K : Frag) (C f : Str) : Prop := XfC K (He.ga K C) ∧ PySem.W.findIn K (.ref (He.ga K C)) f = some none
/-- x.f, x a known error -/
def tErr (K : Frag) (f : Str) (te : TE) : TE := fun σ H Q => te σ H fun x H1 => ∃ (a C dd : Addr) (fs : List (Str × V)) (v : V), x = .ref a ∧ XfC K C ∧ PySem.W.findIn K (.ref C) f = some none ∧ H1 a = some (exq a (.ref C) (some dd)) ∧ H1 dd = some (.xd fs) ∧ fs.lookup f = some v ∧ Q v H1
theorem pe_err {te : TE} (he : PE X e te) (hb : attributeBase e f X.env (eval e X.env) = eval e X.env := by rfl) : PE X (.Attribute e f pos) (tErr X.K f te) := by
  refine ⟨fun pins s σ H Q I h => ?_⟩
  refine attr_of hb (thn (he.run pins s σ H _ I h) fun u s1 hh => ?_)
  obtain ⟨x, H1, I1, rx, a, C, dd, fs, v, ex, T, hno, e1, ea, l, q⟩ := hh
  subst ex
  obtain rfl : u = Value.ref a := rx
  obtain ⟨oe, vs, ha, hz, hd⟩ := exq_at I1.hok e1
  have hx : ObjOk X.prog X.w H1 s1.heap dd (.xd fs) := I1.hok dd _ ea
  obtain ⟨mA, hns, hr⟩ := hx
  obtain ⟨od, ho, hl⟩ := lookIn_ns hns
  obtain ⟨u, hu, ru⟩ := RelO.some_of (v := v) (o := mA f) (by rw [← l]; exact hr f)
  have J : PySem.W.InstAt s1.heap a oe C (some od) := ⟨ha, hz.1, by unfold PySem.W.notCls; rw [hd] <;> rfl, by rw [hz.2]; exact ho⟩
  exact HandSPX.exc_get I1.kIn J T.ga T.gg T.exC (PySem.W.findObj_own T.hdC hno rfl (by rw [hl, hu])) (handed_of ru) ⟨v, H1, I1.tok _, ru, q⟩
theorem fe_err {cs : List Str} (he : FE X Wx e g) (hc : ∀ C ∈ cs, ErrC X.K C f) (hb : attributeBase e f X.env (eval e X.env) = eval e X.env := by rfl) : FE X Wx (.Attribute e f pos) (mUn (pErr cs f) g) :=
  (pe_err he hb).imp fun σ H Q ⟨ρ, S, B, l, ok, sl, h⟩ => ⟨ρ, S, B, l, ok, sl, h.bind.mono fun W1 d e1 o1 ⟨_, _, h1⟩ v rv => by
    obtain ⟨r, er, q⟩ := h1.ofO
    unfold pErr at er
    cases rv with
    | @err C ks xs vs a dd h1 hd hl rs =>
      dsimp only at er
      by_cases hm : cs.contains C = true
      · rw [if_pos hm] at er
        rcases hd with rfl | ⟨d2, rfl, h2⟩
        · cases er
        · obtain ⟨w, hw, rw'⟩ := lookup_rep rs er
          obtain ⟨t1, t2⟩ := hc C (by simpa using hm)
          exact ⟨a, _, d2, _, w, rfl, t1, t2, h1, h2, hw, q W1.H (Same.refl _) o1 w rw'⟩
      · rw [if_neg hm] at er
        cases er
    | _ => cases er⟩
end
end HL
end
section
set_option Elab.async false
set_option linter.all false
set_option maxRecDepth 100000
set_option maxHeartbeats 2000000
/-! HX4: what the head tells of classes of errors. -/
namespace HL
open PySem PySem.Spec L2 PySem.Builtin PySem.Builtin.ObjectAttr
/-- a class of errors with one field: its name, the field, its built-in base, the def of its __init__ -/
structure XcD where
  nm : Str
  f : Str
  base : String
  ar : Arguments
  bd : List Stmt
def tailOf (B : String) : List Value := [.type B, .type "Exception", .type "BaseException", .type "object"]
def qA (a : Arguments) (i : Nat) : Pos := ((a.args[i]?).map (·.pos)).getD ⟨0, 0, 0, 0⟩
def qB (b : List Stmt) (i : Nat) : Pos := match b with
  | [.Expr (.Call (.Attribute (.Call (.Name _ p0) _ _ p1) _ p2) _ _ p3) p4, .Assign [.Attribute (.Name _ p5) _ p6] (.Name _ p7) p8] => [p0, p1, p2, p3, p4, p5, p6, p7, p8].getD i p0
  | _ => ⟨0, 0, 0, 0⟩
def XcD.init (d : XcD) (K : Frag) : Addr := He.ma K (He.ga K d.nm) "__init__"
def fnX (K : Frag) (a : Addr) : He.FnW := match K.lookup a with
  | some ⟨_, _, .func fd, _⟩ => some (fd.name, fd.qualname, fd.params, fd.body, fd.scope, fd.globals, fd.closure.map fun p => (p.1, 0), fd.builtins)
  | _ => none
def XcD.qual (d : XcD) : Str := d.nm ++ ".__init__"
def XcD.val (d : XcD) : He.FnW := some ("__init__", d.qual, ExX.iA d.f (qA d.ar), .stmts (ExX.iB d.f (qB d.bd)), ExX.iS d.f, mainGlobals, [("__class__", 0)], builtinsNs)
/-- the class's own shape -/
def clsX (K : Frag) (C : Addr) (B newId initId : String) : Bool := PySem.W.excInitIn K C (tailOf B) newId && (PySem.W.hasDictIn K C && (match PySem.W.clsIn K C with
  | some cd => He.eqO (PySem.W.alongIn K "__init__" (cd.mro.drop 1) |>.map id) (some (some (.builtin initId)))
  | none => false) && (decide (PySem.W.subIn K (.ref C) (.type B) = some true) && decide (PySem.W.mroIn K C (.ref C) = some true)))
def fnB (K : Frag) (C fI : Addr) (qual file : Str) : Bool := match K.lookup fI with
  | some ⟨_, _, .func fd, _⟩ => decide (fd.defaults = .none) && (decide (fd.kwdefaults = .none) && ((match fd.code with
    | .ref cda => PySem.W.codeIn K (.ref cda) qual && (match K.lookup cda with
      | some ⟨_, _, .fields vs, _⟩ => (match (vs[2]? : Option Value) with
        | some (.str z _) => file == z
        | _ => false)
      | _ => false)
    | _ => false) && (match fd.closure with
    | [(_, cc)] => (match K.lookup cc with
      | some ⟨_, _, .cell (some (.ref C')), _⟩ => decide (C' = C)
      | _ => false)
    | _ => false)))
  | _ => false
def XcD.ok (file : Str) (K : Frag) (d : XcD) : Bool := decide (d.f = "given" ∨ d.f = "index" ∨ d.f = "most") && ((He.Fa.glo d.nm).ok K && ((match d.base with
  | "ValueError" => clsX K (He.ga K d.nm) "ValueError" "ValueError.__new__" "ValueError.__init__"
  | "LookupError" => clsX K (He.ga K d.nm) "LookupError" "LookupError.__new__" "LookupError.__init__"
  | "ArithmeticError" => clsX K (He.ga K d.nm) "ArithmeticError" "ArithmeticError.__new__" "ArithmeticError.__init__"
  | _ => false) && (He.eqO (PySem.W.findIn K (.ref (He.ga K d.nm)) "__setattr__") (some (some (.builtin "object.__setattr__"))) && (xfB K (He.ga K d.nm) && (He.eqO (PySem.W.findIn K (.ref (He.ga K d.nm)) d.f) (some none) && (He.eqO (PySem.W.findIn K (.ref (He.ga K d.nm)) "__init__") (some (some (.ref (d.init K)))) &&
  (decide (PySem.W.typeIn K (.ref (d.init K)) = some (.type "function")) && (PySem.W.keepIn K (.ref (He.ga K d.nm)) && (decide (PySem.W.typeIn K (.ref (He.ga K d.nm)) = some (.type "type")) && (He.eqO (PySem.W.nsIn K PySem.cStatics "thirdparty.any") (some none) && (fnB K (He.ga K d.nm) (d.init K) d.qual file && ((qB d.bd 2).endLine == (qB d.bd 3).line))))))))))))
theorem pass_of {B : String} (hB : ∀ self, refuseLoop self "__setattr__" (tailOf B) = pure ()) (self : Value) : ∀ l : List Value, PySem.W.excTail (tailOf B) l = true → refuseLoop self "__setattr__" l = pure () := by
  intro l
  induction l with
  | nil => intro e; exact absurd (beq_iff_eq.mp e) (by simp [tailOf])
  | cons a r ih =>
    intro e
    rcases PySem.W.excTail_cases (a :: r) e with ⟨c, r', q, h⟩ | q
    · obtain ⟨rfl, rfl⟩ := List.cons.inj q
      rw [refuseLoop_ref]
      exact ih h
    · rw [q]
      exact hB self
theorem clsX_ok {K : Frag} {C : Addr} {B newId initId : String} (FB : ExcBaseFacts B newId initId (tailOf B)) (KF : PySem.W.KxsFacts B initId) (hB : ∀ self, refuseLoop self "__setattr__" (tailOf B) = pure ()) (h : clsX K C B newId initId = true) :
    ∃ B newId initId bmB n q N bs bm sn sub ab col dd k0 k1 k2 k3 k5, K.lookup C = some (excClassObj n q C N bs bm true sn sub ab col dd k0 k1 k2 k3 k5 newId) ∧ ExcBaseFacts B newId initId bmB ∧ PySem.W.KxsFacts B initId ∧
    (∀ X : String, bm.contains (.type X) = bmB.contains (.type X)) ∧ (∀ self, refuseLoop self "__setattr__" bm = pure ()) ∧ bm.contains (.type "object") = true ∧ PySem.W.alongIn K "__init__" bm = some (some (.builtin initId)) ∧ PySem.W.subIn K (.ref C) (.type B) = some true ∧ PySem.W.mroIn K C (.ref C) = some true := by
  obtain ⟨q, h⟩ := He.ba h
  obtain ⟨h1, h2⟩ := He.ba h
  obtain ⟨hd, ha⟩ := He.ba h1
  obtain ⟨hs, hm⟩ := He.ba h2
  unfold PySem.W.excInitIn at q
  split at q
  · rename_i dd cd sl ho
    split at q
    · rename_i C' bm k0 k1 k2 k3 n k5 hmr hsl
      simp only [Bool.and_eq_true, beq_iff_eq, Bool.not_eq_true'] at q
      obtain ⟨⟨⟨rfl, rfl⟩, hdel⟩, ht⟩ := q
      obtain ⟨nm, bs, mro, ns, qn, hdd, sn, sub, ab, col, del⟩ := cd
      dsimp only at hmr hdel
      subst hmr hdel
      have hsl : sl = #[k0, k1, k2, k3, some (.builtin n), k5] := by
        obtain ⟨l⟩ := sl
        simp only at hsl
        rw [hsl]
      subst hsl
      have hc : PySem.W.clsIn K C' = some { name := nm, bases := bs, mro := .ref C' :: bm, ns := ns, qualname := qn, hasDict := hdd, slotNames := sn, subclasses := sub, abstract := ab, collection := col, hasDel := false } := by unfold PySem.W.clsIn; rw [ho] <;> rfl
      have e : hdd = true := by
        unfold PySem.W.hasDictIn at hd
        rw [hc] at hd
        simpa using hd
      subst e
      rw [hc] at ha
      have ha2 := He.eqO_ok ha
      refine ⟨B, n, initId, tailOf B, nm, qn, ns, bs, bm, sn, sub, ab, col, dd, k0, k1, k2, k3, k5, ho, FB, KF, fun T => PySem.W.excTail_contains T _ ht, fun self => pass_of hB self _ ht, ?_, ?_, of_decide_eq_true hs, of_decide_eq_true hm⟩
      · rw [PySem.W.excTail_contains "object" _ ht]
        simp [tailOf]
      · simpa using ha2
    · cases q
  · cases q
theorem XcD.txt {P : Program} {K : Frag} {mg : Str → Option Value} {h : Heap} {d : XcD} {file : Str} (X : K.In h) (G : h.Ns mainGlobals mg) (hf : P.main.file = file) (e : fnX K (d.init K) = d.val) (c : d.ok file K = true) : ExX.XTxt P K mg d.nm d.f (He.ga K d.nm) (d.init K) := by
  obtain ⟨c1, c⟩ := He.ba c
  obtain ⟨c2, c⟩ := He.ba c
  obtain ⟨c3, c⟩ := He.ba c
  obtain ⟨c4, c⟩ := He.ba c
  obtain ⟨c5, c⟩ := He.ba c
  obtain ⟨c6, c⟩ := He.ba c
  obtain ⟨c7, c⟩ := He.ba c
  obtain ⟨c8, c⟩ := He.ba c
  obtain ⟨c9, c⟩ := He.ba c
  obtain ⟨c10, c⟩ := He.ba c
  obtain ⟨c11, c⟩ := He.ba c
  obtain ⟨c12, c13⟩ := He.ba c
  have xf := xfB_ok c5
  refine { nf := of_decide_eq_true c1, gC := He.glo_ok X G c2, cls := ?_, sa := He.eqO_ok c4, ga := xf.ga, gg := xf.gg, noN := He.eqO_ok c6, iC := He.eqO_ok c7, tC := of_decide_eq_true c8, kC := c9, exC := xf.exC, tyC := of_decide_eq_true c10, hdC := xf.hdC, op := He.eqO_ok c11, fn := ?_ }
  · split at c3
    · exact clsX_ok F.excBase_ValueError PySem.W.kxs_ValueError F.store_ValueError.passes c3
    · exact clsX_ok F.excBase_LookupError PySem.W.kxs_LookupError F.store_LookupError.passes c3
    · exact clsX_ok F.excBase_ArithmeticError PySem.W.kxs_ArithmeticError F.store_ArithmeticError.passes c3
    · cases c3
  · unfold fnB at c12
    unfold fnX at e
    split at c12
    · rename_i oc od fd osl lk
      rw [lk] at e
      obtain ⟨n1, n2, n3, n4, n5, n6, n7, n8, n9, n10, n11, n12, n13, n14, n15⟩ := fd
      dsimp only at c12 e
      obtain ⟨d1, c12⟩ := He.ba c12
      obtain ⟨d2, c12⟩ := He.ba c12
      obtain ⟨d3, d4⟩ := He.ba c12
      obtain rfl : n8 = .none := of_decide_eq_true d1
      obtain rfl : n9 = .none := of_decide_eq_true d2
      unfold XcD.val at e
      simp only [Option.some.injEq, Prod.mk.injEq] at e
      obtain ⟨h1, h2, h3, h4, h5, h6, h7, h8⟩ := e
      subst h1 h2 h3 h4 h5 h6 h8
      rcases n7 with _ | ⟨⟨nn, cc⟩, _ | ⟨x, y⟩⟩
      · cases d4
      · obtain rfl : nn = ("__class__" : Str) := by simpa using h7
        cases n13 with
        | ref cda =>
          obtain ⟨d5, d6⟩ := He.ba d3
          cases lk2 : K.lookup cda with
          | none => rw [lk2] at d6; cases d6
          | some o2 =>
            obtain ⟨ccl, cdd, dt2, ccs⟩ := o2
            rw [lk2] at d6
            cases dt2 with
            | fields vs =>
              dsimp only at d6
              cases hz : vs[2]? with
              | none => rw [hz] at d6; cases d6
              | some zv =>
                rw [hz] at d6
                cases zv with
                | str z tf =>
                  cases lk3 : K.lookup cc with
                  | none => dsimp only at d4; rw [lk3] at d4; cases d4
                  | some o3 =>
                    obtain ⟨cl, cld, dt3, csl⟩ := o3
                    dsimp only at d4
                    rw [lk3] at d4
                    cases dt3 with
                    | cell v =>
                      rcases v with _ | v
                      · cases d4
                      · cases v with
                        | ref C' =>
                          obtain rfl : C' = _ := of_decide_eq_true d4
                          exact ⟨oc, od, d.qual, n10, n11, n12, cda, cc, n14, osl, qA d.ar, qB d.bd, ccl, cdd, vs, ccs, z, tf, cl, cld, csl, lk, d5, lk2, hz, by rw [hf]; exact d6, lk3, c13⟩
                        | _ => cases d4
                    | _ => cases d4
                | _ => cases d6
            | _ => cases d6
        | _ => cases d3
      · cases d4
    · cases c12
/-! ### the facts of a law -/
def tkB (K : Frag) (t : Str × List Str × List Str) : Bool := (He.Fa.glo t.1).ok K && ((t.2.1.all fun D => (He.Fa.exm D t.1 true).ok K) && t.2.2.all fun D => (He.Fa.exm D t.1 false).ok K)
def erB (K : Frag) (t : Str × Str) : Bool := xfB K (He.ga K t.1) && He.eqO (PySem.W.findIn K (.ref (He.ga K t.1)) t.2) (some none)
def obsX (xc : List XcD) (tk : List (Str × List Str × List Str)) (er : List (Str × Str)) (file : Str) (K : Frag) : AlA := ((He.Fa.free "super").ok K && ((xc.all fun d => d.ok file K) && ((tk.all fun t => tkB K t) && er.all fun t => erB K t)), xc.map fun d => fnX K (d.init K))
def valX (xc : List XcD) : AlA := (true, xc.map XcD.val)
structure TxX (fa : List He.Fa) (fn : List DefA) (pr : List (Str × Str)) (is : List Str) (xc : List XcD) (tk : List (Str × List Str × List Str)) (er : List (Str × Str)) (file : Str) (P : Program) (K : Frag) (mg : Str → Option Value) : Prop extends TxOf fa fn pr is K mg where
  prog : P.main.file = file ∧ (P.main.scope.names.lookup ("super" : Str)).isSome = false
  saysX : obsX xc tk er file K = valX xc
section
variable {fa : List He.Fa} {fn : List DefA} {pr : List (Str × Str)} {is : List Str} {xcs : List XcD} {tks : List (Str × List Str × List Str)} {ers : List (Str × Str)} {file : Str} {P : Program} {K : Frag} {mg : Str → Option Value}
theorem TxX.parts (T : TxX fa fn pr is xcs tks ers file P K mg) : (He.Fa.free "super").ok K = true ∧ (xcs.all fun d => d.ok file K) = true ∧ (tks.all fun t => tkB K t) = true ∧ (ers.all fun t => erB K t) = true ∧ (xcs.map fun d => fnX K (d.init K)) = xcs.map XcD.val := by
  have h := T.saysX
  have h1 : ((He.Fa.free "super").ok K && ((xcs.all fun d => d.ok file K) && ((tks.all fun t => tkB K t) && ers.all fun t => erB K t))) = true := congrArg (fun z : AlA => z.1) h
  obtain ⟨a, h1⟩ := He.ba h1
  obtain ⟨b, h1⟩ := He.ba h1
  obtain ⟨c, d⟩ := He.ba h1
  exact ⟨a, b, c, d, congrArg (fun z : AlA => z.2) h⟩
theorem TxX.tp (T : TxX fa fn pr is xcs tks ers file P K mg) : ExX.TopX P mg := let ⟨_, k, g⟩ := T.heap; ⟨T.prog.2, He.free_ok k g T.parts.1⟩
theorem TxX.xc (T : TxX fa fn pr is xcs tks ers file P K mg) (i : Nat) {d : XcD} (h : xcs[i]? = some d) : ExX.XTxt P K mg d.nm d.f (He.ga K d.nm) (d.init K) := by
  obtain ⟨_, b, _, _, e⟩ := T.parts
  have e2 : (xcs.map fun d => fnX K (d.init K))[i]? = (xcs.map XcD.val)[i]? := by rw [e]
  rw [List.getElem?_map, List.getElem?_map, h] at e2
  obtain ⟨_, k, g⟩ := T.heap
  exact XcD.txt k g T.prog.1 (Option.some.inj e2) (List.all_eq_true.mp b d (List.mem_of_getElem? h))
theorem TxX.tk (T : TxX fa fn pr is xcs tks ers file P K mg) (i : Nat) {x : Str} {yes no : List Str} (h : tks[i]? = some (x, yes, no)) : TakesB K x yes no := by
  have q : tkB K (x, yes, no) = true := List.all_eq_true.mp T.parts.2.2.1 _ (List.mem_of_getElem? h)
  obtain ⟨_, q⟩ := He.ba q
  obtain ⟨a, b⟩ := He.ba q
  exact ⟨fun D hD => He.exm_ok (List.all_eq_true.mp a D hD), fun D hD => He.exm_ok (List.all_eq_true.mp b D hD)⟩
theorem TxX.nm (T : TxX fa fn pr is xcs tks ers file P K mg) (i : Nat) {x : Str} {yes no : List Str} (h : tks[i]? = some (x, yes, no)) : mg x = some (.ref (He.ga K x)) := by
  have q : tkB K (x, yes, no) = true := List.all_eq_true.mp T.parts.2.2.1 _ (List.mem_of_getElem? h)
  obtain ⟨_, k, g⟩ := T.heap
  exact He.glo_ok k g (He.ba q).1
/-- the classes whose field f may be read -/
theorem TxX.er (T : TxX fa fn pr is xcs tks ers file P K mg) {f : Str} {cs : List Str} (h : (cs.all fun C => ers.contains (C, f)) = true) : ∀ C ∈ cs, ErrC K C f := by
  intro C hC
  have m : (C, f) ∈ ers := by simpa using List.all_eq_true.mp h C hC
  have q := List.all_eq_true.mp T.parts.2.2.2.1 _ m
  obtain ⟨a, b⟩ := He.ba q
  exact ⟨xfB_ok a, He.eqO_ok b⟩
end
section
variable (fa : List He.Fa) (fn : List DefA) (pr : List (Str × Str)) (is : List Str) (xc : List XcD) (tk : List (Str × List Str × List Str)) (er : List (Str × Str)) (file : Str)
def hookX : PySem.W.Hook where
  α := AlA × AlA
  obs := fun s => (obsA fa fn pr is (frAll s.heap.get?), obsX xc tk er file (frAll s.heap.get?))
  val := fun _ => (valA fn, valX xc)
  says := fun _ h => ∃ K : Frag, K.In h ∧ (obsA fa fn pr is K, obsX xc tk er file K) = (valA fn, valX xc)
  of := fun _ _ e => ⟨_, He.frG_in, e⟩
  keeps := fun _ _ _ ⟨K, hK, c⟩ k => ⟨K, PySem.W.Frag.In.keeps hK k, c⟩
def obTX (s : PySem.W.SharedT) : AlA × AlA := (obsA fa fn pr is (frAll (HandSHeadRun.getT s)), obsX xc tk er file (frAll (HandSHeadRun.getT s)))
theorem obTX_eq (s : PySem.W.SharedT) : obTX fa fn pr is xc tk er file s = (hookX fa fn pr is xc tk er file).obs s.abs := by
  have e : HandSHeadRun.getT s = s.abs.heap.get? := funext (HandSHeadRun.getT_eq s)
  show (obsA fa fn pr is (frAll (HandSHeadRun.getT s)), obsX xc tk er file (frAll (HandSHeadRun.getT s))) = (obsA fa fn pr is (frAll s.abs.heap.get?), obsX xc tk er file (frAll s.abs.heap.get?))
  rw [e]
end
end HL
end
section
set_option Elab.async false
set_option linter.all false
set_option maxRecDepth 100000
set_option maxHeartbeats 1000000
namespace HL
open PySem PySem.Spec L2
/-- what a reading goes on with is fixed: simp does not look into it -/
inductive Tg {α : Sort u} (a : α) : Type where
  | mk
def R.bnd {α β : Type} (r : R α) (f : α → Store → R β) (_ : Tg f := .mk) : R β := r.bind f
def R.tos {α : Type} (r : R α) (l : L) (f : α → Store → Fl) (_ : Tg f := .mk) : Fl := r.toS l f
def Fl.thn (r : Fl) (f : L → Store → Fl) (_ : Tg f := .mk) : Fl := r.andThen f
@[simp] theorem R.bnd_ok {α β : Type} (a : α) (S : Store) (f : α → Store → R β) (t : Tg f) : (R.ok a S).bnd f t = f a S := id rfl
@[simp] theorem R.bnd_bad {α β : Type} (f : α → Store → R β) (t : Tg f) : (R.bad : R α).bnd f t = .bad := id rfl
@[simp] theorem R.bnd_exc {α β : Type} (e : Exc) (S : Store) (f : α → Store → R β) (t : Tg f) : (R.exc e S : R α).bnd f t = .exc e S := id rfl
@[simp] theorem eLoc_ap (i : Nat) l S : eLoc i l S = (match l[i]? with
  | some (some d) => .ok d S
  | _ => .bad) := id rfl
@[simp] theorem eCon_ap (d : D) x0 S : eCon d x0 S = .ok d S := id rfl
@[simp] theorem aNil_ap x0 S : aNil x0 S = .ok [] S := id rfl
@[simp] theorem aCons_ap (f : L → Store → R D) (g : L → Store → R (List D)) l S : aCons f g l S = (f l S).bnd fun d S1 => (g l S1).bnd fun ds S2 => .ok (d :: ds) S2 := id rfl
@[simp] theorem eTup_ap (g : L → Store → R (List D)) l S : eTup g l S = (g l S).bnd fun ds S1 => if ds.length ≤ sizeLine then .ok (.tup ds) S1 else .bad := id rfl
@[simp] theorem eLst_ap (g : L → Store → R (List D)) l S : eLst g l S = (g l S).bnd fun ds S1 => if ds.length ≤ sizeLine then .ok (.lst ds) S1 else .bad := id rfl
@[simp] theorem eNew_ap (g : L → Store → R (List D)) l S : eNew g l S = (g l S).bnd fun ds S1 => if ds.length ≤ sizeLine then .ok (.loc S1.length) (S1 ++ [.lst ds]) else .bad := id rfl
@[simp] theorem eCall_ap (g : List D → Store → R D) (fa : L → Store → R (List D)) l S : eCall g fa l S = (fa l S).bnd fun ds S1 => if ds.length = 0 then .bad else g ds S1 := id rfl
@[simp] theorem eCalln_ap (n : Nat) (g : List D → Store → R D) (fa : L → Store → R (List D)) l S : eCalln n g fa l S = (fa l S).bnd fun ds S1 => if ds.length = n then g ds S1 else .bad := id rfl
@[simp] theorem bSeq_ap (f g : L → Store → Fl) l S : bSeq f g l S = (f l S).thn g := id rfl
@[simp] theorem bNil_ap l S : bNil l S = .nx l S := id rfl
@[simp] theorem sRet_ap (f : L → Store → R D) l S : sRet f l S = (f l S).tos l fun d S1 => .rt d S1 := id rfl
@[simp] theorem sRetN_ap l S : sRetN l S = .rt .non S := id rfl
@[simp] theorem sDrop_ap (f : L → Store → R D) l S : sDrop f l S = (f l S).tos l fun _ S1 => .nx l S1 := id rfl
@[simp] theorem sSet_ap (i : Nat) (f : L → Store → R D) l S : sSet i f l S = (f l S).tos l fun d S1 => .nx (l.set i (some d)) S1 := id rfl
@[simp] theorem sIf_ap (c : L → Store → R Bool) (f g : L → Store → Fl) l S : sIf c f g l S = (c l S).tos l fun b S1 => if b then f l S1 else g l S1 := id rfl
@[simp] theorem sBad_ap x0 x1 : sBad x0 x1 = .bad := id rfl
@[simp] theorem sBrk_ap l S : sBrk l S = .bk l S := id rfl
@[simp] theorem sCnt_ap l S : sCnt l S = .ct l S := id rfl
@[simp] theorem run_ap (tr : Bool) (n : Nat) (f : L → Store → Fl) ds S : run tr n f ds S = finish tr S (f (ds.map some ++ List.replicate (n - ds.length) none) S) := id rfl
@[simp] theorem mBin_ap (p : D → D → Store → Option D) (f g : L → Store → R D) l S : mBin p f g l S = (f l S).bnd fun d S1 => (g l S1).bnd fun e S2 => ofO (p d e S2) S2 := id rfl
@[simp] theorem mCall_ap (p : List D → Store → Option D) (fa : L → Store → R (List D)) l S : mCall p fa l S = (fa l S).bnd fun ds S1 => ofO (p ds S1) S1 := id rfl
@[simp] theorem mUn_ap (p : D → Store → Option D) (f : L → Store → R D) l S : mUn p f l S = (f l S).bnd fun d S1 => ofO (p d S1) S1 := id rfl
@[simp] theorem asB_ap (f : L → Store → R D) l S : asB f l S = ((f l S).bnd fun d S1 => match d with
  | .bl b => .ok b S1
  | _ => .bad) := id rfl
@[simp] theorem mChain_ap (p p' : D → D → Store → Option D) (f g k : L → Store → R D) l S : mChain p p' f g k l S = ((f l S).bnd fun d S1 => (g l S1).bnd fun e S2 => match p d e S2 with
  | some (.bl true) => (k l S2).bnd fun z S3 => ofO (p' e z S3) S3
  | some (.bl false) => .ok (.bl false) S2
  | _ => .bad) := id rfl
@[simp] theorem mNot_ap (f : L → Store → R Bool) l S : mNot f l S = (f l S).bnd fun b S1 => .ok (!b) S1 := id rfl
@[simp] theorem mAnd_ap (f g : L → Store → R Bool) l S : mAnd f g l S = (f l S).bnd fun b S1 => if b then g l S1 else .ok false S1 := id rfl
@[simp] theorem mOr_ap (f g : L → Store → R Bool) l S : mOr f g l S = (f l S).bnd fun b S1 => if b then .ok true S1 else g l S1 := id rfl
@[simp] theorem mIf_ap (c : L → Store → R Bool) (f g : L → Store → R D) l S : mIf c f g l S = (c l S).bnd fun b S1 => if b then f l S1 else g l S1 := id rfl
@[simp] theorem vAnd_ap (f g : L → Store → R D) l S : vAnd f g l S = ((f l S).bnd fun d S1 => match d with
  | .bl true => g l S1
  | .bl false => .ok (.bl false) S1
  | _ => .bad) := id rfl
@[simp] theorem vOr_ap (f g : L → Store → R D) l S : vOr f g l S = ((f l S).bnd fun d S1 => match d with
  | .bl true => .ok (.bl true) S1
  | .bl false => g l S1
  | _ => .bad) := id rfl
@[simp] theorem vNot_ap (f : L → Store → R D) l S : vNot f l S = ((f l S).bnd fun d S1 => match d with
  | .bl b => .ok (.bl (!b)) S1
  | _ => .bad) := id rfl
@[simp] theorem oNone_ap x0 S : oNone x0 S = .ok none S := id rfl
@[simp] theorem oSome_ap (f : L → Store → R D) l S : oSome f l S = ((f l S).bnd fun d S1 => match d with
  | .int i => .ok (some i) S1
  | _ => .bad) := id rfl
@[simp] theorem mSl_ap (f : L → Store → R D) (lo hi : L → Store → R (Option Int)) l S : mSl f lo hi l S = (f l S).bnd fun d S1 => (lo l S1).bnd fun i S2 => (hi l S2).bnd fun j S3 => ofO (pSl d i j S3) S3 := id rfl
@[simp] theorem gN_ap (i : Nat) d x1 : gN i d x1 = some [(i, d)] := id rfl
@[simp] theorem gsNil_ap  ds x1 : gsNil  ds x1 = (match ds with
  | [] => some []
  | _ => none) := id rfl
@[simp] theorem gsCons_ap (b : Tgt) (c : List D → Store → Option (List (Nat × D))) ds S : gsCons b c ds S = (match ds with
  | d :: ds => match b d S, c ds S with
    | some as, some bs => some (as ++ bs)
    | _, _ => none
  | [] => none) := id rfl
@[simp] theorem gT_ap (n : Nat) (c : List D → Store → Option (List (Nat × D))) d S : gT n c d S = (match seqD d S with
  | some ds => if ds.length = n then c ds S else none
  | none => none) := id rfl
@[simp] theorem iVal_ap (f : L → Store → R D) l S : iVal f l S = (f l S).bnd fun d S1 => ofO (itemsV d S1) S1 := id rfl
def rg1 : List D → Store → R Src := fun ds S1 => match ds with
  | [.int j] => if j < 2 ^ 62 ∧ -(2 ^ 62) ≤ j then .ok ((List.range j.toNat).map fun (i : Nat) => .int (0 + i), []) S1 else .bad
  | _ => .bad
def rg2 : List D → Store → R Src := fun ds S1 => match ds with
  | [.int i, .int j] => if (-(2 ^ 62) ≤ i ∧ i < 2 ^ 62) ∧ -(2 ^ 62) ≤ j ∧ j < 2 ^ 62 then .ok ((List.range (j - i).toNat).map fun (k : Nat) => .int (i + k), []) S1 else .bad
  | _ => .bad
@[simp] theorem iRg1_ap (fa : L → Store → R (List D)) l S : iRg1 fa l S = (fa l S).bnd rg1 := id rfl
@[simp] theorem iRg2_ap (fa : L → Store → R (List D)) l S : iRg2 fa l S = (fa l S).bnd rg2 := id rfl
theorem rg1_int {j : Int} (h : 0 ≤ j) (h2 : j < 4611686018427387904) (S : Store) : rg1 [.int j] S = .ok ((List.range j.toNat).map fun (i : Nat) => D.int (i : Int), []) S := by
  unfold rg1
  dsimp only
  rw [if_pos ⟨by omega, by omega⟩]
  simp
theorem rg1_nat {n : Nat} (h : n < 4611686018427387904) (S : Store) : rg1 [.int (n : Int)] S = .ok ((List.range n).map fun (i : Nat) => D.int (i : Int), []) S := by
  rw [rg1_int (by omega) (by omega)]
  rfl
theorem rg2_int {i j : Int} (h : 0 ≤ i) (h2 : j < 4611686018427387904) (h3 : i ≤ j) (S : Store) : rg2 [.int i, .int j] S = .ok ((List.range (j - i).toNat).map fun (k : Nat) => D.int (i + k), []) S := by
  unfold rg2
  dsimp only
  rw [if_pos ⟨⟨by omega, by omega⟩, by omega, by omega⟩]
@[simp] theorem sFor_ap (fi : L → Store → R Src) (g : Tgt) (b : L → Store → Fl) l S : sFor fi g b l S = (fi l S).tos l fun x S1 => forGo g b x.2 x.1 l S1 := id rfl
@[simp] theorem eLc_ap (fi : L → Store → R Src) (g : Tgt) (t : L → Store → R Bool) (e : L → Store → R D) (vs : List Nat) l S : eLc fi g t e vs l S = ((fi l S).bnd fun x S1 => match cGo g t e x.2 (wp l vs) x.1 0 S1 with
  | some (ds, S2) => .ok (.lst ds) S2
  | none => .bad) := id rfl
@[simp] theorem eLcN_ap (fi : L → Store → R Src) (g : Tgt) (t : L → Store → R Bool) (e : L → Store → R D) (vs : List Nat) l S : eLcN fi g t e vs l S = ((fi l S).bnd fun x S1 => match cGo g t e x.2 (wp l vs) x.1 0 S1 with
  | some (ds, S2) => .ok (.loc S2.length) (S2 ++ [.lst ds])
  | none => .bad) := id rfl
@[simp] theorem tYesF_ap x0 S : tYesF x0 S = .ok true S := id rfl
@[simp] theorem hNm_ap (i : Nat) d l S : hNm i d l S = some (l.set i (some d), S) := id rfl
@[simp] theorem hsNil_ap  ds l S : hsNil  ds l S = (match ds with
  | [] => some (l, S)
  | _ => none) := id rfl
@[simp] theorem hsCons_ap (b : TgtH) (c : List D → L → Store → Option (L × Store)) ds l S : hsCons b c ds l S = (match ds with
  | d :: ds => match b d l S with
    | some (l1, S1) => c ds l1 S1
    | none => none
  | [] => none) := id rfl
@[simp] theorem hT_ap (n : Nat) (c : List D → L → Store → Option (L × Store)) d l S : hT n c d l S = (match seqD d S with
  | some ds => if ds.length = n then c ds l S else none
  | none => none) := id rfl
@[simp] theorem hIx_ap (fo fi : L → Store → R D) d l S : hIx fo fi d l S = (match fo l S with
  | .ok o S1 => match fi l S1 with
    | .ok i S2 => match setIx o i d S2 with
      | some S3 => some (l, S3)
      | none => none
    | _ => none
  | _ => none) := id rfl
@[simp] theorem sAsg_ap (fe : L → Store → R D) (b : TgtH) l S : sAsg fe b l S = ((fe l S).tos l fun d S1 => match b d l S1 with
  | some (l2, S2) => .nx l2 S2
  | none => .bad) := id rfl
@[simp] theorem sPar_ap (i j : Nat) (fa : L → Store → R (List D)) l S : sPar i j fa l S = ((fa l S).tos l fun ds S1 => match ds with
  | [d, e] => .nx ((l.set i (some d)).set j (some e)) S1
  | _ => .bad) := id rfl
@[simp] theorem sPar3_ap (i j k : Nat) (fa : L → Store → R (List D)) l S : sPar3 i j k fa l S = ((fa l S).tos l fun ds S1 => match ds with
  | [d, e, f] => .nx (((l.set i (some d)).set j (some e)).set k (some f)) S1
  | _ => .bad) := id rfl
@[simp] theorem sAug_ap (i : Nat) (p : D → D → Store → Option D) (fe : L → Store → R D) l S : sAug i p fe l S = (match l[i]? with
  | some (some x) => (fe l S).tos l fun y S1 => match p x y S1 with
    | some z => .nx (l.set i (some z)) S1
    | none => .bad
  | _ => .bad) := id rfl
@[simp] theorem mMeth_ap (T : String) (pm : D → List D → Store → Option (D × Store)) (fo : L → Store → R D) (fa : L → Store → R (List D)) l S : mMeth T pm fo fa l S = ((fo l S).bnd fun d S1 => if tyD d S1 = T then (fa l S1).bnd fun ds S2 => match pm d ds S2 with
    | some (r, S3) => .ok r S3
    | none => .bad
  else .bad) := id rfl
@[simp] theorem mIsi_ap (p : D → Store → Option D) (f : L → Store → R D) l S : mIsi p f l S = (f l S).bnd fun d S1 => ofO (p d S1) S1 := id rfl
@[simp] theorem aStar_ap (f : L → Store → R D) (g : L → Store → R (List D)) l S : aStar f g l S = (f l S).bnd fun d S1 => (ofO (seqD d S1) S1).bnd fun xs S2 => (g l S2).bnd fun ds S3 => .ok (xs ++ ds) S3 := id rfl
@[simp] theorem eFmt_ap (f : L → Store → R D) l S : eFmt f l S = ((f l S).bnd fun d S1 => match d with
  | .str y => if y.length ≤ sizeLine then .ok (.str y) S1 else .bad
  | .int i => if i.natAbs.log2 < 1920 then .ok (.str (toString i)) S1 else .bad
  | _ => .bad) := id rfl
@[simp] theorem iZip2_ap (fa : L → Store → R (List D)) l S : iZip2 fa l S = ((fa l S).bnd fun ds S1 => match ds with
  | [d, e] => match sq1 d S1, sq1 e S1 with
    | some x, some y => .ok (zipD x.1 y.1, x.2 ++ y.2) S1
    | _, _ => .bad
  | _ => .bad) := id rfl
@[simp] theorem iZip3_ap (fa : L → Store → R (List D)) l S : iZip3 fa l S = ((fa l S).bnd fun ds S1 => match ds with
  | [d, e, f] => match sq1 d S1, sq1 e S1, sq1 f S1 with
    | some x, some y, some z => .ok (zip3D x.1 y.1 z.1, x.2 ++ (y.2 ++ z.2)) S1
    | _, _, _ => .bad
  | _ => .bad) := id rfl
@[simp] theorem iEnu_ap (fa : L → Store → R (List D)) l S : iEnu fa l S = ((fa l S).bnd fun ds S1 => match ds with
  | [d] => match sq1 d S1 with
    | some x => .ok (enuD x.1, x.2) S1
    | none => .bad
  | _ => .bad) := id rfl
@[simp] theorem eCallK_ap (n a b : Nat) (ix : List Nat) (g : List D → Store → R D) (fa fk : L → Store → R (List D)) l S : eCallK n a b ix g fa fk l S = (fa l S).bnd fun ds S1 => (fk l S1).bnd fun es S2 => if ds.length = a ∧ es.length = b ∧ (gIx ix (ds ++ es)).length = n then g (gIx ix (ds ++ es)) S2 else .bad := id rfl
@[simp] theorem eFld_ap (C f : Str) (fo : L → Store → R D) l S : eFld C f fo l S = (fo l S).bnd fun d S1 => ofO (pFld C f d S1) S1 := id rfl
@[simp] theorem eProp_ap (C : Str) (g : List D → Store → R D) (fo : L → Store → R D) l S : eProp C g fo l S = ((fo l S).bnd fun d S1 => match insOf C d S1 with
  | some _ => (g [d] S1).noX
  | none => .bad) := id rfl
@[simp] theorem eUm_ap (C m : Str) (n : Nat) (g : List D → Store → R D) (fo : L → Store → R D) (fa : L → Store → R (List D)) l S : eUm C m n g fo fa l S = ((fo l S).bnd fun d S1 => match insOf C d S1 with
  | some x => if m ∈ x.1 then .bad else (fa l S1).bnd fun ds S2 => if ds.length + 1 = n then g (d :: ds) S2 else .bad
  | none => .bad) := id rfl
@[simp] theorem eUmK_ap (C m : Str) (n a b : Nat) (ix : List Nat) (g : List D → Store → R D) (fo : L → Store → R D) (fa fk : L → Store → R (List D)) l S : eUmK C m n a b ix g fo fa fk l S = ((fo l S).bnd fun d S1 => match insOf C d S1 with
  | some x => if m ∈ x.1 then .bad else (fa l S1).bnd fun ds S2 => (fk l S2).bnd fun es S3 => if ds.length = a ∧ es.length = b ∧ (gIx ix (d :: ds ++ es)).length = n then g (gIx ix (d :: ds ++ es)) S3 else .bad
  | none => .bad) := id rfl
@[simp] theorem eMake_ap (tr : Bool) (C : Str) (n : Nat) (g : List D → Store → R D) (fa : L → Store → R (List D)) l S : eMake tr C n g fa l S = ((fa l S).bnd fun ds S1 => if ds.length + 1 = n then (g (.loc S1.length :: ds) (S1 ++ [.ins C [] []])).bnd fun r S2 => match r with
    | .non => fin tr S1 (.loc S1.length) S2
    | _ => .bad
  else .bad) := id rfl
@[simp] theorem eMakeK_ap (tr : Bool) (C : Str) (n a b : Nat) (ix : List Nat) (g : List D → Store → R D) (fa fk : L → Store → R (List D)) l S : eMakeK tr C n a b ix g fa fk l S = ((fa l S).bnd fun ds S1 => (fk l S1).bnd fun es S1 => if ds.length = a ∧ es.length = b ∧ (gIx ix (.loc S1.length :: ds ++ es)).length = n then (g (gIx ix (.loc S1.length :: ds ++ es)) (S1 ++ [.ins C [] []])).bnd fun r S2 => match r with
    | .non => fin tr S1 (.loc S1.length) S2
    | _ => .bad
  else .bad) := id rfl
@[simp] theorem sSetF_ap (C f : Str) (fo fv : L → Store → R D) l S : sSetF C f fo fv l S = ((fv l S).tos l fun d S1 => (fo l S1).tos l fun o S2 => match setFl C f o d S2 with
  | some S3 => .nx l S3
  | none => .bad) := id rfl
@[simp] theorem R.tos_ok {α : Type} (a : α) (S : Store) (l : L) (f : α → Store → Fl) (t : Tg f) : (R.ok a S).tos l f t = f a S := id rfl
@[simp] theorem R.tos_bad {α : Type} (l : L) (f : α → Store → Fl) (t : Tg f) : (R.bad : R α).tos l f t = .bad := id rfl
@[simp] theorem R.tos_exc {α : Type} (e : Exc) (S : Store) (l : L) (f : α → Store → Fl) (t : Tg f) : (R.exc e S : R α).tos l f t = .exc e l S := id rfl
@[simp] theorem Fl.thn_nx (l : L) (S : Store) (f : L → Store → Fl) (t : Tg f) : (Fl.nx l S).thn f t = f l S := id rfl
@[simp] theorem Fl.thn_rt (d : D) (S : Store) (f : L → Store → Fl) (t : Tg f) : (Fl.rt d S).thn f t = .rt d S := id rfl
@[simp] theorem Fl.thn_bk (l : L) (S : Store) (f : L → Store → Fl) (t : Tg f) : (Fl.bk l S).thn f t = .bk l S := id rfl
@[simp] theorem Fl.thn_ct (l : L) (S : Store) (f : L → Store → Fl) (t : Tg f) : (Fl.ct l S).thn f t = .ct l S := id rfl
@[simp] theorem Fl.thn_exc (e : Exc) (l : L) (S : Store) (f : L → Store → Fl) (t : Tg f) : (Fl.exc e l S).thn f t = .exc e l S := id rfl
@[simp] theorem Fl.thn_bad (f : L → Store → Fl) (t : Tg f) : Fl.bad.thn f t = .bad := id rfl
@[simp] theorem finish_nx (tr : Bool) (S0 : Store) (l : L) (S : Store) : finish tr S0 (.nx l S) = fin tr S0 .non S := id rfl
@[simp] theorem finish_rt (tr : Bool) (S0 : Store) (d : D) (S : Store) : finish tr S0 (.rt d S) = fin tr S0 d S := id rfl
@[simp] theorem finish_exc (tr : Bool) (S0 : Store) (e : Exc) (l : L) (S : Store) : finish tr S0 (.exc e l S) = .exc e S := id rfl
@[simp] theorem fin_no (S0 : Store) (d : D) (S : Store) : fin false S0 d S = .ok d S := id rfl
theorem R.bnd_ite {α β : Type} (c : Prop) [Decidable c] (a b : R α) (f : α → Store → R β) (t : Tg f) : (if c then a else b).bnd f t = if c then a.bnd f t else b.bnd f t := by split <;> rfl
theorem R.tos_ite {α : Type} (c : Prop) [Decidable c] (a b : R α) (l : L) (f : α → Store → Fl) (t : Tg f) : (if c then a else b).tos l f t = if c then a.tos l f t else b.tos l f t := by split <;> rfl
theorem Fl.thn_ite (c : Prop) [Decidable c] (a b : Fl) (f : L → Store → Fl) (t : Tg f) : (if c then a else b).thn f t = if c then a.thn f t else b.thn f t := by split <;> rfl
/-- operators at given shapes -/
@[simp] theorem nt_int (i : Int) : nt (.int i) = .int i := id rfl
@[simp] theorem nt_str (i : Str) : nt (.str i) = .str i := id rfl
@[simp] theorem nt_tup (i : List D) : nt (.tup i) = .tup i := id rfl
@[simp] theorem nt_tpn (i : List D) : nt (.tpn i) = .tup i := id rfl
@[simp] theorem nt_lst (i : List D) : nt (.lst i) = .lst i := id rfl
@[simp] theorem nt_scr (i : List D) : nt (.scr i) = .scr i := id rfl
@[simp] theorem nt_non : nt .non = .non := id rfl
@[simp] theorem nt_bl (b : Bool) : nt (.bl b) = .bl b := id rfl
@[simp] theorem nt_loc (n : Nat) : nt (.loc n) = .loc n := id rfl
@[simp] theorem pAdd_ii (i j : Int) (S : Store) : pAdd (.int i) (.int j) S = some (.int (i + j)) := id rfl
@[simp] theorem pSub_ii (i j : Int) (S : Store) : pSub (.int i) (.int j) S = some (.int (i - j)) := id rfl
@[simp] theorem pLt_ii (i j : Int) (S : Store) : pLt (.int i) (.int j) S = some (.bl (decide (i < j))) := id rfl
@[simp] theorem pLe_ii (i j : Int) (S : Store) : pLe (.int i) (.int j) S = some (.bl (decide (i ≤ j))) := id rfl
@[simp] theorem pGt_ii (i j : Int) (S : Store) : pGt (.int i) (.int j) S = some (.bl (decide (j < i))) := id rfl
@[simp] theorem pGe_ii (i j : Int) (S : Store) : pGe (.int i) (.int j) S = some (.bl (decide (j ≤ i))) := id rfl
@[simp] theorem pAddI_ii (i j : Int) (S : Store) : pAddI (.int i) (.int j) S = some (.int (i + j)) := id rfl
@[simp] theorem pSubI_ii (i j : Int) (S : Store) : pSubI (.int i) (.int j) S = some (.int (i - j)) := id rfl
end HL
end
section
set_option Elab.async false
set_option linter.all false
set_option maxRecDepth 100000
set_option maxHeartbeats 1000000
namespace HL
open PySem PySem.Spec L2
@[simp] theorem sizeLine_eq : sizeLine = 16777216 := id rfl
@[simp] theorem seqL_lst (xs : List D) (S : Store) : seqL (.lst xs) S = some xs := id rfl
@[simp] theorem seqL_scr (xs : List D) (S : Store) : seqL (.scr xs) S = some xs := id rfl
@[simp] theorem seqL_loc (n : Nat) (S : Store) : seqL (.loc n) S = (match S[n]? with
    | some (.lst xs) => some xs
    | _ => none) := id rfl
@[simp] theorem seqD_lst (xs : List D) (S : Store) : seqD (.lst xs) S = some xs := id rfl
@[simp] theorem seqD_scr (xs : List D) (S : Store) : seqD (.scr xs) S = some xs := id rfl
@[simp] theorem seqD_tup (xs : List D) (S : Store) : seqD (.tup xs) S = some xs := id rfl
@[simp] theorem seqD_tpn (xs : List D) (S : Store) : seqD (.tpn xs) S = some xs := id rfl
@[simp] theorem seqD_loc (n : Nat) (S : Store) : seqD (.loc n) S = (match S[n]? with
    | some (.lst xs) => some xs
    | _ => none) := id rfl
@[simp] theorem itemsV_lst (xs : List D) (S : Store) : itemsV (.lst xs) S = some (xs, []) := id rfl
@[simp] theorem itemsV_scr (xs : List D) (S : Store) : itemsV (.scr xs) S = some (xs, []) := id rfl
@[simp] theorem itemsV_tup (xs : List D) (S : Store) : itemsV (.tup xs) S = some (xs, []) := id rfl
@[simp] theorem itemsV_tpn (xs : List D) (S : Store) : itemsV (.tpn xs) S = some (xs, []) := id rfl
@[simp] theorem itemsV_loc (n : Nat) (S : Store) : itemsV (.loc n) S = (match S[n]? with
    | some (.lst xs) => some (xs, [(n, xs)])
    | _ => none) := id rfl
@[simp] theorem itemsV_str (z : Str) (S : Store) : itemsV (.str z) S = some (z.cps.toList.map fun c => .str ⟨#[c]⟩, []) := id rfl
@[simp] theorem sq1_lst (xs : List D) (S : Store) : sq1 (.lst xs) S = some (xs, []) := id rfl
@[simp] theorem sq1_scr (xs : List D) (S : Store) : sq1 (.scr xs) S = some (xs, []) := id rfl
@[simp] theorem sq1_tup (xs : List D) (S : Store) : sq1 (.tup xs) S = some (xs, []) := id rfl
@[simp] theorem sq1_tpn (xs : List D) (S : Store) : sq1 (.tpn xs) S = some (xs, []) := id rfl
@[simp] theorem sq1_loc (n : Nat) (S : Store) : sq1 (.loc n) S = (match S[n]? with
    | some (.lst xs) => some (xs, [(n, xs)])
    | _ => none) := id rfl
@[simp] theorem held_nil (S : Store) : held [] S = True := id rfl
@[simp] theorem held_cons (n : Nat) (xs : List D) (w : Hld) (S : Store) : held ((n, xs) :: w) S = (S[n]? = some (.lst xs) ∧ held w S) := id rfl
@[simp] theorem setA_nil {α : Type} (l : List (Option α)) : setA l [] = l := id rfl
@[simp] theorem setA_cons {α : Type} (l : List (Option α)) (i : Nat) (d : α) (r : List (Nat × α)) : setA l ((i, d) :: r) = setA (l.set i (some d)) r := id rfl
@[simp] theorem wp_nil {α : Type} (l : List (Option α)) : wp l [] = l := id rfl
@[simp] theorem wp_cons {α : Type} (l : List (Option α)) (v : Nat) (vs : List Nat) : wp l (v :: vs) = (wp l vs).set v none := id rfl
/-! places -/
@[simp] theorem pIx_lst (xs : List D) (i : Int) (S : Store) : pIx (.lst xs) (.int i) S = atI xs i := id rfl
@[simp] theorem pIx_scr (xs : List D) (i : Int) (S : Store) : pIx (.scr xs) (.int i) S = atI xs i := id rfl
@[simp] theorem pIx_tup (xs : List D) (i : Int) (S : Store) : pIx (.tup xs) (.int i) S = atI xs i := id rfl
@[simp] theorem pIx_tpn (xs : List D) (i : Int) (S : Store) : pIx (.tpn xs) (.int i) S = atI xs i := id rfl
@[simp] theorem pIx_loc (n : Nat) (i : Int) (S : Store) : pIx (.loc n) (.int i) S = (seqD (.loc n) S).bind fun xs => atI xs i := id rfl
theorem ixN_pos {n : Nat} {i : Int} (h : 0 ≤ i) : ixN n i = if i.toNat < n then some i.toNat else none := by
  unfold ixN
  rw [if_pos h]
  by_cases e : i < (n : Int)
  · rw [if_pos e, if_pos (by omega)]
  · rw [if_neg e, if_neg (by omega)]
@[simp] theorem ixN_nat (n k : Nat) : ixN n (k : Int) = if k < n then some k else none := by
  rw [ixN_pos (by omega)]
  rfl
@[simp] theorem ixN_lit (n k : Nat) : ixN n (no_index (OfNat.ofNat k : Int)) = if k < n then some k else none := ixN_nat n k
@[simp] theorem ixN_zero (n : Nat) : ixN n 0 = if 0 < n then some 0 else none := ixN_nat n 0
@[simp] theorem ixN_one (n : Nat) : ixN n 1 = if 1 < n then some 1 else none := ixN_nat n 1
theorem atI_pos {α : Type} {xs : List α} {i : Int} (h : 0 ≤ i) : atI xs i = xs[i.toNat]? := by
  unfold atI
  rw [ixN_pos h]
  split
  · rfl
  · rename_i e
    rw [List.getElem?_eq_none (by omega)]
    rfl
@[simp] theorem atI_nat {α : Type} (xs : List α) (k : Nat) : atI xs (k : Int) = xs[k]? := atI_pos (by omega)
@[simp] theorem atI_lit {α : Type} (xs : List α) (k : Nat) : atI xs (no_index (OfNat.ofNat k : Int)) = xs[k]? := atI_nat xs k
@[simp] theorem atI_zero {α : Type} (xs : List α) : atI xs 0 = xs[0]? := atI_nat xs 0
@[simp] theorem atI_one {α : Type} (xs : List α) : atI xs 1 = xs[1]? := atI_nat xs 1
@[simp] theorem atI_neg1 {α : Type} (xs : List α) : atI xs (-1) = xs.getLast? := by
  unfold atI ixN
  rw [if_neg (by decide)]
  cases xs with
  | nil => rfl
  | cons x xs =>
    rw [if_pos (by simp only [List.length_cons]; omega)]
    show (x :: xs)[((-1 : Int) + ((x :: xs).length : Nat)).toNat]? = _
    rw [List.getLast?_eq_getElem?]
    congr 1
    simp only [List.length_cons]
    omega
@[simp] theorem setIx_loc (n : Nat) (k : Int) (d : D) (S : Store) : setIx (.loc n) (.int k) d S = (match S[n]? with
    | some (.lst xs) => match ixN xs.length k with
      | some j => some (S.set n (.lst (xs.set j d)))
      | none => none
    | _ => none) := id rfl
/-! numbers -/
theorem pMul_ii (i j : Int) (S : Store) : pMul (.int i) (.int j) S = if CMul i j then some (.int (i * j)) else none := by rw [pMul]
@[simp] theorem pDiv_ii (i j : Int) (S : Store) : pDiv (.int i) (.int j) S = if CDiv i j then some (.int (i / j)) else none := by rw [pDiv]
@[simp] theorem pMod_ii (i j : Int) (S : Store) : pMod (.int i) (.int j) S = if 0 < j then some (.int (i % j)) else none := by rw [pMod]
@[simp] theorem pPow_ii (i j : Int) (S : Store) : pPow (.int i) (.int j) S = if CPow i j then some (.int (i ^ j.toNat)) else none := by rw [pPow]
theorem CMul_l {i j : Int} (h : -18446744073709551616 < i) (h2 : i < 18446744073709551616) : CMul i j := .inl ⟨h, h2⟩
theorem CMul_r {i j : Int} (h : -18446744073709551616 < j) (h2 : j < 18446744073709551616) : CMul i j := .inr ⟨h, h2⟩
@[simp] theorem CMul_litr (i : Int) (k : Nat) : CMul i (no_index (OfNat.ofNat k : Int)) ↔ (-18446744073709551616 < i ∧ i < 18446744073709551616) ∨ (k : Int) < 18446744073709551616 := by
  have e : (OfNat.ofNat k : Int) = (k : Int) := rfl
  unfold CMul
  rw [e]
  constructor
  · rintro (h | h)
    · exact .inl h
    · exact .inr h.2
  · rintro (h | h)
    · exact .inl h
    · exact .inr ⟨by omega, h⟩
@[simp] theorem CMul_litl (i : Int) (k : Nat) : CMul (no_index (OfNat.ofNat k : Int)) i ↔ (k : Int) < 18446744073709551616 ∨ (-18446744073709551616 < i ∧ i < 18446744073709551616) := by
  have e : (OfNat.ofNat k : Int) = (k : Int) := rfl
  unfold CMul
  rw [e]
  constructor
  · rintro (h | h)
    · exact .inl h.2
    · exact .inr h
  · rintro (h | h)
    · exact .inl ⟨by omega, h⟩
    · exact .inr h
theorem pMul_ok {i j : Int} (h : CMul i j) (S : Store) : pMul (.int i) (.int j) S = some (.int (i * j)) := by rw [pMul_ii, if_pos h]
@[simp] theorem pMul_litr (i : Int) (k : Nat) (S : Store) (h : k < 18446744073709551616) : pMul (.int i) (.int (no_index (OfNat.ofNat k : Int))) S = some (.int (i * (OfNat.ofNat k : Int))) := pMul_ok (by rw [CMul_litr]; exact .inr (by omega)) S
@[simp] theorem pMul_litl (i : Int) (k : Nat) (S : Store) (h : k < 18446744073709551616) : pMul (.int (no_index (OfNat.ofNat k : Int))) (.int i) S = some (.int ((OfNat.ofNat k : Int) * i)) := pMul_ok (by rw [CMul_litl]; exact .inl (by omega)) S
@[simp] theorem CDiv_lit (i : Int) (k : Nat) : CDiv i (no_index (OfNat.ofNat k : Int)) ↔ 0 < k ∧ k < 1073741824 := by
  have e : (OfNat.ofNat k : Int) = (k : Int) := rfl
  unfold CDiv
  rw [e]
  omega
@[simp] theorem pInt_i (i : Int) (S : Store) : pInt [.int i] S = some (.int i) := id rfl
@[simp] theorem pInt_b (b : Bool) (S : Store) : pInt [.bl b] S = some (.int (if b then 1 else 0)) := id rfl
@[simp] theorem pAbs_i (i : Int) (S : Store) : pAbs [.int i] S = some (.int (if i < 0 then -i else i)) := id rfl
@[simp] theorem pDivmod_ii (i j : Int) (S : Store) : pDivmod [.int i, .int j] S = if CDiv i j then some (.tup [.int (i / j), .int (i % j)]) else none := by rw [pDivmod]
@[simp] theorem pMin2_ii (i j : Int) (S : Store) : pMin2 [.int i, .int j] S = some (.int (min i j)) := by
  show some (D.int (if j < i then j else i)) = _
  congr 2
  omega
@[simp] theorem pMax2_ii (i j : Int) (S : Store) : pMax2 [.int i, .int j] S = some (.int (max i j)) := by
  show some (D.int (if j > i then j else i)) = _
  congr 2
  omega
@[simp] theorem pBool_i (i : Int) (S : Store) : pBool [.int i] S = some (.bl (i != 0)) := id rfl
@[simp] theorem pBool_b (b : Bool) (S : Store) : pBool [.bl b] S = some (.bl b) := id rfl
@[simp] theorem pIsB_bb (a b : Bool) (S : Store) : pIsB (.bl a) (.bl b) S = some (.bl (decide (a = b))) := id rfl
@[simp] theorem pNotB_bb (a b : Bool) (S : Store) : pNotB (.bl a) (.bl b) S = some (.bl (!decide (a = b))) := id rfl
/-! what is None, of which type -/
@[simp] theorem pIsN_non (S : Store) : pIsN .non .non S = some (.bl true) := id rfl
@[simp] theorem pIsN_int (i : Int) (S : Store) : pIsN (.int i) .non S = some (.bl false) := id rfl
@[simp] theorem pIsN_bl (i : Bool) (S : Store) : pIsN (.bl i) .non S = some (.bl false) := id rfl
@[simp] theorem pIsN_str (i : Str) (S : Store) : pIsN (.str i) .non S = some (.bl false) := id rfl
@[simp] theorem pIsN_tup (i : List D) (S : Store) : pIsN (.tup i) .non S = some (.bl false) := id rfl
@[simp] theorem pIsN_tpn (i : List D) (S : Store) : pIsN (.tpn i) .non S = some (.bl false) := id rfl
@[simp] theorem pIsN_lst (i : List D) (S : Store) : pIsN (.lst i) .non S = some (.bl false) := id rfl
@[simp] theorem pIsN_loc (i : Nat) (S : Store) : pIsN (.loc i) .non S = some (.bl false) := id rfl
@[simp] theorem pNotN_non (S : Store) : pNotN .non .non S = some (.bl false) := id rfl
@[simp] theorem pNotN_int (i : Int) (S : Store) : pNotN (.int i) .non S = some (.bl true) := id rfl
@[simp] theorem pNotN_bl (i : Bool) (S : Store) : pNotN (.bl i) .non S = some (.bl true) := id rfl
@[simp] theorem pNotN_str (i : Str) (S : Store) : pNotN (.str i) .non S = some (.bl true) := id rfl
@[simp] theorem pNotN_tup (i : List D) (S : Store) : pNotN (.tup i) .non S = some (.bl true) := id rfl
@[simp] theorem pNotN_tpn (i : List D) (S : Store) : pNotN (.tpn i) .non S = some (.bl true) := id rfl
@[simp] theorem pNotN_lst (i : List D) (S : Store) : pNotN (.lst i) .non S = some (.bl true) := id rfl
@[simp] theorem pNotN_loc (i : Nat) (S : Store) : pNotN (.loc i) .non S = some (.bl true) := id rfl
@[simp] theorem isiT_non (T : String) (S : Store) : isiT T .non S = some (.bl (subT "NoneType" T)) := id rfl
@[simp] theorem isiT_int (T : String) (i : Int) (S : Store) : isiT T (.int i) S = some (.bl (subT "int" T)) := id rfl
@[simp] theorem isiT_bl (T : String) (i : Bool) (S : Store) : isiT T (.bl i) S = some (.bl (subT "bool" T)) := id rfl
@[simp] theorem isiT_str (T : String) (i : Str) (S : Store) : isiT T (.str i) S = some (.bl (subT "str" T)) := id rfl
@[simp] theorem isiT_tup (T : String) (i : List D) (S : Store) : isiT T (.tup i) S = some (.bl (subT "tuple" T)) := id rfl
@[simp] theorem isiT_tpn (T : String) (i : List D) (S : Store) : isiT T (.tpn i) S = some (.bl (subT "tuple" T)) := id rfl
@[simp] theorem isiT_lst (T : String) (i : List D) (S : Store) : isiT T (.lst i) S = some (.bl (subT "list" T)) := id rfl
@[simp] theorem isiT_scr (T : String) (i : List D) (S : Store) : isiT T (.scr i) S = some (.bl (subT "list" T)) := id rfl
@[simp] theorem subT_tt : subT "tuple" "tuple" = true := by decide
@[simp] theorem subT_ss : subT "str" "str" = true := by decide
@[simp] theorem subT_ii : subT "int" "int" = true := by decide
@[simp] theorem subT_ib : subT "int" "bool" = false := by decide
@[simp] theorem subT_bi : subT "bool" "int" = true := by decide
@[simp] theorem subT_bb : subT "bool" "bool" = true := by decide
@[simp] theorem subT_nt : subT "NoneType" "tuple" = false := by decide
@[simp] theorem subT_ns : subT "NoneType" "str" = false := by decide
@[simp] theorem subT_ni : subT "NoneType" "int" = false := by decide
@[simp] theorem subT_lt : subT "list" "tuple" = false := by decide
@[simp] theorem subT_st : subT "str" "tuple" = false := by decide
@[simp] theorem subT_it : subT "int" "tuple" = false := by decide
@[simp] theorem isiC_ins (C : Str) (ks : List Str) (vs : List D) (S : Store) : isiC C (.ins C ks vs) S = some (.bl true) := if_pos rfl
/-! lists -/
@[simp] theorem pLen_lst (xs : List D) (S : Store) : pLen [.lst xs] S = some (.int xs.length) := id rfl
@[simp] theorem pLen_scr (xs : List D) (S : Store) : pLen [.scr xs] S = some (.int xs.length) := id rfl
@[simp] theorem pLen_tup (xs : List D) (S : Store) : pLen [.tup xs] S = some (.int xs.length) := id rfl
@[simp] theorem pLen_tpn (xs : List D) (S : Store) : pLen [.tpn xs] S = some (.int xs.length) := id rfl
@[simp] theorem pLen_str (z : Str) (S : Store) : pLen [.str z] S = if z.length ≤ sizeLine then some (.int z.length) else none := id rfl
@[simp] theorem pLen_loc (n : Nat) (S : Store) : pLen [.loc n] S = (seqD (.loc n) S).map fun xs => .int xs.length := id rfl
@[simp] theorem pLenS_lst (xs : List D) (S : Store) : pLenS [.lst xs] S = some (.int xs.length) := id rfl
@[simp] theorem pLenS_scr (xs : List D) (S : Store) : pLenS [.scr xs] S = some (.int xs.length) := id rfl
@[simp] theorem pLenS_tup (xs : List D) (S : Store) : pLenS [.tup xs] S = some (.int xs.length) := id rfl
@[simp] theorem pLenS_tpn (xs : List D) (S : Store) : pLenS [.tpn xs] S = some (.int xs.length) := id rfl
@[simp] theorem pLenS_str (z : Str) (S : Store) : pLenS [.str z] S = if z.length ≤ sizeLine then some (.int z.length) else none := id rfl
@[simp] theorem pLenS_loc (n : Nat) (S : Store) : pLenS [.loc n] S = (seqD (.loc n) S).map fun xs => .int xs.length := id rfl
@[simp] theorem pLenS_iset (n : Nat) (S : Store) : pLenS [.iset n] S = if n < 4096 then some (.int n) else none := id rfl
@[simp] theorem pTuple_tup (xs : List D) (S : Store) : pTuple [.tup xs] S = some (.tup xs) := id rfl
@[simp] theorem pTuple_tpn (xs : List D) (S : Store) : pTuple [.tpn xs] S = some (.tpn xs) := id rfl
@[simp] theorem pTuple_lst (xs : List D) (S : Store) : pTuple [.lst xs] S = some (.tpn xs) := id rfl
@[simp] theorem pTuple_scr (xs : List D) (S : Store) : pTuple [.scr xs] S = some (.tpn xs) := id rfl
@[simp] theorem pTuple_loc (n : Nat) (S : Store) : pTuple [.loc n] S = (seqL (.loc n) S).map fun xs => .tpn xs := id rfl
@[simp] theorem pList_ap (d : D) (S : Store) : pList [d] S = (seqD d S).map fun xs => .lst xs := id rfl
@[simp] theorem pSum_ap (d : D) (S : Store) : pSum [d] S = ((seqD d S).bind intsD).map fun ns => .int ns.sum := id rfl
@[simp] theorem pAll_ap (d : D) (S : Store) : pAll [d] S = ((seqL d S).bind blsD).map fun bs => .bl (bs.all id) := id rfl
@[simp] theorem pAny_ap (d : D) (S : Store) : pAny [d] S = ((seqL d S).bind blsD).map fun bs => .bl (bs.any id) := id rfl
@[simp] theorem intsD_nil : intsD [] = some [] := id rfl
@[simp] theorem intsD_cons (i : Int) (ds : List D) : intsD (.int i :: ds) = (intsD ds).map (i :: ·) := id rfl
@[simp] theorem intsD_map {α : Type} (f : α → Int) (xs : List α) : intsD (xs.map fun x => D.int (f x)) = some (xs.map f) := by
  induction xs with
  | nil => rfl
  | cons x xs ih => rw [List.map_cons, intsD_cons, ih]; rfl
@[simp] theorem intsD_map' (xs : List Int) : intsD (xs.map D.int) = some xs := by
  have := intsD_map id xs
  rwa [List.map_id] at this
@[simp] theorem blsD_nil : blsD [] = some [] := id rfl
@[simp] theorem blsD_cons (i : Bool) (ds : List D) : blsD (.bl i :: ds) = (blsD ds).map (i :: ·) := id rfl
@[simp] theorem blsD_map {α : Type} (f : α → Bool) (xs : List α) : blsD (xs.map fun x => D.bl (f x)) = some (xs.map f) := by
  induction xs with
  | nil => rfl
  | cons x xs ih => rw [List.map_cons, blsD_cons, ih]; rfl
@[simp] theorem blsD_map' (xs : List Bool) : blsD (xs.map D.bl) = some xs := by
  have := blsD_map id xs
  rwa [List.map_id] at this
@[simp] theorem strsD_map {α : Type} (f : α → Str) (xs : List α) : strsD (xs.map fun x => D.str (f x)) = some (xs.map f) := by
  induction xs with
  | nil => rfl
  | cons x xs ih => show (strsD (xs.map fun x => D.str (f x))).map _ = _; rw [ih]; rfl
@[simp] theorem strsD_map' (xs : List Str) : strsD (xs.map D.str) = some xs := by
  have := strsD_map id xs
  rwa [List.map_id] at this
@[simp] theorem pSl_tup (xs : List D) (lo hi : Option Int) (S : Store) : pSl (.tup xs) lo hi S = some (.tup (cutD xs lo hi)) := id rfl
@[simp] theorem pSl_tpn (xs : List D) (lo hi : Option Int) (S : Store) : pSl (.tpn xs) lo hi S = some (.tup (cutD xs lo hi)) := id rfl
@[simp] theorem pSl_lst (xs : List D) (lo hi : Option Int) (S : Store) : pSl (.lst xs) lo hi S = some (.lst (cutD xs lo hi)) := id rfl
@[simp] theorem pSl_scr (xs : List D) (lo hi : Option Int) (S : Store) : pSl (.scr xs) lo hi S = some (.lst (cutD xs lo hi)) := id rfl
@[simp] theorem pSl_loc (n : Nat) (lo hi : Option Int) (S : Store) : pSl (.loc n) lo hi S = (seqL (.loc n) S).map fun xs => .lst (cutD xs lo hi) := id rfl
@[simp] theorem cutD_none {α : Type} (xs : List α) : cutD xs none none = xs := by
  unfold cutD
  simp [HT.sIx]
theorem cutD_hi {α : Type} (xs : List α) (k : Nat) : cutD xs none (some (k : Int)) = xs.take k := by
  unfold cutD
  rw [HT.sIx_none, HT.sIx_nat, List.drop_zero, Nat.sub_zero]
  by_cases h : k ≤ xs.length
  · rw [Nat.min_eq_left h]
  · rw [Nat.min_eq_right (by omega), List.take_of_length_le (Nat.le_refl _), List.take_of_length_le (by omega)]
theorem cutD_lo {α : Type} (xs : List α) (k : Nat) : cutD xs (some (k : Int)) none = xs.drop k := by
  unfold cutD
  rw [HT.sIx_none, HT.sIx_nat]
  by_cases h : k ≤ xs.length
  · rw [Nat.min_eq_left h, List.take_of_length_le (by rw [List.length_drop]; omega)]
  · rw [Nat.min_eq_right (by omega), List.drop_of_length_le (Nat.le_refl _), List.drop_of_length_le (by omega), List.take_nil]
@[simp] theorem cutD_hiN {α : Type} (xs : List α) (k : Nat) : cutD xs none (some (k : Int)) = xs.take k := cutD_hi xs k
@[simp] theorem cutD_loN {α : Type} (xs : List α) (k : Nat) : cutD xs (some (k : Int)) none = xs.drop k := cutD_lo xs k
@[simp] theorem cutD_hiL {α : Type} (xs : List α) (k : Nat) : cutD xs none (some (no_index (OfNat.ofNat k : Int))) = xs.take k := cutD_hi xs k
@[simp] theorem cutD_loL {α : Type} (xs : List α) (k : Nat) : cutD xs (some (no_index (OfNat.ofNat k : Int))) none = xs.drop k := cutD_lo xs k
@[simp] theorem pAdd_ll (xs ys : List D) (S : Store) : pAdd (.lst xs) (.lst ys) S = if xs.length + ys.length ≤ sizeLine then some (.lst (xs ++ ys)) else none := id rfl
@[simp] theorem pAdd_tt (xs ys : List D) (S : Store) : pAdd (.tup xs) (.tup ys) S = if xs.length + ys.length ≤ sizeLine then some (.tup (xs ++ ys)) else none := id rfl
@[simp] theorem pAdd_nt (xs ys : List D) (S : Store) : pAdd (.tpn xs) (.tup ys) S = if xs.length + ys.length ≤ sizeLine then some (.tup (xs ++ ys)) else none := id rfl
@[simp] theorem pAdd_tn (xs ys : List D) (S : Store) : pAdd (.tup xs) (.tpn ys) S = if xs.length + ys.length ≤ sizeLine then some (.tup (xs ++ ys)) else none := id rfl
@[simp] theorem pAdd_nn (xs ys : List D) (S : Store) : pAdd (.tpn xs) (.tpn ys) S = if xs.length + ys.length ≤ sizeLine then some (.tup (xs ++ ys)) else none := id rfl
/-! methods -/
@[simp] theorem tyD_loc (n : Nat) (S : Store) : tyD (.loc n) S = (match S[n]? with
    | some (.lst _) => "list"
    | _ => "") := id rfl
@[simp] theorem tyD_lst (xs : List D) (S : Store) : tyD (.lst xs) S = "list" := id rfl
@[simp] theorem tyD_scr (xs : List D) (S : Store) : tyD (.scr xs) S = "list" := id rfl
@[simp] theorem tyD_tpn (xs : List D) (S : Store) : tyD (.tpn xs) S = "tuple" := id rfl
@[simp] theorem tyD_str (z : Str) (S : Store) : tyD (.str z) S = "str" := id rfl
@[simp] theorem tyD_int (z : Int) (S : Store) : tyD (.int z) S = "int" := id rfl
@[simp] theorem qAppend_loc (n : Nat) (e : D) (S : Store) : qAppend (.loc n) [e] S = (match S[n]? with
    | some (.lst xs) => if xs.length < sizeLine then some (.non, S.set n (.lst (xs ++ [e]))) else none
    | _ => none) := id rfl
@[simp] theorem qExtend_loc (n : Nat) (ys : List D) (S : Store) : qExtend (.loc n) [.lst ys] S = (match S[n]? with
    | some (.lst xs) => if xs.length + ys.length ≤ sizeLine then some (.non, S.set n (.lst (xs ++ ys))) else none
    | _ => none) := id rfl
@[simp] theorem qPop_loc (n : Nat) (S : Store) : qPop (.loc n) [] S = (match S[n]? with
    | some (.lst xs) => match xs.getLast? with
      | some e => some (e, S.set n (.lst xs.dropLast))
      | none => none
    | _ => none) := id rfl
@[simp] theorem same1_ap (p : D → List D → Store → Option D) (d : D) (ds : List D) (S : Store) : same1 p d ds S = (p d ds S).map fun r => (r, S) := id rfl
@[simp] theorem pIndexT_tpn (xs : List D) (z : Str) (S : Store) : pIndexT (.tpn xs) [.str z] S = (strsD xs).bind fun ys => (ys.findIdx? fun y => y == z).map fun (j : Nat) => D.int (j : Int) := id rfl
/-! comprehensions -/
/-- one item: what it adds -/
def cStep (g : Tgt) (t : L → Store → R Bool) (e : L → Store → R D) (l : L) (d : D) (S : Store) : Option (Option D × Store) := match g d S with
  | none => none
  | some as => match t (setA l as) S with
    | .ok true S1 => match e (setA l as) S1 with
      | .ok y S2 => some (some y, S2)
      | _ => none
    | .ok false S1 => some (none, S1)
    | _ => none
theorem cGo_nil {g : Tgt} {t : L → Store → R Bool} {e : L → Store → R D} {w : Hld} {l : L} {n : Nat} {S : Store} (h : held w S) : cGo g t e w l [] n S = some ([], S) := by
  rw [cGo, if_pos h]
theorem cGo_some {g : Tgt} {t : L → Store → R Bool} {e : L → Store → R D} {w : Hld} {l : L} {n : Nat} {S S1 : Store} {d y : D} {ds : List D} (h : held w S) (c : cStep g t e l d S = some (some y, S1)) (hn : n < sizeLine) :
    cGo g t e w l (d :: ds) n S = (cGo g t e w l ds (n + 1) S1).map fun r => (y :: r.1, r.2) := by
  rw [cGo, if_pos h]
  unfold cStep at c
  split at c
  · exact nomatch c
  · rename_i as ha
    try rw [ha]
    try dsimp only
    split at c
    · rename_i S2 ht
      try rw [ht]
      try dsimp only
      split at c
      · rename_i y2 S3 he
        cases c
        try rw [he]
        try dsimp only
        rw [if_pos hn]
        cases cGo g t e w l ds (n + 1) S1 <;> rfl
      · exact nomatch c
    · exact nomatch c
    · exact nomatch c
theorem cGo_none {g : Tgt} {t : L → Store → R Bool} {e : L → Store → R D} {w : Hld} {l : L} {n : Nat} {S S1 : Store} {d : D} {ds : List D} (h : held w S) (c : cStep g t e l d S = some (none, S1)) :
    cGo g t e w l (d :: ds) n S = cGo g t e w l ds n S1 := by
  rw [cGo, if_pos h]
  unfold cStep at c
  split at c
  · exact nomatch c
  · rename_i as ha
    try rw [ha]
    try dsimp only
    split at c
    · rename_i S2 ht
      try rw [ht]
      try dsimp only
      split at c <;> exact nomatch c
    · rename_i S2 ht
      cases c
      try rw [ht]
      all_goals rfl
    · exact nomatch c
/-- nothing is changed: what stands at the end -/
theorem cGo_pure {α : Type} {en : α → D} {f : α → Option D} {g : Tgt} {t : L → Store → R Bool} {e : L → Store → R D} {w : Hld} {l : L} {S : Store} (hw : held w S) : ∀ {xs : List α} {n : Nat}, (∀ x ∈ xs, cStep g t e l (en x) S = some (f x, S)) → n + xs.length ≤ sizeLine →
    cGo g t e w l (xs.map en) n S = some (xs.filterMap f, S)
  | [], n, _, _ => cGo_nil hw
  | x :: xs, n, h, hn => by
    rw [List.length_cons] at hn
    have hx := h x (.head _)
    rw [List.map_cons]
    cases q : f x with
    | none =>
      rw [q] at hx
      rw [cGo_none hw hx, cGo_pure hw (fun y hy => h y (.tail _ hy)) (by omega), List.filterMap_cons_none q]
    | some y =>
      rw [q] at hx
      rw [cGo_some hw hx (by omega), cGo_pure hw (fun y hy => h y (.tail _ hy)) (by omega), List.filterMap_cons_some q]
      rfl
theorem cGo_map {α : Type} {en : α → D} {f : α → D} {g : Tgt} {t : L → Store → R Bool} {e : L → Store → R D} {w : Hld} {l : L} {S : Store} {xs : List α} {n : Nat} (h : ∀ x ∈ xs, cStep g t e l (en x) S = some (some (f x), S)) (hn : n + xs.length ≤ sizeLine) (hw : held w S) :
    cGo g t e w l (xs.map en) n S = some (xs.map f, S) := by
  rw [cGo_pure (f := fun x => some (f x)) hw h hn]
  simp
theorem cGo_filter {α : Type} {en : α → D} {f : α → D} {p : α → Bool} {g : Tgt} {t : L → Store → R Bool} {e : L → Store → R D} {w : Hld} {l : L} {S : Store} {xs : List α} {n : Nat} (h : ∀ x ∈ xs, cStep g t e l (en x) S = some (if p x = true then some (f x) else none, S)) (hn : n + xs.length ≤ sizeLine) (hw : held w S) :
    cGo g t e w l (xs.map en) n S = some ((xs.filter p).map f, S) := by
  rw [cGo_pure (f := fun x => if p x = true then some (f x) else none) hw h hn]
  congr 2
  clear h hn
  induction xs with
  | nil => rfl
  | cons x xs ih =>
    rw [List.filterMap_cons, List.filter_cons]
    by_cases c : p x = true
    · rw [if_pos c, if_pos c, List.map_cons, ih]
    · rw [if_neg c, if_neg c, ih]
/-- the store changes: an invariant of what is left and what is written -/
theorem cGo_inv {α : Type} {en : α → D} (I : List α → List D → Store → Prop) {g : Tgt} {t : L → Store → R Bool} {e : L → Store → R D} {w : Hld} {l : L} {xs : List α}
    (hw : ∀ ys out S, I ys out S → held w S)
    (h : ∀ x ys out S, x ∈ xs → I (x :: ys) out S → ∃ o S', cStep g t e l (en x) S = some (o, S') ∧ I ys (match o with | some y => out ++ [y] | none => out) S') :
    ∀ {zs : List α} {out : List D} {S : Store} {n : Nat}, (∀ z ∈ zs, z ∈ xs) → I zs out S → n + zs.length ≤ sizeLine → ∃ ys S', cGo g t e w l (zs.map en) n S = some (ys, S') ∧ I [] (out ++ ys) S'
  | [], out, S, n, _, hI, _ => ⟨[], S, cGo_nil (hw _ _ _ hI), by rwa [List.append_nil]⟩
  | z :: zs, out, S, n, hz, hI, hn => by
    rw [List.length_cons] at hn
    obtain ⟨o, S1, c, hI1⟩ := h z zs out S (hz z (.head _)) hI
    rw [List.map_cons]
    cases o with
    | none =>
      obtain ⟨ys, S', e2, hI2⟩ := cGo_inv I hw h (n := n) (fun y hy => hz y (.tail _ hy)) hI1 (by omega)
      exact ⟨ys, S', by rw [cGo_none (hw _ _ _ hI) c, e2], hI2⟩
    | some y =>
      obtain ⟨ys, S', e2, hI2⟩ := cGo_inv I hw h (n := n + 1) (fun y hy => hz y (.tail _ hy)) hI1 (by omega)
      exact ⟨y :: ys, S', by rw [cGo_some (hw _ _ _ hI) c (by omega), e2]; rfl, by rwa [List.append_assoc] at hI2⟩
/-! loops -/
theorem forGo_nil {g : Tgt} {b : L → Store → Fl} {w : Hld} {l : L} {S : Store} (h : held w S) : forGo g b w [] l S = .nx l S := by rw [forGo, if_pos h]
theorem forGo_cons {g : Tgt} {b : L → Store → Fl} {w : Hld} {l : L} {S : Store} {d : D} {ds : List D} {as : List (Nat × D)} (h : held w S) (hg : g d S = some as) :
    forGo g b w (d :: ds) l S = (match b (setA l as) S with
      | .nx l1 S1 => forGo g b w ds l1 S1
      | .ct l1 S1 => forGo g b w ds l1 S1
      | .bk l1 S1 => .nx l1 S1
      | .rt d S1 => .rt d S1
      | .exc e l1 S1 => .exc e l1 S1
      | .bad => .bad) := by
  rw [forGo, if_pos h, hg]
  try rfl
/-- how a loop goes on behind a body -/
@[irreducible] def Nxt (I : L → Store → Prop) (Q : Fl → Prop) : Fl → Prop
  | .nx l1 S1 => I l1 S1
  | .ct l1 S1 => I l1 S1
  | .bk l1 S1 => Q (.nx l1 S1)
  | .rt d S1 => Q (.rt d S1)
  | .exc e l1 S1 => Q (.exc e l1 S1)
  | .bad => Q .bad
@[simp] theorem Nxt_nx (I : L → Store → Prop) (Q : Fl → Prop) l S : Nxt I Q (.nx l S) = I l S := by rw [Nxt]
@[simp] theorem Nxt_ct (I : L → Store → Prop) (Q : Fl → Prop) l S : Nxt I Q (.ct l S) = I l S := by rw [Nxt]
@[simp] theorem Nxt_bk (I : L → Store → Prop) (Q : Fl → Prop) l S : Nxt I Q (.bk l S) = Q (.nx l S) := by rw [Nxt]
@[simp] theorem Nxt_rt (I : L → Store → Prop) (Q : Fl → Prop) l S : Nxt I Q (.rt l S) = Q (.rt l S) := by rw [Nxt]
@[simp] theorem Nxt_exc (I : L → Store → Prop) (Q : Fl → Prop) e l S : Nxt I Q (.exc e l S) = Q (.exc e l S) := by rw [Nxt]
@[simp] theorem Nxt_bad (I : L → Store → Prop) (Q : Fl → Prop) : Nxt I Q .bad = Q .bad := by rw [Nxt]
/-- by an invariant of what is left; Q of how it ends -/
theorem forGo_inv {α : Type} {en : α → D} (I : List α → L → Store → Prop) (Q : Fl → Prop) {g : Tgt} {b : L → Store → Fl} {w : Hld} {xs : List α}
    (h0 : ∀ l S, I [] l S → held w S ∧ Q (.nx l S))
    (hs : ∀ x ys l S, x ∈ xs → I (x :: ys) l S → held w S ∧ ∃ as, g (en x) S = some as ∧ Nxt (I ys) Q (b (setA l as) S)) :
    ∀ {zs : List α} {l : L} {S : Store}, (∀ z ∈ zs, z ∈ xs) → I zs l S → Q (forGo g b w (zs.map en) l S)
  | [], l, S, _, hI => by rw [List.map_nil, forGo_nil (h0 _ _ hI).1]; exact (h0 _ _ hI).2
  | z :: zs, l, S, hz, hI => by
    obtain ⟨hh, as, hg, hb⟩ := hs z zs l S (hz z (.head _)) hI
    rw [List.map_cons, forGo_cons hh hg]
    generalize b (setA l as) S = r at hb ⊢
    cases r with
    | nx l1 S1 => rw [Nxt_nx] at hb; exact forGo_inv I Q h0 hs (fun y hy => hz y (.tail _ hy)) hb
    | ct l1 S1 => rw [Nxt_ct] at hb; exact forGo_inv I Q h0 hs (fun y hy => hz y (.tail _ hy)) hb
    | bk l1 S1 => rw [Nxt_bk] at hb; exact hb
    | rt d S1 => rw [Nxt_rt] at hb; exact hb
    | exc e l1 S1 => rw [Nxt_exc] at hb; exact hb
    | bad => rw [Nxt_bad] at hb; exact hb
/-- a fold: st tells slots and store -/
theorem forGo_fold {α σ : Type} {en : α → D} (st : σ → L × Store) (f : σ → α → σ) {g : Tgt} {b : L → Store → Fl} {w : Hld} :
    ∀ {xs : List α} {s : σ}, (∀ s x, x ∈ xs → ∃ as, g (en x) (st s).2 = some as ∧ b (setA (st s).1 as) (st s).2 = .nx (st (f s x)).1 (st (f s x)).2) → (∀ s, held w (st s).2) →
    forGo g b w (xs.map en) (st s).1 (st s).2 = .nx (st (xs.foldl f s)).1 (st (xs.foldl f s)).2
  | [], s, _, hw => forGo_nil (hw s)
  | x :: xs, s, h, hw => by
    obtain ⟨as, hg, hb⟩ := h s x (.head _)
    rw [List.map_cons, forGo_cons (hw s) hg, hb]
    exact forGo_fold st f (fun s y hy => h s y (.tail _ hy)) hw
/-! instances -/
@[simp] theorem insOf_ins (C : Str) (ks : List Str) (vs : List D) (S : Store) : insOf C (.ins C ks vs) S = some (ks, vs) := if_pos rfl
@[simp] theorem insOf_loc (C : Str) (n : Nat) (S : Store) : insOf C (.loc n) S = (match S[n]? with
    | some (.ins C' ks vs) => if C' = C then some (ks, vs) else none
    | _ => none) := id rfl
@[simp] theorem pFld_ap (C f : Str) (d : D) (S : Store) : pFld C f d S = (insOf C d S).bind fun x => (x.1.zip x.2).lookup f := id rfl
@[simp] theorem noX_ok {α : Type} (a : α) (S : Store) : (R.ok a S).noX = .ok a S := id rfl
@[simp] theorem setFl_loc (C f : Str) (n : Nat) (d : D) (S : Store) : setFl C f (.loc n) d S = (match S[n]? with
    | some (.ins C' ks vs) => if C' = C ∧ ks.length < 1000 then some (S.set n (.ins C (putK f ks) (putV f d ks vs))) else none
    | _ => none) := id rfl
end HL
end
section
set_option Elab.async false
set_option linter.all false
set_option maxRecDepth 100000
set_option maxHeartbeats 1000000
namespace HL
open PySem PySem.Spec L2
mutual
/-- data of texts, numbers, truth values, None, tuples and lists, of at most this depth -/
def dok : Nat → D → Bool
  | _, .non => true
  | _, .bl _ => true
  | _, .int _ => true
  | _, .str x => PyData.strOk x
  | n + 1, .tup xs => doks n xs
  | n + 1, .tpn xs => doks n xs
  | n + 1, .lst xs => doks n xs
  | n + 1, .scr xs => doks n xs
  | _, _ => false
def doks : Nat → List D → Bool
  | _, [] => true
  | n, d :: ds => dok n d && doks n ds
end
@[simp] theorem dok_non (n : Nat) : dok n .non = true := by cases n <;> rfl
@[simp] theorem dok_bl (n : Nat) (b : Bool) : dok n (.bl b) = true := by cases n <;> rfl
@[simp] theorem dok_int (n : Nat) (i : Int) : dok n (.int i) = true := by cases n <;> rfl
@[simp] theorem dok_str (n : Nat) (x : Str) : dok n (.str x) = PyData.strOk x := by cases n <;> rfl
@[simp] theorem dok_tup (n : Nat) (xs : List D) : dok (n + 1) (.tup xs) = doks n xs := rfl
@[simp] theorem dok_tpn (n : Nat) (xs : List D) : dok (n + 1) (.tpn xs) = doks n xs := rfl
@[simp] theorem dok_lst (n : Nat) (xs : List D) : dok (n + 1) (.lst xs) = doks n xs := rfl
@[simp] theorem dok_scr (n : Nat) (xs : List D) : dok (n + 1) (.scr xs) = doks n xs := rfl
@[simp] theorem doks_nil (n : Nat) : doks n [] = true := rfl
@[simp] theorem doks_cons (n : Nat) (d : D) (ds : List D) : doks n (d :: ds) = (dok n d && doks n ds) := rfl
theorem doks_iff {n : Nat} : ∀ {ds : List D}, doks n ds = true ↔ ∀ d ∈ ds, dok n d = true
  | [] => by simp
  | d :: ds => by simp [doks_iff (ds := ds)]
theorem doks_map {α : Type} {n : Nat} {f : α → D} {xs : List α} (h : ∀ x ∈ xs, dok n (f x) = true) : doks n (xs.map f) = true := by
  rw [doks_iff]
  intro d hd
  obtain ⟨x, hx, rfl⟩ := List.mem_map.mp hd
  exact h x hx
@[simp] theorem doks_append {n : Nat} (xs ys : List D) : doks n (xs ++ ys) = (doks n xs && doks n ys) := by
  induction xs with
  | nil => rfl
  | cons x xs ih => rw [List.cons_append, doks_cons, doks_cons, ih, Bool.and_assoc]
@[simp] theorem encD_non : encD .non = .none := rfl
@[simp] theorem encD_bl (b : Bool) : encD (.bl b) = .bool b := rfl
@[simp] theorem encD_int (i : Int) : encD (.int i) = .int i := rfl
@[simp] theorem encD_str (x : Str) : encD (.str x) = .str x := rfl
theorem toPy_tup (xs : List D) : toPy (.tup xs) = (toPys xs).map .tuple := by rw [toPy]
theorem toPy_tpn (xs : List D) : toPy (.tpn xs) = (toPys xs).map .tuple := by rw [toPy]
theorem toPy_lst (xs : List D) : toPy (.lst xs) = (toPys xs).map .list := by rw [toPy]
theorem toPy_scr (xs : List D) : toPy (.scr xs) = (toPys xs).map .list := by rw [toPy]
mutual
theorem dok_py : ∀ {n : Nat} {d : D}, dok n d = true → toPy d = some (encD d) ∧ (encD d).canLay0 = true ∧ (encD d).depth ≤ n
  | n, .non, _ => ⟨rfl, rfl, Nat.zero_le _⟩
  | n, .bl b, _ => ⟨rfl, rfl, Nat.zero_le _⟩
  | n, .int i, _ => ⟨rfl, rfl, Nat.zero_le _⟩
  | n, .str x, h => ⟨rfl, by rw [dok_str] at h; exact h, Nat.zero_le _⟩
  | n + 1, .tup xs, h => by
    obtain ⟨a, b, c⟩ := doks_py (n := n) (ds := xs) h
    have e : encD (.tup xs) = .tuple (xs.map encD) := by
      show (toPy (.tup xs)).getD .none = _
      rw [toPy_tup, a]
      rfl
    rw [e]
    exact ⟨by rw [toPy_tup, a]; rfl, by rw [PyData.canLay0]; exact b, by rw [PyData.depth]; exact Nat.succ_le_succ c⟩
  | n + 1, .tpn xs, h => by
    obtain ⟨a, b, c⟩ := doks_py (n := n) (ds := xs) h
    have e : encD (.tpn xs) = .tuple (xs.map encD) := by
      show (toPy (.tpn xs)).getD .none = _
      rw [toPy_tpn, a]
      rfl
    rw [e]
    exact ⟨by rw [toPy_tpn, a]; rfl, by rw [PyData.canLay0]; exact b, by rw [PyData.depth]; exact Nat.succ_le_succ c⟩
  | n + 1, .lst xs, h => by
    obtain ⟨a, b, c⟩ := doks_py (n := n) (ds := xs) h
    have e : encD (.lst xs) = .list (xs.map encD) := by
      show (toPy (.lst xs)).getD .none = _
      rw [toPy_lst, a]
      rfl
    rw [e]
    exact ⟨by rw [toPy_lst, a]; rfl, by rw [PyData.canLay0]; exact b, by rw [PyData.depth]; exact Nat.succ_le_succ c⟩
  | n + 1, .scr xs, h => by
    obtain ⟨a, b, c⟩ := doks_py (n := n) (ds := xs) h
    have e : encD (.scr xs) = .list (xs.map encD) := by
      show (toPy (.scr xs)).getD .none = _
      rw [toPy_scr, a]
      rfl
    rw [e]
    exact ⟨by rw [toPy_scr, a]; rfl, by rw [PyData.canLay0]; exact b, by rw [PyData.depth]; exact Nat.succ_le_succ c⟩
  | 0, .tup _, h => nomatch h
  | 0, .tpn _, h => nomatch h
  | 0, .lst _, h => nomatch h
  | 0, .scr _, h => nomatch h
  | n, .iset _, h => by cases n <;> exact nomatch h
  | n, .ins _ _ _, h => by cases n <;> exact nomatch h
  | n, .err _ _ _, h => by cases n <;> exact nomatch h
  | n, .loc _, h => by cases n <;> exact nomatch h
theorem doks_py : ∀ {n : Nat} {ds : List D}, doks n ds = true → toPys ds = some (ds.map encD) ∧ PyData.canLayAll0 (ds.map encD) = true ∧ PyData.depthAll (ds.map encD) ≤ n
  | n, [], _ => ⟨rfl, rfl, Nat.zero_le _⟩
  | n, d :: ds, h => by
    rw [doks_cons, Bool.and_eq_true] at h
    obtain ⟨a, b, c⟩ := dok_py h.1
    obtain ⟨a', b', c'⟩ := doks_py h.2
    refine ⟨by unfold toPys; rw [a, a']; rfl, ?_, ?_⟩
    · rw [List.map_cons, PyData.canLayAll0, b, b']
      rfl
    · rw [List.map_cons, PyData.depthAll]
      exact Nat.max_le.mpr ⟨c, c'⟩
end
theorem encD_tup {n : Nat} {xs : List D} (h : doks n xs = true) : encD (.tup xs) = .tuple (xs.map encD) := by
  show (toPy (.tup xs)).getD .none = _
  rw [toPy_tup, (doks_py h).1]
  rfl
theorem encD_tpn {n : Nat} {xs : List D} (h : doks n xs = true) : encD (.tpn xs) = .tuple (xs.map encD) := by
  show (toPy (.tpn xs)).getD .none = _
  rw [toPy_tpn, (doks_py h).1]
  rfl
theorem encD_lst {n : Nat} {xs : List D} (h : doks n xs = true) : encD (.lst xs) = .list (xs.map encD) := by
  show (toPy (.lst xs)).getD .none = _
  rw [toPy_lst, (doks_py h).1]
  rfl
theorem encD_scr {n : Nat} {xs : List D} (h : doks n xs = true) : encD (.scr xs) = .list (xs.map encD) := by
  show (toPy (.scr xs)).getD .none = _
  rw [toPy_scr, (doks_py h).1]
  rfl
theorem dok_mono {n m : Nat} (h : n ≤ m) : ∀ {d : D}, dok n d = true → dok m d = true := by
  induction n generalizing m with
  | zero =>
    intro d hd
    cases d with
    | str x => simpa using hd
    | non => simp
    | bl b => simp
    | int i => simp
    | tup _ => exact nomatch hd
    | tpn _ => exact nomatch hd
    | lst _ => exact nomatch hd
    | scr _ => exact nomatch hd
    | iset _ => exact nomatch hd
    | ins _ _ _ => exact nomatch hd
    | err _ _ _ => exact nomatch hd
    | loc _ => exact nomatch hd
  | succ n ih =>
    obtain ⟨m, rfl⟩ : ∃ k, m = k + 1 := ⟨m - 1, by omega⟩
    intro d hd
    cases d with
    | str x => simpa using hd
    | non => simp
    | bl b => simp
    | int i => simp
    | tup _ => rw [dok_tup, doks_iff] at *; exact fun d h' => ih (by omega) (hd d h')
    | tpn _ => rw [dok_tpn, doks_iff] at *; exact fun d h' => ih (by omega) (hd d h')
    | lst _ => rw [dok_lst, doks_iff] at *; exact fun d h' => ih (by omega) (hd d h')
    | scr _ => rw [dok_scr, doks_iff] at *; exact fun d h' => ih (by omega) (hd d h')
    | iset _ => exact nomatch hd
    | ins _ _ _ => exact nomatch hd
    | err _ _ _ => exact nomatch hd
    | loc _ => exact nomatch hd
theorem shaped_dok {n : Nat} {d : D} (h : dok n d = true) (hn : n ≤ 64) : SeqAt.shaped (encD d) = true := by
  obtain ⟨a, b, c⟩ := dok_py h
  unfold SeqAt.shaped
  rw [b]
  simp
  omega
theorem toPyS_dok {n : Nat} {d : D} (h : dok n d = true) (S : Store) : toPyS d S = some (encD d) := by
  have a := (dok_py h).1
  cases d with
  | loc m => cases n <;> exact nomatch h
  | _ => exact a
/-- d == e -/
theorem pEq_dok {d e : D} (n m : Nat) (S : Store) (hd : dok n d = true) (he : dok m e = true) (hn : n ≤ 64) (hm : m ≤ 64) : pEq d e S = some (.bl (PyData.eqv (encD d) (encD e))) := by
  unfold pEq
  rw [toPyS_dok hd, toPyS_dok he]
  exact if_pos ⟨shaped_dok hd hn, shaped_dok he hm⟩
theorem pNe_dok {d e : D} (n m : Nat) (S : Store) (hd : dok n d = true) (he : dok m e = true) (hn : n ≤ 64) (hm : m ≤ 64) : pNe d e S = some (.bl (!PyData.eqv (encD d) (encD e))) := by
  unfold pNe
  rw [toPyS_dok hd, toPyS_dok he]
  exact if_pos ⟨shaped_dok hd hn, shaped_dok he hm⟩
@[simp] theorem eqv_ii (i j : Int) : PyData.eqv (.int i) (.int j) = decide (i = j) := by
  rw [PyData.eqv]
  exact Bool.beq_eq_decide_eq i j
@[simp] theorem eqv_ss (x y : Str) : PyData.eqv (.str x) (.str y) = decide (x = y) := by
  rw [PyData.eqv]
  exact Bool.beq_eq_decide_eq x y
@[simp] theorem eqv_bb (x y : Bool) : PyData.eqv (.bool x) (.bool y) = decide (x = y) := by
  rw [PyData.eqv]
  exact Bool.beq_eq_decide_eq x y
@[simp] theorem pEq_ii (i j : Int) (S : Store) : pEq (.int i) (.int j) S = some (.bl (decide (i = j))) := by
  rw [pEq_dok 0 0 S (dok_int 0 i) (dok_int 0 j) (by decide) (by decide), encD_int, encD_int, eqv_ii]
@[simp] theorem pNe_ii (i j : Int) (S : Store) : pNe (.int i) (.int j) S = some (.bl (!decide (i = j))) := by
  rw [pNe_dok 0 0 S (dok_int 0 i) (dok_int 0 j) (by decide) (by decide), encD_int, encD_int, eqv_ii]
@[simp] theorem pEq_bb (i j : Bool) (S : Store) : pEq (.bl i) (.bl j) S = some (.bl (decide (i = j))) := by
  rw [pEq_dok 0 0 S (dok_bl 0 i) (dok_bl 0 j) (by decide) (by decide), encD_bl, encD_bl, eqv_bb]
@[simp] theorem pNe_bb (i j : Bool) (S : Store) : pNe (.bl i) (.bl j) S = some (.bl (!decide (i = j))) := by
  rw [pNe_dok 0 0 S (dok_bl 0 i) (dok_bl 0 j) (by decide) (by decide), encD_bl, encD_bl, eqv_bb]
theorem pEq_ss {x y : Str} (hx : PyData.strOk x = true) (hy : PyData.strOk y = true) (S : Store) : pEq (.str x) (.str y) S = some (.bl (decide (x = y))) := by
  rw [pEq_dok 0 0 S (by simpa using hx) (by simpa using hy) (by decide) (by decide), encD_str, encD_str, eqv_ss]
theorem pNe_ss {x y : Str} (hx : PyData.strOk x = true) (hy : PyData.strOk y = true) (S : Store) : pNe (.str x) (.str y) S = some (.bl (!decide (x = y))) := by
  rw [pNe_dok 0 0 S (by simpa using hx) (by simpa using hy) (by decide) (by decide), encD_str, encD_str, eqv_ss]
/-- a list against the empty one -/
theorem pEq_nil {xs : List D} (n : Nat) (h : doks n xs = true) (hn : n < 64) (S : Store) : pEq (.lst xs) (.lst []) S = some (.bl xs.isEmpty) := by
  rw [pEq_dok (n + 1) 1 S (by simpa using h) (by simp) hn (by decide), encD_lst h, encD_lst (n := 0) (by simp)]
  cases xs <;> simp [PyData.eqv, PyData.eqvAll]
theorem pNe_nil {xs : List D} (n : Nat) (h : doks n xs = true) (hn : n < 64) (S : Store) : pNe (.lst xs) (.lst []) S = some (.bl (!xs.isEmpty)) := by
  rw [pNe_dok (n + 1) 1 S (by simpa using h) (by simp) hn (by decide), encD_lst h, encD_lst (n := 0) (by simp)]
  cases xs <;> simp [PyData.eqv, PyData.eqvAll]
mutual
/-- data without truth values -/
def noB : PyData → Bool
  | .bool _ => false
  | .list xs => noBs xs
  | .tuple xs => noBs xs
  | .dict _ => false
  | _ => true
def noBs : List PyData → Bool
  | [] => true
  | d :: ds => noB d && noBs ds
end
mutual
theorem eqv_iff : ∀ {p q : PyData}, noB p = true → noB q = true → (PyData.eqv p q = true ↔ p = q)
  | .none, q, _, hq => by cases q <;> simp [PyData.eqv]
  | .bool _, _, h, _ => nomatch h
  | .dict _, _, h, _ => nomatch h
  | .int i, q, _, hq => by
    cases q with
    | bool b => exact nomatch hq
    | int j => simp
    | _ => simp [PyData.eqv]
  | .str i, q, _, hq => by
    cases q with
    | bool b => exact nomatch hq
    | str j => simp
    | _ => simp [PyData.eqv]
  | .list xs, q, hp, hq => by
    cases q with
    | list ys => simpa [PyData.eqv] using eqvAll_iff (ps := xs) (qs := ys) hp hq
    | _ => simp [PyData.eqv]
  | .tuple xs, q, hp, hq => by
    cases q with
    | tuple ys => simpa [PyData.eqv] using eqvAll_iff (ps := xs) (qs := ys) hp hq
    | _ => simp [PyData.eqv]
theorem eqvAll_iff : ∀ {ps qs : List PyData}, noBs ps = true → noBs qs = true → (PyData.eqvAll ps qs = true ↔ ps = qs)
  | [], [], _, _ => by simp [PyData.eqvAll]
  | [], _ :: _, _, _ => by simp [PyData.eqvAll]
  | _ :: _, [], _, _ => by simp [PyData.eqvAll]
  | p :: ps, q :: qs, hp, hq => by
    unfold noBs at hp hq
    rw [Bool.and_eq_true] at hp hq
    simp [PyData.eqvAll, eqv_iff hp.1 hq.1, eqvAll_iff hp.2 hq.2]
end
mutual
theorem eqv_refl : ∀ {p : PyData}, p.canLay0 = true → PyData.eqv p p = true
  | .none, _ => by simp [PyData.eqv]
  | .bool _, _ => by simp [PyData.eqv]
  | .dict _, h => nomatch h
  | .int i, _ => by simp
  | .str x, _ => by simp
  | .list xs, h => by rw [PyData.eqv]; exact eqvAll_refl (ps := xs) h
  | .tuple xs, h => by rw [PyData.eqv]; exact eqvAll_refl (ps := xs) h
theorem eqvAll_refl : ∀ {ps : List PyData}, PyData.canLayAll0 ps = true → PyData.eqvAll ps ps = true
  | [], _ => by simp [PyData.eqvAll]
  | p :: ps, h => by
    rw [PyData.canLayAll0, Bool.and_eq_true] at h
    rw [PyData.eqvAll, eqv_refl h.1, eqvAll_refl h.2]
    rfl
end
theorem cMap {α : Type} {en : α → D} {f : α → D} {g : Tgt} {t : L → Store → R Bool} {e : L → Store → R D} {l : L} {S : Store} {xs : List α} (h : ∀ x ∈ xs, cStep g t e l (en x) S = some (some (f x), S)) (hn : xs.length ≤ 16777216) :
    cGo g t e [] l (xs.map en) 0 S = some (xs.map f, S) := cGo_map h (by rw [sizeLine_eq]; omega) trivial
theorem cFil {α : Type} {en : α → D} {f : α → D} {p : α → Bool} {g : Tgt} {t : L → Store → R Bool} {e : L → Store → R D} {l : L} {S : Store} {xs : List α} (h : ∀ x ∈ xs, cStep g t e l (en x) S = some (if p x = true then some (f x) else none, S)) (hn : xs.length ≤ 16777216) :
    cGo g t e [] l (xs.map en) 0 S = some ((xs.filter p).map f, S) := cGo_filter h (by rw [sizeLine_eq]; omega) trivial
def illD : Option Int → D
  | none => .non
  | some i => .int i
/-- d in a list -/
theorem pIn_lst {d : D} {xs : List D} {S : Store} (n m : Nat) (hd : dok n d = true) (hx : doks m xs = true) (hn : n ≤ 64) (hm : m < 64) : pIn d (.lst xs) S = some (.bl (inP (encD d) (xs.map encD))) := by
  have e2 : toPyS (.lst xs) S = some (.list (xs.map encD)) := by
    rw [toPyS_dok (n := m + 1) (by simpa using hx), encD_lst hx]
  have s2 : SeqAt.shaped (.list (xs.map encD)) = true := by
    rw [← encD_lst hx]
    exact shaped_dok (n := m + 1) (by simpa using hx) (by omega)
  have e1 : nt (.lst xs) = .lst xs := rfl
  unfold pIn
  rw [e1]
  have go : (match toPyS d S, toPyS (.lst xs) S with
    | some p, some (.list ps) => if SeqAt.shaped p = true ∧ SeqAt.shaped (.list ps) = true then some (D.bl (inP p ps)) else none
    | _, _ => none) = some (.bl (inP (encD d) (xs.map encD))) := by
    rw [toPyS_dok hd, e2]
    exact if_pos ⟨shaped_dok hd hn, s2⟩
  cases d <;> exact go
theorem pIn_locL {d : D} {xs : List D} {S : Store} {k : Nat} (n m : Nat) (hk : S[k]? = some (.lst xs)) (hd : dok n d = true) (hx : doks m xs = true) (hn : n ≤ 64) (hm : m < 64) : pIn d (.loc k) S = some (.bl (inP (encD d) (xs.map encD))) := by
  have e2 : toPyS (.loc k) S = some (.list (xs.map encD)) := by
    unfold toPyS
    dsimp only
    rw [hk]
    dsimp only
    rw [(doks_py hx).1]
    rfl
  have s2 : SeqAt.shaped (.list (xs.map encD)) = true := by
    rw [← encD_lst hx]
    exact shaped_dok (n := m + 1) (by simpa using hx) (by omega)
  have e1 : nt (.loc k) = .loc k := rfl
  unfold pIn
  rw [e1]
  have go : (match toPyS d S, toPyS (.loc k) S with
    | some p, some (.list ps) => if SeqAt.shaped p = true ∧ SeqAt.shaped (.list ps) = true then some (D.bl (inP p ps)) else none
    | _, _ => none) = some (.bl (inP (encD d) (xs.map encD))) := by
    rw [toPyS_dok hd, e2]
    exact if_pos ⟨shaped_dok hd hn, s2⟩
  cases d <;> exact go
theorem inP_strs (w : Str) (xs : List Str) : inP (.str w) ((xs.map D.str).map encD) = decide (w ∈ xs) := by
  unfold inP
  rw [Bool.eq_iff_iff]
  simp [List.any_map]
theorem inP_ints (w : Int) (xs : List Int) : inP (.int w) ((xs.map D.int).map encD) = decide (w ∈ xs) := by
  unfold inP
  rw [Bool.eq_iff_iff]
  simp [List.any_map]
/-- no truth values about: in is membership -/
theorem inP_mem {p : PyData} {ps : List PyData} (hp : noB p = true) (h : ∀ q ∈ ps, noB q = true) : inP p ps = true ↔ p ∈ ps := by
  unfold inP
  rw [List.any_eq_true]
  constructor
  · rintro ⟨q, hq, e⟩
    rw [eqv_iff (h q hq) hp] at e
    exact e ▸ hq
  · intro hq
    exact ⟨p, hq, by rw [eqv_iff hp hp]⟩
theorem doks_int (n : Nat) (xs : List Int) : doks n (xs.map .int) = true := doks_map fun _ _ => dok_int _ _
theorem pNotIn_of {d e : D} {S : Store} {b : Bool} (h : pIn d e S = some (.bl b)) : pNotIn d e S = some (.bl (!b)) := by
  unfold pNotIn
  rw [h]
end HL
end
section
set_option Elab.async false
set_option linter.all false
set_option maxRecDepth 100000
set_option maxHeartbeats 1000000
namespace HL
open PySem PySem.Spec L2
theorem strOk_append (x y : Str) : PyData.strOk (x ++ y) = (PyData.strOk x && PyData.strOk y) := by
  unfold PyData.strOk
  show (x.cps ++ y.cps).all _ = _
  rw [Array.all_append]
theorem strOk_of {s : String} : PyData.strOk (Str.ofString s) = true := by
  rw [PySem.Str.ofString_eq_toList]
  unfold PyData.strOk
  simp
  intro c hc
  have := c.valid
  unfold Char.toNat
  rcases this with h | h
  · have : c.val.toNat < 0xD800 := h
    omega
  · have : c.val.toNat < 0x110000 := h.2
    exact this
theorem strOk_join (sep : Str) (hs : PyData.strOk sep = true) : ∀ xs : List Str, (∀ x ∈ xs, PyData.strOk x = true) → PyData.strOk (Str.join sep xs) = true
  | [], _ => by rw [Str.join]; decide +kernel
  | [x], h => by rw [Str.join]; exact h x (.head _)
  | x :: y :: r, h => by
    rw [Str.join, strOk_append, strOk_append, h x (.head _), hs, strOk_join sep hs (y :: r) fun z hz => h z (.tail _ hz)]
    rfl
    exact fun h => nomatch h
theorem strOk_textFrom : ∀ (xs : List Str) (k : Nat) (acc : Str), PyData.strOk acc = true → (∀ x ∈ xs, PyData.strOk x = true) → PyData.strOk (textFrom k acc xs) = true
  | [], k, acc, ha, _ => ha
  | x :: xs, k, acc, ha, h => by
    rw [textFrom]
    refine strOk_textFrom xs _ _ ?_ fun z hz => h z (.tail _ hz)
    rw [strOk_append, strOk_append, ha, h x (.head _), strOk_of]
    rfl
theorem strOk_listText (xs : List Str) (h : ∀ x ∈ xs, PyData.strOk x = true) : PyData.strOk (listText xs) = true := by
  unfold listText
  rw [strOk_append, strOk_textFrom xs 0 _ strOk_of h, strOk_of]
  rfl
theorem strOk_tupleText (xs : List Str) (h : ∀ x ∈ xs, PyData.strOk x = true) : PyData.strOk (tupleText xs) = true := by
  unfold tupleText
  rw [strOk_append, strOk_append, strOk_of, strOk_join _ strOk_of xs h, strOk_of]
  rfl
theorem char_small (c : Char) : c.toNat < 0x110000 := by
  have := c.valid
  unfold Char.toNat
  rcases this with h | h
  · have : c.val.toNat < 0xD800 := h
    omega
  · exact h.2
theorem reprChar_ok (q c : Nat) (hc : c < 0x110000) : ∀ z ∈ Builtin.Str.reprChar q c, z < 0x110000 := by
  have hex : ∀ k : Nat, ∀ z ∈ (let d := (Nat.toDigits 16 c).map Char.toNat; List.replicate (k - d.length) 48 ++ d), z < 0x110000 := fun k z hz => by
    rcases List.mem_append.mp hz with h | h
    · have := List.eq_of_mem_replicate h
      omega
    · obtain ⟨d, _, rfl⟩ := List.mem_map.mp h
      exact char_small d
  unfold Builtin.Str.reprChar
  intro z hz
  dsimp only at hz
  split at hz
  · simp at hz; omega
  split at hz
  · simp at hz; omega
  split at hz
  · simp at hz; omega
  split at hz
  · simp at hz; omega
  split at hz
  · simp at hz; omega
  split at hz
  · rcases List.mem_append.mp hz with h | h
    · simp at h; omega
    · exact hex 2 z h
  split at hz
  · rcases List.mem_append.mp hz with h | h
    · simp at h; omega
    · exact hex 4 z h
  · rcases List.mem_append.mp hz with h | h
    · simp at h; omega
    · exact hex 8 z h
theorem fold_repr_ok (q : Nat) : ∀ (l : List Nat) (acc : Array Nat), (∀ c ∈ l, c < 0x110000) → (∀ c ∈ acc.toList, c < 0x110000) → ∀ c ∈ (l.foldl (fun out c => out ++ (Builtin.Str.reprChar q c).toArray) acc).toList, c < 0x110000
  | [], acc, _, ha => ha
  | c :: l, acc, hl, ha => by
    rw [List.foldl_cons]
    refine fold_repr_ok q l _ (fun z hz => hl z (.tail _ hz)) fun z hz => ?_
    rw [Array.toList_append] at hz
    rcases List.mem_append.mp hz with h | h
    · exact ha z h
    · exact reprChar_ok q c (hl c (.head _)) z h
theorem strOk_iff (x : Str) : PyData.strOk x = true ↔ ∀ c ∈ x.cps.toList, c < 0x110000 := by
  unfold PyData.strOk
  rw [Array.all_eq_true']
  simp
theorem strOk_reprText (x : Str) (h : PyData.strOk x = true) : PyData.strOk (reprText x) = true := by
  rw [strOk_iff] at h ⊢
  unfold reprText
  have hq : reprQuote x < 0x110000 := by
    unfold reprQuote
    split <;> omega
  intro c hc
  rw [Array.toList_push] at hc
  rcases List.mem_append.mp hc with h1 | h1
  · rw [← Array.foldl_toList] at h1
    refine fold_repr_ok _ x.cps.toList _ h ?_ c h1
    intro z hz
    simp at hz
    omega
  · simp at h1
    omega
mutual
theorem strOk_shown : ∀ {p : PyData}, p.canLay0 = true → PyData.strOk p.shown = true
  | .none, _ => by rw [PyData.shown]; exact strOk_of
  | .bool b, _ => by rw [PyData.shown]; cases b <;> exact strOk_of
  | .int i, _ => by rw [PyData.shown]; exact strOk_of
  | .str x, h => by rw [PyData.shown]; exact strOk_reprText x h
  | .list xs, h => by rw [PyData.shown]; exact strOk_listText _ (strOk_shownAll (ps := xs) h)
  | .tuple xs, h => by rw [PyData.shown]; exact strOk_tupleText _ (strOk_shownAll (ps := xs) h)
  | .dict _, h => nomatch h
theorem strOk_shownAll : ∀ {ps : List PyData}, PyData.canLayAll0 ps = true → ∀ x ∈ PyData.shownAll ps, PyData.strOk x = true
  | [], _, x, hx => by rw [PyData.shownAll] at hx; cases hx
  | p :: ps, h, x, hx => by
    rw [PyData.canLayAll0, Bool.and_eq_true] at h
    rw [PyData.shownAll] at hx
    rcases List.mem_cons.mp hx with rfl | hx
    · exact strOk_shown h.1
    · exact strOk_shownAll h.2 x hx
end
mutual
/-- at most so many signs -/
def shw : PyData → Nat
  | .none => 4
  | .bool _ => 5
  | .int _ => 1921
  | .str x => 10 * x.length + 2
  | .list xs => shwAll xs + 2
  | .tuple xs => shwAll xs + 3
  | .dict _ => 0
def shwAll : List PyData → Nat
  | [] => 0
  | x :: xs => shw x + 2 + shwAll xs
end
theorem len_app (x y : Str) : (x ++ y).length = x.length + y.length := by
  show (x.cps ++ y.cps).size = _
  rw [Array.size_append]
  rfl
theorem textFrom_le : ∀ (ts : List Str) (k : Nat) (acc : Str), (textFrom k acc ts).length ≤ acc.length + (ts.map fun t => t.length + 2).sum
  | [], k, acc => by rw [textFrom]; simp
  | t :: ts, k, acc => by
    rw [textFrom]
    refine Nat.le_trans (textFrom_le ts _ _) ?_
    rw [len_app, len_app, List.map_cons, List.sum_cons]
    have : (Str.ofString (if k > 0 then ", " else "")).length ≤ 2 := by split <;> decide +kernel
    omega
theorem join_le (sep : Str) (hs : sep.length ≤ 2) : ∀ ts : List Str, (Str.join sep ts).length ≤ (ts.map fun t => t.length + 2).sum
  | [] => by rw [Str.join]; decide +kernel
  | [x] => by rw [Str.join]; simp
  | x :: y :: r => by
    have := join_le sep hs (y :: r)
    rw [Str.join, len_app, len_app, List.map_cons, List.sum_cons]
    omega
    exact fun h => nomatch h
mutual
theorem shown_len : ∀ {p : PyData}, p.canLay0 = true → p.showable = true → p.shown.length ≤ shw p
  | .none, _, _ => by rw [PyData.shown, shw]; decide +kernel
  | .bool b, _, _ => by rw [PyData.shown, shw]; cases b <;> decide +kernel
  | .int i, _, h => by
    rw [PyData.shown, shw]
    rw [PyData.showable, decide_eq_true_iff] at h
    exact PyProof.Rows.int_text_len_1921 h
  | .str x, h, _ => by
    rw [PyData.shown, shw]
    have h' : ∀ c ∈ x.cps.toList, c < 0x110000 := (strOk_iff x).mp h
    exact StrLaws.reprText_len x fun c hc => by have := h' c hc; omega
  | .list xs, h, h2 => by
    rw [PyData.shown, shw]
    unfold listText
    rw [len_app]
    have := shown_lenAll (ps := xs) h h2
    have := textFrom_le (PyData.shownAll xs) 0 "["
    have e : (Str.ofString "[").length = 1 := by decide +kernel
    have e2 : (Str.ofString "]").length = 1 := by decide +kernel
    omega
  | .tuple xs, h, h2 => by
    rw [PyData.shown, shw]
    unfold tupleText
    rw [len_app, len_app]
    have := shown_lenAll (ps := xs) h h2
    have := join_le ", " (by decide +kernel) (PyData.shownAll xs)
    have e : (Str.ofString "(").length = 1 := by decide +kernel
    have e2 : (Str.ofString (if (PyData.shownAll xs).length == 1 then ",)" else ")")).length ≤ 2 := by split <;> decide +kernel
    omega
  | .dict _, h, _ => nomatch h
theorem shown_lenAll : ∀ {ps : List PyData}, PyData.canLayAll0 ps = true → PyData.showableAll ps = true → ((PyData.shownAll ps).map fun t => t.length + 2).sum ≤ shwAll ps
  | [], _, _ => by rw [PyData.shownAll]; exact Nat.zero_le _
  | p :: ps, h, h2 => by
    rw [PyData.canLayAll0, Bool.and_eq_true] at h
    rw [PyData.showableAll, Bool.and_eq_true] at h2
    rw [PyData.shownAll, shwAll, List.map_cons, List.sum_cons]
    have := shown_len h.1 h2.1
    have := shown_lenAll h.2 h2.2
    omega
end
mutual
theorem noDict : ∀ {p : PyData}, p.canLay0 = true → p.hasDict = false
  | .none, _ => by rw [PyData.hasDict]
  | .bool b, _ => by rw [PyData.hasDict]
  | .int i, _ => by rw [PyData.hasDict]
  | .str x, _ => by rw [PyData.hasDict]
  | .list xs, h => by rw [PyData.hasDict]; exact noDictAll (ps := xs) h
  | .tuple xs, h => by rw [PyData.hasDict]; exact noDictAll (ps := xs) h
  | .dict _, h => nomatch h
theorem noDictAll : ∀ {ps : List PyData}, PyData.canLayAll0 ps = true → PyData.hasDictAll ps = false
  | [], _ => by rw [PyData.hasDictAll]
  | p :: ps, h => by
    rw [PyData.canLayAll0, Bool.and_eq_true] at h
    rw [PyData.hasDictAll, noDict h.1, noDictAll h.2]
    rfl
end
/-- repr(d) -/
theorem pRepr_dok {d : D} (n : Nat) (hd : dok n d = true) (hn : n ≤ 60) (hs : (encD d).showable = true) (hl : shw (encD d) ≤ 16777216) (S : Store) : pRepr [d] S = some (.str (encD d).shown) := by
  obtain ⟨a, b, c⟩ := dok_py hd
  unfold pRepr
  dsimp only
  rw [toPyS_dok hd]
  show (if _ then _ else _) = _
  rw [if_pos ⟨hs, by rw [sizeLine_eq]; exact Nat.le_trans (shown_len b hs) hl, by omega, noDict b⟩]
theorem strOk_repr {d : D} (n : Nat) (hd : dok n d = true) : PyData.strOk (encD d).shown = true := strOk_shown (dok_py hd).2.1
theorem show_int {i : Int} (h : -(10 : Int) ^ 100 < i) (h2 : i < 10 ^ 100) : (PyData.int i).showable = true := by
  rw [PyData.showable, decide_eq_true_iff]
  have e : (10 : Int) ^ 100 = 10000000000000000000000000000000000000000000000000000000000000000000000000000000000000000000000000000 := by decide +kernel
  have h3 : i.natAbs < 2 ^ 1920 := by
    have e2 : (10000000000000000000000000000000000000000000000000000000000000000000000000000000000000000000000000000 : Nat) ≤ 2 ^ 1920 := by decide +kernel
    generalize 2 ^ 1920 = q at e2 ⊢
    omega
  by_cases h0 : i.natAbs = 0
  · rw [h0]
    simp
  · exact (Nat.log2_lt h0).mpr h3
end HL
end
section
set_option Elab.async false
set_option linter.all false
set_option maxRecDepth 100000
set_option maxHeartbeats 1000000
namespace HL
open PySem PySem.Spec L2
@[simp] theorem eTupN_ap (g : L → Store → R (List D)) l S : eTupN g l S = (g l S).bnd fun ds S1 => if ds.length ≤ sizeLine then .ok (.tpn ds) S1 else .bad := id rfl
@[simp] theorem eCallK0_ap (n b : Nat) (ix : List Nat) (g : List D → Store → R D) (fk : L → Store → R (List D)) l S : eCallK0 n b ix g fk l S = (fk l S).bnd fun es S2 => if es.length = b ∧ (gIx ix es).length = n then g (gIx ix es) S2 else .bad := id rfl
@[simp] theorem mRev_ap (f : L → Store → R D) l S : mRev f l S = (f l S).bnd fun d S1 => ofO ((seqL d S1).map fun xs => D.lst xs.reverse) S1 := id rfl
@[simp] theorem eListN_ap (f : L → Store → R D) l S : eListN f l S = ((f l S).bnd fun d S1 => match seqD d S1 with
  | some ys => .ok (.loc S1.length) (S1 ++ [.lst ys])
  | none => .bad) := id rfl
theorem pMinL_ints {d : D} {S : Store} {ns : List Int} (h : seqL d S = some (ns.map .int)) (hn : 0 < ns.length) : pMinL [d] S = some (.int (minI ns)) := by
  unfold pMinL
  dsimp only
  rw [h]
  show ((intsD _).bind _) = _
  rw [intsD_map']
  exact if_pos hn
theorem pMaxL_ints {d : D} {S : Store} {ns : List Int} (h : seqL d S = some (ns.map .int)) (hn : 0 < ns.length) : pMaxL [d] S = some (.int (maxI ns)) := by
  unfold pMaxL
  dsimp only
  rw [h]
  show ((intsD _).bind _) = _
  rw [intsD_map']
  exact if_pos hn
@[simp] theorem gIx_nil {α : Type} (us : List α) : gIx [] us = [] := id rfl
@[simp] theorem gIx_cons {α : Type} (i : Nat) (ix : List Nat) (us : List α) : gIx (i :: ix) us = (match us[i]? with
  | some u => u :: gIx ix us
  | none => gIx ix us) := by
  unfold gIx
  rw [List.filterMap_cons]
  cases us[i]? <;> rfl
end HL
end
section
set_option Elab.async false
set_option linter.all false
set_option maxRecDepth 100000
set_option maxHeartbeats 1000000
namespace HL
open PySem PySem.Spec L2
@[simp] theorem mRevT_ap (f : L → Store → R D) l S : mRevT f l S = ((f l S).bnd fun d S1 => match nt d with
  | .tup xs => .ok (.tpn xs.reverse) S1
  | _ => .bad) := id rfl
@[simp] theorem pMulI_ok {i j : Int} (h : CMul i j) (S : Store) : pMulI (.int i) (.int j) S = some (.int (i * j)) := by
  unfold pMulI
  exact if_pos h
theorem log_small {j : Int} (h : 0 < j) (h1 : j ≤ 10000000000000000000000000000000000000000) : j.natAbs.log2 < 9000 := by
  have h2 : j.natAbs < 2 ^ 200 := by
    have e2 : (10000000000000000000000000000000000000000 : Nat) < 2 ^ 200 := by decide +kernel
    generalize 2 ^ 200 = q at e2 ⊢
    omega
  have := (Nat.log2_lt (n := j.natAbs) (k := 200) (by omega)).mpr h2
  omega
theorem pDivmodW_ok {i j : Int} (h : 0 < j) (h1 : j ≤ 10000000000000000000000000000000000000000) (S : Store) : pDivmodW [.int i, .int j] S = some (.tup [.int (i / j), .int (i % j)]) := by
  unfold pDivmodW
  dsimp only
  rw [if_pos ⟨h, log_small h h1⟩]
/-- a block that freezes -/
theorem bFz_ok {f g : L → Store → Fl} {l l1 l2 : L} {S S1 : Store} (h : f l S = .nx l1 S1) (hp : Pres S S1) (hz : fzL S.length S1 l1 = some l2) : bFz f g l S = g l2 (S1.take S.length) := by
  unfold bFz
  rw [h]
  dsimp only
  rw [if_pos hp, hz]
@[simp] theorem fzL_nil (n0 : Nat) (S : Store) : fzL n0 S [] = some [] := id rfl
@[simp] theorem fzL_none (n0 : Nat) (S : Store) (l : L) : fzL n0 S (none :: l) = (fzL n0 S l).map (none :: ·) := id rfl
@[simp] theorem fzL_some (n0 : Nat) (S : Store) (d : D) (l : L) : fzL n0 S (some d :: l) = (frzS n0 S d).bind fun d' => (fzL n0 S l).map (some d' :: ·) := id rfl
theorem frzS_old {n0 n : Nat} {S : Store} (h : n < n0) : frzS n0 S (.loc n) = some (.loc n) := if_pos h
theorem frzS_new {n0 n : Nat} {S : Store} (h : n0 ≤ n) : frzS n0 S (.loc n) = frz n0 S 9 (.loc n) := if_neg (by omega)
theorem frzS_flat {n0 : Nat} {S : Store} {d : D} (h : noLoc d = true) : frzS n0 S d = some d := by
  unfold frzS
  split
  · exact nomatch h
  · exact frz_flat h
@[simp] theorem pNe_ee (S : Store) : pNe (.lst []) (.lst []) S = some (.bl false) := pNe_nil (xs := []) 0 rfl (by decide) S
@[simp] theorem pEq_ee (S : Store) : pEq (.lst []) (.lst []) S = some (.bl true) := pEq_nil (xs := []) 0 rfl (by decide) S
theorem doks_ints (n : Nat) (xs : List Int) : doks n (xs.map .int) = true := doks_int n xs
theorem pNe_ie (x : Int) (xs : List Int) (S : Store) : pNe (.lst (.int x :: xs.map .int)) (.lst []) S = some (.bl true) := pNe_nil (xs := (x :: xs).map .int) 0 (doks_int 0 _) (by decide) S
theorem pEq_ie (x : Int) (xs : List Int) (S : Store) : pEq (.lst (.int x :: xs.map .int)) (.lst []) S = some (.bl false) := pEq_nil (xs := (x :: xs).map .int) 0 (doks_int 0 _) (by decide) S
end HL
end
section
set_option Elab.async false
set_option linter.all false
set_option maxRecDepth 100000
set_option maxHeartbeats 1000000
namespace HL
open PySem PySem.Spec L2
@[simp] theorem sRaise_ap (C f : Str) (fe : L → Store → R D) l S : sRaise C f fe l S = (fe l S).tos l fun d S1 => .exc ⟨C, [f], [d]⟩ l S1 := id rfl
def tryF (hs : List Hn) (r : Fl) : Fl := match r with
  | .exc e l1 S1 => hRun hs e l1 S1
  | r => r
@[simp] theorem sTry_ap (f : L → Store → Fl) (hs : List Hn) l S : sTry f hs l S = tryF hs (f l S) := id rfl
@[simp] theorem tryF_nx (hs : List Hn) l S : tryF hs (.nx l S) = .nx l S := id rfl
@[simp] theorem tryF_rt (hs : List Hn) d S : tryF hs (.rt d S) = .rt d S := id rfl
@[simp] theorem tryF_exc (hs : List Hn) e l S : tryF hs (.exc e l S) = hRun hs e l S := id rfl
@[simp] theorem tryF_bad (hs : List Hn) : tryF hs .bad = .bad := id rfl
@[simp] theorem hRun_nil (e : Exc) l S : hRun [] e l S = .exc e l S := id rfl
theorem hRun_yes {h : Hn} {r : List Hn} {e : Exc} {l : L} {S : Store} {i : Nat} (hi : h.at_ = some i) (hy : h.yes.contains e.cls = true) : hRun (h :: r) e l S = (h.f (l.set i (some (.err e.cls e.ks e.vs))) S).out (some i) := by
  rw [hRun, if_pos hy, hi]
theorem hRun_yes0 {h : Hn} {r : List Hn} {e : Exc} {l : L} {S : Store} (hi : h.at_ = none) (hy : h.yes.contains e.cls = true) : hRun (h :: r) e l S = (h.f l S).out none := by
  rw [hRun, if_pos hy, hi]
theorem hRun_no {h : Hn} {r : List Hn} {e : Exc} {l : L} {S : Store} (hy : h.yes.contains e.cls = false) (hn : h.no.contains e.cls = true) : hRun (h :: r) e l S = hRun r e l S := by
  rw [hRun, if_neg (by rw [hy]; exact Bool.false_ne_true), if_pos hn]
@[simp] theorem out_rt (d : D) (S : Store) (oi : Option Nat) : (Fl.rt d S).out oi = .rt d S := id rfl
@[simp] theorem out_nx (l : L) (S : Store) (i : Nat) : (Fl.nx l S).out (some i) = .nx (l.set i none) S := id rfl
@[simp] theorem out_nx0 (l : L) (S : Store) : (Fl.nx l S).out none = .nx l S := id rfl
@[simp] theorem pErr_ap (cs : List Str) (f C : Str) (ks : List Str) (vs : List D) (S : Store) : pErr cs f (.err C ks vs) S = if cs.contains C = true then (ks.zip vs).lookup f else none := id rfl
theorem pErr_one {cs : List Str} {f C : Str} (d : D) (S : Store) (h : cs.contains C = true) : pErr cs f (.err C [f] [d]) S = some d := by
  rw [pErr_ap, if_pos h]
  simp [List.lookup]
end HL
end
section
set_option Elab.async false
set_option linter.all false
set_option maxRecDepth 100000
set_option maxHeartbeats 4000000
namespace HL
open PySem PySem.Spec L2
noncomputable def bf__law_sip : L → Store → Fl := bSeq (sAsg (mBin pAdd (mBin pIx (eLoc 0) (eCon (.int 2))) (eCon (.int 1))) (hIx (eLoc 0) (eCon (.int 2)))) (bSeq (sIf (asB (mBin pGt (mBin pIx (eLoc 0) (eCon (.int 0))) (eCon (.int 0)))) (bSeq (sAsg (mCall pDivmodW (aCons (mBin pIx (eLoc 0) (eCon (.int 0))) (aCons (eLoc 1) (aNil)))) (hT 2 (hsCons (hIx (eLoc 0) (eCon (.int 0))) (hsCons (hNm 2) (hsNil))))) (sRet (eLoc 2))) (bNil)) (bSeq (sAsg (mBin pMod (mCall pInt (aCons (mBin pAdd (mBin pMul (mBin pIx (eLoc 0) (eCon (.int 1))) (eCon (.int 48271))) (mBin pMul (eCon (.int 6089)) (mBin pIx (eLoc 0) (eCon (.int 2))))) (aNil))) (eCon (.int 2147483477))) (hIx (eLoc 0) (eCon (.int 1)))) (sRet (mBin pMod (mCall pInt (aCons (mBin pDiv (mBin pIx (eLoc 0) (eCon (.int 1))) (eCon (.int 1024))) (aNil))) (eLoc 1)))))
noncomputable def F__law_sip : List D → Store → R D := run false 3 bf__law_sip
noncomputable def bf__law_words : L → Store → Fl := bSeq (sAsg (eTup (aCons (eCalln 2 F__law_sip (aCons (eLoc 0) (aCons (eCon (.int 11)) (aNil)))) (aCons (mBin pAdd (eCon (.int 1)) (eCalln 2 F__law_sip (aCons (eLoc 0) (aCons (eCon (.int 10)) (aNil))))) (aNil)))) (hT 2 (hsCons (hNm 2) (hsCons (hNm 3) (hsNil))))) (bSeq (sSet 4 (eLst (aCons (eCon (.str "math")) (aCons (eCon (.str "art")) (aCons (eCon (.str "hour")) (aCons (eCon (.str "kind")) (aCons (eCon (.str "most")) (aCons (eCon (.str "ill")) (aCons (eCon (.str "all")) (aCons (eCon (.str "safe")) (aCons (eCon (.str "late")) (aCons (eCon (.str "x")) (aCons (eCon (.str "longname")) (aNil)))))))))))))) (sRet (eLc (iRg1 (aCons (eLoc 1) (aNil))) (gN 5) (tYesF) (mBin pIx (eLoc 4) (mBin pMod (mCall pInt (aCons (mBin pAdd (eLoc 2) (mBin pMul (eLoc 3) (eLoc 5))) (aNil))) (eCon (.int 11)))) [5])))
noncomputable def F__law_words : List D → Store → R D := run false 6 bf__law_words
noncomputable def bf__law_amount : L → Store → Fl := bSeq (sIf (mAnd (mNot (asB (eLoc 1))) (asB (mBin pEq (eCalln 2 F__law_sip (aCons (eLoc 0) (aCons (eCon (.int 4)) (aNil)))) (eCon (.int 0))))) (sRet (mBin pSub (mBin pIx (eLst (aCons (mBin pPow (eCon (.int 10)) (eCon (.int 30))) (aCons (mBin pAdd (mBin pPow (eCon (.int 10)) (eCon (.int 29))) (eCon (.int 7))) (aCons (mBin pPow (eCon (.int 10)) (eCon (.int 15))) (aCons (eCon (.int 999999)) (aCons (eCon (.int 1000)) (aNil))))))) (eCalln 2 F__law_sip (aCons (eLoc 0) (aCons (eCon (.int 5)) (aNil))))) (eCalln 2 F__law_sip (aCons (eLoc 0) (aCons (eCon (.int 3)) (aNil)))))) (bNil)) (sRet (eCalln 2 F__law_sip (aCons (eLoc 0) (aCons (eCon (.int 4)) (aNil)))))
noncomputable def F__law_amount : List D → Store → R D := run false 2 bf__law_amount
noncomputable def bf__law_sketch : L → Store → Fl := bSeq (sAsg (eTup (aCons (mBin pAdd (eCon (.int 1)) (eCalln 2 F__law_sip (aCons (eLoc 0) (aCons (eCon (.int 3)) (aNil))))) (aCons (mBin pAdd (eCon (.int 1)) (eCalln 2 F__law_sip (aCons (eLoc 0) (aCons (eCon (.int 2)) (aNil))))) (aNil)))) (hT 2 (hsCons (hNm 2) (hsCons (hNm 3) (hsNil))))) (bSeq (sPar 4 5 (aCons (eCalln 2 F__law_words (aCons (eLoc 0) (aCons (eLoc 2) (aNil)))) (aCons (eCalln 2 F__law_words (aCons (eLoc 0) (aCons (eCon (.int 4)) (aNil)))) (aNil)))) (bSeq (sSet 6 (eLc (iRg1 (aCons (eLoc 3) (aNil))) (gN 12) (tYesF) (eLc (iRg1 (aCons (eLoc 2) (aNil))) (gN 13) (tYesF) (eCalln 2 F__law_amount (aCons (eLoc 0) (aCons (eLoc 1) (aNil)))) [13]) [12])) (bSeq (sSet 7 (eNew (aNil))) (bSeq (sFor (iVal (mSl (eLoc 5) (oNone) (oSome (mBin pAdd (eCon (.int 1)) (eCalln 2 F__law_sip (aCons (eLoc 0) (aCons (mIf (asB (eLoc 1)) (eCon (.int 3)) (eCon (.int 4))) (aNil)))))))) (gN 8) (bSeq (sSet 9 (eLc (iVal (eLoc 4)) (gN 14) (asB (mBin pGt (eCalln 2 F__law_sip (aCons (eLoc 0) (aCons (eCon (.int 3)) (aNil)))) (eCon (.int 0)))) (eLoc 14) [14])) (bSeq (sSet 10 (mIf (asB (mBin pEq (eCalln 2 F__law_sip (aCons (eLoc 0) (aCons (eCon (.int 2)) (aNil)))) (eCon (.int 0)))) (eCon .non) (eCalln 2 F__law_amount (aCons (eLoc 0) (aCons (eLoc 1) (aNil)))))) (bSeq (sSet 11 (mBin pAdd (eCalln 2 F__law_amount (aCons (eLoc 0) (aCons (eLoc 1) (aNil)))) (eCalln 2 F__law_sip (aCons (eLoc 0) (aCons (eCon (.int 3)) (aNil)))))) (sDrop (mMeth "list" qAppend (eLoc 7) (aCons (eLst (aCons (eLoc 8) (aCons (mIf (asB (mBin pNe (eLoc 9) (eLst (aNil)))) (eLoc 9) (mSl (eLoc 4) (oNone) (oSome (eCon (.int 1))))) (aCons (mCall pMin2 (aCons (eLoc 11) (aCons (mBin pPow (eCon (.int 10)) (eCon (.int 30))) (aNil)))) (aCons (mBin pAdd (eCon (.int 1)) (eCalln 2 F__law_sip (aCons (eLoc 0) (aCons (eCon (.int 3)) (aNil))))) (aCons (eLoc 10) (aNil))))))) (aNil)))))))) (sRet (eLst (aCons (eLoc 4) (aCons (eLoc 6) (aCons (eLoc 7) (aNil))))))))))
noncomputable def F__law_sketch : List D → Store → R D := run true 15 bf__law_sketch
noncomputable def bf__law_pairs : L → Store → Fl := bSeq (sSet 1 (eLst (aNil))) (bSeq (sFor (iRg1 (aCons (mCall pLenS (aCons (mBin pIx (eLoc 0) (eCon (.int 1))) (aNil))) (aNil))) (gN 2) (sSet 1 (mBin pAdd (eLoc 1) (eLc (iRg1 (aCons (mCall pLenS (aCons (mBin pIx (eLoc 0) (eCon (.int 0))) (aNil))) (aNil))) (gN 3) (asB (mBin pGt (mBin pIx (mBin pIx (mBin pIx (eLoc 0) (eCon (.int 1))) (eLoc 2)) (eLoc 3)) (eCon (.int 0)))) (eTup (aCons (eLoc 2) (aCons (mBin pIx (mBin pIx (eLoc 0) (eCon (.int 0))) (eLoc 3)) (aNil)))) [3])))) (sRet (mCall (pSorted false) (aCons (eLoc 1) (aNil)))))
noncomputable def F__law_pairs : List D → Store → R D := run false 4 bf__law_pairs
noncomputable def bf__law_lots : L → Store → Fl := bSeq (sSet 1 (eLst (aCons (eTup (aNil)) (aNil)))) (bSeq (sFor (iVal (eCalln 1 F__law_pairs (aCons (eLoc 0) (aNil)))) (gN 2) (sSet 1 (mBin pAdd (eLoc 1) (eLc (iVal (eLoc 1)) (gN 4) (tYesF) (mBin pAdd (eLoc 4) (eTup (aCons (eLoc 2) (aNil)))) [4])))) (bSeq (sSet 3 (mCall (pSorted false) (aCons (eLc (iVal (mSl (eLoc 1) (oSome (eCon (.int 1))) (oNone))) (gN 4) (tYesF) (eTup (aCons (mCall pLenS (aCons (eLoc 4) (aNil))) (aCons (eLoc 4) (aNil)))) [4]) (aNil)))) (sRet (eLc (iVal (eLoc 3)) (gN 2) (tYesF) (mBin pIx (eLoc 2) (eCon (.int 1))) [2]))))
noncomputable def F__law_lots : List D → Store → R D := run false 5 bf__law_lots
noncomputable def bf_is_name : L → Store → Fl := sRet (vAnd (mIsi (isiT "str") (eLoc 0)) (vAnd (mChain pLt pLt (eCon (.int 0)) (mCall pLenS (aCons (eLoc 0) (aNil))) (eCon (.int 9))) (mCall pAll (aCons (eLc (iVal (eLoc 0)) (gN 1) (tYesF) (mBin pIn (eLoc 1) (eCon (.str "abcdefghijklmnopqrstuvwxyz"))) [1]) (aNil)))))
noncomputable def F_is_name : List D → Store → R D := run false 2 bf_is_name
noncomputable def bf_check_subjects : L → Store → Fl := bSeq (sIf (mOr (mNot (asB (mIsi (isiT "tuple") (eLoc 0)))) (asB (mBin pEq (mCall pLenS (aCons (eLoc 0) (aNil))) (eCon (.int 0))))) (sRaise "InvalidSubjects" "index" (eCon .non)) (bNil)) (sFor (iEnu (aCons (eLoc 0) (aNil))) (gT 2 (gsCons (gN 1) (gsCons (gN 2) (gsNil)))) (sIf (mOr (mNot (asB (eCalln 1 F_is_name (aCons (eLoc 2) (aNil))))) (mOr (asB (mBin pIn (eLoc 2) (mSl (eLoc 0) (oNone) (oSome (eLoc 1))))) (asB (mBin pGe (eLoc 1) (eCon (.int 4)))))) (sRaise "InvalidSubjects" "index" (eLoc 1)) (bNil)))
noncomputable def F_check_subjects : List D → Store → R D := run false 3 bf_check_subjects
noncomputable def bf_is_integer : L → Store → Fl := sRet (vAnd (mIsi (isiT "int") (eLoc 0)) (vNot (mIsi (isiT "bool") (eLoc 0))))
noncomputable def F_is_integer : List D → Store → R D := run false 1 bf_is_integer
noncomputable def bf_is_between : L → Store → Fl := sRet (vAnd (eCalln 1 F_is_integer (aCons (eLoc 0) (aNil))) (mChain pLe pLe (eLoc 1) (eLoc 0) (eLoc 2)))
noncomputable def F_is_between : List D → Store → R D := run false 3 bf_is_between
noncomputable def bf_is_number : L → Store → Fl := sRet (eCalln 3 F_is_between (aCons (eLoc 0) (aCons (eCon (.int 0)) (aCons (eCon (.int 1000000000000000000000000000000)) (aNil)))))
noncomputable def F_is_number : List D → Store → R D := run false 1 bf_is_number
noncomputable def bf_is_row : L → Store → Fl := bSeq (sIf (mOr (mNot (asB (mIsi (isiT "tuple") (eLoc 1)))) (asB (mBin pNe (mCall pLenS (aCons (eLoc 1) (aNil))) (mCall pLenS (aCons (eLoc 0) (aNil)))))) (sRet (eCon (.bl false))) (bNil)) (sRet (mCall pAll (aCons (eLc (iVal (eLoc 1)) (gN 2) (tYesF) (eCalln 1 F_is_number (aCons (eLoc 2) (aNil))) [2]) (aNil))))
noncomputable def F_is_row : List D → Store → R D := run false 3 bf_is_row
noncomputable def bf_check_hours : L → Store → Fl := bSeq (sIf (mOr (mNot (asB (mIsi (isiT "tuple") (eLoc 1)))) (asB (mBin pEq (mCall pLenS (aCons (eLoc 1) (aNil))) (eCon (.int 0))))) (sRaise "InvalidHours" "index" (eCon .non)) (bNil)) (sFor (iEnu (aCons (eLoc 1) (aNil))) (gT 2 (gsCons (gN 2) (gsCons (gN 3) (gsNil)))) (bSeq (sSet 4 (mBin pMul (mBin pAdd (eLoc 2) (eCon (.int 1))) (mCall pLenS (aCons (eLoc 0) (aNil))))) (sIf (mOr (mNot (asB (eCalln 2 F_is_row (aCons (eLoc 0) (aCons (eLoc 3) (aNil)))))) (mOr (asB (mBin pGe (eLoc 2) (eCon (.int 3)))) (asB (mBin pGt (eLoc 4) (eCon (.int 9)))))) (sRaise "InvalidHours" "index" (eLoc 2)) (bNil))))
noncomputable def F_check_hours : List D → Store → R D := run false 5 bf_check_hours
noncomputable def bf_is_gives : L → Store → Fl := bSeq (sIf (mOr (mNot (asB (mIsi (isiT "tuple") (eLoc 1)))) (mOr (asB (mBin pEq (mCall pLenS (aCons (eLoc 1) (aNil))) (eCon (.int 0)))) (mNot (asB (mCall pAll (aCons (eLc (iVal (eLoc 1)) (gN 2) (tYesF) (eCalln 1 F_is_name (aCons (eLoc 2) (aNil))) [2]) (aNil))))))) (sRet (eCon (.bl false))) (bNil)) (sRet (mBin pEq (eLoc 1) (mCall pTuple (aCons (eLc (iVal (eLoc 0)) (gN 2) (asB (mBin pIn (eLoc 2) (eLoc 1))) (eLoc 2) [2]) (aNil)))))
noncomputable def F_is_gives : List D → Store → R D := run false 3 bf_is_gives
noncomputable def bf_is_kind : L → Store → Fl := bSeq (sIf (mOr (mNot (asB (mIsi (isiT "tuple") (eLoc 1)))) (asB (mBin pNe (mCall pLenS (aCons (eLoc 1) (aNil))) (eCon (.int 5))))) (sRet (eCon (.bl false))) (bNil)) (bSeq (sAsg (eLoc 1) (hT 5 (hsCons (hNm 2) (hsCons (hNm 3) (hsCons (hNm 4) (hsCons (hNm 5) (hsCons (hNm 6) (hsNil)))))))) (bSeq (sIf (mOr (mNot (asB (eCalln 1 F_is_name (aCons (eLoc 2) (aNil))))) (mOr (mNot (asB (eCalln 2 F_is_gives (aCons (eLoc 0) (aCons (eLoc 3) (aNil)))))) (mNot (asB (eCalln 1 F_is_number (aCons (eLoc 4) (aNil))))))) (sRet (eCon (.bl false))) (bNil)) (sRet (vAnd (eCalln 3 F_is_between (aCons (eLoc 5) (aCons (eCon (.int 1)) (aCons (eCon (.int 3)) (aNil))))) (vOr (mBin pIsN (eLoc 6) (eCon .non)) (eCalln 1 F_is_number (aCons (eLoc 6) (aNil))))))))
noncomputable def F_is_kind : List D → Store → R D := run false 7 bf_is_kind
noncomputable def bf_check_kinds : L → Store → Fl := bSeq (sIf (mOr (mNot (asB (mIsi (isiT "tuple") (eLoc 1)))) (asB (mBin pEq (mCall pLenS (aCons (eLoc 1) (aNil))) (eCon (.int 0))))) (sRaise "InvalidKinds" "index" (eCon .non)) (bNil)) (bSeq (sSet 2 (eNew (aNil))) (sFor (iEnu (aCons (eLoc 1) (aNil))) (gT 2 (gsCons (gN 3) (gsCons (gN 4) (gsNil)))) (bSeq (sIf (mOr (mNot (asB (eCalln 2 F_is_kind (aCons (eLoc 0) (aCons (eLoc 4) (aNil)))))) (mOr (asB (mBin pIn (mBin pIx (eLoc 4) (eCon (.int 0))) (eLoc 2))) (asB (mBin pGe (eLoc 3) (eCon (.int 5)))))) (sRaise "InvalidKinds" "index" (eLoc 3)) (bNil)) (sDrop (mMeth "list" qAppend (eLoc 2) (aCons (mBin pIx (eLoc 4) (eCon (.int 0))) (aNil)))))))
noncomputable def F_check_kinds : List D → Store → R D := run true 5 bf_check_kinds
noncomputable def bf_Plan___init__ : L → Store → Fl := bSeq (sDrop (eCalln 1 F_check_subjects (aCons (eLoc 1) (aNil)))) (bSeq (sDrop (eCalln 2 F_check_hours (aCons (eLoc 1) (aCons (eLoc 2) (aNil))))) (bSeq (sDrop (eCalln 2 F_check_kinds (aCons (eLoc 1) (aCons (eLoc 3) (aNil))))) (sSetF "Plan" "told" (eLoc 0) (eTup (aCons (eLoc 1) (aCons (eLoc 2) (aCons (eLoc 3) (aNil))))))))
noncomputable def F_Plan___init__ : List D → Store → R D := run false 4 bf_Plan___init__
noncomputable def bf__law_plan : L → Store → Fl := bSeq (sSet 1 (eLc (iVal (mBin pIx (eLoc 0) (eCon (.int 2)))) (gT 5 (gsCons (gN 2) (gsCons (gN 3) (gsCons (gN 4) (gsCons (gN 5) (gsCons (gN 6) (gsNil))))))) (tYesF) (eTup (aCons (eLoc 2) (aCons (mCall pTuple (aCons (eLoc 3) (aNil))) (aCons (eLoc 4) (aCons (eLoc 5) (aCons (eLoc 6) (aNil))))))) [2, 3, 4, 5, 6])) (sRet (eMake true "Plan" 4 F_Plan___init__ (aCons (mCall pTuple (aCons (mBin pIx (eLoc 0) (eCon (.int 0))) (aNil))) (aCons (mCall pTuple (aCons (eLc (iVal (mBin pIx (eLoc 0) (eCon (.int 1)))) (gN 7) (tYesF) (mCall pTuple (aCons (eLoc 7) (aNil))) [7]) (aNil))) (aCons (mCall pTuple (aCons (eLoc 1) (aNil))) (aNil))))))
noncomputable def F__law_plan : List D → Store → R D := run false 8 bf__law_plan
noncomputable def bf__law_able : L → Store → Fl := sRet (mIf (asB (mBin pIsN (mBin pIx (eLoc 0) (eCon (.int 4))) (eCon .non))) (mBin pIx (eLoc 0) (eCon (.int 2))) (mCall pMin2 (aCons (mBin pIx (eLoc 0) (eCon (.int 2))) (aCons (mBin pIx (eLoc 0) (eCon (.int 4))) (aNil)))))
noncomputable def F__law_able : List D → Store → R D := run false 1 bf__law_able
noncomputable def bf__law_gone : L → Store → Fl := bSeq (sSet 2 (eNew (aNil))) (bSeq (sFor (iVal (mBin pIx (eLoc 1) (eCon (.int 2)))) (gN 3) (bSeq (sSet 4 (eCalln 1 F__law_able (aCons (eLoc 3) (aNil)))) (sDrop (mMeth "list" qAppend (eLoc 2) (aCons (mBin pIx (eLst (aCons (eCon (.int 0)) (aCons (eLoc 4) (aCons (mBin pDiv (eLoc 4) (eCon (.int 2))) (aCons (mCall pMin2 (aCons (eLoc 4) (aCons (eCon (.int 1)) (aNil)))) (aCons (mCall pMin2 (aCons (eLoc 4) (aCons (eCon (.int 2)) (aNil)))) (aNil))))))) (eCalln 2 F__law_sip (aCons (eLoc 0) (aCons (eCon (.int 5)) (aNil))))) (aNil)))))) (sRet (mCall pTuple (aCons (eLoc 2) (aNil)))))
noncomputable def F__law_gone : List D → Store → R D := run true 5 bf__law_gone
noncomputable def bf__law_weight : L → Store → Fl := bSeq (sSet 2 (eNew (aNil))) (bSeq (sFor (iVal (eLoc 1)) (gT 2 (gsCons (gN 3) (gsCons (gN 4) (gsNil)))) (sIf (mAnd (asB (mBin pIn (eLoc 4) (mBin pIx (eLoc 0) (eCon (.int 1))))) (asB (mBin pNotIn (eLoc 3) (eLoc 2)))) (sDrop (mMeth "list" qAppend (eLoc 2) (aCons (eLoc 3) (aNil)))) (bNil))) (sRet (mCall pMin2 (aCons (mBin pIx (eLoc 0) (eCon (.int 3))) (aCons (mCall pLenS (aCons (eLoc 2) (aNil))) (aNil))))))
noncomputable def F__law_weight : List D → Store → R D := run true 5 bf__law_weight
noncomputable def bf__law_needs : L → Store → Fl := sRet (mCall pSum (aCons (eLc (iVal (eLoc 1)) (gT 2 (gsCons (gN 2) (gsCons (gN 3) (gsNil)))) (tYesF) (mBin pIx (mBin pIx (mBin pIx (eLoc 0) (eCon (.int 1))) (eLoc 2)) (mMeth "list" (same1 pIndexL) (mBin pIx (eLoc 0) (eCon (.int 0))) (aCons (eLoc 3) (aNil)))) [2, 3]) (aNil)))
noncomputable def F__law_needs : List D → Store → R D := run false 4 bf__law_needs
noncomputable def bf__law_margin : L → Store → Fl := bSeq (sSet 3 (eCon (.int 0))) (bSeq (sFor (iZip2 (aCons (mBin pIx (eLoc 0) (eCon (.int 2))) (aCons (eLoc 1) (aNil)))) (gT 2 (gsCons (gN 4) (gsCons (gN 5) (gsNil)))) (sSet 3 (mBin pAdd (eLoc 3) (mBin pMul (mBin pSub (mBin pIx (eLoc 4) (eCon (.int 2))) (eLoc 5)) (eCalln 2 F__law_weight (aCons (eLoc 4) (aCons (eLoc 2) (aNil)))))))) (sRet (mBin pSub (eLoc 3) (eCalln 2 F__law_needs (aCons (eLoc 0) (aCons (eLoc 2) (aNil)))))))
noncomputable def F__law_margin : List D → Store → R D := run false 6 bf__law_margin
noncomputable def bf_check_plan : L → Store → Fl := sIf (mNot (asB (mIsi (isiC "Plan") (eLoc 0)))) (sRaise "NotAPlan" "given" (eLoc 0)) (bNil)
noncomputable def F_check_plan : List D → Store → R D := run false 1 bf_check_plan
noncomputable def bf_Plan_kinds : L → Store → Fl := sRet (mBin pIx (eFld "Plan" "told" (eLoc 0)) (eCon (.int 2)))
noncomputable def F_Plan_kinds : List D → Store → R D := run false 1 bf_Plan_kinds
noncomputable def bf_most_ill : L → Store → Fl := sRet (mIf (asB (mBin pIsN (mBin pIx (eLoc 0) (eCon (.int 4))) (eCon .non))) (mBin pIx (eLoc 0) (eCon (.int 2))) (mCall pMin2 (aCons (mBin pIx (eLoc 0) (eCon (.int 2))) (aCons (mBin pIx (eLoc 0) (eCon (.int 4))) (aNil)))))
noncomputable def F_most_ill : List D → Store → R D := run false 1 bf_most_ill
noncomputable def bf_is_absence : L → Store → Fl := bSeq (sIf (mOr (mNot (asB (mIsi (isiT "tuple") (eLoc 1)))) (asB (mBin pNe (mCall pLenS (aCons (eLoc 1) (aNil))) (mCall pLenS (aCons (eProp "Plan" F_Plan_kinds (eLoc 0)) (aNil)))))) (sRet (eCon (.bl false))) (bNil)) (sRet (mCall pAll (aCons (eLc (iZip2 (aCons (eProp "Plan" F_Plan_kinds (eLoc 0)) (aCons (eLoc 1) (aNil)))) (gT 2 (gsCons (gN 2) (gsCons (gN 3) (gsNil)))) (tYesF) (eCalln 3 F_is_between (aCons (eLoc 3) (aCons (eCon (.int 0)) (aCons (eCalln 1 F_most_ill (aCons (eLoc 2) (aNil))) (aNil))))) [2, 3]) (aNil))))
noncomputable def F_is_absence : List D → Store → R D := run false 4 bf_is_absence
noncomputable def bf_check_away : L → Store → Fl := sIf (mNot (asB (eCalln 2 F_is_absence (aCons (eLoc 0) (aCons (eLoc 1) (aNil)))))) (sRaise "InvalidAbsence" "given" (eLoc 1)) (bNil)
noncomputable def F_check_away : List D → Store → R D := run false 2 bf_check_away
noncomputable def bf_Plan_hours : L → Store → Fl := sRet (mBin pIx (eFld "Plan" "told" (eLoc 0)) (eCon (.int 1)))
noncomputable def F_Plan_hours : List D → Store → R D := run false 1 bf_Plan_hours
noncomputable def bf_Plan_subjects : L → Store → Fl := sRet (mBin pIx (eFld "Plan" "told" (eLoc 0)) (eCon (.int 0)))
noncomputable def F_Plan_subjects : List D → Store → R D := run false 1 bf_Plan_subjects
noncomputable def bf_pairs_of : L → Store → Fl := bSeq (sSet 1 (eNew (aNil))) (bSeq (sFor (iEnu (aCons (eProp "Plan" F_Plan_hours (eLoc 0)) (aNil))) (gT 2 (gsCons (gN 2) (gsCons (gN 3) (gsNil)))) (sDrop (mMeth "list" qExtend (eLoc 1) (aCons (eLc (iZip2 (aCons (eProp "Plan" F_Plan_subjects (eLoc 0)) (aCons (eLoc 3) (aNil)))) (gT 2 (gsCons (gN 4) (gsCons (gN 5) (gsNil)))) (asB (mBin pGt (eLoc 5) (eCon (.int 0)))) (eTup (aCons (eLoc 2) (aCons (eLoc 4) (aNil)))) [4, 5]) (aNil))))) (sRet (mCall (pSorted false) (aCons (eLoc 1) (aNil)))))
noncomputable def F_pairs_of : List D → Store → R D := run true 6 bf_pairs_of
noncomputable def bf_is_lot : L → Store → Fl := bSeq (sIf (mOr (mNot (asB (mIsi (isiT "tuple") (eLoc 1)))) (asB (mBin pEq (mCall pLenS (aCons (eLoc 1) (aNil))) (eCon (.int 0))))) (sRet (eCon (.bl false))) (bNil)) (bSeq (sFor (iVal (eLoc 1)) (gN 2) (bSeq (sIf (mOr (mNot (asB (mIsi (isiT "tuple") (eLoc 2)))) (mOr (asB (mBin pNe (mCall pLenS (aCons (eLoc 2) (aNil))) (eCon (.int 2)))) (mNot (asB (mIsi (isiT "str") (mBin pIx (eLoc 2) (eCon (.int 1)))))))) (sRet (eCon (.bl false))) (bNil)) (sIf (mOr (mNot (asB (eCalln 3 F_is_between (aCons (mBin pIx (eLoc 2) (eCon (.int 0))) (aCons (eCon (.int 0)) (aCons (mBin pSub (mCall pLenS (aCons (eProp "Plan" F_Plan_hours (eLoc 0)) (aNil))) (eCon (.int 1))) (aNil))))))) (asB (mBin pNotIn (eLoc 2) (eCalln 1 F_pairs_of (aCons (eLoc 0) (aNil)))))) (sRet (eCon (.bl false))) (bNil)))) (sRet (mCall pAll (aCons (eLc (iZip2 (aCons (eLoc 1) (aCons (mSl (eLoc 1) (oSome (eCon (.int 1))) (oNone)) (aNil)))) (gT 2 (gsCons (gN 3) (gsCons (gN 4) (gsNil)))) (tYesF) (mBin pLtD (eLoc 3) (eLoc 4)) [3, 4]) (aNil)))))
noncomputable def F_is_lot : List D → Store → R D := run false 5 bf_is_lot
noncomputable def bf_weight_of : L → Store → Fl := bSeq (sSet 2 (mCall pSet (aCons (eLc (iVal (eLoc 1)) (gT 2 (gsCons (gN 3) (gsCons (gN 4) (gsNil)))) (asB (mBin pIn (eLoc 4) (mBin pIx (eLoc 0) (eCon (.int 1))))) (eLoc 3) [3, 4]) (aNil)))) (sRet (mCall pMin2 (aCons (mBin pIx (eLoc 0) (eCon (.int 3))) (aCons (mCall pLenS (aCons (eLoc 2) (aNil))) (aNil)))))
noncomputable def F_weight_of : List D → Store → R D := run false 5 bf_weight_of
noncomputable def bf_lessons_of : L → Store → Fl := sRet (mCall pSum (aCons (eLc (iVal (eLoc 1)) (gT 2 (gsCons (gN 2) (gsCons (gN 3) (gsNil)))) (tYesF) (mBin pIx (mBin pIx (eProp "Plan" F_Plan_hours (eLoc 0)) (eLoc 2)) (mMeth "tuple" (same1 pIndexT) (eProp "Plan" F_Plan_subjects (eLoc 0)) (aCons (eLoc 3) (aNil)))) [2, 3]) (aNil)))
noncomputable def F_lessons_of : List D → Store → R D := run false 4 bf_lessons_of
noncomputable def bf_margin_of : L → Store → Fl := bSeq (sSet 3 (mCall pSum (aCons (eLc (iZip2 (aCons (eProp "Plan" F_Plan_kinds (eLoc 0)) (aCons (eLoc 1) (aNil)))) (gT 2 (gsCons (gN 4) (gsCons (gN 5) (gsNil)))) (tYesF) (mBin pMul (mBin pSub (mBin pIx (eLoc 4) (eCon (.int 2))) (eLoc 5)) (eCalln 2 F_weight_of (aCons (eLoc 4) (aCons (eLoc 2) (aNil))))) [4, 5]) (aNil)))) (sRet (mBin pSub (eLoc 3) (eCalln 2 F_lessons_of (aCons (eLoc 0) (aCons (eLoc 2) (aNil))))))
noncomputable def F_margin_of : List D → Store → R D := run false 6 bf_margin_of
noncomputable def bf_margin : L → Store → Fl := bSeq (sDrop (eCalln 1 F_check_plan (aCons (eLoc 0) (aNil)))) (bSeq (sDrop (eCalln 2 F_check_away (aCons (eLoc 0) (aCons (eLoc 1) (aNil))))) (bSeq (sIf (mNot (asB (eCalln 2 F_is_lot (aCons (eLoc 0) (aCons (eLoc 2) (aNil)))))) (sRaise "InvalidPlace" "given" (eLoc 2)) (bNil)) (sRet (eCalln 3 F_margin_of (aCons (eLoc 0) (aCons (eLoc 1) (aCons (eLoc 2) (aNil))))))))
noncomputable def F_margin : List D → Store → R D := run false 3 bf_margin
noncomputable def bf_order_of : L → Store → Fl := sRet (eTup (aCons (mCall pLenS (aCons (eLoc 0) (aNil))) (aCons (eLoc 0) (aNil))))
noncomputable def F_order_of : List D → Store → R D := run false 1 bf_order_of
noncomputable def bf_lots_of : L → Store → Fl := bSeq (sSet 1 (eLst (aCons (eTup (aNil)) (aNil)))) (bSeq (sFor (iVal (eCalln 1 F_pairs_of (aCons (eLoc 0) (aNil)))) (gN 2) (sSet 1 (mBin pAdd (eLoc 1) (eLc (iVal (eLoc 1)) (gN 3) (tYesF) (eTup (aStar (eLoc 3) (aCons (eLoc 2) (aNil)))) [3])))) (sRet (mCall pSortLot (aCons (mSl (eLoc 1) (oSome (eCon (.int 1))) (oNone)) (aNil)))))
noncomputable def F_lots_of : List D → Store → R D := run false 4 bf_lots_of
noncomputable def bf_tightest : L → Store → Fl := bSeq (sSet 2 (eCon .non)) (bSeq (sFor (iVal (eCalln 1 F_lots_of (aCons (eLoc 0) (aNil)))) (gN 3) (bSeq (sSet 4 (eCalln 3 F_margin_of (aCons (eLoc 0) (aCons (eLoc 1) (aCons (eLoc 3) (aNil)))))) (sIf (mOr (asB (mBin pIsN (eLoc 2) (eCon .non))) (asB (mBin pLt (eLoc 4) (mBin pIx (eLoc 2) (eCon (.int 0)))))) (sSet 2 (eTup (aCons (eLoc 4) (aCons (eLoc 3) (aNil))))) (bNil)))) (sRet (eLoc 2)))
noncomputable def F_tightest : List D → Store → R D := run false 5 bf_tightest
noncomputable def bf_tight_lot : L → Store → Fl := bSeq (sDrop (eCalln 1 F_check_plan (aCons (eLoc 0) (aNil)))) (bSeq (sDrop (eCalln 2 F_check_away (aCons (eLoc 0) (aCons (eLoc 1) (aNil))))) (sRet (eCalln 2 F_tightest (aCons (eLoc 0) (aCons (eLoc 1) (aNil))))))
noncomputable def F_tight_lot : List D → Store → R D := run false 2 bf_tight_lot
noncomputable def bf__law_odd : L → Store → Fl := bSeq (sPar 1 2 (aCons (eCalln 1 F__law_pairs (aCons (eLoc 0) (aNil))) (aCons (mBin pIx (mBin pIx (eLoc 0) (eCon (.int 0))) (eCon (.int 0))) (aNil)))) (bFz (bSeq (sSet 3 (eNew (aCons (eTup (aNil)) (aCons (eCon .non) (aCons (eLst (aNil)) (aCons (eTup (aCons (eTup (aCons (mCall pLenS (aCons (mBin pIx (eLoc 0) (eCon (.int 1))) (aNil))) (aCons (eLoc 2) (aNil)))) (aNil))) (aCons (eTup (aCons (eTup (aCons (eCon (.int (-1))) (aCons (eLoc 2) (aNil)))) (aNil))) (aCons (eTup (aCons (eTup (aCons (eCon (.int 0)) (aCons (eCon (.str "nobody")) (aNil)))) (aNil))) (aNil))))))))) (sDrop (mMeth "list" qAppend (eLoc 3) (aCons (eTup (aCons (eCon (.int 0)) (aCons (eLoc 2) (aNil)))) (aNil))))) (bSeq (sSet 3 (mBin pAdd (eLoc 3) (eLst (aCons (eTup (aCons (eTup (aCons (eCon (.bl false)) (aCons (eLoc 2) (aNil)))) (aNil))) (aCons (eTup (aCons (eTup (aCons (eCon (.int 0)) (aCons (eLoc 2) (aCons (eCon (.int 1)) (aNil))))) (aNil))) (aCons (eTup (aCons (eLst (aCons (eCon (.int 0)) (aCons (eLoc 2) (aNil)))) (aNil))) (aCons (eLoc 2) (aCons (eCon (.int 0)) (aCons (eCon (.bl true)) (aNil)))))))))) (bSeq (sFor (iRg1 (aCons (mCall pLenS (aCons (mBin pIx (eLoc 0) (eCon (.int 1))) (aNil))) (aNil))) (gN 4) (sSet 3 (mBin pAdd (eLoc 3) (eLc (iRg1 (aCons (mCall pLenS (aCons (mBin pIx (eLoc 0) (eCon (.int 0))) (aNil))) (aNil))) (gN 5) (asB (mBin pEq (mBin pIx (mBin pIx (mBin pIx (eLoc 0) (eCon (.int 1))) (eLoc 4)) (eLoc 5)) (eCon (.int 0)))) (eTup (aCons (eTup (aCons (eLoc 4) (aCons (mBin pIx (mBin pIx (eLoc 0) (eCon (.int 0))) (eLoc 5)) (aNil)))) (aNil))) [5])))) (bSeq (sIf (asB (mBin pNe (eLoc 1) (eLst (aNil)))) (sSet 3 (mBin pAdd (eLoc 3) (eLst (aCons (eTup (aCons (mBin pIx (eLoc 1) (eCon (.int 0))) (aCons (mBin pIx (eLoc 1) (eCon (.int 0))) (aNil)))) (aCons (eLst (aCons (mBin pIx (eLoc 1) (eCon (.int 0))) (aNil))) (aCons (mBin pAdd (mCall pTuple (aCons (eLoc 1) (aNil))) (eTup (aCons (mBin pIx (eLoc 1) (eCon (.int 0))) (aNil)))) (aNil))))))) (bNil)) (sRet (mIf (asB (mBin pGt (mCall pLenS (aCons (eLoc 1) (aNil))) (eCon (.int 1)))) (mBin pAdd (eLoc 3) (eLst (aCons (mCall pTuple (aCons (mRev (eLoc 1)) (aNil))) (aNil)))) (eLoc 3)))))))
noncomputable def F__law_odd : List D → Store → R D := run true 6 bf__law_odd
noncomputable def bf__law_refused : L → Store → Fl := bSeq (sTry (sDrop (eCallK0 3 3 [2, 1, 0] F_margin (aCons (eLoc 2) (aCons (eLoc 1) (aCons (eLoc 0) (aNil)))))) [⟨["InvalidPlace"], ["NotRight", "InvalidText", "InvalidAbsence", "NotAPlan", "InvalidSubjects", "InvalidHours", "InvalidKinds"], some 3, sRet (mBin pEq (mCall pRepr (aCons (mUn (pErr ["InvalidPlace"] "given") (eLoc 3)) (aNil))) (mCall pRepr (aCons (eLoc 2) (aNil))))⟩]) (sRet (eCon (.bl false)))
noncomputable def F__law_refused : List D → Store → R D := run false 4 bf__law_refused
noncomputable def bf__law_right : L → Store → Fl := bSeq (sSet 1 (eCalln 2 F__law_sketch (aCons (eLoc 0) (aCons (mBin pGt (eCalln 2 F__law_sip (aCons (eLoc 0) (aCons (eCon (.int 3)) (aNil)))) (eCon (.int 0))) (aNil))))) (bSeq (sAsg (eTup (aCons (eCalln 1 F__law_plan (aCons (eLoc 1) (aNil))) (aCons (eCalln 1 F__law_lots (aCons (eLoc 1) (aNil))) (aNil)))) (hT 2 (hsCons (hNm 2) (hsCons (hNm 3) (hsNil))))) (bSeq (sFor (iVal (eLst (aCons (mCall pTuple (aCons (eLc (iVal (mBin pIx (eLoc 1) (eCon (.int 2)))) (gN 7) (tYesF) (eCon (.int 0)) [7]) (aNil))) (aCons (eCalln 2 F__law_gone (aCons (eLoc 0) (aCons (eLoc 1) (aNil)))) (aCons (eCalln 2 F__law_gone (aCons (eLoc 0) (aCons (eLoc 1) (aNil)))) (aNil)))))) (gN 4) (bSeq (sSet 5 (eLc (iVal (eLoc 3)) (gN 8) (tYesF) (eCalln 3 F__law_margin (aCons (eLoc 1) (aCons (eLoc 4) (aCons (eLoc 8) (aNil))))) [8])) (bSeq (sIf (asB (mBin pNe (mCall pRepr (aCons (eLc (iVal (eLoc 3)) (gN 8) (tYesF) (eCalln 3 F_margin (aCons (eLoc 2) (aCons (eLoc 4) (aCons (eLoc 8) (aNil))))) [8]) (aNil))) (mCall pRepr (aCons (eLoc 5) (aNil))))) (sRet (eCon (.bl false))) (bNil)) (bSeq (sSet 6 (mIf (asB (mBin pNe (eLoc 3) (eLst (aNil)))) (eTup (aCons (mCall pMinL (aCons (eLoc 5) (aNil))) (aCons (mBin pIx (eLoc 3) (mMeth "list" (same1 pIndexL) (eLoc 5) (aCons (mCall pMinL (aCons (eLoc 5) (aNil))) (aNil)))) (aNil)))) (eCon .non))) (bSeq (sIf (asB (mBin pNe (mCall pRepr (aCons (eLst (aCons (eCalln 2 F_tight_lot (aCons (eLoc 2) (aCons (eLoc 4) (aNil)))) (aCons (eCallK0 2 2 [1, 0] F_tight_lot (aCons (eLoc 4) (aCons (eLoc 2) (aNil)))) (aNil)))) (aNil))) (mCall pRepr (aCons (eLst (aCons (eLoc 6) (aCons (eLoc 6) (aNil)))) (aNil))))) (sRet (eCon (.bl false))) (bNil)) (sIf (asB (mBin pNe (eLc (iVal (eCalln 1 F__law_odd (aCons (eLoc 1) (aNil)))) (gN 9) (mNot (asB (eCalln 3 F__law_refused (aCons (eLoc 2) (aCons (eLoc 4) (aCons (eLoc 9) (aNil))))))) (eLoc 9) [9]) (eLst (aNil)))) (sRet (eCon (.bl false))) (bNil))))))) (sRet (eCon (.bl true)))))
noncomputable def F__law_right : List D → Store → R D := run false 10 bf__law_right
noncomputable def bf__law_cup : L → Store → Fl := bSeq (sSet 2 (mIf (asB (mBin pLt (eLoc 1) (mCall pLenS (aCons (eLoc 0) (aNil))))) (mBin pIx (eLoc 0) (eLoc 1)) (mBin pAdd (eLoc 1) (eCon (.int 2))))) (bSeq (sSet 3 (mBin pAdd (eCon (.int 25013)) (mBin pMul (eCon (.int 4007)) (eLoc 1)))) (bSeq (sFor (iVal (mBin pAdd (mSl (eLoc 0) (oNone) (oSome (eCon (.int 4)))) (eLst (aCons (eLoc 2) (aNil))))) (gN 4) (sSet 3 (mBin pMod (mCall pInt (aCons (mBin pAdd (mBin pMul (eLoc 3) (eCon (.int 26021))) (eLoc 4)) (aNil))) (eCon (.int 2147483477))))) (sRet (eNew (aCons (mIf (mOr (asB (mBin pLt (eLoc 2) (eCon (.int 0)))) (asB (mBin pGe (eLoc 2) (mBin pPow (eCon (.int 10)) (eCon (.int 18)))))) (mCall pAbs (aCons (eLoc 2) (aNil))) (eCon (.int 0))) (aCons (eLoc 3) (aCons (eCon (.int 0)) (aNil))))))))
noncomputable def F__law_cup : List D → Store → R D := run false 5 bf__law_cup
noncomputable def bf_law : L → Store → Fl := sRet (mCall pAll (aCons (eLc (iRg1 (aCons (mCall pMax2 (aCons (eCon (.int 2)) (aCons (mCall pMin2 (aCons (mCall pLenS (aCons (eLoc 0) (aNil))) (aCons (eCon (.int 5)) (aNil)))) (aNil)))) (aNil))) (gN 1) (tYesF) (eCalln 1 F__law_right (aCons (eCalln 2 F__law_cup (aCons (eLoc 0) (aCons (eLoc 1) (aNil)))) (aNil))) [1]) (aNil)))
noncomputable def F_law : List D → Store → R D := run false 2 bf_law
end HL
end
section
set_option Elab.async false
set_option linter.all false
set_option maxRecDepth 100000
set_option maxHeartbeats 4000000
namespace HL
open PySem PySem.Spec L2
def CupOk (S : Store) (n : Nat) : Prop := ∃ a m c : Int, S[n]? = some (.lst [.int a, .int m, .int c]) ∧ 0 ≤ m ∧ m < 2147483477
/-- the cup at n was drawn from, all else is as it was -/
structure Drew (n : Nat) (S S' : Store) : Prop where
  cup : CupOk S' n
  len : S'.length = S.length
  old : ∀ i, i ≠ n → S'[i]? = S[i]?
theorem Drew.refl {n : Nat} {S : Store} (h : CupOk S n) : Drew n S S := ⟨h, rfl, fun _ _ => rfl⟩
theorem Drew.trans {n : Nat} {S S' S'' : Store} (a : Drew n S S') (b : Drew n S' S'') : Drew n S S'' := ⟨b.cup, b.len.trans a.len, fun i h => (b.old i h).trans (a.old i h)⟩
theorem Drew.set {n : Nat} {S : Store} {a m c a' m' c' : Int} (h : S[n]? = some (.lst [.int a, .int m, .int c])) (h0 : 0 ≤ m') (h1 : m' < 2147483477) : Drew n S (S.set n (.lst [.int a', .int m', .int c'])) := by
  have hn : n < S.length := (List.getElem?_eq_some_iff.mp h).1
  refine ⟨⟨a', m', c', by rw [List.getElem?_set_self hn], h0, h1⟩, List.length_set, fun i hi => by rw [List.getElem?_set_ne (Ne.symm hi)]⟩
theorem sipW_ok {n : Nat} {t : Int} {S : Store} (h : CupOk S n) (h0 : 0 < t) (h1 : t ≤ 10000000000000000000000000000000000000000) : ∃ v S', F__law_sip [.loc n, .int t] S = .ok (.int v) S' ∧ Drew n S S' ∧ 0 ≤ v ∧ v < t := by
  obtain ⟨a, m, c, e, m0, m1⟩ := h
  have hn : n < S.length := (List.getElem?_eq_some_iff.mp e).1
  have e' : S[n] = .lst [.int a, .int m, .int c] := (List.getElem?_eq_some_iff.mp e).2
  unfold F__law_sip bf__law_sip
  by_cases ha : 0 < a
  · have hD : ∀ T, pDivmodW [.int a, .int t] T = some (.tup [.int (a / t), .int (a % t)]) := fun T => pDivmodW_ok h0 h1 T
    simp [e', hn, ha, hD]
    exact ⟨_, _, ⟨rfl, rfl⟩, Drew.set e m0 m1, Int.emod_nonneg _ (by omega), Int.emod_lt_of_pos _ h0⟩
  · simp [e', hn, ha, h0]
    exact ⟨_, _, ⟨rfl, rfl⟩, Drew.set e (by omega) (by omega), Int.emod_nonneg _ (by omega), Int.emod_lt_of_pos _ h0⟩
theorem sip_ok {n : Nat} {t : Int} {S : Store} (h : CupOk S n) (h0 : 0 < t) (h1 : t < 1073741824) : ∃ v S', F__law_sip [.loc n, .int t] S = .ok (.int v) S' ∧ Drew n S S' ∧ 0 ≤ v ∧ v < t := sipW_ok h h0 (by omega)
theorem R.ok_eq {α : Type} {a b : α} {S T : Store} (h : a = b) (g : S = T) : R.ok a S = R.ok b T := by rw [h, g]
theorem cup_ok (ns : List Int) (t : Int) (S : Store) (ht : 0 ≤ t) (ht2 : t < 1000) : ∃ S', F__law_cup [cellsD ns, .int t] S = .ok (.loc S.length) S' ∧ CupOk S' S.length ∧ S'.length = S.length + 1 ∧ ∀ i, i < S.length → S'[i]? = S[i]? := by
  unfold F__law_cup bf__law_cup cellsD
  have loop : ∀ (x : Int), ∃ m o, forGo (gN 4) (sSet 3 (mBin pMod (mCall pInt (aCons (mBin pAdd (mBin pMul (eLoc 3) (eCon (D.int 26021))) (eLoc 4)) aNil)) (eCon (D.int 2147483477)))) [] (List.take 4 (List.map D.int ns) ++ [D.int x]) [some (D.scr (List.map D.int ns)), some (D.int t), some (D.int x), some (D.int (25013 + 4007 * t)), none] S
      = .nx [some (D.scr (List.map D.int ns)), some (D.int t), some (D.int x), some (D.int m), o] S ∧ 0 ≤ m ∧ m < 2147483477 := by
    intro x
    have e : List.take 4 (List.map D.int ns) ++ [D.int x] = (ns.take 4 ++ [x]).map D.int := by simp [List.map_take]
    rw [e]
    refine forGo_inv (en := D.int) (fun _ l S' => ∃ m o, l = [some (D.scr (List.map D.int ns)), some (D.int t), some (D.int x), some (D.int m), o] ∧ S' = S ∧ 0 ≤ m ∧ m < 2147483477)
      (fun r => ∃ m o, r = .nx [some (D.scr (List.map D.int ns)), some (D.int t), some (D.int x), some (D.int m), o] S ∧ 0 ≤ m ∧ m < 2147483477) ?_ ?_ (fun z h => h) ⟨_, _, rfl, rfl, by omega, by omega⟩
    · rintro l S' ⟨m, o, rfl, rfl, h⟩
      exact ⟨trivial, m, o, rfl, h⟩
    · rintro y ys l S' - ⟨m, o, rfl, rfl, h⟩
      refine ⟨trivial, _, rfl, ?_⟩
      simp
      exact ⟨by omega, by omega⟩
  have hP : CPow 10 18 := by decide
  have end_ : ∀ (a m : Int), 0 ≤ m → m < 2147483477 → ∃ S', R.ok (D.loc S.length) (S ++ [Ob.lst [D.int a, D.int m, D.int 0]]) = R.ok (D.loc S.length) S' ∧ CupOk S' S.length ∧ S'.length = S.length + 1 ∧ ∀ i, i < S.length → S'[i]? = S[i]? :=
    fun a m m0 m1 => ⟨_, rfl, ⟨a, m, 0, by simp, m0, m1⟩, by simp, fun i hi => List.getElem?_append_left hi⟩
  have h4 : min 4 ns.length ≤ 16777215 := by omega
  by_cases h : t < (ns.length : Int)
  · obtain ⟨k, rfl⟩ : ∃ k : Nat, t = k := ⟨t.toNat, by omega⟩
    have hk : k < ns.length := by omega
    obtain ⟨m, o, e, m0, m1⟩ := loop ns[k]
    by_cases h1 : ns[k] < 0
    · simpa [hk, h4, e, h1] using end_ _ _ m0 m1
    · by_cases h2 : 1000000000000000000 ≤ ns[k]
      · simpa [hk, h4, e, h1, hP, h2] using end_ _ _ m0 m1
      · simpa [hk, h4, e, h1, hP, h2] using end_ _ _ m0 m1
  · obtain ⟨m, o, e, m0, m1⟩ := loop (t + 2)
    have h1 : ¬ (t + 2 < 0) := by omega
    by_cases h2 : 1000000000000000000 ≤ t + 2
    · simpa [h, h4, e, h1, hP, h2] using end_ _ _ m0 m1
    · simpa [h, h4, e, h1, hP, h2] using end_ _ _ m0 m1
def menu : List Str := ["math", "art", "hour", "kind", "most", "ill", "all", "safe", "late", "x", "longname"]
def nameAt (b s : Int) (k : Nat) : Str := menu.getD ((b + s * k) % 11).toNat default
theorem menu_get (i : Nat) (h : i < 11) : menu[i]? = some (menu.getD i default) := by
  have : menu.length = 11 := rfl
  rw [List.getD_eq_getElem?_getD, List.getElem?_eq_getElem (by omega)]
  rfl
theorem menu_inj {i j : Nat} (hi : i < 11) (hj : j < 11) (h : menu.getD i default = menu.getD j default) : i = j := by
  have : ∀ i : Fin 11, ∀ j : Fin 11, menu.getD i.1 default = menu.getD j.1 default → i = j := by decide +kernel
  have := this ⟨i, hi⟩ ⟨j, hj⟩ h
  exact congrArg Fin.val this
theorem names_nodup {b s : Int} (hs : 1 ≤ s) (hs2 : s ≤ 10) {k : Nat} (hk : k ≤ 11) : ((List.range k).map (nameAt b s)).Nodup := by
  rw [List.nodup_iff_pairwise_ne]
  rw [List.pairwise_map]
  refine List.Pairwise.imp_of_mem ?_ (List.nodup_iff_pairwise_ne.mp List.nodup_range)
  intro i j hi hj hne e
  rw [List.mem_range] at hi hj
  have e2 := menu_inj (by omega) (by omega) e
  apply hne
  have : s = 1 ∨ s = 2 ∨ s = 3 ∨ s = 4 ∨ s = 5 ∨ s = 6 ∨ s = 7 ∨ s = 8 ∨ s = 9 ∨ s = 10 := by omega
  rcases this with rfl | rfl | rfl | rfl | rfl | rfl | rfl | rfl | rfl | rfl <;> omega
theorem menu_at (i : Int) (h0 : 0 ≤ i) (h1 : i < 11) : atI (menu.map D.str) i = some (.str (menu.getD i.toNat default)) := by
  rw [atI_pos h0, List.getElem?_map, menu_get _ (by omega)]
  rfl
theorem words_ok {n : Nat} {t : Int} {S : Store} (h : CupOk S n) (h0 : 0 ≤ t) (h1 : t ≤ 11) : ∃ (ws : List Str) (S' : Store), F__law_words [.loc n, .int t] S = .ok (.lst (ws.map .str)) S' ∧ Drew n S S' ∧ (ws.length : Int) = t ∧ ws.Nodup ∧ ∀ w ∈ ws, w ∈ menu := by
  obtain ⟨b, S1, e1, d1, b0, b1⟩ := sip_ok (t := 11) h (by omega) (by omega)
  obtain ⟨s, S2, e2, d2, s0, s1⟩ := sip_ok (t := 10) d1.cup (by omega) (by omega)
  refine ⟨(List.range t.toNat).map (nameAt b (1 + s)), S2, ?_, d1.trans d2, by simp; omega, names_nodup (by omega) (by omega) (by omega), ?_⟩
  · unfold F__law_words bf__law_words
    simp [e1, e2, rg1_int h0 (show t < 4611686018427387904 by omega)]
    rw [cGo_map (en := fun (i : Nat) => D.int (i : Int)) (f := fun i => D.str (nameAt b (1 + s) i))]
    · simp
    · intro i hi
      have hc : -18446744073709551616 < 1 + s ∧ 1 + s < 18446744073709551616 := by omega
      simp [cStep, pMul_ok (CMul_l hc.1 hc.2)]
      erw [menu_at _ (by omega) (by omega)]
      rfl
    · simp
      omega
    · trivial
  · intro w hw
    obtain ⟨i, hi, rfl⟩ := List.mem_map.mp hw
    have := menu_get ((b + (1 + s) * (i : Int)) % 11).toNat (by omega)
    exact List.mem_of_getElem? this
inductive All2 {α β : Type} (Q : α → β → Prop) : List α → List β → Prop
  | nil : All2 Q [] []
  | cons {x : α} {y : β} {xs : List α} {ys : List β} : Q x y → All2 Q xs ys → All2 Q (x :: xs) (y :: ys)
theorem All2.length {α β : Type} {Q : α → β → Prop} {xs : List α} {ys : List β} (h : All2 Q xs ys) : ys.length = xs.length := by
  induction h with
  | nil => rfl
  | cons _ _ ih => simp [ih]
theorem All2.right {α β : Type} {Q : α → β → Prop} {P : β → Prop} {xs : List α} {ys : List β} (h : All2 Q xs ys) (i : ∀ x y, Q x y → P y) : ∀ y ∈ ys, P y := by
  induction h with
  | nil => intro y hy; cases hy
  | cons q _ ih =>
    intro y hy
    rcases List.mem_cons.mp hy with rfl | hy
    · exact i _ _ q
    · exact ih y hy
theorem All2.mapEq {α β γ : Type} {Q : α → β → Prop} {f : α → γ} {g : β → γ} {xs : List α} {ys : List β} (h : All2 Q xs ys) (i : ∀ x y, Q x y → f x = g y) : ys.map g = xs.map f := by
  induction h with
  | nil => rfl
  | cons q _ ih => rw [List.map_cons, List.map_cons, ih, i _ _ q]
theorem All2.append {α β : Type} {Q : α → β → Prop} {xs xs' : List α} {ys ys' : List β} (h : All2 Q xs ys) (h' : All2 Q xs' ys') : All2 Q (xs ++ xs') (ys ++ ys') := by
  induction h with
  | nil => exact h'
  | cons q _ ih => exact .cons q ih
/-- each item draws -/
theorem cGo_draw {α β : Type} {en : α → D} {eo : β → D} {Q : α → β → Prop} {n : Nat} {g : Tgt} {t : L → Store → R Bool} {e : L → Store → R D} {l : L} : ∀ {xs : List α} {S : Store} {k : Nat},
    (∀ x ∈ xs, ∀ S', Drew n S S' → ∃ y S'', cStep g t e l (en x) S' = some (some (eo y), S'') ∧ Drew n S' S'' ∧ Q x y) → CupOk S n → k + xs.length ≤ sizeLine →
    ∃ (ys : List β) (S' : Store), cGo g t e [] l (xs.map en) k S = some (ys.map eo, S') ∧ Drew n S S' ∧ All2 Q xs ys
  | [], S, k, _, c, _ => ⟨[], S, cGo_nil trivial, Drew.refl c, .nil⟩
  | x :: xs, S, k, h, c, hk => by
    obtain ⟨y, S1, e1, d1, q1⟩ := h x (.head _) S (Drew.refl c)
    rw [List.length_cons] at hk
    obtain ⟨ys, S2, e2, d2, q2⟩ := cGo_draw (xs := xs) (S := S1) (k := k + 1) (fun z hz S' d => h z (.tail _ hz) S' (d1.trans d)) d1.cup (by omega)
    refine ⟨y :: ys, S2, ?_, d1.trans d2, .cons q1 q2⟩
    rw [List.map_cons, cGo_some (w := []) trivial e1 (by omega), e2]
    rfl
/-- each item is taken or left, as a draw says -/
theorem cGo_sub {α : Type} {en : α → D} {n : Nat} {g : Tgt} {t : L → Store → R Bool} {e : L → Store → R D} {l : L} : ∀ {xs : List α} {S : Store} {k : Nat},
    (∀ x ∈ xs, ∀ S', Drew n S S' → ∃ (o : Bool) (S'' : Store), cStep g t e l (en x) S' = some (if o then some (en x) else none, S'') ∧ Drew n S' S'') → CupOk S n → k + xs.length ≤ sizeLine →
    ∃ (ys : List α) (S' : Store), cGo g t e [] l (xs.map en) k S = some (ys.map en, S') ∧ Drew n S S' ∧ ys.Sublist xs
  | [], S, k, _, c, _ => ⟨[], S, cGo_nil trivial, Drew.refl c, .slnil⟩
  | x :: xs, S, k, h, c, hk => by
    obtain ⟨o, S1, e1, d1⟩ := h x (.head _) S (Drew.refl c)
    rw [List.length_cons] at hk
    cases o with
    | true =>
      obtain ⟨ys, S2, e2, d2, q2⟩ := cGo_sub (en := en) (xs := xs) (S := S1) (k := k + 1) (fun z hz S' d => h z (.tail _ hz) S' (d1.trans d)) d1.cup (by omega)
      exact ⟨x :: ys, S2, by rw [List.map_cons, cGo_some (w := []) trivial e1 (by omega), e2]; rfl, d1.trans d2, .cons_cons _ q2⟩
    | false =>
      obtain ⟨ys, S2, e2, d2, q2⟩ := cGo_sub (en := en) (xs := xs) (S := S1) (k := k) (fun z hz S' d => h z (.tail _ hz) S' (d1.trans d)) d1.cup (by omega)
      exact ⟨ys, S2, by rw [List.map_cons, cGo_none (w := []) trivial e1, e2], d1.trans d2, .cons _ q2⟩
theorem ten30 : (10 : Int) ^ 30 = 1000000000000000000000000000000 := by decide
theorem amount_ok {n : Nat} {b : Bool} {S : Store} (h : CupOk S n) : ∃ (v : Int) (S' : Store), F__law_amount [.loc n, .bl b] S = .ok (.int v) S' ∧ Drew n S S' ∧ 0 ≤ v ∧ v ≤ 1000000000000000000000000000000 ∧ (b = true → v < 4) := by
  unfold F__law_amount bf__law_amount
  cases b with
  | true =>
    obtain ⟨v, S1, e1, d1, v0, v1⟩ := sip_ok (t := 4) h (by omega) (by omega)
    refine ⟨v, S1, ?_, d1, v0, by omega, fun _ => v1⟩
    simp [e1]
  | false =>
    obtain ⟨v, S1, e1, d1, v0, v1⟩ := sip_ok (t := 4) h (by omega) (by omega)
    have hP1 : CPow 10 30 := by decide
    have hP2 : CPow 10 29 := by decide
    have hP3 : CPow 10 15 := by decide
    by_cases hv : v = 0
    · subst hv
      obtain ⟨a, S2, e2, d2, a0, a1⟩ := sip_ok (t := 5) d1.cup (by omega) (by omega)
      obtain ⟨c, S3, e3, d3, c0, c1⟩ := sip_ok (t := 3) d2.cup (by omega) (by omega)
      have : a = 0 ∨ a = 1 ∨ a = 2 ∨ a = 3 ∨ a = 4 := by omega
      rcases this with rfl | rfl | rfl | rfl | rfl <;>
        exact ⟨_, S3, by simp [e1, e2, e3, hP1, hP2, hP3]; rfl, (d1.trans d2).trans d3, by omega, by omega, nofun⟩
    · obtain ⟨a, S2, e2, d2, a0, a1⟩ := sip_ok (t := 4) d1.cup (by omega) (by omega)
      exact ⟨a, S2, by simp [e1, e2, hv], d1.trans d2, by omega, by omega, nofun⟩
structure Srt where
  nm : Str
  gv : List Str
  num : Int
  mst : Int
  ill : Option Int
structure Sk where
  tops : List Str
  clk : List (List Int)
  srt : List Srt
def srtD (s : Srt) : D := .lst [.str s.nm, .lst (s.gv.map .str), .int s.num, .int s.mst, illD s.ill]
def rowD (r : List Int) : D := .lst (r.map .int)
def skD (k : Sk) : D := .lst [.lst (k.tops.map .str), .lst (k.clk.map rowD), .lst (k.srt.map srtD)]
structure SrtOk (tops : List Str) (small : Bool) (s : Srt) : Prop where
  nm : s.nm ∈ menu
  gv : s.gv ≠ []
  sub : s.gv.Sublist tops
  n0 : 0 ≤ s.num
  n1 : s.num ≤ 1000000000000000000000000000000
  m0 : 1 ≤ s.mst
  m1 : s.mst ≤ 3
  i : ∀ i, s.ill = some i → 0 ≤ i ∧ i ≤ 1000000000000000000000000000000
  sm : small = true → s.num ≤ 5
structure SkOk (small : Bool) (k : Sk) : Prop where
  t0 : 1 ≤ k.tops.length
  t1 : k.tops.length ≤ 3
  tn : k.tops.Nodup
  tm : ∀ t ∈ k.tops, t ∈ menu
  c0 : 1 ≤ k.clk.length
  c1 : k.clk.length ≤ 2
  cl : ∀ r ∈ k.clk, r.length = k.tops.length
  cv : ∀ r ∈ k.clk, ∀ x ∈ r, 0 ≤ x ∧ x ≤ 1000000000000000000000000000000
  cs : small = true → ∀ r ∈ k.clk, ∀ x ∈ r, x < 4
  s0 : 1 ≤ k.srt.length
  s1 : k.srt.length ≤ 4
  s2 : small = true → k.srt.length ≤ 3
  sn : (k.srt.map Srt.nm).Nodup
  so : ∀ s ∈ k.srt, SrtOk k.tops small s
theorem Drew.keep {n m : Nat} {S S' : Store} {o : Ob} (d : Drew n S S') (h : S[m]? = some o) (ne : m ≠ n) : S'[m]? = some o := (d.old m ne).trans h
theorem fin_drew {n : Nat} {S S' : Store} {d d' : D} (hn : n < S.length) (c : CupOk S' n) (hl : S.length ≤ S'.length) (ho : ∀ i, i ≠ n → i < S.length → S'[i]? = S[i]?) (hz : frz S.length S' 9 d = some d') :
    fin true S d S' = .ok d' (S'.take S.length) ∧ Drew n S (S'.take S.length) := by
  refine ⟨?_, ?_, ?_, ?_⟩
  · unfold fin
    rw [if_pos rfl, if_pos, hz]
    · rfl
    refine ⟨hl, fun i o hi h => ?_⟩
    by_cases e : i = n
    · subst e
      obtain ⟨a, m, c, h2, _⟩ := c
      rw [h] at h2
      cases h2
      exact .inr rfl
    · exact .inl (by rw [← ho i e hi]; exact h)
  · obtain ⟨a, m, c, h2, r⟩ := c
    exact ⟨a, m, c, by rw [List.getElem?_take_of_lt hn]; exact h2, r⟩
  · rw [List.length_take]
    omega
  · intro i hi
    by_cases h : i < S.length
    · rw [List.getElem?_take_of_lt h]
      exact ho i hi h
    · rw [List.getElem?_eq_none (by rw [List.length_take]; omega), List.getElem?_eq_none (by omega)]
theorem noLocs_map {α : Type} {f : α → D} (h : ∀ x, noLoc (f x) = true) : ∀ xs : List α, noLocs (xs.map f) = true
  | [] => rfl
  | x :: xs => by
    rw [List.map_cons, noLocs, h x, noLocs_map h xs]
    rfl
@[simp] theorem noLoc_str (x : Str) : noLoc (.str x) = true := rfl
@[simp] theorem noLoc_int (x : Int) : noLoc (.int x) = true := rfl
@[simp] theorem noLoc_ill (x : Option Int) : noLoc (illD x) = true := by cases x <;> rfl
@[simp] theorem noLocs_str (xs : List Str) : noLocs (xs.map .str) = true := noLocs_map (fun _ => rfl) xs
@[simp] theorem noLocs_int (xs : List Int) : noLocs (xs.map .int) = true := noLocs_map (fun _ => rfl) xs
@[simp] theorem noLoc_rowD (r : List Int) : noLoc (rowD r) = true := noLocs_int r
@[simp] theorem noLoc_srtD (s : Srt) : noLoc (srtD s) = true := by
  simp [srtD, noLoc, noLocs]
@[simp] theorem noLocs_rowD (xs : List (List Int)) : noLocs (xs.map rowD) = true := noLocs_map noLoc_rowD xs
@[simp] theorem noLocs_srtD (xs : List Srt) : noLocs (xs.map srtD) = true := noLocs_map noLoc_srtD xs
theorem frz_list {n0 : Nat} {S : Store} {f : Nat} {xs : List D} (h : noLocs xs = true) : (xs.mapM (frz n0 S f)) = some xs := by
  induction xs with
  | nil => rfl
  | cons x xs ih =>
    unfold noLocs at h
    rw [Bool.and_eq_true] at h
    rw [List.mapM_cons, frz_flat h.1, ih h.2]
    rfl
theorem frz_loc {n0 n : Nat} {S : Store} {f : Nat} {xs : List D} (h : S[n]? = some (.lst xs)) (hn : n0 ≤ n) (hx : noLocs xs = true) : frz n0 S (f + 1) (.loc n) = some (.lst xs) := by
  unfold frz
  rw [if_neg (by simp [noLoc])]
  dsimp only
  rw [if_pos hn, h]
  dsimp only
  rw [frz_list hx]
  rfl
theorem strOk_menu : ∀ w ∈ menu, PyData.strOk w = true := by decide +kernel
theorem CupOk.app {n : Nat} {S : Store} (h : CupOk S n) (x : Store) : CupOk (S ++ x) n := by
  obtain ⟨a, m, c, e, r⟩ := h
  exact ⟨a, m, c, by rw [List.getElem?_append_left (List.getElem?_eq_some_iff.mp e).1]; exact e, r⟩
theorem cutD_int {α : Type} (xs : List α) {i : Int} (h : 0 ≤ i) : cutD xs none (some i) = xs.take i.toNat := by
  obtain ⟨k, rfl⟩ := Int.eq_ofNat_of_zero_le h
  rw [cutD_hi]
  rfl
structure SkInv (S : Store) (n : Nat) (ts goal : List Str) (b : Bool) (pre : List (Option D)) (zs : List Str) (l : L) (S' : Store) : Prop where
  ex : ∃ (done : List Srt) (o8 o9 o10 o11 o12 o13 o14 : Option D), l = pre ++ [o8, o9, o10, o11, o12, o13, o14] ∧ CupOk S' n ∧ S'.length = S.length + 1 ∧ S'[S.length]? = some (.lst (done.map srtD)) ∧ (∀ i, i ≠ n → i < S.length → S'[i]? = S[i]?) ∧ done.map Srt.nm ++ zs = goal ∧ ∀ s ∈ done, SrtOk ts b s
theorem sketch_ok {n : Nat} {b : Bool} {S : Store} (h : CupOk S n) (hn : n < S.length) : ∃ (k : Sk) (S' : Store), F__law_sketch [.loc n, .bl b] S = .ok (skD k) S' ∧ Drew n S S' ∧ SkOk b k := by
  obtain ⟨w, S1, e1, d1, w0, w1⟩ := sip_ok (t := 3) h (by omega) (by omega)
  obtain ⟨dp, S2, e2, d2, dp0, dp1⟩ := sip_ok (t := 2) d1.cup (by omega) (by omega)
  obtain ⟨ts, S3, e3, d3, tl, tn, tm⟩ := words_ok (t := 1 + w) d2.cup (by omega) (by omega)
  obtain ⟨ns, S4, e4, d4, nl, nn, nm⟩ := words_ok (t := 4) d3.cup (by omega) (by omega)
  have d04 := ((d1.trans d2).trans d3).trans d4
  unfold F__law_sketch bf__law_sketch
  simp [e1, e2, e3, e4, rg1_int (show 0 ≤ 1 + dp by omega) (show 1 + dp < 4611686018427387904 by omega)]
  generalize hc : cGo _ _ _ _ _ _ _ _ = r
  obtain ⟨rows, S5, rfl, d5, q5⟩ : ∃ (ys : List (List Int)) (S' : Store), r = some (ys.map rowD, S') ∧ Drew n S4 S' ∧ All2 (fun _ (r : List Int) => (r.length : Int) = 1 + w ∧ ∀ x ∈ r, 0 ≤ x ∧ x ≤ 1000000000000000000000000000000 ∧ (b = true → x < 4)) (List.range (1 + dp).toNat) ys := by
    rw [← hc]
    refine cGo_draw (fun x hx S' d => ?_) d04.cup (by simp; omega)
    simp [cStep, rg1_int (show 0 ≤ 1 + w by omega) (show 1 + w < 4611686018427387904 by omega)]
    generalize hc : cGo _ _ _ _ _ _ _ _ = r2
    obtain ⟨row, S6, rfl, d6, q6⟩ : ∃ (ys : List Int) (S'' : Store), r2 = some (ys.map .int, S'') ∧ Drew n S' S'' ∧ All2 (fun _ x => 0 ≤ x ∧ x ≤ 1000000000000000000000000000000 ∧ (b = true → x < 4)) (List.range (1 + w).toNat) ys := by
      rw [← hc]
      refine cGo_draw (fun x hx S'' d' => ?_) d.cup (by simp; omega)
      obtain ⟨v, S6, e6, d6, q6⟩ := amount_ok (b := b) d'.cup
      exact ⟨v, S6, by simp [cStep, e6], d6, q6⟩
    clear hc
    have := q6.length
    exact ⟨row, S6, rfl, d6, by simp at this; omega, q6.right fun _ _ h => h⟩
  clear hc
  simp
  obtain ⟨tt, htt, tt0, tt1, tt2⟩ : ∃ tt : Int, (if b = true then R.ok (D.int 3) (S5 ++ [Ob.lst []]) else R.ok (D.int 4) (S5 ++ [Ob.lst []])) = R.ok (D.int tt) (S5 ++ [Ob.lst []]) ∧ 0 < tt ∧ tt ≤ 4 ∧ (b = true → tt ≤ 3) := by
    cases b
    · exact ⟨4, rfl, by omega, by omega, nofun⟩
    · exact ⟨3, rfl, by omega, by omega, fun _ => by omega⟩
  rw [htt]
  have d05 := d04.trans d5
  have hn5 : n < S5.length := by rw [d05.len]; exact hn
  obtain ⟨v, S6, e6, d6, v0, v1⟩ := sip_ok (t := tt) (d05.cup.app [Ob.lst []]) tt0 (by omega)
  simp [e6, cutD_int _ (show 0 ≤ 1 + v by omega)]
  have hP : CPow 10 30 := by decide
  generalize hc : forGo _ _ _ _ _ _ = r
  obtain ⟨done, l1, S7, rfl, c7, l7, h7, o7, nm7, s7⟩ : ∃ (done : List Srt) (l1 : List (Option D)) (S7 : Store), r = .nx ([some (D.loc n), some (D.bl b), some (D.int (1 + w)), some (D.int (1 + dp)), some (D.lst (List.map D.str ts)), some (D.lst (List.map D.str ns)), some (D.lst (List.map rowD rows)), some (D.loc S5.length)] ++ l1) S7 ∧
      CupOk S7 n ∧ S7.length = S.length + 1 ∧ S7[S.length]? = some (.lst (done.map srtD)) ∧ (∀ i, i ≠ n → i < S.length → S7[i]? = S[i]?) ∧ done.map Srt.nm = ns.take (1 + v).toNat ∧ ∀ s ∈ done, SrtOk ts b s := by
    rw [← hc]
    clear hc
    rw [← List.map_take]
    refine forGo_inv (en := D.str) (xs := ns.take (1 + v).toNat) (SkInv S n ts (ns.take (1 + v).toNat) b [some (D.loc n), some (D.bl b), some (D.int (1 + w)), some (D.int (1 + dp)), some (D.lst (List.map D.str ts)), some (D.lst (List.map D.str ns)), some (D.lst (List.map rowD rows)), some (D.loc S5.length)])
      (fun r => ∃ (done : List Srt) (l1 : List (Option D)) (S7 : Store), r = .nx ([some (D.loc n), some (D.bl b), some (D.int (1 + w)), some (D.int (1 + dp)), some (D.lst (List.map D.str ts)), some (D.lst (List.map D.str ns)), some (D.lst (List.map rowD rows)), some (D.loc S5.length)] ++ l1) S7 ∧
      CupOk S7 n ∧ S7.length = S.length + 1 ∧ S7[S.length]? = some (.lst (done.map srtD)) ∧ (∀ i, i ≠ n → i < S.length → S7[i]? = S[i]?) ∧ done.map Srt.nm = ns.take (1 + v).toNat ∧ ∀ s ∈ done, SrtOk ts b s) ?_ ?_ (fun z h => h) ?_
    · rintro l S' ⟨⟨done, o8, o9, o10, o11, o12, o13, o14, rfl, c, hl, hd, ho, hnm, hs⟩⟩
      exact ⟨trivial, done, _, S', rfl, c, hl, hd, ho, by simpa using hnm, hs⟩
    · rintro x ys l S' hx ⟨⟨done, o8, o9, o10, o11, o12, o13, o14, rfl, c, hl, hd, ho, hnm, hs⟩⟩
      refine ⟨trivial, _, rfl, ?_⟩
      have hxm : x ∈ menu := nm x (List.mem_of_mem_take hx)
      simp
      generalize hc : cGo _ _ _ _ _ _ _ _ = r1
      obtain ⟨gv, S8, rfl, d8, sub⟩ : ∃ (ys : List Str) (S8 : Store), r1 = some (ys.map D.str, S8) ∧ Drew n S' S8 ∧ ys.Sublist ts := by
        rw [← hc]
        refine cGo_sub (fun x hx S'' d' => ?_) c (by simp; omega)
        obtain ⟨u, S9, e9, d9, u0, u1⟩ := sip_ok (t := 3) d'.cup (by omega) (by omega)
        by_cases hu : 0 < u
        · exact ⟨true, S9, by simp [cStep, e9, hu], d9⟩
        · exact ⟨false, S9, by simp [cStep, e9, hu], d9⟩
      clear hc
      obtain ⟨u, S9, e9, d9, u0, u1⟩ := sip_ok (t := 2) d8.cup (by omega) (by omega)
      obtain ⟨ill, S10, e10, d10, hill⟩ : ∃ (ill : Option Int) (S10 : Store), (if u = 0 then R.ok D.non S9 else F__law_amount [D.loc n, D.bl b] S9) = .ok (illD ill) S10 ∧ Drew n S9 S10 ∧ ∀ i, ill = some i → 0 ≤ i ∧ i ≤ 1000000000000000000000000000000 := by
        by_cases hu : u = 0
        · exact ⟨none, S9, if_pos hu, Drew.refl d9.cup, nofun⟩
        · obtain ⟨i, S10, e10, d10, i0, i1, _⟩ := amount_ok (b := b) d9.cup
          exact ⟨some i, S10, by rw [if_neg hu, e10]; rfl, d10, fun j hj => by cases hj; exact ⟨i0, i1⟩⟩
      obtain ⟨am, S11, e11, d11, am0, am1, am2⟩ := amount_ok (b := b) d10.cup
      obtain ⟨ad, S12, e12, d12, ad0, ad1⟩ := sip_ok (t := 3) d11.cup (by omega) (by omega)
      obtain ⟨ms, S13, e13, d13, ms0, ms1⟩ := sip_ok (t := 3) d12.cup (by omega) (by omega)
      have d813 := ((((d8.trans d9).trans d10).trans d11).trans d12).trans d13
      have d812 := (((d8.trans d9).trans d10).trans d11).trans d12
      have hd12 : S12[S5.length]? = some (.lst (done.map srtD)) := by rw [d05.len]; exact d812.keep hd (by omega)
      have hd13 : S13[S5.length]? = some (.lst (done.map srtD)) := by rw [d05.len]; exact d813.keep hd (by omega)
      have hl13 : S13.length = S.length + 1 := d813.len.trans hl
      have hlt : done.length < 16777216 := by
        have := congrArg List.length hnm
        simp at this
        omega
      obtain ⟨gv2, g1, g2, g3⟩ : ∃ gv2 : List Str, (if gv = [] then R.ok (D.lst (List.take 1 (List.map D.str ts))) S12 else R.ok (D.lst (List.map D.str gv)) S12) = R.ok (.lst (gv2.map D.str)) S12 ∧ gv2 ≠ [] ∧ gv2.Sublist ts := by
        cases gv with
        | nil => exact ⟨ts.take 1, by rw [List.map_take]; rfl, by
            cases ts with
            | nil => simp at tl; omega
            | cons t ts => simp, List.take_sublist 1 ts⟩
        | cons y gv => exact ⟨y :: gv, rfl, by simp, sub⟩
      have hgv : doks 0 (gv.map D.str) = true := doks_map fun y hy => by
        rw [dok_str]
        exact strOk_menu y (tm y (sub.subset hy))
      simp [e9]
      rw [e10]
      simp [e11, e12, pNe_nil 0 hgv, hd12]
      rw [g1]
      simp [hP, e13, hd13, hlt]
      have hn5l : S5.length < S13.length := by rw [hl13, d05.len]; omega
      refine ⟨⟨done ++ [⟨x, gv2, min (am + ad) 1000000000000000000000000000000, 1 + ms, ill⟩], _, _, _, _, _, _, _, rfl, ?_, ?_, ?_, ?_, by simpa using hnm, ?_⟩⟩
      · obtain ⟨a, m, c, h2, r⟩ := d13.cup
        exact ⟨a, m, c, by rw [List.getElem?_set_ne (by omega)]; exact h2, r⟩
      · rw [List.length_set, hl13]
      · rw [← d05.len, List.getElem?_set_self hn5l, List.map_append]
        rfl
      · intro i hi h2
        rw [List.getElem?_set_ne (by rw [d05.len]; omega), d813.old i hi, ho i hi h2]
      · intro s hs2
        rcases List.mem_append.mp hs2 with h | h
        · exact hs s h
        · rw [List.mem_singleton] at h
          subst h
          exact ⟨hxm, g2, g3, by show 0 ≤ min _ _; omega, by show min _ _ ≤ _; omega, by show 1 ≤ 1 + ms; omega, by show 1 + ms ≤ 3; omega, hill, fun hb => by have := am2 hb; show min _ _ ≤ _; omega⟩
    · refine ⟨⟨[], _, _, _, _, _, _, _, rfl, d6.cup, by rw [d6.len, List.length_append, d05.len]; rfl, ?_, ?_, rfl, fun _ h => nomatch h⟩⟩
      · rw [d6.old _ (by omega), ← d05.len]
        simp
      · intro i hi h2
        rw [d6.old _ hi, List.getElem?_append_left (by rw [d05.len]; exact h2), d05.old _ hi]
  clear hc
  simp
  have hz : frz S.length S7 9 (D.lst [D.lst (List.map D.str ts), D.lst (List.map rowD rows), D.loc S5.length]) = some (skD ⟨ts, rows, done⟩) := by
    unfold frz
    rw [if_neg (by simp [noLoc, noLocs])]
    dsimp only
    rw [List.mapM_cons, List.mapM_cons, List.mapM_cons, List.mapM_nil, frz_flat (by simp [noLoc]), frz_flat (by simp [noLoc]), d05.len, frz_loc h7 (Nat.le_refl _) (by simp)]
    rfl
  obtain ⟨ef, df⟩ := fin_drew hn c7 (by omega) o7 hz
  have q5l := q5.length
  have nml := congrArg List.length nm7
  simp at q5l nml
  refine ⟨⟨ts, rows, done⟩, _, ef, df, ⟨by show 1 ≤ ts.length; omega, by show ts.length ≤ 3; omega, tn, tm, by show 1 ≤ rows.length; omega, by show rows.length ≤ 2; omega, fun r hr => ?_, fun r hr => ?_, fun hb r hr x hx => ?_, ?_, ?_, ?_, ?_, s7⟩⟩
  · have := q5.right (P := fun r => (r.length : Int) = 1 + w) (fun _ _ h => h.1) r hr
    show r.length = ts.length
    omega
  · have := q5.right (P := fun r => ∀ x ∈ r, 0 ≤ x ∧ x ≤ 1000000000000000000000000000000) (fun _ _ h x hx => ⟨(h.2 x hx).1, (h.2 x hx).2.1⟩) r hr
    exact this
  · exact q5.right (P := fun r => ∀ x ∈ r, x < 4) (fun _ _ h x hx => (h.2 x hx).2.2 hb) r hr x hx
  · show 1 ≤ done.length
    omega
  · show done.length ≤ 4
    omega
  · intro hb
    have := tt2 hb
    show done.length ≤ 3
    omega
  · show (done.map Srt.nm).Nodup
    rw [nm7]
    exact nn.sublist (List.take_sublist _ _)
def tq (b : Bool) (xs : List D) : D := if b then .tpn xs else .tup xs
section
variable (b : Bool) (xs ys : List D) (S : Store)
@[simp] theorem nt_tq : nt (tq b xs) = .tup xs := by cases b <;> rfl
@[simp] theorem pLenS_tq : pLenS [tq b xs] S = some (.int xs.length) := by cases b <;> rfl
@[simp] theorem pLen_tq : pLen [tq b xs] S = some (.int xs.length) := by cases b <;> rfl
@[simp] theorem pIx_tq (i : Int) : pIx (tq b xs) (.int i) S = atI xs i := by cases b <;> rfl
@[simp] theorem itemsV_tq : itemsV (tq b xs) S = some (xs, []) := by cases b <;> rfl
@[simp] theorem sq1_tq : sq1 (tq b xs) S = some (xs, []) := by cases b <;> rfl
@[simp] theorem seqD_tq : seqD (tq b xs) S = some xs := by cases b <;> rfl
@[simp] theorem isiT_tq (T : String) : isiT T (tq b xs) S = some (.bl (subT "tuple" T)) := by cases b <;> rfl
@[simp] theorem pSl_tq (lo hi : Option Int) : pSl (tq b xs) lo hi S = some (.tup (cutD xs lo hi)) := by cases b <;> rfl
@[simp] theorem pTuple_tq : pTuple [tq b xs] S = some (tq b xs) := by cases b <;> rfl
@[simp] theorem pIsN_tq : pIsN (tq b xs) .non S = some (.bl false) := by cases b <;> rfl
@[simp] theorem pNotN_tq : pNotN (tq b xs) .non S = some (.bl true) := by cases b <;> rfl
@[simp] theorem dok_tq (n : Nat) : dok (n + 1) (tq b xs) = doks n xs := by cases b <;> rfl
@[simp] theorem noLoc_tq : noLoc (tq b xs) = noLocs xs := by cases b <;> (simp [tq, noLoc])
theorem encD_tq {n : Nat} (h : doks n xs = true) : encD (tq b xs) = .tuple (xs.map encD) := by
  cases b
  · exact encD_tup h
  · exact encD_tpn h
end
def isLet (c : Nat) : Bool := decide (c ∈ ("abcdefghijklmnopqrstuvwxyz" : Str).cps)
def allLet (w : Str) : Bool := w.cps.all isLet
def isNameB (w : Str) : Bool := decide (0 < w.length) && (decide (w.length < 9) && allLet w)
def numOk (i : Int) : Prop := 0 ≤ i ∧ i ≤ 1000000000000000000000000000000
theorem pIn_one (x : Str) (c : Nat) (S : Store) : pIn (.str ⟨#[c]⟩) (.str x) S = some (.bl (decide (c ∈ x.cps))) := by
  show some (D.bl (!(Builtin.Str.occurrences x ⟨#[c]⟩ 0 x.length 1).isEmpty)) = _
  rw [StrLaws.found_one]
  simp
theorem is_name_ok (w : Str) (S : Store) (h : w.length ≤ 16777216) : F_is_name [.str w] S = .ok (.bl (isNameB w)) S := by
  unfold F_is_name bf_is_name isNameB
  by_cases h1 : 0 < w.length
  · by_cases h2 : w.length < 9
    · have h3 : (w.length : Int) < 9 := by omega
      simp [h, h1, h2, h3]
      rw [cGo_map (en := fun c => D.str ⟨#[c]⟩) (f := fun c => D.bl (isLet c))]
      · simp
        unfold allLet
        rfl
      · intro c hc
        simp [cStep, pIn_one]
        rfl
      · simp
        exact h
      · trivial
    · have h3 : ¬ (w.length : Int) < 9 := by omega
      simp [h, h1, h2, h3]
  · simp [h, h1]
theorem is_integer_i (i : Int) (S : Store) : F_is_integer [.int i] S = .ok (.bl true) S := by
  unfold F_is_integer bf_is_integer
  simp
theorem is_between_i (i a b : Int) (S : Store) : F_is_between [.int i, .int a, .int b] S = .ok (.bl (decide (a ≤ i) && decide (i ≤ b))) S := by
  unfold F_is_between bf_is_between
  by_cases h : a ≤ i
  · simp [is_integer_i, h]
  · simp [is_integer_i, h]
theorem is_number_i (i : Int) (S : Store) : F_is_number [.int i] S = .ok (.bl (decide (0 ≤ i) && decide (i ≤ 1000000000000000000000000000000))) S := by
  unfold F_is_number bf_is_number
  simp [is_between_i]
theorem is_number_ok {i : Int} (h : numOk i) (S : Store) : F_is_number [.int i] S = .ok (.bl true) S := by
  rw [is_number_i]
  simp [h.1, h.2]
structure Kd where
  nm : Str
  gv : List Str
  num : Int
  mst : Int
  ill : Option Int
  t0 : Bool
  t1 : Bool
structure Hr where
  ns : List Int
  t : Bool
structure Pl where
  subs : List Str
  hrs : List Hr
  kds : List Kd
  ts : Bool
  th : Bool
  tk : Bool
def strsT (b : Bool) (xs : List Str) : D := tq b (xs.map .str)
def kdD (k : Kd) : D := tq k.t0 [.str k.nm, tq k.t1 (k.gv.map .str), .int k.num, .int k.mst, illD k.ill]
def hrD (h : Hr) : D := tq h.t (h.ns.map .int)
def subsD (p : Pl) : D := tq p.ts (p.subs.map .str)
def hrsD (p : Pl) : D := tq p.th (p.hrs.map hrD)
def kdsD (p : Pl) : D := tq p.tk (p.kds.map kdD)
def plD (p : Pl) : D := .ins "Plan" ["told"] [.tup [subsD p, hrsD p, kdsD p]]
structure KdOk (subs : List Str) (k : Kd) : Prop where
  nm : isNameB k.nm = true
  gv : k.gv ≠ []
  gn : ∀ g ∈ k.gv, isNameB g = true
  sub : k.gv = subs.filter fun s => decide (s ∈ k.gv)
  num : numOk k.num
  m0 : 1 ≤ k.mst
  m1 : k.mst ≤ 3
  ill : ∀ i, k.ill = some i → numOk i
structure HrOk (subs : List Str) (h : Hr) : Prop where
  len : h.ns.length = subs.length
  num : ∀ n ∈ h.ns, 0 ≤ n
structure PlOk (p : Pl) : Prop where
  s0 : p.subs ≠ []
  s1 : p.subs.length ≤ 4
  sn : p.subs.Nodup
  sm : ∀ s ∈ p.subs, isNameB s = true
  h0 : p.hrs ≠ []
  h1 : p.hrs.length ≤ 3
  h2 : p.hrs.length * p.subs.length ≤ 9
  ho : ∀ h ∈ p.hrs, HrOk p.subs h
  k0 : p.kds ≠ []
  k1 : p.kds.length ≤ 5
  kn : (p.kds.map Kd.nm).Nodup
  ko : ∀ k ∈ p.kds, KdOk p.subs k
/-- the rows hold numbers that a plan may have -/
def RowsOk (p : Pl) : Prop := ∀ h ∈ p.hrs, ∀ n ∈ h.ns, numOk n
theorem name_len {w : Str} (h : isNameB w = true) : 0 < w.length ∧ w.length < 9 := by
  unfold isNameB at h
  simp at h
  exact ⟨h.1, h.2.1⟩
theorem is_name_yes {w : Str} (h : isNameB w = true) (S : Store) : F_is_name [.str w] S = .ok (.bl true) S := by
  rw [is_name_ok w S (by have := name_len h; omega), h]
theorem enuD_map {α : Type} (f : α → D) (xs : List α) : enuD (xs.map f) = xs.zipIdx.map fun p => D.tup [.int (p.2 : Int), f p.1] := by
  unfold enuD
  refine List.ext_getElem? fun i => ?_
  simp [List.getElem?_zipWith, List.getElem?_zipIdx]
  by_cases h : i < xs.length
  · simp [h]
  · simp [h]
/-- each item passes: the slots keep a shape, the store is as it was -/
theorem forGo_pass {α : Type} {en : α → D} {Sh : L → Prop} {g : Tgt} {b : L → Store → Fl} {S : Store} : ∀ {xs : List α} {l : L}, (∀ l x, x ∈ xs → Sh l → ∃ as l', g (en x) S = some as ∧ b (setA l as) S = .nx l' S ∧ Sh l') → Sh l →
    ∃ l', forGo g b [] (xs.map en) l S = .nx l' S ∧ Sh l'
  | [], l, _, hl => ⟨l, forGo_nil trivial, hl⟩
  | x :: xs, l, h, hl => by
    obtain ⟨as, l1, h1, h2, h3⟩ := h l x (.head _) hl
    obtain ⟨l2, h4, h5⟩ := forGo_pass (xs := xs) (fun l y hy => h l y (.tail _ hy)) h3
    refine ⟨l2, ?_, h5⟩
    rw [List.map_cons, forGo_cons (w := []) trivial h1, h2]
    exact h4
theorem pIn_strs {w : Str} {xs : List Str} (d : D) (S : Store) (h : nt d = .tup (xs.map .str)) : pIn (.str w) d S = some (.bl (decide (w ∈ xs))) := by
  unfold pIn
  rw [h]
  dsimp only
  rw [if_pos (by simp [pIn.flats])]
  congr 2
  rw [Bool.eq_iff_iff]
  simp [List.any_map, pIn.eqF]
theorem not_mem_take {α : Type} {xs : List α} {x : α} {i : Nat} (hn : xs.Nodup) (h : xs[i]? = some x) : x ∉ xs.take i := by
  intro hx
  obtain ⟨j, hj, e⟩ := List.mem_iff_getElem.mp hx
  rw [List.length_take] at hj
  rw [List.getElem_take] at e
  have hi : i < xs.length := (List.getElem?_eq_some_iff.mp h).1
  have h' : xs[i] = x := (List.getElem?_eq_some_iff.mp h).2
  exact List.pairwise_iff_getElem.mp (List.nodup_iff_pairwise_ne.mp hn) j i (by omega) hi (by omega) (e.trans h'.symm)
theorem all_true {α : Type} (xs : List α) : ((xs.map fun _ => true).all id) = true := by simp
theorem is_row_ok {subs : List Str} {h : Hr} {b : Bool} {S : Store} (ok : HrOk subs h) (rb : ∀ n ∈ h.ns, numOk n) (hl : subs.length ≤ 1000) : F_is_row [tq b (subs.map .str), hrD h] S = .ok (.bl true) S := by
  unfold F_is_row bf_is_row hrD
  simp [ok.len]
  rw [cGo_map (en := D.int) (f := fun _ => D.bl true)]
  · simp
  · intro i hi
    simp [cStep, is_number_ok (rb i hi)]
  · simp [ok.len]
    omega
  · trivial
theorem check_subjects_ok {subs : List Str} {b : Bool} {S : Store} (s0 : subs ≠ []) (s1 : subs.length ≤ 4) (sn : subs.Nodup) (sm : ∀ s ∈ subs, isNameB s = true) : F_check_subjects [tq b (subs.map .str)] S = .ok .non S := by
  unfold F_check_subjects bf_check_subjects
  simp [s0, enuD_map]
  generalize hc : forGo _ _ _ _ _ _ = r
  obtain ⟨_, rfl, o1, o2, rfl⟩ : ∃ l', r = .nx l' S ∧ ∃ o1 o2, l' = [some (tq b (subs.map .str)), o1, o2] := by
    rw [← hc]
    refine forGo_pass (en := fun p : Str × Nat => D.tup [.int (p.2 : Int), .str p.1]) (fun l p hp ⟨o1, o2, e⟩ => ?_) ⟨_, _, rfl⟩
    subst e
    obtain ⟨w, i⟩ := p
    have hg : subs[i]? = some w := List.mem_zipIdx_iff_getElem?.mp hp
    have hw : w ∈ subs := List.mem_of_getElem? hg
    have hi : i < subs.length := (List.getElem?_eq_some_iff.mp hg).1
    have hn : w ∉ subs.take i := not_mem_take sn hg
    have h4 : ¬ (4 : Int) ≤ i := by omega
    have hp : pIn (.str w) (.tup ((subs.map D.str).take i)) S = some (.bl false) := by
      rw [← List.map_take, pIn_strs _ _ rfl]
      simp [hn]
    simp [is_name_yes (sm w hw), hp, h4]
  rfl
theorem check_hours_ok {subs : List Str} {hrs : List Hr} {b b2 : Bool} {S : Store} (s1 : subs.length ≤ 1000) (h0 : hrs ≠ []) (h1 : hrs.length ≤ 3) (h2 : hrs.length * subs.length ≤ 9) (ho : ∀ h ∈ hrs, HrOk subs h) (rb : ∀ h ∈ hrs, ∀ n ∈ h.ns, numOk n) :
    F_check_hours [tq b (subs.map .str), tq b2 (hrs.map hrD)] S = .ok .non S := by
  unfold F_check_hours bf_check_hours
  simp [h0, enuD_map]
  generalize hc : forGo _ _ _ _ _ _ = r
  obtain ⟨_, rfl, o1, o2, o3, rfl⟩ : ∃ l', r = .nx l' S ∧ ∃ o1 o2 o3, l' = [some (tq b (subs.map .str)), some (tq b2 (hrs.map hrD)), o1, o2, o3] := by
    rw [← hc]
    refine forGo_pass (en := fun p : Hr × Nat => D.tup [.int (p.2 : Int), hrD p.1]) (fun l p hp ⟨o1, o2, o3, e⟩ => ?_) ⟨_, _, _, rfl⟩
    subst e
    obtain ⟨w, i⟩ := p
    have hg : hrs[i]? = some w := List.mem_zipIdx_iff_getElem?.mp hp
    have hw : w ∈ hrs := List.mem_of_getElem? hg
    have hi : i < hrs.length := (List.getElem?_eq_some_iff.mp hg).1
    have h3 : ¬ (3 : Int) ≤ i := by omega
    have h9 : ¬ (9 : Int) < ((i : Int) + 1) * subs.length := by
      have : (i + 1) * subs.length ≤ hrs.length * subs.length := Nat.mul_le_mul_right _ hi
      have : (((i + 1) * subs.length : Nat) : Int) ≤ 9 := by omega
      push_cast at this
      omega
    have hm : CMul ((i : Int) + 1) subs.length := CMul_l (by omega) (by omega)
    simp -implicitDefEqProofs [is_row_ok (ho w hw) (rb w hw) s1, h3, h9, pMul_ok hm]
  rfl
theorem strOk_name {w : Str} (h : isNameB w = true) : PyData.strOk w = true := by
  unfold isNameB allLet at h
  unfold PyData.strOk
  simp at h
  rw [Array.all_eq_true]
  intro i hi
  have := h.2.2 i hi
  unfold isLet at this
  have l : ∀ c ∈ ("abcdefghijklmnopqrstuvwxyz" : Str).cps, c < 0x110000 := by decide +kernel
  exact decide_eq_true (l _ (of_decide_eq_true this))
theorem dok_strs {n : Nat} {xs : List Str} (h : ∀ x ∈ xs, isNameB x = true) : doks n (xs.map .str) = true := doks_map fun x hx => by
  rw [dok_str]
  exact strOk_name (h x hx)
theorem eqv_tq {n : Nat} {b c : Bool} {xs : List D} (h : doks n xs = true) (hn : n < 64) (S : Store) : pEq (tq b xs) (tq c xs) S = some (.bl true) := by
  rw [pEq_dok (n + 1) (n + 1) S (by rw [dok_tq]; exact h) (by rw [dok_tq]; exact h) hn hn, encD_tq b _ h, encD_tq c _ h]
  have : PyData.canLay0 (.tuple (xs.map encD)) = true := by
    rw [PyData.canLay0]
    exact (doks_py h).2.1
  rw [eqv_refl this]
theorem is_gives_ok {subs gv : List Str} {b c : Bool} {S : Store} (g0 : gv ≠ []) (gn : ∀ g ∈ gv, isNameB g = true) (sub : gv = subs.filter fun s => decide (s ∈ gv)) (hl : subs.length ≤ 1000) (hm : ∀ g ∈ subs, isNameB g = true) :
    F_is_gives [tq b (subs.map .str), tq c (gv.map .str)] S = .ok (.bl true) S := by
  unfold F_is_gives bf_is_gives
  have hgl : gv.length ≤ subs.length := by
    rw [sub]
    exact List.length_filter_le _ _
  simp [g0]
  rw [cMap (en := D.str) (f := fun _ => D.bl true) (fun x hx => by simp [cStep, is_name_yes (gn x hx)]) (by omega)]
  simp
  rw [cFil (en := D.str) (f := D.str) (p := fun s => decide (s ∈ gv)) (fun x hx => by
    by_cases h : x ∈ gv
    · simp [cStep, pIn_strs (w := x) (xs := gv) (tq c (gv.map .str)) S (nt_tq _ _), h]
    · simp [cStep, pIn_strs (w := x) (xs := gv) (tq c (gv.map .str)) S (nt_tq _ _), h]) (by omega)]
  rw [← sub]
  simp
  have := eqv_tq (b := c) (c := true) (n := 0) (dok_strs gn) (by decide) S
  unfold tq at this ⊢
  simp at this
  simp [this]
theorem is_kind_ok {subs : List Str} {k : Kd} {b : Bool} {S : Store} (ok : KdOk subs k) (hl : subs.length ≤ 1000) (hm : ∀ g ∈ subs, isNameB g = true) : F_is_kind [tq b (subs.map .str), kdD k] S = .ok (.bl true) S := by
  unfold F_is_kind bf_is_kind kdD
  have hi : ∀ i, k.ill = some i → _ := ok.ill
  simp [is_name_yes ok.nm, is_gives_ok (b := b) (c := k.t1) (S := S) ok.gv ok.gn ok.sub hl hm, is_number_ok ok.num, is_between_i, ok.m0, ok.m1]
  cases h : k.ill with
  | none => simp [illD]
  | some i => simp [illD, is_number_ok (ok.ill i h)]
/-- a list with one text of it more -/
theorem pIn_loc {w : Str} {xs : List Str} {n : Nat} {S : Store} (h : S[n]? = some (.lst (xs.map .str))) (hw : PyData.strOk w = true) (hx : doks 0 (xs.map .str) = true) : pIn (.str w) (.loc n) S = some (.bl (decide (w ∈ xs))) := by
  rw [pIn_locL 0 0 h (by simpa using hw) hx (by decide) (by decide), encD_str, inP_strs]
theorem fin_true {S S' : Store} {d d' : D} (hl : S.length ≤ S'.length) (ho : ∀ i, i < S.length → S'[i]? = S[i]?) (hz : frz S.length S' 9 d = some d') : fin true S d S' = .ok d' S := by
  unfold fin
  have e : S'.take S.length = S := by
    refine List.ext_getElem? fun i => ?_
    by_cases h : i < S.length
    · rw [List.getElem?_take_of_lt h, ho i h]
    · rw [List.getElem?_eq_none (by rw [List.length_take]; omega), List.getElem?_eq_none (by omega)]
  rw [if_pos rfl, if_pos, hz, e]
  · rfl
  refine ⟨hl, fun i o hi h => .inl ?_⟩
  rw [← ho i hi]
  exact h
structure CkInv (subs : List Str) (kds : List Kd) (b b2 : Bool) (S : Store) (zs : List (Kd × Nat)) (l : L) (S' : Store) : Prop where
  ex : ∃ (i : Nat) (ws : List Str) (o1 o2 : Option D), ws = (kds.take i).map Kd.nm ∧ zs = (kds.zipIdx).drop i ∧ i ≤ kds.length ∧ l = [some (tq b (subs.map .str)), some (tq b2 (kds.map kdD)), some (.loc S.length), o1, o2] ∧ S' = S ++ [.lst (ws.map .str)]
theorem check_kinds_ok {subs : List Str} {kds : List Kd} {b b2 : Bool} {S : Store} (hl : subs.length ≤ 1000) (hm : ∀ g ∈ subs, isNameB g = true) (k0 : kds ≠ []) (k1 : kds.length ≤ 5) (kn : (kds.map Kd.nm).Nodup) (ko : ∀ k ∈ kds, KdOk subs k) :
    F_check_kinds [tq b (subs.map .str), tq b2 (kds.map kdD)] S = .ok .non S := by
  unfold F_check_kinds bf_check_kinds
  simp [k0, enuD_map]
  generalize hc : forGo _ _ _ _ _ _ = r
  obtain ⟨l1, S1, rfl, h1, h2⟩ : ∃ l1 S1, r = .nx l1 S1 ∧ S.length ≤ S1.length ∧ ∀ i, i < S.length → S1[i]? = S[i]? := by
    rw [← hc]
    clear hc
    refine forGo_inv (en := fun p : Kd × Nat => D.tup [.int (p.2 : Int), kdD p.1]) (xs := kds.zipIdx) (CkInv subs kds b b2 S) (fun r => ∃ l1 S1, r = .nx l1 S1 ∧ S.length ≤ S1.length ∧ ∀ i, i < S.length → S1[i]? = S[i]?) ?_ ?_ (fun z h => h) ⟨⟨0, _, _, _, rfl, rfl, Nat.zero_le _, rfl, rfl⟩⟩
    · rintro l S' ⟨i, ws, o1, o2, hws, hi, hi2, rfl, rfl⟩
      exact ⟨trivial, _, _, rfl, by simp, fun i hi => List.getElem?_append_left hi⟩
    · rintro ⟨k, j⟩ ys l S' hx ⟨i, ws, o1, o2, hws, hi, hi2, rfl, rfl⟩
      refine ⟨trivial, _, rfl, ?_⟩
      have hg : kds.zipIdx[i]? = some (k, j) := by
        have := congrArg (·[0]?) hi
        simpa using this.symm
      have hg2 : kds[i]? = some k ∧ i = j := by
        rw [List.getElem?_zipIdx] at hg
        cases h : kds[i]? with
        | none => rw [h] at hg; cases hg
        | some k' =>
          rw [h] at hg
          simp at hg
          exact ⟨by rw [hg.1], hg.2⟩
      obtain ⟨hg2, rfl⟩ := hg2
      have hil : i < kds.length := (List.getElem?_eq_some_iff.mp hg2).1
      have hk : k ∈ kds := List.mem_of_getElem? hg2
      have ok := ko k hk
      have hnn : k.nm ∉ ws := by
        rw [hws, List.map_take]
        exact not_mem_take kn (by rw [List.getElem?_map, hg2]; rfl)
      have hnm : ∀ x ∈ ws, isNameB x = true := fun x hx => by
        rw [hws] at hx
        obtain ⟨k', hk', rfl⟩ := List.mem_map.mp hx
        exact (ko k' (List.mem_of_mem_take hk')).nm
      have hS : (S ++ [Ob.lst (ws.map .str)])[S.length]? = some (.lst (ws.map .str)) := by simp
      have hin := pIn_loc (w := k.nm) hS (strOk_name ok.nm) (dok_strs hnm)
      have h5 : ¬ (5 : Int) ≤ i := by omega
      have hix : ∀ T, pIx (kdD k) (.int 0) T = some (.str k.nm) := fun T => by
        unfold kdD
        simp
      have hlt : ws.length < 16777216 := by rw [hws]; simp; omega
      rw [decide_eq_false hnn] at hin
      simp -implicitDefEqProofs [is_kind_ok ok hl hm, hix, hin, h5, hlt]
      refine ⟨⟨i + 1, ws ++ [k.nm], _, _, ?_, ?_, by omega, rfl, ?_⟩⟩
      · rw [List.take_add_one, hg2, List.map_append, ← hws]
        rfl
      · have := congrArg List.tail hi
        simpa using this
      · simp
  clear hc
  simp
  exact fin_true h1 h2 rfl
theorem init_ok {p : Pl} (ok : PlOk p) (rb : RowsOk p) {S : Store} {n : Nat} (h : S[n]? = some (.ins "Plan" [] [])) : F_Plan___init__ [.loc n, subsD p, hrsD p, kdsD p] S = .ok .non (S.set n (.ins "Plan" ["told"] [.tup [subsD p, hrsD p, kdsD p]])) := by
  unfold F_Plan___init__ bf_Plan___init__
  have hl : p.subs.length ≤ 1000 := by have := ok.s1; omega
  have c1 := check_subjects_ok (S := S) (b := p.ts) ok.s0 ok.s1 ok.sn ok.sm
  have c2 := check_hours_ok (S := S) (b := p.ts) (b2 := p.th) hl ok.h0 ok.h1 ok.h2 ok.ho rb
  have c3 := check_kinds_ok (S := S) (b := p.ts) (b2 := p.tk) hl ok.sm ok.k0 ok.k1 ok.kn ok.ko
  change F_check_subjects [subsD p] S = _ at c1
  change F_check_hours [subsD p, hrsD p] S = _ at c2
  change F_check_kinds [subsD p, kdsD p] S = _ at c3
  have hn : n < S.length := (List.getElem?_eq_some_iff.mp h).1
  have h' : S[n] = .ins "Plan" [] [] := (List.getElem?_eq_some_iff.mp h).2
  simp [c1, c2, c3, hn, h']
  rfl
theorem noLoc_tqs {α : Type} {b : Bool} {xs : List α} {f : α → D} (h : ∀ x, noLoc (f x) = true) : noLoc (tq b (xs.map f)) = true := by
  rw [noLoc_tq]
  induction xs with
  | nil => rfl
  | cons x xs ih => rw [List.map_cons, noLocs, h, ih]; rfl
@[simp] theorem noLoc_subs (p : Pl) : noLoc (subsD p) = true := noLoc_tqs fun _ => rfl
@[simp] theorem noLoc_hrs (p : Pl) : noLoc (hrsD p) = true := noLoc_tqs fun h => noLoc_tqs fun _ => rfl
@[simp] theorem noLoc_kds (p : Pl) : noLoc (kdsD p) = true := noLoc_tqs fun k => by
  unfold kdD
  rw [noLoc_tq]
  have : noLoc (tq k.t1 (k.gv.map .str)) = true := noLoc_tqs fun _ => rfl
  cases h : k.ill <;> simp [noLocs, noLoc, this, illD]
/-- what making a plan gives -/
theorem make_end {p : Pl} (S : Store) : fin true S (.loc S.length) ((S ++ [Ob.ins "Plan" [] []]).set S.length (Ob.ins "Plan" ["told"] [.tup [subsD p, hrsD p, kdsD p]])) = .ok (plD p) S := by
  refine fin_true (by simp) (fun i hi => ?_) ?_
  · rw [List.getElem?_set_ne (by omega), List.getElem?_append_left hi]
  · unfold frz
    rw [if_neg (by simp [noLoc])]
    dsimp only
    rw [if_pos (Nat.le_refl _)]
    simp
    rw [frz_flat (by simp [noLoc, noLocs])]
    rfl
abbrev Pr := Nat × Str
abbrev Lot := List Pr
def prD (q : Pr) : D := .tup [.int (q.1 : Int), .str q.2]
def lotD (l : Lot) : D := .tup (l.map prD)
theorem zipD_map {α β : Type} (f : α → D) (g : β → D) (xs : List α) (ys : List β) : zipD (xs.map f) (ys.map g) = (xs.zip ys).map fun p => D.tup [f p.1, g p.2] := by
  unfold zipD
  rw [List.zipWith_map, List.zip, List.map_zipWith]
  rfl
@[simp] theorem insOf_plD (p : Pl) (S : Store) : insOf "Plan" (plD p) S = some ((["told"] : List Str), [D.tup [subsD p, hrsD p, kdsD p]]) := insOf_ins _ _ _ _
@[simp] theorem hours_ok (p : Pl) (S : Store) : F_Plan_hours [plD p] S = .ok (hrsD p) S := by
  unfold F_Plan_hours bf_Plan_hours
  simp
@[simp] theorem subjects_ok (p : Pl) (S : Store) : F_Plan_subjects [plD p] S = .ok (subsD p) S := by
  unfold F_Plan_subjects bf_Plan_subjects
  simp
@[simp] theorem kinds_ok (p : Pl) (S : Store) : F_Plan_kinds [plD p] S = .ok (kdsD p) S := by
  unfold F_Plan_kinds bf_Plan_kinds
  simp
theorem sq1_hrs (p : Pl) (S : Store) : sq1 (hrsD p) S = some (p.hrs.map hrD, []) := sq1_tq _ _ _
theorem sq1_kds (p : Pl) (S : Store) : sq1 (kdsD p) S = some (p.kds.map kdD, []) := sq1_tq _ _ _
theorem sq1_subs (p : Pl) (S : Store) : sq1 (subsD p) S = some (p.subs.map .str, []) := sq1_tq _ _ _
theorem sq1_hr (h : Hr) (S : Store) : sq1 (hrD h) S = some (h.ns.map .int, []) := sq1_tq _ _ _
theorem items_kds (p : Pl) (S : Store) : itemsV (kdsD p) S = some (p.kds.map kdD, []) := itemsV_tq _ _ _
def hrPairs (subs : List Str) (h : Hr) (i : Nat) : List Pr := ((subs.zip h.ns).filter fun q => decide (0 < q.2)).map fun q => (i, q.1)
def pairs0 (p : Pl) : List Pr := p.hrs.zipIdx.flatMap fun q => hrPairs p.subs q.1 q.2
def prLe (a b : Pr) : Bool := PySem.W.dataLe false encD (prD a) (prD b)
def pairs (p : Pl) : List Pr := (pairs0 p).mergeSort prLe
theorem encD_prD (q : Pr) : encD (prD q) = .tuple [.int q.1, .str q.2] := rfl
theorem dok_prD {q : Pr} (n : Nat) (h : PyData.strOk q.2 = true) : dok (n + 1) (prD q) = true := by
  simp [prD, h]
theorem alike_prD (q r : Pr) : PySem.W.alike (encD (prD q)) (encD (prD r)) = true := rfl
theorem canSort_prs {xs : List Pr} (h : ∀ q ∈ xs, PyData.strOk q.2 = true) (hl : xs.length ≤ 16777216) : CanSort (xs.map prD) := by
  have hm : ∀ d ∈ xs.map prD, ∃ q, q ∈ xs ∧ d = prD q := fun d hd => by
    obtain ⟨q, hq, rfl⟩ := List.mem_map.mp hd
    exact ⟨q, hq, rfl⟩
  refine ⟨fun d hd => ?_, fun a ha b hb => ?_, .inl fun d hd => ?_, by rw [sizeLine_eq, List.length_map]; exact hl, fun d hd => ?_⟩
  · obtain ⟨q, hq, rfl⟩ := hm d hd
    exact ⟨_, (dok_py (dok_prD 0 (h q hq))).1⟩
  · rw [List.map_map] at ha hb
    obtain ⟨q, _, rfl⟩ := List.mem_map.mp ha
    obtain ⟨r, _, rfl⟩ := List.mem_map.mp hb
    exact alike_prD q r
  · rw [List.map_map] at hd
    obtain ⟨q, _, rfl⟩ := List.mem_map.mp hd
    exact ⟨_, _, rfl⟩
  · obtain ⟨q, hq, rfl⟩ := hm d hd
    have := (dok_py (dok_prD 0 (h q hq))).2.2
    omega
theorem sortD_map {α : Type} {f : α → D} {le : α → α → Bool} {rev : Bool} (h : ∀ a b, le a b = PySem.W.dataLe rev encD (f a) (f b)) (xs : List α) : sortD rev (xs.map f) = (xs.mergeSort le).map f := by
  unfold sortD
  rw [List.map_mergeSort (s := PySem.W.dataLe rev encD) fun a _ b _ => h a b]
open Classical in
theorem sorted_prs {xs : List Pr} (h : ∀ q ∈ xs, PyData.strOk q.2 = true) (hl : xs.length ≤ 16777216) {d : D} {S : Store} (hd : seqL d S = some (xs.map prD)) : pSorted false [d] S = some (.lst ((xs.mergeSort prLe).map prD)) := by
  unfold pSorted
  dsimp only
  rw [hd]
  show (if CanSort (xs.map prD) then _ else _) = _
  rw [if_pos (canSort_prs h hl), sortD_map (le := prLe) fun a b => rfl]
theorem hrPairs_mem {subs : List Str} {h : Hr} {i : Nat} {q : Pr} (hq : q ∈ hrPairs subs h i) : q.1 = i ∧ q.2 ∈ subs := by
  unfold hrPairs at hq
  obtain ⟨z, hz, rfl⟩ := List.mem_map.mp hq
  exact ⟨rfl, (List.of_mem_zip ((List.mem_filter.mp hz).1)).1⟩
theorem pairs0_mem {p : Pl} {q : Pr} (hq : q ∈ pairs0 p) : q.1 < p.hrs.length ∧ q.2 ∈ p.subs := by
  unfold pairs0 at hq
  obtain ⟨⟨h, i⟩, hz, hq⟩ := List.mem_flatMap.mp hq
  have := hrPairs_mem hq
  have h2 : p.hrs[i]? = some h := List.mem_zipIdx_iff_getElem?.mp hz
  rw [this.1]
  exact ⟨(List.getElem?_eq_some_iff.mp h2).1, this.2⟩
theorem pairs_mem {p : Pl} {q : Pr} (hq : q ∈ pairs p) : q.1 < p.hrs.length ∧ q.2 ∈ p.subs := pairs0_mem (List.mem_mergeSort.mp hq)
theorem hrPairs_len (subs : List Str) (h : Hr) (i : Nat) : (hrPairs subs h i).length ≤ subs.length := by
  unfold hrPairs
  rw [List.length_map]
  refine Nat.le_trans (List.length_filter_le _ _) ?_
  rw [List.length_zip]
  omega
theorem flat_len {α β : Type} {f : α → List β} {n : Nat} (h : ∀ x, (f x).length ≤ n) : ∀ xs : List α, (xs.flatMap f).length ≤ xs.length * n
  | [] => by simp
  | x :: xs => by
    rw [List.flatMap_cons, List.length_append, List.length_cons, Nat.succ_mul]
    have := h x
    have := flat_len h xs
    omega
theorem pairs0_len (p : Pl) : (pairs0 p).length ≤ p.hrs.length * p.subs.length := by
  have := flat_len (f := fun q : Hr × Nat => hrPairs p.subs q.1 q.2) (n := p.subs.length) (fun q => hrPairs_len _ _ _) p.hrs.zipIdx
  rw [List.length_zipIdx] at this
  exact this
theorem pairs_len {p : Pl} (ok : PlOk p) : (pairs p).length ≤ 9 := by
  unfold pairs
  rw [List.length_mergeSort]
  exact Nat.le_trans (pairs0_len p) ok.h2
theorem strOk_sub {p : Pl} (ok : PlOk p) {s : Str} (h : s ∈ p.subs) : PyData.strOk s = true := strOk_name (ok.sm s h)
structure PaInv (p : Pl) (S : Store) (zs : List (Hr × Nat)) (l : L) (S' : Store) : Prop where
  ex : ∃ (done : List (Hr × Nat)) (o2 o3 o4 o5 : Option D), done ++ zs = p.hrs.zipIdx ∧ l = [some (plD p), some (.loc S.length), o2, o3, o4, o5] ∧ S' = S ++ [.lst ((done.flatMap fun q => hrPairs p.subs q.1 q.2).map prD)]
theorem pairs_of_ok {p : Pl} (ok : PlOk p) (S : Store) : F_pairs_of [plD p] S = .ok (.lst ((pairs p).map prD)) S := by
  unfold F_pairs_of bf_pairs_of
  simp [sq1_hrs, enuD_map]
  have hs4 := ok.s1
  generalize hc : forGo _ _ _ _ _ _ = r
  obtain ⟨l1, rfl⟩ : ∃ l1, r = .nx (some (plD p) :: some (.loc S.length) :: l1) (S ++ [.lst ((pairs0 p).map prD)]) := by
    rw [← hc]
    clear hc
    refine forGo_inv (en := fun q : Hr × Nat => D.tup [.int (q.2 : Int), hrD q.1]) (xs := p.hrs.zipIdx) (PaInv p S) (fun r => ∃ l1, r = .nx (some (plD p) :: some (.loc S.length) :: l1) (S ++ [.lst ((pairs0 p).map prD)])) ?_ ?_ (fun z h => h) ⟨⟨[], _, _, _, _, rfl, rfl, rfl⟩⟩
    · rintro l S' ⟨done, o2, o3, o4, o5, hd, rfl, rfl⟩
      rw [List.append_nil] at hd
      subst hd
      exact ⟨trivial, _, rfl⟩
    · rintro ⟨h, i⟩ ys l S' hx ⟨done, o2, o3, o4, o5, hd, rfl, rfl⟩
      refine ⟨trivial, _, rfl, ?_⟩
      have hlen : (done.flatMap fun q => hrPairs p.subs q.1 q.2).length + (hrPairs p.subs h i).length ≤ 16777216 := by
        have h1 := flat_len (f := fun q : Hr × Nat => hrPairs p.subs q.1 q.2) (n := p.subs.length) (fun q => hrPairs_len _ _ _) done
        have h2 := hrPairs_len p.subs h i
        have h3 := congrArg List.length hd
        rw [List.length_append, List.length_zipIdx, List.length_cons] at h3
        have h5 : done.length * p.subs.length ≤ 3 * 4 := Nat.mul_le_mul (by have := ok.h1; omega) ok.s1
        omega
      generalize hdn : (done.flatMap fun q => hrPairs p.subs q.1 q.2) = dn at *
      simp [sq1_subs, sq1_hr, zipD_map]
      rw [cFil (en := fun q : Str × Int => D.tup [.str q.1, .int q.2]) (f := fun q => prD (i, q.1)) (p := fun q => decide (0 < q.2)) (fun x hx => by
        obtain ⟨s, v⟩ := x
        by_cases h0 : 0 < v
        · simp [cStep, h0, prD]
        · simp [cStep, h0]) (by rw [List.length_zip]; omega)]
      have e : ((p.subs.zip h.ns).filter fun q => decide (0 < q.2)).map (fun q => prD (i, q.1)) = (hrPairs p.subs h i).map prD := by
        unfold hrPairs
        rw [List.map_map]
        rfl
      rw [e]
      generalize hhp : hrPairs p.subs h i = hp at *
      simp [hlen]
      refine ⟨⟨done ++ [(h, i)], _, _, _, _, by simpa using hd, rfl, ?_⟩⟩
      simp [hdn, hhp]
  clear hc
  have hm : ∀ q ∈ pairs0 p, PyData.strOk q.2 = true := fun q hq => strOk_sub ok (pairs0_mem hq).2
  have hl : (pairs0 p).length ≤ 16777216 := by
    have := pairs0_len p
    have := ok.h2
    omega
  have hsl : seqL (.loc S.length) (S ++ [Ob.lst ((pairs0 p).map prD)]) = some ((pairs0 p).map prD) := by simp
  simp [sorted_prs hm hl hsl]
  refine fin_true (by simp) (fun i hi => List.getElem?_append_left hi) ?_
  refine frz_flat ?_
  rw [noLoc]
  generalize (pairs0 p).mergeSort prLe = xs
  induction xs with
  | nil => rfl
  | cons x xs ih => rw [List.map_cons, noLocs, ih]; rfl
def lotLe (a b : Lot) : Bool := PySem.W.dataLe false keyLot (lotD a) (lotD b)
def lots0 (ps : List Pr) : List Lot := ps.foldl (fun f q => f ++ f.map (· ++ [q])) [[]]
def lots (p : Pl) : List Lot := (lots0 (pairs p)).tail.mergeSort lotLe
theorem lots0_len (ps : List Pr) (f : List Lot) : (ps.foldl (fun f q => f ++ f.map (· ++ [q])) f).length = f.length * 2 ^ ps.length := by
  induction ps generalizing f with
  | nil => simp
  | cons q ps ih =>
    rw [List.foldl_cons, ih, List.length_append, List.length_map, List.length_cons, Nat.pow_succ, ← Nat.mul_two, Nat.mul_assoc, Nat.mul_comm 2]
theorem lots0_mem (ps : List Pr) (f : List Lot) {l : Lot} (h : l ∈ ps.foldl (fun f q => f ++ f.map (· ++ [q])) f) : ∀ q ∈ l, q ∈ ps ∨ ∃ l' ∈ f, q ∈ l' := by
  induction ps generalizing f with
  | nil => exact fun q hq => .inr ⟨l, h, hq⟩
  | cons r ps ih =>
    intro q hq
    rcases ih _ h q hq with h1 | ⟨l', h2, h3⟩
    · exact .inl (.tail _ h1)
    · rcases List.mem_append.mp h2 with h4 | h4
      · exact .inr ⟨l', h4, h3⟩
      · obtain ⟨l2, h5, rfl⟩ := List.mem_map.mp h4
        rcases List.mem_append.mp h3 with h6 | h6
        · exact .inr ⟨l2, h5, h6⟩
        · rw [List.mem_singleton] at h6
          subst h6
          exact .inl (.head _)
theorem lots_mem {p : Pl} {l : Lot} (h : l ∈ lots p) : ∀ q ∈ l, q ∈ pairs p := fun q hq => by
  have h1 := List.mem_of_mem_tail (List.mem_mergeSort.mp h)
  rcases lots0_mem _ _ h1 q hq with h2 | ⟨l', h2, h3⟩
  · exact h2
  · rw [List.mem_singleton] at h2
    subst h2
    cases h3
theorem lots0_sub (ps : List Pr) (f : List Lot) {l : Lot} (h : l ∈ ps.foldl (fun f q => f ++ f.map (· ++ [q])) f) : ∃ l' ∈ f, ∃ l2 : Lot, l = l' ++ l2 ∧ l2.Sublist ps := by
  induction ps generalizing f with
  | nil => exact ⟨l, h, [], by simp, .slnil⟩
  | cons r ps ih =>
    obtain ⟨l', h1, l2, rfl, h2⟩ := ih _ h
    rcases List.mem_append.mp h1 with h3 | h3
    · exact ⟨l', h3, l2, rfl, h2.cons _⟩
    · obtain ⟨l3, h4, rfl⟩ := List.mem_map.mp h3
      exact ⟨l3, h4, r :: l2, by simp, h2.cons_cons _⟩
theorem lots_sub {p : Pl} {l : Lot} (h : l ∈ lots p) : l.Sublist (pairs p) := by
  have h1 := List.mem_of_mem_tail (List.mem_mergeSort.mp h)
  obtain ⟨l', h2, l2, rfl, h3⟩ := lots0_sub _ _ h1
  rw [List.mem_singleton] at h2
  subst h2
  exact h3
theorem lot_len {p : Pl} (ok : PlOk p) {l : Lot} (h : l ∈ lots p) : l.length ≤ 9 := Nat.le_trans (lots_sub h).length_le (pairs_len ok)
theorem encD_lotD {l : Lot} (h : ∀ q ∈ l, PyData.strOk q.2 = true) : encD (lotD l) = .tuple (l.map fun q => encD (prD q)) := by
  unfold lotD
  rw [encD_tup (n := 1) (doks_map fun q hq => dok_prD 0 (h q hq)), List.map_map]
  rfl
theorem alike_lots : ∀ l m : Lot, PySem.W.alikeAll (l.map fun q => encD (prD q)) (m.map fun q => encD (prD q)) = true
  | [], m => rfl
  | _ :: _, [] => rfl
  | q :: l, r :: m => by
    rw [List.map_cons, List.map_cons, PySem.W.alikeAll, alike_prD, alike_lots l m]
    rfl
theorem noL_lots : ∀ l : Lot, noLs (l.map fun q => encD (prD q)) = true
  | [] => rfl
  | q :: l => by
    rw [List.map_cons, noLs, noL_lots l]
    rfl
theorem lot_depth {l : Lot} (h : ∀ q ∈ l, PyData.strOk q.2 = true) : toPy (lotD l) = some (encD (lotD l)) ∧ (encD (lotD l)).depth ≤ 2 := by
  have := dok_py (n := 2) (d := lotD l) (by
    show doks 1 (l.map prD) = true
    exact doks_map fun q hq => dok_prD 0 (h q hq))
  exact ⟨this.1, this.2.2⟩
theorem keyLot_lotD {l : Lot} (h : ∀ q ∈ l, PyData.strOk q.2 = true) : keyLot (lotD l) = .tuple [.int l.length, .tuple (l.map fun q => encD (prD q))] := by
  unfold keyLot
  rw [encD_lotD h]
  simp [lotD, tupOf]
theorem canSortK_lots {xs : List Lot} (h : ∀ l ∈ xs, ∀ q ∈ l, PyData.strOk q.2 = true) (hl : xs.length ≤ 16777216) : CanSortK (xs.map lotD) := by
  refine ⟨fun d hd => ?_, fun a ha b hb => ?_, by rw [sizeLine_eq, List.length_map]; exact hl, fun d hd => ?_⟩
  · obtain ⟨l, hl, rfl⟩ := List.mem_map.mp hd
    exact ⟨⟨_, rfl⟩, _, (lot_depth (h l hl)).1, by rw [encD_lotD (h l hl)]; exact noL_lots l⟩
  · rw [List.map_map] at ha hb
    obtain ⟨l, hl, rfl⟩ := List.mem_map.mp ha
    obtain ⟨m, hm, rfl⟩ := List.mem_map.mp hb
    show PySem.W.alike (keyLot (lotD l)) (keyLot (lotD m)) = true
    rw [keyLot_lotD (h l hl), keyLot_lotD (h m hm)]
    simp [PySem.W.alike, PySem.W.alikeAll, alike_lots]
  · obtain ⟨l, hl, rfl⟩ := List.mem_map.mp hd
    have := (lot_depth (h l hl)).2
    omega
open Classical in
theorem sorted_lots {xs : List Lot} (h : ∀ l ∈ xs, ∀ q ∈ l, PyData.strOk q.2 = true) (hl : xs.length ≤ 16777216) {d : D} {S : Store} (hd : seqL d S = some (xs.map lotD)) : pSortLot [d] S = some (.lst ((xs.mergeSort lotLe).map lotD)) := by
  unfold pSortLot
  dsimp only
  rw [hd]
  show (if CanSortK (xs.map lotD) then _ else _) = _
  rw [if_pos (canSortK_lots h hl), List.map_mergeSort (r := lotLe) (s := PySem.W.dataLe false keyLot) fun a _ b _ => rfl]
theorem lots_of_ok {p : Pl} (ok : PlOk p) (S : Store) : F_lots_of [plD p] S = .ok (.lst ((lots p).map lotD)) S := by
  unfold F_lots_of bf_lots_of
  simp [pairs_of_ok ok]
  have hp9 := pairs_len ok
  generalize hc : forGo _ _ _ _ _ _ = r
  obtain ⟨o2, o3, rfl⟩ : ∃ o2 o3, r = .nx [some (plD p), some (.lst ((lots0 (pairs p)).map lotD)), o2, o3] S := by
    rw [← hc]
    clear hc
    refine forGo_inv (en := prD) (xs := pairs p) (fun zs l S' => ∃ (done : List Pr) (o2 o3 : Option D), done ++ zs = pairs p ∧ l = [some (plD p), some (.lst ((lots0 done).map lotD)), o2, o3] ∧ S' = S) (fun r => ∃ o2 o3, r = .nx [some (plD p), some (.lst ((lots0 (pairs p)).map lotD)), o2, o3] S) ?_ ?_ (fun z h => h) ⟨[], _, _, rfl, rfl, rfl⟩
    · rintro l S' ⟨done, o2, o3, hd, rfl, rfl⟩
      rw [List.append_nil] at hd
      subst hd
      exact ⟨trivial, _, _, rfl⟩
    · rintro q ys l S' hx ⟨done, o2, o3, hd, rfl, rfl⟩
      refine ⟨trivial, _, rfl, ?_⟩
      have h1 := congrArg List.length hd
      rw [List.length_append, List.length_cons] at h1
      have h2 : (lots0 done).length ≤ 2 ^ 8 := by
        unfold lots0
        rw [lots0_len, List.length_singleton, Nat.one_mul]
        exact Nat.pow_le_pow_right (by omega) (by omega)
      have h3 : ∀ l ∈ lots0 done, l.length ≤ 8 := fun l hl => by
        obtain ⟨l', hl', l2, rfl, h4⟩ := lots0_sub _ _ hl
        rw [List.mem_singleton] at hl'
        subst hl'
        have := h4.length_le
        simp
        omega
      have e : lots0 (done ++ [q]) = lots0 done ++ (lots0 done).map (· ++ [q]) := by
        unfold lots0
        rw [List.foldl_append]
        rfl
      simp
      rw [cMap (en := lotD) (f := fun l => lotD (l ++ [q])) (fun l hl => by
        have h5 : l.length + 1 ≤ 16777216 := by have := h3 l hl; omega
        simp [cStep, lotD, h5]) (by omega)]
      have h6 : (lots0 done).length + (lots0 done).length ≤ 16777216 := by omega
      simp [h6]
      exact ⟨done ++ [q], by simpa using hd, by rw [e, List.map_append, List.map_map]; rfl⟩
  clear hc
  have hm : ∀ l ∈ (lots0 (pairs p)).tail, ∀ q ∈ l, PyData.strOk q.2 = true := fun l hl q hq => by
    have := lots_mem (p := p) (l := l) (List.mem_mergeSort.mpr hl) q hq
    exact strOk_sub ok (pairs_mem this).2
  have hl : (lots0 (pairs p)).tail.length ≤ 16777216 := by
    rw [List.length_tail]
    unfold lots0
    rw [lots0_len, List.length_singleton, Nat.one_mul]
    have : 2 ^ (pairs p).length ≤ 2 ^ 9 := Nat.pow_le_pow_right (by omega) hp9
    omega
  have hs : seqL (.lst ((lots0 (pairs p)).map lotD).tail) S = some ((lots0 (pairs p)).tail.map lotD) := by
    simp
  simp
  have := sorted_lots hm hl hs
  simp [this]
  rfl
instance : Inhabited Hr := ⟨⟨[], false⟩⟩
instance : Inhabited Kd := ⟨⟨default, [], 0, 0, none, false, false⟩⟩
def hset (gv : List Str) (l : Lot) : List Int := dd ((l.filter fun q => decide (q.2 ∈ gv)).map fun q => (q.1 : Int))
def weight (k : Kd) (l : Lot) : Int := min k.mst ((hset k.gv l).length : Int)
def lesson (p : Pl) (q : Pr) : Int := (p.hrs.getD q.1 default).ns.getD (p.subs.findIdx (· == q.2)) 0
def needs (p : Pl) (l : Lot) : Int := (l.map (lesson p)).sum
def there (ks : List Kd) (aw : List Int) (l : Lot) : Int := ((ks.zip aw).map fun q => (q.1.num - q.2) * weight q.1 l).sum
def margin (p : Pl) (aw : List Int) (l : Lot) : Int := there p.kds aw l - needs p l
def awD (b : Bool) (aw : List Int) : D := tq b (aw.map .int)
def nob (p : Pl) : List Int := p.kds.map fun _ => 0
def illOf (k : Kd) : Int := match k.ill with
  | none => k.num
  | some i => min k.num i
theorem dd_len : ∀ (ns acc : List Int), (ns.foldl (fun acc x => if acc.any (· == x) then acc else acc ++ [x]) acc).length ≤ acc.length + ns.length
  | [], acc => by simp
  | x :: ns, acc => by
    rw [List.foldl_cons, List.length_cons]
    refine Nat.le_trans (dd_len ns _) ?_
    split
    · omega
    · rw [List.length_append, List.length_singleton]
      omega
theorem hset_len (gv : List Str) (l : Lot) : (hset gv l).length ≤ l.length := by
  unfold hset dd
  refine Nat.le_trans (dd_len _ _) ?_
  rw [List.length_nil, List.length_map, Nat.zero_add]
  exact List.length_filter_le _ _
theorem weight0 {subs : List Str} {k : Kd} (ok : KdOk subs k) (l : Lot) : 0 ≤ weight k l := by
  unfold weight
  have := ok.m0
  omega
theorem weight3 {subs : List Str} {k : Kd} (ok : KdOk subs k) (l : Lot) : weight k l ≤ 3 := by
  unfold weight
  have := ok.m1
  omega
theorem weight_of_ok {k : Kd} {l : Lot} (hl : l.length ≤ 1000) (S : Store) : F_weight_of [kdD k, lotD l] S = .ok (.int (weight k l)) S := by
  unfold F_weight_of bf_weight_of weight
  simp [lotD]
  rw [cFil (en := prD) (f := fun q => D.int (q.1 : Int)) (p := fun q => decide (q.2 ∈ k.gv)) (fun q hq => by
    by_cases h : q.2 ∈ k.gv
    · simp [cStep, prD, kdD, pIn_strs (w := q.2) (xs := k.gv) (tq k.t1 (k.gv.map .str)) S (nt_tq _ _), h]
    · simp [cStep, prD, kdD, pIn_strs (w := q.2) (xs := k.gv) (tq k.t1 (k.gv.map .str)) S (nt_tq _ _), h]) (by omega)]
  have e : (l.filter fun q => decide (q.2 ∈ k.gv)).map (fun q => D.int (q.1 : Int)) = ((l.filter fun q => decide (q.2 ∈ k.gv)).map fun q => (q.1 : Int)).map D.int := by
    rw [List.map_map]
    rfl
  rw [e]
  have hf := List.length_filter_le (fun q : Pr => decide (q.2 ∈ k.gv)) l
  have hs := hset_len k.gv l
  have hp : pSet [.lst (((l.filter fun q => decide (q.2 ∈ k.gv)).map fun q => (q.1 : Int)).map D.int)] S = some (.iset (hset k.gv l).length) := by
    unfold pSet
    dsimp only
    rw [seqL_lst]
    show ((intsD _).bind _) = _
    rw [intsD_map']
    show (if _ then _ else _) = _
    rw [if_pos (by rw [List.length_map]; omega)]
    rfl
  have h4 : (hset k.gv l).length < 4096 := by omega
  simp only [List.map_map] at hp ⊢
  simp [hp, kdD, h4]
theorem find_sub {subs : List Str} {s : Str} (h : s ∈ subs) : (subs.findIdx? fun y => y == s) = some (subs.findIdx (· == s)) := List.findIdx?_eq_some_of_exists ⟨s, h, by simp⟩
theorem find_lt {subs : List Str} {s : Str} (h : s ∈ subs) : subs.findIdx (· == s) < subs.length := List.findIdx_lt_length_of_exists ⟨s, h, by simp⟩
theorem index_ok {p : Pl} (ht : p.ts = true) {s : Str} (h : s ∈ p.subs) (S : Store) : pIndexT (subsD p) [.str s] S = some (.int (p.subs.findIdx (· == s) : Nat)) := by
  unfold subsD tq
  rw [if_pos ht, pIndexT_tpn, strsD_map']
  show ((p.subs.findIdx? fun y => y == s).map _) = _
  rw [find_sub h]
  rfl
theorem lessons_of_ok {p : Pl} (ok : PlOk p) (ht : p.ts = true) {l : Lot} (hl : l.length ≤ 1000) (hm : ∀ q ∈ l, q.1 < p.hrs.length ∧ q.2 ∈ p.subs) (S : Store) : F_lessons_of [plD p, lotD l] S = .ok (.int (needs p l)) S := by
  unfold F_lessons_of bf_lessons_of needs
  simp [lotD]
  rw [cMap (en := prD) (f := fun q => D.int (lesson p q)) (fun q hq => by
    obtain ⟨h1, h2⟩ := hm q hq
    have ht2 : tyD (subsD p) S = "tuple" := by
      unfold subsD tq
      rw [if_pos ht]
      rfl
    have hg : p.hrs[q.1]? = some p.hrs[q.1] := List.getElem?_eq_getElem h1
    have hlen := (ok.ho _ (List.getElem_mem h1)).len
    have hi := find_lt h2
    have e : lesson p q = p.hrs[q.1].ns[p.subs.findIdx (· == q.2)] := by
      unfold lesson
      have e0 : p.hrs.getD q.1 default = p.hrs[q.1] := by simp [List.getD_eq_getElem?_getD, hg]
      rw [e0, List.getD_eq_getElem?_getD, List.getElem?_eq_getElem (by omega)]
      rfl
    have e1 : pIx (hrsD p) (.int q.1) S = some (hrD p.hrs[q.1]) := by
      unfold hrsD
      rw [pIx_tq, atI_nat, List.getElem?_map, hg]
      rfl
    have e2 : pIx (hrD p.hrs[q.1]) (.int (p.subs.findIdx (· == q.2) : Nat)) S = some (.int (lesson p q)) := by
      unfold hrD
      rw [pIx_tq, atI_nat, List.getElem?_map, List.getElem?_eq_getElem (by omega), e]
      rfl
    simp -implicitDefEqProofs [cStep, prD, e1, ht2, index_ok ht h2, e2]) (by omega)]
  simp
theorem margin_of_ok {p : Pl} (ok : PlOk p) (ht : p.ts = true) {aw : List Int} {b : Bool} {l : Lot} (hl : l.length ≤ 1000) (hm : ∀ q ∈ l, q.1 < p.hrs.length ∧ q.2 ∈ p.subs) (S : Store) : F_margin_of [plD p, awD b aw, lotD l] S = .ok (.int (margin p aw l)) S := by
  unfold F_margin_of bf_margin_of margin there awD
  have hk := ok.k1
  simp [sq1_kds, zipD_map]
  rw [cMap (en := fun q : Kd × Int => D.tup [kdD q.1, .int q.2]) (f := fun q => D.int ((q.1.num - q.2) * weight q.1 l)) (fun q hq => by
    have hk := ok.ko q.1 (List.of_mem_zip hq).1
    have w0 := weight0 hk l
    have w3 := weight3 hk l
    have e : ∀ T, pIx (kdD q.1) (.int 2) T = some (.int q.1.num) := fun T => by
      unfold kdD
      simp
    have hc : CMul (q.1.num - q.2) (weight q.1 l) := CMul_r (by omega) (by omega)
    simp -implicitDefEqProofs [cStep, e, weight_of_ok hl, pMul_ok hc]) (by rw [List.length_zip]; omega)]
  simp [lessons_of_ok ok ht hl hm]
def wiD (q : Int × Nat) : D := .tup [.int q.1, .int (q.2 : Int)]
def wis (p : Pl) (l : Lot) : List (Int × Nat) := (p.kds.zipIdx.map fun q => (weight q.1 l, q.2)).filter fun q => decide (0 < q.1)
def wiLe (a b : Int × Nat) : Bool := PySem.W.dataLe true encD (wiD a) (wiD b)
def byW (p : Pl) (l : Lot) : List (Int × Nat) := (wis p l).mergeSort wiLe
theorem encD_wiD (q : Int × Nat) : encD (wiD q) = .tuple [.int q.1, .int q.2] := rfl
theorem canSort_wis (xs : List (Int × Nat)) (hl : xs.length ≤ 16777216) : CanSort (xs.map wiD) := by
  refine ⟨fun d hd => ?_, fun a ha b hb => ?_, .inl fun d hd => ?_, by rw [sizeLine_eq, List.length_map]; exact hl, fun d hd => ?_⟩
  · obtain ⟨q, hq, rfl⟩ := List.mem_map.mp hd
    exact ⟨_, (dok_py (n := 1) (d := wiD q) (by simp [wiD])).1⟩
  · rw [List.map_map] at ha hb
    obtain ⟨q, _, rfl⟩ := List.mem_map.mp ha
    obtain ⟨r, _, rfl⟩ := List.mem_map.mp hb
    rfl
  · rw [List.map_map] at hd
    obtain ⟨q, _, rfl⟩ := List.mem_map.mp hd
    exact ⟨_, _, rfl⟩
  · obtain ⟨q, hq, rfl⟩ := List.mem_map.mp hd
    have := (dok_py (n := 1) (d := wiD q) (by simp [wiD])).2.2
    omega
open Classical in
theorem sorted_wis {xs : List (Int × Nat)} (hl : xs.length ≤ 16777216) {d : D} {S : Store} (hd : seqL d S = some (xs.map wiD)) : pSorted true [d] S = some (.lst ((xs.mergeSort wiLe).map wiD)) := by
  unfold pSorted
  dsimp only
  rw [hd]
  show (if CanSort (xs.map wiD) then _ else _) = _
  rw [if_pos (canSort_wis xs hl), sortD_map (le := wiLe) fun a b => rfl]
theorem wiLe_fst {a b : Int × Nat} (h : wiLe a b = true) : b.1 ≤ a.1 := by
  by_cases c : a.1 < b.1
  · exfalso
    have e : PyProof.Rows.lexLt PyProof.Rows.itemOrd (PySem.W.keyToks (.tuple [.int a.1, .int a.2])) (PySem.W.keyToks (.tuple [.int b.1, .int b.2])) = true := by
      simp [PySem.W.keyToks, PySem.W.keyToksAll, PyProof.Rows.lexLt, PyProof.Rows.itemLt, c]
    have h' : (!(PyProof.Rows.lexLt PyProof.Rows.itemOrd (PySem.W.keyToks (.tuple [.int a.1, .int a.2])) (PySem.W.keyToks (.tuple [.int b.1, .int b.2])))) = true := h
    rw [e] at h'
    cases h'
  · omega
theorem byW_sorted (p : Pl) (l : Lot) : (byW p l).Pairwise fun a b => b.1 ≤ a.1 := by
  unfold byW
  refine (PySem.W.sort_pairwise (le := wiLe) ?_ _).imp fun h => wiLe_fst h
  exact PySem.W.sortLe_total (PyProof.Rows.listOrd PyProof.Rows.itemOrd) true fun b => PySem.W.keyToks (encD (wiD b))
theorem byW_mem {p : Pl} {l : Lot} {q : Int × Nat} (h : q ∈ byW p l) : 0 < q.1 ∧ ∃ k, p.kds[q.2]? = some k ∧ q.1 = weight k l := by
  have h1 := List.mem_mergeSort.mp h
  unfold wis at h1
  obtain ⟨h2, h3⟩ := List.mem_filter.mp h1
  obtain ⟨⟨k, i⟩, h4, rfl⟩ := List.mem_map.mp h2
  exact ⟨of_decide_eq_true h3, k, List.mem_zipIdx_iff_getElem?.mp h4, rfl⟩
def gob : List (Int × Int) → Int → Int → Option Int
  | [], _, _ => none
  | (w, m) :: r, left, size => if left < m * w then some (size + left / w + 1) else gob r (left - m * w) (size + m)
def wm (p : Pl) (q : Int × Nat) : Int × Int := (q.1, illOf (p.kds.getD q.2 default))
def bsz (p : Pl) (l : Lot) : Option Int := if margin p (nob p) l < 0 then some 0 else gob ((byW p l).map (wm p)) (margin p (nob p) l) 0
theorem kd_at {p : Pl} {i : Nat} {k : Kd} (h : p.kds[i]? = some k) (S : Store) : pIx (kdsD p) (.int (i : Int)) S = some (kdD k) := by
  unfold kdsD
  rw [pIx_tq, atI_nat, List.getElem?_map, h]
  rfl
structure LotOk (p : Pl) (l : Lot) : Prop where
  len : l.length ≤ 1000
  mem : ∀ q ∈ l, q.1 < p.hrs.length ∧ q.2 ∈ p.subs
theorem lots_ok {p : Pl} (ok : PlOk p) {l : Lot} (h : l ∈ lots p) : LotOk p l := ⟨by have := lot_len ok h; omega, fun q hq => pairs_mem (lots_mem h q hq)⟩
def foundD : Option (Int × Lot) → D
  | none => .non
  | some (s, l) => .tup [.int s, lotD l]
def wkStep (p : Pl) (f : Option (Int × Lot)) (l : Lot) : Option (Int × Lot) := match bsz p l with
  | none => f
  | some s => match f with
    | none => some (s, l)
    | some (t, m) => if s < t then some (s, l) else some (t, m)
def weakest (p : Pl) : Option (Int × Lot) := (lots p).foldl (wkStep p) none
@[simp] theorem pIsN_plD (p : Pl) (S : Store) : pIsN (plD p) .non S = some (.bl false) := rfl
@[simp] theorem isiC_plD (p : Pl) (S : Store) : isiC "Plan" (plD p) S = some (.bl true) := isiC_ins _ _ _ _
@[simp] theorem check_plan_ok (p : Pl) (S : Store) : F_check_plan [plD p] S = .ok .non S := by
  unfold F_check_plan bf_check_plan
  simp
def strD : Option (Int × Lot) → D
  | none => .str "endless"
  | some (s, _) => if 0 < s then .int (s - 1) else .non
def bearsB (p : Pl) (z : Int) : Bool := match weakest p with
  | none => true
  | some (s, _) => decide (z < s)
/-- what is taken away, kind by kind: left, and who is away -/
def wst (p : Pl) (st : Int × List Int) (q : Int × Nat) : Int × List Int :=
  let t := min st.1 (illOf (p.kds.getD q.2 default))
  (st.1 - t, st.2.set q.2 t)
def worst (p : Pl) (l : Lot) (z : Int) : List Int := ((byW p l).foldl (wst p) (z, nob p)).2
theorem wst_len (p : Pl) (xs : List (Int × Nat)) (st : Int × List Int) : (xs.foldl (wst p) st).2.length = st.2.length := by
  induction xs generalizing st with
  | nil => rfl
  | cons x xs ih =>
    rw [List.foldl_cons, ih]
    simp [wst]
def breakD (p : Pl) (z : Int) : D := match weakest p with
  | none => .non
  | some (s, l) => if z < s then .non else .tup [awD true (worst p l s), lotD l]
theorem weak_mem {p : Pl} : ∀ {ls : List Lot} {f : Option (Int × Lot)} {s : Int} {l : Lot}, ls.foldl (wkStep p) f = some (s, l) → (l ∈ ls ∧ bsz p l = some s) ∨ f = some (s, l)
  | [], f, s, l, h => .inr h
  | m :: ls, f, s, l, h => by
    rw [List.foldl_cons] at h
    rcases weak_mem h with ⟨h1, h2⟩ | h1
    · exact .inl ⟨.tail _ h1, h2⟩
    · unfold wkStep at h1
      cases hb : bsz p m with
      | none =>
        rw [hb] at h1
        exact .inr h1
      | some t =>
        rw [hb] at h1
        cases f with
        | none =>
          cases h1
          exact .inl ⟨.head _, hb⟩
        | some g =>
          obtain ⟨u, n⟩ := g
          dsimp only at h1
          split at h1
          · cases h1
            exact .inl ⟨.head _, hb⟩
          · exact .inr h1
theorem weakest_mem {p : Pl} {s : Int} {l : Lot} (h : weakest p = some (s, l)) : l ∈ lots p ∧ bsz p l = some s := by
  rcases weak_mem h with h | h
  · exact h
  · cases h
theorem gob_ge : ∀ {xs : List (Int × Int)} {left size v : Int}, (∀ x ∈ xs, 0 < x.1 ∧ 0 ≤ x.2) → 0 ≤ left → gob xs left size = some v → size < v
  | [], _, _, _, _, _, h => nomatch h
  | (w, m) :: r, left, size, v, hx, hl, h => by
    have hw := hx (w, m) (.head _)
    unfold gob at h
    split at h
    · cases h
      have : 0 ≤ left / w := Int.ediv_nonneg hl (Int.le_of_lt hw.1)
      omega
    · rename_i hlt
      have := gob_ge (fun x hx' => hx x (.tail _ hx')) (by omega) h
      have := hw.2
      simp at this
      omega
/-- the least size over the lots -/
theorem weak_min {p : Pl} : ∀ {ls : List Lot} {f : Option (Int × Lot)}, (∀ l ∈ ls, ∀ s, bsz p l = some s → ∃ t m, ls.foldl (wkStep p) f = some (t, m) ∧ t ≤ s) ∧ (∀ u n, f = some (u, n) → ∃ t m, ls.foldl (wkStep p) f = some (t, m) ∧ t ≤ u)
  | [], f => ⟨fun _ h => (nomatch h), fun u n h => ⟨u, n, h, Int.le_refl _⟩⟩
  | l :: ls, f => by
    obtain ⟨h1, h2⟩ := weak_min (p := p) (ls := ls) (f := wkStep p f l)
    have hf : ∀ u n, f = some (u, n) → ∃ t m, wkStep p f l = some (t, m) ∧ t ≤ u := fun u n hf => by
      subst hf
      unfold wkStep
      cases bsz p l with
      | none => exact ⟨u, n, rfl, Int.le_refl _⟩
      | some s =>
        dsimp only
        split
        · exact ⟨s, l, rfl, by omega⟩
        · exact ⟨u, n, rfl, Int.le_refl _⟩
    have hs : ∀ s, bsz p l = some s → ∃ t m, wkStep p f l = some (t, m) ∧ t ≤ s := fun s hb => by
      unfold wkStep
      rw [hb]
      cases f with
      | none => exact ⟨s, l, rfl, Int.le_refl _⟩
      | some g =>
        obtain ⟨u, n⟩ := g
        dsimp only
        split
        · exact ⟨s, l, rfl, Int.le_refl _⟩
        · exact ⟨u, n, rfl, by omega⟩
    have go : ∀ s, (∃ t m, wkStep p f l = some (t, m) ∧ t ≤ s) → ∃ t m, (l :: ls).foldl (wkStep p) f = some (t, m) ∧ t ≤ s := fun s ⟨t, m, e, hle⟩ => by
      obtain ⟨t', m', e', hle'⟩ := h2 t m e
      exact ⟨t', m', by rw [List.foldl_cons]; exact e', by omega⟩
    refine ⟨fun x hx s hb => ?_, fun u n e => go u (hf u n e)⟩
    rcases List.mem_cons.mp hx with rfl | hx
    · exact go s (hs s hb)
    · obtain ⟨t, m, e, hle⟩ := h1 x hx s hb
      exact ⟨t, m, by rw [List.foldl_cons]; exact e, hle⟩
theorem weakest_le {p : Pl} {l : Lot} (h : l ∈ lots p) {s : Int} (hb : bsz p l = some s) : ∃ t m, weakest p = some (t, m) ∧ t ≤ s := (weak_min (p := p) (ls := lots p) (f := none)).1 l h s hb
theorem weakest_none {p : Pl} (h : weakest p = none) : ∀ l ∈ lots p, bsz p l = none := fun l hl => by
  cases hb : bsz p l with
  | none => rfl
  | some s =>
    obtain ⟨t, m, e, _⟩ := weakest_le hl hb
    rw [h] at e
    cases e
def kdOf (s : Srt) : Kd := ⟨s.nm, s.gv, s.num, s.mst, s.ill, false, true⟩
def hrOf (r : List Int) : Hr := ⟨r, true⟩
def plOf (k : Sk) : Pl := ⟨k.tops, k.clk.map hrOf, k.srt.map kdOf, true, true, true⟩
/-- what a sketch must be, to be a plan -/
structure SkPl (k : Sk) : Prop where
  pl : PlOk (plOf k)
theorem menu_names : ∀ w ∈ menu, isNameB w = true := by decide +kernel
theorem sub_filter {xs gv : List Str} (h : gv.Sublist xs) (hn : xs.Nodup) : gv = xs.filter fun s => decide (s ∈ gv) := by
  induction h with
  | slnil => rfl
  | @cons l1 l2 a h ih =>
    rw [List.nodup_cons] at hn
    have : a ∉ l1 := fun ha => hn.1 (h.subset ha)
    rw [List.filter_cons_of_neg (by simpa using this)]
    exact ih hn.2
  | @cons_cons l1 l2 a h ih =>
    rw [List.nodup_cons] at hn
    rw [List.filter_cons_of_pos (by simp)]
    congr 1
    refine (ih hn.2).trans (List.filter_congr fun x hx => ?_)
    have : x ≠ a := fun e => hn.1 (e ▸ hx)
    simp [this]
theorem SkOk.pl {b : Bool} {k : Sk} (ok : SkOk b k) : PlOk (plOf k) := by
  have t0 := ok.t0
  have t1 := ok.t1
  have c0 := ok.c0
  have c1 := ok.c1
  have s0 := ok.s0
  have s1 := ok.s1
  refine ⟨?_, by show k.tops.length ≤ 4; omega, ok.tn, fun s hs => menu_names s (ok.tm s hs), ?_, by show (k.clk.map hrOf).length ≤ 3; simp; omega, ?_, ?_, ?_, by show (k.srt.map kdOf).length ≤ 5; simp; omega, ?_, ?_⟩
  · intro h
    have h : k.tops = [] := h
    rw [h] at t0
    simp at t0
  · intro h
    have h : k.clk.map hrOf = [] := h
    rw [List.map_eq_nil_iff] at h
    rw [h] at c0
    simp at c0
  · show (k.clk.map hrOf).length * k.tops.length ≤ 9
    rw [List.length_map]
    have : k.clk.length * k.tops.length ≤ 2 * 3 := Nat.mul_le_mul c1 t1
    omega
  · intro h hh
    obtain ⟨r, hr, rfl⟩ := List.mem_map.mp hh
    exact ⟨ok.cl r hr, fun n hn => (ok.cv r hr n hn).1⟩
  · intro h
    have h : k.srt.map kdOf = [] := h
    rw [List.map_eq_nil_iff] at h
    rw [h] at s0
    simp at s0
  · show ((k.srt.map kdOf).map Kd.nm).Nodup
    rw [List.map_map]
    exact ok.sn
  · intro q hq
    obtain ⟨s, hs, rfl⟩ := List.mem_map.mp hq
    have so := ok.so s hs
    exact ⟨menu_names _ so.nm, so.gv, fun g hg => menu_names g (ok.tm g (so.sub.subset hg)), sub_filter so.sub ok.tn, ⟨so.n0, so.n1⟩, so.m0, so.m1, so.i⟩
theorem SkOk.rows {b : Bool} {k : Sk} (ok : SkOk b k) : RowsOk (plOf k) := fun h hh => by
  obtain ⟨r, hr, rfl⟩ := List.mem_map.mp hh
  exact fun n hn => ok.cv r hr n hn
theorem law_plan_ok {k : Sk} (ok : PlOk (plOf k)) (rb : RowsOk (plOf k)) (S : Store) : F__law_plan [skD k] S = .ok (plD (plOf k)) S := by
  unfold F__law_plan bf__law_plan
  have h1 : k.clk.length ≤ 3 := by simpa [plOf] using ok.h1
  have k1 : k.srt.length ≤ 5 := by simpa [plOf] using ok.k1
  simp [skD]
  rw [cMap (en := srtD) (f := fun s => kdD (kdOf s)) (fun s hs => by
    cases h : s.ill with
    | none => simp [cStep, srtD, kdD, kdOf, tq, h, illD]
    | some i => simp [cStep, srtD, kdD, kdOf, tq, h, illD]) (by omega)]
  simp
  rw [cMap (en := rowD) (f := fun s => hrD (hrOf s)) (fun s hs => by
    simp [cStep, rowD, hrD, hrOf, tq]) (by omega)]
  have e1 : D.tpn (k.tops.map D.str) = subsD (plOf k) := rfl
  have e2 : D.tpn (k.clk.map fun s => hrD (hrOf s)) = hrsD (plOf k) := by
    show _ = D.tpn ((k.clk.map hrOf).map hrD)
    rw [List.map_map]
    rfl
  have e3 : D.tpn (k.srt.map fun s => kdD (kdOf s)) = kdsD (plOf k) := by
    show _ = D.tpn ((k.srt.map kdOf).map kdD)
    rw [List.map_map]
    rfl
  have hi := init_ok ok rb (S := S ++ [Ob.ins "Plan" [] []]) (n := S.length) (by simp)
  have me := make_end (p := plOf k) S
  simp [e1, e2, e3, hi]
  simp at me
  rw [me]
  rfl
@[simp] theorem sk_ix0 (k : Sk) (S : Store) : pIx (skD k) (.int 0) S = some (.lst (k.tops.map .str)) := by
  unfold skD
  simp
@[simp] theorem sk_ix1 (k : Sk) (S : Store) : pIx (skD k) (.int 1) S = some (.lst (k.clk.map rowD)) := by
  unfold skD
  simp
@[simp] theorem sk_ix2 (k : Sk) (S : Store) : pIx (skD k) (.int 2) S = some (.lst (k.srt.map srtD)) := by
  unfold skD
  simp
@[simp] theorem pIx_rowD (r : List Int) (j : Nat) (S : Store) : pIx (rowD r) (.int (j : Int)) S = (r[j]?).map .int := by
  unfold rowD
  rw [pIx_lst, atI_nat, List.getElem?_map]
theorem zip_range {α β : Type} [Inhabited α] [Inhabited β] {xs : List α} {ys : List β} (h : ys.length = xs.length) : xs.zip ys = (List.range xs.length).map fun k => (xs.getD k default, ys.getD k default) := by
  refine List.ext_getElem? fun i => ?_
  by_cases hi : i < xs.length
  · have hj : i < ys.length := by omega
    rw [List.getElem?_eq_getElem (by rw [List.length_zip]; omega), List.getElem?_eq_getElem (by simpa using hi)]
    simp [List.getD_eq_getElem?_getD, hi, hj]
  · rw [List.getElem?_eq_none (by rw [List.length_zip]; omega), List.getElem?_eq_none (by simpa using hi)]
theorem pairs_clk (k : Sk) : pairs0 (plOf k) = k.clk.zipIdx.flatMap fun q => hrPairs k.tops (hrOf q.1) q.2 := by
  unfold pairs0
  show (k.clk.map hrOf).zipIdx.flatMap _ = _
  rw [List.zipIdx_map, List.flatMap_map]
  rfl
theorem drop_cons {α : Type} {xs ys : List α} {y : α} {i : Nat} (e : y :: ys = xs.drop i) : xs[i]? = some y ∧ ys = xs.drop (i + 1) := by
  constructor
  · have h : (y :: ys)[0]? = (xs.drop i)[0]? := by rw [e]
    rw [List.getElem?_drop] at h
    exact h.symm
  · have h : (y :: ys).tail = (xs.drop i).tail := by rw [e]
    rw [List.tail_drop] at h
    exact h
theorem range_get {n i j : Nat} (h : (List.range n)[i]? = some j) : i < n ∧ i = j := by
  obtain ⟨h1, h2⟩ := List.getElem?_eq_some_iff.mp h
  rw [List.getElem_range] at h2
  rw [List.length_range] at h1
  exact ⟨h1, h2⟩
structure LpInv (k : Sk) (S : Store) (zs : List Nat) (ls : L) (S' : Store) : Prop where
  ex : ∃ (i : Nat) (o2 o3 : Option D), zs = (List.range k.clk.length).drop i ∧ i ≤ k.clk.length ∧ ls = [some (skD k), some (.lst (((k.clk.zipIdx.take i).flatMap fun q => hrPairs k.tops (hrOf q.1) q.2).map prD)), o2, o3] ∧ S' = S
def LpEnd (k : Sk) (S : Store) (r : Fl) : Prop := ∃ o2 o3, r = .nx [some (skD k), some (.lst ((pairs0 (plOf k)).map prD)), o2, o3] S
theorem law_pairs_ok {k : Sk} (ok : PlOk (plOf k)) (S : Store) : F__law_pairs [skD k] S = .ok (.lst ((pairs (plOf k)).map prD)) S := by
  unfold F__law_pairs bf__law_pairs
  have h1 : k.clk.length ≤ 3 := by simpa [plOf] using ok.h1
  have t1 : k.tops.length ≤ 4 := ok.s1
  simp -implicitDefEqProofs [rg1_nat (show k.clk.length < 4611686018427387904 by omega)]
  generalize hc : forGo _ _ _ _ _ _ = r
  obtain ⟨o2, o3, rfl⟩ : LpEnd k S r := by
    rw [← hc]
    clear hc
    refine forGo_inv (en := fun i : Nat => D.int (i : Int)) (xs := List.range k.clk.length) (LpInv k S) (LpEnd k S) ?_ ?_ (fun z h => h) ⟨⟨0, _, _, rfl, Nat.zero_le _, rfl, rfl⟩⟩
    · rintro ls S' ⟨⟨i, o2, o3, e, hi, rfl, rfl⟩⟩
      have hi2 : k.clk.length ≤ i := by
        have := congrArg List.length e
        simp at this
        omega
      refine ⟨trivial, o2, o3, ?_⟩
      rw [List.take_of_length_le (by rw [List.length_zipIdx]; exact hi2), pairs_clk]
    · rintro j ys ls S' hx ⟨⟨i, o2, o3, e, hi, rfl, rfl⟩⟩
      refine ⟨trivial, _, rfl, ?_⟩
      obtain ⟨hg, e2⟩ := drop_cons e
      obtain ⟨hil, rfl⟩ := range_get hg
      have hlen : ((k.clk.zipIdx.take i).flatMap fun q => hrPairs k.tops (hrOf q.1) q.2).length + (hrPairs k.tops (hrOf k.clk[i]) i).length ≤ 16777216 := by
        have h1 := flat_len (f := fun q : List Int × Nat => hrPairs k.tops (hrOf q.1) q.2) (n := k.tops.length) (fun q => hrPairs_len _ _ _) (k.clk.zipIdx.take i)
        have h2 := hrPairs_len k.tops (hrOf k.clk[i]) i
        have h5 : (k.clk.zipIdx.take i).length * k.tops.length ≤ 3 * 4 := Nat.mul_le_mul (by rw [List.length_take, List.length_zipIdx]; omega) t1
        omega
      have etk : (k.clk.zipIdx.take (i + 1)).flatMap (fun q => hrPairs k.tops (hrOf q.1) q.2) = (k.clk.zipIdx.take i).flatMap (fun q => hrPairs k.tops (hrOf q.1) q.2) ++ hrPairs k.tops (hrOf k.clk[i]) i := by
        rw [List.take_add_one, List.getElem?_zipIdx, List.getElem?_eq_getElem hil]
        simp
      have hrl : k.clk[i].length = k.tops.length := (ok.ho (hrOf k.clk[i]) (List.mem_map_of_mem (List.getElem_mem hil))).len
      have eh : hrPairs k.tops (hrOf k.clk[i]) i = ((List.range k.tops.length).filter fun j => decide (0 < k.clk[i].getD j default)).map fun j => (i, k.tops.getD j default) := by
        unfold hrPairs
        have : (hrOf k.clk[i]).ns.length = k.tops.length := hrl
        rw [zip_range this, List.filter_map, List.map_map]
        rfl
      simp -implicitDefEqProofs [rg1_nat (show k.tops.length < 4611686018427387904 by omega)]
      rw [cFil (en := fun j : Nat => D.int (j : Int)) (f := fun j => prD (i, k.tops.getD j default)) (p := fun j => decide (0 < k.clk[i].getD j default)) (fun j hj => by
        rw [List.mem_range] at hj
        have hj2 : j < k.clk[i].length := by omega
        by_cases h0 : 0 < k.clk[i][j]
        · simp [cStep, hil, hj, hj2, h0, prD]
        · simp [cStep, hil, hj, hj2, h0]) (by simp; omega)]
      have eh2 : ((List.range k.tops.length).filter fun j => decide (0 < k.clk[i].getD j default)).map (fun j => prD (i, k.tops.getD j default)) = (hrPairs k.tops (hrOf k.clk[i]) i).map prD := by
        rw [eh, List.map_map]
        rfl
      rw [eh2]
      have hle2 : ((k.clk.zipIdx.take i).flatMap (fun q => hrPairs k.tops (hrOf q.1) q.2) ++ hrPairs k.tops (hrOf k.clk[i]) i).length ≤ 16777216 := by rw [List.length_append]; exact hlen
      generalize hq1 : ((k.clk.zipIdx.take i).flatMap fun q => hrPairs k.tops (hrOf q.1) q.2) = q1 at *
      generalize hq2 : hrPairs k.tops (hrOf k.clk[i]) i = q2 at *
      simp [hlen]
      exact ⟨⟨i + 1, _, _, e2, by omega, by rw [etk, List.map_append], rfl⟩⟩
  clear hc
  have hm : ∀ q ∈ pairs0 (plOf k), PyData.strOk q.2 = true := fun q hq => strOk_sub ok (pairs0_mem hq).2
  have hl : (pairs0 (plOf k)).length ≤ 16777216 := by
    have := pairs0_len (plOf k)
    have := ok.h2
    omega
  simp [sorted_prs hm hl (d := .lst ((pairs0 (plOf k)).map prD)) (S := S) rfl]
  rfl
def rkD (l : Lot) : D := .tup [.int (l.length : Int), lotD l]
theorem dok_lotD {l : Lot} (h : ∀ q ∈ l, PyData.strOk q.2 = true) : dok 2 (lotD l) = true := by
  show doks 1 (l.map prD) = true
  exact doks_map fun q hq => dok_prD 0 (h q hq)
theorem encD_rkD {l : Lot} (h : ∀ q ∈ l, PyData.strOk q.2 = true) : encD (rkD l) = keyLot (lotD l) := by
  unfold rkD
  rw [encD_tup (n := 2) (by simp [dok_lotD h]), keyLot_lotD h]
  simp [encD_lotD h]
theorem canSort_rk {xs : List Lot} (h : ∀ l ∈ xs, ∀ q ∈ l, PyData.strOk q.2 = true) (hl : xs.length ≤ 16777216) : CanSort (xs.map rkD) := by
  have ck := canSortK_lots h hl
  have hk : ∀ l ∈ xs, dok 3 (rkD l) = true := fun l hl => by
    show doks 2 [.int (l.length : Int), lotD l] = true
    simp [dok_lotD (h l hl)]
  refine ⟨fun d hd => ?_, fun a ha b hb => ?_, .inl fun d hd => ?_, by rw [sizeLine_eq, List.length_map]; exact hl, fun d hd => ?_⟩
  · obtain ⟨l, hl, rfl⟩ := List.mem_map.mp hd
    exact ⟨_, (dok_py (hk l hl)).1⟩
  · rw [List.map_map] at ha hb
    obtain ⟨l, hl, rfl⟩ := List.mem_map.mp ha
    obtain ⟨m, hm, rfl⟩ := List.mem_map.mp hb
    refine ck.al _ ?_ _ ?_
    · rw [List.map_map]
      exact List.mem_map.mpr ⟨l, hl, (encD_rkD (h l hl)).symm⟩
    · rw [List.map_map]
      exact List.mem_map.mpr ⟨m, hm, (encD_rkD (h m hm)).symm⟩
  · rw [List.map_map] at hd
    obtain ⟨l, hl, rfl⟩ := List.mem_map.mp hd
    exact ⟨_, _, (encD_rkD (h l hl)).trans (keyLot_lotD (h l hl))⟩
  · obtain ⟨l, hl, rfl⟩ := List.mem_map.mp hd
    have := (dok_py (hk l hl)).2.2
    omega
open Classical in
theorem sorted_rk {xs : List Lot} (h : ∀ l ∈ xs, ∀ q ∈ l, PyData.strOk q.2 = true) (hl : xs.length ≤ 16777216) {d : D} {S : Store} (hd : seqL d S = some (xs.map rkD)) : pSorted false [d] S = some (.lst ((xs.mergeSort lotLe).map rkD)) := by
  unfold pSorted
  dsimp only
  rw [hd]
  show (if CanSort (xs.map rkD) then _ else _) = _
  rw [if_pos (canSort_rk h hl)]
  unfold sortD
  rw [List.map_mergeSort (r := lotLe) (s := PySem.W.dataLe false encD) fun a ha b hb => ?_]
  unfold lotLe PySem.W.dataLe PySem.W.sortLe
  dsimp only
  rw [encD_rkD (h a ha), encD_rkD (h b hb)]
theorem lots0_snoc (done : List Pr) (q : Pr) : lots0 (done ++ [q]) = lots0 done ++ (lots0 done).map (· ++ [q]) := by
  unfold lots0
  rw [List.foldl_append]
  rfl
theorem law_lots_ok {k : Sk} (ok : PlOk (plOf k)) (S : Store) : F__law_lots [skD k] S = .ok (.lst ((lots (plOf k)).map lotD)) S := by
  unfold F__law_lots bf__law_lots
  simp [law_pairs_ok ok]
  have hp9 := pairs_len ok
  generalize hc : forGo _ _ _ _ _ _ = r
  obtain ⟨o2, o3, o4, rfl⟩ : ∃ o2 o3 o4, r = .nx [some (skD k), some (.lst ((lots0 (pairs (plOf k))).map lotD)), o2, o3, o4] S := by
    rw [← hc]
    clear hc
    refine forGo_inv (en := prD) (xs := pairs (plOf k)) (fun zs l S' => ∃ (done : List Pr) (o2 o3 o4 : Option D), done ++ zs = pairs (plOf k) ∧ l = [some (skD k), some (.lst ((lots0 done).map lotD)), o2, o3, o4] ∧ S' = S) (fun r => ∃ o2 o3 o4, r = .nx [some (skD k), some (.lst ((lots0 (pairs (plOf k))).map lotD)), o2, o3, o4] S) ?_ ?_ (fun z h => h) ⟨[], _, _, _, rfl, rfl, rfl⟩
    · rintro l S' ⟨done, o2, o3, o4, hd, rfl, rfl⟩
      rw [List.append_nil] at hd
      subst hd
      exact ⟨trivial, _, _, _, rfl⟩
    · rintro q ys l S' hx ⟨done, o2, o3, o4, hd, rfl, rfl⟩
      refine ⟨trivial, _, rfl, ?_⟩
      have h1 := congrArg List.length hd
      rw [List.length_append, List.length_cons] at h1
      have h2 : (lots0 done).length ≤ 2 ^ 8 := by
        unfold lots0
        rw [lots0_len, List.length_singleton, Nat.one_mul]
        exact Nat.pow_le_pow_right (by omega) (by omega)
      have h3 : ∀ l ∈ lots0 done, l.length ≤ 8 := fun l hl => by
        obtain ⟨l', hl', l2, rfl, h4⟩ := lots0_sub _ _ hl
        rw [List.mem_singleton] at hl'
        subst hl'
        have := h4.length_le
        simp
        omega
      simp
      rw [cMap (en := lotD) (f := fun l => lotD (l ++ [q])) (fun l hl => by
        have h5 : l.length + 1 ≤ 16777216 := by have := h3 l hl; omega
        simp [cStep, lotD, h5]) (by omega)]
      have h6 : (lots0 done).length + (lots0 done).length ≤ 16777216 := by omega
      simp [h6]
      exact ⟨done ++ [q], by simpa using hd, by rw [lots0_snoc, List.map_append, List.map_map]; rfl⟩
  clear hc
  have hm : ∀ l ∈ (lots0 (pairs (plOf k))).tail, ∀ q ∈ l, PyData.strOk q.2 = true := fun l hl q hq => by
    have := lots_mem (p := plOf k) (l := l) (List.mem_mergeSort.mpr hl) q hq
    exact strOk_sub ok (pairs_mem this).2
  have hl : (lots0 (pairs (plOf k))).tail.length ≤ 16777216 := by
    rw [List.length_tail]
    unfold lots0
    rw [lots0_len, List.length_singleton, Nat.one_mul]
    have : 2 ^ (pairs (plOf k)).length ≤ 2 ^ 9 := Nat.pow_le_pow_right (by omega) hp9
    omega
  simp
  rw [← List.map_tail]
  have hl3 : ∀ l : Lot, pLenS [lotD l] S = some (.int (l.length : Int)) := fun l => by simp [lotD]
  rw [cMap (en := lotD) (f := rkD) (fun l hl => by simp [cStep, hl3, rkD]) (by omega)]
  have hd2 : seqL (.lst ((lots0 (pairs (plOf k))).map rkD).tail) S = some ((lots0 (pairs (plOf k))).tail.map rkD) := by simp
  simp [sorted_rk hm hl hd2]
  rw [cMap (en := rkD) (f := lotD) (fun l hl => by simp [cStep, rkD]) (by rw [List.length_mergeSort]; omega)]
  simp
  rfl
def seenF (gv : List Str) (acc : List Int) (q : Pr) : List Int := if q.2 ∈ gv ∧ (q.1 : Int) ∉ acc then acc ++ [(q.1 : Int)] else acc
theorem seen_fold (gv : List Str) : ∀ (l : Lot) (acc : List Int), ((l.filter fun q => decide (q.2 ∈ gv)).map fun q => (q.1 : Int)).foldl (fun acc x => if acc.any (· == x) then acc else acc ++ [x]) acc = l.foldl (seenF gv) acc
  | [], acc => rfl
  | q :: l, acc => by
    rw [List.foldl_cons, ← seen_fold gv l]
    by_cases h : q.2 ∈ gv
    · rw [List.filter_cons_of_pos (by simpa using h), List.map_cons, List.foldl_cons]
      congr 1
      unfold seenF
      by_cases h2 : (q.1 : Int) ∈ acc
      · rw [if_pos (by simpa using h2), if_neg (fun c => c.2 h2)]
      · rw [if_neg (by simpa using h2), if_pos ⟨h, h2⟩]
    · rw [List.filter_cons_of_neg (by simpa using h)]
      unfold seenF
      rw [if_neg (fun c => h c.1)]
theorem hset_seen (gv : List Str) (l : Lot) : hset gv l = l.foldl (seenF gv) [] := seen_fold gv l []
structure SwInv (s : Srt) (l : Lot) (S : Store) (zs : List Pr) (ls : L) (S' : Store) : Prop where
  ex : ∃ (done : Lot) (acc : List Int) (o3 o4 : Option D), done ++ zs = l ∧ acc = done.foldl (seenF s.gv) [] ∧ ls = [some (srtD s), some (lotD l), some (.loc S.length), o3, o4] ∧ S' = S ++ [.lst (acc.map .int)]
theorem seen_len (gv : List Str) (l : Lot) (acc : List Int) : (l.foldl (seenF gv) acc).length ≤ acc.length + l.length := by
  induction l generalizing acc with
  | nil => simp
  | cons q l ih =>
    rw [List.foldl_cons]
    refine Nat.le_trans (ih _) ?_
    unfold seenF
    rw [List.length_cons]
    split
    · rw [List.length_append, List.length_singleton]
      omega
    · omega
@[simp] theorem srt_ix0 (s : Srt) (S : Store) : pIx (srtD s) (.int 0) S = some (.str s.nm) := by unfold srtD; simp
@[simp] theorem srt_ix1 (s : Srt) (S : Store) : pIx (srtD s) (.int 1) S = some (.lst (s.gv.map .str)) := by unfold srtD; simp
@[simp] theorem srt_ix2 (s : Srt) (S : Store) : pIx (srtD s) (.int 2) S = some (.int s.num) := by unfold srtD; simp
@[simp] theorem srt_ix3 (s : Srt) (S : Store) : pIx (srtD s) (.int 3) S = some (.int s.mst) := by unfold srtD; simp
@[simp] theorem srt_ix4 (s : Srt) (S : Store) : pIx (srtD s) (.int 4) S = some (illD s.ill) := by unfold srtD; simp
theorem law_weight_ok {s : Srt} {l : Lot} (hl : l.length ≤ 1000) (hs : ∀ q ∈ l, PyData.strOk q.2 = true) (hg : ∀ g ∈ s.gv, PyData.strOk g = true) (S : Store) : F__law_weight [srtD s, lotD l] S = .ok (.int (weight (kdOf s) l)) S := by
  unfold F__law_weight bf__law_weight
  have hi : itemsV (lotD l) (S ++ [Ob.lst []]) = some (l.map prD, []) := by unfold lotD; simp
  simp [hi]
  generalize hc : forGo _ _ _ _ _ _ = r
  obtain ⟨o3, o4, rfl⟩ : ∃ o3 o4, r = .nx [some (srtD s), some (lotD l), some (.loc S.length), o3, o4] (S ++ [.lst ((hset s.gv l).map .int)]) := by
    rw [← hc]
    clear hc hi
    refine forGo_inv (en := prD) (xs := l) (SwInv s l S) (fun r => ∃ o3 o4, r = .nx [some (srtD s), some (lotD l), some (.loc S.length), o3, o4] (S ++ [.lst ((hset s.gv l).map .int)])) ?_ ?_ (fun z h => h) ⟨⟨[], [], _, _, rfl, rfl, rfl, rfl⟩⟩
    · rintro ls S' ⟨⟨done, acc, o3, o4, hd, ha, rfl, rfl⟩⟩
      rw [List.append_nil] at hd
      subst hd
      exact ⟨trivial, _, _, by rw [hset_seen, ha]⟩
    · rintro q ys ls S' hx ⟨⟨done, acc, o3, o4, hd, ha, rfl, rfl⟩⟩
      refine ⟨trivial, _, rfl, ?_⟩
      have hk : (S ++ [Ob.lst (acc.map .int)])[S.length]? = some (.lst (acc.map .int)) := by simp
      have i1 := pIn_lst (d := .str q.2) (S := S ++ [Ob.lst (acc.map .int)]) 0 0 (by simpa using hs q hx) (doks_map (f := D.str) (xs := s.gv) (fun g hg' => by simpa using hg g hg')) (by decide) (by decide)
      rw [encD_str, inP_strs] at i1
      have i2 := pNotIn_of (pIn_locL (d := .int (q.1 : Int)) 0 0 hk (by simp) (doks_int 0 acc) (by decide) (by decide))
      rw [encD_int, inP_ints] at i2
      have hal : acc.length < 16777216 := by
        have h1 := seen_len s.gv done []
        have h2 := congrArg List.length hd
        rw [List.length_append] at h2
        rw [ha]
        simp at h1
        omega
      have step : (done ++ [q]).foldl (seenF s.gv) [] = seenF s.gv acc q := by rw [List.foldl_append, ha]; rfl
      by_cases h1 : q.2 ∈ s.gv
      · by_cases h2 : (q.1 : Int) ∈ acc
        · rw [decide_eq_true h1] at i1
          rw [decide_eq_true h2] at i2
          simp [prD, i1, i2]
          exact ⟨⟨done ++ [q], acc, _, _, by simpa using hd, by rw [step]; unfold seenF; rw [if_neg (fun c => c.2 h2)], rfl, rfl⟩⟩
        · rw [decide_eq_true h1] at i1
          rw [decide_eq_false h2] at i2
          simp [prD, i1, i2, hal]
          exact ⟨⟨done ++ [q], acc ++ [(q.1 : Int)], _, _, by simpa using hd, by rw [step]; unfold seenF; rw [if_pos ⟨h1, h2⟩], rfl, by simp⟩⟩
      · rw [decide_eq_false h1] at i1
        simp [prD, i1]
        exact ⟨⟨done ++ [q], acc, _, _, by simpa using hd, by rw [step]; unfold seenF; rw [if_neg (fun c => h1 c.1)], rfl, rfl⟩⟩
  simp
  refine fin_true (by simp) (fun i hi => List.getElem?_append_left hi) ?_
  rfl
theorem index_lst {ts : List Str} {s : Str} (hs : ∀ t ∈ ts, PyData.strOk t = true) (h : s ∈ ts) (S : Store) : pIndexL (.lst (ts.map .str)) [.str s] S = some (.int (ts.findIdx (· == s) : Nat)) := by
  have hd : doks 0 (ts.map D.str) = true := doks_map fun t ht => by simpa using hs t ht
  unfold pIndexL
  dsimp only
  rw [toPyS_dok (n := 1) (d := .lst (ts.map .str)) (by simpa using hd), toPyS_dok (n := 0) (d := .str s) (by simpa using hs s h), encD_lst hd, encD_str]
  dsimp only
  have s1 : SeqAt.shaped (.list ((ts.map D.str).map encD)) = true := by
    rw [← encD_lst hd]
    exact shaped_dok (n := 1) (by simpa using hd) (by decide)
  have s2 : SeqAt.shaped (.str s) = true := shaped_dok (n := 0) (d := .str s) (by simpa using hs s h) (by decide)
  rw [if_pos ⟨s1, s2⟩]
  have e : (((ts.map D.str).map encD).findIdx? fun z => PyData.eqv z (.str s)) = ts.findIdx? fun t => t == s := by
    rw [List.map_map, List.findIdx?_map]
    congr 1
  rw [e, find_sub h]
  rfl
theorem law_needs_ok {k : Sk} (ok : PlOk (plOf k)) {l : Lot} (hl : LotOk (plOf k) l) (S : Store) : F__law_needs [skD k, lotD l] S = .ok (.int (needs (plOf k) l)) S := by
  unfold F__law_needs bf__law_needs needs
  have hi : itemsV (lotD l) S = some (l.map prD, []) := by unfold lotD; simp
  have hll := hl.len
  simp [hi]
  rw [cMap (en := prD) (f := fun q => D.int (lesson (plOf k) q)) (fun q hq => by
    obtain ⟨h1, h2⟩ := hl.mem q hq
    have h1 : q.1 < k.clk.length := by simpa [plOf] using h1
    have h2 : q.2 ∈ k.tops := h2
    have hlen : k.clk[q.1].length = k.tops.length := (ok.ho (hrOf k.clk[q.1]) (List.mem_map_of_mem (List.getElem_mem h1))).len
    have hi := find_lt h2
    have e : lesson (plOf k) q = k.clk[q.1][k.tops.findIdx (· == q.2)] := by
      unfold lesson
      have e0 : (plOf k).hrs.getD q.1 default = hrOf k.clk[q.1] := by
        show (k.clk.map hrOf).getD q.1 default = _
        simp [List.getD_eq_getElem?_getD, h1]
      rw [e0]
      show k.clk[q.1].getD (k.tops.findIdx (· == q.2)) 0 = _
      rw [List.getD_eq_getElem?_getD, List.getElem?_eq_getElem (by omega)]
      rfl
    have ix : pIndexL (.lst (k.tops.map .str)) [.str q.2] S = some (.int (k.tops.findIdx (· == q.2) : Nat)) := index_lst (fun t ht => strOk_sub ok ht) h2 S
    have g1 : k.clk[q.1][k.tops.findIdx (· == q.2)]? = some (lesson (plOf k) q) := by rw [List.getElem?_eq_getElem (by omega), e]
    simp [cStep, prD, h1, ix, g1]) (by omega)]
  simp
theorem there_nil (aw : List Int) (l : Lot) : there [] aw l = 0 := rfl
theorem there_snoc (ks : List (Kd × Int)) (q : Kd × Int) (l : Lot) : ((ks ++ [q]).map fun q => (q.1.num - q.2) * weight q.1 l).sum = (ks.map fun q => (q.1.num - q.2) * weight q.1 l).sum + (q.1.num - q.2) * weight q.1 l := by simp
theorem zip_kds (k : Sk) (aw : List Int) : (plOf k).kds.zip aw = (k.srt.zip aw).map fun q => (kdOf q.1, q.2) := by
  show (k.srt.map kdOf).zip aw = _
  rw [List.zip_map_left]
  rfl
structure LmInv (k : Sk) (aw : D) (l : Lot) (zs0 : List (Srt × Int)) (S : Store) (zs : List (Srt × Int)) (ls : L) (S' : Store) : Prop where
  ex : ∃ (done : List (Srt × Int)) (o4 o5 : Option D), done ++ zs = zs0 ∧ ls = [some (skD k), some aw, some (lotD l), some (.int (done.map fun q => (q.1.num - q.2) * weight (kdOf q.1) l).sum), o4, o5] ∧ S' = S
theorem law_margin_ok {k : Sk} (ok : PlOk (plOf k)) {aw : List Int} {awd : D} (haw : ∀ T, sq1 awd T = some (aw.map .int, [])) {l : Lot} (hl : LotOk (plOf k) l) (S : Store) : F__law_margin [skD k, awd, lotD l] S = .ok (.int (margin (plOf k) aw l)) S := by
  unfold F__law_margin bf__law_margin margin there
  have hll := hl.len
  rw [zip_kds, List.map_map]
  simp [haw, zipD_map]
  generalize hc : forGo _ _ _ _ _ _ = r
  obtain ⟨o4, o5, rfl⟩ : ∃ o4 o5, r = .nx [some (skD k), some awd, some (lotD l), some (.int ((k.srt.zip aw).map fun q => (q.1.num - q.2) * weight (kdOf q.1) l).sum), o4, o5] S := by
    rw [← hc]
    clear hc
    refine forGo_inv (en := fun q : Srt × Int => D.tup [srtD q.1, .int q.2]) (xs := k.srt.zip aw) (LmInv k awd l (k.srt.zip aw) S) (fun r => ∃ o4 o5, r = .nx [some (skD k), some awd, some (lotD l), some (.int ((k.srt.zip aw).map fun q => (q.1.num - q.2) * weight (kdOf q.1) l).sum), o4, o5] S) ?_ ?_ (fun z h => h) ⟨⟨[], _, _, rfl, rfl, rfl⟩⟩
    · rintro ls S' ⟨⟨done, o4, o5, hd, rfl, rfl⟩⟩
      rw [List.append_nil] at hd
      subst hd
      exact ⟨trivial, _, _, rfl⟩
    · rintro ⟨s, a⟩ ys ls S' hx ⟨⟨done, o4, o5, hd, rfl, rfl⟩⟩
      refine ⟨trivial, _, rfl, ?_⟩
      have hs : kdOf s ∈ (plOf k).kds := List.mem_map_of_mem (List.of_mem_zip hx).1
      have kok := ok.ko (kdOf s) hs
      have w0 := weight0 kok l
      have w3 := weight3 kok l
      have hc : CMul (s.num - a) (weight (kdOf s) l) := CMul_r (by omega) (by omega)
      have hw := law_weight_ok (s := s) (l := l) hl.len (fun q hq => strOk_sub ok (hl.mem q hq).2) (fun g hg => strOk_name (kok.gn g hg)) S'
      simp [hw, pMul_ok hc]
      exact ⟨⟨done ++ [(s, a)], some (srtD s), some (.int a), by simpa using hd, by simp, rfl⟩⟩
  simp [law_needs_ok ok hl]
  rfl
theorem law_able_ok (s : Srt) (S : Store) : F__law_able [srtD s] S = .ok (.int (illOf (kdOf s))) S := by
  unfold F__law_able bf__law_able illOf kdOf
  cases h : s.ill with
  | none => simp [illD, h]
  | some i => simp [illD, h]
def many (k : Sk) (l : Lot) (w : Int) : Int := ((k.srt.filter fun s => decide (weight (kdOf s) l = w)).map fun s => illOf (kdOf s)).sum
def lsz (k : Sk) (l : Lot) : Option Int := if margin (plOf k) (nob (plOf k)) l < 0 then some 0 else gob ([3, 2, 1].map fun w => (w, many k l w)) (margin (plOf k) (nob (plOf k)) l) 0
theorem nob_srt (k : Sk) : nob (plOf k) = k.srt.map fun _ => 0 := by
  unfold nob
  show (k.srt.map kdOf).map _ = _
  rw [List.map_map]
  rfl
structure LsInv (k : Sk) (l : Lot) (S : Store) (zs : List Int) (ls : L) (S' : Store) : Prop where
  ex : ∃ (left size : Int) (o4 o5 o6 : Option D), ls = [some (skD k), some (lotD l), some (.int left), some (.int size), o4, o5, o6] ∧ S' = S ∧ gob (zs.map fun w => (w, many k l w)) left size = gob ([3, 2, 1].map fun w => (w, many k l w)) (margin (plOf k) (nob (plOf k)) l) 0
def LsEnd (k : Sk) (l : Lot) (S : Store) (r : Fl) : Prop := (∃ v, gob ([3, 2, 1].map fun w => (w, many k l w)) (margin (plOf k) (nob (plOf k)) l) 0 = some v ∧ r = .rt (.int v) S) ∨ (gob ([3, 2, 1].map fun w => (w, many k l w)) (margin (plOf k) (nob (plOf k)) l) 0 = none ∧ ∃ l', r = .nx l' S)
theorem gob_cons (w m : Int) (r : List (Int × Int)) (left size : Int) : gob ((w, m) :: r) left size = if left < m * w then some (size + left / w + 1) else gob r (left - m * w) (size + m) := rfl
theorem gob_group {w : Int} (hw : 0 < w) {r r' : List (Int × Int)} (hr : ∀ left size, 0 ≤ left → gob r left size = gob r' left size) : ∀ {ms : List Int} {left size : Int}, (∀ m ∈ ms, 0 ≤ m) → 0 ≤ left → gob (ms.map (fun m => (w, m)) ++ r) left size = gob ((w, ms.sum) :: r') left size
  | [], left, size, _, hl => by
    rw [List.map_nil, List.nil_append, List.sum_nil, gob_cons, if_neg (by omega), hr _ _ hl]
    simp
  | m :: ms, left, size, hm, hl => by
    have h0 := hm m (.head _)
    have hs : ∀ ms : List Int, (∀ m ∈ ms, 0 ≤ m) → 0 ≤ ms.sum := by
      intro ms
      induction ms with
      | nil => intro _; simp
      | cons a ms ih =>
        intro h
        have := h a (.head _)
        have := ih fun m hm => h m (.tail _ hm)
        rw [List.sum_cons]
        omega
    have hs0 := hs ms fun m hm' => hm m (.tail _ hm')
    have hmw : 0 ≤ ms.sum * w := Int.mul_nonneg hs0 (by omega)
    rw [List.map_cons, List.cons_append, gob_cons, gob_cons, List.sum_cons, Int.add_mul]
    by_cases hb : left < m * w
    · rw [if_pos hb, if_pos (by omega)]
    · rw [if_neg hb, gob_group hw hr (fun m hm' => hm m (.tail _ hm')) (by omega), gob_cons]
      by_cases hb2 : left < m * w + ms.sum * w
      · rw [if_pos (by omega), if_pos hb2]
        have : (left - m * w) / w = left / w - m := by
          rw [Int.sub_ediv_of_dvd _ (Int.dvd_mul_left m w), Int.mul_ediv_cancel _ (by omega)]
        rw [this]
        congr 1
        omega
      · rw [if_neg (by omega), if_neg hb2]
        congr 1 <;> omega
theorem sorted_split {xs : List (Int × Nat)} (hs : xs.Pairwise fun a b => b.1 ≤ a.1) (hw : ∀ x ∈ xs, x.1 = 3 ∨ x.1 = 2 ∨ x.1 = 1) :
    xs = xs.filter (fun x => decide (x.1 = 3)) ++ (xs.filter (fun x => decide (x.1 = 2)) ++ xs.filter (fun x => decide (x.1 = 1))) := by
  induction xs with
  | nil => rfl
  | cons x xs ih =>
    rw [List.pairwise_cons] at hs
    have ih := ih hs.2 fun y hy => hw y (.tail _ hy)
    have hx := hw x (.head _)
    have none_of : ∀ c : Int, x.1 < c → xs.filter (fun x => decide (x.1 = c)) = [] := fun c hc => by
      rw [List.filter_eq_nil_iff]
      intro y hy
      have := hs.1 y hy
      simp
      omega
    rcases hx with h | h | h
    · rw [List.filter_cons_of_pos (by simp [h]), List.filter_cons_of_neg (by simp [h]), List.filter_cons_of_neg (by simp [h]), List.cons_append, ← ih]
    · rw [none_of 3 (by omega), List.nil_append] at ih
      rw [List.filter_cons_of_neg (by simp [h]), List.filter_cons_of_pos (by simp [h]), List.filter_cons_of_neg (by simp [h]), none_of 3 (by omega), List.nil_append, List.cons_append, ← ih]
    · rw [none_of 3 (by omega), none_of 2 (by omega), List.nil_append, List.nil_append] at ih
      rw [List.filter_cons_of_neg (by simp [h]), List.filter_cons_of_neg (by simp [h]), List.filter_cons_of_pos (by simp [h]), none_of 3 (by omega), none_of 2 (by omega), List.nil_append, List.nil_append, ← ih]
theorem perm_sum {xs ys : List Int} (h : xs.Perm ys) : xs.sum = ys.sum := by
  induction h with
  | nil => rfl
  | cons x _ ih => rw [List.sum_cons, List.sum_cons, ih]
  | swap x y l => simp only [List.sum_cons]; omega
  | trans _ _ h1 h2 => exact h1.trans h2
def manyP (p : Pl) (l : Lot) (w : Int) : Int := ((p.kds.filter fun s => decide (weight s l = w)).map illOf).sum
theorem many_eq (k : Sk) (l : Lot) (w : Int) : many k l w = manyP (plOf k) l w := by
  unfold many manyP
  show _ = (((k.srt.map kdOf).filter _).map illOf).sum
  rw [List.filter_map, List.map_map]
  rfl
theorem byW_perm (p : Pl) (l : Lot) : (byW p l).Perm (wis p l) := List.mergeSort_perm _ _
theorem group_sum (p : Pl) (l : Lot) {c : Int} (hc : 0 < c) : (((byW p l).filter fun x => decide (x.1 = c)).map fun q => illOf (p.kds.getD q.2 default)).sum = manyP p l c := by
  rw [perm_sum (((byW_perm p l).filter _).map _)]
  unfold wis manyP
  rw [List.filter_filter, List.filter_map, List.map_map]
  have e1 : (p.kds.zipIdx.filter ((fun a : Int × Nat => decide (a.1 = c) && decide (0 < a.1)) ∘ fun q : Kd × Nat => (weight q.1 l, q.2))) = p.kds.zipIdx.filter ((fun s => decide (weight s l = c)) ∘ Prod.fst) := by
    refine List.filter_congr fun q hq => ?_
    simp
    omega
  rw [e1]
  have e2 : (p.kds.zipIdx.filter ((fun s => decide (weight s l = c)) ∘ Prod.fst)).map ((fun q : Int × Nat => illOf (p.kds.getD q.2 default)) ∘ fun q : Kd × Nat => (weight q.1 l, q.2)) = ((p.kds.zipIdx.filter ((fun s => decide (weight s l = c)) ∘ Prod.fst)).map Prod.fst).map illOf := by
    rw [List.map_map]
    refine List.map_congr_left fun q hq => ?_
    obtain ⟨kd, i⟩ := q
    have h := List.mem_zipIdx_iff_getElem?.mp (List.mem_filter.mp hq).1
    have h : p.kds[i]? = some kd := h
    simp [List.getD_eq_getElem?_getD, h]
  rw [e2, ← List.filter_map, List.zipIdx_map_fst]
theorem ill0 {subs : List Str} {k : Kd} (ok : KdOk subs k) : 0 ≤ illOf k := by
  unfold illOf
  have := ok.num.1
  cases h : k.ill with
  | none => exact this
  | some i =>
    have := (ok.ill i h).1
    show 0 ≤ min _ _
    omega
theorem ill_num {subs : List Str} {k : Kd} (ok : KdOk subs k) : illOf k ≤ k.num := by
  unfold illOf
  cases h : k.ill with
  | none => exact Int.le_refl _
  | some i =>
    show min _ _ ≤ _
    omega
theorem byW_w {p : Pl} (ok : PlOk p) {l : Lot} : ∀ x ∈ byW p l, x.1 = 3 ∨ x.1 = 2 ∨ x.1 = 1 := fun x hx => by
  obtain ⟨h0, k, hk, e⟩ := byW_mem hx
  have := weight3 (ok.ko k (List.mem_of_getElem? hk)) l
  omega
theorem byW_ill {p : Pl} (ok : PlOk p) {l : Lot} : ∀ x ∈ byW p l, 0 ≤ illOf (p.kds.getD x.2 default) := fun x hx => by
  obtain ⟨h0, k, hk, e⟩ := byW_mem hx
  have := ill0 (ok.ko k (List.mem_of_getElem? hk))
  simpa [List.getD_eq_getElem?_getD, hk] using this
theorem gob_byW {p : Pl} (ok : PlOk p) (l : Lot) {left : Int} (hl : 0 ≤ left) (size : Int) : gob ((byW p l).map (wm p)) left size = gob ([3, 2, 1].map fun w => (w, manyP p l w)) left size := by
  have sp := sorted_split (byW_sorted p l) (byW_w ok)
  have part : ∀ c : Int, (((byW p l).filter fun x => decide (x.1 = c)).map (wm p)) = (((byW p l).filter fun x => decide (x.1 = c)).map fun q => illOf (p.kds.getD q.2 default)).map fun m => (c, m) := fun c => by
    rw [List.map_map]
    refine List.map_congr_left fun q hq => ?_
    have := of_decide_eq_true (List.mem_filter.mp hq).2
    unfold wm
    rw [this]
    rfl
  have nn : ∀ c : Int, ∀ m ∈ (((byW p l).filter fun x => decide (x.1 = c)).map fun q => illOf (p.kds.getD q.2 default)), 0 ≤ m := fun c m hm => by
    obtain ⟨q, hq, rfl⟩ := List.mem_map.mp hm
    exact byW_ill ok q (List.mem_filter.mp hq).1
  rw [sp, List.map_append, List.map_append, part 3, part 2, part 1]
  have h1 : ∀ left size, 0 ≤ left → gob ((((byW p l).filter fun x => decide (x.1 = 1)).map fun q => illOf (p.kds.getD q.2 default)).map fun m => ((1 : Int), m)) left size = gob [(1, manyP p l 1)] left size := fun left size hl => by
    have := gob_group (w := 1) (by omega) (r := []) (r' := []) (fun _ _ _ => rfl) (ms := ((byW p l).filter fun x => decide (x.1 = 1)).map fun q => illOf (p.kds.getD q.2 default)) (size := size) (nn 1) hl
    rw [List.append_nil, group_sum p l (by omega)] at this
    exact this
  have h2 : ∀ left size, 0 ≤ left → gob (((((byW p l).filter fun x => decide (x.1 = 2)).map fun q => illOf (p.kds.getD q.2 default)).map fun m => ((2 : Int), m)) ++ ((((byW p l).filter fun x => decide (x.1 = 1)).map fun q => illOf (p.kds.getD q.2 default)).map fun m => ((1 : Int), m))) left size = gob [(2, manyP p l 2), (1, manyP p l 1)] left size := fun left size hl => by
    have := gob_group (w := 2) (by omega) h1 (ms := ((byW p l).filter fun x => decide (x.1 = 2)).map fun q => illOf (p.kds.getD q.2 default)) (size := size) (nn 2) hl
    rw [group_sum p l (by omega)] at this
    exact this
  have := gob_group (w := 3) (by omega) h2 (ms := ((byW p l).filter fun x => decide (x.1 = 3)).map fun q => illOf (p.kds.getD q.2 default)) (size := size) (nn 3) hl
  rw [group_sum p l (by omega)] at this
  exact this
theorem bsz_eq {k : Sk} (ok : PlOk (plOf k)) (l : Lot) : lsz k l = bsz (plOf k) l := by
  unfold lsz bsz
  split
  · rfl
  · rename_i h
    rw [gob_byW ok l (by omega)]
    simp only [many_eq]
/-- how many are taken in all, and with which weight -/
def tkc : List (Int × Int) → Int → Int
  | [], _ => 0
  | (_, m) :: r, z => min z m + tkc r (z - min z m)
def tkw : List (Int × Int) → Int → Int
  | [], _ => 0
  | (w, m) :: r, z => min z m * w + tkw r (z - min z m)
theorem tk_zero : ∀ {xs : List (Int × Int)}, (∀ x ∈ xs, 0 < x.1 ∧ 0 ≤ x.2) → tkc xs 0 = 0 ∧ tkw xs 0 = 0
  | [], _ => ⟨rfl, rfl⟩
  | (w, m) :: r, h => by
    have hx := h (w, m) (.head _)
    have h2 := hx.2
    simp at h2
    have e : min (0 : Int) m = 0 := by omega
    obtain ⟨a, b⟩ := tk_zero (xs := r) fun x hx => h x (.tail _ hx)
    rw [tkc, tkw, e]
    simp [a, b]
theorem tk_gob : ∀ {xs : List (Int × Int)} {left size v : Int}, (∀ x ∈ xs, 0 < x.1 ∧ 0 ≤ x.2) → 0 ≤ left → gob xs left size = some v → tkc xs (v - size) = v - size ∧ left < tkw xs (v - size)
  | [], _, _, _, _, _, h => nomatch h
  | (w, m) :: r, left, size, v, hx, hl, h => by
    have hw := (hx (w, m) (.head _)).1
    have hm := (hx (w, m) (.head _)).2
    have hw : 0 < w := hw
    have hm : 0 ≤ m := hm
    rw [gob_cons] at h
    by_cases hb : left < m * w
    · rw [if_pos hb] at h
      cases h
      have q0 : 0 ≤ left / w := Int.ediv_nonneg hl (by omega)
      have q1 : left / w < m := Int.ediv_lt_of_lt_mul hw hb
      have e : min (size + left / w + 1 - size) m = left / w + 1 := by omega
      have e2 : size + left / w + 1 - size - (left / w + 1) = 0 := by omega
      obtain ⟨a, b⟩ := tk_zero (xs := r) fun x hx' => hx x (.tail _ hx')
      rw [tkc, tkw, e, e2, a, b]
      have : left < (left / w + 1) * w := Int.lt_ediv_add_one_mul_self left hw
      omega
    · rw [if_neg hb] at h
      have hr := fun x hx' => hx x (.tail _ hx')
      have gv := gob_ge hr (by omega) h
      obtain ⟨a, b⟩ := tk_gob hr (by omega) h
      have e : min (v - size) m = m := by omega
      have e2 : v - size - m = v - (size + m) := by omega
      rw [tkc, tkw, e, e2, a]
      omega
/-- the sum of numbers times weights -/
def wsum (ws aw : List Int) : Int := ((ws.zip aw).map fun q => q.1 * q.2).sum
theorem sum_set : ∀ {a : List Int} {i : Nat} {t : Int}, a[i]? = some 0 → (a.set i t).sum = a.sum + t
  | [], i, t, h => by simp at h
  | x :: a, 0, t, h => by
    simp at h
    subst h
    simp
    omega
  | x :: a, i + 1, t, h => by
    rw [List.set_cons_succ, List.sum_cons, List.sum_cons, sum_set (by simpa using h)]
    omega
theorem wsum_set : ∀ {ws a : List Int} {i : Nat} {w t : Int}, a[i]? = some 0 → ws[i]? = some w → wsum ws (a.set i t) = wsum ws a + t * w
  | [], a, i, w, t, _, h => by simp at h
  | u :: ws, [], i, w, t, h, _ => by simp at h
  | u :: ws, x :: a, 0, w, t, h, h2 => by
    simp at h h2
    subst h h2
    simp [wsum]
    rw [Int.mul_comm]
    omega
  | u :: ws, x :: a, i + 1, w, t, h, h2 => by
    have := wsum_set (ws := ws) (a := a) (i := i) (w := w) (t := t) (by simpa using h) (by simpa using h2)
    unfold wsum at this ⊢
    rw [List.set_cons_succ, List.zip_cons_cons, List.zip_cons_cons, List.map_cons, List.map_cons, List.sum_cons, List.sum_cons, this]
    omega
structure Wsd (p : Pl) (l : Lot) (aw : List Int) : Prop where
  len : aw.length = p.kds.length
  bd : ∀ (i : Nat) (a : Int) (k : Kd), aw[i]? = some a → p.kds[i]? = some k → 0 ≤ a ∧ a ≤ illOf k
theorem wst_fold {p : Pl} (ok : PlOk p) {l : Lot} : ∀ {xs : List (Int × Nat)} {z : Int} {a : List Int}, (∀ x ∈ xs, ∃ k, p.kds[x.2]? = some k ∧ x.1 = weight k l) → (xs.map Prod.snd).Nodup → (∀ x ∈ xs, a[x.2]? = some 0) → 0 ≤ z → Wsd p l a →
    Wsd p l (xs.foldl (wst p) (z, a)).2 ∧ (xs.foldl (wst p) (z, a)).2.sum = a.sum + tkc (xs.map (wm p)) z ∧ wsum (p.kds.map fun k => weight k l) (xs.foldl (wst p) (z, a)).2 = wsum (p.kds.map fun k => weight k l) a + tkw (xs.map (wm p)) z
  | [], z, a, _, _, _, _, hd => ⟨hd, by simp [tkc], by simp [tkw]⟩
  | (w, i) :: xs, z, a, hx, hn, ha, hz, hd => by
    obtain ⟨k, hk, hw⟩ := hx (w, i) (.head _)
    have hk : p.kds[i]? = some k := hk
    have hw : w = weight k l := hw
    have ei : p.kds.getD i default = k := by simp [List.getD_eq_getElem?_getD, hk]
    have i0 := ill0 (ok.ko k (List.mem_of_getElem? hk))
    rw [List.map_cons, List.nodup_cons] at hn
    have h0 : a[i]? = some 0 := ha (w, i) (.head _)
    have hil : i < a.length := (List.getElem?_eq_some_iff.mp h0).1
    have est : wst p (z, a) (w, i) = (z - min z (illOf k), a.set i (min z (illOf k))) := by
      unfold wst
      simp only [ei]
    have hd' : Wsd p l (a.set i (min z (illOf k))) := by
      refine ⟨by rw [List.length_set]; exact hd.len, fun j b k' hj hk' => ?_⟩
      by_cases e : i = j
      · subst e
        rw [List.getElem?_set_self hil] at hj
        rw [hk] at hk'
        cases hj
        cases hk'
        omega
      · rw [List.getElem?_set_ne e] at hj
        exact hd.bd j b k' hj hk'
    obtain ⟨r1, r2, r3⟩ := wst_fold ok (xs := xs) (z := z - min z (illOf k)) (a := a.set i (min z (illOf k))) (fun x hx' => hx x (.tail _ hx')) hn.2 (fun x hx' => by
      have : i ≠ x.2 := fun e => hn.1 (by have := List.mem_map_of_mem (f := Prod.snd) hx'; rw [← e] at this; exact this)
      rw [List.getElem?_set_ne this]
      exact ha x (.tail _ hx')) (by omega) hd'
    rw [List.foldl_cons, est]
    have ewm : wm p (w, i) = (w, illOf k) := by
      unfold wm
      simp only [ei]
    refine ⟨r1, ?_, ?_⟩
    · rw [r2, sum_set h0, List.map_cons, ewm, tkc]
      omega
    · rw [r3, wsum_set (w := w) h0 (by rw [List.getElem?_map, hk, hw]; rfl), List.map_cons, ewm, tkw]
      omega
theorem byW_nodup (p : Pl) (l : Lot) : ((byW p l).map Prod.snd).Nodup := by
  have h1 : ((byW p l).map Prod.snd).Perm ((wis p l).map Prod.snd) := (byW_perm p l).map _
  rw [h1.nodup_iff]
  unfold wis
  refine List.Nodup.sublist (List.Sublist.map _ List.filter_sublist) ?_
  rw [List.map_map]
  have e : (Prod.snd ∘ fun q : Kd × Nat => (weight q.1 l, q.2)) = Prod.snd := rfl
  rw [e, List.zipIdx_map_snd]
  exact List.nodup_range'
theorem there_nob (ks : List Kd) (l : Lot) (aw : List Int) (hl : aw.length = ks.length) : there ks aw l = there ks (ks.map fun _ => 0) l - wsum (ks.map fun k => weight k l) aw := by
  unfold there wsum
  induction ks generalizing aw with
  | nil => simp
  | cons k ks ih =>
    cases aw with
    | nil => simp at hl
    | cons a aw =>
      have := ih aw (by simpa using hl)
      simp only [List.map_cons, List.zip_cons_cons, List.sum_cons] at this ⊢
      rw [this, Int.sub_mul, Int.sub_mul, Int.zero_mul, Int.mul_comm a]
      omega
theorem worst_facts {p : Pl} (ok : PlOk p) (l : Lot) {z : Int} (hz : 0 ≤ z) : Wsd p l (worst p l z) ∧ (worst p l z).sum = tkc ((byW p l).map (wm p)) z ∧ margin p (worst p l z) l = margin p (nob p) l - tkw ((byW p l).map (wm p)) z := by
  have n0 : ∀ i : Nat, i < p.kds.length → (nob p)[i]? = some 0 := fun i hi => by
    unfold nob
    rw [List.getElem?_map, List.getElem?_eq_getElem hi]
    rfl
  have hd : Wsd p l (nob p) := by
    refine ⟨by unfold nob; simp, fun i a k ha hk => ?_⟩
    rw [n0 i (List.getElem?_eq_some_iff.mp hk).1] at ha
    cases ha
    exact ⟨Int.le_refl _, ill0 (ok.ko k (List.mem_of_getElem? hk))⟩
  obtain ⟨r1, r2, r3⟩ := wst_fold ok (l := l) (xs := byW p l) (z := z) (a := nob p) (fun x hx => let ⟨_, k, h1, h2⟩ := byW_mem hx; ⟨k, h1, h2⟩) (byW_nodup p l) (fun x hx => by
    obtain ⟨_, k, h1, _⟩ := byW_mem hx
    exact n0 _ (List.getElem?_eq_some_iff.mp h1).1) hz hd
  have s0 : (nob p).sum = 0 := by
    unfold nob
    generalize p.kds = ks
    induction ks with
    | nil => rfl
    | cons k ks ih => rw [List.map_cons, List.sum_cons, ih]; rfl
  have w0 : wsum (p.kds.map fun k => weight k l) (nob p) = 0 := by
    have := there_nob p.kds l (nob p) (by unfold nob; simp)
    unfold nob at this ⊢
    omega
  refine ⟨r1, ?_, ?_⟩
  · show ((byW p l).foldl (wst p) (z, nob p)).2.sum = _
    rw [r2, s0]
    omega
  · unfold margin
    rw [there_nob p.kds l (worst p l z) r1.len]
    have : wsum (p.kds.map fun k => weight k l) (worst p l z) = _ := r3
    rw [this, w0]
    unfold nob
    omega
theorem byW_val {p : Pl} (ok : PlOk p) (l : Lot) : ∀ x ∈ (byW p l).map (wm p), 0 < x.1 ∧ 0 ≤ x.2 := fun x hx => by
  obtain ⟨q, hq, rfl⟩ := List.mem_map.mp hx
  exact ⟨(byW_mem hq).1, byW_ill ok q hq⟩
theorem bsz_nonneg {p : Pl} (ok : PlOk p) {l : Lot} {s : Int} (h : bsz p l = some s) : 0 ≤ s := by
  unfold bsz at h
  split at h
  · cases h
    exact Int.le_refl _
  · have := gob_ge (byW_val ok l) (by omega) h
    omega
/-- the size that breaks a lot breaks it -/
theorem worst_breaks {p : Pl} (ok : PlOk p) {l : Lot} {s : Int} (h : bsz p l = some s) : Wsd p l (worst p l s) ∧ (worst p l s).sum = s ∧ margin p (worst p l s) l < 0 := by
  have s0 := bsz_nonneg ok h
  obtain ⟨f1, f2, f3⟩ := worst_facts ok l s0
  unfold bsz at h
  split at h
  · rename_i hm
    cases h
    obtain ⟨a, b⟩ := tk_zero (byW_val ok l)
    rw [a] at f2
    rw [b] at f3
    exact ⟨f1, f2, by omega⟩
  · have := tk_gob (byW_val ok l) (by omega) h
    rw [Int.sub_zero] at this
    exact ⟨f1, by rw [f2, this.1], by omega⟩
/-- so many more taken weigh at most so much more -/
theorem tkw_lip : ∀ {xs : List (Int × Int)} {a b w : Int}, (∀ x ∈ xs, 0 ≤ x.1 ∧ x.1 ≤ w ∧ 0 ≤ x.2) → 0 ≤ a → 0 ≤ b → 0 ≤ w → tkw xs (a + b) ≤ tkw xs a + b * w
  | [], a, b, w, _, _, hb, hw => by
    have := Int.mul_nonneg hb hw
    simp [tkw]
    omega
  | (v, m) :: r, a, b, w, h, ha, hb, hw => by
    obtain ⟨v0, vw, m0⟩ := h (v, m) (.head _)
    have v0 : 0 ≤ v := v0
    have vw : v ≤ w := vw
    have m0 : 0 ≤ m := m0
    rw [tkw, tkw]
    obtain ⟨d, hd, d0, db⟩ : ∃ d, min (a + b) m = min a m + d ∧ 0 ≤ d ∧ d ≤ b := ⟨min (a + b) m - min a m, by omega, by omega, by omega⟩
    have e : a + b - (min a m + d) = (a - min a m) + (b - d) := by omega
    have ih := tkw_lip (xs := r) (a := a - min a m) (b := b - d) (w := w) (fun x hx => h x (.tail _ hx)) (by omega) (by omega) hw
    rw [hd, e, Int.add_mul]
    rw [Int.sub_mul] at ih
    have : d * v ≤ d * w := Int.mul_le_mul_of_nonneg_left vw d0
    omega
/-- greedy taking weighs most -/
theorem tkw_best : ∀ {xs : List (Int × Int)} {ts : List Int} {z : Int}, xs.Pairwise (fun a b => b.1 ≤ a.1) → (∀ x ∈ xs, 0 ≤ x.1 ∧ 0 ≤ x.2) → ts.length = xs.length → (∀ q ∈ xs.zip ts, 0 ≤ q.2 ∧ q.2 ≤ q.1.2) → ts.sum ≤ z → ((xs.zip ts).map fun q => q.2 * q.1.1).sum ≤ tkw xs z
  | [], ts, z, _, _, _, _, _ => by simp [tkw]
  | (w, m) :: r, [], z, _, _, hl, _, _ => by simp at hl
  | (w, m) :: r, t :: ts, z, hs, hv, hl, ht, hz => by
    rw [List.pairwise_cons] at hs
    obtain ⟨w0, m0⟩ := hv (w, m) (.head _)
    have w0 : 0 ≤ w := w0
    obtain ⟨t0, tm⟩ := ht ((w, m), t) (.head _)
    have t0 : 0 ≤ t := t0
    have tm : t ≤ m := tm
    have m0 : 0 ≤ m := m0
    rw [List.sum_cons] at hz
    have s0 : 0 ≤ ts.sum := by
      have hn : ∀ y ∈ ts, 0 ≤ y := fun y hy => by
        obtain ⟨i, hi, e⟩ := List.mem_iff_getElem.mp hy
        have hi2 : i < (r.zip ts).length := by rw [List.length_zip]; simp at hl; omega
        have := (ht (r.zip ts)[i] (.tail _ (List.getElem_mem hi2))).1
        rw [List.getElem_zip] at this
        rw [← e]
        exact this
      clear ht hz hl
      induction ts with
      | nil => simp
      | cons y ts ih =>
        have := hn y (.head _)
        have := ih fun y hy => hn y (.tail _ hy)
        rw [List.sum_cons]
        omega
    have ih := tkw_best (xs := r) (ts := ts) (z := z - t) hs.2 (fun x hx => hv x (.tail _ hx)) (by simpa using hl) (fun q hq => ht q (.tail _ hq)) (by omega)
    have lip := tkw_lip (xs := r) (a := z - min z m) (b := min z m - t) (w := w) (fun x hx => ⟨(hv x (.tail _ hx)).1, hs.1 x hx, (hv x (.tail _ hx)).2⟩) (by omega) (by omega) w0
    have e : z - min z m + (min z m - t) = z - t := by omega
    rw [e, Int.sub_mul] at lip
    rw [List.zip_cons_cons, List.map_cons, List.sum_cons, tkw]
    show t * w + _ ≤ _
    omega
theorem gob_of_tkw : ∀ {xs : List (Int × Int)} {left size z : Int}, (∀ x ∈ xs, 0 < x.1 ∧ 0 ≤ x.2) → 0 ≤ z → 0 ≤ left → left < tkw xs z → ∃ v, gob xs left size = some v ∧ v ≤ size + z
  | [], left, size, z, _, _, hl, h => by simp [tkw] at h; omega
  | (w, m) :: r, left, size, z, hx, hz, hl, h => by
    have hw : 0 < w := (hx (w, m) (.head _)).1
    have hm : 0 ≤ m := (hx (w, m) (.head _)).2
    rw [gob_cons]
    rw [tkw] at h
    by_cases hb : left < m * w
    · rw [if_pos hb]
      refine ⟨_, rfl, ?_⟩
      by_cases hc : z < m
      · have e : min z m = z := by omega
        rw [e, Int.sub_self, (tk_zero fun x hx' => hx x (.tail _ hx')).2] at h
        have : left / w < z := Int.ediv_lt_of_lt_mul hw (by omega)
        omega
      · have : left / w < m := Int.ediv_lt_of_lt_mul hw hb
        omega
    · rw [if_neg hb]
      have hc : m ≤ z := by
        by_cases hc : m ≤ z
        · exact hc
        · exfalso
          have e : min z m = z := by omega
          rw [e, Int.sub_self, (tk_zero fun x hx' => hx x (.tail _ hx')).2] at h
          have : z * w ≤ m * w := Int.mul_le_mul_of_nonneg_right (by omega) (by omega)
          omega
      have e : min z m = m := by omega
      rw [e] at h
      obtain ⟨v, h1, h2⟩ := gob_of_tkw (xs := r) (left := left - m * w) (size := size + m) (z := z - m) (fun x hx' => hx x (.tail _ hx')) (by omega) (by omega) (by omega)
      exact ⟨v, h1, by omega⟩
theorem sum_nonneg : ∀ {xs : List Int}, (∀ x ∈ xs, 0 ≤ x) → 0 ≤ xs.sum
  | [], _ => by simp
  | x :: xs, h => by
    have := h x (.head _)
    have := sum_nonneg fun y hy => h y (.tail _ hy)
    rw [List.sum_cons]
    omega
theorem sum_filter_le {α : Type} (f : α → Int) (p : α → Bool) : ∀ {xs : List α}, (∀ x ∈ xs, 0 ≤ f x) → ((xs.filter p).map f).sum ≤ (xs.map f).sum
  | [], _ => by simp
  | x :: xs, h => by
    have h0 := h x (.head _)
    have ih := sum_filter_le f p (xs := xs) fun y hy => h y (.tail _ hy)
    rw [List.filter_cons]
    split
    · rw [List.map_cons, List.map_cons, List.sum_cons, List.sum_cons]
      omega
    · rw [List.map_cons, List.sum_cons]
      omega
theorem sum_filter_eq {α : Type} (f : α → Int) (p : α → Bool) : ∀ {xs : List α}, (∀ x ∈ xs, p x = false → f x = 0) → ((xs.filter p).map f).sum = (xs.map f).sum
  | [], _ => by simp
  | x :: xs, h => by
    have ih := sum_filter_eq f p (xs := xs) fun y hy => h y (.tail _ hy)
    rw [List.filter_cons]
    split
    · rw [List.map_cons, List.map_cons, List.sum_cons, List.sum_cons, ih]
    · rename_i hp
      rw [List.map_cons, List.sum_cons, ih, h x (.head _) (by simpa using hp)]
      omega
theorem zipIdx_sum (f : Kd → Int → Int) : ∀ (ks : List Kd) (aw : List Int) (n : Nat) (full : List Int), full.drop n = aw → aw.length = ks.length → ((ks.zipIdx n).map fun q => f q.1 (full.getD q.2 0)).sum = ((ks.zip aw).map fun q => f q.1 q.2).sum
  | [], aw, n, full, _, _ => by simp
  | k :: ks, [], n, full, _, h => by simp at h
  | k :: ks, a :: aw, n, full, hd, hl => by
    obtain ⟨h1, h2⟩ : full[n]? = some a ∧ full.drop (n + 1) = aw := by
      constructor
      · have := congrArg (·[0]?) hd
        simpa using this
      · have := congrArg List.tail hd
        simpa using this
    have ih := zipIdx_sum f ks aw (n + 1) full h2 (by simpa using hl)
    rw [List.zipIdx_cons, List.map_cons, List.sum_cons, ih, List.zip_cons_cons, List.map_cons, List.sum_cons]
    simp [List.getD_eq_getElem?_getD, h1]
/-- no lesser absence breaks a lot -/
theorem bsz_le {p : Pl} (ok : PlOk p) {l : Lot} {aw : List Int} (w : Wsd p l aw) (hm : margin p aw l < 0) : ∃ s, bsz p l = some s ∧ s ≤ aw.sum := by
  have aw0 : ∀ x ∈ aw, 0 ≤ x := fun x hx => by
    obtain ⟨i, hi⟩ := List.mem_iff_getElem?.mp hx
    have hil : i < p.kds.length := by
      rw [← w.len]
      exact (List.getElem?_eq_some_iff.mp hi).1
    exact (w.bd i x p.kds[i] hi (List.getElem?_eq_getElem hil)).1
  unfold bsz
  split
  · exact ⟨0, rfl, sum_nonneg aw0⟩
  · rename_i hn
    have key : ((((byW p l).map (wm p)).zip ((byW p l).map fun q => aw.getD q.2 0)).map fun q => q.2 * q.1.1).sum ≤ tkw ((byW p l).map (wm p)) aw.sum := by
      refine tkw_best ?_ (fun x hx => ⟨Int.le_of_lt (byW_val ok l x hx).1, (byW_val ok l x hx).2⟩) (by simp) (fun q hq => ?_) ?_
      · rw [List.pairwise_map]
        exact (byW_sorted p l).imp fun h => h
      · rw [List.zip_map'] at hq
        obtain ⟨x, hx, rfl⟩ := List.mem_map.mp hq
        obtain ⟨_, k, hk, _⟩ := byW_mem hx
        have hil : x.2 < p.kds.length := (List.getElem?_eq_some_iff.mp hk).1
        have hil2 : x.2 < aw.length := by rw [w.len]; exact hil
        have ha : aw[x.2]? = some aw[x.2] := List.getElem?_eq_getElem hil2
        have := w.bd x.2 _ k ha hk
        simpa [wm, List.getD_eq_getElem?_getD, ha, hk] using this
      · rw [perm_sum ((byW_perm p l).map _)]
        unfold wis
        refine Int.le_trans (sum_filter_le (fun q : Int × Nat => aw.getD q.2 0) _ fun x hx => ?_) ?_
        · by_cases hi : x.2 < aw.length
          · rw [List.getD_eq_getElem?_getD, List.getElem?_eq_getElem hi]
            exact aw0 _ (List.getElem_mem hi)
          · rw [List.getD_eq_getElem?_getD, List.getElem?_eq_none (by omega)]
            exact Int.le_refl _
        · rw [List.map_map]
          have := zipIdx_sum (fun _ a => a) p.kds aw 0 aw (by simp) w.len
          rw [show ((fun q : Int × Nat => aw.getD q.2 0) ∘ fun q : Kd × Nat => (weight q.1 l, q.2)) = fun q : Kd × Nat => aw.getD q.2 0 from rfl, this]
          have e : ((p.kds.zip aw).map fun q => q.2) = aw := by
            have := List.map_snd_zip (l₁ := p.kds) (l₂ := aw) (by rw [w.len]; exact Nat.le_refl _)
            exact this
          rw [e]
          exact Int.le_refl _
    have e2 : ((((byW p l).map (wm p)).zip ((byW p l).map fun q => aw.getD q.2 0)).map fun q => q.2 * q.1.1).sum = wsum (p.kds.map fun k => weight k l) aw := by
      rw [List.zip_map', List.map_map, perm_sum ((byW_perm p l).map _)]
      unfold wis
      rw [sum_filter_eq, List.map_map]
      · have := zipIdx_sum (fun k a => a * weight k l) p.kds aw 0 aw (by simp) w.len
        refine Eq.trans ?_ (this.trans ?_)
        · rfl
        · unfold wsum
          rw [List.zip_map_left, List.map_map]
          congr 1
          refine List.map_congr_left fun q hq => ?_
          exact Int.mul_comm _ _
      · intro x hx hp
        obtain ⟨⟨k, i⟩, hk, rfl⟩ := List.mem_map.mp hx
        have k0 := weight0 (ok.ko k (by
          have := List.mem_map_of_mem (f := Prod.fst) hk
          simpa using this)) l
        simp at hp
        have : weight k l = 0 := by omega
        simp [wm, this]
    unfold margin at hm hn
    rw [there_nob p.kds l aw w.len] at hm
    have hlt : margin p (nob p) l < tkw ((byW p l).map (wm p)) aw.sum := by
      unfold margin nob
      rw [e2] at key
      omega
    obtain ⟨v, h1, h2⟩ := gob_of_tkw (size := 0) (byW_val ok l) (sum_nonneg aw0) (by unfold margin; omega) hlt
    exact ⟨v, h1, by omega⟩
theorem lots0_all (ps : List Pr) (f : List Lot) {l' l2 : Lot} (h : l' ∈ f) (hs : l2.Sublist ps) : l' ++ l2 ∈ ps.foldl (fun f q => f ++ f.map (· ++ [q])) f := by
  induction ps generalizing f l' l2 with
  | nil =>
    cases hs
    rw [List.append_nil]
    exact h
  | cons q ps ih =>
    rw [List.foldl_cons]
    cases hs with
    | cons _ hs => exact ih _ (List.mem_append_left _ h) hs
    | cons_cons _ hs =>
      have := ih (f ++ f.map (· ++ [q])) (l' := l' ++ [q]) (List.mem_append_right _ (List.mem_map.mpr ⟨l', h, rfl⟩)) hs
      simpa using this
theorem lots0_head (ps : List Pr) (f : List Lot) : (ps.foldl (fun f q => f ++ f.map (· ++ [q])) ([] :: f)).head? = some [] := by
  induction ps generalizing f with
  | nil => rfl
  | cons q ps ih =>
    rw [List.foldl_cons, List.cons_append]
    exact ih _
theorem lots_iff {p : Pl} {l : Lot} : l ∈ lots p ↔ l ≠ [] ∧ l.Sublist (pairs p) := by
  constructor
  · intro h
    refine ⟨?_, lots_sub h⟩
    have h1 := List.mem_mergeSort.mp h
    intro e
    subst e
    -- the empty lot stands at the head alone: by the lengths of the others
    have : ∀ (ps : List Pr) (f : List Lot), (∀ l ∈ f, l ≠ []) → ∀ l ∈ (ps.foldl (fun f q => f ++ f.map (· ++ [q])) ([] :: f)).tail, l ≠ [] := by
      intro ps
      induction ps with
      | nil => exact fun f hf l hl => hf l hl
      | cons q ps ih =>
        intro f hf l hl
        rw [List.foldl_cons, List.cons_append] at hl
        refine ih _ (fun m hm => ?_) l hl
        rcases List.mem_append.mp hm with hm | hm
        · exact hf m hm
        · obtain ⟨m', _, rfl⟩ := List.mem_map.mp hm
          simp
    exact this (pairs p) [] (fun _ h => nomatch h) [] h1 rfl
  · rintro ⟨h0, h1⟩
    refine List.mem_mergeSort.mpr ?_
    have h2 := lots0_all (pairs p) [[]] (l' := []) (.head _) h1
    rw [List.nil_append] at h2
    have h3 := lots0_head (pairs p) []
    change l ∈ lots0 (pairs p) at h2
    change (lots0 (pairs p)).head? = some [] at h3
    cases hz : lots0 (pairs p) with
    | nil => rw [hz] at h2; cases h2
    | cons x xs =>
      rw [hz] at h2 h3
      simp at h3
      subst h3
      rcases List.mem_cons.mp h2 with e | e
      · exact absurd e h0
      · exact e
theorem dd_spec : ∀ (ns acc : List Int), acc.Nodup → (ns.foldl (fun acc x => if acc.any (· == x) then acc else acc ++ [x]) acc).Nodup ∧ ∀ x, x ∈ ns.foldl (fun acc x => if acc.any (· == x) then acc else acc ++ [x]) acc ↔ x ∈ acc ∨ x ∈ ns
  | [], acc, h => ⟨h, fun x => by simp⟩
  | y :: ns, acc, h => by
    rw [List.foldl_cons]
    by_cases hy : y ∈ acc
    · rw [if_pos (by simpa using hy)]
      obtain ⟨a, b⟩ := dd_spec ns acc h
      refine ⟨a, fun x => ?_⟩
      rw [b x, List.mem_cons]
      constructor
      · rintro (h | h)
        · exact .inl h
        · exact .inr (.inr h)
      · rintro (h | rfl | h)
        · exact .inl h
        · exact .inl hy
        · exact .inr h
    · rw [if_neg (by simpa using hy)]
      obtain ⟨a, b⟩ := dd_spec ns (acc ++ [y]) (by
        rw [List.nodup_append]
        refine ⟨h, by simp, fun a ha b hb => ?_⟩
        rw [List.mem_singleton] at hb
        subst hb
        exact fun e => hy (e ▸ ha))
      refine ⟨a, fun x => ?_⟩
      rw [b x, List.mem_append, List.mem_singleton, List.mem_cons, or_assoc]
theorem hset_nodup (gv : List Str) (l : Lot) : (hset gv l).Nodup := (dd_spec _ [] List.nodup_nil).1
theorem hset_mem {gv : List Str} {l : Lot} {x : Int} : x ∈ hset gv l ↔ ∃ q ∈ l, q.2 ∈ gv ∧ (q.1 : Int) = x := by
  unfold hset
  rw [show dd _ = _ from rfl]
  unfold dd
  rw [(dd_spec _ [] List.nodup_nil).2 x]
  simp only [List.not_mem_nil, false_or, List.mem_map, List.mem_filter, decide_eq_true_eq]
  constructor
  · rintro ⟨q, ⟨h1, h2⟩, h3⟩
    exact ⟨q, h1, h2, h3⟩
  · rintro ⟨q, h1, h2, h3⟩
    exact ⟨q, ⟨h1, h2⟩, h3⟩
theorem nodup_len {α : Type} [DecidableEq α] : ∀ {xs ys : List α}, xs.Nodup → (∀ x ∈ xs, x ∈ ys) → xs.length ≤ ys.length
  | [], ys, _, _ => by simp
  | x :: xs, ys, hx, h => by
    rw [List.nodup_cons] at hx
    have hm := h x (.head _)
    have := nodup_len (xs := xs) (ys := ys.erase x) hx.2 fun z hz => by
      have : z ≠ x := fun e => hx.1 (e ▸ hz)
      exact (List.mem_erase_of_ne this).mpr (h z (.tail _ hz))
    rw [List.length_erase_of_mem hm] at this
    have := List.length_pos_of_mem hm
    rw [List.length_cons]
    omega
theorem zip_sub {α β : Type} : ∀ (xs : List α) (ys : List β), ((xs.zip ys).map Prod.fst).Sublist xs
  | [], ys => by simp
  | x :: xs, [] => by simp
  | x :: xs, y :: ys => by
    rw [List.zip_cons_cons, List.map_cons]
    exact (zip_sub xs ys).cons_cons _
/-- more pairs, more subjects: no less weight -/
theorem weight_mono {k k' : Kd} {l l' : Lot} (hm : k.mst ≤ k'.mst) (h : ∀ q ∈ l, q.2 ∈ k.gv → ∃ q' ∈ l', q'.2 ∈ k'.gv ∧ q'.1 = q.1) : weight k l ≤ weight k' l' := by
  unfold weight
  have : (hset k.gv l).length ≤ (hset k'.gv l').length := nodup_len (hset_nodup _ _) fun x hx => by
    obtain ⟨q, h1, h2, h3⟩ := hset_mem.mp hx
    obtain ⟨q', g1, g2, g3⟩ := h q h1 h2
    exact hset_mem.mpr ⟨q', g1, g2, by rw [g3]; exact h3⟩
  omega
theorem weight_congr {k k' : Kd} {l l' : Lot} (hm : k.mst = k'.mst) (h : ∀ x : Nat, (∃ q ∈ l, q.2 ∈ k.gv ∧ q.1 = x) ↔ ∃ q' ∈ l', q'.2 ∈ k'.gv ∧ q'.1 = x) : weight k l = weight k' l' := by
  refine Int.le_antisymm (weight_mono (by omega) fun q h1 h2 => ?_) (weight_mono (by omega) fun q h1 h2 => ?_)
  · obtain ⟨q', a, b, c⟩ := (h q.1).mp ⟨q, h1, h2, rfl⟩
    exact ⟨q', a, b, c⟩
  · obtain ⟨q', a, b, c⟩ := (h q.1).mpr ⟨q, h1, h2, rfl⟩
    exact ⟨q', a, b, c⟩
theorem margin_perm {p : Pl} {aw : List Int} {l l' : Lot} (h : l.Perm l') : margin p aw l = margin p aw l' := by
  unfold margin there needs
  rw [perm_sum (h.map (lesson p))]
  congr 2
  refine List.map_congr_left fun q hq => ?_
  rw [weight_congr (k := q.1) (k' := q.1) (l := l) (l' := l') rfl fun x => ?_]
  constructor
  · rintro ⟨q, h1, h2⟩
    exact ⟨q, h.mem_iff.mp h1, h2⟩
  · rintro ⟨q, h1, h2⟩
    exact ⟨q, h.mem_iff.mpr h1, h2⟩
theorem find_nodup {subs : List Str} (hn : subs.Nodup) {i : Nat} {s : Str} (h : subs[i]? = some s) : subs.findIdx (· == s) = i := by
  have hs : s ∈ subs := List.mem_of_getElem? h
  have h1 := find_lt hs
  have h2 : subs[subs.findIdx (· == s)] = s := by
    have := List.findIdx_getElem (p := (· == s)) (xs := subs) (w := h1)
    simpa using this
  obtain ⟨h3, h4⟩ := List.getElem?_eq_some_iff.mp h
  exact (List.getElem_inj hn (h₀ := h1) (h₁ := h3)).mp (h2.trans h4.symm)
theorem lesson_at {p : Pl} (ok : PlOk p) {i j : Nat} {h : Hr} {s : Str} {v : Int} (hi : p.hrs[i]? = some h) (hj : p.subs[j]? = some s) (hv : h.ns[j]? = some v) : lesson p (i, s) = v := by
  unfold lesson
  have e1 : p.hrs.getD i default = h := by simp [List.getD_eq_getElem?_getD, hi]
  rw [find_nodup ok.sn hj]
  show (p.hrs.getD i default).ns.getD j 0 = v
  rw [e1, List.getD_eq_getElem?_getD, hv]
  rfl
theorem mem_zip_get {α β : Type} {xs : List α} {ys : List β} {x : α} {y : β} (h : (x, y) ∈ xs.zip ys) : ∃ j : Nat, xs[j]? = some x ∧ ys[j]? = some y := by
  obtain ⟨j, hj⟩ := List.mem_iff_getElem?.mp h
  rw [List.getElem?_zip_eq_some] at hj
  exact ⟨j, hj⟩
theorem get_mem_zip {α β : Type} {xs : List α} {ys : List β} {x : α} {y : β} {j : Nat} (h1 : xs[j]? = some x) (h2 : ys[j]? = some y) : (x, y) ∈ xs.zip ys := by
  refine List.mem_iff_getElem?.mpr ⟨j, ?_⟩
  rw [List.getElem?_zip_eq_some]
  exact ⟨h1, h2⟩
theorem pairs0_iff {p : Pl} (ok : PlOk p) {q : Pr} : q ∈ pairs0 p ↔ q.1 < p.hrs.length ∧ q.2 ∈ p.subs ∧ 0 < lesson p q := by
  obtain ⟨i, s⟩ := q
  constructor
  · intro hq
    obtain ⟨h1, h2⟩ := pairs0_mem hq
    refine ⟨h1, h2, ?_⟩
    unfold pairs0 at hq
    obtain ⟨⟨h, i'⟩, hz, hq⟩ := List.mem_flatMap.mp hq
    have hz : p.hrs[i']? = some h := List.mem_zipIdx_iff_getElem?.mp hz
    unfold hrPairs at hq
    obtain ⟨⟨s', v⟩, hq3, e⟩ := List.mem_map.mp hq
    obtain ⟨hq4, hv⟩ := List.mem_filter.mp hq3
    cases e
    obtain ⟨j, hj1, hj2⟩ := mem_zip_get hq4
    rw [lesson_at ok hz hj1 hj2]
    exact of_decide_eq_true hv
  · rintro ⟨h1, h2, h3⟩
    have h1 : i < p.hrs.length := h1
    obtain ⟨j, hj⟩ := List.mem_iff_getElem?.mp h2
    have hi : p.hrs[i]? = some p.hrs[i] := List.getElem?_eq_getElem h1
    have hl := (ok.ho _ (List.getElem_mem h1)).len
    have hjl : j < p.hrs[i].ns.length := by
      have := (List.getElem?_eq_some_iff.mp hj).1
      omega
    have hv : p.hrs[i].ns[j]? = some p.hrs[i].ns[j] := List.getElem?_eq_getElem hjl
    have e := lesson_at ok hi hj hv
    rw [e] at h3
    unfold pairs0
    refine List.mem_flatMap.mpr ⟨(p.hrs[i], i), List.mem_zipIdx_iff_getElem?.mpr hi, ?_⟩
    unfold hrPairs
    exact List.mem_map.mpr ⟨(s, p.hrs[i].ns[j]), List.mem_filter.mpr ⟨get_mem_zip hj hv, decide_eq_true h3⟩, rfl⟩
theorem lesson0 {p : Pl} (ok : PlOk p) {q : Pr} (h1 : q.1 < p.hrs.length) (h2 : q.2 ∈ p.subs) : 0 ≤ lesson p q := by
  obtain ⟨i, s⟩ := q
  have h1 : i < p.hrs.length := h1
  obtain ⟨j, hj⟩ := List.mem_iff_getElem?.mp h2
  have hi : p.hrs[i]? = some p.hrs[i] := List.getElem?_eq_getElem h1
  have ho := ok.ho _ (List.getElem_mem h1)
  have hl := ho.len
  have hjl : j < p.hrs[i].ns.length := by
    have := (List.getElem?_eq_some_iff.mp hj).1
    omega
  rw [lesson_at ok hi hj (List.getElem?_eq_getElem hjl)]
  exact ho.num _ (List.getElem_mem hjl)
theorem pairs0_nodup {p : Pl} (ok : PlOk p) : (pairs0 p).Nodup := by
  unfold pairs0
  have one : ∀ (h : Hr) (i : Nat), (hrPairs p.subs h i).Nodup := fun h i => by
    unfold hrPairs
    have : ((p.subs.zip h.ns).map Prod.fst).Nodup := by
      exact ok.sn.sublist (zip_sub _ _)
    have h2 : (((p.subs.zip h.ns).filter fun q => decide (0 < q.2)).map Prod.fst).Nodup := this.sublist (List.Sublist.map _ List.filter_sublist)
    rw [List.nodup_iff_pairwise_ne, List.pairwise_map] at h2 ⊢
    exact h2.imp fun h e => h (Prod.mk.inj e).2
  generalize hz : p.hrs.zipIdx = zs
  have hd : (zs.map Prod.snd).Nodup := by
    rw [← hz, List.zipIdx_map_snd]
    exact List.nodup_range'
  clear hz
  induction zs with
  | nil => simp
  | cons z zs ih =>
    rw [List.map_cons, List.nodup_cons] at hd
    rw [List.flatMap_cons, List.nodup_append]
    refine ⟨one z.1 z.2, ih hd.2, fun a ha b hb e => ?_⟩
    subst e
    have h1 := (hrPairs_mem ha).1
    obtain ⟨y, hy, hb⟩ := List.mem_flatMap.mp hb
    have h2 := (hrPairs_mem hb).1
    apply hd.1
    rw [show z.2 = y.2 by omega]
    exact List.mem_map_of_mem hy
structure Valid (p : Pl) (l : Lot) : Prop where
  nd : l.Nodup
  mem : ∀ q ∈ l, q.1 < p.hrs.length ∧ q.2 ∈ p.subs
def Bad (p : Pl) (aw : List Int) : Prop := ∃ l, Valid p l ∧ margin p aw l < 0
theorem there_mono {ks : List Kd} {aw : List Int} {l l' : Lot} (h : ∀ q ∈ ks.zip aw, 0 ≤ q.1.num - q.2) (hw : ∀ k ∈ ks, weight k l' ≤ weight k l) : there ks aw l' ≤ there ks aw l := by
  unfold there
  generalize hz : ks.zip aw = zs at *
  have hw : ∀ q ∈ zs, weight q.1 l' ≤ weight q.1 l := fun q hq => hw q.1 (by rw [← hz] at hq; exact (List.of_mem_zip hq).1)
  clear hz
  induction zs with
  | nil => simp
  | cons z zs ih =>
    have := ih (fun q hq => h q (.tail _ hq)) (fun q hq => hw q (.tail _ hq))
    have h1 := h z (.head _)
    have h2 := hw z (.head _)
    have := Int.mul_le_mul_of_nonneg_left h2 h1
    rw [List.map_cons, List.map_cons, List.sum_cons, List.sum_cons]
    omega
theorem Wsd.num {p : Pl} (ok : PlOk p) {m : Lot} {aw : List Int} (w : Wsd p m aw) : ∀ q ∈ p.kds.zip aw, 0 ≤ q.1.num - q.2 := fun q hq => by
  obtain ⟨k, a⟩ := q
  obtain ⟨i, h1, h2⟩ := mem_zip_get hq
  have := (w.bd i a k h2 h1).2
  have := ill_num (ok.ko k (List.mem_of_getElem? h1))
  show 0 ≤ k.num - a
  omega
theorem bad_iff {p : Pl} (ok : PlOk p) {m : Lot} {aw : List Int} (w : Wsd p m aw) : Bad p aw ↔ ∃ l ∈ lots p, margin p aw l < 0 := by
  constructor
  · rintro ⟨l, hv, hm⟩
    have nn := w.num ok
    -- without pairs that have no lessons
    have h1 : margin p aw (l.filter fun q => decide (0 < lesson p q)) ≤ margin p aw l := by
      unfold margin
      have e : needs p (l.filter fun q => decide (0 < lesson p q)) = needs p l := by
        unfold needs
        refine sum_filter_eq _ _ fun q hq h => ?_
        have := lesson0 ok (hv.mem q hq).1 (hv.mem q hq).2
        simp at h
        omega
      have := there_mono (ks := p.kds) (aw := aw) (l := l) (l' := l.filter fun q => decide (0 < lesson p q)) nn fun k hk => weight_mono (Int.le_refl _) fun q hq hg => ⟨q, (List.mem_filter.mp hq).1, hg, rfl⟩
      omega
    have hperm : ((pairs p).filter fun q => decide (q ∈ l)).Perm (l.filter fun q => decide (0 < lesson p q)) := by
      refine (List.perm_ext_iff_of_nodup ?_ ?_).mpr fun q => ?_
      · refine List.Nodup.sublist List.filter_sublist ?_
        unfold pairs
        rw [(List.mergeSort_perm _ _).nodup_iff]
        exact pairs0_nodup ok
      · exact hv.nd.sublist List.filter_sublist
      · rw [List.mem_filter, List.mem_filter]
        unfold pairs
        rw [List.mem_mergeSort, pairs0_iff ok]
        simp
        constructor
        · rintro ⟨⟨a, b, c⟩, d⟩
          exact ⟨d, c⟩
        · rintro ⟨a, b⟩
          exact ⟨⟨(hv.mem q a).1, (hv.mem q a).2, b⟩, a⟩
    refine ⟨(pairs p).filter fun q => decide (q ∈ l), lots_iff.mpr ⟨fun e => ?_, List.filter_sublist⟩, ?_⟩
    · rw [e] at hperm
      have e2 := hperm.symm.eq_nil
      rw [e2] at h1
      have : 0 ≤ margin p aw [] := by
        unfold margin
        have e3 : needs p [] = 0 := rfl
        have : 0 ≤ there p.kds aw [] := by
          unfold there
          refine sum_nonneg fun x hx => ?_
          obtain ⟨q, hq, rfl⟩ := List.mem_map.mp hx
          exact Int.mul_nonneg (nn q hq) (weight0 (ok.ko q.1 (List.of_mem_zip hq).1) _)
        omega
      omega
    · rw [margin_perm hperm]
      omega
  · rintro ⟨l, hl, hm⟩
    have := lots_iff.mp hl
    refine ⟨l, ⟨?_, fun q hq => pairs_mem (this.2.subset hq)⟩, hm⟩
    refine List.Nodup.sublist this.2 ?_
    unfold pairs
    rw [(List.mergeSort_perm _ _).nodup_iff]
    exact pairs0_nodup ok
/-- what the weakest lot tells -/
theorem weak_iff {p : Pl} (ok : PlOk p) (z : Int) : (∃ s l, weakest p = some (s, l) ∧ s ≤ z) ↔ ∃ aw, Wsd p [] aw ∧ aw.sum ≤ z ∧ Bad p aw := by
  constructor
  · rintro ⟨s, l, h, hz⟩
    obtain ⟨hl, hb⟩ := weakest_mem h
    obtain ⟨w, e, hm⟩ := worst_breaks ok hb
    have w' : Wsd p [] (worst p l s) := ⟨w.len, w.bd⟩
    exact ⟨_, w', by omega, (bad_iff ok w').mpr ⟨l, hl, hm⟩⟩
  · rintro ⟨aw, w, hz, hb⟩
    obtain ⟨l, hl, hm⟩ := (bad_iff ok w).mp hb
    have w' : Wsd p l aw := ⟨w.len, w.bd⟩
    obtain ⟨s, h1, h2⟩ := bsz_le ok w' hm
    obtain ⟨t, m, h3, h4⟩ := weakest_le hl h1
    exact ⟨t, m, h3, by omega⟩
theorem most_ill_ok (k : Kd) (S : Store) : F_most_ill [kdD k] S = .ok (.int (illOf k)) S := by
  unfold F_most_ill bf_most_ill kdD illOf
  cases h : k.ill with
  | none => simp [illD]
  | some i => simp [illD]
theorem is_absence_ok {p : Pl} (ok : PlOk p) {aw : List Int} {b : Bool} (w : Wsd p [] aw) (S : Store) : F_is_absence [plD p, awD b aw] S = .ok (.bl true) S := by
  unfold F_is_absence bf_is_absence awD
  have hk := ok.k1
  have hl : pLenS [kdsD p] S = some (.int p.kds.length) := by unfold kdsD; simp
  simp [hl, w.len, sq1_kds, zipD_map]
  rw [cMap (en := fun q : Kd × Int => D.tup [kdD q.1, .int q.2]) (f := fun _ => D.bl true) (fun q hq => by
    obtain ⟨k, a⟩ := q
    obtain ⟨i, h1, h2⟩ := mem_zip_get hq
    obtain ⟨b0, b1⟩ := w.bd i a k h2 h1
    simp [cStep, most_ill_ok, is_between_i, b0, b1]) (by rw [List.length_zip]; omega)]
  simp
theorem check_away_ok {p : Pl} (ok : PlOk p) {aw : List Int} {b : Bool} (w : Wsd p [] aw) (S : Store) : F_check_away [plD p, awD b aw] S = .ok .non S := by
  unfold F_check_away bf_check_away
  simp [is_absence_ok ok w]
def tgStep (p : Pl) (aw : List Int) (f : Option (Int × Lot)) (l : Lot) : Option (Int × Lot) := match f with
  | none => some (margin p aw l, l)
  | some (t, m) => if margin p aw l < t then some (margin p aw l, l) else some (t, m)
def tight (p : Pl) (aw : List Int) : Option (Int × Lot) := (lots p).foldl (tgStep p aw) none
theorem tightest_ok {p : Pl} (ok : PlOk p) (ht : p.ts = true) (aw : List Int) (b : Bool) (S : Store) : F_tightest [plD p, awD b aw] S = .ok (foundD (tight p aw)) S := by
  unfold F_tightest bf_tightest
  simp [lots_of_ok ok]
  generalize hc : forGo _ _ _ _ _ _ = r
  obtain ⟨o3, o4, rfl⟩ : ∃ o3 o4, r = .nx [some (plD p), some (awD b aw), some (foundD (tight p aw)), o3, o4] S := by
    rw [← hc]
    clear hc
    refine forGo_inv (en := lotD) (xs := lots p) (fun zs ls S' => ∃ (f : Option (Int × Lot)) (o3 o4 : Option D), zs.foldl (tgStep p aw) f = tight p aw ∧ ls = [some (plD p), some (awD b aw), some (foundD f), o3, o4] ∧ S' = S) (fun r => ∃ o3 o4, r = .nx [some (plD p), some (awD b aw), some (foundD (tight p aw)), o3, o4] S) ?_ ?_ (fun z h => h) ⟨none, _, _, rfl, rfl, rfl⟩
    · rintro ls S' ⟨f, o3, o4, e, rfl, rfl⟩
      exact ⟨trivial, _, _, by rw [← e]; rfl⟩
    · rintro l ys ls S' hx ⟨f, o3, o4, e, rfl, rfl⟩
      refine ⟨trivial, _, rfl, ?_⟩
      have hl := lots_ok ok hx
      rw [List.foldl_cons] at e
      have hm := margin_of_ok ok ht (aw := aw) (b := b) hl.len hl.mem S'
      cases f with
      | none =>
        simp [hm, foundD]
        exact ⟨some (margin p aw l, l), e, rfl⟩
      | some g =>
        obtain ⟨t, m⟩ := g
        unfold tgStep at e
        by_cases h : margin p aw l < t
        · simp [h] at e
          simp [hm, foundD, h]
          exact ⟨some (margin p aw l, l), e, rfl⟩
        · simp [h] at e
          simp [hm, foundD, h]
          exact ⟨some (t, m), e, rfl⟩
  simp
theorem tight_spec {p : Pl} {aw : List Int} : ∀ {ls : List Lot} {f : Option (Int × Lot)}, (ls.foldl (tgStep p aw) f = none ↔ ls = [] ∧ f = none) ∧ ∀ t m, ls.foldl (tgStep p aw) f = some (t, m) → (f = some (t, m) ∨ (m ∈ ls ∧ margin p aw m = t)) ∧ (∀ l ∈ ls, t ≤ margin p aw l) ∧ ∀ u n, f = some (u, n) → t ≤ u
  | [], f => ⟨by simp, fun t m h => ⟨.inl h, fun _ h => (nomatch h), fun u n e => by
      rw [List.foldl_nil] at h
      rw [h] at e
      cases e
      exact Int.le_refl _⟩⟩
  | l :: ls, f => by
    obtain ⟨h1, h2⟩ := tight_spec (p := p) (aw := aw) (ls := ls) (f := tgStep p aw f l)
    rw [List.foldl_cons]
    have ne : tgStep p aw f l ≠ none := by
      unfold tgStep
      cases f with
      | none => simp
      | some g =>
        dsimp only
        split <;> simp
    refine ⟨⟨fun h => absurd (h1.mp h).2 ne, fun h => by cases h.1⟩, fun t m h => ?_⟩
    obtain ⟨a, b, c⟩ := h2 t m h
    cases f with
    | none =>
      have e : tgStep p aw none l = some (margin p aw l, l) := rfl
      have c' := c _ _ e
      refine ⟨?_, fun x hx => ?_, fun u n e => nomatch e⟩
      · rcases a with a | ⟨a, a2⟩
        · rw [e] at a
          cases a
          exact .inr ⟨.head _, rfl⟩
        · exact .inr ⟨.tail _ a, a2⟩
      · rcases List.mem_cons.mp hx with rfl | hx
        · exact c'
        · exact b x hx
    | some g =>
      obtain ⟨u, n⟩ := g
      by_cases hu : margin p aw l < u
      · have e : tgStep p aw (some (u, n)) l = some (margin p aw l, l) := if_pos hu
        have c' := c _ _ e
        refine ⟨?_, fun x hx => ?_, fun u' n' e' => ?_⟩
        · rcases a with a | ⟨a, a2⟩
          · rw [e] at a
            cases a
            exact .inr ⟨.head _, rfl⟩
          · exact .inr ⟨.tail _ a, a2⟩
        · rcases List.mem_cons.mp hx with rfl | hx
          · exact c'
          · exact b x hx
        · cases e'
          omega
      · have e : tgStep p aw (some (u, n)) l = some (u, n) := if_neg hu
        have c' := c _ _ e
        refine ⟨?_, fun x hx => ?_, fun u' n' e' => ?_⟩
        · rcases a with a | ⟨a, a2⟩
          · rw [e] at a
            exact .inl a
          · exact .inr ⟨.tail _ a, a2⟩
        · rcases List.mem_cons.mp hx with rfl | hx
          · omega
          · exact b x hx
        · cases e'
          omega
def heldB (p : Pl) (aw : List Int) : Bool := (lots p).all fun l => decide (0 ≤ margin p aw l)
theorem heldB_tight (p : Pl) (aw : List Int) : heldB p aw = match tight p aw with
    | none => true
    | some (t, _) => decide (0 ≤ t) := by
  obtain ⟨h1, h2⟩ := tight_spec (p := p) (aw := aw) (ls := lots p) (f := none)
  unfold tight heldB
  cases h : (lots p).foldl (tgStep p aw) none with
  | none =>
    rw [(h1.mp h).1]
    rfl
  | some f =>
    obtain ⟨t, m⟩ := f
    obtain ⟨a, b, _⟩ := h2 t m h
    rw [Bool.eq_iff_iff]
    simp
    constructor
    · intro hh
      rcases a with a | ⟨a, a2⟩
      · cases a
      · rw [← a2]
        exact hh m a
    · intro hh l hl
      have := b l hl
      omega
theorem held_iff {p : Pl} (ok : PlOk p) {aw : List Int} (w : Wsd p [] aw) : heldB p aw = true ↔ ¬ Bad p aw := by
  rw [bad_iff ok w]
  unfold heldB
  simp
/-- rows of numbers within these bounds -/
def Within (ms aw : List Int) : Prop := aw.length = ms.length ∧ ∀ (i : Nat) (a m : Int), aw[i]? = some a → ms[i]? = some m → 0 ≤ a ∧ a ≤ m
theorem Within.snoc {ms aw : List Int} {m a : Int} (h : Within ms aw) (h0 : 0 ≤ a) (h1 : a ≤ m) : Within (ms ++ [m]) (aw ++ [a]) := by
  obtain ⟨hl, hb⟩ := h
  refine ⟨by simp [hl], fun i b n h2 h3 => ?_⟩
  by_cases hi : i < aw.length
  · rw [List.getElem?_append_left hi] at h2
    rw [List.getElem?_append_left (by omega)] at h3
    exact hb i b n h2 h3
  · rw [List.getElem?_append_right (by omega)] at h2
    rw [List.getElem?_append_right (by omega)] at h3
    have e : i - aw.length = 0 := by
      by_cases e : i - aw.length = 0
      · exact e
      · rw [List.getElem?_eq_none (by simp; omega)] at h2
        cases h2
    have e' : i - ms.length = 0 := by omega
    rw [e] at h2
    rw [e'] at h3
    cases h2
    cases h3
    exact ⟨h0, h1⟩
theorem Within.wsd {k : Sk} {aw : List Int} (h : Within (k.srt.map fun s => illOf (kdOf s)) aw) : Wsd (plOf k) [] aw := by
  refine ⟨?_, fun i a kd h1 h2 => ?_⟩
  · rw [h.1]
    show _ = (k.srt.map kdOf).length
    simp
  · have h2 : (k.srt.map kdOf)[i]? = some kd := h2
    rw [List.getElem?_map] at h2
    obtain ⟨s, hs, rfl⟩ := Option.map_eq_some_iff.mp h2
    exact h.2 i a _ h1 (by rw [List.getElem?_map, hs]; rfl)
structure GnInv (k : Sk) (n : Nat) (S : Store) (zs : List Srt) (ls : L) (S' : Store) : Prop where
  ex : ∃ (done : List Srt) (aw : List Int) (o3 o4 : Option D), done ++ zs = k.srt ∧ Within (done.map fun s => illOf (kdOf s)) aw ∧ ls = [some (.loc n), some (skD k), some (.loc S.length), o3, o4] ∧
    CupOk S' n ∧ S'.length = S.length + 1 ∧ S'[S.length]? = some (.lst (aw.map .int)) ∧ ∀ i, i ≠ n → i < S.length → S'[i]? = S[i]?
def GnEnd (k : Sk) (n : Nat) (S : Store) (r : Fl) : Prop := ∃ (aw : List Int) (o3 o4 : Option D) (S' : Store), r = .nx [some (.loc n), some (skD k), some (.loc S.length), o3, o4] S' ∧ Within (k.srt.map fun s => illOf (kdOf s)) aw ∧
    CupOk S' n ∧ S'.length = S.length + 1 ∧ S'[S.length]? = some (.lst (aw.map .int)) ∧ ∀ i, i ≠ n → i < S.length → S'[i]? = S[i]?
theorem half_ok {m : Int} (h : 0 ≤ m) (hm : m ≤ 1000000000000000000000000000000) : True := trivial
theorem law_gone_ok {k : Sk} (ok : PlOk (plOf k)) {n : Nat} {S : Store} (h : CupOk S n) (hn : n < S.length) : ∃ (aw : List Int) (S' : Store), F__law_gone [.loc n, skD k] S = .ok (awD true aw) S' ∧ Drew n S S' ∧ Wsd (plOf k) [] aw := by
  unfold F__law_gone bf__law_gone
  have k1 : k.srt.length ≤ 5 := by simpa [plOf] using ok.k1
  have hx : pIx (skD k) (.int 2) (S ++ [Ob.lst []]) = some (.lst (k.srt.map srtD)) := by unfold skD; simp
  simp [hx]
  generalize hc : forGo _ _ _ _ _ _ = r
  obtain ⟨aw, o3, o4, S', rfl, hw, c, hl, hd, ho⟩ : GnEnd k n S r := by
    rw [← hc]
    clear hc
    refine forGo_inv (en := srtD) (xs := k.srt) (GnInv k n S) (GnEnd k n S) ?_ ?_ (fun z h => h) ⟨⟨[], [], none, none, rfl, ⟨rfl, fun _ _ _ h => by simp at h⟩, rfl, h.app _, by simp, by simp, fun i _ hi => List.getElem?_append_left hi⟩⟩
    · rintro ls S' ⟨⟨done, aw, o3, o4, hd, hw, rfl, c, hl, hs, ho⟩⟩
      rw [List.append_nil] at hd
      subst hd
      exact ⟨trivial, aw, o3, o4, S', rfl, hw, c, hl, hs, ho⟩
    · rintro s ys ls S' hx ⟨⟨done, aw, o3, o4, hd, hw, rfl, c, hl, hs, ho⟩⟩
      refine ⟨trivial, _, rfl, ?_⟩
      have kok := ok.ko (kdOf s) (List.mem_map_of_mem hx)
      have i0 := ill0 kok
      obtain ⟨v, S1, e1, d1, v0, v1⟩ := sip_ok (t := 5) c (by omega) (by omega)
      have h1 : S1[S.length]? = some (.lst (aw.map .int)) := d1.keep hs (by omega)
      have hl1 : S1.length = S.length + 1 := d1.len.trans hl
      have hil : S.length < S1.length := by omega
      have hal : aw.length < 16777216 := by
        have := congrArg List.length hd
        have := hw.1
        simp at *
        omega
      have hab : F__law_able [srtD s] S' = .ok (.int (illOf (kdOf s))) S' := by
        unfold F__law_able bf__law_able illOf kdOf
        have e4 : pIx (srtD s) (.int 4) S' = some (illD s.ill) := by unfold srtD; simp
        have e2 : pIx (srtD s) (.int 2) S' = some (.int s.num) := by unfold srtD; simp
        cases h : s.ill with
        | none => simp [e4, e2, illD, h]
        | some i => simp [e4, e2, illD, h]
      have pick : ∃ a : Int, 0 ≤ a ∧ a ≤ illOf (kdOf s) ∧ atI [D.int 0, D.int (illOf (kdOf s)), D.int (illOf (kdOf s) / 2), D.int (min (illOf (kdOf s)) 1), D.int (min (illOf (kdOf s)) 2)] v = some (.int a) := by
        have : v = 0 ∨ v = 1 ∨ v = 2 ∨ v = 3 ∨ v = 4 := by omega
        rcases this with rfl | rfl | rfl | rfl | rfl
        · exact ⟨0, by omega, by omega, rfl⟩
        · exact ⟨illOf (kdOf s), by omega, by omega, rfl⟩
        · exact ⟨illOf (kdOf s) / 2, by omega, by omega, rfl⟩
        · exact ⟨min (illOf (kdOf s)) 1, by omega, by omega, rfl⟩
        · exact ⟨min (illOf (kdOf s)) 2, by omega, by omega, rfl⟩
      obtain ⟨a, a0, a1, ea⟩ := pick
      have hs' : S'[S.length]? = some (.lst (aw.map .int)) := hs
      simp [hab, e1, ea, hs', h1, hal]
      refine ⟨⟨done ++ [s], aw ++ [a], _, _, by simpa using hd, by rw [List.map_append]; exact hw.snoc a0 a1, rfl, ?_, by rw [List.length_set]; exact hl1, ?_, ?_⟩⟩
      · obtain ⟨x, m, y, h2, r⟩ := d1.cup
        exact ⟨x, m, y, by rw [List.getElem?_set_ne (by omega)]; exact h2, r⟩
      · rw [List.getElem?_set_self hil, List.map_append]
        rfl
      · intro i hi h2
        rw [List.getElem?_set_ne (by omega), d1.old i hi, ho i hi h2]
  clear hc
  have hsl : pTuple [.loc S.length] S' = some (awD true aw) := by
    rw [pTuple_loc, seqL_loc, hd]
    rfl
  have hz : frz S.length S' 9 (awD true aw) = some (awD true aw) := frz_flat (noLoc_tqs fun _ => rfl)
  obtain ⟨ef, df⟩ := fin_drew hn c (by omega) ho hz
  refine ⟨aw, _, ?_, df, hw.wsd⟩
  rw [← ef]
  have : pTuple [D.loc S.length] S' = some (awD true aw) := hsl
  simp only [Fl.thn_nx, sRet_ap, mCall_ap, aCons_ap, aNil_ap, eLoc_ap, R.bnd_ok]
  simp [hd]
  rfl
def rankI (p : Pl) : Int := match weakest p with
  | none => 10000000000000000000000000000000000000000
  | some (s, _) => s - 1
theorem weak_small {p : Pl} (ok : PlOk p) {s : Int} {l : Lot} (h : weakest p = some (s, l)) : 0 ≤ s ∧ s ≤ 5000000000000000000000000000000 := by
  obtain ⟨_, hb⟩ := weakest_mem h
  refine ⟨bsz_nonneg ok hb, ?_⟩
  obtain ⟨w, e, _⟩ := worst_breaks ok hb
  rw [← e]
  have hbd : ∀ x ∈ worst p l s, x ≤ 1000000000000000000000000000000 := fun x hx => by
    obtain ⟨i, hi⟩ := List.mem_iff_getElem?.mp hx
    have hil : i < p.kds.length := by
      rw [← w.len]
      exact (List.getElem?_eq_some_iff.mp hi).1
    have := (w.bd i x p.kds[i] hi (List.getElem?_eq_getElem hil)).2
    have ok' := ok.ko p.kds[i] (List.getElem_mem hil)
    have := ill_num ok'
    have := ok'.num.2
    omega
  have sum_le : ∀ {xs : List Int}, (∀ x ∈ xs, x ≤ 1000000000000000000000000000000) → xs.sum ≤ xs.length * 1000000000000000000000000000000 := by
    intro xs
    induction xs with
    | nil => intro _; simp
    | cons x xs ih =>
      intro h
      have h1 := h x (.head _)
      have h2 := ih fun y hy => h y (.tail _ hy)
      rw [List.sum_cons, List.length_cons, Int.natCast_add, Int.add_mul]
      omega
  have h1 := sum_le hbd
  have h2 := w.len
  have h3 := ok.k1
  omega
/-- whatever breaks the other breaks this one no later -/
theorem rank_mono {p p' : Pl} (ok : PlOk p) (ok' : PlOk p') (h : ∀ aw', Wsd p' [] aw' → Bad p' aw' → ∃ aw, Wsd p [] aw ∧ aw.sum ≤ aw'.sum ∧ Bad p aw) : rankI p ≤ rankI p' := by
  unfold rankI
  cases hw' : weakest p' with
  | none =>
    cases hw : weakest p with
    | none => exact Int.le_refl _
    | some f =>
      obtain ⟨s, l⟩ := f
      have := (weak_small ok hw).2
      show s - 1 ≤ 10000000000000000000000000000000000000000
      omega
  | some f' =>
    obtain ⟨s', l'⟩ := f'
    obtain ⟨aw', w', hs', hb'⟩ := (weak_iff ok' s').mp ⟨s', l', hw', Int.le_refl _⟩
    obtain ⟨aw, w, hs, hb⟩ := h aw' w' hb'
    obtain ⟨s, l, hw, hle⟩ := (weak_iff ok s').mpr ⟨aw, w, by omega, hb⟩
    rw [hw]
    show s - 1 ≤ s' - 1
    omega
theorem rank_eq {p p' : Pl} (ok : PlOk p) (ok' : PlOk p') (h : ∀ aw', Wsd p' [] aw' → Bad p' aw' → ∃ aw, Wsd p [] aw ∧ aw.sum ≤ aw'.sum ∧ Bad p aw) (h' : ∀ aw, Wsd p [] aw → Bad p aw → ∃ aw', Wsd p' [] aw' ∧ aw'.sum ≤ aw.sum ∧ Bad p' aw') : rankI p = rankI p' :=
  Int.le_antisymm (rank_mono ok ok' h) (rank_mono ok' ok h')
/-- what a strength is as data, by its number -/
theorem strD_rank {p p' : Pl} (ok : PlOk p) (ok' : PlOk p') (h : rankI p = rankI p') : strD (weakest p) = strD (weakest p') := by
  unfold rankI at h
  unfold strD
  cases hw : weakest p with
  | none =>
    cases hw' : weakest p' with
    | none => rfl
    | some f =>
      obtain ⟨s, l⟩ := f
      rw [hw, hw'] at h
      have := (weak_small ok' hw').2
      dsimp only at h
      omega
  | some f =>
    obtain ⟨s, l⟩ := f
    cases hw' : weakest p' with
    | none =>
      rw [hw, hw'] at h
      have := (weak_small ok hw).2
      dsimp only at h
      omega
    | some f' =>
      obtain ⟨s', l'⟩ := f'
      rw [hw, hw'] at h
      dsimp only at h ⊢
      rw [show s = s' by omega]
theorem bears_rank {p : Pl} (ok : PlOk p) (z : Int) (hz : z ≤ 1000000000000000000000000000000) : bearsB p z = decide (z ≤ rankI p) := by
  unfold bearsB rankI
  cases hw : weakest p with
  | none =>
    show true = decide (z ≤ 10000000000000000000000000000000000000000)
    rw [eq_comm, decide_eq_true_iff]
    omega
  | some f =>
    obtain ⟨s, l⟩ := f
    rw [Bool.eq_iff_iff]
    simp
    omega
/-- who can be there, kind by kind -/
theorem there_pt : ∀ {ks ks' : List Kd} {aw aw' : List Int} {l l' : Lot}, ks.length = ks'.length → aw.length = ks.length → aw'.length = ks'.length →
    (∀ (i : Nat) (k k' : Kd) (a a' : Int), ks[i]? = some k → ks'[i]? = some k' → aw[i]? = some a → aw'[i]? = some a' → (k.num - a) * weight k l ≤ (k'.num - a') * weight k' l') → there ks aw l ≤ there ks' aw' l'
  | [], [], _, _, _, _, _, _, _, _ => by simp [there]
  | [], _ :: _, _, _, _, _, h, _, _, _ => by simp at h
  | _ :: _, [], _, _, _, _, h, _, _, _ => by simp at h
  | k :: ks, k' :: ks', [], _, _, _, _, h, _, _ => by simp at h
  | k :: ks, k' :: ks', _ :: _, [], _, _, _, _, h, _ => by simp at h
  | k :: ks, k' :: ks', a :: aw, a' :: aw', l, l', h1, h2, h3, h => by
    have h0 := h 0 k k' a a' rfl rfl rfl rfl
    have ih := there_pt (ks := ks) (ks' := ks') (aw := aw) (aw' := aw') (l := l) (l' := l') (by simpa using h1) (by simpa using h2) (by simpa using h3) (fun i x x' b b' e1 e2 e3 e4 => h (i + 1) x x' b b' (by simpa using e1) (by simpa using e2) (by simpa using e3) (by simpa using e4))
    unfold there at ih ⊢
    rw [List.zip_cons_cons, List.zip_cons_cons, List.map_cons, List.map_cons, List.sum_cons, List.sum_cons]
    show (k.num - a) * weight k l + _ ≤ (k'.num - a') * weight k' l' + _
    omega
/-- the same lessons -/
theorem needs_same {p p' : Pl} (h1 : p.subs = p'.subs) (h2 : p.hrs = p'.hrs) (l : Lot) : needs p l = needs p' l := by
  unfold needs lesson
  rw [h1, h2]
theorem bad_of {p p' : Pl} {aw aw' : List Int} (h1 : p.subs = p'.subs) (h2 : p.hrs = p'.hrs) (h : ∀ l, there p.kds aw l ≤ there p'.kds aw' l) (hb : Bad p' aw') : Bad p aw := by
  obtain ⟨l, ⟨n, m⟩, hm⟩ := hb
  refine ⟨l, ⟨n, by rw [h1, h2]; exact m⟩, ?_⟩
  have := h l
  unfold margin at hm ⊢
  rw [needs_same h1 h2]
  omega
def setK (k : Sk) (i : Nat) (s : Srt) : Sk := ⟨k.tops, k.clk, k.srt.set i s⟩
theorem setK_kds (k : Sk) (i : Nat) (s : Srt) : (plOf (setK k i s)).kds = (plOf k).kds.set i (kdOf s) := by
  show (k.srt.set i s).map kdOf = (k.srt.map kdOf).set i (kdOf s)
  rw [List.map_set]
theorem setK_ok {k : Sk} (ok : PlOk (plOf k)) {i : Nat} {s s' : Srt} (hi : k.srt[i]? = some s) (hn : s'.nm = s.nm) (hk : KdOk k.tops (kdOf s')) : PlOk (plOf (setK k i s')) := by
  have il : i < k.srt.length := (List.getElem?_eq_some_iff.mp hi).1
  refine ⟨ok.s0, ok.s1, ok.sn, ok.sm, ok.h0, ok.h1, ok.h2, ok.ho, ?_, ?_, ?_, ?_⟩
  · rw [setK_kds]
    intro e
    have := congrArg List.length e
    rw [List.length_set] at this
    have h0 := ok.k0
    exact h0 (List.eq_nil_of_length_eq_zero this)
  · rw [setK_kds, List.length_set]
    exact ok.k1
  · have e : (plOf (setK k i s')).kds.map Kd.nm = (plOf k).kds.map Kd.nm := by
      show ((k.srt.set i s').map kdOf).map Kd.nm = (k.srt.map kdOf).map Kd.nm
      rw [List.map_map, List.map_map, List.map_set]
      refine List.ext_getElem? fun j => ?_
      by_cases e : i = j
      · subst e
        rw [List.getElem?_set_self (by simpa using il), List.getElem?_map, hi]
        show some s'.nm = some s.nm
        rw [hn]
      · rw [List.getElem?_set_ne e]
    rw [e]
    exact ok.kn
  · rw [setK_kds]
    intro x hx
    rcases List.mem_or_eq_of_mem_set hx with h | rfl
    · exact ok.ko x h
    · exact hk
theorem wsd0 {p : Pl} {aw : List Int} (w : Wsd p [] aw) : ∀ (i : Nat) (a : Int), aw[i]? = some a → 0 ≤ a := fun i a h => by
  have hil : i < p.kds.length := by
    rw [← w.len]
    exact (List.getElem?_eq_some_iff.mp h).1
  exact (w.bd i a p.kds[i] h (List.getElem?_eq_getElem hil)).1
/-- one kind otherwise: absences of the other, and its people -/
theorem one_kind {k : Sk} (ok : PlOk (plOf k)) {i : Nat} {s s' : Srt} (hi : k.srt[i]? = some s) (hk' : KdOk k.tops (kdOf s')) {aw' : List Int} (w' : Wsd (plOf (setK k i s')) [] aw')
    (h : ∀ a', 0 ≤ a' → a' ≤ illOf (kdOf s') → ∃ a, 0 ≤ a ∧ a ≤ illOf (kdOf s) ∧ a ≤ a' ∧ ∀ l, (s.num - a) * weight (kdOf s) l ≤ (s'.num - a') * weight (kdOf s') l) (hb : Bad (plOf (setK k i s')) aw') :
    ∃ aw, Wsd (plOf k) [] aw ∧ aw.sum ≤ aw'.sum ∧ Bad (plOf k) aw := by
  have il : i < k.srt.length := (List.getElem?_eq_some_iff.mp hi).1
  have hlen : (plOf k).kds.length = k.srt.length := by show (k.srt.map kdOf).length = _; simp
  have hlen' : (plOf (setK k i s')).kds.length = k.srt.length := by rw [setK_kds, List.length_set, hlen]
  have hk : (plOf k).kds[i]? = some (kdOf s) := by show (k.srt.map kdOf)[i]? = _; rw [List.getElem?_map, hi]; rfl
  have hk2 : (plOf (setK k i s')).kds[i]? = some (kdOf s') := by rw [setK_kds, List.getElem?_set_self (by omega)]
  have al : aw'.length = k.srt.length := by rw [w'.len, hlen']
  have ha' : aw'[i]? = some aw'[i] := List.getElem?_eq_getElem (by omega)
  obtain ⟨b0, b1⟩ := w'.bd i _ _ ha' hk2
  obtain ⟨a, a0, a1, a2, hw⟩ := h aw'[i] b0 b1
  refine ⟨aw'.set i a, ⟨by rw [List.length_set]; omega, fun j b kd hj hkd => ?_⟩, ?_, bad_of (p := plOf k) (p' := plOf (setK k i s')) rfl rfl (fun l => ?_) hb⟩
  · by_cases e : i = j
    · subst e
      rw [List.getElem?_set_self (by omega)] at hj
      rw [hk] at hkd
      cases hj
      cases hkd
      exact ⟨a0, a1⟩
    · rw [List.getElem?_set_ne e] at hj
      refine w'.bd j b kd hj ?_
      rw [setK_kds, List.getElem?_set_ne e]
      exact hkd
  · have : ∀ {xs : List Int} {i : Nat} {x y : Int}, xs[i]? = some x → y ≤ x → (xs.set i y).sum ≤ xs.sum := by
      intro xs
      induction xs with
      | nil => intro i x y h; simp at h
      | cons z zs ih =>
        intro i x y h hy
        cases i with
        | zero =>
          simp at h
          subst h
          simp
          omega
        | succ i =>
          have := ih (i := i) (x := x) (y := y) (by simpa using h) hy
          rw [List.set_cons_succ, List.sum_cons, List.sum_cons]
          omega
    exact this ha' a2
  · refine there_pt (by omega) (by rw [List.length_set]; omega) (by omega) fun j x x' b b' e1 e2 e3 e4 => ?_
    by_cases e : i = j
    · subst e
      rw [hk] at e1
      rw [hk2] at e2
      rw [List.getElem?_set_self (by omega)] at e3
      rw [ha'] at e4
      cases e1
      cases e2
      cases e3
      cases e4
      exact hw l
    · rw [List.getElem?_set_ne e] at e3
      rw [setK_kds, List.getElem?_set_ne e, e1] at e2
      rw [e3] at e4
      cases e2
      cases e4
      exact Int.le_refl _
theorem set_split {α : Type} {xs : List α} {i : Nat} (h : i < xs.length) (x : α) : xs.take i ++ ([x] ++ xs.drop (i + 1)) = xs.set i x := by
  rw [List.set_eq_take_append_cons_drop, if_pos h]
  rfl
theorem cutD_lo_int {α : Type} (xs : List α) {i : Int} (h : 0 ≤ i) : cutD xs (some i) none = xs.drop i.toNat := by
  obtain ⟨k, rfl⟩ := Int.eq_ofNat_of_zero_le h
  rw [cutD_lo]
  rfl
theorem frz_lst {n0 : Nat} {S : Store} {f : Nat} {xs ys : List D} (h : xs.mapM (frz n0 S f) = some ys) : frz n0 S (f + 1) (.lst xs) = some (.lst ys) := by
  by_cases c : noLocs xs = true
  · rw [frz_list c] at h
    cases h
    exact frz_flat (by simpa [noLoc] using c)
  · unfold frz
    rw [if_neg (by simpa [noLoc] using c)]
    dsimp only
    rw [h]
    rfl
theorem mapM_cons {α β : Type} {f : α → Option β} {x : α} {y : β} {xs : List α} {ys : List β} (h : f x = some y) (h2 : xs.mapM f = some ys) : (x :: xs).mapM f = some (y :: ys) := by
  rw [List.mapM_cons, h, h2]
  rfl
theorem mapM_app {α β : Type} {f : α → Option β} : ∀ {xs : List α} {ys : List β} {us : List α} {vs : List β}, xs.mapM f = some ys → us.mapM f = some vs → (xs ++ us).mapM f = some (ys ++ vs)
  | [], ys, us, vs, h, h2 => by
    rw [List.mapM_nil] at h
    cases h
    exact h2
  | x :: xs, ys, us, vs, h, h2 => by
    rcases mapM_some h with ⟨e, _⟩ | ⟨x', xr, y, yr, e, rfl, h3, h4⟩
    · cases e
    · cases e
      exact mapM_cons h3 (mapM_app h4 h2)
theorem strOk_endless : PyData.strOk "endless" = true := by decide +kernel
theorem setK_back {k : Sk} {i : Nat} {s s' : Srt} (hi : k.srt[i]? = some s) : setK (setK k i s') i s = k := by
  obtain ⟨il, e⟩ := List.getElem?_eq_some_iff.mp hi
  unfold setK
  dsimp only
  rw [List.set_set, ← e, List.set_getElem_self]
theorem rank_up {k : Sk} (ok : PlOk (plOf k)) {i : Nat} {s s' : Srt} (hi : k.srt[i]? = some s) (hn : s'.nm = s.nm) (hk : KdOk k.tops (kdOf s'))
    (h : ∀ a', 0 ≤ a' → a' ≤ illOf (kdOf s') → ∃ a, 0 ≤ a ∧ a ≤ illOf (kdOf s) ∧ a ≤ a' ∧ ∀ l, (s.num - a) * weight (kdOf s) l ≤ (s'.num - a') * weight (kdOf s') l) : rankI (plOf k) ≤ rankI (plOf (setK k i s')) :=
  rank_mono ok (setK_ok ok hi hn hk) fun aw' w' hb => one_kind ok hi hk w' h hb
theorem rank_down {k : Sk} (ok : PlOk (plOf k)) {i : Nat} {s s' : Srt} (hi : k.srt[i]? = some s) (hn : s'.nm = s.nm) (hk : KdOk k.tops (kdOf s'))
    (h : ∀ a', 0 ≤ a' → a' ≤ illOf (kdOf s) → ∃ a, 0 ≤ a ∧ a ≤ illOf (kdOf s') ∧ a ≤ a' ∧ ∀ l, (s'.num - a) * weight (kdOf s') l ≤ (s.num - a') * weight (kdOf s) l) : rankI (plOf (setK k i s')) ≤ rankI (plOf k) := by
  have il : i < k.srt.length := (List.getElem?_eq_some_iff.mp hi).1
  have ok' := setK_ok ok hi hn hk
  have ks : KdOk k.tops (kdOf s) := ok.ko (kdOf s) (List.mem_map_of_mem (List.mem_of_getElem? hi))
  have := rank_up (k := setK k i s') ok' (i := i) (s := s') (s' := s) (by show (k.srt.set i s')[i]? = _; rw [List.getElem?_set_self il]) hn.symm ks h
  rw [setK_back hi] at this
  exact this
def setC (k : Sk) (h : Nat) (r : List Int) : Sk := ⟨k.tops, k.clk.set h r, k.srt⟩
theorem setC_hrs (k : Sk) (h : Nat) (r : List Int) : (plOf (setC k h r)).hrs = (plOf k).hrs.set h (hrOf r) := by
  show (k.clk.set h r).map hrOf = (k.clk.map hrOf).set h (hrOf r)
  rw [List.map_set]
theorem setC_ok {k : Sk} (ok : PlOk (plOf k)) {h : Nat} {r : List Int} (hr : HrOk k.tops (hrOf r)) : PlOk (plOf (setC k h r)) := by
  refine ⟨ok.s0, ok.s1, ok.sn, ok.sm, ?_, ?_, ?_, ?_, ok.k0, ok.k1, ok.kn, ok.ko⟩
  · rw [setC_hrs]
    intro e
    have := congrArg List.length e
    rw [List.length_set] at this
    exact ok.h0 (List.eq_nil_of_length_eq_zero this)
  · rw [setC_hrs, List.length_set]
    exact ok.h1
  · rw [setC_hrs, List.length_set]
    exact ok.h2
  · rw [setC_hrs]
    intro x hx
    rcases List.mem_or_eq_of_mem_set hx with h | rfl
    · exact ok.ho x h
    · exact hr
theorem setC_rows {k : Sk} (rb : RowsOk (plOf k)) {h : Nat} {r : List Int} (hr : ∀ n ∈ r, numOk n) : RowsOk (plOf (setC k h r)) := by
  unfold RowsOk
  rw [setC_hrs]
  intro x hx
  rcases List.mem_or_eq_of_mem_set hx with h | rfl
  · exact rb x h
  · exact hr
/-- more lessons: no greater strength -/
theorem fuller_rank {k : Sk} (ok : PlOk (plOf k)) {h : Nat} {row : List Int} (hh : k.clk[h]? = some row) {j : Nat} {v : Int} (hj : row[j]? = some v) {dv : Int} (hw : 0 ≤ dv) :
    PlOk (plOf (setC k h (row.set j (v + dv)))) ∧ rankI (plOf (setC k h (row.set j (v + dv)))) ≤ rankI (plOf k) := by
  have hro := ok.ho (hrOf row) (List.mem_map_of_mem (List.mem_of_getElem? hh))
  have v0 : 0 ≤ v := hro.num v (List.mem_of_getElem? hj)
  have hl : h < k.clk.length := (List.getElem?_eq_some_iff.mp hh).1
  have jl : j < row.length := (List.getElem?_eq_some_iff.mp hj).1
  have hr : HrOk k.tops (hrOf (row.set j (v + dv))) := by
    refine ⟨by show (row.set j (v + dv)).length = _; rw [List.length_set]; exact hro.len, fun n hn => ?_⟩
    rcases List.mem_or_eq_of_mem_set hn with h | rfl
    · exact hro.num n h
    · omega
  have ok' := setC_ok ok (h := h) hr
  refine ⟨ok', rank_mono ok' ok fun aw w hb => ⟨aw, ⟨w.len, w.bd⟩, Int.le_refl _, ?_⟩⟩
  obtain ⟨l, ⟨n, m⟩, hm⟩ := hb
  refine ⟨l, ⟨n, fun q hq => ⟨?_, (m q hq).2⟩⟩, ?_⟩
  · rw [setC_hrs, List.length_set]
    exact (m q hq).1
  · have hn : needs (plOf k) l ≤ needs (plOf (setC k h (row.set j (v + dv)))) l := by
      unfold needs
      have : ∀ q : Pr, lesson (plOf k) q ≤ lesson (plOf (setC k h (row.set j (v + dv)))) q := fun q => by
        unfold lesson
        rw [setC_hrs]
        show ((k.clk.map hrOf).getD q.1 default).ns.getD (k.tops.findIdx (· == q.2)) 0 ≤ (((k.clk.map hrOf).set h (hrOf (row.set j (v + dv)))).getD q.1 default).ns.getD (k.tops.findIdx (· == q.2)) 0
        by_cases e : h = q.1
        · rw [← e]
          have e1 : (k.clk.map hrOf).getD h default = hrOf row := by simp [List.getD_eq_getElem?_getD, hh]
          have e2 : ((k.clk.map hrOf).set h (hrOf (row.set j (v + dv)))).getD h default = hrOf (row.set j (v + dv)) := by simp [List.getD_eq_getElem?_getD, hl]
          rw [e1, e2]
          show row.getD _ 0 ≤ (row.set j (v + dv)).getD _ 0
          generalize k.tops.findIdx (· == q.2) = f
          by_cases e3 : j = f
          · subst e3
            have ej : row[j] = v := (List.getElem?_eq_some_iff.mp hj).2
            simp [List.getD_eq_getElem?_getD, jl, ej]
            omega
          · simp [List.getD_eq_getElem?_getD, List.getElem?_set_ne e3]
        · simp [List.getD_eq_getElem?_getD, List.getElem?_set_ne e]
      clear hm n m
      induction l with
      | nil => simp
      | cons q l ih =>
        have := this q
        rw [List.map_cons, List.map_cons, List.sum_cons, List.sum_cons]
        omega
    unfold margin at hm ⊢
    have : there (plOf (setC k h (row.set j (v + dv)))).kds aw l = there (plOf k).kds aw l := rfl
    omega
theorem all2_get {α β : Type} {Q : α → β → Prop} {xs : List α} {ys : List β} (h : All2 Q xs ys) : ∀ (i : Nat) (y : β), ys[i]? = some y → ∃ x, xs[i]? = some x ∧ Q x y := by
  induction h with
  | nil => intro i y hy; simp at hy
  | cons q _ ih =>
    intro i y hy
    cases i with
    | zero =>
      simp at hy
      subst hy
      exact ⟨_, rfl, q⟩
    | succ i =>
      obtain ⟨x, h1, h2⟩ := ih i y (by simpa using hy)
      exact ⟨x, by simpa using h1, h2⟩
theorem lesser_wsd {p : Pl} {aw bw : List Int} (w : Wsd p [] aw) (q : All2 (fun a b => 0 ≤ b ∧ b ≤ a) aw bw) : Wsd p [] bw := by
  refine ⟨by rw [q.length]; exact w.len, fun i b k hb hk => ?_⟩
  obtain ⟨a, ha, h0, h1⟩ := all2_get q i b hb
  have := w.bd i a k ha hk
  exact ⟨h0, by omega⟩
theorem lesser_bad {p : Pl} (ok : PlOk p) {aw bw : List Int} (w : Wsd p [] aw) (q : All2 (fun a b => 0 ≤ b ∧ b ≤ a) aw bw) (h : Bad p bw) : Bad p aw := by
  refine bad_of rfl rfl (fun l => ?_) h
  refine there_pt rfl w.len (by rw [q.length]; exact w.len) fun i k k' a b hk hk' ha hb => ?_
  rw [hk] at hk'
  cases hk'
  obtain ⟨a', ha', h0, h1⟩ := all2_get q i b hb
  rw [ha] at ha'
  cases ha'
  exact Int.mul_le_mul_of_nonneg_right (by omega) (weight0 (ok.ko k (List.mem_of_getElem? hk)) l)
/-- each item says yes -/
theorem cGo_all {α : Type} {en : α → D} {g : Tgt} {t : L → Store → R Bool} {e : L → Store → R D} {l : L} : ∀ {xs : List α} {S : Store} {k : Nat}, (∀ x ∈ xs, ∀ S, ∃ S', cStep g t e l (en x) S = some (some (.bl true), S')) → k + xs.length ≤ 16777216 → ∃ S', cGo g t e [] l (xs.map en) k S = some (xs.map fun _ => D.bl true, S')
  | [], S, k, _, _ => ⟨S, cGo_nil trivial⟩
  | x :: xs, S, k, h, hk => by
    obtain ⟨S1, e1⟩ := h x (.head _) S
    rw [List.length_cons] at hk
    obtain ⟨S2, e2⟩ := cGo_all (xs := xs) (S := S1) (k := k + 1) (fun y hy => h y (.tail _ hy)) (by omega)
    exact ⟨S2, by rw [List.map_cons, cGo_some (w := []) trivial e1 (by rw [sizeLine_eq]; omega), e2]; rfl⟩
theorem sWh_run {c : L → Store → R Bool} {b : L → Store → Fl} (I : Nat → L → Store → Prop) (J : L → Store → Prop)
    (h : ∀ n l S, I n l S → (c l S = .ok false S ∧ J l S) ∨ (c l S = .ok true S ∧ ∃ n' l' S', b l S = .nx l' S' ∧ I n' l' S' ∧ n' < n)) : ∀ {n : Nat} {l : L} {S : Store}, I n l S → ∃ l' S', sWh c b l S = .nx l' S' ∧ J l' S' := by
  have go : ∀ (n : Nat) (l : L) (S : Store), I n l S → ∃ k l' S', whGo c b k l S = .nx l' S' ∧ J l' S' := by
    intro n
    induction n using Nat.strongRecOn with
    | ind n ih =>
      intro l S hI
      rcases h n l S hI with ⟨hc, hJ⟩ | ⟨hc, n', l', S', hb, hI', hlt⟩
      · exact ⟨1, l, S, by rw [whGo, hc]; rfl, hJ⟩
      · obtain ⟨k, l2, S2, e, hJ⟩ := ih n' hlt l' S' hI'
        refine ⟨k + 1, l2, S2, ?_, hJ⟩
        rw [whGo, hc]
        show (match b l S with
          | .nx l1 S2 => whGo c b k l1 S2
          | .ct l1 S2 => whGo c b k l1 S2
          | .bk l1 S2 => .nx l1 S2
          | .rt d S2 => .rt d S2
          | .exc e l1 S2 => .exc e l1 S2
          | .bad => .bad) = _
        rw [hb]
        exact e
  intro n l S hI
  obtain ⟨k, l', S', e, hJ⟩ := go n l S hI
  exact ⟨l', S', sWh_of e (by simp), hJ⟩
theorem nameOk_len {w : Str} (h : isNameB w = true) : w.length ≤ 16777216 := by
  have := name_len h
  omega
def numK (k : Sk) (i : Nat) (s : Srt) (x : Int) : Sk := setK k i { s with num := x }
theorem numK_ok {k : Sk} (ok : PlOk (plOf k)) {i : Nat} {s : Srt} (hi : k.srt[i]? = some s) {x : Int} (hx : numOk x) : PlOk (plOf (numK k i s x)) := by
  have ks : KdOk k.tops (kdOf s) := ok.ko (kdOf s) (List.mem_map_of_mem (List.mem_of_getElem? hi))
  exact setK_ok ok hi rfl ⟨ks.nm, ks.gv, ks.gn, ks.sub, hx, ks.m0, ks.m1, ks.ill⟩
theorem nm_inj {k : Sk} (ok : PlOk (plOf k)) {i j : Nat} {s t : Srt} (hi : k.srt[i]? = some s) (hj : k.srt[j]? = some t) (h : s.nm = t.nm) : i = j := by
  have hn : (k.srt.map Srt.nm).Nodup := by
    have := ok.kn
    have : ((k.srt.map kdOf).map Kd.nm).Nodup := this
    rw [List.map_map] at this
    exact this
  obtain ⟨h1, e1⟩ := List.getElem?_eq_some_iff.mp hi
  obtain ⟨h2, e2⟩ := List.getElem?_eq_some_iff.mp hj
  have g1 : i < (k.srt.map Srt.nm).length := by simpa using h1
  have g2 : j < (k.srt.map Srt.nm).length := by simpa using h2
  refine (List.getElem_inj hn (h₀ := g1) (h₁ := g2)).mp ?_
  rw [List.getElem_map, List.getElem_map, e1, e2, h]
/-- fewer or more people of a kind: safety moves one way -/
theorem num_mono {k : Sk} (ok : PlOk (plOf k)) {i : Nat} {s : Srt} (hi : k.srt[i]? = some s) {x y : Int} (hx : numOk x) (hy : numOk y) (h : x ≤ y) : rankI (plOf (numK k i s x)) ≤ rankI (plOf (numK k i s y)) := by
  have il : i < k.srt.length := (List.getElem?_eq_some_iff.mp hi).1
  have okx := numK_ok ok hi hx
  have ks : KdOk k.tops (kdOf s) := ok.ko (kdOf s) (List.mem_map_of_mem (List.mem_of_getElem? hi))
  have e : numK k i s y = setK (numK k i s x) i { s with num := y } := by
    unfold numK setK
    dsimp only
    rw [List.set_set]
  have hi' : (numK k i s x).srt[i]? = some { s with num := x } := by
    show (k.srt.set i _)[i]? = _
    rw [List.getElem?_set_self il]
  have hk : KdOk k.tops (kdOf { s with num := y }) := ⟨ks.nm, ks.gv, ks.gn, ks.sub, hy, ks.m0, ks.m1, ks.ill⟩
  have w0 := fun l => weight0 ks l
  rw [e]
  refine rank_up okx hi' rfl hk fun a' a0 a1 => ⟨min a' (illOf (kdOf { s with num := x })), ?_, by omega, by omega, fun l => ?_⟩
  · have := ill0 (k := kdOf { s with num := x }) (subs := k.tops) ⟨ks.nm, ks.gv, ks.gn, ks.sub, hx, ks.m0, ks.m1, ks.ill⟩
    omega
  · have e2 : illOf (kdOf { s with num := y }) ≤ illOf (kdOf { s with num := x }) + (y - x) := by
      unfold illOf kdOf
      dsimp only
      cases s.ill with
      | none => show y ≤ x + (y - x); omega
      | some j => show min y j ≤ min x j + (y - x); omega
    refine Int.mul_le_mul_of_nonneg_right ?_ (w0 l)
    show x - _ ≤ y - a'
    omega
theorem bears_mono {k : Sk} (ok : PlOk (plOf k)) {i : Nat} {s : Srt} (hi : k.srt[i]? = some s) {x y z : Int} (hx : numOk x) (hy : numOk y) (hz : z ≤ 1000000000000000000000000000000) (h : x ≤ y) (hb : bearsB (plOf (numK k i s x)) z = true) : bearsB (plOf (numK k i s y)) z = true := by
  rw [bears_rank (numK_ok ok hi hx) z hz, decide_eq_true_iff] at hb
  rw [bears_rank (numK_ok ok hi hy) z hz, decide_eq_true_iff]
  have := num_mono ok hi hx hy h
  omega
theorem numK_self {k : Sk} {i : Nat} {s : Srt} (hi : k.srt[i]? = some s) : numK k i s s.num = k := by
  obtain ⟨il, e⟩ := List.getElem?_eq_some_iff.mp hi
  unfold numK setK
  have : ({ s with num := s.num } : Srt) = k.srt[i] := by rw [e]
  rw [this, List.set_getElem_self]
/-- the greatest number that can leave -/
structure SpareIs (k : Sk) (i : Nat) (s : Srt) (z m : Int) : Prop where
  m0 : 0 ≤ m
  m1 : m ≤ s.num
  yes : bearsB (plOf (numK k i s (s.num - m))) z = true
  no : ∀ m', 0 ≤ m' → m' ≤ s.num → bearsB (plOf (numK k i s (s.num - m'))) z = true → m' ≤ m
def SpareD (k : Sk) (i : Nat) (s : Srt) (z : Int) (d : D) : Prop := (bearsB (plOf k) z = false ∧ d = .non) ∨ ∃ m, d = .int m ∧ bearsB (plOf k) z = true ∧ SpareIs k i s z m
structure SpInv (k : Sk) (i : Nat) (s : Srt) (z : Int) (S : Store) (n : Nat) (l : L) (S' : Store) : Prop where
  ex : ∃ (least e : Int) (o6 : Option D), l = [some (plD (plOf k)), some (.str s.nm), some (.int z), some (.int s.num), some (.int least), some (.int e), o6] ∧ S' = S ∧ 0 ≤ least ∧ least < e ∧ e ≤ s.num + 1 ∧ (e - least).toNat = n ∧
    bearsB (plOf (numK k i s (s.num - least))) z = true ∧ (e ≤ s.num → bearsB (plOf (numK k i s (s.num - e))) z = false)
def SpEnd (k : Sk) (i : Nat) (s : Srt) (z : Int) (S : Store) (l : L) (S' : Store) : Prop := ∃ (least e : Int) (o6 : Option D), l = [some (plD (plOf k)), some (.str s.nm), some (.int z), some (.int s.num), some (.int least), some (.int e), o6] ∧ S' = S ∧ SpareIs k i s z least
theorem tkw_mono : ∀ {xs : List (Int × Int)} {a b : Int}, (∀ x ∈ xs, 0 < x.1 ∧ 0 ≤ x.2) → a ≤ b → tkw xs a ≤ tkw xs b
  | [], _, _, _, _ => Int.le_refl _
  | (w, m) :: r, a, b, h, hab => by
    have hw := (h (w, m) (.head _)).1
    have h1 : min a m ≤ min b m := by omega
    have h2 : a - min a m ≤ b - min b m := by omega
    have h3 := tkw_mono (fun x hx => h x (.tail _ hx)) h2
    have h4 : min a m * w ≤ min b m * w := Int.mul_le_mul_of_nonneg_right h1 (by have : 0 < w := hw; omega)
    rw [tkw, tkw]
    omega
def loss (k : Sk) (l : Lot) (z : Int) : Int := tkw ([3, 2, 1].map fun w => (w, many k l w)) z
theorem many0 {k : Sk} (ok : PlOk (plOf k)) (l : Lot) (w : Int) : 0 ≤ many k l w := by
  unfold many
  refine sum_nonneg fun x hx => ?_
  obtain ⟨s, hs, rfl⟩ := List.mem_map.mp hx
  exact ill0 (ok.ko (kdOf s) (List.mem_map_of_mem (List.mem_filter.mp hs).1))
theorem wm_pos {k : Sk} (ok : PlOk (plOf k)) (l : Lot) : ∀ x ∈ [3, 2, 1].map (fun w => ((w : Int), many k l w)), 0 < x.1 ∧ 0 ≤ x.2 := fun x hx => by
  obtain ⟨w, hw, rfl⟩ := List.mem_map.mp hx
  refine ⟨?_, many0 ok l w⟩
  simp at hw
  show 0 < w
  omega
theorem loss_iff {k : Sk} (ok : PlOk (plOf k)) (l : Lot) {z : Int} (hz : 0 ≤ z) : margin (plOf k) (nob (plOf k)) l < loss k l z ↔ ∃ v, bsz (plOf k) l = some v ∧ v ≤ z := by
  have hp := wm_pos ok l
  have t0 : tkw ([3, 2, 1].map fun w => (w, many k l w)) 0 = 0 := (tk_zero hp).2
  rw [← bsz_eq ok]
  unfold lsz loss
  by_cases h : margin (plOf k) (nob (plOf k)) l < 0
  · rw [if_pos h]
    have := tkw_mono hp hz
    exact ⟨fun _ => ⟨0, rfl, hz⟩, fun _ => by omega⟩
  · rw [if_neg h]
    constructor
    · intro h1
      obtain ⟨v, h2, h3⟩ := gob_of_tkw (size := 0) hp hz (by omega) h1
      exact ⟨v, h2, by omega⟩
    · rintro ⟨v, h2, h3⟩
      obtain ⟨_, h4⟩ := tk_gob hp (by omega) h2
      have := tkw_mono hp (show v - 0 ≤ z by omega)
      omega
def lossB (k : Sk) (z : Int) : Bool := (lots (plOf k)).all fun l => !decide (margin (plOf k) (nob (plOf k)) l < loss k l z)
theorem lossB_eq {k : Sk} (ok : PlOk (plOf k)) {z : Int} (hz : 0 ≤ z) : lossB k z = bearsB (plOf k) z := by
  rw [Bool.eq_iff_iff]
  unfold lossB bearsB
  rw [List.all_eq_true]
  constructor
  · intro h
    cases hw : weakest (plOf k) with
    | none => rfl
    | some f =>
      obtain ⟨s, l⟩ := f
      obtain ⟨hl, hb⟩ := weakest_mem hw
      have := h l hl
      simp only [Bool.not_eq_true', decide_eq_false_iff_not] at this
      rw [loss_iff ok l hz] at this
      show decide (z < s) = true
      rw [decide_eq_true_iff]
      refine Int.not_le.mp fun c => this ⟨s, hb, c⟩
  · intro h l hl
    simp only [Bool.not_eq_true', decide_eq_false_iff_not]
    rw [loss_iff ok l hz]
    rintro ⟨v, hb, hv⟩
    obtain ⟨t, m, e, ht⟩ := weakest_le hl hb
    rw [e] at h
    have h : decide (z < t) = true := h
    rw [decide_eq_true_iff] at h
    omega
structure LoInv (k : Sk) (l : Lot) (z : Int) (S : Store) (zs : List Int) (ls : L) (S' : Store) : Prop where
  ex : ∃ (left lost : Int) (o5 o6 o7 o8 : Option D), ls = [some (skD k), some (lotD l), some (.int z), some (.int left), some (.int lost), o5, o6, o7, o8] ∧ S' = S ∧ lost + tkw (zs.map fun w => (w, many k l w)) left = loss k l z
def LoEnd (k : Sk) (l : Lot) (z : Int) (S : Store) (r : Fl) : Prop := ∃ (o3 o5 o6 o7 o8 : Option D), r = .nx [some (skD k), some (lotD l), some (.int z), o3, some (.int (loss k l z)), o5, o6, o7, o8] S
def LbEnd (k : Sk) (z : Int) (S : Store) (r : Fl) : Prop := (lossB k z = false ∧ r = .rt (.bl false) S) ∨ (lossB k z = true ∧ ∃ l', r = .nx l' S)
structure LbInv (k : Sk) (z : Int) (S : Store) (zs : List Lot) (ls : L) (S' : Store) : Prop where
  ex : ∃ (o3 o4 : Option D), ls = [some (skD k), some (.int z), some (.lst ((nob (plOf k)).map .int)), o3, o4] ∧ S' = S ∧ (zs.all fun l => !decide (margin (plOf k) (nob (plOf k)) l < loss k l z)) = lossB k z
/-- the least number with which it is safe -/
structure NeedIs (k : Sk) (i : Nat) (s : Srt) (z m : Int) : Prop where
  m0 : 0 ≤ m
  m1 : m ≤ 1000000000000000000000000000000
  yes : bearsB (plOf (numK k i s m)) z = true
  no : m = 0 ∨ bearsB (plOf (numK k i s (m - 1))) z = false
def NeedD (k : Sk) (i : Nat) (s : Srt) (z : Int) (d : D) : Prop := (bearsB (plOf (numK k i s 1000000000000000000000000000000)) z = false ∧ d = .non) ∨ ∃ m, d = .int m ∧ NeedIs k i s z m
structure NdInv (k : Sk) (i : Nat) (s : Srt) (z : Int) (S : Store) (n : Nat) (l : L) (S' : Store) : Prop where
  ex : ∃ (least e : Int) (o5 : Option D), l = [some (plD (plOf k)), some (.str s.nm), some (.int z), some (.int least), some (.int e), o5] ∧ S' = S ∧ -1 ≤ least ∧ least < e ∧ e ≤ 1000000000000000000000000000000 ∧ (e - least).toNat = n ∧
    bearsB (plOf (numK k i s e)) z = true ∧ (0 ≤ least → bearsB (plOf (numK k i s least)) z = false)
def NdEnd (k : Sk) (i : Nat) (s : Srt) (z : Int) (S : Store) (l : L) (S' : Store) : Prop := ∃ (least e : Int) (o5 : Option D), l = [some (plD (plOf k)), some (.str s.nm), some (.int z), some (.int least), some (.int e), o5] ∧ S' = S ∧ NeedIs k i s z e
def part (k : Sk) (r : List Int) : Sk := ⟨k.tops, [r], k.srt⟩
theorem part_ok {k : Sk} (ok : PlOk (plOf k)) {r : List Int} (hr : r ∈ k.clk) : PlOk (plOf (part k r)) := by
  have hro := ok.ho (hrOf r) (List.mem_map_of_mem hr)
  have s1 : k.tops.length ≤ 4 := ok.s1
  exact { s0 := ok.s0, s1 := ok.s1, sn := ok.sn, sm := ok.sm, h0 := (by simp [plOf, part]), h1 := (by simp [plOf, part]), h2 := (by simp [plOf, part]; omega), ho := (fun h hh => by simp [plOf, part] at hh; subst hh; exact hro), k0 := ok.k0, k1 := ok.k1, kn := ok.kn, ko := ok.ko }
theorem part_rows {k : Sk} (rb : RowsOk (plOf k)) {r : List Int} (hr : r ∈ k.clk) : RowsOk (plOf (part k r)) := fun h hh => by
  simp [plOf, part] at hh
  subst hh
  exact rb (hrOf r) (List.mem_map_of_mem hr)
theorem sum_swap {α β : Type} (f : α → β → Int) (ys : List β) : ∀ xs : List α, (xs.map fun x => (ys.map fun y => f x y).sum).sum = (ys.map fun y => (xs.map fun x => f x y).sum).sum
  | [] => by
    have : ∀ ys : List β, (ys.map fun _ => (0 : Int)).sum = 0 := fun ys => by
      induction ys with
      | nil => rfl
      | cons y ys ih => rw [List.map_cons, List.sum_cons, ih]; rfl
    simpa using (this ys).symm
  | x :: xs => by
    have add : ∀ (g h : β → Int) (ys : List β), (ys.map fun y => g y + h y).sum = (ys.map g).sum + (ys.map h).sum := fun g h ys => by
      induction ys with
      | nil => rfl
      | cons y ys ih => rw [List.map_cons, List.map_cons, List.map_cons, List.sum_cons, List.sum_cons, List.sum_cons, ih]; omega
    rw [List.map_cons, List.sum_cons, sum_swap f ys xs, ← add]
    rfl
theorem sum_pick (v : Int) : ∀ (n : Nat) (i : Nat), i < n → ((List.range n).map fun h => if i = h then v else 0).sum = v
  | 0, i, h => absurd h (Nat.not_lt_zero _)
  | n + 1, i, h => by
    have z : ∀ n i, n ≤ i → ((List.range n).map fun h => if i = h then v else 0).sum = 0 := by
      intro n
      induction n with
      | zero => intro i _; rfl
      | succ n ih =>
        intro i hi
        rw [List.range_succ, List.map_append, List.sum_append, ih i (by omega)]
        have : ¬ i = n := by omega
        simp [this]
    rw [List.range_succ, List.map_append, List.sum_append]
    by_cases c : i = n
    · subst c
      rw [z i i (Nat.le_refl _)]
      simp
    · rw [sum_pick v n i (by omega)]
      simp [c]
theorem sum_filter (f : Pr → Int) (h : Nat) : ∀ l : Lot, ((l.filter fun q => decide (q.1 = h)).map f).sum = (l.map fun q => if q.1 = h then f q else 0).sum
  | [] => rfl
  | q :: l => by
    by_cases c : q.1 = h
    · rw [List.filter_cons_of_pos (by simpa using c), List.map_cons, List.map_cons, List.sum_cons, List.sum_cons, sum_filter f h l, if_pos c]
    · rw [List.filter_cons_of_neg (by simpa using c), List.map_cons, List.sum_cons, sum_filter f h l, if_neg c]
      omega
/-- the pairs of one hour, as of a single hour -/
def atH (h : Nat) (l : Lot) : Lot := (l.filter fun q => decide (q.1 = h)).map fun q => (0, q.2)
theorem needs_apart {k : Sk} {l : Lot} (hl : ∀ q ∈ l, q.1 < k.clk.length) : ((List.range k.clk.length).map fun h => needs (plOf (part k (k.clk.getD h []))) (atH h l)).sum = needs (plOf k) l := by
  have e : ∀ h, h < k.clk.length → needs (plOf (part k (k.clk.getD h []))) (atH h l) = (l.map fun q => if q.1 = h then lesson (plOf k) q else 0).sum := fun h hh => by
    rw [← sum_filter]
    unfold needs atH
    rw [List.map_map]
    congr 1
    refine List.map_congr_left fun q hq => ?_
    have hq1 : q.1 = h := of_decide_eq_true (List.mem_filter.mp hq).2
    show lesson _ (0, q.2) = lesson _ q
    unfold lesson
    have e1 : (plOf k).hrs[q.1]? = some (hrOf (k.clk.getD h [])) := by
      show (k.clk.map hrOf)[q.1]? = _
      rw [List.getElem?_map, hq1, List.getElem?_eq_getElem hh]
      simp [List.getD_eq_getElem?_getD, hh]
    have e2 : (plOf (part k (k.clk.getD h []))).hrs.getD 0 default = hrOf (k.clk.getD h []) := rfl
    have e3 : (plOf k).hrs.getD q.1 default = hrOf (k.clk.getD h []) := by rw [List.getD_eq_getElem?_getD, e1]; rfl
    rw [e3]
    rfl
  rw [List.map_congr_left (g := fun h => (l.map fun q => if q.1 = h then lesson (plOf k) q else 0).sum) fun h hh => e h (List.mem_range.mp hh)]
  rw [← sum_swap (fun q h => if q.1 = h then lesson (plOf k) q else 0) (List.range k.clk.length) l]
  unfold needs
  congr 1
  exact List.map_congr_left fun q hq => sum_pick _ _ _ (hl q hq)
theorem weight_part {kd : Kd} (hm : 1 ≤ kd.mst) (h : Nat) (l : Lot) : weight kd (atH h l) = if (∃ q ∈ l, q.2 ∈ kd.gv ∧ q.1 = h) then 1 else 0 := by
  have mem : ∀ x, x ∈ hset kd.gv (atH h l) ↔ (∃ q ∈ l, q.2 ∈ kd.gv ∧ q.1 = h) ∧ x = 0 := fun x => by
    rw [hset_mem]
    unfold atH
    constructor
    · rintro ⟨q, hq, hg, rfl⟩
      obtain ⟨q', hq', rfl⟩ := List.mem_map.mp hq
      obtain ⟨h1, h2⟩ := List.mem_filter.mp hq'
      exact ⟨⟨q', h1, hg, of_decide_eq_true h2⟩, rfl⟩
    · rintro ⟨⟨q, hq, hg, e⟩, rfl⟩
      exact ⟨(0, q.2), List.mem_map.mpr ⟨q, List.mem_filter.mpr ⟨hq, decide_eq_true e⟩, rfl⟩, hg, rfl⟩
  have nd := hset_nodup kd.gv (atH h l)
  unfold weight
  split
  · rename_i c
    have h1 : (hset kd.gv (atH h l)).length ≤ [(0 : Int)].length := nodup_len nd fun x hx => by simp [((mem x).mp hx).2]
    have h2 : [(0 : Int)].length ≤ (hset kd.gv (atH h l)).length := nodup_len (by simp) fun x hx => by
      simp at hx
      exact (mem x).mpr ⟨c, hx⟩
    simp at h1 h2
    omega
  · rename_i c
    have : hset kd.gv (atH h l) = [] := by
      cases hh : hset kd.gv (atH h l) with
      | nil => rfl
      | cons x xs => exact absurd ((mem x).mp (by rw [hh]; exact .head _)).1 c
    rw [this]
    simp
    omega
theorem count_hours (P : Nat → Prop) [DecidablePred P] : ∀ (n : Nat), ((List.range n).map fun h => if P h then (1 : Int) else 0).sum = (((List.range n).filter fun h => decide (P h)).length : Int)
  | 0 => rfl
  | n + 1 => by
    rw [List.range_succ, List.map_append, List.sum_append, count_hours P n, List.filter_append, List.length_append]
    by_cases c : P n <;> simp [c]
theorem weight_apart {k : Sk} {kd : Kd} (h1 : 1 ≤ kd.mst) (hm : (k.clk.length : Int) ≤ kd.mst) {l : Lot} (hl : ∀ q ∈ l, q.1 < k.clk.length) : ((List.range k.clk.length).map fun h => weight kd (atH h l)).sum = weight kd l := by
  rw [List.map_congr_left (g := fun h => if (∃ q ∈ l, q.2 ∈ kd.gv ∧ q.1 = h) then 1 else 0) fun h _ => weight_part h1 h l]
  rw [count_hours]
  have nd := hset_nodup kd.gv l
  have nd2 : (((List.range k.clk.length).filter fun h => decide (∃ q ∈ l, q.2 ∈ kd.gv ∧ q.1 = h)).map fun h : Nat => (h : Int)).Nodup := by
    have n1 : ((List.range k.clk.length).filter fun h => decide (∃ q ∈ l, q.2 ∈ kd.gv ∧ q.1 = h)).Nodup := List.nodup_range.sublist List.filter_sublist
    rw [List.Nodup, List.pairwise_map]
    exact n1.imp fun h e => h (by omega)
  have a := nodup_len nd2 (ys := hset kd.gv l) fun x hx => by
    obtain ⟨h, hh, rfl⟩ := List.mem_map.mp hx
    obtain ⟨q, hq, hg, e⟩ := of_decide_eq_true (List.mem_filter.mp hh).2
    exact hset_mem.mpr ⟨q, hq, hg, by rw [e]⟩
  have b := nodup_len nd (ys := ((List.range k.clk.length).filter fun h => decide (∃ q ∈ l, q.2 ∈ kd.gv ∧ q.1 = h)).map fun h : Nat => (h : Int)) fun x hx => by
    obtain ⟨q, hq, hg, e⟩ := hset_mem.mp hx
    exact List.mem_map.mpr ⟨q.1, List.mem_filter.mpr ⟨List.mem_range.mpr (hl q hq), decide_eq_true ⟨q, hq, hg, rfl⟩⟩, e⟩
  rw [List.length_map] at a b
  have c := List.length_filter_le (fun h => decide (∃ q ∈ l, q.2 ∈ kd.gv ∧ q.1 = h)) (List.range k.clk.length)
  rw [List.length_range] at c
  unfold weight
  omega
theorem there_apart {k : Sk} (ok : PlOk (plOf k)) (hm : ∀ s ∈ k.srt, (k.clk.length : Int) ≤ s.mst) (aw : List Int) {l : Lot} (hl : ∀ q ∈ l, q.1 < k.clk.length) : ((List.range k.clk.length).map fun h => there (plOf k).kds aw (atH h l)).sum = there (plOf k).kds aw l := by
  unfold there
  rw [sum_swap (fun h (q : Kd × Int) => (q.1.num - q.2) * weight q.1 (atH h l)) ((plOf k).kds.zip aw) (List.range k.clk.length)]
  congr 1
  refine List.map_congr_left fun q hq => ?_
  have hk := (List.of_mem_zip (a := q.1) (b := q.2) hq).1
  obtain ⟨s, hs, e⟩ := List.mem_map.mp (show q.1 ∈ k.srt.map kdOf from hk)
  have h1 := (ok.ko q.1 hk).m0
  have h2 : (k.clk.length : Int) ≤ q.1.mst := by rw [← e]; exact hm s hs
  have mul : ∀ (c : Int) (f : Nat → Int) (ns : List Nat), (ns.map fun h => c * f h).sum = c * (ns.map f).sum := fun c f ns => by
    induction ns with
    | nil => simp
    | cons n ns ih => rw [List.map_cons, List.map_cons, List.sum_cons, List.sum_cons, ih, Int.mul_add]
  rw [mul, weight_apart h1 h2 hl]
theorem margin_apart {k : Sk} (ok : PlOk (plOf k)) (hm : ∀ s ∈ k.srt, (k.clk.length : Int) ≤ s.mst) (aw : List Int) {l : Lot} (hl : ∀ q ∈ l, q.1 < k.clk.length) : ((List.range k.clk.length).map fun h => margin (plOf (part k (k.clk.getD h []))) aw (atH h l)).sum = margin (plOf k) aw l := by
  unfold margin
  rw [← there_apart ok hm aw hl, ← needs_apart hl]
  have sub : ∀ (f g : Nat → Int) (ns : List Nat), (ns.map fun h => f h - g h).sum = (ns.map f).sum - (ns.map g).sum := fun f g ns => by
    induction ns with
    | nil => rfl
    | cons n ns ih => rw [List.map_cons, List.map_cons, List.map_cons, List.sum_cons, List.sum_cons, List.sum_cons, ih]; omega
  rw [← sub]
  rfl
theorem sum_neg {f : Nat → Int} : ∀ {ns : List Nat}, (ns.map f).sum < 0 → ∃ n ∈ ns, f n < 0
  | [], h => by simp at h
  | n :: ns, h => by
    by_cases c : f n < 0
    · exact ⟨n, .head _, c⟩
    · rw [List.map_cons, List.sum_cons] at h
      obtain ⟨m, hm, h2⟩ := sum_neg (f := f) (ns := ns) (by omega)
      exact ⟨m, .tail _ hm, h2⟩
theorem margin_nil {p : Pl} (ok : PlOk p) (aw : List Int) : margin p aw [] = 0 := by
  have w : ∀ kd ∈ p.kds, weight kd [] = 0 := fun kd hk => by
    have := (ok.ko kd hk).m0
    unfold weight hset dd
    simp
    omega
  have t : ∀ zs : List (Kd × Int), (∀ q ∈ zs, q.1 ∈ p.kds) → (zs.map fun q => (q.1.num - q.2) * weight q.1 []).sum = 0 := fun zs => by
    induction zs with
    | nil => intro _; rfl
    | cons z zs ih =>
      intro h
      rw [List.map_cons, List.sum_cons, ih fun q hq => h q (.tail _ hq), w z.1 (h z (.head _))]
      simp
  unfold margin there needs
  rw [t _ fun q hq => (List.of_mem_zip hq).1]
  rfl
theorem bad_apart {k : Sk} (ok : PlOk (plOf k)) (hm : ∀ s ∈ k.srt, (k.clk.length : Int) ≤ s.mst) (aw : List Int) : Bad (plOf k) aw ↔ ∃ r ∈ k.clk, Bad (plOf (part k r)) aw := by
  have hlen : (plOf k).hrs.length = k.clk.length := by show (k.clk.map hrOf).length = _; simp
  constructor
  · rintro ⟨l, v, h⟩
    have hl : ∀ q ∈ l, q.1 < k.clk.length := fun q hq => hlen ▸ (v.mem q hq).1
    rw [← margin_apart ok hm aw hl] at h
    obtain ⟨n, hn, h2⟩ := sum_neg h
    have hn := List.mem_range.mp hn
    refine ⟨k.clk.getD n [], by simp [List.getD_eq_getElem?_getD, hn], atH n l, ⟨?_, fun q hq => ?_⟩, h2⟩
    · unfold atH
      have n1 : (l.filter fun q => decide (q.1 = n)).Nodup := v.nd.sublist List.filter_sublist
      rw [List.Nodup, List.pairwise_map]
      refine List.Pairwise.imp_of_mem ?_ n1
      intro a b ha hb hne e
      have ha1 : a.1 = n := of_decide_eq_true (List.mem_filter.mp ha).2
      have hb1 : b.1 = n := of_decide_eq_true (List.mem_filter.mp hb).2
      injection e with _ e2
      exact hne (Prod.ext (by rw [ha1, hb1]) e2)
    · unfold atH at hq
      obtain ⟨q', hq', rfl⟩ := List.mem_map.mp hq
      exact ⟨by show 0 < 1; omega, (v.mem q' (List.mem_filter.mp hq').1).2⟩
  · rintro ⟨r, hr, l, v, h⟩
    obtain ⟨n, hn⟩ := List.mem_iff_getElem?.mp hr
    have nl : n < k.clk.length := (List.getElem?_eq_some_iff.mp hn).1
    have l0 : ∀ q ∈ l, q.1 = 0 := fun q hq => by
      have h : q.1 < 1 := (v.mem q hq).1
      omega
    have er : k.clk.getD n [] = r := by simp [List.getD_eq_getElem?_getD, hn]
    have hl2 : ∀ q ∈ (l.map fun q => ((n, q.2) : Pr)), q.1 < k.clk.length := fun q hq => by
      obtain ⟨q', _, rfl⟩ := List.mem_map.mp hq
      exact nl
    have e1 : atH n (l.map fun q => ((n, q.2) : Pr)) = l := by
      unfold atH
      rw [List.filter_eq_self.mpr fun q hq => by
        obtain ⟨q', _, rfl⟩ := List.mem_map.mp hq
        exact decide_eq_true rfl, List.map_map]
      refine (List.map_congr_left fun q hq => ?_).trans (List.map_id l)
      show (0, q.2) = q
      rw [← l0 q hq]
    have e2 : ∀ m, ¬ n = m → atH m (l.map fun q => ((n, q.2) : Pr)) = [] := fun m hne => by
      unfold atH
      rw [List.filter_eq_nil_iff.mpr fun q hq => by
        obtain ⟨q', _, rfl⟩ := List.mem_map.mp hq
        simp [hne]]
      rfl
    refine ⟨l.map fun q => (n, q.2), ⟨?_, fun q hq => ?_⟩, ?_⟩
    · rw [List.Nodup, List.pairwise_map]
      refine List.Pairwise.imp_of_mem ?_ v.nd
      intro a b ha hb hne e
      injection e with _ e2
      exact hne (Prod.ext (by rw [l0 a ha, l0 b hb]) e2)
    · refine ⟨by rw [hlen]; exact hl2 q hq, ?_⟩
      obtain ⟨q', hq', rfl⟩ := List.mem_map.mp hq
      exact (v.mem q' hq').2
    · rw [← margin_apart ok hm aw hl2]
      rw [List.map_congr_left (g := fun m => if n = m then margin (plOf (part k r)) aw l else 0) fun m hm2 => ?_, sum_pick _ _ _ nl]
      · exact h
      · have ml := List.mem_range.mp hm2
        by_cases c : n = m
        · subst c
          rw [er, e1]
          simp
        · rw [e2 m c, if_neg c]
          exact margin_nil (part_ok ok (by simp [List.getD_eq_getElem?_getD, ml])) aw
theorem wsd_part {k : Sk} {r : List Int} {aw : List Int} : Wsd (plOf (part k r)) [] aw ↔ Wsd (plOf k) [] aw := ⟨fun w => ⟨w.len, w.bd⟩, fun w => ⟨w.len, w.bd⟩⟩
theorem rank_top {p : Pl} (ok : PlOk p) : rankI p ≤ 10000000000000000000000000000000000000000 := by
  unfold rankI
  cases hw : weakest p with
  | none => exact Int.le_refl _
  | some f =>
    obtain ⟨s, l⟩ := f
    have := weak_small ok hw
    show s - 1 ≤ _
    omega
theorem rank_lt {p : Pl} (ok : PlOk p) {z : Int} (hz : z ≤ 10000000000000000000000000000000000000000) : rankI p < z ↔ ∃ aw, Wsd p [] aw ∧ aw.sum ≤ z ∧ Bad p aw := by
  rw [← weak_iff ok]
  unfold rankI
  cases hw : weakest p with
  | none =>
    constructor
    · intro h
      have h : 10000000000000000000000000000000000000000 < z := h
      omega
    · rintro ⟨s, l, h, _⟩
      cases h
  | some f =>
    obtain ⟨s, l⟩ := f
    constructor
    · intro h
      have h : s - 1 < z := h
      exact ⟨s, l, rfl, by omega⟩
    · rintro ⟨s', l', h, h2⟩
      cases h
      show s - 1 < z
      omega
theorem rank_apart {k : Sk} (ok : PlOk (plOf k)) (hm : ∀ s ∈ k.srt, (k.clk.length : Int) ≤ s.mst) : (∀ r ∈ k.clk, rankI (plOf k) ≤ rankI (plOf (part k r))) ∧ ∃ r ∈ k.clk, rankI (plOf (part k r)) = rankI (plOf k) := by
  have h1 : ∀ r ∈ k.clk, rankI (plOf k) ≤ rankI (plOf (part k r)) := fun r hr => rank_mono ok (part_ok ok hr) fun aw w b => ⟨aw, wsd_part.mp w, Int.le_refl _, (bad_apart ok hm aw).mpr ⟨r, hr, b⟩⟩
  refine ⟨h1, ?_⟩
  by_cases c : ∃ r ∈ k.clk, rankI (plOf (part k r)) = rankI (plOf k)
  · exact c
  · exfalso
    have lt : ∀ r ∈ k.clk, rankI (plOf k) < rankI (plOf (part k r)) := fun r hr => by
      have := h1 r hr
      have : rankI (plOf (part k r)) ≠ rankI (plOf k) := fun e => c ⟨r, hr, e⟩
      omega
    have hne : ∃ r, r ∈ k.clk := by
      have := ok.h0
      cases hc : k.clk with
      | nil => exact absurd (show (plOf k).hrs = [] by show k.clk.map hrOf = []; rw [hc]; rfl) this
      | cons r rs => exact ⟨r, .head _⟩
    obtain ⟨r0, hr0⟩ := hne
    have t0 := rank_top (part_ok ok hr0)
    have l0 := lt r0 hr0
    obtain ⟨aw, w, hs, hb⟩ := (rank_lt ok (z := rankI (plOf k) + 1) (by omega)).mp (by omega)
    obtain ⟨r, hr, hb2⟩ := (bad_apart ok hm aw).mp hb
    have := (rank_lt (part_ok ok hr) (z := rankI (plOf k) + 1) (by omega)).mpr ⟨aw, wsd_part.mpr w, hs, hb2⟩
    have := lt r hr
    omega
theorem held_apart {k : Sk} (ok : PlOk (plOf k)) (hm : ∀ s ∈ k.srt, (k.clk.length : Int) ≤ s.mst) {aw : List Int} (w : Wsd (plOf k) [] aw) : heldB (plOf k) aw = k.clk.all fun r => heldB (plOf (part k r)) aw := by
  rw [Bool.eq_iff_iff, held_iff ok w, bad_apart ok hm, List.all_eq_true]
  constructor
  · intro h r hr
    rw [held_iff (part_ok ok hr) (wsd_part.mpr w)]
    exact fun b => h ⟨r, hr, b⟩
  · rintro h ⟨r, hr, b⟩
    have := h r hr
    rw [held_iff (part_ok ok hr) (wsd_part.mpr w)] at this
    exact this b
theorem bears_apart {k : Sk} (ok : PlOk (plOf k)) (hm : ∀ s ∈ k.srt, (k.clk.length : Int) ≤ s.mst) {z : Int} (hz : z ≤ 1000000000000000000000000000000) : bearsB (plOf k) z = true ↔ ∀ r ∈ k.clk, bearsB (plOf (part k r)) z = true := by
  obtain ⟨h1, r0, hr0, e0⟩ := rank_apart ok hm
  rw [bears_rank ok z hz, decide_eq_true_iff]
  constructor
  · intro h r hr
    rw [bears_rank (part_ok ok hr) z hz, decide_eq_true_iff]
    have := h1 r hr
    omega
  · intro h
    have := h r0 hr0
    rw [bears_rank (part_ok ok hr0) z hz, decide_eq_true_iff] at this
    omega
theorem spare_apart {k : Sk} (ok : PlOk (plOf k)) (hm : ∀ s ∈ k.srt, (k.clk.length : Int) ≤ s.mst) {i : Nat} {s : Srt} (hi : k.srt[i]? = some s) {z : Int} (hz : numOk z) {d : D} (h : SpareD k i s z d) {f : List Int → D} (hf : ∀ r ∈ k.clk, SpareD (part k r) i s z (f r)) :
    (d = .non ∧ ∃ r ∈ k.clk, f r = .non) ∨ ∃ (m : Int) (g : List Int → Int), d = .int m ∧ (∀ r ∈ k.clk, f r = .int (g r) ∧ m ≤ g r) ∧ ∃ r ∈ k.clk, g r = m := by
  have hmK : ∀ x, ∀ t ∈ (numK k i s x).srt, ((numK k i s x).clk.length : Int) ≤ t.mst := fun x t ht => by
    have ht : t ∈ k.srt.set i { s with num := x } := ht
    rcases List.mem_or_eq_of_mem_set ht with h | rfl
    · exact hm t h
    · exact hm s (List.mem_of_getElem? hi)
  rcases h with ⟨hb, rfl⟩ | ⟨m, rfl, hb, sp⟩
  · refine .inl ⟨rfl, ?_⟩
    by_cases c : ∀ r ∈ k.clk, bearsB (plOf (part k r)) z = true
    · rw [(bears_apart ok hm hz.2).mpr c] at hb
      cases hb
    · have : ∃ r, r ∈ k.clk ∧ ¬ bearsB (plOf (part k r)) z = true := Classical.byContradiction fun h => c fun r hr => Classical.byContradiction fun h2 => h ⟨r, hr, h2⟩
      obtain ⟨r, hr, h2⟩ := this
      rcases hf r hr with ⟨_, e⟩ | ⟨m, _, h3, _⟩
      · exact ⟨r, hr, e⟩
      · exact absurd h3 h2
  · right
    have hp := (bears_apart ok hm hz.2).mp hb
    have each : ∀ r ∈ k.clk, ∃ m', f r = .int m' ∧ SpareIs (part k r) i s z m' := fun r hr => by
      rcases hf r hr with ⟨h2, _⟩ | ⟨m', e, _, h3⟩
      · rw [hp r hr] at h2
        cases h2
      · exact ⟨m', e, h3⟩
    have hg : ∀ r, ∃ m', r ∈ k.clk → f r = .int m' ∧ SpareIs (part k r) i s z m' := fun r => by
      by_cases c : r ∈ k.clk
      · obtain ⟨m', h⟩ := each r c
        exact ⟨m', fun _ => h⟩
      · exact ⟨0, fun h => absurd h c⟩
    obtain ⟨g, hg⟩ := Classical.axiomOfChoice hg
    have n0 := (ok.ko (kdOf s) (List.mem_map_of_mem (List.mem_of_getElem? hi))).num
    have n0 : 0 ≤ s.num ∧ s.num ≤ 1000000000000000000000000000000 := n0
    have s0 := sp.m0
    have s1 := sp.m1
    have okm := numK_ok ok hi (x := s.num - m) ⟨by omega, by omega⟩
    have le : ∀ r ∈ k.clk, m ≤ g r := fun r hr => (hg r hr).2.no m s0 s1 ((bears_apart okm (hmK _) hz.2).mp sp.yes r hr)
    refine ⟨m, g, rfl, fun r hr => ⟨(hg r hr).1, le r hr⟩, ?_⟩
    by_cases c : ∃ r ∈ k.clk, g r = m
    · exact c
    · exfalso
      have lt : ∀ r ∈ k.clk, m + 1 ≤ g r := fun r hr => by
        have := le r hr
        have : g r ≠ m := fun e => c ⟨r, hr, e⟩
        omega
      obtain ⟨r0, hr0⟩ : ∃ r, r ∈ k.clk := by
        have := ok.h0
        cases hc : k.clk with
        | nil => exact absurd (show (plOf k).hrs = [] by show k.clk.map hrOf = []; rw [hc]; rfl) this
        | cons r rs => exact ⟨r, .head _⟩
      have m1 : m + 1 ≤ s.num := by
        have := lt r0 hr0
        have := (hg r0 hr0).2.m1
        omega
      have ok1 := numK_ok ok hi (x := s.num - (m + 1)) ⟨by omega, by omega⟩
      have := sp.no (m + 1) (by omega) m1 ((bears_apart ok1 (hmK _) hz.2).mpr fun r hr => by
        have h2 := (hg r hr).2
        have h3 := lt r hr
        have h4 := h2.m1
        exact bears_mono (part_ok ok hr) hi (x := s.num - g r) (y := s.num - (m + 1)) ⟨by omega, by have := h2.m0; omega⟩ ⟨by omega, by omega⟩ hz.2 (by omega) h2.yes)
      omega
theorem wsum_best {p : Pl} (ok : PlOk p) {l : Lot} {aw : List Int} (w : Wsd p l aw) : wsum (p.kds.map fun k => weight k l) aw ≤ tkw ((byW p l).map (wm p)) aw.sum := by
  have aw0 : ∀ x ∈ aw, 0 ≤ x := fun x hx => by
    obtain ⟨i, hi⟩ := List.mem_iff_getElem?.mp hx
    have hil : i < p.kds.length := by
      rw [← w.len]
      exact (List.getElem?_eq_some_iff.mp hi).1
    exact (w.bd i x p.kds[i] hi (List.getElem?_eq_getElem hil)).1
  have key : ((((byW p l).map (wm p)).zip ((byW p l).map fun q => aw.getD q.2 0)).map fun q => q.2 * q.1.1).sum ≤ tkw ((byW p l).map (wm p)) aw.sum := by
    refine tkw_best ?_ (fun x hx => ⟨Int.le_of_lt (byW_val ok l x hx).1, (byW_val ok l x hx).2⟩) (by simp) (fun q hq => ?_) ?_
    · rw [List.pairwise_map]
      exact (byW_sorted p l).imp fun h => h
    · rw [List.zip_map'] at hq
      obtain ⟨x, hx, rfl⟩ := List.mem_map.mp hq
      obtain ⟨_, k, hk, _⟩ := byW_mem hx
      have hil : x.2 < p.kds.length := (List.getElem?_eq_some_iff.mp hk).1
      have hil2 : x.2 < aw.length := by rw [w.len]; exact hil
      have ha : aw[x.2]? = some aw[x.2] := List.getElem?_eq_getElem hil2
      have := w.bd x.2 _ k ha hk
      simpa [wm, List.getD_eq_getElem?_getD, ha, hk] using this
    · rw [perm_sum ((byW_perm p l).map _)]
      unfold wis
      refine Int.le_trans (sum_filter_le (fun q : Int × Nat => aw.getD q.2 0) _ fun x hx => ?_) ?_
      · by_cases hi : x.2 < aw.length
        · rw [List.getD_eq_getElem?_getD, List.getElem?_eq_getElem hi]
          exact aw0 _ (List.getElem_mem hi)
        · rw [List.getD_eq_getElem?_getD, List.getElem?_eq_none (by omega)]
          exact Int.le_refl _
      · rw [List.map_map]
        have := zipIdx_sum (fun _ a => a) p.kds aw 0 aw (by simp) w.len
        rw [show ((fun q : Int × Nat => aw.getD q.2 0) ∘ fun q : Kd × Nat => (weight q.1 l, q.2)) = fun q : Kd × Nat => aw.getD q.2 0 from rfl, this]
        have e : ((p.kds.zip aw).map fun q => q.2) = aw := by
          have := List.map_snd_zip (l₁ := p.kds) (l₂ := aw) (by rw [w.len]; exact Nat.le_refl _)
          exact this
        rw [e]
        exact Int.le_refl _
  have e2 : ((((byW p l).map (wm p)).zip ((byW p l).map fun q => aw.getD q.2 0)).map fun q => q.2 * q.1.1).sum = wsum (p.kds.map fun k => weight k l) aw := by
    rw [List.zip_map', List.map_map, perm_sum ((byW_perm p l).map _)]
    unfold wis
    rw [sum_filter_eq, List.map_map]
    · have := zipIdx_sum (fun k a => a * weight k l) p.kds aw 0 aw (by simp) w.len
      refine Eq.trans ?_ (this.trans ?_)
      · rfl
      · unfold wsum
        rw [List.zip_map_left, List.map_map]
        congr 1
        refine List.map_congr_left fun q hq => ?_
        exact Int.mul_comm _ _
    · intro x hx hp
      obtain ⟨⟨k, i⟩, hk, rfl⟩ := List.mem_map.mp hx
      have k0 := weight0 (ok.ko k (by
        have := List.mem_map_of_mem (f := Prod.fst) hk
        simpa using this)) l
      simp at hp
      have : weight k l = 0 := by omega
      simp [wm, this]
  rw [← e2]
  exact key
theorem worst_best {p : Pl} (ok : PlOk p) {l : Lot} {aw : List Int} (w : Wsd p l aw) {z : Int} (hs : aw.sum ≤ z) : margin p (worst p l z) l ≤ margin p aw l := by
  have aw0 : 0 ≤ aw.sum := sum_nonneg fun x hx => by
    obtain ⟨i, hi⟩ := List.mem_iff_getElem?.mp hx
    have hil : i < p.kds.length := by
      rw [← w.len]
      exact (List.getElem?_eq_some_iff.mp hi).1
    exact (w.bd i x p.kds[i] hi (List.getElem?_eq_getElem hil)).1
  have h1 := (worst_facts ok l (z := z) (by omega)).2.2
  have h2 := wsum_best ok w
  have h3 := tkw_mono (byW_val ok l) hs
  have h4 := there_nob p.kds l aw w.len
  rw [h1]
  unfold margin nob
  rw [h4]
  unfold nob at h1
  omega
/-- the lots that have a pair -/
def lotsW (ps : List Pr) (q : Pr) : List Lot := (ps.filter fun o => decide (o ≠ q)).foldl (fun f o => f ++ f.map (· ++ [o])) [[q]]
theorem lotsW_snoc (done : List Pr) (q o : Pr) : lotsW (done ++ [o]) q = if o = q then lotsW done q else lotsW done q ++ (lotsW done q).map (· ++ [o]) := by
  unfold lotsW
  by_cases c : o = q
  · simp [c]
  · simp [c]
theorem lotsW_iff {ps : List Pr} {q : Pr} {l : Lot} : l ∈ lotsW ps q ↔ ∃ l2, l2.Sublist (ps.filter fun o => decide (o ≠ q)) ∧ l = q :: l2 := by
  constructor
  · intro h
    obtain ⟨l', hl', l2, rfl, h4⟩ := lots0_sub _ _ h
    rw [List.mem_singleton] at hl'
    subst hl'
    exact ⟨l2, h4, rfl⟩
  · rintro ⟨l2, h, rfl⟩
    exact lots0_all _ [[q]] (l' := [q]) (.head _) h
theorem pNe_pr {o q : Pr} (ho : PyData.strOk o.2 = true) (hq : PyData.strOk q.2 = true) (S : Store) : pNe (prD o) (prD q) S = some (.bl (!decide (o = q))) := by
  rw [pNe_dok 1 1 S (by simp [prD, ho]) (by simp [prD, hq]) (by decide) (by decide)]
  congr 3
  rw [Bool.eq_iff_iff, decide_eq_true_iff]
  rw [eqv_iff (by rw [encD_prD]; rfl) (by rw [encD_prD]; rfl), encD_prD, encD_prD]
  constructor
  · intro h
    injection h with h
    injection h with h1 h
    injection h with h2 _
    injection h1 with h1
    injection h2 with h2
    exact Prod.ext (Int.ofNat_inj.mp h1) h2
  · intro h
    rw [h]
theorem lotsW_ok {p : Pl} (ok : PlOk p) {q : Pr} (h1 : q.1 < p.hrs.length) (h2 : q.2 ∈ p.subs) {l : Lot} (h : l ∈ lotsW (pairs p) q) : LotOk p l ∧ Valid p l ∧ q ∈ l := by
  obtain ⟨l2, hs, rfl⟩ := lotsW_iff.mp h
  have hs2 := hs.trans List.filter_sublist
  have hp9 := pairs_len ok
  have hl := hs2.length_le
  have hm : ∀ o ∈ q :: l2, o.1 < p.hrs.length ∧ o.2 ∈ p.subs := fun o ho => by
    rcases List.mem_cons.mp ho with rfl | ho
    · exact ⟨h1, h2⟩
    · exact pairs_mem (hs2.subset ho)
  have nd : (pairs p).Nodup := by
    unfold pairs
    rw [(List.mergeSort_perm _ _).nodup_iff]
    exact pairs0_nodup ok
  refine ⟨⟨by rw [List.length_cons]; omega, hm⟩, ⟨List.nodup_cons.mpr ⟨fun hq => ?_, nd.sublist hs2⟩, hm⟩, .head _⟩
  have := of_decide_eq_true (List.mem_filter.mp (hs.subset hq)).2
  exact this rfl
/-- more lessons of one pair -/
structure More (p : Pl) (q : Pr) (dv : Int) (p' : Pl) : Prop where
  kds : p'.kds = p.kds
  subs : p'.subs = p.subs
  len : p'.hrs.length = p.hrs.length
  les : ∀ o : Pr, o.1 < p.hrs.length → o.2 ∈ p.subs → lesson p' o = lesson p o + if o = q then dv else 0
theorem More.margin {p p' : Pl} {q : Pr} {dv : Int} (m : More p q dv p') {l : Lot} (v : Valid p l) (aw : List Int) : margin p' aw l = margin p aw l - if q ∈ l then dv else 0 := by
  have e : ∀ l : Lot, l.Nodup → (∀ o ∈ l, o.1 < p.hrs.length ∧ o.2 ∈ p.subs) → needs p' l = needs p l + if q ∈ l then dv else 0 := by
    intro l
    induction l with
    | nil => intro _ _; simp [needs]
    | cons o l ih =>
      intro nd hm
      have h1 := m.les o (hm o (.head _)).1 (hm o (.head _)).2
      have h2 := ih (List.nodup_cons.mp nd).2 fun x hx => hm x (.tail _ hx)
      have h3 := (List.nodup_cons.mp nd).1
      unfold needs at h2 ⊢
      rw [List.map_cons, List.map_cons, List.sum_cons, List.sum_cons, h1, h2]
      by_cases c : o = q
      · subst c
        simp [h3]
        omega
      · have c' : ¬ q = o := fun h => c h.symm
        simp [c, c']
        omega
  unfold HL.margin
  rw [e l v.nd v.mem, m.kds]
  omega
theorem More.valid {p p' : Pl} {q : Pr} {dv : Int} (m : More p q dv p') {l : Lot} : Valid p' l ↔ Valid p l := ⟨fun v => ⟨v.nd, fun o ho => by have := v.mem o ho; rw [m.len, m.subs] at this; exact this⟩, fun v => ⟨v.nd, fun o ho => by have := v.mem o ho; rw [m.len, m.subs]; exact this⟩⟩
theorem More.wsd {p p' : Pl} {q : Pr} {dv : Int} (m : More p q dv p') {l : Lot} {aw : List Int} : Wsd p' l aw ↔ Wsd p l aw := ⟨fun w => ⟨by rw [← m.kds]; exact w.len, by have := w.bd; rw [m.kds] at this; exact this⟩, fun w => ⟨by rw [m.kds]; exact w.len, by rw [m.kds]; exact w.bd⟩⟩
theorem tkc_le : ∀ {xs : List (Int × Int)} {z : Int}, (∀ x ∈ xs, 0 < x.1 ∧ 0 ≤ x.2) → 0 ≤ z → tkc xs z ≤ z
  | [], _, _, h => h
  | (w, m) :: r, z, hx, h => by
    have hm := (hx (w, m) (.head _)).2
    have hm : 0 ≤ m := hm
    have := tkc_le (xs := r) (z := z - min z m) (fun x h => hx x (.tail _ h)) (by omega)
    rw [tkc]
    omega
theorem bears_bad {p : Pl} (ok : PlOk p) {z : Int} (hz : z ≤ 1000000000000000000000000000000) : bearsB p z = false ↔ ∃ aw, Wsd p [] aw ∧ aw.sum ≤ z ∧ Bad p aw := by
  rw [bears_rank ok z hz, ← rank_lt ok (by omega), decide_eq_false_iff_not]
  omega
def roomI (p : Pl) (q : Pr) (z : Int) : Int := minI ((lotsW (pairs p) q).map fun l => HL.margin p (worst p l z) l)
theorem room_less {p p' : Pl} (ok : PlOk p) (ok' : PlOk p') {q : Pr} {dv : Int} (m : More p q dv p') (h1 : q.1 < p.hrs.length) (h2 : q.2 ∈ p.subs) {z : Int} (hz : numOk z) {l : Lot} (hl : l ∈ lotsW (pairs p) q) (hd : HL.margin p (worst p l z) l < dv) : bearsB p' z = false := by
  obtain ⟨_, v, hq⟩ := lotsW_ok ok h1 h2 hl
  obtain ⟨w, e, _⟩ := worst_facts ok l hz.1
  refine (bears_bad ok' hz.2).mpr ⟨worst p l z, m.wsd.mpr ⟨w.len, w.bd⟩, ?_, l, m.valid.mpr v, ?_⟩
  · rw [e]
    exact tkc_le (byW_val ok l) hz.1
  · rw [m.margin v, if_pos hq]
    omega
theorem room_more {p p' : Pl} (ok : PlOk p) (ok' : PlOk p') {q : Pr} {dv : Int} (m : More p q dv p') {z : Int} (hz : numOk z) (hb : bearsB p z = true) (hd : ∀ l ∈ lotsW (pairs p) q, dv ≤ HL.margin p (worst p l z) l) : bearsB p' z = true := by
  cases hb' : bearsB p' z with
  | true => rfl
  | false =>
    exfalso
    obtain ⟨aw, w', hs, l, v', hm⟩ := (bears_bad ok' hz.2).mp hb'
    have w := m.wsd.mp w'
    have v := m.valid.mp v'
    rw [m.margin v] at hm
    by_cases c : q ∈ l
    · rw [if_pos c] at hm
      have nn := w.num ok
      have h1 : HL.margin p aw (l.filter fun o => decide (o = q ∨ 0 < lesson p o)) ≤ HL.margin p aw l := by
        unfold HL.margin
        have e : needs p (l.filter fun o => decide (o = q ∨ 0 < lesson p o)) = needs p l := by
          unfold needs
          refine sum_filter_eq _ _ fun o ho h => ?_
          have := lesson0 ok (v.mem o ho).1 (v.mem o ho).2
          simp at h
          omega
        have := there_mono (ks := p.kds) (aw := aw) (l := l) (l' := l.filter fun o => decide (o = q ∨ 0 < lesson p o)) nn fun k hk => weight_mono (Int.le_refl _) fun o ho hg => ⟨o, (List.mem_filter.mp ho).1, hg, rfl⟩
        omega
      have nd : (pairs p).Nodup := by
        unfold pairs
        rw [(List.mergeSort_perm _ _).nodup_iff]
        exact pairs0_nodup ok
      have hperm : (q :: ((pairs p).filter fun o => decide (o ≠ q)).filter fun o => decide (o ∈ l)).Perm (l.filter fun o => decide (o = q ∨ 0 < lesson p o)) := by
        refine (List.perm_ext_iff_of_nodup (List.nodup_cons.mpr ⟨fun h => ?_, (nd.sublist List.filter_sublist).sublist List.filter_sublist⟩) (v.nd.sublist List.filter_sublist)).mpr fun o => ?_
        · have := of_decide_eq_true (List.mem_filter.mp (List.mem_filter.mp h).1).2
          exact this rfl
        · rw [List.mem_cons, List.mem_filter, List.mem_filter, List.mem_filter]
          unfold pairs
          rw [List.mem_mergeSort, pairs0_iff ok]
          simp
          constructor
          · rintro (rfl | ⟨⟨⟨a, b, c⟩, e⟩, f⟩)
            · exact ⟨c, .inl rfl⟩
            · exact ⟨f, .inr c⟩
          · rintro ⟨a, b⟩
            by_cases e : o = q
            · exact .inl e
            · rcases b with b | b
              · exact absurd b e
              · exact .inr ⟨⟨⟨(v.mem o a).1, (v.mem o a).2, b⟩, e⟩, a⟩
      have hin : (q :: ((pairs p).filter fun o => decide (o ≠ q)).filter fun o => decide (o ∈ l)) ∈ lotsW (pairs p) q := lotsW_iff.mpr ⟨_, List.filter_sublist, rfl⟩
      have h3 := hd _ hin
      have h4 := worst_best ok (l := q :: ((pairs p).filter fun o => decide (o ≠ q)).filter fun o => decide (o ∈ l)) (aw := aw) ⟨w.len, w.bd⟩ hs
      have h5 := margin_perm (p := p) (aw := aw) hperm
      omega
    · rw [if_neg c] at hm
      have : bearsB p z = false := (bears_bad ok hz.2).mpr ⟨aw, w, hs, l, v, by omega⟩
      rw [this] at hb
      cases hb
theorem more_set {k : Sk} (ok : PlOk (plOf k)) {h j : Nat} {row : List Int} {v : Int} {w : Str} (hh : k.clk[h]? = some row) (hj : row[j]? = some v) (hw : k.tops[j]? = some w) (dv : Int) : More (plOf k) (h, w) dv (plOf (setC k h (row.set j (v + dv)))) := by
  have hl : h < k.clk.length := (List.getElem?_eq_some_iff.mp hh).1
  have jl : j < row.length := (List.getElem?_eq_some_iff.mp hj).1
  have fj : k.tops.findIdx (· == w) = j := find_nodup ok.sn hw
  refine ⟨rfl, rfl, by rw [setC_hrs, List.length_set], fun o h1 h2 => ?_⟩
  unfold lesson
  rw [setC_hrs]
  show (((k.clk.map hrOf).set h (hrOf (row.set j (v + dv)))).getD o.1 default).ns.getD (k.tops.findIdx (· == o.2)) 0 = ((k.clk.map hrOf).getD o.1 default).ns.getD (k.tops.findIdx (· == o.2)) 0 + _
  by_cases e : h = o.1
  · have e1 : (k.clk.map hrOf).getD o.1 default = hrOf row := by rw [← e]; simp [List.getD_eq_getElem?_getD, hh]
    have e2 : ((k.clk.map hrOf).set h (hrOf (row.set j (v + dv)))).getD o.1 default = hrOf (row.set j (v + dv)) := by rw [← e]; simp [List.getD_eq_getElem?_getD, hl]
    rw [e1, e2]
    show (row.set j (v + dv)).getD _ 0 = row.getD _ 0 + _
    by_cases c : o = (h, w)
    · have ej : row[j] = v := (List.getElem?_eq_some_iff.mp hj).2
      rw [if_pos c, c]
      dsimp only
      rw [fj]
      simp [List.getD_eq_getElem?_getD, jl, ej]
    · rw [if_neg c]
      have c2 : ¬ o.2 = w := fun h => c (Prod.ext e.symm h)
      have e3 : ¬ j = k.tops.findIdx (· == o.2) := fun e3 => by
        obtain ⟨i, hi⟩ := List.mem_iff_getElem?.mp (show o.2 ∈ k.tops from h2)
        have e4 : k.tops.findIdx (· == o.2) = i := find_nodup ok.sn hi
        rw [e4] at e3
        rw [e3, hi] at hw
        cases hw
        exact c2 rfl
      simp [List.getD_eq_getElem?_getD, List.getElem?_set_ne e3]
  · have c : ¬ o = (h, w) := fun c => e (by rw [c])
    rw [if_neg c]
    simp [List.getD_eq_getElem?_getD, List.getElem?_set_ne e]
theorem more_ok {k : Sk} (ok : PlOk (plOf k)) {h j : Nat} {row : List Int} {v : Int} (hh : k.clk[h]? = some row) (hj : row[j]? = some v) {dv : Int} (hd : 0 ≤ dv) : PlOk (plOf (setC k h (row.set j (v + dv)))) := (fuller_rank ok hh hj hd).1
/-- a new sketch, not frozen yet -/
structure SkNew (S S' : Store) (n : Nat) (k : Sk) : Prop where
  cup : CupOk S' n
  len : S'.length = S.length + 2
  srt : S'[S.length]? = some (.lst (k.srt.map srtD))
  all : S'[S.length + 1]? = some (.lst [.lst (k.tops.map .str), .lst (k.clk.map rowD), .loc S.length])
  old : ∀ i, i ≠ n → i < S.length → S'[i]? = S[i]?
/-- with so many kinds at most -/
def cutS (k : Sk) (c : Nat) : Sk := ⟨k.tops, k.clk, k.srt.take c⟩
theorem cutS_ok {k : Sk} {b : Bool} (ok : SkOk b k) {c : Nat} (hc : 0 < c) : SkOk b (cutS k c) where
  t0 := ok.t0
  t1 := ok.t1
  tn := ok.tn
  tm := ok.tm
  c0 := ok.c0
  c1 := ok.c1
  cl := ok.cl
  cv := ok.cv
  cs := ok.cs
  s0 := by
    have := ok.s0
    show 1 ≤ (k.srt.take c).length
    rw [List.length_take]
    omega
  s1 := by
    have := ok.s1
    show (k.srt.take c).length ≤ 4
    rw [List.length_take]
    omega
  s2 := fun h => by
    have := ok.s2 h
    show (k.srt.take c).length ≤ 3
    rw [List.length_take]
    omega
  sn := by
    have := ok.sn
    show ((k.srt.take c).map Srt.nm).Nodup
    exact this.sublist ((List.take_sublist c k.srt).map _)
  so := fun s hs => ok.so s (List.mem_of_mem_take hs)
/-- what is left when the third place was set, frozen -/
theorem skNew_frz {S S' : Store} {n : Nat} {k : Sk} (h : SkNew S S' n k) (hn : n < S.length) (c : Nat) :
    Pres S (S'.set (S.length + 1) (.lst [.lst (k.tops.map .str), .lst (k.clk.map rowD), .lst ((k.srt.take c).map srtD)])) ∧
    frz S.length (S'.set (S.length + 1) (.lst [.lst (k.tops.map .str), .lst (k.clk.map rowD), .lst ((k.srt.take c).map srtD)])) 9 (.loc (S.length + 1)) = some (skD (cutS k c)) ∧
    Drew n S ((S'.set (S.length + 1) (.lst [.lst (k.tops.map .str), .lst (k.clk.map rowD), .lst ((k.srt.take c).map srtD)])).take S.length) := by
  have hl := h.len
  obtain ⟨a, m, z, h2, r⟩ := h.cup
  have hnn : n ≠ S.length + 1 := by omega
  refine ⟨⟨by rw [List.length_set]; omega, fun i o hi e => ?_⟩, ?_, ?_⟩
  · rw [List.getElem?_set_ne (by omega)] at e
    by_cases e2 : i = n
    · subst e2
      rw [h2] at e
      cases e
      exact .inr rfl
    · exact .inl (by rw [← h.old i e2 hi]; exact e)
  · exact frz_loc (by rw [List.getElem?_set_self (by omega)]; rfl) (by omega) (by simp [noLocs, noLoc])
  · refine ⟨⟨a, m, z, by rw [List.getElem?_take_of_lt hn, List.getElem?_set_ne (by omega)]; exact h2, r⟩, by rw [List.length_take, List.length_set]; omega, fun i hi => ?_⟩
    by_cases hi2 : i < S.length
    · rw [List.getElem?_take_of_lt hi2, List.getElem?_set_ne (by omega)]
      exact h.old i hi hi2
    · rw [List.getElem?_eq_none (by rw [List.length_take, List.length_set]; omega), List.getElem?_eq_none (by omega)]
def abStep (f : List (List Int)) (m : Int) : List (List Int) := f.flatMap fun g => (List.range (m + 1).toNat).map fun (j : Nat) => g ++ [(j : Int)]
def absF (ms : List Int) : List (List Int) := ms.foldl abStep [[]]
theorem absF_snoc (ms : List Int) (m : Int) : absF (ms ++ [m]) = abStep (absF ms) m := by
  unfold absF
  rw [List.foldl_append]
  rfl
theorem within_nil {aw : List Int} : Within [] aw ↔ aw = [] := by
  constructor
  · rintro ⟨h, _⟩
    exact List.eq_nil_of_length_eq_zero h
  · rintro rfl
    exact ⟨rfl, fun i a m h => by simp at h⟩
theorem within_cons {m : Int} {ms aw : List Int} : Within (m :: ms) aw ↔ ∃ a t, aw = a :: t ∧ 0 ≤ a ∧ a ≤ m ∧ Within ms t := by
  constructor
  · rintro ⟨h, hb⟩
    cases aw with
    | nil => simp at h
    | cons a t =>
      have h0 := hb 0 a m rfl rfl
      exact ⟨a, t, rfl, h0.1, h0.2, by simpa using h, fun i x y hx hy => hb (i + 1) x y (by simpa using hx) (by simpa using hy)⟩
  · rintro ⟨a, t, rfl, a0, a1, h, hb⟩
    refine ⟨by simp [h], fun i x y hx hy => ?_⟩
    cases i with
    | zero =>
      simp at hx hy
      subst hx hy
      exact ⟨a0, a1⟩
    | succ i => exact hb i x y (by simpa using hx) (by simpa using hy)
theorem abs_mem : ∀ (ms : List Int) (f : List (List Int)) (aw : List Int), aw ∈ ms.foldl abStep f ↔ ∃ g ∈ f, ∃ t, aw = g ++ t ∧ Within ms t
  | [], f, aw => by
    constructor
    · intro h
      exact ⟨aw, h, [], by simp, within_nil.mpr rfl⟩
    · rintro ⟨g, hg, t, rfl, ht⟩
      rw [within_nil.mp ht, List.append_nil]
      exact hg
  | m :: ms, f, aw => by
    rw [List.foldl_cons, abs_mem ms]
    constructor
    · rintro ⟨g, hg, t, rfl, ht⟩
      unfold abStep at hg
      obtain ⟨g0, h0, hj⟩ := List.mem_flatMap.mp hg
      obtain ⟨j, hj2, rfl⟩ := List.mem_map.mp hj
      rw [List.mem_range] at hj2
      exact ⟨g0, h0, (j : Int) :: t, by simp, within_cons.mpr ⟨j, t, rfl, by omega, by omega, ht⟩⟩
    · rintro ⟨g, hg, t, rfl, ht⟩
      obtain ⟨a, t, rfl, a0, a1, ht⟩ := within_cons.mp ht
      refine ⟨g ++ [a], ?_, t, by simp, ht⟩
      unfold abStep
      refine List.mem_flatMap.mpr ⟨g, hg, List.mem_map.mpr ⟨a.toNat, List.mem_range.mpr (by omega), ?_⟩⟩
      rw [show ((a.toNat : Nat) : Int) = a by omega]
theorem absF_mem {ms aw : List Int} : aw ∈ absF ms ↔ Within ms aw := by
  unfold absF
  rw [abs_mem]
  constructor
  · rintro ⟨g, hg, t, rfl, ht⟩
    rw [List.mem_singleton] at hg
    subst hg
    exact ht
  · intro h
    exact ⟨[], by simp, aw, rfl, h⟩
theorem abStep_len {f : List (List Int)} {m : Int} {M : Nat} (h : m < (M : Int)) : (abStep f m).length ≤ f.length * M := by
  unfold abStep
  refine flat_len (n := M) (fun g => ?_) f
  rw [List.length_map, List.length_range]
  omega
theorem abs_len {M : Nat} : ∀ (ms : List Int) (f : List (List Int)), (∀ m ∈ ms, m < (M : Int)) → (ms.foldl abStep f).length ≤ f.length * M ^ ms.length
  | [], f, _ => by simp
  | m :: ms, f, h => by
    rw [List.foldl_cons, List.length_cons, Nat.pow_succ]
    refine Nat.le_trans (abs_len ms _ fun x hx => h x (.tail _ hx)) ?_
    rw [Nat.mul_comm (M ^ ms.length) M, ← Nat.mul_assoc]
    exact Nat.mul_le_mul_right _ (abStep_len (h m (.head _)))
theorem absF_len {M : Nat} {ms : List Int} (h : ∀ m ∈ ms, m < (M : Int)) : (absF ms).length ≤ M ^ ms.length := by
  have := abs_len ms [[]] h
  unfold absF
  simpa using this
def illsK (k : Sk) : List Int := k.srt.map fun s => illOf (kdOf s)
theorem wsd_within {k : Sk} {aw : List Int} : Wsd (plOf k) [] aw ↔ Within (illsK k) aw := by
  constructor
  · intro w
    refine ⟨?_, fun i a m h1 h2 => ?_⟩
    · rw [w.len]
      show (k.srt.map kdOf).length = _
      unfold illsK
      simp
    · unfold illsK at h2
      rw [List.getElem?_map] at h2
      obtain ⟨s, hs, rfl⟩ := Option.map_eq_some_iff.mp h2
      exact w.bd i a (kdOf s) h1 (by show (k.srt.map kdOf)[i]? = _; rw [List.getElem?_map, hs]; rfl)
  · exact Within.wsd
structure AbInv (k : Sk) (S : Store) (zs : List Srt) (ls : L) (S' : Store) : Prop where
  ex : ∃ (done : List Srt) (o2 o3 o4 o5 : Option D), done ++ zs = k.srt ∧ ls = [some (skD k), some (.lst ((absF (done.map fun s => illOf (kdOf s))).map (awD false))), o2, o3, o4, o5] ∧ S' = S
structure AiInv (k : Sk) (s : Srt) (f : List (List Int)) (S : Store) (zs : List (List Int)) (ls : L) (S' : Store) : Prop where
  ex : ∃ (done : List (List Int)) (o4 o5 : Option D), done ++ zs = f ∧ ls = [some (skD k), some (.lst (f.map (awD false))), some (srtD s), some (.lst ((abStep done (illOf (kdOf s))).map (awD false))), o4, o5] ∧ S' = S
def AbEnd (k : Sk) (S : Store) (r : Fl) : Prop := ∃ o2 o3 o4 o5, r = .nx [some (skD k), some (.lst ((absF (illsK k)).map (awD false))), o2, o3, o4, o5] S
def AiEnd (k : Sk) (s : Srt) (f : List (List Int)) (S : Store) (r : Fl) : Prop := ∃ o4 o5, r = .nx [some (skD k), some (.lst (f.map (awD false))), some (srtD s), some (.lst ((abStep f (illOf (kdOf s))).map (awD false))), o4, o5] S
theorem abStep_snoc (f : List (List Int)) (g : List Int) (m : Int) : abStep (f ++ [g]) m = abStep f m ++ (List.range (m + 1).toNat).map fun (j : Nat) => g ++ [(j : Int)] := by
  unfold abStep
  rw [List.flatMap_append]
  simp
/-- sorted whole numbers -/
def ltI (a b : Int) : Bool := PySem.W.dataLe false encD (.int a) (.int b)
theorem ltI_le {a b : Int} (h : ltI a b = true) : a ≤ b := by
  by_cases c : b < a
  · exfalso
    have e : PyProof.Rows.lexLt PyProof.Rows.itemOrd (PySem.W.keyToks (.int b)) (PySem.W.keyToks (.int a)) = true := by
      simp [PySem.W.keyToks, PyProof.Rows.lexLt, PyProof.Rows.itemLt, c]
    have h' : (!(PyProof.Rows.lexLt PyProof.Rows.itemOrd (PySem.W.keyToks (.int b)) (PySem.W.keyToks (.int a)))) = true := h
    rw [e] at h'
    cases h'
  · omega
def sortI (xs : List Int) : List Int := xs.mergeSort ltI
theorem sortI_sorted (xs : List Int) : (sortI xs).Pairwise fun a b => a ≤ b := by
  unfold sortI
  refine (PySem.W.sort_pairwise (le := ltI) ?_ _).imp fun h => ltI_le h
  exact PySem.W.sortLe_total (PyProof.Rows.listOrd PyProof.Rows.itemOrd) false fun b => PySem.W.keyToks (encD (.int b))
open Classical in
theorem sorted_ints {xs : List Int} (hl : xs.length ≤ 16777216) {d : D} {S : Store} (hd : seqL d S = some (xs.map .int)) : pSorted false [d] S = some (.lst ((sortI xs).map .int)) := by
  unfold pSorted
  dsimp only
  rw [hd]
  have cs : CanSort (xs.map D.int) := by
    refine ⟨fun d hd => ?_, fun a ha b hb => ?_, .inr fun d hd => ?_, by rw [sizeLine_eq, List.length_map]; exact hl, fun d hd => ?_⟩
    · obtain ⟨q, hq, rfl⟩ := List.mem_map.mp hd
      exact ⟨_, rfl⟩
    · rw [List.map_map] at ha hb
      obtain ⟨q, _, rfl⟩ := List.mem_map.mp ha
      obtain ⟨r, _, rfl⟩ := List.mem_map.mp hb
      rfl
    · rw [List.map_map] at hd
      obtain ⟨q, _, rfl⟩ := List.mem_map.mp hd
      exact ⟨(fun h => nomatch h), fun xs h => nomatch h⟩
    · obtain ⟨q, hq, rfl⟩ := List.mem_map.mp hd
      exact Nat.zero_le _
  show (if CanSort (xs.map D.int) then _ else _) = _
  rw [if_pos cs, sortD_map (le := ltI) fun a b => rfl]
  rfl
theorem sum_le {B : Int} : ∀ {xs : List Int}, (∀ x ∈ xs, x ≤ B) → xs.sum ≤ xs.length * B
  | [], _ => by simp
  | x :: xs, h => by
    have h1 := h x (.head _)
    have h2 := sum_le fun y hy => h y (.tail _ hy)
    rw [List.sum_cons, List.length_cons, Int.natCast_add, Int.add_mul]
    omega
theorem bsz_small {p : Pl} (ok : PlOk p) {l : Lot} {s : Int} (h : bsz p l = some s) : s ≤ 5000000000000000000000000000000 := by
  obtain ⟨w, e, _⟩ := worst_breaks ok h
  rw [← e]
  have hb : ∀ x ∈ worst p l s, x ≤ 1000000000000000000000000000000 := fun x hx => by
    obtain ⟨i, hi⟩ := List.mem_iff_getElem?.mp hx
    have hil : i < p.kds.length := by
      rw [← w.len]
      exact (List.getElem?_eq_some_iff.mp hi).1
    have := (w.bd i x p.kds[i] hi (List.getElem?_eq_getElem hil)).2
    have ok' := ok.ko p.kds[i] (List.getElem_mem hil)
    have := ill_num ok'
    have := ok'.num.2
    omega
  have h1 := sum_le hb
  have h2 := w.len
  have h3 := ok.k1
  omega
theorem p1030 : CPow 10 30 := by decide
theorem num1030 : numOk 1000000000000000000000000000000 := ⟨by decide, by decide⟩
theorem lots_few {p : Pl} (ok : PlOk p) : (lots p).length ≤ 512 := by
  unfold lots
  rw [List.length_mergeSort, List.length_tail]
  unfold lots0
  rw [lots0_len, List.length_singleton, Nat.one_mul]
  have : 2 ^ (pairs p).length ≤ 2 ^ 9 := Nat.pow_le_pow_right (by omega) (pairs_len ok)
  omega
/-- the least of some numbers stands first -/
theorem sortI_head {xs : List Int} {s : Int} (h : s ∈ xs) (hle : ∀ x ∈ xs, s ≤ x) : ∃ rest, sortI xs = s :: rest := by
  have hsm : s ∈ sortI xs := List.mem_mergeSort.mpr h
  have hle' : ∀ x ∈ sortI xs, s ≤ x := fun x hx => hle x (List.mem_mergeSort.mp hx)
  have hp := sortI_sorted xs
  cases hz : sortI xs with
  | nil => rw [hz] at hsm; cases hsm
  | cons x rest =>
    rw [hz] at hp hsm hle'
    rw [List.pairwise_cons] at hp
    have h1 := hle' x (.head _)
    rcases List.mem_cons.mp hsm with e | e
    · exact ⟨rest, by rw [e]⟩
    · have := hp.1 s e
      exact ⟨rest, by rw [show x = s by omega]⟩
theorem big100 : (10 : Int) ^ 100 = 10000000000000000000000000000000000000000000000000000000000000000000000000000000000000000000000000000 := by decide +kernel
theorem show_int' {i : Int} (h : -10000000000000000000000000000000000000000000000000000000000000000000000000000000000000000000000000000 < i) (h2 : i < 10000000000000000000000000000000000000000000000000000000000000000000000000000000000000000000000000000) : (PyData.int i).showable = true := show_int (by rw [big100]; exact h) (by rw [big100]; exact h2)
/-- a strength is short data -/
theorem strD_dok (p : Pl) : dok 0 (strD (weakest p)) = true := by
  cases weakest p with
  | none => simp [strD]; decide +kernel
  | some f =>
    obtain ⟨s, l⟩ := f
    by_cases h0 : 0 < s
    · simp [strD, h0]
    · simp [strD, h0]
theorem strD_show {p : Pl} (ok : PlOk p) : (encD (strD (weakest p))).showable = true ∧ shw (encD (strD (weakest p))) ≤ 2000 := by
  cases h : weakest p with
  | none => exact ⟨rfl, by decide +kernel⟩
  | some f =>
    obtain ⟨s, l⟩ := f
    obtain ⟨a, b⟩ := weak_small ok h
    by_cases h0 : 0 < s
    · simp only [strD, h0, if_true]
      exact ⟨show_int' (by omega) (by omega), by rw [encD_int, shw]; decide⟩
    · simp only [strD, h0, if_false]
      exact ⟨rfl, by decide +kernel⟩
/-- repr of a short list: some text -/
theorem rep_list {ds : List D} (h : ∀ d ∈ ds, dok 0 d = true ∧ (encD d).showable = true ∧ shw (encD d) ≤ 2000) (hl : ds.length ≤ 100) : ∃ z, PyData.strOk z = true ∧ ∀ T, pRepr [.lst ds] T = some (.str z) := by
  have hd : doks 0 ds = true := doks_iff.mpr fun d hd => (h d hd).1
  refine ⟨_, strOk_repr 1 (d := .lst ds) (by simpa using hd), fun T => pRepr_dok 1 (by simpa using hd) (by decide) ?_ ?_ T⟩
  · rw [encD_lst hd, PyData.showable]
    clear hd hl
    induction ds with
    | nil => rfl
    | cons d ds ih =>
      rw [List.map_cons, PyData.showableAll, (h d (.head _)).2.1, ih fun x hx => h x (.tail _ hx)]
      rfl
  · rw [encD_lst hd, shw]
    have : shwAll (ds.map encD) ≤ ds.length * 2002 := by
      clear hd hl
      induction ds with
      | nil => exact Nat.le_refl _
      | cons d ds ih =>
        have h1 := (h d (.head _)).2.2
        have h2 := ih fun x hx => h x (.tail _ hx)
        rw [List.map_cons, shwAll, List.length_cons]
        omega
    omega
theorem within_app {ms1 ms2 a1 a2 : List Int} (h : a1.length = ms1.length) : Within (ms1 ++ ms2) (a1 ++ a2) ↔ Within ms1 a1 ∧ Within ms2 a2 := by
  constructor
  · rintro ⟨hl, hb⟩
    refine ⟨⟨h, fun i a m e1 e2 => hb i a m ?_ ?_⟩, ⟨by simp at hl; omega, fun i a m e1 e2 => hb (ms1.length + i) a m ?_ ?_⟩⟩
    · rw [List.getElem?_append_left (List.getElem?_eq_some_iff.mp e1).1]; exact e1
    · rw [List.getElem?_append_left (List.getElem?_eq_some_iff.mp e2).1]; exact e2
    · rw [List.getElem?_append_right (by omega), show ms1.length + i - a1.length = i by omega]; exact e1
    · rw [List.getElem?_append_right (by omega), show ms1.length + i - ms1.length = i by omega]; exact e2
  · rintro ⟨⟨h1, b1⟩, ⟨h2, b2⟩⟩
    refine ⟨by simp; omega, fun i a m e1 e2 => ?_⟩
    by_cases hi : i < a1.length
    · rw [List.getElem?_append_left hi] at e1
      rw [List.getElem?_append_left (by omega)] at e2
      exact b1 i a m e1 e2
    · rw [List.getElem?_append_right (by omega)] at e1 e2
      rw [h1] at e1
      exact b2 _ a m e1 e2
theorem within_split {ms1 ms2 aw : List Int} (h : Within (ms1 ++ ms2) aw) : ∃ a1 a2, aw = a1 ++ a2 ∧ a1.length = ms1.length ∧ Within ms1 a1 ∧ Within ms2 a2 := by
  have hl := h.1
  rw [List.length_append] at hl
  have e : aw = aw.take ms1.length ++ aw.drop ms1.length := (List.take_append_drop _ _).symm
  have e1 : (aw.take ms1.length).length = ms1.length := by rw [List.length_take]; omega
  rw [e] at h
  obtain ⟨w1, w2⟩ := (within_app e1).mp h
  exact ⟨_, _, e, e1, w1, w2⟩
theorem within_one {m a : Int} : Within [m] [a] ↔ 0 ≤ a ∧ a ≤ m := by
  rw [within_cons]
  constructor
  · rintro ⟨x, t, e, h0, h1, _⟩
    cases e
    exact ⟨h0, h1⟩
  · rintro ⟨h0, h1⟩
    exact ⟨a, [], rfl, h0, h1, within_nil.mpr rfl⟩
theorem within_two {m n a b : Int} : Within [m, n] [a, b] ↔ (0 ≤ a ∧ a ≤ m) ∧ 0 ≤ b ∧ b ≤ n := by
  rw [within_cons]
  constructor
  · rintro ⟨x, t, e, h0, h1, h2⟩
    cases e
    exact ⟨⟨h0, h1⟩, within_one.mp h2⟩
  · rintro ⟨⟨h0, h1⟩, h2⟩
    exact ⟨a, [b], rfl, h0, h1, within_one.mpr h2⟩
theorem within_app1 {m a : Int} {ms aw : List Int} : Within ([m] ++ ms) ([a] ++ aw) ↔ (0 ≤ a ∧ a ≤ m) ∧ Within ms aw := by
  rw [within_app (ms1 := [m]) (a1 := [a]) rfl, within_one]
theorem within_app2 {m n a b : Int} {ms aw : List Int} : Within ([m, n] ++ ms) ([a, b] ++ aw) ↔ ((0 ≤ a ∧ a ≤ m) ∧ 0 ≤ b ∧ b ≤ n) ∧ Within ms aw := by
  rw [within_app (ms1 := [m, n]) (a1 := [a, b]) rfl, within_two]
theorem there_app : ∀ {ks1 ks2 : List Kd} {a1 a2 : List Int} {l : Lot}, a1.length = ks1.length → there (ks1 ++ ks2) (a1 ++ a2) l = there ks1 a1 l + there ks2 a2 l
  | [], ks2, a1, a2, l, h => by
    rw [List.eq_nil_of_length_eq_zero h]
    simp [there]
  | k :: ks1, ks2, [], a2, l, h => by simp at h
  | k :: ks1, ks2, a :: a1, a2, l, h => by
    have ih := there_app (ks1 := ks1) (ks2 := ks2) (a1 := a1) (a2 := a2) (l := l) (by simpa using h)
    unfold there at ih ⊢
    rw [List.cons_append, List.cons_append, List.zip_cons_cons, List.zip_cons_cons, List.map_cons, List.map_cons, List.sum_cons, List.sum_cons, ih, Int.add_assoc]
def partS (s : Srt) (m : Int) : List Srt := [{ s with num := m }, ⟨"second", s.gv, s.num - m, s.mst, none⟩]
def partK (k : Sk) (i : Nat) (s : Srt) (m : Int) : Sk := ⟨k.tops, k.clk, k.srt.take i ++ (partS s m ++ k.srt.drop (i + 1))⟩
def partA (aw : List Int) (i : Nat) (a b : Int) : List Int := aw.take i ++ ([a, b] ++ aw.drop (i + 1))
theorem split3 {α : Type} {xs : List α} {i : Nat} {x : α} (h : xs[i]? = some x) : xs = xs.take i ++ ([x] ++ xs.drop (i + 1)) := by
  have hi : i < xs.length := (List.getElem?_eq_some_iff.mp h).1
  have e : xs[i] = x := (List.getElem?_eq_some_iff.mp h).2
  rw [← e]
  have := (List.take_append_drop i xs).symm
  rw [List.drop_eq_getElem_cons hi] at this
  exact this
theorem partK_ok {k : Sk} (ok : PlOk (plOf k)) {i : Nat} {s : Srt} (hi : k.srt[i]? = some s) {m : Int} (hm0 : 0 ≤ m) (hm1 : m ≤ s.num) (hl : k.srt.length ≤ 4) (hn : ∀ t ∈ k.srt, t.nm ≠ "second") : PlOk (plOf (partK k i s m)) := by
  have il : i < k.srt.length := (List.getElem?_eq_some_iff.mp hi).1
  have hs : s ∈ k.srt := List.mem_of_getElem? hi
  have ks := ok.ko (kdOf s) (List.mem_map_of_mem hs)
  have e3 := split3 hi
  refine ⟨ok.s0, ok.s1, ok.sn, ok.sm, ok.h0, ok.h1, ok.h2, ok.ho, ?_, ?_, ?_, ?_⟩
  · show (k.srt.take i ++ (partS s m ++ k.srt.drop (i + 1))).map kdOf ≠ []
    simp [partS]
  · show ((k.srt.take i ++ (partS s m ++ k.srt.drop (i + 1))).map kdOf).length ≤ 5
    simp [partS]
    omega
  · show (((k.srt.take i ++ (partS s m ++ k.srt.drop (i + 1))).map kdOf).map Kd.nm).Nodup
    have h0 : ((k.srt.map kdOf).map Kd.nm).Nodup := ok.kn
    rw [List.map_map] at h0 ⊢
    have hf : (Kd.nm ∘ kdOf) = Srt.nm := rfl
    rw [hf] at h0 ⊢
    have hp : ((k.srt.take i ++ (partS s m ++ k.srt.drop (i + 1))).map Srt.nm).Perm (("second" : Str) :: k.srt.map Srt.nm) := by
      have e4 : k.srt.map Srt.nm = (k.srt.take i).map Srt.nm ++ (s.nm :: (k.srt.drop (i + 1)).map Srt.nm) := by
        conv => lhs; rw [e3]
        simp
      rw [e4]
      simp only [partS, List.map_append, List.map_cons, List.map_nil, List.cons_append, List.nil_append]
      refine List.Perm.trans ?_ (List.perm_middle (a := ("second" : Str)) (l₁ := (k.srt.take i).map Srt.nm ++ [s.nm]) (l₂ := (k.srt.drop (i + 1)).map Srt.nm) |>.trans ?_)
      · simp
      · simp
    rw [hp.nodup_iff, List.nodup_cons]
    refine ⟨fun hc => ?_, h0⟩
    obtain ⟨t, ht, e⟩ := List.mem_map.mp hc
    exact hn t ht e
  · intro kd hkd
    have hkd : kd ∈ (k.srt.take i ++ (partS s m ++ k.srt.drop (i + 1))).map kdOf := hkd
    obtain ⟨t, ht, rfl⟩ := List.mem_map.mp hkd
    rcases List.mem_append.mp ht with h | h
    · exact ok.ko _ (List.mem_map_of_mem (List.mem_of_mem_take h))
    · rcases List.mem_append.mp h with h | h
      · simp [partS] at h
        have hnum := ks.num
        have e : (kdOf s).num = s.num := rfl
        rw [e] at hnum
        rcases h with rfl | rfl
        · exact ⟨ks.nm, ks.gv, ks.gn, ks.sub, ⟨hm0, by show m ≤ _; have := hnum.2; omega⟩, ks.m0, ks.m1, ks.ill⟩
        · exact ⟨by show isNameB "second" = true; decide +kernel, ks.gv, ks.gn, ks.sub, ⟨by show 0 ≤ s.num - m; omega, by show s.num - m ≤ _; have := hnum.2; omega⟩, ks.m0, ks.m1, nofun⟩
      · exact ok.ko _ (List.mem_map_of_mem (List.mem_of_mem_drop h))
theorem partK_rows {k : Sk} (rb : RowsOk (plOf k)) (i : Nat) (s : Srt) (m : Int) : RowsOk (plOf (partK k i s m)) := rb
theorem part_ills {k : Sk} {i : Nat} {s : Srt} (hi : k.srt[i]? = some s) (hn : s.ill = none) (m : Int) : illsK k = (illsK k).take i ++ ([s.num] ++ (illsK k).drop (i + 1)) ∧ illsK (partK k i s m) = (illsK k).take i ++ ([m, s.num - m] ++ (illsK k).drop (i + 1)) := by
  constructor
  · refine split3 ?_
    unfold illsK
    rw [List.getElem?_map, hi]
    show some (illOf (kdOf s)) = _
    unfold illOf kdOf
    simp [hn]
  · unfold illsK partK partS
    simp only [List.map_append, List.map_cons, List.map_nil, List.map_take, List.map_drop]
    unfold illOf kdOf
    simp [hn]
theorem part_margin {k : Sk} {i : Nat} {s : Srt} (hi : k.srt[i]? = some s) (m : Int) {a1 a2 : List Int} (h1 : a1.length = i) (a b : Int) (l : Lot) :
    margin (plOf (partK k i s m)) (a1 ++ ([a, b] ++ a2)) l = margin (plOf k) (a1 ++ ([a + b] ++ a2)) l := by
  have il : i < k.srt.length := (List.getElem?_eq_some_iff.mp hi).1
  have ht1 : ((k.srt.take i).map kdOf).length = i := by simp; omega
  unfold margin
  have hn : needs (plOf (partK k i s m)) l = needs (plOf k) l := rfl
  rw [hn]
  have e1 : (plOf (partK k i s m)).kds = (k.srt.take i).map kdOf ++ ((partS s m).map kdOf ++ (k.srt.drop (i + 1)).map kdOf) := by
    show (k.srt.take i ++ (partS s m ++ k.srt.drop (i + 1))).map kdOf = _
    simp
  have e2 : (plOf k).kds = (k.srt.take i).map kdOf ++ ([kdOf s] ++ (k.srt.drop (i + 1)).map kdOf) := by
    show k.srt.map kdOf = _
    conv => lhs; rw [split3 hi]
    simp
  have h1' : a1.length = ((k.srt.take i).map kdOf).length := by rw [ht1, h1]
  rw [e1, e2, there_app h1', there_app h1', there_app (ks1 := (partS s m).map kdOf) (a1 := [a, b]) rfl, there_app (ks1 := [kdOf s]) (a1 := [a + b]) rfl]
  have e3 : there ((partS s m).map kdOf) [a, b] l = there [kdOf s] [a + b] l := by
    unfold there partS
    simp
    have hw1 : weight (kdOf { s with num := m }) l = weight (kdOf s) l := rfl
    have hw2 : weight (kdOf ⟨"second", s.gv, s.num - m, s.mst, none⟩) l = weight (kdOf s) l := rfl
    rw [hw1, hw2]
    show (m - a) * weight (kdOf s) l + (s.num - m - b) * weight (kdOf s) l = (s.num - (a + b)) * weight (kdOf s) l
    rw [← Int.add_mul]
    congr 1
    omega
  rw [e3]
theorem part_bad {k : Sk} {i : Nat} {s : Srt} (hi : k.srt[i]? = some s) (m : Int) {a1 a2 : List Int} (h1 : a1.length = i) (a b : Int) : Bad (plOf (partK k i s m)) (a1 ++ ([a, b] ++ a2)) ↔ Bad (plOf k) (a1 ++ ([a + b] ++ a2)) := by
  constructor
  · rintro ⟨l, ⟨n, mm⟩, h⟩
    exact ⟨l, ⟨n, mm⟩, by rw [← part_margin hi m h1]; exact h⟩
  · rintro ⟨l, ⟨n, mm⟩, h⟩
    exact ⟨l, ⟨n, mm⟩, by rw [part_margin hi m h1]; exact h⟩
theorem part_rank {k : Sk} (ok : PlOk (plOf k)) {i : Nat} {s : Srt} (hi : k.srt[i]? = some s) (hn : s.ill = none) {m : Int} (hm0 : 0 ≤ m) (hm1 : m ≤ s.num) (ok' : PlOk (plOf (partK k i s m))) : rankI (plOf k) = rankI (plOf (partK k i s m)) := by
  have il : i < k.srt.length := (List.getElem?_eq_some_iff.mp hi).1
  obtain ⟨e1, e2⟩ := part_ills hi hn m
  have hil : ((illsK k).take i).length = i := by unfold illsK; simp; omega
  refine rank_eq ok ok' (fun aw' w' hb => ?_) (fun aw w hb => ?_)
  · have w := wsd_within.mp w'
    rw [e2] at w
    obtain ⟨a1, r, rfl, l1, w1, w2⟩ := within_split w
    obtain ⟨ab, a2, rfl, l2, w2, w3⟩ := within_split w2
    obtain ⟨a, b, rfl⟩ : ∃ a b, ab = [a, b] := by
      match ab, l2 with
      | [a, b], _ => exact ⟨a, b, rfl⟩
    have hab := within_two.mp w2
    refine ⟨a1 ++ ([a + b] ++ a2), wsd_within.mpr ?_, ?_, (part_bad hi m (by rw [l1, hil]) a b).mp hb⟩
    · rw [e1]
      exact (within_app l1).mpr ⟨w1, within_app1.mpr ⟨⟨by omega, by omega⟩, w3⟩⟩
    · simp
      omega
  · have w := wsd_within.mp w
    rw [e1] at w
    obtain ⟨a1, r, rfl, l1, w1, w2⟩ := within_split w
    obtain ⟨ab, a2, rfl, l2, w2, w3⟩ := within_split w2
    obtain ⟨a, rfl⟩ : ∃ a, ab = [a] := by
      match ab, l2 with
      | [a], _ => exact ⟨a, rfl⟩
    have ha := within_one.mp w2
    refine ⟨a1 ++ ([min a m, a - min a m] ++ a2), wsd_within.mpr ?_, ?_, (part_bad hi m (by rw [l1, hil]) _ _).mpr (by rw [show min a m + (a - min a m) = a by omega]; exact hb)⟩
    · rw [e2]
      exact (within_app l1).mpr ⟨w1, within_app2.mpr ⟨⟨⟨by omega, by omega⟩, by omega, by omega⟩, w3⟩⟩
    · simp
      omega
theorem part_held {k : Sk} (ok : PlOk (plOf k)) {i : Nat} {s : Srt} (hi : k.srt[i]? = some s) (hn : s.ill = none) {m : Int} (hm0 : 0 ≤ m) (hm1 : m ≤ s.num) (ok' : PlOk (plOf (partK k i s m))) {aw : List Int} (w : Wsd (plOf k) [] aw) {a : Int} (ha : aw[i]? = some a) :
    Wsd (plOf (partK k i s m)) [] (partA aw i (min a m) (a - min a m)) ∧ heldB (plOf (partK k i s m)) (partA aw i (min a m) (a - min a m)) = heldB (plOf k) aw := by
  have il : i < aw.length := (List.getElem?_eq_some_iff.mp ha).1
  obtain ⟨e1, e2⟩ := part_ills hi hn m
  have e3 := split3 ha
  have hil : ((illsK k).take i).length = i := by
    have := (List.getElem?_eq_some_iff.mp hi).1
    unfold illsK
    simp
    omega
  have hl : (aw.take i).length = i := by simp; omega
  have ww := wsd_within.mp w
  rw [e1, e3] at ww
  obtain ⟨w1, w2⟩ := (within_app (by rw [hl, hil])).mp ww
  obtain ⟨ha, w3⟩ := within_app1.mp w2
  have w' : Wsd (plOf (partK k i s m)) [] (partA aw i (min a m) (a - min a m)) := by
    rw [wsd_within, e2]
    exact (within_app (by rw [hl, hil])).mpr ⟨w1, within_app2.mpr ⟨⟨⟨by omega, by omega⟩, by omega, by omega⟩, w3⟩⟩
  refine ⟨w', ?_⟩
  rw [Bool.eq_iff_iff, held_iff ok' w', held_iff ok w]
  have h := part_bad hi m hl (min a m) (a - min a m) (a2 := aw.drop (i + 1))
  rw [show min a m + (a - min a m) = a by omega, ← e3] at h
  rw [← h]
  rfl
def unasked : Str := "unasked"
def idleS : Srt := ⟨"idle", [unasked], 9, 2, none⟩
def idleK (k : Sk) : Sk := ⟨k.tops ++ [unasked], k.clk.map fun r => r ++ [0], k.srt ++ [idleS]⟩
def emptyK (k : Sk) : Sk := ⟨k.tops, k.clk ++ [k.tops.map fun _ => 0], k.srt⟩
theorem gv_tops {k : Sk} (ok : PlOk (plOf k)) {kd : Kd} (h : kd ∈ (plOf k).kds) : ∀ g ∈ kd.gv, g ∈ k.tops := fun g hg => by
  have := (ok.ko kd h).sub
  rw [this] at hg
  exact (List.mem_filter.mp hg).1
theorem idleK_ok {k : Sk} (ok : PlOk (plOf k)) (t3 : k.tops.length ≤ 3) (c2 : k.clk.length ≤ 2) (s4 : k.srt.length ≤ 4) (hu : unasked ∉ k.tops) (hn : ∀ t ∈ k.srt, t.nm ≠ "idle") : PlOk (plOf (idleK k)) := by
  refine ⟨?_, ?_, ?_, ?_, ?_, ?_, ?_, ?_, ?_, ?_, ?_, ?_⟩
  · show k.tops ++ [unasked] ≠ []
    simp
  · show (k.tops ++ [unasked]).length ≤ 4
    simp
    omega
  · show (k.tops ++ [unasked]).Nodup
    rw [List.nodup_append]
    refine ⟨ok.sn, by simp, fun a ha b hb => ?_⟩
    rw [List.mem_singleton] at hb
    subst hb
    exact fun e => hu (e ▸ ha)
  · intro s hs
    rcases List.mem_append.mp (show s ∈ k.tops ++ [unasked] from hs) with h | h
    · exact ok.sm s h
    · rw [List.mem_singleton] at h
      subst h
      decide +kernel
  · show (k.clk.map fun r => r ++ [0]).map hrOf ≠ []
    have : k.clk.map hrOf ≠ [] := ok.h0
    simpa using this
  · show ((k.clk.map fun r => r ++ [0]).map hrOf).length ≤ 3
    simp
    omega
  · show ((k.clk.map fun r => r ++ [0]).map hrOf).length * (k.tops ++ [unasked]).length ≤ 9
    simp
    have : k.clk.length * (k.tops.length + 1) ≤ 2 * 4 := Nat.mul_le_mul c2 (by omega)
    omega
  · intro h hh
    obtain ⟨r, hr, rfl⟩ := List.mem_map.mp (show h ∈ (k.clk.map fun r => r ++ [0]).map hrOf from hh)
    obtain ⟨r0, hr0, rfl⟩ := List.mem_map.mp hr
    have o := ok.ho (hrOf r0) (List.mem_map_of_mem hr0)
    refine ⟨?_, fun n hn => ?_⟩
    · show (r0 ++ [0]).length = (k.tops ++ [unasked]).length
      have : r0.length = k.tops.length := o.len
      simp [this]
    · rcases List.mem_append.mp (show n ∈ r0 ++ [0] from hn) with h | h
      · exact o.num n h
      · rw [List.mem_singleton] at h
        omega
  · show (k.srt ++ [idleS]).map kdOf ≠ []
    simp
  · show ((k.srt ++ [idleS]).map kdOf).length ≤ 5
    simp
    omega
  · show (((k.srt ++ [idleS]).map kdOf).map Kd.nm).Nodup
    have h0 : ((k.srt.map kdOf).map Kd.nm).Nodup := ok.kn
    rw [List.map_append, List.map_append, List.nodup_append]
    refine ⟨h0, by simp, fun a ha b hb => ?_⟩
    obtain ⟨kd, hkd, rfl⟩ := List.mem_map.mp ha
    obtain ⟨t, ht, rfl⟩ := List.mem_map.mp hkd
    simp at hb
    subst hb
    exact hn t ht
  · intro kd hkd
    rcases List.mem_append.mp (show kd ∈ k.srt.map kdOf ++ [kdOf idleS] from by
      have h : kd ∈ (k.srt ++ [idleS]).map kdOf := hkd
      rwa [List.map_append] at h) with h | h
    · have o := ok.ko kd h
      refine ⟨o.nm, o.gv, o.gn, ?_, o.num, o.m0, o.m1, o.ill⟩
      show kd.gv = (k.tops ++ [unasked]).filter _
      have hu2 : unasked ∉ kd.gv := fun c => hu (gv_tops ok h _ c)
      rw [List.filter_append]
      have e : List.filter (fun s => decide (s ∈ kd.gv)) [unasked] = [] := by simp [hu2]
      rw [e, List.append_nil]
      exact o.sub
    · rw [List.mem_singleton] at h
      subst h
      refine ⟨by decide +kernel, by show [unasked] ≠ []; simp, fun g hg => ?_, ?_, ⟨by decide, by decide⟩, by decide, by decide, nofun⟩
      · rw [show g = unasked from List.mem_singleton.mp hg]
        decide +kernel
      · show [unasked] = (k.tops ++ [unasked]).filter fun s => decide (s ∈ [unasked])
        rw [List.filter_append]
        have e : List.filter (fun s => decide (s ∈ [unasked])) k.tops = [] := by
          rw [List.filter_eq_nil_iff]
          intro a ha
          simp
          exact fun e => hu (e ▸ ha)
        rw [e]
        simp
theorem lesson_idle {k : Sk} (ok : PlOk (plOf k)) (ok' : PlOk (plOf (idleK k))) {q : Pr} (h1 : q.1 < k.clk.length) : (q.2 ∈ k.tops → lesson (plOf (idleK k)) q = lesson (plOf k) q) ∧ (q.2 = unasked → lesson (plOf (idleK k)) q = 0) := by
  obtain ⟨h, t⟩ := q
  have hr : k.clk[h]? = some k.clk[h] := List.getElem?_eq_getElem h1
  have o : k.clk[h].length = k.tops.length := (ok.ho (hrOf k.clk[h]) (List.mem_map_of_mem (List.getElem_mem h1))).len
  have e1 : (plOf k).hrs[h]? = some (hrOf k.clk[h]) := by
    show (k.clk.map hrOf)[h]? = _
    rw [List.getElem?_map, hr]
    rfl
  have e2 : (plOf (idleK k)).hrs[h]? = some (hrOf (k.clk[h] ++ [0])) := by
    show ((k.clk.map fun r => r ++ [0]).map hrOf)[h]? = _
    rw [List.getElem?_map, List.getElem?_map, hr]
    rfl
  constructor
  · intro ht
    obtain ⟨j, hj, e⟩ := List.mem_iff_getElem.mp (show t ∈ k.tops from ht)
    have e3 : (plOf k).subs[j]? = some t := by
      show k.tops[j]? = _
      rw [List.getElem?_eq_getElem hj, e]
    have e4 : (plOf (idleK k)).subs[j]? = some t := by
      show (k.tops ++ [unasked])[j]? = _
      rw [List.getElem?_append_left hj]
      exact e3
    have hj2 : j < k.clk[h].length := by omega
    have e5 : (hrOf k.clk[h]).ns[j]? = some k.clk[h][j] := List.getElem?_eq_getElem hj2
    have e6 : (hrOf (k.clk[h] ++ [0])).ns[j]? = some k.clk[h][j] := by
      show (k.clk[h] ++ [0])[j]? = _
      rw [List.getElem?_append_left hj2]
      exact e5
    rw [lesson_at ok e1 e3 e5, lesson_at ok' e2 e4 e6]
  · intro ht
    have ht : t = unasked := ht
    subst ht
    refine lesson_at ok' e2 (j := k.tops.length) ?_ ?_
    · show (k.tops ++ [unasked])[k.tops.length]? = _
      simp
    · show (k.clk[h] ++ [0])[k.tops.length]? = _
      rw [← o]
      simp
theorem there_same {ks : List Kd} {aw : List Int} {l l' : Lot} (h : ∀ k ∈ ks, weight k l = weight k l') : there ks aw l = there ks aw l' := by
  unfold there
  congr 1
  refine List.map_congr_left fun q hq => ?_
  rw [h q.1 (List.of_mem_zip hq).1]
theorem weight_none {kd : Kd} {l : Lot} (h0 : 0 ≤ kd.mst) (h : ∀ q ∈ l, q.2 ∉ kd.gv) : weight kd l = 0 := by
  unfold weight
  have : hset kd.gv l = [] := by
    rw [List.eq_nil_iff_forall_not_mem]
    intro x hx
    obtain ⟨q, hq, hg, _⟩ := hset_mem.mp hx
    exact h q hq hg
  rw [this]
  simp
  omega
theorem idle_bad {k : Sk} (ok : PlOk (plOf k)) (ok' : PlOk (plOf (idleK k))) (hu : unasked ∉ k.tops) {b : List Int} (hb : b.length = k.srt.length) {x : Int} (x1 : x ≤ 9) : Bad (plOf (idleK k)) (b ++ [x]) ↔ Bad (plOf k) b := by
  have hk : (plOf (idleK k)).kds = (plOf k).kds ++ [kdOf idleS] := by
    show (k.srt ++ [idleS]).map kdOf = k.srt.map kdOf ++ _
    simp
  have hbl : b.length = (plOf k).kds.length := by
    show _ = (k.srt.map kdOf).length
    simp [hb]
  have hlen : (plOf (idleK k)).hrs.length = k.clk.length := by
    show ((k.clk.map fun r => r ++ [0]).map hrOf).length = _
    simp
  have hlen0 : (plOf k).hrs.length = k.clk.length := by
    show (k.clk.map hrOf).length = _
    simp
  have one : ∀ l, there [kdOf idleS] [x] l = (9 - x) * weight (kdOf idleS) l := fun l => by
    unfold there
    simp
    rfl
  constructor
  · rintro ⟨l', ⟨nd, mm⟩, hm⟩
    refine ⟨l'.filter fun q => decide (q.2 ≠ unasked), ⟨nd.filter _, fun q hq => ?_⟩, ?_⟩
    · obtain ⟨h1, h2⟩ := List.mem_filter.mp hq
      obtain ⟨m1, m2⟩ := mm q h1
      rw [hlen] at m1
      rw [hlen0]
      refine ⟨m1, ?_⟩
      rcases List.mem_append.mp (show q.2 ∈ k.tops ++ [unasked] from m2) with h | h
      · exact h
      · rw [List.mem_singleton] at h
        exact absurd h (of_decide_eq_true h2)
    · have hn : needs (plOf k) (l'.filter fun q => decide (q.2 ≠ unasked)) = needs (plOf (idleK k)) l' := by
        unfold needs
        rw [← sum_filter_eq (lesson (plOf (idleK k))) (fun q => decide (q.2 ≠ unasked)) (xs := l') fun q hq hp => by
          obtain ⟨m1, _⟩ := mm q hq
          rw [hlen] at m1
          exact (lesson_idle ok ok' m1).2 (by simpa using hp)]
        congr 1
        refine List.map_congr_left fun q hq => ?_
        obtain ⟨h1, h2⟩ := List.mem_filter.mp hq
        obtain ⟨m1, m2⟩ := mm q h1
        rw [hlen] at m1
        refine ((lesson_idle ok ok' m1).1 ?_).symm
        rcases List.mem_append.mp (show q.2 ∈ k.tops ++ [unasked] from m2) with h | h
        · exact h
        · rw [List.mem_singleton] at h
          exact absurd h (of_decide_eq_true h2)
      unfold margin at hm ⊢
      rw [hn]
      rw [hk, there_app hbl, one] at hm
      have h2 : there (plOf k).kds b (l'.filter fun q => decide (q.2 ≠ unasked)) = there (plOf k).kds b l' := there_same fun kd hkd => weight_congr rfl fun y => by
        have hg : ∀ g ∈ kd.gv, g ≠ unasked := fun g hg e => hu (e ▸ gv_tops ok hkd g hg)
        constructor
        · rintro ⟨q, hq, h1, h2⟩
          exact ⟨q, (List.mem_filter.mp hq).1, h1, h2⟩
        · rintro ⟨q, hq, h1, h2⟩
          exact ⟨q, List.mem_filter.mpr ⟨hq, by simpa using hg q.2 h1⟩, h1, h2⟩
      rw [h2]
      have h3 : 0 ≤ (9 - x) * weight (kdOf idleS) l' := Int.mul_nonneg (by omega) (by
        unfold weight
        show 0 ≤ min 2 _
        omega)
      omega
  · rintro ⟨l, ⟨nd, mm⟩, hm⟩
    refine ⟨l, ⟨nd, fun q hq => ?_⟩, ?_⟩
    · obtain ⟨m1, m2⟩ := mm q hq
      rw [hlen]
      rw [hlen0] at m1
      exact ⟨m1, List.mem_append_left _ m2⟩
    · unfold margin at hm ⊢
      have hn : needs (plOf (idleK k)) l = needs (plOf k) l := by
        unfold needs
        congr 1
        refine List.map_congr_left fun q hq => ?_
        obtain ⟨m1, m2⟩ := mm q hq
        rw [hlen0] at m1
        exact (lesson_idle ok ok' m1).1 m2
      rw [hn, hk, there_app hbl, one]
      have : weight (kdOf idleS) l = 0 := weight_none (by decide) fun q hq hg => by
        have : q.2 = unasked := List.mem_singleton.mp hg
        exact hu (this ▸ (mm q hq).2)
      rw [this]
      omega
theorem idle_ills (k : Sk) : illsK (idleK k) = illsK k ++ [9] := by
  unfold illsK idleK
  rw [List.map_append]
  rfl
theorem idle_wsd {k : Sk} {b : List Int} (w : Wsd (plOf k) [] b) {x : Int} (x0 : 0 ≤ x) (x1 : x ≤ 9) : Wsd (plOf (idleK k)) [] (b ++ [x]) := by
  rw [wsd_within, idle_ills]
  have h := wsd_within.mp w
  exact (within_app h.1).mpr ⟨h, within_one.mpr ⟨x0, x1⟩⟩
theorem wsd_len {k : Sk} {b : List Int} (w : Wsd (plOf k) [] b) : b.length = k.srt.length := by
  rw [w.len]
  show (k.srt.map kdOf).length = _
  simp
theorem idle_rank {k : Sk} (ok : PlOk (plOf k)) (ok' : PlOk (plOf (idleK k))) (hu : unasked ∉ k.tops) : rankI (plOf k) = rankI (plOf (idleK k)) := by
  refine rank_eq ok ok' (fun aw' w' hb => ?_) (fun aw w hb => ?_)
  · have w := wsd_within.mp w'
    rw [idle_ills] at w
    obtain ⟨b, r, rfl, l1, w1, w2⟩ := within_split w
    obtain ⟨x, t, rfl, x0, x1, w3⟩ := within_cons.mp w2
    rw [within_nil] at w3
    subst w3
    have wb := wsd_within.mpr w1
    refine ⟨b, wb, by simp; omega, (idle_bad ok ok' hu (wsd_len wb) x1).mp hb⟩
  · exact ⟨aw ++ [0], idle_wsd w (by omega) (by omega), by simp, (idle_bad ok ok' hu (wsd_len w) (by omega)).mpr hb⟩
theorem idle_held {k : Sk} (ok : PlOk (plOf k)) (ok' : PlOk (plOf (idleK k))) (hu : unasked ∉ k.tops) {b : List Int} (w : Wsd (plOf k) [] b) {x : Int} (x0 : 0 ≤ x) (x1 : x ≤ 9) : heldB (plOf (idleK k)) (b ++ [x]) = heldB (plOf k) b := by
  rw [Bool.eq_iff_iff, held_iff ok' (idle_wsd w x0 x1), held_iff ok w, idle_bad ok ok' hu (wsd_len w) x1]
theorem emptyK_ok {k : Sk} (ok : PlOk (plOf k)) (t3 : k.tops.length ≤ 3) (c2 : k.clk.length ≤ 2) : PlOk (plOf (emptyK k)) := by
  refine ⟨ok.s0, ok.s1, ok.sn, ok.sm, ?_, ?_, ?_, ?_, ok.k0, ok.k1, ok.kn, ok.ko⟩
  · show (k.clk ++ [k.tops.map fun _ => 0]).map hrOf ≠ []
    simp
  · show ((k.clk ++ [k.tops.map fun _ => 0]).map hrOf).length ≤ 3
    simp
    omega
  · show ((k.clk ++ [k.tops.map fun _ => 0]).map hrOf).length * k.tops.length ≤ 9
    simp
    have : (k.clk.length + 1) * k.tops.length ≤ 3 * 3 := Nat.mul_le_mul (by omega) (by omega)
    omega
  · intro h hh
    rcases List.mem_append.mp (show h ∈ k.clk.map hrOf ++ [hrOf (k.tops.map fun _ => 0)] from by
      have h2 : h ∈ (k.clk ++ [k.tops.map fun _ => 0]).map hrOf := hh
      rwa [List.map_append] at h2) with h1 | h1
    · exact ok.ho h h1
    · rw [List.mem_singleton] at h1
      subst h1
      refine ⟨by show (k.tops.map fun _ => (0 : Int)).length = k.tops.length; simp, fun n hn => ?_⟩
      obtain ⟨_, _, rfl⟩ := List.mem_map.mp (show n ∈ k.tops.map fun _ => (0 : Int) from hn)
      omega
theorem lesson_empty {k : Sk} (ok : PlOk (plOf k)) (ok' : PlOk (plOf (emptyK k))) {q : Pr} (h2 : q.2 ∈ k.tops) : (q.1 < k.clk.length → lesson (plOf (emptyK k)) q = lesson (plOf k) q) ∧ (q.1 = k.clk.length → lesson (plOf (emptyK k)) q = 0) := by
  obtain ⟨h, t⟩ := q
  obtain ⟨j, hj, e⟩ := List.mem_iff_getElem.mp (show t ∈ k.tops from h2)
  have e3 : k.tops[j]? = some t := by rw [List.getElem?_eq_getElem hj, e]
  constructor
  · intro h1
    have h1 : h < k.clk.length := h1
    unfold lesson
    have e5 : (plOf (emptyK k)).hrs.getD h default = (plOf k).hrs.getD h default := by
      show ((k.clk ++ [k.tops.map fun _ => 0]).map hrOf).getD h default = (k.clk.map hrOf).getD h default
      rw [List.getD_eq_getElem?_getD, List.getD_eq_getElem?_getD, List.map_append, List.getElem?_append_left (by simpa using h1)]
    show ((plOf (emptyK k)).hrs.getD h default).ns.getD _ 0 = ((plOf k).hrs.getD h default).ns.getD _ 0
    rw [e5]
    rfl
  · intro h1
    have h1 : h = k.clk.length := h1
    subst h1
    refine lesson_at ok' (h := hrOf (k.tops.map fun _ => 0)) (j := j) ?_ e3 ?_
    · show ((k.clk ++ [k.tops.map fun _ => 0]).map hrOf)[k.clk.length]? = _
      simp
    · show (k.tops.map fun _ => (0 : Int))[j]? = _
      rw [List.getElem?_map, e3]
      rfl
theorem empty_bad {k : Sk} (ok : PlOk (plOf k)) (ok' : PlOk (plOf (emptyK k))) {b : List Int} (w : Wsd (plOf k) [] b) : Bad (plOf (emptyK k)) b ↔ Bad (plOf k) b := by
  have hlen : (plOf (emptyK k)).hrs.length = k.clk.length + 1 := by
    show ((k.clk ++ [k.tops.map fun _ => 0]).map hrOf).length = _
    simp
  have hlen0 : (plOf k).hrs.length = k.clk.length := by
    show (k.clk.map hrOf).length = _
    simp
  constructor
  · rintro ⟨l', ⟨nd, mm⟩, hm⟩
    refine ⟨l'.filter fun q => decide (q.1 < k.clk.length), ⟨nd.filter _, fun q hq => ?_⟩, ?_⟩
    · obtain ⟨h1, h2⟩ := List.mem_filter.mp hq
      rw [hlen0]
      exact ⟨of_decide_eq_true h2, (mm q h1).2⟩
    · have hn : needs (plOf k) (l'.filter fun q => decide (q.1 < k.clk.length)) = needs (plOf (emptyK k)) l' := by
        unfold needs
        rw [← sum_filter_eq (lesson (plOf (emptyK k))) (fun q => decide (q.1 < k.clk.length)) (xs := l') fun q hq hp => by
          obtain ⟨m1, m2⟩ := mm q hq
          rw [hlen] at m1
          have hp := of_decide_eq_false hp
          exact (lesson_empty ok ok' m2).2 (by omega)]
        congr 1
        refine List.map_congr_left fun q hq => ?_
        obtain ⟨h1, h2⟩ := List.mem_filter.mp hq
        exact ((lesson_empty ok ok' (mm q h1).2).1 (of_decide_eq_true h2)).symm
      have h2 := there_mono (ks := (plOf k).kds) (aw := b) (l := l') (l' := l'.filter fun q => decide (q.1 < k.clk.length)) (w.num ok) fun kd hkd => weight_mono (Int.le_refl _) fun q hq hg => ⟨q, (List.mem_filter.mp hq).1, hg, rfl⟩
      unfold margin at hm ⊢
      rw [hn]
      have hk : (plOf (emptyK k)).kds = (plOf k).kds := rfl
      rw [hk] at hm
      omega
  · rintro ⟨l, ⟨nd, mm⟩, hm⟩
    refine ⟨l, ⟨nd, fun q hq => ?_⟩, ?_⟩
    · obtain ⟨m1, m2⟩ := mm q hq
      rw [hlen]
      rw [hlen0] at m1
      exact ⟨by omega, m2⟩
    · unfold margin at hm ⊢
      have hn : needs (plOf (emptyK k)) l = needs (plOf k) l := by
        unfold needs
        congr 1
        refine List.map_congr_left fun q hq => ?_
        obtain ⟨m1, m2⟩ := mm q hq
        rw [hlen0] at m1
        exact (lesson_empty ok ok' m2).1 m1
      rw [hn]
      exact hm
theorem empty_rank {k : Sk} (ok : PlOk (plOf k)) (ok' : PlOk (plOf (emptyK k))) : rankI (plOf k) = rankI (plOf (emptyK k)) := by
  refine rank_eq ok ok' (fun aw' w' hb => ?_) (fun aw w hb => ?_)
  · have w : Wsd (plOf k) [] aw' := ⟨w'.len, w'.bd⟩
    exact ⟨aw', w, Int.le_refl _, (empty_bad ok ok' w).mp hb⟩
  · exact ⟨aw, ⟨w.len, w.bd⟩, Int.le_refl _, (empty_bad ok ok' w).mpr hb⟩
theorem empty_held {k : Sk} (ok : PlOk (plOf k)) (ok' : PlOk (plOf (emptyK k))) {b : List Int} (w : Wsd (plOf k) [] b) : heldB (plOf (emptyK k)) b = heldB (plOf k) b := by
  have w' : Wsd (plOf (emptyK k)) [] b := ⟨w.len, w.bd⟩
  rw [Bool.eq_iff_iff, held_iff ok' w', held_iff ok w, empty_bad ok ok' w]
theorem wst_other {p : Pl} {i : Nat} : ∀ {xs : List (Int × Nat)} {st : Int × List Int}, (∀ x ∈ xs, x.2 ≠ i) → (xs.foldl (wst p) st).2[i]? = st.2[i]?
  | [], _, _ => rfl
  | x :: xs, st, h => by
    rw [List.foldl_cons, wst_other fun y hy => h y (.tail _ hy)]
    unfold wst
    dsimp only
    rw [List.getElem?_set_ne (h x (.head _))]
theorem worst_zero {p : Pl} {l : Lot} {i : Nat} {kd : Kd} (h : p.kds[i]? = some kd) (hw : weight kd l = 0) (z : Int) : (worst p l z)[i]? = some 0 := by
  unfold worst
  rw [wst_other]
  · show (nob p)[i]? = some 0
    unfold nob
    rw [List.getElem?_map, h]
    rfl
  · intro x hx e
    obtain ⟨h0, kd', h1, h2⟩ := byW_mem hx
    rw [e, h] at h1
    cases h1
    omega
theorem worst_length (p : Pl) (l : Lot) (z : Int) : (worst p l z).length = p.kds.length := by
  unfold worst
  rw [wst_len]
  show (nob p).length = _
  unfold nob
  simp
theorem idle_last {k : Sk} (ok : PlOk (plOf k)) (ok' : PlOk (plOf (idleK k))) {s : Int} {l : Lot} (hl : l ∈ lots (plOf (idleK k))) : (worst (plOf (idleK k)) l s).getLast? = some 0 := by
  have hk : (plOf (idleK k)).kds[k.srt.length]? = some (kdOf idleS) := by
    show ((k.srt ++ [idleS]).map kdOf)[k.srt.length]? = _
    simp
  have hkl : (plOf (idleK k)).kds.length = k.srt.length + 1 := by
    show ((k.srt ++ [idleS]).map kdOf).length = _
    simp
  have h := worst_zero (l := l) hk (weight_none (by decide) fun q hq hg => by
    have hu : q.2 = unasked := List.mem_singleton.mp hg
    have h2 := (pairs0_iff ok').mp (List.mem_mergeSort.mp (lots_mem hl q hq))
    have hlen : (plOf (idleK k)).hrs.length = k.clk.length := by
      show ((k.clk.map fun r => r ++ [0]).map hrOf).length = _
      simp
    rw [hlen] at h2
    rw [(lesson_idle ok ok' h2.1).2 hu] at h2
    omega) s
  rw [List.getLast?_eq_getElem?, worst_length, hkl]
  exact h
theorem rank_some {p : Pl} {s : Int} {l : Lot} (h : weakest p = some (s, l)) : rankI p = s - 1 := by
  unfold rankI
  rw [h]
structure Twin (p p' : Pl) (f : Pr → Pr) (g : List Int → List Int) : Prop where
  val : ∀ q : Pr, q.1 < p.hrs.length → q.2 ∈ p.subs → (f q).1 < p'.hrs.length ∧ (f q).2 ∈ p'.subs ∧ lesson p' (f q) = lesson p q
  inj : ∀ q r : Pr, q.1 < p.hrs.length → r.1 < p.hrs.length → f q = f r → q = r
  wsd : ∀ aw, Wsd p [] aw → Wsd p' [] (g aw) ∧ (g aw).sum = aw.sum
  mar : ∀ aw l, Wsd p [] aw → Valid p l → margin p' (g aw) (l.map f) = margin p aw l
theorem Twin.valid {p p' : Pl} {f : Pr → Pr} {g : List Int → List Int} (t : Twin p p' f g) {l : Lot} (v : Valid p l) : Valid p' (l.map f) := by
  refine ⟨?_, fun q hq => ?_⟩
  · rw [List.nodup_iff_pairwise_ne, List.pairwise_map]
    refine List.Pairwise.imp_of_mem ?_ (List.nodup_iff_pairwise_ne.mp v.nd)
    intro a b ha hb hne e
    exact hne (t.inj a b (v.mem a ha).1 (v.mem b hb).1 e)
  · obtain ⟨r, hr, rfl⟩ := List.mem_map.mp hq
    obtain ⟨a, b, _⟩ := t.val r (v.mem r hr).1 (v.mem r hr).2
    exact ⟨a, b⟩
theorem Twin.bad {p p' : Pl} {f : Pr → Pr} {g : List Int → List Int} (t : Twin p p' f g) {aw : List Int} (w : Wsd p [] aw) (h : Bad p aw) : Bad p' (g aw) := by
  obtain ⟨l, v, hm⟩ := h
  exact ⟨l.map f, t.valid v, by rw [t.mar aw l w v]; exact hm⟩
theorem twin_rank {p p' : Pl} (ok : PlOk p) (ok' : PlOk p') {f f' : Pr → Pr} {g g' : List Int → List Int} (t : Twin p p' f g) (t' : Twin p' p f' g') : rankI p = rankI p' :=
  rank_eq ok ok' (fun aw' w' hb => ⟨g' aw', (t'.wsd aw' w').1, by rw [(t'.wsd aw' w').2]; omega, t'.bad w' hb⟩) (fun aw w hb => ⟨g aw, (t.wsd aw w).1, by rw [(t.wsd aw w).2]; omega, t.bad w hb⟩)
theorem twin_held {p p' : Pl} (ok : PlOk p) (ok' : PlOk p') {f f' : Pr → Pr} {g g' : List Int → List Int} (t : Twin p p' f g) (t' : Twin p' p f' g') (hg : ∀ aw, g' (g aw) = aw) {aw : List Int} (w : Wsd p [] aw) : heldB p' (g aw) = heldB p aw := by
  rw [Bool.eq_iff_iff, held_iff ok' (t.wsd aw w).1, held_iff ok w]
  constructor
  · exact fun h hb => h (t.bad w hb)
  · intro h hb
    have := t'.bad (t.wsd aw w).1 hb
    rw [hg] at this
    exact h this
theorem lots_valid {p : Pl} (ok : PlOk p) {l : Lot} (h : l ∈ lots p) : Valid p l := by
  have := lots_iff.mp h
  refine ⟨?_, fun q hq => pairs_mem (this.2.subset hq)⟩
  refine List.Nodup.sublist this.2 ?_
  unfold pairs
  rw [(List.mergeSort_perm _ _).nodup_iff]
  exact pairs0_nodup ok
theorem pairs_iff {p : Pl} (ok : PlOk p) {q : Pr} : q ∈ pairs p ↔ q.1 < p.hrs.length ∧ q.2 ∈ p.subs ∧ 0 < lesson p q := by
  unfold pairs
  rw [List.mem_mergeSort, pairs0_iff ok]
theorem pairs_nodup {p : Pl} (ok : PlOk p) : (pairs p).Nodup := by
  unfold pairs
  rw [(List.mergeSort_perm _ _).nodup_iff]
  exact pairs0_nodup ok
/-- a lot's twin, in its order -/
theorem Twin.lot {p p' : Pl} (ok : PlOk p) (ok' : PlOk p') {f : Pr → Pr} {g : List Int → List Int} (t : Twin p p' f g) {l : Lot} (h : l ∈ lots p) : ∃ l' ∈ lots p', (l.map f).Perm l' := by
  have v := lots_valid ok h
  have hl := lots_iff.mp h
  have v' := t.valid v
  have hp : (l.map f).Perm ((pairs p').filter fun q => decide (q ∈ l.map f)) := by
    refine (List.perm_ext_iff_of_nodup v'.nd ((pairs_nodup ok').filter _)).mpr fun q => ?_
    rw [List.mem_filter]
    constructor
    · intro hq
      refine ⟨?_, by simpa using hq⟩
      obtain ⟨r, hr, rfl⟩ := List.mem_map.mp hq
      obtain ⟨m1, m2⟩ := v.mem r hr
      obtain ⟨a, b, c⟩ := t.val r m1 m2
      rw [pairs_iff ok', c]
      exact ⟨a, b, ((pairs_iff ok).mp (hl.2.subset hr)).2.2⟩
    · rintro ⟨_, hq⟩
      exact of_decide_eq_true hq
  refine ⟨_, lots_iff.mpr ⟨fun e => ?_, List.filter_sublist⟩, hp⟩
  rw [e] at hp
  have := hp.eq_nil
  exact hl.1 (List.map_eq_nil_iff.mp this)
/-- the least margin is the same -/
theorem twin_tight {p p' : Pl} (ok : PlOk p) (ok' : PlOk p') {f f' : Pr → Pr} {g g' : List Int → List Int} (t : Twin p p' f g) (t' : Twin p' p f' g') (hg : ∀ aw, g' (g aw) = aw) {aw : List Int} (w : Wsd p [] aw) : (tight p' (g aw)).map Prod.fst = (tight p aw).map Prod.fst := by
  obtain ⟨h1, h2⟩ := tight_spec (p := p) (aw := aw) (ls := lots p) (f := none)
  obtain ⟨h3, h4⟩ := tight_spec (p := p') (aw := g aw) (ls := lots p') (f := none)
  have w' := (t.wsd aw w).1
  unfold tight
  cases e : (lots p).foldl (tgStep p aw) none with
  | none =>
    have e0 := (h1.mp e).1
    have : lots p' = [] := by
      rw [List.eq_nil_iff_forall_not_mem]
      intro l hl
      obtain ⟨l', hl', _⟩ := t'.lot ok' ok hl
      rw [e0] at hl'
      cases hl'
    rw [h3.mpr ⟨this, rfl⟩]
  | some x =>
    obtain ⟨a, l⟩ := x
    obtain ⟨b1, b2, _⟩ := h2 a l e
    obtain ⟨hl, hm⟩ : l ∈ lots p ∧ margin p aw l = a := by
      rcases b1 with h | h
      · cases h
      · exact h
    cases e' : (lots p').foldl (tgStep p' (g aw)) none with
    | none =>
      have e0 := (h3.mp e').1
      obtain ⟨l', hl', _⟩ := t.lot ok ok' hl
      rw [e0] at hl'
      cases hl'
    | some y =>
      obtain ⟨b, m⟩ := y
      obtain ⟨c1, c2, _⟩ := h4 b m e'
      obtain ⟨hm', hb⟩ : m ∈ lots p' ∧ margin p' (g aw) m = b := by
        rcases c1 with h | h
        · cases h
        · exact h
      obtain ⟨l', hl', hp⟩ := t.lot ok ok' hl
      have i1 := c2 l' hl'
      rw [← margin_perm hp, t.mar aw l w (lots_valid ok hl), hm] at i1
      obtain ⟨m', hm2, hp2⟩ := t'.lot ok' ok hm'
      have i2 := b2 m' hm2
      have i3 := t'.mar (g aw) m w' (lots_valid ok' hm')
      rw [hg, margin_perm hp2, hb] at i3
      simp
      omega
/-- room is the same -/
theorem room_le {p p' : Pl} (ok : PlOk p) (ok' : PlOk p') {f : Pr → Pr} {g : List Int → List Int} (t : Twin p p' f g) {q : Pr} (h1 : q.1 < p.hrs.length) (h2 : q.2 ∈ p.subs) {z : Int} (hz : 0 ≤ z) : roomI p' (f q) z ≤ roomI p q z := by
  have ne : ∀ (p : Pl) q, 0 < ((lotsW (pairs p) q).map fun l => margin p (worst p l z) l).length := fun p q => by
    rw [List.length_map]
    exact List.length_pos_of_mem (lotsW_iff.mpr ⟨[], by simp, rfl⟩)
  obtain ⟨m1, _⟩ := minI_spec (ne p q)
  obtain ⟨l, hl, e⟩ := List.mem_map.mp m1
  obtain ⟨v1, v2, _⟩ := t.val q h1 h2
  obtain ⟨lo, v, hq⟩ := lotsW_ok ok h1 h2 hl
  obtain ⟨w1, w2, w3⟩ := worst_facts ok l hz
  have w0 : Wsd p [] (worst p l z) := ⟨w1.len, w1.bd⟩
  have hsum : (worst p l z).sum ≤ z := by
    rw [w2]
    exact tkc_le (byW_val ok l) hz
  have v' := t.valid v
  have hfq : f q ∈ l.map f := List.mem_map_of_mem hq
  -- the twin, in its order
  have hp : (l.map f).Perm (f q :: ((pairs p').filter fun o => decide (o ≠ f q)).filter fun o => decide (o ∈ l.map f)) := by
    refine (List.perm_ext_iff_of_nodup v'.nd (List.nodup_cons.mpr ⟨fun h => ?_, ((pairs_nodup ok').filter _).filter _⟩)).mpr fun o => ?_
    · have := of_decide_eq_true (List.mem_filter.mp (List.mem_filter.mp h).1).2
      exact this rfl
    · rw [List.mem_cons, List.mem_filter, List.mem_filter]
      constructor
      · intro ho
        by_cases c : o = f q
        · exact .inl c
        · refine .inr ⟨⟨?_, by simpa using c⟩, by simpa using ho⟩
          obtain ⟨r, hr, rfl⟩ := List.mem_map.mp ho
          obtain ⟨r1, r2⟩ := v.mem r hr
          obtain ⟨a, b, cc⟩ := t.val r r1 r2
          obtain ⟨l2, hs, el⟩ := lotsW_iff.mp hl
          rw [el] at hr
          rcases List.mem_cons.mp hr with rfl | hr2
          · exact absurd rfl c
          · rw [pairs_iff ok', cc]
            exact ⟨a, b, ((pairs_iff ok).mp (List.mem_filter.mp (hs.subset hr2)).1).2.2⟩
      · rintro (rfl | ⟨_, h⟩)
        · exact hfq
        · exact of_decide_eq_true h
  have hl' : (f q :: ((pairs p').filter fun o => decide (o ≠ f q)).filter fun o => decide (o ∈ l.map f)) ∈ lotsW (pairs p') (f q) := lotsW_iff.mpr ⟨_, List.filter_sublist, rfl⟩
  generalize (f q :: ((pairs p').filter fun o => decide (o ≠ f q)).filter fun o => decide (o ∈ l.map f)) = l' at hp hl'
  obtain ⟨a1, a2⟩ := t.wsd _ w0
  have b1 := worst_best ok' (l := l') (aw := g (worst p l z)) ⟨a1.len, a1.bd⟩ (z := z) (by rw [a2]; exact hsum)
  have b2 := t.mar _ l w0 v
  rw [margin_perm hp] at b2
  obtain ⟨_, c2⟩ := minI_spec (ne p' (f q))
  have := c2 _ (List.mem_map_of_mem hl')
  unfold roomI
  omega
theorem twin_room {p p' : Pl} (ok : PlOk p) (ok' : PlOk p') {f f' : Pr → Pr} {g g' : List Int → List Int} (t : Twin p p' f g) (t' : Twin p' p f' g') {q : Pr} (hf : f' (f q) = q) (h1 : q.1 < p.hrs.length) (h2 : q.2 ∈ p.subs) {z : Int} (hz : 0 ≤ z) : roomI p' (f q) z = roomI p q z := by
  obtain ⟨v1, v2, _⟩ := t.val q h1 h2
  have a := room_le ok ok' t h1 h2 hz
  have b := room_le ok' ok t' v1 v2 hz
  rw [hf] at b
  omega
theorem SpareD.uniq {k k' : Sk} {i i' : Nat} {s s' : Srt} {z : Int} {d d' : D} (hn : s'.num = s.num) (hb : bearsB (plOf k') z = bearsB (plOf k) z) (he : ∀ x, numOk x → bearsB (plOf (numK k' i' s' x)) z = bearsB (plOf (numK k i s x)) z) (hs : numOk s.num) (h : SpareD k i s z d) (h' : SpareD k' i' s' z d') : d' = d := by
  rcases h with ⟨b, rfl⟩ | ⟨m, rfl, b, c⟩
  · rcases h' with ⟨_, rfl⟩ | ⟨m', rfl, b', _⟩
    · rfl
    · rw [hb, b] at b'
      cases b'
  · rcases h' with ⟨b', rfl⟩ | ⟨m', rfl, b', c'⟩
    · rw [hb, b] at b'
      cases b'
    · have y := c.yes
      have y' := c'.yes
      have h1 := c.m1
      have h2 := c'.m1
      have h3 := c.m0
      have h4 := c'.m0
      rw [hn] at y' h2
      rw [he _ ⟨by omega, by have := hs.2; omega⟩] at y'
      have i1 := c.no m' h4 h2 y'
      rw [← he _ ⟨by omega, by have := hs.2; omega⟩] at y
      have i2 := c'.no m h3 (by omega) (by rw [hn]; exact y)
      rw [show m' = m by omega]
def turn0 (k : Sk) : Sk := ⟨k.tops, k.clk, k.srt.reverse⟩
def turn1 (k : Sk) : Sk := ⟨k.tops, k.clk.reverse, k.srt⟩
def revS (s : Srt) : Srt := ⟨s.nm, s.gv.reverse, s.num, s.mst, s.ill⟩
def turn2 (k : Sk) : Sk := ⟨k.tops.reverse, k.clk.map List.reverse, k.srt.map revS⟩
theorem turn00 (k : Sk) : turn0 (turn0 k) = k := by unfold turn0; simp
theorem turn11 (k : Sk) : turn1 (turn1 k) = k := by unfold turn1; simp
theorem revS2 (s : Srt) : revS (revS s) = s := by unfold revS; simp
theorem turn22 (k : Sk) : turn2 (turn2 k) = k := by
  obtain ⟨a, b, c⟩ := k
  unfold turn2
  have h1 : b.map (List.reverse ∘ List.reverse) = b := by
    conv => rhs; rw [← List.map_id b]
    refine List.map_congr_left fun x _ => ?_
    simp
  have h2 : c.map (revS ∘ revS) = c := by
    conv => rhs; rw [← List.map_id c]
    refine List.map_congr_left fun x _ => revS2 x
  simp only [List.reverse_reverse, List.map_map, h1, h2]
theorem turn0_ok {k : Sk} (ok : PlOk (plOf k)) : PlOk (plOf (turn0 k)) := by
  have hk : (plOf (turn0 k)).kds = (plOf k).kds.reverse := by
    show k.srt.reverse.map kdOf = (k.srt.map kdOf).reverse
    rw [List.map_reverse]
  refine ⟨ok.s0, ok.s1, ok.sn, ok.sm, ok.h0, ok.h1, ok.h2, ok.ho, ?_, ?_, ?_, ?_⟩
  · rw [hk]
    simpa using ok.k0
  · rw [hk, List.length_reverse]
    exact ok.k1
  · rw [hk, List.map_reverse, (List.reverse_perm _).nodup_iff]
    exact ok.kn
  · intro kd hkd
    rw [hk, List.mem_reverse] at hkd
    exact ok.ko kd hkd
theorem turn1_ok {k : Sk} (ok : PlOk (plOf k)) : PlOk (plOf (turn1 k)) := by
  have hk : (plOf (turn1 k)).hrs = (plOf k).hrs.reverse := by
    show k.clk.reverse.map hrOf = (k.clk.map hrOf).reverse
    rw [List.map_reverse]
  refine ⟨ok.s0, ok.s1, ok.sn, ok.sm, ?_, ?_, ?_, ?_, ok.k0, ok.k1, ok.kn, ok.ko⟩
  · rw [hk]
    simpa using ok.h0
  · rw [hk, List.length_reverse]
    exact ok.h1
  · rw [hk, List.length_reverse]
    exact ok.h2
  · intro h hh
    rw [hk, List.mem_reverse] at hh
    exact ok.ho h hh
theorem turn2_ok {k : Sk} (ok : PlOk (plOf k)) : PlOk (plOf (turn2 k)) := by
  refine ⟨?_, ?_, ?_, ?_, ?_, ?_, ?_, ?_, ?_, ?_, ?_, ?_⟩
  · show k.tops.reverse ≠ []
    have : k.tops ≠ [] := ok.s0
    simpa using this
  · show k.tops.reverse.length ≤ 4
    rw [List.length_reverse]
    exact ok.s1
  · show k.tops.reverse.Nodup
    rw [(List.reverse_perm _).nodup_iff]
    exact ok.sn
  · intro s hs
    exact ok.sm s (List.mem_reverse.mp hs)
  · show (k.clk.map List.reverse).map hrOf ≠ []
    have : k.clk.map hrOf ≠ [] := ok.h0
    simpa using this
  · show ((k.clk.map List.reverse).map hrOf).length ≤ 3
    have : (k.clk.map hrOf).length ≤ 3 := ok.h1
    simpa using this
  · show ((k.clk.map List.reverse).map hrOf).length * k.tops.reverse.length ≤ 9
    have : (k.clk.map hrOf).length * k.tops.length ≤ 9 := ok.h2
    simpa using this
  · intro h hh
    obtain ⟨r, hr, rfl⟩ := List.mem_map.mp (show h ∈ (k.clk.map List.reverse).map hrOf from hh)
    obtain ⟨r0, hr0, rfl⟩ := List.mem_map.mp hr
    have o := ok.ho (hrOf r0) (List.mem_map_of_mem hr0)
    refine ⟨?_, fun n hn => o.num n (List.mem_reverse.mp hn)⟩
    show r0.reverse.length = k.tops.reverse.length
    rw [List.length_reverse, List.length_reverse]
    exact o.len
  · show (k.srt.map revS).map kdOf ≠ []
    have : k.srt.map kdOf ≠ [] := ok.k0
    simpa using this
  · show ((k.srt.map revS).map kdOf).length ≤ 5
    have : (k.srt.map kdOf).length ≤ 5 := ok.k1
    simpa using this
  · show (((k.srt.map revS).map kdOf).map Kd.nm).Nodup
    have : ((k.srt.map kdOf).map Kd.nm).Nodup := ok.kn
    rw [List.map_map, List.map_map] at *
    exact this
  · intro kd hkd
    obtain ⟨s, hs, rfl⟩ := List.mem_map.mp (show kd ∈ (k.srt.map revS).map kdOf from hkd)
    obtain ⟨s0, hs0, rfl⟩ := List.mem_map.mp hs
    have o := ok.ko (kdOf s0) (List.mem_map_of_mem hs0)
    refine ⟨o.nm, ?_, fun g hg => o.gn g (List.mem_reverse.mp hg), ?_, o.num, o.m0, o.m1, o.ill⟩
    · show s0.gv.reverse ≠ []
      have : s0.gv ≠ [] := o.gv
      simpa using this
    · show s0.gv.reverse = k.tops.reverse.filter fun s => decide (s ∈ s0.gv.reverse)
      have h : s0.gv = k.tops.filter fun s => decide (s ∈ s0.gv) := o.sub
      conv => lhs; rw [h]
      rw [List.filter_reverse]
      congr 1
      refine List.filter_congr fun x _ => ?_
      simp
theorem there_rev : ∀ {ks : List Kd} {aw : List Int} {l : Lot}, aw.length = ks.length → there ks.reverse aw.reverse l = there ks aw l
  | [], aw, l, h => by
    rw [List.eq_nil_of_length_eq_zero h]
    rfl
  | k :: ks, [], l, h => by simp at h
  | k :: ks, a :: aw, l, h => by
    have hl : aw.length = ks.length := by simpa using h
    rw [List.reverse_cons, List.reverse_cons, there_app (by simp [hl]), there_rev hl]
    have e := there_app (ks1 := [k]) (ks2 := ks) (a1 := [a]) (a2 := aw) (l := l) rfl
    have e2 : there (k :: ks) (a :: aw) l = there ([k] ++ ks) ([a] ++ aw) l := rfl
    rw [e2, e]
    omega
theorem wsd_rev {k : Sk} {aw : List Int} (w : Wsd (plOf k) [] aw) : Wsd (plOf (turn0 k)) [] aw.reverse := by
  have hk : (plOf (turn0 k)).kds = (plOf k).kds.reverse := by
    show k.srt.reverse.map kdOf = (k.srt.map kdOf).reverse
    rw [List.map_reverse]
  have hl := w.len
  refine ⟨by rw [hk, List.length_reverse, List.length_reverse]; exact hl, fun i a kd h1 h2 => ?_⟩
  rw [hk] at h2
  have i1 : i < aw.length := by
    have := (List.getElem?_eq_some_iff.mp h1).1
    simpa using this
  rw [List.getElem?_reverse i1] at h1
  rw [List.getElem?_reverse (by omega)] at h2
  rw [← hl] at h2
  exact w.bd _ a kd h1 h2
theorem sum_rev : ∀ xs : List Int, xs.reverse.sum = xs.sum
  | [] => rfl
  | x :: xs => by
    rw [List.reverse_cons, List.sum_append, sum_rev xs, List.sum_cons]
    simp
    omega
theorem twin0 {k : Sk} (ok : PlOk (plOf k)) : Twin (plOf k) (plOf (turn0 k)) id List.reverse where
  val q h1 h2 := ⟨h1, h2, rfl⟩
  inj q r _ _ e := e
  wsd aw w := ⟨wsd_rev w, sum_rev aw⟩
  mar aw l w v := by
    rw [List.map_id]
    unfold margin
    have hk : (plOf (turn0 k)).kds = (plOf k).kds.reverse := by
      show k.srt.reverse.map kdOf = (k.srt.map kdOf).reverse
      rw [List.map_reverse]
    rw [hk, there_rev w.len]
    rfl
def flipH (n : Nat) (q : Pr) : Pr := (n - 1 - q.1, q.2)
theorem flip2 {n : Nat} {q : Pr} (h : q.1 < n) : flipH n (flipH n q) = q := by
  obtain ⟨a, b⟩ := q
  have h : a < n := h
  show (n - 1 - (n - 1 - a), b) = (a, b)
  rw [show n - 1 - (n - 1 - a) = a by omega]
theorem flip_inj {n : Nat} {q r : Pr} (h : q.1 < n) (h2 : r.1 < n) (e : flipH n q = flipH n r) : q = r := by
  rw [← flip2 h, e, flip2 h2]
theorem hrs1 (k : Sk) : (plOf k).hrs.length = k.clk.length := by
  show (k.clk.map hrOf).length = _
  simp
theorem lesson1 {k : Sk} {q : Pr} (h1 : q.1 < k.clk.length) : lesson (plOf (turn1 k)) (flipH k.clk.length q) = lesson (plOf k) q := by
  obtain ⟨h, t⟩ := q
  have h1 : h < k.clk.length := h1
  unfold lesson flipH
  have e : (plOf (turn1 k)).hrs.getD (k.clk.length - 1 - h) default = (plOf k).hrs.getD h default := by
    show (k.clk.reverse.map hrOf).getD _ default = (k.clk.map hrOf).getD h default
    rw [List.getD_eq_getElem?_getD, List.getD_eq_getElem?_getD, List.getElem?_map, List.getElem?_map, List.getElem?_reverse (by omega)]
    rw [show k.clk.length - 1 - (k.clk.length - 1 - h) = h by omega]
  dsimp only
  rw [e]
  rfl
theorem hset_flip {n : Nat} {gv : List Str} {l : Lot} (hl : ∀ q ∈ l, q.1 < n) : (hset gv l).length ≤ (hset gv (l.map (flipH n))).length := by
  have hn : ((hset gv l).map fun x => (n : Int) - 1 - x).Nodup := by
    rw [List.nodup_iff_pairwise_ne, List.pairwise_map]
    refine (List.nodup_iff_pairwise_ne.mp (hset_nodup gv l)).imp fun h e => h ?_
    omega
  have := nodup_len hn (ys := hset gv (l.map (flipH n))) fun x hx => by
    obtain ⟨y, hy, rfl⟩ := List.mem_map.mp hx
    obtain ⟨q, hq, hg, rfl⟩ := hset_mem.mp hy
    refine hset_mem.mpr ⟨flipH n q, List.mem_map_of_mem hq, hg, ?_⟩
    have := hl q hq
    show ((n - 1 - q.1 : Nat) : Int) = _
    omega
  simpa using this
theorem weight_flip {n : Nat} {kd : Kd} {l : Lot} (hl : ∀ q ∈ l, q.1 < n) : weight kd (l.map (flipH n)) = weight kd l := by
  have a := hset_flip (gv := kd.gv) hl
  have b := hset_flip (n := n) (gv := kd.gv) (l := l.map (flipH n)) fun q hq => by
    obtain ⟨r, hr, rfl⟩ := List.mem_map.mp hq
    have := hl r hr
    show n - 1 - r.1 < n
    omega
  have e : (l.map (flipH n)).map (flipH n) = l := by
    rw [List.map_map]
    conv => rhs; rw [← List.map_id l]
    exact List.map_congr_left fun q hq => flip2 (hl q hq)
  rw [e] at b
  unfold weight
  rw [show (hset kd.gv (l.map (flipH n))).length = (hset kd.gv l).length by omega]
theorem twin1 {k : Sk} (ok : PlOk (plOf k)) : Twin (plOf k) (plOf (turn1 k)) (flipH k.clk.length) id where
  val q h1 h2 := by
    rw [hrs1] at h1
    refine ⟨?_, h2, lesson1 h1⟩
    rw [hrs1]
    show k.clk.length - 1 - q.1 < k.clk.reverse.length
    rw [List.length_reverse]
    omega
  inj q r h1 h2 e := by
    rw [hrs1] at h1 h2
    exact flip_inj h1 h2 e
  wsd aw w := ⟨⟨w.len, w.bd⟩, rfl⟩
  mar aw l w v := by
    have hl : ∀ q ∈ l, q.1 < k.clk.length := fun q hq => by
      have := (v.mem q hq).1
      rwa [hrs1] at this
    unfold margin
    have h1 : there (plOf (turn1 k)).kds aw (l.map (flipH k.clk.length)) = there (plOf k).kds aw l := by
      unfold there
      show ((((plOf k).kds.zip aw).map fun q => (q.1.num - q.2) * weight q.1 (l.map (flipH k.clk.length)))).sum = _
      congr 1
      exact List.map_congr_left fun q _ => by rw [weight_flip hl]
    have h2 : needs (plOf (turn1 k)) (l.map (flipH k.clk.length)) = needs (plOf k) l := by
      unfold needs
      rw [List.map_map]
      congr 1
      exact List.map_congr_left fun q hq => lesson1 (hl q hq)
    show there (plOf (turn1 k)).kds aw _ - _ = _
    rw [h1, h2]
theorem lesson2 {k : Sk} (ok : PlOk (plOf k)) {q : Pr} (h1 : q.1 < k.clk.length) (h2 : q.2 ∈ k.tops) : lesson (plOf (turn2 k)) q = lesson (plOf k) q := by
  have ok' := turn2_ok ok
  obtain ⟨h, t⟩ := q
  have h1 : h < k.clk.length := h1
  have hr : k.clk[h]? = some k.clk[h] := List.getElem?_eq_getElem h1
  have o : k.clk[h].length = k.tops.length := (ok.ho (hrOf k.clk[h]) (List.mem_map_of_mem (List.getElem_mem h1))).len
  obtain ⟨j, hj, e⟩ := List.mem_iff_getElem.mp (show t ∈ k.tops from h2)
  have e1 : (plOf k).hrs[h]? = some (hrOf k.clk[h]) := by
    show (k.clk.map hrOf)[h]? = _
    rw [List.getElem?_map, hr]
    rfl
  have e2 : (plOf (turn2 k)).hrs[h]? = some (hrOf k.clk[h].reverse) := by
    show ((k.clk.map List.reverse).map hrOf)[h]? = _
    rw [List.getElem?_map, List.getElem?_map, hr]
    rfl
  have e3 : (plOf k).subs[j]? = some t := by
    show k.tops[j]? = _
    rw [List.getElem?_eq_getElem hj, e]
  have e4 : (plOf (turn2 k)).subs[k.tops.length - 1 - j]? = some t := by
    show k.tops.reverse[k.tops.length - 1 - j]? = _
    rw [List.getElem?_reverse (by omega), show k.tops.length - 1 - (k.tops.length - 1 - j) = j by omega]
    exact e3
  have hj2 : j < k.clk[h].length := by omega
  have e5 : (hrOf k.clk[h]).ns[j]? = some k.clk[h][j] := List.getElem?_eq_getElem hj2
  have e6 : (hrOf k.clk[h].reverse).ns[k.tops.length - 1 - j]? = some k.clk[h][j] := by
    show k.clk[h].reverse[k.tops.length - 1 - j]? = _
    rw [List.getElem?_reverse (by omega), show k.clk[h].length - 1 - (k.tops.length - 1 - j) = j by omega]
    exact e5
  rw [lesson_at ok e1 e3 e5, lesson_at ok' e2 e4 e6]
theorem weight_rev {s : Srt} {l : Lot} : weight (kdOf (revS s)) l = weight (kdOf s) l := weight_congr rfl fun x => by
  constructor
  · rintro ⟨q, hq, hg, e⟩
    exact ⟨q, hq, List.mem_reverse.mp hg, e⟩
  · rintro ⟨q, hq, hg, e⟩
    exact ⟨q, hq, List.mem_reverse.mpr hg, e⟩
theorem twin2 {k : Sk} (ok : PlOk (plOf k)) : Twin (plOf k) (plOf (turn2 k)) id id where
  val q h1 h2 := by
    rw [hrs1] at h1
    refine ⟨?_, List.mem_reverse.mpr h2, lesson2 ok h1 h2⟩
    rw [hrs1]
    show q.1 < (k.clk.map List.reverse).length
    simpa using h1
  inj q r _ _ e := e
  wsd aw w := by
    refine ⟨⟨?_, fun i a kd h1 h2 => ?_⟩, rfl⟩
    · refine w.len.trans ?_
      show (k.srt.map kdOf).length = ((k.srt.map revS).map kdOf).length
      simp
    · have h2 : ((k.srt.map revS).map kdOf)[i]? = some kd := h2
      rw [List.getElem?_map, List.getElem?_map] at h2
      obtain ⟨s, hs, rfl⟩ := Option.map_eq_some_iff.mp h2
      obtain ⟨s0, hs0, rfl⟩ := Option.map_eq_some_iff.mp hs
      exact w.bd i a (kdOf s0) h1 (by show (k.srt.map kdOf)[i]? = _; rw [List.getElem?_map, hs0]; rfl)
  mar aw l w v := by
    rw [List.map_id]
    unfold margin
    have h1 : there (plOf (turn2 k)).kds aw l = there (plOf k).kds aw l := by
      unfold there
      show ((((k.srt.map revS).map kdOf).zip aw).map fun q => (q.1.num - q.2) * weight q.1 l).sum = (((k.srt.map kdOf).zip aw).map fun q => (q.1.num - q.2) * weight q.1 l).sum
      rw [List.zip_map_left, List.zip_map_left, List.zip_map_left, List.map_map, List.map_map, List.map_map]
      congr 1
      refine List.map_congr_left fun q _ => ?_
      obtain ⟨s, a⟩ := q
      show ((revS s).num - a) * weight (kdOf (revS s)) l = (s.num - a) * weight (kdOf s) l
      rw [weight_rev]
      rfl
    have h2 : needs (plOf (turn2 k)) l = needs (plOf k) l := by
      unfold needs
      congr 1
      refine List.map_congr_left fun q hq => ?_
      obtain ⟨m1, m2⟩ := v.mem q hq
      rw [hrs1] at m1
      exact lesson2 ok m1 m2
    show there (plOf (turn2 k)).kds aw _ - _ = _
    rw [h1, h2]
theorem num_turn0 {k : Sk} {i : Nat} (hi : i < k.srt.length) (s : Srt) (x : Int) : turn0 (numK k i s x) = numK (turn0 k) (k.srt.length - 1 - i) s x := by
  unfold turn0 numK setK
  congr 1
  refine List.ext_getElem? fun j => ?_
  by_cases hj : j < k.srt.length
  · rw [List.getElem?_reverse (by simpa using hj), List.length_set]
    by_cases e : i = k.srt.length - 1 - j
    · rw [← e, List.getElem?_set_self hi, show k.srt.length - 1 - i = j by omega, List.getElem?_set_self (by simpa using hj)]
    · rw [List.getElem?_set_ne e, List.getElem?_set_ne (by omega), List.getElem?_reverse hj]
  · rw [List.getElem?_eq_none (by simp; omega), List.getElem?_eq_none (by simp; omega)]
theorem num_turn1 (k : Sk) (i : Nat) (s : Srt) (x : Int) : turn1 (numK k i s x) = numK (turn1 k) i s x := rfl
theorem num_turn2 (k : Sk) (i : Nat) (s : Srt) (x : Int) : turn2 (numK k i s x) = numK (turn2 k) i (revS s) x := by
  unfold turn2 numK setK
  rw [List.map_set]
  rfl
theorem rank_val {p : Pl} (ok : PlOk p) {r : Int} (hr : r ≤ 1000000000000000000000000000000000000000) (h1 : ∃ aw, Wsd p [] aw ∧ aw.sum ≤ r + 1 ∧ Bad p aw) (h2 : ∀ aw, Wsd p [] aw → aw.sum ≤ r → ¬ Bad p aw) : rankI p = r := by
  have a := (rank_lt ok (z := r + 1) (by omega)).mpr h1
  have b : ¬ rankI p < r := fun c => by
    obtain ⟨aw, w, e, hb⟩ := (rank_lt ok (z := r) (by omega)).mp c
    exact h2 aw w e hb
  omega
theorem strD_val {p : Pl} (ok : PlOk p) {r : Int} (r0 : 0 ≤ r) (hr : r ≤ 1000000000000000000000000000000000000000) (h1 : ∃ aw, Wsd p [] aw ∧ aw.sum ≤ r + 1 ∧ Bad p aw) (h2 : ∀ aw, Wsd p [] aw → aw.sum ≤ r → ¬ Bad p aw) : strD (weakest p) = .int r := by
  have e := rank_val ok hr h1 h2
  unfold rankI at e
  cases h : weakest p with
  | none =>
    rw [h] at e
    dsimp only at e
    omega
  | some f =>
    obtain ⟨s, l⟩ := f
    rw [h] at e
    dsimp only at e
    unfold strD
    dsimp only
    rw [if_pos (by omega), e]
theorem strD_endless {p : Pl} (ok : PlOk p) (h : ∀ aw, Wsd p [] aw → ¬ Bad p aw) : strD (weakest p) = .str "endless" := by
  cases hw : weakest p with
  | none => rfl
  | some f =>
    obtain ⟨s, l⟩ := f
    obtain ⟨aw, w, _, hb⟩ := (weak_iff ok s).mp ⟨s, l, hw, Int.le_refl _⟩
    exact absurd hb (h aw w)
theorem strD_none {p : Pl} (ok : PlOk p) {aw : List Int} (w : Wsd p [] aw) (h0 : aw.sum ≤ 0) (hb : Bad p aw) : strD (weakest p) = .non := by
  obtain ⟨s, l, e, h⟩ := (weak_iff ok 0).mpr ⟨aw, w, h0, hb⟩
  rw [e]
  unfold strD
  dsimp only
  rw [if_neg (by omega)]
theorem bears_iff {p : Pl} (ok : PlOk p) {z : Int} (hz : z ≤ 1000000000000000000000000000000) : bearsB p z = true ↔ ∀ aw, Wsd p [] aw → aw.sum ≤ z → ¬ Bad p aw := by
  constructor
  · intro h aw w e hb
    rw [(bears_bad ok hz).mpr ⟨aw, w, e, hb⟩] at h
    cases h
  · intro h
    cases hb : bearsB p z with
    | true => rfl
    | false =>
      obtain ⟨aw, w, e, hb⟩ := (bears_bad ok hz).mp hb
      exact absurd hb (h aw w e)
theorem spare_val {k : Sk} {i : Nat} {s : Srt} {z v : Int} {d : D} (h : SpareD k i s z d) (hb : bearsB (plOf k) z = true) (v0 : 0 ≤ v) (v1 : v ≤ s.num) (hv : ∀ m, 0 ≤ m → m ≤ s.num → (bearsB (plOf (numK k i s (s.num - m))) z = true ↔ m ≤ v)) : d = .int v := by
  rcases h with ⟨b, _⟩ | ⟨m, rfl, _, c⟩
  · rw [hb] at b
    cases b
  · have h1 := (hv m c.m0 c.m1).mp c.yes
    have h2 := c.no v v0 v1 ((hv v v0 v1).mpr (Int.le_refl _))
    rw [show m = v by omega]
theorem room_val {k : Sk} (ok : PlOk (plOf k)) {h j : Nat} {row : List Int} {u : Int} {t : Str} (hh : k.clk[h]? = some row) (hj : row[j]? = some u) (ht : k.tops[j]? = some t) {z v : Int} (hz : numOk z) (hb : bearsB (plOf k) z = true) (v0 : 0 ≤ v)
    (h1 : bearsB (plOf (setC k h (row.set j (u + v)))) z = true) (h2 : bearsB (plOf (setC k h (row.set j (u + (v + 1))))) z = false) : roomI (plOf k) (h, t) z = v := by
  have q1 : (h, t).1 < (plOf k).hrs.length := by
    show h < (k.clk.map hrOf).length
    rw [List.length_map]
    exact (List.getElem?_eq_some_iff.mp hh).1
  have q2 : (h, t).2 ∈ (plOf k).subs := List.mem_of_getElem? ht
  have ne : 0 < ((lotsW (pairs (plOf k)) (h, t)).map fun l => margin (plOf k) (worst (plOf k) l z) l).length := by
    rw [List.length_map]
    exact List.length_pos_of_mem (lotsW_iff.mpr ⟨[], by simp, rfl⟩)
  obtain ⟨m1, m2⟩ := minI_spec ne
  have ge : ∀ l ∈ lotsW (pairs (plOf k)) (h, t), v ≤ margin (plOf k) (worst (plOf k) l z) l := fun l hl => Classical.byContradiction fun hc => by
    have := room_less ok (more_ok ok hh hj v0) (more_set ok hh hj ht v) q1 q2 hz hl (by omega)
    rw [h1] at this
    cases this
  have lt : ∃ l ∈ lotsW (pairs (plOf k)) (h, t), margin (plOf k) (worst (plOf k) l z) l < v + 1 := Classical.byContradiction fun hc => by
    have := room_more ok (more_ok ok hh hj (by omega)) (more_set ok hh hj ht (v + 1)) hz hb fun l hl => Classical.byContradiction fun hd => hc ⟨l, hl, by omega⟩
    rw [h2] at this
    cases this
  unfold roomI
  obtain ⟨l, hl, e⟩ := List.mem_map.mp m1
  have a := ge l hl
  obtain ⟨l2, hl2, b⟩ := lt
  have c := m2 _ (List.mem_map_of_mem hl2)
  omega
def oneK (ns : List Int) (N m : Int) (ill : Option Int) : Sk := ⟨["a"], ns.map fun n => [n], [⟨"k", ["a"], N, m, ill⟩]⟩
theorem oneK_ok {ns : List Int} {N m : Int} {ill : Option Int} (h0 : ns ≠ []) (h1 : ns.length ≤ 3) (hn : ∀ n ∈ ns, 0 ≤ n) (hN : numOk N) (m0 : 1 ≤ m) (m1 : m ≤ 3) (hi : ∀ i, ill = some i → numOk i) : PlOk (plOf (oneK ns N m ill)) := by
  refine ⟨by show (["a"] : List Str) ≠ []; simp, by show (["a"] : List Str).length ≤ 4; decide, by show (["a"] : List Str).Nodup; simp, ?_, ?_, ?_, ?_, ?_, ?_, ?_, ?_, ?_⟩
  · intro s hs
    rw [List.mem_singleton.mp (show s ∈ (["a"] : List Str) from hs)]
    decide +kernel
  · show (ns.map fun n => [n]).map hrOf ≠ []
    simpa using h0
  · show ((ns.map fun n => [n]).map hrOf).length ≤ 3
    simpa using h1
  · show ((ns.map fun n => [n]).map hrOf).length * (["a"] : List Str).length ≤ 9
    simp
    omega
  · intro h hh
    obtain ⟨r, hr, rfl⟩ := List.mem_map.mp (show h ∈ (ns.map fun n => [n]).map hrOf from hh)
    obtain ⟨n, hnn, rfl⟩ := List.mem_map.mp hr
    refine ⟨rfl, fun x hx => ?_⟩
    rw [List.mem_singleton.mp (show x ∈ [n] from hx)]
    exact hn n hnn
  · show ([⟨"k", ["a"], N, m, ill⟩] : List Srt).map kdOf ≠ []
    simp
  · show (([⟨"k", ["a"], N, m, ill⟩] : List Srt).map kdOf).length ≤ 5
    simp
  · show ((([⟨"k", ["a"], N, m, ill⟩] : List Srt).map kdOf).map Kd.nm).Nodup
    simp
  · intro kd hkd
    rw [List.mem_singleton.mp (show kd ∈ [kdOf ⟨"k", ["a"], N, m, ill⟩] from hkd)]
    refine ⟨by show isNameB "k" = true; decide +kernel, by show (["a"] : List Str) ≠ []; simp, fun g hg => ?_, ?_, hN, m0, m1, hi⟩
    · rw [List.mem_singleton.mp (show g ∈ (["a"] : List Str) from hg)]
      decide +kernel
    · show (["a"] : List Str) = List.filter (fun s => decide (s ∈ (["a"] : List Str))) (["a"] : List Str)
      simp
theorem oneK_hrs (ns : List Int) (N m : Int) (ill : Option Int) : (plOf (oneK ns N m ill)).hrs.length = ns.length := by
  show ((ns.map fun n => [n]).map hrOf).length = _
  simp
theorem oneK_lesson {ns : List Int} {N m : Int} {ill : Option Int} {q : Pr} (h2 : q.2 = "a") : lesson (plOf (oneK ns N m ill)) q = ns.getD q.1 0 := by
  unfold lesson
  rw [h2]
  show (((ns.map fun n => [n]).map hrOf).getD q.1 default).ns.getD _ 0 = _
  have hf : (["a"] : List Str).findIdx (· == ("a" : Str)) = 0 := by decide +kernel
  show (((ns.map fun n => [n]).map hrOf).getD q.1 default).ns.getD ((["a"] : List Str).findIdx (· == ("a" : Str))) 0 = _
  rw [hf, List.map_map, List.getD_eq_getElem?_getD (l := List.map _ ns), List.getElem?_map, List.getD_eq_getElem?_getD (l := ns)]
  cases ns[q.1]? with
  | none => rfl
  | some n => rfl
/-- how a lot of such a plan is weighed -/
theorem oneK_margin {ns : List Int} {N m : Int} {ill : Option Int} (a : Int) {l : Lot} (v : Valid (plOf (oneK ns N m ill)) l) : margin (plOf (oneK ns N m ill)) [a] l = (N - a) * min m (l.length : Int) - (l.map fun q => ns.getD q.1 0).sum := by
  have hs : ∀ q ∈ l, q.2 = "a" := fun q hq => List.mem_singleton.mp (v.mem q hq).2
  unfold margin
  have h1 : needs (plOf (oneK ns N m ill)) l = (l.map fun q => ns.getD q.1 0).sum := by
    unfold needs
    congr 1
    exact List.map_congr_left fun q hq => oneK_lesson (hs q hq)
  have h2 : (hset ["a"] l).length = l.length := by
    have nd : (l.map fun q => (q.1 : Int)).Nodup := by
      rw [List.nodup_iff_pairwise_ne, List.pairwise_map]
      refine List.Pairwise.imp_of_mem ?_ (List.nodup_iff_pairwise_ne.mp v.nd)
      intro q r hq hr hne e
      refine hne ?_
      obtain ⟨q1, q2⟩ := q
      obtain ⟨r1, r2⟩ := r
      have e2 := hs _ hq
      have e3 := hs _ hr
      dsimp only at e e2 e3
      rw [e2, e3]
      congr 1
      omega
    have i1 := nodup_len nd (ys := hset ["a"] l) fun x hx => by
      obtain ⟨q, hq, rfl⟩ := List.mem_map.mp hx
      exact hset_mem.mpr ⟨q, hq, by rw [hs q hq]; simp, rfl⟩
    have i2 := hset_len ["a"] l
    rw [List.length_map] at i1
    omega
  rw [h1]
  congr 1
  show there [kdOf ⟨"k", ["a"], N, m, ill⟩] [a] l = _
  unfold there
  simp
  show (N - a) * weight (kdOf ⟨"k", ["a"], N, m, ill⟩) l = _
  have h3 : weight (kdOf ⟨"k", ["a"], N, m, ill⟩) l = min m ((hset ["a"] l).length : Int) := rfl
  rw [h3, h2]
theorem oneK_wsd {ns : List Int} {N m : Int} {ill : Option Int} {aw : List Int} : Wsd (plOf (oneK ns N m ill)) [] aw ↔ ∃ a, aw = [a] ∧ 0 ≤ a ∧ a ≤ illOf (kdOf ⟨"k", ["a"], N, m, ill⟩) := by
  rw [wsd_within]
  show Within [illOf (kdOf ⟨"k", ["a"], N, m, ill⟩)] aw ↔ _
  rw [within_cons]
  constructor
  · rintro ⟨a, t, rfl, h0, h1, h2⟩
    rw [within_nil.mp h2]
    exact ⟨a, rfl, h0, h1⟩
  · rintro ⟨a, rfl, h0, h1⟩
    exact ⟨a, [], rfl, h0, h1, within_nil.mpr rfl⟩
/-- all hours at once -/
def allH (H : Nat) : Lot := (List.range H).map fun h => (h, ("a" : Str))
theorem allH_valid {ns : List Int} {N m : Int} {ill : Option Int} {H : Nat} (h : H ≤ ns.length) : Valid (plOf (oneK ns N m ill)) (allH H) := by
  refine ⟨?_, fun q hq => ?_⟩
  · unfold allH
    rw [List.nodup_iff_pairwise_ne, List.pairwise_map]
    refine (List.nodup_iff_pairwise_ne.mp List.nodup_range).imp fun hne e => hne ?_
    exact (Prod.mk.inj e).1
  · obtain ⟨x, hx, rfl⟩ := List.mem_map.mp hq
    rw [List.mem_range] at hx
    rw [oneK_hrs]
    exact ⟨by show x < _; omega, by show ("a" : Str) ∈ (["a"] : List Str); simp⟩
theorem oneK_len {ns : List Int} {N m : Int} {ill : Option Int} {l : Lot} (v : Valid (plOf (oneK ns N m ill)) l) : l.length ≤ ns.length := by
  have := nodup_len v.nd (ys := allH ns.length) fun q hq => by
    obtain ⟨h1, h2⟩ := v.mem q hq
    rw [oneK_hrs] at h1
    obtain ⟨a, b⟩ := q
    rw [show b = "a" from List.mem_singleton.mp h2]
    exact List.mem_map.mpr ⟨a, List.mem_range.mpr h1, rfl⟩
  unfold allH at this
  simpa using this
/-- alike hours -/
theorem oneK_bad {n : Int} {H : Nat} {N m : Int} {ill : Option Int} {a : Int} : Bad (plOf (oneK (List.replicate H n) N m ill)) [a] ↔ ∃ c : Nat, c ≤ H ∧ (N - a) * min m (c : Int) < n * c := by
  have hs : ∀ l : Lot, Valid (plOf (oneK (List.replicate H n) N m ill)) l → (l.map fun q => (List.replicate H n).getD q.1 0).sum = n * l.length := fun l v => by
    have hh : ∀ q ∈ l, (List.replicate H n).getD q.1 0 = n := fun q hq => by
      have := (v.mem q hq).1
      rw [oneK_hrs, List.length_replicate] at this
      rw [List.getD_eq_getElem?_getD, List.getElem?_replicate, if_pos this]
      rfl
    rw [List.map_congr_left (g := fun _ => n) hh]
    clear hh v
    induction l with
    | nil => simp
    | cons q l ih =>
      rw [List.map_cons, List.sum_cons, ih, List.length_cons]
      rw [Int.natCast_add, Int.mul_add]
      omega
  constructor
  · rintro ⟨l, v, hm⟩
    have hl := oneK_len v
    rw [List.length_replicate] at hl
    rw [oneK_margin a v, hs l v] at hm
    exact ⟨l.length, hl, by omega⟩
  · rintro ⟨c, hc, hm⟩
    have v : Valid (plOf (oneK (List.replicate H n) N m ill)) (allH c) := allH_valid (by rw [List.length_replicate]; exact hc)
    refine ⟨_, v, ?_⟩
    rw [oneK_margin a v, hs _ v]
    have : (allH c).length = c := by unfold allH; simp
    rw [this]
    omega
/-- two hours, one lesson each day -/
theorem oneK_bad2 {n1 n2 N : Int} (h1 : 0 ≤ n1) (h2 : 0 ≤ n2) {ill : Option Int} {a : Int} : Bad (plOf (oneK [n1, n2] N 1 ill)) [a] ↔ N - a < n1 + n2 := by
  constructor
  · rintro ⟨l, v, hm⟩
    have hl := oneK_len v
    rw [oneK_margin a v] at hm
    have hl : l.length ≤ 2 := hl
    have hh : ∀ q ∈ l, q.1 = 0 ∨ q.1 = 1 := fun q hq => by
      have := (v.mem q hq).1
      rw [oneK_hrs] at this
      have this : q.1 < 2 := this
      omega
    match l, v, hl, hm, hh with
    | [], _, _, hm, _ => simp [show min (1 : Int) 0 = 0 by decide] at hm
    | [q], _, _, hm, hh =>
      simp at hm
      rcases hh q (.head _) with e | e
      · rw [e] at hm
        simp at hm
        omega
      · rw [e] at hm
        simp at hm
        omega
    | [q, r], v, _, hm, hh =>
      have hmin : min (1 : Int) ((([q, r] : Lot).length : Nat) : Int) = 1 := by show min (1 : Int) 2 = 1; decide
      rw [hmin] at hm
      have hne : q.1 ≠ r.1 := fun e => by
        have hq := List.mem_singleton.mp (v.mem q (.head _)).2
        have hr := List.mem_singleton.mp (v.mem r (.tail _ (.head _))).2
        have := v.nd
        simp at this
        exact this (Prod.ext e (hq.trans hr.symm))
      rcases hh q (.head _) with e | e <;> rcases hh r (.tail _ (.head _)) with e2 | e2
      · omega
      · rw [List.map_cons, List.map_cons, List.map_nil, e, e2] at hm
        simp at hm
        omega
      · rw [List.map_cons, List.map_cons, List.map_nil, e, e2] at hm
        simp at hm
        omega
      · omega
  · intro h
    have v : Valid (plOf (oneK [n1, n2] N 1 ill)) (allH 2) := allH_valid (Nat.le_refl _)
    refine ⟨_, v, ?_⟩
    rw [oneK_margin a v]
    have e : ((allH 2).map fun q => [n1, n2].getD q.1 0).sum = n1 + n2 := by
      show n1 + (n2 + 0) = _
      omega
    have hmin : min (1 : Int) (((allH 2).length : Nat) : Int) = 1 := by decide
    rw [e, hmin]
    omega
def pairK (u v A B : Int) : Sk := ⟨["a", "b"], [[u, v]], [⟨"both", ["a", "b"], A, 1, none⟩, ⟨"left", ["a"], B, 1, none⟩]⟩
theorem pairK_ok {u v A B : Int} (hu : 0 ≤ u) (hv : 0 ≤ v) (hA : numOk A) (hB : numOk B) : PlOk (plOf (pairK u v A B)) := by
  have hab : isNameB "a" = true ∧ isNameB "b" = true ∧ isNameB "both" = true ∧ isNameB "left" = true := by decide +kernel
  have hne : ("a" : Str) ≠ "b" ∧ ("both" : Str) ≠ "left" ∧ ("b" : Str) ≠ "a" := by decide +kernel
  have hsm : ∀ s ∈ (["a", "b"] : List Str), isNameB s = true := fun s hs => by
    simp at hs
    rcases hs with rfl | rfl
    · exact hab.1
    · exact hab.2.1
  refine ⟨by show (["a", "b"] : List Str) ≠ []; simp, by show (["a", "b"] : List Str).length ≤ 4; decide, by show (["a", "b"] : List Str).Nodup; simp [hne.1], hsm, ?_, ?_, ?_, ?_, ?_, ?_, ?_, ?_⟩
  · show ([[u, v]] : List (List Int)).map hrOf ≠ []
    simp
  · show (([[u, v]] : List (List Int)).map hrOf).length ≤ 3
    simp
  · show (([[u, v]] : List (List Int)).map hrOf).length * (["a", "b"] : List Str).length ≤ 9
    simp
  · intro h hh
    rw [List.mem_singleton.mp (show h ∈ [hrOf [u, v]] from hh)]
    refine ⟨rfl, fun x hx => ?_⟩
    have hx : x ∈ [u, v] := hx
    simp at hx
    rcases hx with rfl | rfl
    · exact hu
    · exact hv
  · show ([⟨"both", ["a", "b"], A, 1, none⟩, ⟨"left", ["a"], B, 1, none⟩] : List Srt).map kdOf ≠ []
    simp
  · show (([⟨"both", ["a", "b"], A, 1, none⟩, ⟨"left", ["a"], B, 1, none⟩] : List Srt).map kdOf).length ≤ 5
    simp
  · show ((([⟨"both", ["a", "b"], A, 1, none⟩, ⟨"left", ["a"], B, 1, none⟩] : List Srt).map kdOf).map Kd.nm).Nodup
    show (["both", "left"] : List Str).Nodup
    simp [hne.2.1]
  · intro kd hkd
    have hkd : kd ∈ ([kdOf ⟨"both", ["a", "b"], A, 1, none⟩, kdOf ⟨"left", ["a"], B, 1, none⟩] : List Kd) := hkd
    simp at hkd
    rcases hkd with rfl | rfl
    · refine ⟨hab.2.2.1, by show (["a", "b"] : List Str) ≠ []; simp, hsm, ?_, hA, by show (1 : Int) ≤ 1; decide, by show (1 : Int) ≤ 3; decide, nofun⟩
      show (["a", "b"] : List Str) = List.filter (fun s => decide (s ∈ (["a", "b"] : List Str))) (["a", "b"] : List Str)
      simp
    · refine ⟨hab.2.2.2, by show (["a"] : List Str) ≠ []; simp, fun g hg => hsm g (by rw [List.mem_singleton.mp (show g ∈ (["a"] : List Str) from hg)]; simp), ?_, hB, by show (1 : Int) ≤ 1; decide, by show (1 : Int) ≤ 3; decide, nofun⟩
      show (["a"] : List Str) = List.filter (fun s => decide (s ∈ (["a"] : List Str))) (["a", "b"] : List Str)
      simp [hne.2.2]
theorem pairK_wsd {u v A B : Int} {aw : List Int} : Wsd (plOf (pairK u v A B)) [] aw ↔ ∃ x y, aw = [x, y] ∧ (0 ≤ x ∧ x ≤ A) ∧ 0 ≤ y ∧ y ≤ B := by
  rw [wsd_within]
  show Within [A, B] aw ↔ _
  constructor
  · intro h
    obtain ⟨x, t, rfl, x0, x1, h2⟩ := within_cons.mp h
    obtain ⟨y, t, rfl, y0, y1, h2⟩ := within_cons.mp h2
    rw [within_nil.mp h2]
    exact ⟨x, y, rfl, ⟨x0, x1⟩, y0, y1⟩
  · rintro ⟨x, y, rfl, h1, h2⟩
    exact within_two.mpr ⟨h1, h2⟩
theorem pairK_margin {u v A B x y : Int} : (margin (plOf (pairK u v A B)) [x, y] [(0, "a")] = (A - x) + (B - y) - u ∧ margin (plOf (pairK u v A B)) [x, y] [(0, "b")] = (A - x) - v) ∧ margin (plOf (pairK u v A B)) [x, y] [(0, "a"), (0, "b")] = (A - x) + (B - y) - (u + v) := by
  have w : ∀ l gv, hset gv l = dd ((l.filter fun q => decide (q.2 ∈ gv)).map fun q => (q.1 : Int)) := fun _ _ => rfl
  have hs : hset ["a", "b"] [(0, "a")] = [0] ∧ hset ["a"] [(0, "a")] = [0] ∧ hset ["a", "b"] [(0, "b")] = [0] ∧ hset ["a"] [(0, "b")] = [] ∧ hset ["a", "b"] [(0, "a"), (0, "b")] = [0] ∧ hset ["a"] [(0, "a"), (0, "b")] = [0] := by decide +kernel
  have hf : (["a", "b"] : List Str).findIdx (· == ("a" : Str)) = 0 ∧ (["a", "b"] : List Str).findIdx (· == ("b" : Str)) = 1 := by decide +kernel
  have l1 : lesson (plOf (pairK u v A B)) (0, "a") = u := by
    show ([u, v] : List Int).getD ((["a", "b"] : List Str).findIdx (· == ("a" : Str))) 0 = u
    rw [hf.1]
    rfl
  have l2 : lesson (plOf (pairK u v A B)) (0, "b") = v := by
    show ([u, v] : List Int).getD ((["a", "b"] : List Str).findIdx (· == ("b" : Str))) 0 = v
    rw [hf.2]
    rfl
  have th : ∀ l, there (plOf (pairK u v A B)).kds [x, y] l = (A - x) * min 1 ((hset ["a", "b"] l).length : Int) + (B - y) * min 1 ((hset ["a"] l).length : Int) := fun l => by
    show (A - x) * weight (kdOf ⟨"both", ["a", "b"], A, 1, none⟩) l + ((B - y) * weight (kdOf ⟨"left", ["a"], B, 1, none⟩) l + 0) = _
    rw [Int.add_zero]
    rfl
  obtain ⟨s1, s2, s3, s4, s5, s6⟩ := hs
  refine ⟨⟨?_, ?_⟩, ?_⟩
  · unfold margin
    rw [th, s1, s2]
    have : needs (plOf (pairK u v A B)) [(0, "a")] = u := by
      show lesson _ _ + 0 = u
      rw [l1]
      omega
    rw [this]
    simp
  · unfold margin
    rw [th, s3, s4]
    have : needs (plOf (pairK u v A B)) [(0, "b")] = v := by
      show lesson _ _ + 0 = v
      rw [l2]
      omega
    rw [this]
    simp [show min (1 : Int) 0 = 0 by decide]
  · unfold margin
    rw [th, s5, s6]
    have : needs (plOf (pairK u v A B)) [(0, "a"), (0, "b")] = u + v := by
      show lesson _ _ + (lesson _ _ + 0) = u + v
      rw [l1, l2]
      omega
    rw [this]
    simp
theorem pairK_bad {u v A B x y : Int} : Bad (plOf (pairK u v A B)) [x, y] ↔ (A - x) + (B - y) < u ∨ (A - x) < v ∨ (A - x) + (B - y) < u + v := by
  obtain ⟨⟨m1, m2⟩, m3⟩ := pairK_margin (u := u) (v := v) (A := A) (B := B) (x := x) (y := y)
  have hne : ("a" : Str) ≠ "b" := by decide +kernel
  constructor
  · rintro ⟨l, vl, hm⟩
    have hq : ∀ q ∈ l, q = ((0, "a") : Pr) ∨ q = ((0, "b") : Pr) := fun q hq => by
      obtain ⟨h1, h2⟩ := vl.mem q hq
      obtain ⟨a, b⟩ := q
      have h1 : a < 1 := h1
      have h2 : b ∈ (["a", "b"] : List Str) := h2
      simp at h2
      have : a = 0 := by omega
      rcases h2 with h2 | h2
      · exact .inl (Prod.ext this h2)
      · exact .inr (Prod.ext this h2)
    by_cases ha : ((0, "a") : Pr) ∈ l <;> by_cases hb : ((0, "b") : Pr) ∈ l
    · have hp : l.Perm [(0, "a"), (0, "b")] := (List.perm_ext_iff_of_nodup vl.nd (by simp [hne])).mpr fun q => by
        constructor
        · intro h
          rcases hq q h with rfl | rfl <;> simp
        · intro h
          simp at h
          rcases h with rfl | rfl
          · exact ha
          · exact hb
      rw [margin_perm hp, m3] at hm
      omega
    · have hp : l.Perm [(0, "a")] := (List.perm_ext_iff_of_nodup vl.nd (by simp)).mpr fun q => by
        constructor
        · intro h
          rcases hq q h with rfl | rfl
          · simp
          · exact absurd h hb
        · intro h
          simp at h
          subst h
          exact ha
      rw [margin_perm hp, m1] at hm
      omega
    · have hp : l.Perm [(0, "b")] := (List.perm_ext_iff_of_nodup vl.nd (by simp)).mpr fun q => by
        constructor
        · intro h
          rcases hq q h with rfl | rfl
          · exact absurd h ha
          · simp
        · intro h
          simp at h
          subst h
          exact hb
      rw [margin_perm hp, m2] at hm
      omega
    · have : l = [] := by
        rw [List.eq_nil_iff_forall_not_mem]
        intro q h
        rcases hq q h with rfl | rfl
        · exact ha h
        · exact hb h
      subst this
      have e : margin (plOf (pairK u v A B)) [x, y] [] = 0 := by
        show (A - x) * min 1 0 + ((B - y) * min 1 0 + 0) - 0 = 0
        simp [show min (1 : Int) 0 = 0 by decide]
      omega
  · have hv : ∀ l : Lot, l.Nodup → (∀ q ∈ l, q = ((0, "a") : Pr) ∨ q = ((0, "b") : Pr)) → Valid (plOf (pairK u v A B)) l := fun l nd h => ⟨nd, fun q hq => by
      rcases h q hq with rfl | rfl
      · exact ⟨by show 0 < 1; decide, by show ("a" : Str) ∈ (["a", "b"] : List Str); simp⟩
      · exact ⟨by show 0 < 1; decide, by show ("b" : Str) ∈ (["a", "b"] : List Str); simp⟩⟩
    rintro (h | h | h)
    · exact ⟨_, hv [(0, "a")] (by simp) (by simp), by rw [m1]; omega⟩
    · exact ⟨_, hv [(0, "b")] (by simp) (by simp), by rw [m2]; omega⟩
    · exact ⟨_, hv [(0, "a"), (0, "b")] (by simp [hne]) (by simp), by rw [m3]; omega⟩
theorem pLtD_ap {d e : D} {p q : PyData} (S : Store) (h1 : toPy d = some p) (h2 : toPy e = some q) (h3 : PySem.W.alike p q = true) (h4 : isNo p = false) (h5 : p.depth ≤ 60) : pLtD d e S = some (.bl (PySem.W.dataLt p q)) := by
  unfold pLtD
  rw [h1, h2]
  exact if_pos ⟨h3, h4, h5⟩
/-- one pair stands ahead of another -/
def prLt (a b : Pr) : Bool := PySem.W.dataLt (encD (prD a)) (encD (prD b))
def prKey (q : Pr) : List (Int ⊕ List Nat) := PySem.W.keyToks (encD (prD q))
theorem prLt_key (a b : Pr) : prLt a b = (PyProof.Rows.listOrd PyProof.Rows.itemOrd).blt (prKey a) (prKey b) := rfl
theorem prLe_lt (a b : Pr) : prLe a b = !prLt b a := rfl
theorem prKey_inj {a b : Pr} (h : prKey a = prKey b) : a = b := by
  obtain ⟨i, s⟩ := a
  obtain ⟨j, t⟩ := b
  unfold prKey at h
  rw [encD_prD, encD_prD] at h
  simp [PySem.W.keyToks, PySem.W.keyToksAll] at h
  obtain ⟨h1, h2⟩ := h
  have e1 : i = j := by omega
  have e2 : s = t := PySem.W.str_of_cps (by simpa using h2)
  rw [e1, e2]
theorem prLt_irrefl (a : Pr) : prLt a a = false := (PyProof.Rows.listOrd PyProof.Rows.itemOrd).irrefl (prKey a)
theorem prLt_trans {a b c : Pr} (h : prLt a b = true) (h2 : prLt b c = true) : prLt a c = true := (PyProof.Rows.listOrd PyProof.Rows.itemOrd).trans (prKey a) (prKey b) (prKey c) h h2
theorem prLt_neg {a b c : Pr} (h : prLt c b = false) (h2 : prLt b a = false) : prLt c a = false := by
  cases e : prLt c a with
  | false => rfl
  | true =>
    rcases (PyProof.Rows.listOrd PyProof.Rows.itemOrd).negTrans (prKey c) (prKey b) (prKey a) e with q | q
    · exact absurd (h.symm.trans q) (by decide)
    · exact absurd (h2.symm.trans q) (by decide)
theorem pLtD_prD (a b : Pr) (S : Store) : pLtD (prD a) (prD b) S = some (.bl (prLt a b)) := pLtD_ap S rfl rfl rfl rfl (by rw [encD_prD, PyData.depth, PyData.depthAll, PyData.depthAll, PyData.depthAll, PyData.depth, PyData.depth]; decide)
theorem prLt_of {a b : Pr} (h : prLe a b = true) (ne : a ≠ b) : prLt a b = true := by
  rw [prLe_lt] at h
  cases e : prLt a b with
  | true => rfl
  | false => exact absurd (prKey_inj ((PyProof.Rows.listOrd PyProof.Rows.itemOrd).total (prKey a) (prKey b) e (show prLt b a = false by simpa using h))) ne
theorem pairs_asc {p : Pl} (ok : PlOk p) : (pairs p).Pairwise fun a b => prLt a b = true := by
  have h1 : (pairs p).Pairwise fun a b => prLe a b = true := List.pairwise_mergeSort (fun a b c h h2 => by
    rw [prLe_lt, Bool.not_eq_true'] at *
    exact prLt_neg h2 h) (fun a b => by
    rw [prLe_lt, prLe_lt]
    cases e : prLt b a with
    | false => rfl
    | true =>
      cases e2 : prLt a b with
      | false => rfl
      | true =>
        have := prLt_trans e e2
        rw [prLt_irrefl] at this
        cases this) _
  have h2 := pairs_nodup ok
  unfold List.Nodup at h2
  exact (h1.and h2).imp fun ⟨a, b⟩ => prLt_of a b
/-- going up -/
def ascB : List Pr → Bool
  | a :: b :: r => prLt a b && ascB (b :: r)
  | _ => true
theorem asc_pair : ∀ {l : List Pr}, (l.Pairwise fun a b => prLt a b = true) → ascB l = true
  | [], _ => rfl
  | [_], _ => rfl
  | a :: b :: r, h => by
    rw [List.pairwise_cons] at h
    rw [ascB, h.1 b (.head _), asc_pair h.2]
    rfl
theorem asc_adj : ∀ {u : List Pr} {x y : Pr} {v : List Pr}, ascB (u ++ x :: y :: v) = true → prLt x y = true
  | [], x, y, v, h => by
    rw [List.nil_append, ascB, Bool.and_eq_true] at h
    exact h.1
  | [a], x, y, v, h => by
    rw [List.cons_append, List.nil_append, ascB, Bool.and_eq_true] at h
    exact asc_adj (u := []) h.2
  | a :: b :: u, x, y, v, h => by
    rw [List.cons_append, List.cons_append, ascB, Bool.and_eq_true] at h
    exact asc_adj (u := b :: u) h.2
theorem asc_zip : ∀ l : List Pr, ((l.zip (l.drop 1)).all fun x => prLt x.1 x.2) = ascB l
  | [] => rfl
  | [_] => rfl
  | a :: b :: r => by
    have := asc_zip (b :: r)
    rw [ascB, ← this]
    rfl
theorem lot_asc {p : Pl} (ok : PlOk p) {l : Lot} (h : l ∈ lots p) : ascB l = true := asc_pair ((pairs_asc ok).sublist (lots_sub h))
theorem pairs_name {p : Pl} (ok : PlOk p) {q : Pr} (h : q ∈ pairs p) : PyData.strOk q.2 = true := strOk_sub ok (pairs_mem h).2
theorem inP_pairs {p : Pl} (q : Pr) : inP (encD (prD q)) (((pairs p).map prD).map encD) = decide (q ∈ pairs p) := by
  rw [Bool.eq_iff_iff, inP_mem rfl (fun r hr => ?_)]
  · rw [List.map_map, List.mem_map, decide_eq_true_iff]
    constructor
    · rintro ⟨r, hr, e⟩
      have e2 : encD (prD r) = encD (prD q) := e
      rw [encD_prD, encD_prD] at e2
      simp at e2
      have : r = q := Prod.ext (by omega) e2.2
      rw [← this]
      exact hr
    · exact fun h => ⟨q, h, rfl⟩
  · rw [List.map_map, List.mem_map] at hr
    obtain ⟨z, _, rfl⟩ := hr
    rfl
theorem pNotIn_pairs {p : Pl} (ok : PlOk p) (q : Pr) (hq : PyData.strOk q.2 = true) (S : Store) : pNotIn (prD q) (.lst ((pairs p).map prD)) S = some (.bl (!decide (q ∈ pairs p))) := by
  rw [pNotIn_of (pIn_lst 1 1 (dok_prD 0 hq) (doks_iff.mpr fun d hd => ?_) (by decide) (by decide)), inP_pairs]
  obtain ⟨r, hr, rfl⟩ := List.mem_map.mp hd
  exact dok_prD 0 (pairs_name ok hr)
theorem is_lot_ok {p : Pl} (ok : PlOk p) {l : List Pr} (h0 : l ≠ []) (hl : l.length ≤ 1000) (hm : ∀ q ∈ l, q ∈ pairs p) (S : Store) : F_is_lot [plD p, lotD l] S = .ok (.bl (ascB l)) S := by
  unfold F_is_lot bf_is_lot
  simp [lotD, h0]
  generalize hc : forGo _ _ _ _ _ _ = r
  obtain ⟨_, rfl, o2, o3, o4, rfl⟩ : ∃ l', r = .nx l' S ∧ ∃ o2 o3 o4, l' = [some (plD p), some (lotD l), o2, o3, o4] := by
      rw [← hc]
      refine forGo_pass (en := prD) (fun ls q hq ⟨o2, o3, o4, e⟩ => ?_) ⟨none, none, none, rfl⟩
      subst e
      have hp := hm q hq
      have hh := (pairs_mem hp).1
      refine ⟨_, _, rfl, ?_, some (prD q), o3, o4, rfl⟩
      have h1 : pLenS [prD q] S = some (.int 2) := by simp [prD]
      have h2 : pIx (prD q) (.int 1) S = some (.str q.2) := by simp [prD]
      have h3 : pIx (prD q) (.int 0) S = some (.int (q.1 : Int)) := by simp [prD]
      have h4 : isiT "tuple" (prD q) S = some (.bl true) := by simp [prD]
      have hn : ¬ ((p.hrs.length : Int) - 1 < (q.1 : Int)) := by omega
      have h5 : pLenS [hrsD p] S = some (.int p.hrs.length) := by unfold hrsD; simp
      simp [h1, h2, h3, h4, h5, is_between_i, pairs_of_ok ok, pNotIn_pairs ok q (pairs_name ok hp), hp, hn]
  simp [lotD]
  rw [← List.map_tail, zipD_map, cMap (en := fun x : Pr × Pr => D.tup [prD x.1, prD x.2]) (f := fun x : Pr × Pr => D.bl (prLt x.1 x.2)) (fun x hx => by simp [cStep, pLtD_prD]) (by rw [List.length_zip]; omega)]
  simp
  rw [← asc_zip]
  simp
theorem is_lot_tp {p : Pl} (ok : PlOk p) {l : List Pr} (h0 : l ≠ []) (hl : l.length ≤ 1000) (hm : ∀ q ∈ l, q ∈ pairs p) (S : Store) : F_is_lot [plD p, .tpn (l.map prD)] S = .ok (.bl (ascB l)) S := by
  unfold F_is_lot bf_is_lot
  simp [h0]
  generalize hc : forGo _ _ _ _ _ _ = r
  obtain ⟨_, rfl, o2, o3, o4, rfl⟩ : ∃ l', r = .nx l' S ∧ ∃ o2 o3 o4, l' = [some (plD p), some (D.tpn (l.map prD)), o2, o3, o4] := by
      rw [← hc]
      refine forGo_pass (en := prD) (fun ls q hq ⟨o2, o3, o4, e⟩ => ?_) ⟨none, none, none, rfl⟩
      subst e
      have hp := hm q hq
      have hh := (pairs_mem hp).1
      refine ⟨_, _, rfl, ?_, some (prD q), o3, o4, rfl⟩
      have h1 : pLenS [prD q] S = some (.int 2) := by simp [prD]
      have h2 : pIx (prD q) (.int 1) S = some (.str q.2) := by simp [prD]
      have h3 : pIx (prD q) (.int 0) S = some (.int (q.1 : Int)) := by simp [prD]
      have h4 : isiT "tuple" (prD q) S = some (.bl true) := by simp [prD]
      have hn : ¬ ((p.hrs.length : Int) - 1 < (q.1 : Int)) := by omega
      have h5 : pLenS [hrsD p] S = some (.int p.hrs.length) := by unfold hrsD; simp
      simp [h1, h2, h3, h4, h5, is_between_i, pairs_of_ok ok, pNotIn_pairs ok q (pairs_name ok hp), hp, hn]
  simp
  rw [← List.map_tail, zipD_map, cMap (en := fun x : Pr × Pr => D.tup [prD x.1, prD x.2]) (f := fun x : Pr × Pr => D.bl (prLt x.1 x.2)) (fun x hx => by simp [cStep, pLtD_prD]) (by rw [List.length_zip]; omega)]
  simp
  rw [← asc_zip]
  simp
theorem is_lot_no {p : Pl} {d : D} {S : Store} (h : isiT "tuple" d S = some (.bl false)) : F_is_lot [plD p, d] S = .ok (.bl false) S := by
  unfold F_is_lot bf_is_lot
  simp [h]
theorem is_lot_nil (p : Pl) (S : Store) : F_is_lot [plD p, .tup []] S = .ok (.bl false) S := by
  unfold F_is_lot bf_is_lot
  simp
/-- the first element is none -/
inductive BadPr (p : Pl) : D → Prop
  | no {x : D} (h : ∀ S, isiT "tuple" x S = some (.bl false)) : BadPr p x
  | len {ys : List D} (h : ys.length ≠ 2) : BadPr p (.tup ys)
  | hour {i : Int} {s : Str} (h : ¬ (0 ≤ i ∧ i < p.hrs.length)) : BadPr p (.tup [.int i, .str s])
  | truth (b : Bool) (s : Str) : BadPr p (.tup [.bl b, .str s])
  | none {q : Pr} (h1 : q.1 < p.hrs.length) (hs : PyData.strOk q.2 = true) (h : q ∉ pairs p) : BadPr p (prD q)
theorem is_between_b (b : Bool) (x y : D) (S : Store) : F_is_between [.bl b, x, y] S = .ok (.bl false) S := by
  unfold F_is_between bf_is_between
  have h : F_is_integer [.bl b] S = .ok (.bl false) S := by
    unfold F_is_integer bf_is_integer
    simp
  simp [h]
theorem is_lot_bad {p : Pl} (ok : PlOk p) {x : D} (hx : BadPr p x) (xs : List D) (S : Store) : F_is_lot [plD p, .tup (x :: xs)] S = .ok (.bl false) S := by
  unfold F_is_lot bf_is_lot
  have hne : ¬ ((xs.length : Int) + 1 = 0) := by omega
  simp [hne]
  rw [forGo_cons (w := []) trivial rfl]
  have h5 : pLenS [hrsD p] S = some (.int p.hrs.length) := by unfold hrsD; simp
  cases hx with
  | no h => simp [h]
  | @len ys h =>
    have h2 : ¬ ((ys.length : Int) = 2) := by omega
    simp [h2]
  | @hour i s h =>
    by_cases c : 0 ≤ i
    · have h3 : ((p.hrs.length : Int) - 1 < i) := by omega
      simp [is_between_i, h5, c, h3]
    · simp [is_between_i, h5, c]
  | truth b s => simp [is_between_b, h5]
  | @none q h1 hs h =>
    have hn : ¬ ((p.hrs.length : Int) - 1 < (q.1 : Int)) := by omega
    have q1 : pLenS [prD q] S = some (.int 2) := by simp [prD]
    have q2 : pIx (prD q) (.int 1) S = some (.str q.2) := by simp [prD]
    have q3 : pIx (prD q) (.int 0) S = some (.int (q.1 : Int)) := by simp [prD]
    have q4 : isiT "tuple" (prD q) S = some (.bl true) := by simp [prD]
    simp [q1, q2, q3, q4, h5, is_between_i, pairs_of_ok ok, pNotIn_pairs ok q hs, h, hn]
theorem margin_ok {p : Pl} (ok : PlOk p) (ht : p.ts = true) {aw : List Int} {b : Bool} (w : Wsd p [] aw) {l : Lot} (h : l ∈ lots p) (S : Store) : F_margin [plD p, awD b aw, lotD l] S = .ok (.int (margin p aw l)) S := by
  unfold F_margin bf_margin
  have lk := lots_ok ok h
  have h0 : l ≠ [] := (lots_iff.mp h).1
  simp [check_away_ok ok w, is_lot_ok ok h0 lk.len (fun q hq => (lots_sub h).subset hq), lot_asc ok h, margin_of_ok ok ht lk.len lk.mem]
theorem tight_lot_ok {p : Pl} (ok : PlOk p) (ht : p.ts = true) {aw : List Int} {b : Bool} (w : Wsd p [] aw) (S : Store) : F_tight_lot [plD p, awD b aw] S = .ok (foundD (tight p aw)) S := by
  unfold F_tight_lot bf_tight_lot
  simp [check_away_ok ok w, tightest_ok ok ht]
mutual
theorem noLoc_dok : ∀ {n : Nat} {d : D}, dok n d = true → noLoc d = true
  | _, .non, _ => rfl
  | _, .bl _, _ => rfl
  | _, .int _, _ => rfl
  | _, .str _, _ => rfl
  | n + 1, .tup xs, h => noLocs_dok (n := n) (ds := xs) h
  | n + 1, .tpn xs, h => noLocs_dok (n := n) (ds := xs) h
  | n + 1, .lst xs, h => noLocs_dok (n := n) (ds := xs) h
  | n + 1, .scr xs, h => noLocs_dok (n := n) (ds := xs) h
  | 0, .tup _, h => nomatch h
  | 0, .tpn _, h => nomatch h
  | 0, .lst _, h => nomatch h
  | 0, .scr _, h => nomatch h
  | _, .iset _, _ => rfl
  | n, .ins _ _ _, h => by cases n <;> exact nomatch h
  | n, .err _ _ _, h => by cases n <;> exact nomatch h
  | n, .loc _, h => by cases n <;> exact nomatch h
theorem noLocs_dok : ∀ {n : Nat} {ds : List D}, doks n ds = true → noLocs ds = true
  | n, [], _ => rfl
  | n, d :: ds, h => by
    rw [doks_cons, Bool.and_eq_true] at h
    unfold noLocs
    rw [noLoc_dok h.1, noLocs_dok h.2]
    rfl
end
/-- short data -/
def Nice (n B : Nat) (d : D) : Prop := dok n d = true ∧ (encD d).showable = true ∧ shw (encD d) ≤ B
theorem Nice.mono {n m B C : Nat} {d : D} (h : Nice n B d) (h1 : n ≤ m) (h2 : B ≤ C) : Nice m C d := ⟨dok_mono h1 h.1, h.2.1, Nat.le_trans h.2.2 h2⟩
theorem nice_int {i : Int} (h : -10000000000000000000000000000000000000000000000000000000000000000000000000000000000000000000000000000 < i) (h2 : i < 10000000000000000000000000000000000000000000000000000000000000000000000000000000000000000000000000000) : Nice 0 1921 (.int i) :=
  ⟨by simp, show_int' h h2, by rw [encD_int, shw]; exact Nat.le_refl _⟩
theorem nice_str {x : Str} (h : PyData.strOk x = true) (hl : x.length ≤ 100) : Nice 0 1921 (.str x) := ⟨by simpa using h, rfl, by rw [encD_str, shw]; omega⟩
theorem nice_bl (b : Bool) : Nice 0 1921 (.bl b) := ⟨by simp, rfl, by rw [encD_bl, shw]; decide⟩
theorem nice_non : Nice 0 1921 .non := ⟨by simp, rfl, by decide⟩
theorem nice_all {n B : Nat} : ∀ {xs : List D}, (∀ x ∈ xs, Nice n B x) → doks n xs = true ∧ PyData.showableAll (xs.map encD) = true ∧ shwAll (xs.map encD) ≤ xs.length * (B + 2)
  | [], _ => ⟨rfl, rfl, by rw [List.map_nil, shwAll]; exact Nat.zero_le _⟩
  | x :: xs, h => by
    obtain ⟨a, b, c⟩ := h x (.head _)
    obtain ⟨a2, b2, c2⟩ := nice_all fun y hy => h y (.tail _ hy)
    refine ⟨by rw [doks_cons, a, a2]; rfl, by rw [List.map_cons, PyData.showableAll, b, b2]; rfl, ?_⟩
    rw [List.map_cons, shwAll, List.length_cons, Nat.succ_mul]
    omega
theorem nice_tup {n B : Nat} {xs : List D} (h : ∀ x ∈ xs, Nice n B x) (m : Nat) (hm : xs.length ≤ m) : Nice (n + 1) (m * (B + 2) + 3) (.tup xs) := by
  obtain ⟨a, b, c⟩ := nice_all h
  have := Nat.mul_le_mul_right (B + 2) hm
  refine ⟨by rw [dok_tup]; exact a, ?_, ?_⟩
  · rw [encD_tup a, PyData.showable]; exact b
  · rw [encD_tup a, shw]; omega
theorem nice_tpn {n B : Nat} {xs : List D} (h : ∀ x ∈ xs, Nice n B x) (m : Nat) (hm : xs.length ≤ m) : Nice (n + 1) (m * (B + 2) + 3) (.tpn xs) := by
  obtain ⟨a, b, c⟩ := nice_all h
  have := Nat.mul_le_mul_right (B + 2) hm
  refine ⟨by rw [dok_tpn]; exact a, ?_, ?_⟩
  · rw [encD_tpn a, PyData.showable]; exact b
  · rw [encD_tpn a, shw]; omega
theorem nice_lst {n B : Nat} {xs : List D} (h : ∀ x ∈ xs, Nice n B x) (m : Nat) (hm : xs.length ≤ m) : Nice (n + 1) (m * (B + 2) + 3) (.lst xs) := by
  obtain ⟨a, b, c⟩ := nice_all h
  have := Nat.mul_le_mul_right (B + 2) hm
  refine ⟨by rw [dok_lst]; exact a, ?_, ?_⟩
  · rw [encD_lst a, PyData.showable]; exact b
  · rw [encD_lst a, shw]; omega
theorem Nice.repr {n B : Nat} {d : D} (h : Nice n B d) (hn : n ≤ 60) (hB : B ≤ 16777216) : ∃ z, PyData.strOk z = true ∧ ∀ T, pRepr [d] T = some (.str z) :=
  ⟨_, strOk_repr n h.1, fun T => pRepr_dok n h.1 hn h.2.1 (Nat.le_trans h.2.2 hB) T⟩
theorem nice_prD {q : Pr} (h : q.1 ≤ 100) (hs : PyData.strOk q.2 = true) (hl : q.2.length ≤ 100) : Nice 1 3849 (prD q) :=
  (nice_tup (n := 0) (B := 1921) (xs := [.int (q.1 : Int), .str q.2]) (fun x hx => by
    simp at hx
    rcases hx with rfl | rfl
    · exact nice_int (by omega) (by omega)
    · exact nice_str hs hl) 2 (by simp))
theorem nice_pair {p : Pl} (ok : PlOk p) {q : Pr} (h : q ∈ pairs p) : Nice 1 3849 (prD q) := by
  have h1 := pairs_mem h
  have h3 := ok.h1
  have := name_len (ok.sm q.2 h1.2)
  exact nice_prD (by omega) (pairs_name ok h) (by omega)
/-- the first lot with the least margin -/
theorem fold_first {p : Pl} {aw : List Int} : ∀ {ls : List Lot} {t : Int} {m : Lot}, ∃ t' m', ls.foldl (tgStep p aw) (some (t, m)) = some (t', m') ∧
    ((t' = t ∧ m' = m ∧ ∀ l ∈ ls, t ≤ margin p aw l) ∨ (t' < t ∧ ∃ j : Nat, ls[j]? = some m' ∧ margin p aw m' = t' ∧ (∀ i l, i < j → ls[i]? = some l → t' < margin p aw l) ∧ ∀ l ∈ ls, t' ≤ margin p aw l))
  | [], t, m => ⟨t, m, rfl, .inl ⟨rfl, rfl, fun _ h => nomatch h⟩⟩
  | l :: ls, t, m => by
    rw [List.foldl_cons]
    by_cases c : margin p aw l < t
    · rw [show tgStep p aw (some (t, m)) l = some (margin p aw l, l) from if_pos c]
      obtain ⟨t', m', e, h⟩ := fold_first (p := p) (aw := aw) (ls := ls) (t := margin p aw l) (m := l)
      refine ⟨t', m', e, .inr ?_⟩
      rcases h with ⟨rfl, rfl, h⟩ | ⟨h1, j, h2, h3, h4, h5⟩
      · refine ⟨c, 0, rfl, rfl, fun i l hi => absurd hi (Nat.not_lt_zero _), fun x hx => ?_⟩
        rcases List.mem_cons.mp hx with rfl | hx
        · exact Int.le_refl _
        · exact h x hx
      · refine ⟨by omega, j + 1, by simpa using h2, h3, fun i x hi hx => ?_, fun x hx => ?_⟩
        · cases i with
          | zero => simp at hx; subst hx; exact h1
          | succ i => exact h4 i x (by omega) (by simpa using hx)
        · rcases List.mem_cons.mp hx with rfl | hx
          · omega
          · exact h5 x hx
    · rw [show tgStep p aw (some (t, m)) l = some (t, m) from if_neg c]
      obtain ⟨t', m', e, h⟩ := fold_first (p := p) (aw := aw) (ls := ls) (t := t) (m := m)
      refine ⟨t', m', e, ?_⟩
      rcases h with ⟨rfl, rfl, h⟩ | ⟨h1, j, h2, h3, h4, h5⟩
      · refine .inl ⟨rfl, rfl, fun x hx => ?_⟩
        rcases List.mem_cons.mp hx with rfl | hx
        · omega
        · exact h x hx
      · refine .inr ⟨h1, j + 1, by simpa using h2, h3, fun i x hi hx => ?_, fun x hx => ?_⟩
        · cases i with
          | zero => simp at hx; subst hx; omega
          | succ i => exact h4 i x (by omega) (by simpa using hx)
        · rcases List.mem_cons.mp hx with rfl | hx
          · omega
          · exact h5 x hx
theorem tight_first {p : Pl} {aw : List Int} (h0 : lots p ≠ []) : ∃ (j : Nat) (l : Lot), tight p aw = some (minI ((lots p).map (margin p aw)), l) ∧ (lots p)[j]? = some l ∧ ((lots p).map (margin p aw)).findIdx? (fun x => x == minI ((lots p).map (margin p aw))) = some j := by
  unfold tight
  generalize lots p = ls at *
  cases ls with
  | nil => exact absurd rfl h0
  | cons l0 ls =>
    rw [List.foldl_cons, show tgStep p aw none l0 = some (margin p aw l0, l0) from rfl]
    obtain ⟨t', m', e, h⟩ := fold_first (p := p) (aw := aw) (ls := ls) (t := margin p aw l0) (m := l0)
    obtain ⟨j, hj, hm, hlt, hle⟩ : ∃ j, (l0 :: ls)[j]? = some m' ∧ margin p aw m' = t' ∧ (∀ i l, i < j → (l0 :: ls)[i]? = some l → t' < margin p aw l) ∧ ∀ l ∈ l0 :: ls, t' ≤ margin p aw l := by
      rcases h with ⟨rfl, rfl, h⟩ | ⟨h1, j, h2, h3, h4, h5⟩
      · refine ⟨0, rfl, rfl, fun i l hi => absurd hi (Nat.not_lt_zero _), fun x hx => ?_⟩
        rcases List.mem_cons.mp hx with rfl | hx
        · exact Int.le_refl _
        · exact h x hx
      · refine ⟨j + 1, by simpa using h2, h3, fun i x hi hx => ?_, fun x hx => ?_⟩
        · cases i with
          | zero =>
            have hx' : some l0 = some x := hx
            cases hx'
            exact h1
          | succ i => exact h4 i x (by omega) hx
        · rcases List.mem_cons.mp hx with rfl | hx
          · omega
          · exact h5 x hx
    have hmin : minI ((l0 :: ls).map (margin p aw)) = t' := by
      obtain ⟨m1, m2⟩ := minI_spec (xs := (l0 :: ls).map (margin p aw)) (by simp)
      obtain ⟨x, hx, e2⟩ := List.mem_map.mp m1
      have a1 := hle x hx
      have a2 := m2 t' (List.mem_map.mpr ⟨m', List.mem_of_getElem? hj, hm⟩)
      omega
    rw [hmin]
    refine ⟨j, m', e, hj, ?_⟩
    rw [List.findIdx?_eq_some_iff_getElem]
    obtain ⟨hjl, hje⟩ := List.getElem?_eq_some_iff.mp hj
    refine ⟨by simpa using hjl, by simp only [List.getElem_map, hje, hm]; simp, fun i hi => ?_⟩
    have := hlt i _ hi (List.getElem?_eq_getElem (by omega))
    simp only [List.getElem_map]
    simp
    omega
theorem pIndexL_ints (ms : List Int) (m : Int) (S : Store) : pIndexL (.lst (ms.map .int)) [.int m] S = (ms.findIdx? fun x => x == m).map fun (j : Nat) => D.int (j : Int) := by
  have h1 : toPyS (.lst (ms.map D.int)) S = some (.list (ms.map PyData.int)) := by
    show toPy _ = _
    have := (dok_py (n := 1) (d := .lst (ms.map .int)) (doks_int 0 ms)).1
    rw [this, encD_lst (doks_int 0 ms), List.map_map]
    rfl
  unfold pIndexL
  rw [h1]
  show (if SeqAt.shaped _ = true ∧ SeqAt.shaped (PyData.int m) = true then _ else none) = _
  rw [if_pos ?_]
  · congr 1
    rw [List.findIdx?_map]
    congr 1
  · have := shaped_dok (n := 1) (d := .lst (ms.map .int)) (doks_int 0 ms) (by decide)
    rw [encD_lst (doks_int 0 ms), List.map_map] at this
    exact ⟨this, rfl⟩
theorem there_bd {N : Int} {l : Lot} : ∀ {xs : List (Kd × Int)}, (∀ q ∈ xs, 0 ≤ q.1.num - q.2 ∧ q.1.num - q.2 ≤ N ∧ 0 ≤ weight q.1 l ∧ weight q.1 l ≤ 3) → 0 ≤ (xs.map fun q => (q.1.num - q.2) * weight q.1 l).sum ∧ (xs.map fun q => (q.1.num - q.2) * weight q.1 l).sum ≤ (xs.length : Int) * (3 * N)
  | [], _ => by simp
  | q :: xs, h => by
    obtain ⟨a, b, c, d⟩ := h q (.head _)
    obtain ⟨e, f⟩ := there_bd (N := N) (l := l) (xs := xs) fun z hz => h z (.tail _ hz)
    rw [List.map_cons, List.sum_cons, List.length_cons, Int.natCast_succ, Int.add_mul]
    generalize weight q.1 l = w at *
    generalize q.1.num - q.2 = u at *
    generalize (xs.map fun q => (q.1.num - q.2) * weight q.1 l).sum = y at *
    have hw : w = 0 ∨ w = 1 ∨ w = 2 ∨ w = 3 := by omega
    generalize (xs.length : Int) * (3 * N) = z at *
    rcases hw with rfl | rfl | rfl | rfl <;> constructor <;> omega
theorem needs_bd {p : Pl} {N : Int} : ∀ {l : List Pr}, (∀ q ∈ l, 0 ≤ lesson p q ∧ lesson p q ≤ N) → 0 ≤ (l.map (lesson p)).sum ∧ (l.map (lesson p)).sum ≤ (l.length : Int) * N
  | [], _ => by simp
  | q :: l, h => by
    obtain ⟨a, b⟩ := h q (.head _)
    obtain ⟨c, d⟩ := needs_bd (p := p) (N := N) (l := l) fun z hz => h z (.tail _ hz)
    rw [List.map_cons, List.sum_cons, List.length_cons, Int.natCast_succ, Int.add_mul]
    omega
theorem lesson_bd {p : Pl} (ok : PlOk p) (rb : RowsOk p) {q : Pr} (h1 : q.1 < p.hrs.length) (h2 : q.2 ∈ p.subs) : lesson p q ≤ 1000000000000000000000000000000 := by
  unfold lesson
  rw [List.getD_eq_getElem?_getD (l := p.hrs), List.getElem?_eq_getElem h1]
  show (p.hrs[q.1]).ns.getD _ 0 ≤ _
  rw [List.getD_eq_getElem?_getD]
  cases e : (p.hrs[q.1]).ns[p.subs.findIdx (· == q.2)]? with
  | none => show (0 : Int) ≤ _; omega
  | some x => exact (rb _ (List.getElem_mem h1) x (List.mem_of_getElem? e)).2
theorem mg_small {p : Pl} (ok : PlOk p) (rb : RowsOk p) {aw : List Int} (w : Wsd p [] aw) {l : Lot} (h : l ∈ lots p) : -100000000000000000000000000000000 < margin p aw l ∧ margin p aw l < 100000000000000000000000000000000 := by
  have lk := lots_ok ok h
  have h9 : l.length ≤ 9 := Nat.le_trans (lots_sub h).length_le (pairs_len ok)
  have hk := ok.k1
  obtain ⟨a, b⟩ := needs_bd (p := p) (N := 1000000000000000000000000000000) (l := l) fun q hq => ⟨lesson0 ok (lk.mem q hq).1 (lk.mem q hq).2, lesson_bd ok rb (lk.mem q hq).1 (lk.mem q hq).2⟩
  obtain ⟨c, d⟩ := there_bd (N := 1000000000000000000000000000000) (l := l) (xs := p.kds.zip aw) fun q hq => by
    obtain ⟨i, hi⟩ := List.mem_iff_getElem?.mp hq
    obtain ⟨k1, k2⟩ := List.getElem?_zip_eq_some.mp hi
    have kok := ok.ko q.1 (List.mem_of_getElem? k1)
    have := w.bd i q.2 q.1 k2 k1
    have := ill_num kok
    have := kok.num
    unfold numOk at this
    have w0 := weight0 kok l
    have w3 := weight3 kok l
    omega
  have hz : (p.kds.zip aw).length ≤ 5 := by rw [List.length_zip]; omega
  unfold margin there needs
  generalize (p.kds.zip aw).length = n at *
  generalize ((p.kds.zip aw).map fun q => (q.1.num - q.2) * weight q.1 l).sum = u at *
  generalize (l.map (lesson p)).sum = v at *
  generalize l.length = m at *
  omega
theorem nob_wsd {p : Pl} (ok : PlOk p) : Wsd p [] (nob p) := by
  refine ⟨by unfold nob; simp, fun i a k ha hk => ?_⟩
  unfold nob at ha
  rw [List.getElem?_map, hk] at ha
  cases ha
  exact ⟨Int.le_refl _, ill0 (ok.ko k (List.mem_of_getElem? hk))⟩
theorem due_nice {p : Pl} (ok : PlOk p) {j : Int} (h1 : -100000000000000000000000000000000 < j) (h2 : j < 100000000000000000000000000000000) {l : Lot} (h : l ∈ lots p) : Nice 3 100000 (.tup [.int j, lotD l]) := by
  have h9 : l.length ≤ 9 := Nat.le_trans (lots_sub h).length_le (pairs_len ok)
  have hl : Nice 2 40000 (lotD l) := (nice_tup (n := 1) (B := 3849) (xs := l.map prD) (fun x hx => by
    obtain ⟨q, hq, rfl⟩ := List.mem_map.mp hx
    exact nice_pair ok ((lots_sub h).subset hq)) 9 (by simpa using h9)).mono (by decide) (by decide)
  exact (nice_tup (n := 2) (B := 40000) (xs := [.int j, lotD l]) (fun x hx => by
    simp at hx
    rcases hx with rfl | rfl
    · exact (nice_int (by omega) (by omega)).mono (by decide) (by decide)
    · exact hl) 2 (by simp)).mono (by decide) (by decide)
theorem margin_no {p : Pl} (ok : PlOk p) {aw : List Int} {b : Bool} (w : Wsd p [] aw) {d : D} {S : Store} (h : F_is_lot [plD p, d] S = .ok (.bl false) S) : F_margin [plD p, awD b aw, d] S = .exc ⟨"InvalidPlace", ["given"], [d]⟩ S := by
  unfold F_margin bf_margin
  simp [check_away_ok ok w, h]
end HL
end
section
set_option Elab.async false
set_option linter.all false
set_option maxRecDepth 100000
set_option maxHeartbeats 4000000
namespace HL
open PySem PySem.Spec L2
def top (i : Nat) : Stmt := PySem.Challenge.pw_heldlessons_k31_whole_lots.main.body.getD i (.Pass ⟨0, 0, 0, 0⟩)
def dd0 : DefA := ⟨fun K => He.ga K "_law_sip", "_law_sip", "_law_sip", defArgs (top 50), defBody (top 50), defScope (top 50)⟩
def dd1 : DefA := ⟨fun K => He.ga K "_law_words", "_law_words", "_law_words", defArgs (top 51), defBody (top 51), defScope (top 51)⟩
def dd2 : DefA := ⟨fun K => He.ga K "_law_amount", "_law_amount", "_law_amount", defArgs (top 52), defBody (top 52), defScope (top 52)⟩
def dd3 : DefA := ⟨fun K => He.ga K "_law_sketch", "_law_sketch", "_law_sketch", defArgs (top 53), defBody (top 53), defScope (top 53)⟩
def dd4 : DefA := ⟨fun K => He.ga K "_law_pairs", "_law_pairs", "_law_pairs", defArgs (top 57), defBody (top 57), defScope (top 57)⟩
def dd5 : DefA := ⟨fun K => He.ga K "_law_lots", "_law_lots", "_law_lots", defArgs (top 58), defBody (top 58), defScope (top 58)⟩
def dd6 : DefA := ⟨fun K => He.ga K "is_name", "is_name", "is_name", defArgs (top 20), defBody (top 20), defScope (top 20)⟩
def dd7 : DefA := ⟨fun K => He.ga K "check_subjects", "check_subjects", "check_subjects", defArgs (top 26), defBody (top 26), defScope (top 26)⟩
def dd8 : DefA := ⟨fun K => He.ga K "is_integer", "is_integer", "is_integer", defArgs (top 17), defBody (top 17), defScope (top 17)⟩
def dd9 : DefA := ⟨fun K => He.ga K "is_between", "is_between", "is_between", defArgs (top 18), defBody (top 18), defScope (top 18)⟩
def dd10 : DefA := ⟨fun K => He.ga K "is_number", "is_number", "is_number", defArgs (top 19), defBody (top 19), defScope (top 19)⟩
def dd11 : DefA := ⟨fun K => He.ga K "is_row", "is_row", "is_row", defArgs (top 23), defBody (top 23), defScope (top 23)⟩
def dd12 : DefA := ⟨fun K => He.ga K "check_hours", "check_hours", "check_hours", defArgs (top 27), defBody (top 27), defScope (top 27)⟩
def dd13 : DefA := ⟨fun K => He.ga K "is_gives", "is_gives", "is_gives", defArgs (top 24), defBody (top 24), defScope (top 24)⟩
def dd14 : DefA := ⟨fun K => He.ga K "is_kind", "is_kind", "is_kind", defArgs (top 25), defBody (top 25), defScope (top 25)⟩
def dd15 : DefA := ⟨fun K => He.ga K "check_kinds", "check_kinds", "check_kinds", defArgs (top 28), defBody (top 28), defScope (top 28)⟩
def dd16 : DefA := ⟨fun K => He.ma K (He.ga K "Plan") "__init__", "__init__", "Plan.__init__", defArgs (inClass (top 33) 0), defBody (inClass (top 33) 0), defScope (inClass (top 33) 0)⟩
def dd17 : DefA := ⟨fun K => He.ga K "_law_plan", "_law_plan", "_law_plan", defArgs (top 54), defBody (top 54), defScope (top 54)⟩
def dd18 : DefA := ⟨fun K => He.ga K "_law_able", "_law_able", "_law_able", defArgs (top 55), defBody (top 55), defScope (top 55)⟩
def dd19 : DefA := ⟨fun K => He.ga K "_law_gone", "_law_gone", "_law_gone", defArgs (top 56), defBody (top 56), defScope (top 56)⟩
def dd20 : DefA := ⟨fun K => He.ga K "_law_weight", "_law_weight", "_law_weight", defArgs (top 59), defBody (top 59), defScope (top 59)⟩
def dd21 : DefA := ⟨fun K => He.ga K "_law_needs", "_law_needs", "_law_needs", defArgs (top 60), defBody (top 60), defScope (top 60)⟩
def dd22 : DefA := ⟨fun K => He.ga K "_law_margin", "_law_margin", "_law_margin", defArgs (top 61), defBody (top 61), defScope (top 61)⟩
def dd23 : DefA := ⟨fun K => He.ga K "check_plan", "check_plan", "check_plan", defArgs (top 34), defBody (top 34), defScope (top 34)⟩
def dd24 : DefA := ⟨prGet "Plan" "kinds", "kinds", "Plan.kinds", defArgs (inClass (top 33) 4), defBody (inClass (top 33) 4), defScope (inClass (top 33) 4)⟩
def dd25 : DefA := ⟨fun K => He.ga K "most_ill", "most_ill", "most_ill", defArgs (top 32), defBody (top 32), defScope (top 32)⟩
def dd26 : DefA := ⟨fun K => He.ga K "is_absence", "is_absence", "is_absence", defArgs (top 35), defBody (top 35), defScope (top 35)⟩
def dd27 : DefA := ⟨fun K => He.ga K "check_away", "check_away", "check_away", defArgs (top 36), defBody (top 36), defScope (top 36)⟩
def dd28 : DefA := ⟨prGet "Plan" "hours", "hours", "Plan.hours", defArgs (inClass (top 33) 3), defBody (inClass (top 33) 3), defScope (inClass (top 33) 3)⟩
def dd29 : DefA := ⟨prGet "Plan" "subjects", "subjects", "Plan.subjects", defArgs (inClass (top 33) 2), defBody (inClass (top 33) 2), defScope (inClass (top 33) 2)⟩
def dd30 : DefA := ⟨fun K => He.ga K "pairs_of", "pairs_of", "pairs_of", defArgs (top 38), defBody (top 38), defScope (top 38)⟩
def dd31 : DefA := ⟨fun K => He.ga K "is_lot", "is_lot", "is_lot", defArgs (top 44), defBody (top 44), defScope (top 44)⟩
def dd32 : DefA := ⟨fun K => He.ga K "weight_of", "weight_of", "weight_of", defArgs (top 42), defBody (top 42), defScope (top 42)⟩
def dd33 : DefA := ⟨fun K => He.ga K "lessons_of", "lessons_of", "lessons_of", defArgs (top 41), defBody (top 41), defScope (top 41)⟩
def dd34 : DefA := ⟨fun K => He.ga K "margin_of", "margin_of", "margin_of", defArgs (top 43), defBody (top 43), defScope (top 43)⟩
def dd35 : DefA := ⟨fun K => He.ga K "margin", "margin", "margin", defArgs (top 45), defBody (top 45), defScope (top 45)⟩
def dd36 : DefA := ⟨fun K => He.ga K "order_of", "order_of", "order_of", defArgs (top 39), defBody (top 39), defScope (top 39)⟩
def dd37 : DefA := ⟨fun K => He.ga K "lots_of", "lots_of", "lots_of", defArgs (top 40), defBody (top 40), defScope (top 40)⟩
def dd38 : DefA := ⟨fun K => He.ga K "tightest", "tightest", "tightest", defArgs (top 46), defBody (top 46), defScope (top 46)⟩
def dd39 : DefA := ⟨fun K => He.ga K "tight_lot", "tight_lot", "tight_lot", defArgs (top 47), defBody (top 47), defScope (top 47)⟩
def dd40 : DefA := ⟨fun K => He.ga K "_law_odd", "_law_odd", "_law_odd", defArgs (top 63), defBody (top 63), defScope (top 63)⟩
def dd41 : DefA := ⟨fun K => He.ga K "_law_refused", "_law_refused", "_law_refused", defArgs (top 62), defBody (top 62), defScope (top 62)⟩
def dd42 : DefA := ⟨fun K => He.ga K "_law_right", "_law_right", "_law_right", defArgs (top 64), defBody (top 64), defScope (top 64)⟩
def dd43 : DefA := ⟨fun K => He.ga K "_law_cup", "_law_cup", "_law_cup", defArgs (top 49), defBody (top 49), defScope (top 49)⟩
def dd44 : DefA := ⟨fun K => He.ga K "law", "law", "law", defArgs (top 65), defBody (top 65), defScope (top 65)⟩
def fnL : List DefA := [dd0, dd1, dd2, dd3, dd4, dd5, dd6, dd7, dd8, dd9, dd10, dd11, dd12, dd13, dd14, dd15, dd16, dd17, dd18, dd19, dd20, dd21, dd22, dd23, dd24, dd25, dd26, dd27, dd28, dd29, dd30, dd31, dd32, dd33, dd34, dd35, dd36, dd37, dd38, dd39, dd40, dd41, dd42, dd43, dd44]
def faL : List He.Fa := [.free "len", .free "min", .free "max", .free "range", .free "divmod", .free "int", .glo "_law_sip", .glo "_law_words", .glo "_law_amount", .glo "_law_sketch", .free "sorted", .glo "_law_pairs", .glo "_law_lots", .free "tuple", .free "isinstance", .free "enumerate", .free "str", .str "LETTERS" "abcdefghijklmnopqrstuvwxyz", .free "all", .glo "is_name", .int "MOST_SUBJECTS" 4, .glo "check_subjects", .free "bool", .glo "is_integer", .int "MOST_NUMBER" 1000000000000000000000000000000, .glo "is_between", .glo "is_number", .glo "is_row", .int "MOST_HOURS" 3, .int "MOST_PAIRS" 9, .glo "check_hours", .glo "is_gives", .glo "is_kind", .int "MOST_KINDS" 5, .glo "check_kinds", .cls "Plan", .noat "Plan" "told", .mkr "Plan", .glo "Plan", .glo "_law_plan", .glo "_law_able", .glo "_law_gone", .free "zip", .glo "_law_weight", .free "sum", .glo "_law_needs", .glo "_law_margin", .glo "check_plan", .glo "most_ill", .glo "is_absence", .glo "check_away", .glo "pairs_of", .glo "is_lot", .free "set", .glo "weight_of", .glo "lessons_of", .glo "margin_of", .glo "margin", .free "repr", .glo "order_of", .glo "lots_of", .glo "tightest", .glo "tight_lot", .glo "_law_odd", .glo "_law_refused", .free "abs", .glo "_law_cup", .glo "_law_right", .glo "law"]
def prL : List (Str × Str) := [("Plan", "kinds"), ("Plan", "hours"), ("Plan", "subjects")]
def isL : List Str := ["Plan"]
def xcL : List XcD := [⟨"InvalidSubjects", "index", "ValueError", defArgs (inClass (top 7) 0), defBody (inClass (top 7) 0)⟩, ⟨"InvalidHours", "index", "ValueError", defArgs (inClass (top 8) 0), defBody (inClass (top 8) 0)⟩, ⟨"InvalidKinds", "index", "ValueError", defArgs (inClass (top 9) 0), defBody (inClass (top 9) 0)⟩, ⟨"NotAPlan", "given", "ValueError", defArgs (inClass (top 6) 0), defBody (inClass (top 6) 0)⟩, ⟨"InvalidAbsence", "given", "ValueError", defArgs (inClass (top 4) 0), defBody (inClass (top 4) 0)⟩, ⟨"InvalidPlace", "given", "ValueError", defArgs (inClass (top 5) 0), defBody (inClass (top 5) 0)⟩]
def tkL : List (Str × List Str × List Str) := [("InvalidPlace", ["InvalidPlace"], ["NotRight", "InvalidText", "InvalidAbsence", "NotAPlan", "InvalidSubjects", "InvalidHours", "InvalidKinds"])]
def erL : List (Str × Str) := [("InvalidPlace", "given")]
def fileL : Str := PySem.Challenge.pw_heldlessons_k31_whole_lots.main.file
abbrev Tx (P : Program) (K : Frag) (mg : Str → Option Value) : Prop := TxX faL fnL prL isL xcL tkL erL fileL P K mg
section
variable {P : Program} {w : World} {K : Frag} {mg : Str → Option Value} {base : Heap}
theorem sc__law_sip : FnScope ["_law_cup_here", "_law_top", "_law_digit"] ["_law_cup_here", "_law_top"] (defScope (top 50)) := ⟨rfl, rfl, rfl, by decide +kernel, rfl, by decide +kernel, by decide +kernel⟩
theorem kn__law_sip (T : Tx P K mg) : Kn P w K mg base "_law_sip" "_law_sip" (top 50) (He.ga K "_law_sip") ["_law_cup_here", "_law_top"] 1 2 F__law_sip := by
  refine Kn.of (x := "_law_sip") (qual := "_law_sip") (f := He.ga K "_law_sip") (st := top 50) (N := ["_law_cup_here", "_law_top", "_law_digit"]) (ps := ["_law_cup_here", "_law_top"]) (k := 0) (n := 2) (tr := false) (bf := bf__law_sip) (T.dn 0 rfl) sc__law_sip rfl (fun _ _ _ _ _ _ us hl => match us, hl with | [_, _], _ => rfl) fun X E hX c => ?_
  obtain ⟨cdv, A, outer, s, H, rfl⟩ := hX
  exact (fb_cons (fs_asg (fe_bin op_pAdd (fe_ix (fe_loc 0) fe_int) fe_int) (fh_ix (fe_loc 0) fe_int)) (fb_cons (fs_if (ft_cmp op_pGt (fe_ix (fe_loc 0) fe_int) fe_int) (fb_cons (fs_asg (fe_b call_pDivmodW (T.fr 4 rfl) (by decide +kernel) rfl (fa_cons (fe_ix (fe_loc 0) fe_int) (fa_cons (fe_loc 1) fa_nil))) (fh_tup c.cm (fhs_cons (fh_ix (fe_loc 0) fe_int) (fhs_cons (fh_name 2 c.nd) fhs_nil)))) (fb_one (fs_ret (fe_loc 2)))) fb_nil) (fb_cons (fs_asg (fe_bin op_pMod (fe_ty call_pInt (T.fr 5 rfl) (by decide +kernel) rfl (fa_cons (fe_bin op_pAdd (fe_bin op_pMul (fe_ix (fe_loc 0) fe_int) fe_int) (fe_bin op_pMul fe_int (fe_ix (fe_loc 0) fe_int))) fa_nil)) fe_int) (fh_ix (fe_loc 0) fe_int)) (fb_one (fs_ret (fe_bin op_pMod (fe_ty call_pInt (T.fr 5 rfl) (by decide +kernel) rfl (fa_cons (fe_bin op_pDiv (fe_ix (fe_loc 0) fe_int) fe_int) fa_nil)) (fe_loc 1)))))))
theorem sc__law_words : FnScope ["_law_cup_here", "_law_many", "_law_begin", "_law_step", "_law_menu", "_law_k"] ["_law_cup_here", "_law_many"] (defScope (top 51)) := ⟨rfl, rfl, rfl, by decide +kernel, rfl, by decide +kernel, by decide +kernel⟩
theorem kn__law_words (T : Tx P K mg) : Kn P w K mg base "_law_words" "_law_words" (top 51) (He.ga K "_law_words") ["_law_cup_here", "_law_many"] 2 2 F__law_words := by
  refine Kn.of (x := "_law_words") (qual := "_law_words") (f := He.ga K "_law_words") (st := top 51) (N := ["_law_cup_here", "_law_many", "_law_begin", "_law_step", "_law_menu", "_law_k"]) (ps := ["_law_cup_here", "_law_many"]) (k := 1) (n := 2) (tr := false) (bf := bf__law_words) (T.dn 1 rfl) sc__law_words rfl (fun _ _ _ _ _ _ us hl => match us, hl with | [_, _], _ => rfl) fun X E hX c => ?_
  obtain ⟨cdv, A, outer, s, H, rfl⟩ := hX
  exact (fb_cons (fs_asg (fe_tup (fa_cons (fe_kn (kn__law_sip T) c (T.gl 6 rfl) rfl (fa_cons (fe_loc 0) (fa_cons fe_int fa_nil))) (fa_cons (fe_bin op_pAdd fe_int (fe_kn (kn__law_sip T) c (T.gl 6 rfl) rfl (fa_cons (fe_loc 0) (fa_cons fe_int fa_nil)))) fa_nil))) (fh_tup c.cm (fhs_cons (fh_name 2 c.nd) (fhs_cons (fh_name 3 c.nd) fhs_nil)))) (fb_cons (fs_set 4 c.nd (fe_lst (fa_cons fe_str (fa_cons fe_str (fa_cons fe_str (fa_cons fe_str (fa_cons fe_str (fa_cons fe_str (fa_cons fe_str (fa_cons fe_str (fa_cons fe_str (fa_cons fe_str (fa_cons fe_str fa_nil))))))))))))) (fb_one (fs_ret (fe_lcF c (fi_rg1 (T.fr 3 rfl) rfl (fa_cons (fe_loc 1) fa_nil)) (blkOk_by (own := [("_law_k", 5)]) (by kernel_rfl)) (fun s H C cl fp c => (fg_name 5 c.nd)) (by decide) (fun s H C cl fp c => fts_nil) (fun s H C cl fp c => (fe_ix (fe_loc 4) (fe_bin op_pMod (fe_ty call_pInt (T.fr 5 rfl) (by decide +kernel) rfl (fa_cons (fe_bin op_pAdd (fe_loc 2) (fe_bin op_pMul (fe_loc 3) (fe_loc 5))) fa_nil)) fe_int))))))))
theorem sc__law_amount : FnScope ["_law_cup_here", "_law_small"] ["_law_cup_here", "_law_small"] (defScope (top 52)) := ⟨rfl, rfl, rfl, by decide +kernel, rfl, by decide +kernel, by decide +kernel⟩
theorem kn__law_amount (T : Tx P K mg) : Kn P w K mg base "_law_amount" "_law_amount" (top 52) (He.ga K "_law_amount") ["_law_cup_here", "_law_small"] 2 2 F__law_amount := by
  refine Kn.of (x := "_law_amount") (qual := "_law_amount") (f := He.ga K "_law_amount") (st := top 52) (N := ["_law_cup_here", "_law_small"]) (ps := ["_law_cup_here", "_law_small"]) (k := 1) (n := 2) (tr := false) (bf := bf__law_amount) (T.dn 2 rfl) sc__law_amount rfl (fun _ _ _ _ _ _ us hl => match us, hl with | [_, _], _ => rfl) fun X E hX c => ?_
  obtain ⟨cdv, A, outer, s, H, rfl⟩ := hX
  exact (fb_cons (fs_if (ft_w (fw_and (ft_not (ft_val (fe_loc 1))) (fw_and1 (ft_cmp (op_pEq c.hu4) (fe_kn (kn__law_sip T) c (T.gl 6 rfl) rfl (fa_cons (fe_loc 0) (fa_cons fe_int fa_nil))) fe_int)))) (fb_one (fs_ret (fe_bin op_pSub (fe_ix (fe_lst (fa_cons (fe_bin op_pPow fe_int fe_int) (fa_cons (fe_bin op_pAdd (fe_bin op_pPow fe_int fe_int) fe_int) (fa_cons (fe_bin op_pPow fe_int fe_int) (fa_cons fe_int (fa_cons fe_int fa_nil)))))) (fe_kn (kn__law_sip T) c (T.gl 6 rfl) rfl (fa_cons (fe_loc 0) (fa_cons fe_int fa_nil)))) (fe_kn (kn__law_sip T) c (T.gl 6 rfl) rfl (fa_cons (fe_loc 0) (fa_cons fe_int fa_nil)))))) fb_nil) (fb_one (fs_ret (fe_kn (kn__law_sip T) c (T.gl 6 rfl) rfl (fa_cons (fe_loc 0) (fa_cons fe_int fa_nil))))))
theorem sc__law_sketch : FnScope ["_law_cup_here", "_law_small", "_law_width", "_law_deep", "_law_topics", "_law_names", "_law_clocks", "_law_sorts", "_law_name", "_law_gives", "_law_able_here", "_law_many", "_law_h", "_law_k", "_law_subject_here"] ["_law_cup_here", "_law_small"] (defScope (top 53)) := ⟨rfl, rfl, rfl, by decide +kernel, rfl, by decide +kernel, by decide +kernel⟩
theorem kn__law_sketch (T : Tx P K mg) : Kn P w K mg base "_law_sketch" "_law_sketch" (top 53) (He.ga K "_law_sketch") ["_law_cup_here", "_law_small"] 3 2 F__law_sketch := by
  refine Kn.of (x := "_law_sketch") (qual := "_law_sketch") (f := He.ga K "_law_sketch") (st := top 53) (N := ["_law_cup_here", "_law_small", "_law_width", "_law_deep", "_law_topics", "_law_names", "_law_clocks", "_law_sorts", "_law_name", "_law_gives", "_law_able_here", "_law_many", "_law_h", "_law_k", "_law_subject_here"]) (ps := ["_law_cup_here", "_law_small"]) (k := 2) (n := 2) (tr := true) (bf := bf__law_sketch) (T.dn 3 rfl) sc__law_sketch rfl (fun _ _ _ _ _ _ us hl => match us, hl with | [_, _], _ => rfl) fun X E hX c => ?_
  obtain ⟨cdv, A, outer, s, H, rfl⟩ := hX
  exact (fb_cons (fs_asg (fe_tup (fa_cons (fe_bin op_pAdd fe_int (fe_kn (kn__law_sip T) c (T.gl 6 rfl) rfl (fa_cons (fe_loc 0) (fa_cons fe_int fa_nil)))) (fa_cons (fe_bin op_pAdd fe_int (fe_kn (kn__law_sip T) c (T.gl 6 rfl) rfl (fa_cons (fe_loc 0) (fa_cons fe_int fa_nil)))) fa_nil))) (fh_tup c.cm (fhs_cons (fh_name 2 c.nd) (fhs_cons (fh_name 3 c.nd) fhs_nil)))) (fb_cons (fs_par 4 5 c.cm c.nd (fa_cons (fe_kn (kn__law_words T) c (T.gl 7 rfl) rfl (fa_cons (fe_loc 0) (fa_cons (fe_loc 2) fa_nil))) (fa_cons (fe_kn (kn__law_words T) c (T.gl 7 rfl) rfl (fa_cons (fe_loc 0) (fa_cons fe_int fa_nil))) fa_nil))) (fb_cons (fs_setLcF 6 c (fi_rg1 (T.fr 3 rfl) rfl (fa_cons (fe_loc 3) fa_nil)) (blkOk_by (own := [("_law_h", 12)]) (by kernel_rfl)) (fun s H C cl fp c => (fg_name 12 c.nd)) (by decide) (fun s H C cl fp c => fts_nil) (fun s H C cl fp c => (fe_lcF c (fi_rg1 (T.fr 3 rfl) rfl (fa_cons (fe_loc 2) fa_nil)) (blkOk_by (own := [("_law_k", 13)]) (by kernel_rfl)) (fun s H C cl fp c => (fg_name 13 c.nd)) (by decide) (fun s H C cl fp c => fts_nil) (fun s H C cl fp c => (fe_kn (kn__law_amount T) c (T.gl 8 rfl) rfl (fa_cons (fe_loc 0) (fa_cons (fe_loc 1) fa_nil))))))) (fb_cons (fs_set 7 c.nd (fe_new fa_nil)) (fb_cons (fs_for c.hp c.cm (fi_val (fe_sl (fe_loc 5) fo_none (fo_some (fe_bin op_pAdd fe_int (fe_kn (kn__law_sip T) c (T.gl 6 rfl) rfl (fa_cons (fe_loc 0) (fa_cons (fe_if (ft_val (fe_loc 1)) fe_int fe_int) fa_nil))))))) (fg_name 8 c.nd) (fb_cons (fs_setLcF 9 c (fi_val (fe_loc 4)) (blkOk_by (own := [("_law_subject_here", 14)]) (by kernel_rfl)) (fun s H C cl fp c => (fg_name 14 c.nd)) (by decide) (fun s H C cl fp c => (fts_one (ft_cmp op_pGt (fe_kn (kn__law_sip T) c (T.gl 6 rfl) rfl (fa_cons (fe_loc 0) (fa_cons fe_int fa_nil))) fe_int))) (fun s H C cl fp c => (fe_loc 14))) (fb_cons (fs_set 10 c.nd (fe_if (ft_cmp (op_pEq c.hu4) (fe_kn (kn__law_sip T) c (T.gl 6 rfl) rfl (fa_cons (fe_loc 0) (fa_cons fe_int fa_nil))) fe_int) fe_non (fe_kn (kn__law_amount T) c (T.gl 8 rfl) rfl (fa_cons (fe_loc 0) (fa_cons (fe_loc 1) fa_nil))))) (fb_cons (fs_set 11 c.nd (fe_bin op_pAdd (fe_kn (kn__law_amount T) c (T.gl 8 rfl) rfl (fa_cons (fe_loc 0) (fa_cons (fe_loc 1) fa_nil))) (fe_kn (kn__law_sip T) c (T.gl 6 rfl) rfl (fa_cons (fe_loc 0) (fa_cons fe_int fa_nil))))) (fb_one (fs_expr (fe_meth F.plainAttrs_list F.slot_list_append F.type_list_append mt_qAppend (by decide) (fe_loc 7) (fa_cons (fe_lst (fa_cons (fe_loc 8) (fa_cons (fe_if (ft_cmp (op_pNe c.hu4) (fe_loc 9) (fe_lst fa_nil)) (fe_loc 9) (fe_sl (fe_loc 4) fo_none (fo_some fe_int))) (fa_cons (fe_b (call_pMin2 c.cm) (T.fr 1 rfl) (by decide +kernel) rfl (fa_cons (fe_loc 11) (fa_cons (fe_bin op_pPow fe_int fe_int) fa_nil))) (fa_cons (fe_bin op_pAdd fe_int (fe_kn (kn__law_sip T) c (T.gl 6 rfl) rfl (fa_cons (fe_loc 0) (fa_cons fe_int fa_nil)))) (fa_cons (fe_loc 10) fa_nil)))))) fa_nil)))))))) (fb_one (fs_ret (fe_lst (fa_cons (fe_loc 4) (fa_cons (fe_loc 6) (fa_cons (fe_loc 7) fa_nil)))))))))))
theorem sc__law_pairs : FnScope ["_law_sketch_here", "_law_found", "_law_h", "_law_k"] ["_law_sketch_here"] (defScope (top 57)) := ⟨rfl, rfl, rfl, by decide +kernel, rfl, by decide +kernel, by decide +kernel⟩
theorem kn__law_pairs (T : Tx P K mg) : Kn P w K mg base "_law_pairs" "_law_pairs" (top 57) (He.ga K "_law_pairs") ["_law_sketch_here"] 1 1 F__law_pairs := by
  refine Kn.of (x := "_law_pairs") (qual := "_law_pairs") (f := He.ga K "_law_pairs") (st := top 57) (N := ["_law_sketch_here", "_law_found", "_law_h", "_law_k"]) (ps := ["_law_sketch_here"]) (k := 0) (n := 1) (tr := false) (bf := bf__law_pairs) (T.dn 4 rfl) sc__law_pairs rfl (fun _ _ _ _ _ _ us hl => match us, hl with | [_], _ => rfl) fun X E hX c => ?_
  obtain ⟨cdv, A, outer, s, H, rfl⟩ := hX
  exact (fb_cons (fs_set 1 c.nd (fe_lst fa_nil)) (fb_cons (fs_for c.hp c.cm (fi_rg1 (T.fr 3 rfl) rfl (fa_cons (fe_b call_pLenS (T.fr 0 rfl) (by decide +kernel) rfl (fa_cons (fe_ix (fe_loc 0) fe_int) fa_nil)) fa_nil)) (fg_name 2 c.nd) (fb_one (fs_set 1 c.nd (fe_bin op_pAdd (fe_loc 1) (fe_lcF c (fi_rg1 (T.fr 3 rfl) rfl (fa_cons (fe_b call_pLenS (T.fr 0 rfl) (by decide +kernel) rfl (fa_cons (fe_ix (fe_loc 0) fe_int) fa_nil)) fa_nil)) (blkOk_by (own := [("_law_k", 3)]) (by kernel_rfl)) (fun s H C cl fp c => (fg_name 3 c.nd)) (by decide) (fun s H C cl fp c => (fts_one (ft_cmp op_pGt (fe_ix (fe_ix (fe_ix (fe_loc 0) fe_int) (fe_loc 2)) (fe_loc 3)) fe_int))) (fun s H C cl fp c => (fe_tup (fa_cons (fe_loc 2) (fa_cons (fe_ix (fe_ix (fe_loc 0) fe_int) (fe_loc 3)) fa_nil))))))))) (fb_one (fs_ret (fe_b (call_pSorted c.hu4) (T.fr 10 rfl) (by decide +kernel) rfl (fa_cons (fe_loc 1) fa_nil))))))
theorem sc__law_lots : FnScope ["_law_sketch_here", "_law_found", "_law_pair", "_law_ranked", "_law_lump"] ["_law_sketch_here"] (defScope (top 58)) := ⟨rfl, rfl, rfl, by decide +kernel, rfl, by decide +kernel, by decide +kernel⟩
theorem kn__law_lots (T : Tx P K mg) : Kn P w K mg base "_law_lots" "_law_lots" (top 58) (He.ga K "_law_lots") ["_law_sketch_here"] 2 1 F__law_lots := by
  refine Kn.of (x := "_law_lots") (qual := "_law_lots") (f := He.ga K "_law_lots") (st := top 58) (N := ["_law_sketch_here", "_law_found", "_law_pair", "_law_ranked", "_law_lump"]) (ps := ["_law_sketch_here"]) (k := 1) (n := 1) (tr := false) (bf := bf__law_lots) (T.dn 5 rfl) sc__law_lots rfl (fun _ _ _ _ _ _ us hl => match us, hl with | [_], _ => rfl) fun X E hX c => ?_
  obtain ⟨cdv, A, outer, s, H, rfl⟩ := hX
  exact (fb_cons (fs_set 1 c.nd (fe_lst (fa_cons (fe_tup fa_nil) fa_nil))) (fb_cons (fs_for c.hp c.cm (fi_val (fe_kn (kn__law_pairs T) c (T.gl 11 rfl) rfl (fa_cons (fe_loc 0) fa_nil))) (fg_name 2 c.nd) (fb_one (fs_set 1 c.nd (fe_bin op_pAdd (fe_loc 1) (fe_lcF c (fi_val (fe_loc 1)) (blkOk_by (own := [("_law_lump", 4)]) (by kernel_rfl)) (fun s H C cl fp c => (fg_name 4 c.nd)) (by decide) (fun s H C cl fp c => fts_nil) (fun s H C cl fp c => (fe_bin op_pAdd (fe_loc 4) (fe_tup (fa_cons (fe_loc 2) fa_nil))))))))) (fb_cons (fs_set 3 c.nd (fe_b (call_pSorted c.hu4) (T.fr 10 rfl) (by decide +kernel) rfl (fa_cons (fe_lcF c (fi_val (fe_sl (fe_loc 1) (fo_some fe_int) fo_none)) (blkOk_by (own := [("_law_lump", 4)]) (by kernel_rfl)) (fun s H C cl fp c => (fg_name 4 c.nd)) (by decide) (fun s H C cl fp c => fts_nil) (fun s H C cl fp c => (fe_tup (fa_cons (fe_b call_pLenS (T.fr 0 rfl) (by decide +kernel) rfl (fa_cons (fe_loc 4) fa_nil)) (fa_cons (fe_loc 4) fa_nil))))) fa_nil))) (fb_one (fs_ret (fe_lcF c (fi_val (fe_loc 3)) (blkOk_by (own := [("_law_pair", 2)]) (by kernel_rfl)) (fun s H C cl fp c => (fg_name 2 c.nd)) (by decide) (fun s H C cl fp c => fts_nil) (fun s H C cl fp c => (fe_ix (fe_loc 2) fe_int))))))))
theorem sc_is_name : FnScope ["value", "sign"] ["value"] (defScope (top 20)) := ⟨rfl, rfl, rfl, by decide +kernel, rfl, by decide +kernel, by decide +kernel⟩
theorem kn_is_name (T : Tx P K mg) : Kn P w K mg base "is_name" "is_name" (top 20) (He.ga K "is_name") ["value"] 1 1 F_is_name := by
  refine Kn.of (x := "is_name") (qual := "is_name") (f := He.ga K "is_name") (st := top 20) (N := ["value", "sign"]) (ps := ["value"]) (k := 0) (n := 1) (tr := false) (bf := bf_is_name) (T.dn 6 rfl) sc_is_name rfl (fun _ _ _ _ _ _ us hl => match us, hl with | [_], _ => rfl) fun X E hX c => ?_
  obtain ⟨cdv, A, outer, s, H, rfl⟩ := hX
  exact (fb_one (fs_ret (fe_and (fe_isiT (T := "str") (by decide) (T.fr 14 rfl) rfl (T.fr 16 rfl) rfl (fe_loc 0) (by decide +kernel)) (fe_and (fe_chain op_pLt op_pLt fe_int (fe_b call_pLenS (T.fr 0 rfl) (by decide +kernel) rfl (fa_cons (fe_loc 0) fa_nil)) fe_int) (fe_one (fe_b (call_pAll c.cm) (T.fr 18 rfl) (by decide +kernel) rfl (fa_cons (fe_lcF c (fi_val (fe_loc 0)) (blkOk_by (own := [("sign", 1)]) (by kernel_rfl)) (fun s H C cl fp c => (fg_name 1 c.nd)) (by decide) (fun s H C cl fp c => fts_nil) (fun s H C cl fp c => (fe_cmp (op_pIn c.hu) (fe_loc 1) (fe_gstr rfl (T.st 17 rfl))))) fa_nil)))))))
theorem sc_check_subjects : FnScope ["subjects", "index", "name"] ["subjects"] (defScope (top 26)) := ⟨rfl, rfl, rfl, by decide +kernel, rfl, by decide +kernel, by decide +kernel⟩
theorem kn_check_subjects (T : Tx P K mg) : Kn P w K mg base "check_subjects" "check_subjects" (top 26) (He.ga K "check_subjects") ["subjects"] 2 1 F_check_subjects := by
  refine Kn.of (x := "check_subjects") (qual := "check_subjects") (f := He.ga K "check_subjects") (st := top 26) (N := ["subjects", "index", "name"]) (ps := ["subjects"]) (k := 1) (n := 1) (tr := false) (bf := bf_check_subjects) (T.dn 7 rfl) sc_check_subjects rfl (fun _ _ _ _ _ _ us hl => match us, hl with | [_], _ => rfl) fun X E hX c => ?_
  obtain ⟨cdv, A, outer, s, H, rfl⟩ := hX
  exact (fb_cons (fs_if (ft_w (fw_or (ft_not (ft_val (fe_isiT (T := "tuple") (by decide) (T.fr 14 rfl) rfl (T.fr 13 rfl) rfl (fe_loc 0) (by decide +kernel)))) (fw_or1 (ft_cmp (op_pEq c.hu4) (fe_b call_pLenS (T.fr 0 rfl) (by decide +kernel) rfl (fa_cons (fe_loc 0) fa_nil)) fe_int)))) (fb_one (fs_raise c.cm (T.xc 0 rfl) T.tp c.rm.r c.tk (fa_cons fe_non fa_nil) rfl)) fb_nil) (fb_one (fs_for c.hp c.cm (fi_enum (T.fr 15 rfl) rfl (fa_cons (fe_loc 0) fa_nil)) (fg_tup c.cm (fgs_cons (fg_name 1 c.nd) (fgs_cons (fg_name 2 c.nd) fgs_nil))) (fb_one (fs_if (ft_w (fw_or (ft_not (ft_val (fe_kn (kn_is_name T) c (T.gl 19 rfl) rfl (fa_cons (fe_loc 2) fa_nil)))) (fw_or (ft_cmp (op_pIn c.hu) (fe_loc 2) (fe_sl (fe_loc 0) fo_none (fo_some (fe_loc 1)))) (fw_or1 (ft_cmp op_pGe (fe_loc 1) (fe_gint rfl (T.it 20 rfl))))))) (fb_one (fs_raise c.cm (T.xc 0 rfl) T.tp c.rm.r c.tk (fa_cons (fe_loc 1) fa_nil) rfl)) fb_nil)))))
theorem sc_is_integer : FnScope ["value"] ["value"] (defScope (top 17)) := ⟨rfl, rfl, rfl, by decide +kernel, rfl, by decide +kernel, by decide +kernel⟩
theorem kn_is_integer (T : Tx P K mg) : Kn P w K mg base "is_integer" "is_integer" (top 17) (He.ga K "is_integer") ["value"] 1 1 F_is_integer := by
  refine Kn.of (x := "is_integer") (qual := "is_integer") (f := He.ga K "is_integer") (st := top 17) (N := ["value"]) (ps := ["value"]) (k := 0) (n := 1) (tr := false) (bf := bf_is_integer) (T.dn 8 rfl) sc_is_integer rfl (fun _ _ _ _ _ _ us hl => match us, hl with | [_], _ => rfl) fun X E hX c => ?_
  obtain ⟨cdv, A, outer, s, H, rfl⟩ := hX
  exact (fb_one (fs_ret (fe_and (fe_isiT (T := "int") (by decide) (T.fr 14 rfl) rfl (T.fr 5 rfl) rfl (fe_loc 0) (by decide +kernel)) (fe_one (fe_not (fe_isiT (T := "bool") (by decide) (T.fr 14 rfl) rfl (T.fr 22 rfl) rfl (fe_loc 0) (by decide +kernel)))))))
theorem sc_is_between : FnScope ["value", "least", "most"] ["value", "least", "most"] (defScope (top 18)) := ⟨rfl, rfl, rfl, by decide +kernel, rfl, by decide +kernel, by decide +kernel⟩
theorem kn_is_between (T : Tx P K mg) : Kn P w K mg base "is_between" "is_between" (top 18) (He.ga K "is_between") ["value", "least", "most"] 2 3 F_is_between := by
  refine Kn.of (x := "is_between") (qual := "is_between") (f := He.ga K "is_between") (st := top 18) (N := ["value", "least", "most"]) (ps := ["value", "least", "most"]) (k := 1) (n := 3) (tr := false) (bf := bf_is_between) (T.dn 9 rfl) sc_is_between rfl (fun _ _ _ _ _ _ us hl => match us, hl with | [_, _, _], _ => rfl) fun X E hX c => ?_
  obtain ⟨cdv, A, outer, s, H, rfl⟩ := hX
  exact (fb_one (fs_ret (fe_and (fe_kn (kn_is_integer T) c (T.gl 23 rfl) rfl (fa_cons (fe_loc 0) fa_nil)) (fe_one (fe_chain op_pLe op_pLe (fe_loc 1) (fe_loc 0) (fe_loc 2))))))
theorem sc_is_number : FnScope ["value"] ["value"] (defScope (top 19)) := ⟨rfl, rfl, rfl, by decide +kernel, rfl, by decide +kernel, by decide +kernel⟩
theorem kn_is_number (T : Tx P K mg) : Kn P w K mg base "is_number" "is_number" (top 19) (He.ga K "is_number") ["value"] 3 1 F_is_number := by
  refine Kn.of (x := "is_number") (qual := "is_number") (f := He.ga K "is_number") (st := top 19) (N := ["value"]) (ps := ["value"]) (k := 2) (n := 1) (tr := false) (bf := bf_is_number) (T.dn 10 rfl) sc_is_number rfl (fun _ _ _ _ _ _ us hl => match us, hl with | [_], _ => rfl) fun X E hX c => ?_
  obtain ⟨cdv, A, outer, s, H, rfl⟩ := hX
  exact (fb_one (fs_ret (fe_kn (kn_is_between T) c (T.gl 25 rfl) rfl (fa_cons (fe_loc 0) (fa_cons fe_int (fa_cons (fe_gint rfl (T.it 24 rfl)) fa_nil))))))
theorem sc_is_row : FnScope ["subjects", "value", "number"] ["subjects", "value"] (defScope (top 23)) := ⟨rfl, rfl, rfl, by decide +kernel, rfl, by decide +kernel, by decide +kernel⟩
theorem kn_is_row (T : Tx P K mg) : Kn P w K mg base "is_row" "is_row" (top 23) (He.ga K "is_row") ["subjects", "value"] 4 2 F_is_row := by
  refine Kn.of (x := "is_row") (qual := "is_row") (f := He.ga K "is_row") (st := top 23) (N := ["subjects", "value", "number"]) (ps := ["subjects", "value"]) (k := 3) (n := 2) (tr := false) (bf := bf_is_row) (T.dn 11 rfl) sc_is_row rfl (fun _ _ _ _ _ _ us hl => match us, hl with | [_, _], _ => rfl) fun X E hX c => ?_
  obtain ⟨cdv, A, outer, s, H, rfl⟩ := hX
  exact (fb_cons (fs_if (ft_w (fw_or (ft_not (ft_val (fe_isiT (T := "tuple") (by decide) (T.fr 14 rfl) rfl (T.fr 13 rfl) rfl (fe_loc 1) (by decide +kernel)))) (fw_or1 (ft_cmp (op_pNe c.hu4) (fe_b call_pLenS (T.fr 0 rfl) (by decide +kernel) rfl (fa_cons (fe_loc 1) fa_nil)) (fe_b call_pLenS (T.fr 0 rfl) (by decide +kernel) rfl (fa_cons (fe_loc 0) fa_nil)))))) (fb_one (fs_ret fe_bl)) fb_nil) (fb_one (fs_ret (fe_b (call_pAll c.cm) (T.fr 18 rfl) (by decide +kernel) rfl (fa_cons (fe_lcF c (fi_val (fe_loc 1)) (blkOk_by (own := [("number", 2)]) (by kernel_rfl)) (fun s H C cl fp c => (fg_name 2 c.nd)) (by decide) (fun s H C cl fp c => fts_nil) (fun s H C cl fp c => (fe_kn (kn_is_number T) c (T.gl 26 rfl) rfl (fa_cons (fe_loc 2) fa_nil)))) fa_nil)))))
theorem sc_check_hours : FnScope ["subjects", "hours", "index", "numbers", "pairs"] ["subjects", "hours"] (defScope (top 27)) := ⟨rfl, rfl, rfl, by decide +kernel, rfl, by decide +kernel, by decide +kernel⟩
theorem kn_check_hours (T : Tx P K mg) : Kn P w K mg base "check_hours" "check_hours" (top 27) (He.ga K "check_hours") ["subjects", "hours"] 5 2 F_check_hours := by
  refine Kn.of (x := "check_hours") (qual := "check_hours") (f := He.ga K "check_hours") (st := top 27) (N := ["subjects", "hours", "index", "numbers", "pairs"]) (ps := ["subjects", "hours"]) (k := 4) (n := 2) (tr := false) (bf := bf_check_hours) (T.dn 12 rfl) sc_check_hours rfl (fun _ _ _ _ _ _ us hl => match us, hl with | [_, _], _ => rfl) fun X E hX c => ?_
  obtain ⟨cdv, A, outer, s, H, rfl⟩ := hX
  exact (fb_cons (fs_if (ft_w (fw_or (ft_not (ft_val (fe_isiT (T := "tuple") (by decide) (T.fr 14 rfl) rfl (T.fr 13 rfl) rfl (fe_loc 1) (by decide +kernel)))) (fw_or1 (ft_cmp (op_pEq c.hu4) (fe_b call_pLenS (T.fr 0 rfl) (by decide +kernel) rfl (fa_cons (fe_loc 1) fa_nil)) fe_int)))) (fb_one (fs_raise c.cm (T.xc 1 rfl) T.tp c.rm.r c.tk (fa_cons fe_non fa_nil) rfl)) fb_nil) (fb_one (fs_for c.hp c.cm (fi_enum (T.fr 15 rfl) rfl (fa_cons (fe_loc 1) fa_nil)) (fg_tup c.cm (fgs_cons (fg_name 2 c.nd) (fgs_cons (fg_name 3 c.nd) fgs_nil))) (fb_cons (fs_set 4 c.nd (fe_bin op_pMul (fe_bin op_pAdd (fe_loc 2) fe_int) (fe_b call_pLenS (T.fr 0 rfl) (by decide +kernel) rfl (fa_cons (fe_loc 0) fa_nil)))) (fb_one (fs_if (ft_w (fw_or (ft_not (ft_val (fe_kn (kn_is_row T) c (T.gl 27 rfl) rfl (fa_cons (fe_loc 0) (fa_cons (fe_loc 3) fa_nil))))) (fw_or (ft_cmp op_pGe (fe_loc 2) (fe_gint rfl (T.it 28 rfl))) (fw_or1 (ft_cmp op_pGt (fe_loc 4) (fe_gint rfl (T.it 29 rfl))))))) (fb_one (fs_raise c.cm (T.xc 1 rfl) T.tp c.rm.r c.tk (fa_cons (fe_loc 2) fa_nil) rfl)) fb_nil))))))
theorem sc_is_gives : FnScope ["subjects", "value", "name"] ["subjects", "value"] (defScope (top 24)) := ⟨rfl, rfl, rfl, by decide +kernel, rfl, by decide +kernel, by decide +kernel⟩
theorem kn_is_gives (T : Tx P K mg) : Kn P w K mg base "is_gives" "is_gives" (top 24) (He.ga K "is_gives") ["subjects", "value"] 2 2 F_is_gives := by
  refine Kn.of (x := "is_gives") (qual := "is_gives") (f := He.ga K "is_gives") (st := top 24) (N := ["subjects", "value", "name"]) (ps := ["subjects", "value"]) (k := 1) (n := 2) (tr := false) (bf := bf_is_gives) (T.dn 13 rfl) sc_is_gives rfl (fun _ _ _ _ _ _ us hl => match us, hl with | [_, _], _ => rfl) fun X E hX c => ?_
  obtain ⟨cdv, A, outer, s, H, rfl⟩ := hX
  exact (fb_cons (fs_if (ft_w (fw_or (ft_not (ft_val (fe_isiT (T := "tuple") (by decide) (T.fr 14 rfl) rfl (T.fr 13 rfl) rfl (fe_loc 1) (by decide +kernel)))) (fw_or (ft_cmp (op_pEq c.hu4) (fe_b call_pLenS (T.fr 0 rfl) (by decide +kernel) rfl (fa_cons (fe_loc 1) fa_nil)) fe_int) (fw_or1 (ft_not (ft_val (fe_b (call_pAll c.cm) (T.fr 18 rfl) (by decide +kernel) rfl (fa_cons (fe_lcF c (fi_val (fe_loc 1)) (blkOk_by (own := [("name", 2)]) (by kernel_rfl)) (fun s H C cl fp c => (fg_name 2 c.nd)) (by decide) (fun s H C cl fp c => fts_nil) (fun s H C cl fp c => (fe_kn (kn_is_name T) c (T.gl 19 rfl) rfl (fa_cons (fe_loc 2) fa_nil)))) fa_nil)))))))) (fb_one (fs_ret fe_bl)) fb_nil) (fb_one (fs_ret (fe_cmp (op_pEq c.hu4) (fe_loc 1) (fe_ty call_pTuple (T.fr 13 rfl) (by decide +kernel) rfl (fa_cons (fe_lcF c (fi_val (fe_loc 0)) (blkOk_by (own := [("name", 2)]) (by kernel_rfl)) (fun s H C cl fp c => (fg_name 2 c.nd)) (by decide) (fun s H C cl fp c => (fts_one (ft_cmp (op_pIn c.hu) (fe_loc 2) (fe_loc 1)))) (fun s H C cl fp c => (fe_loc 2))) fa_nil))))))
theorem sc_is_kind : FnScope ["subjects", "value", "name", "gives", "number", "most", "ill"] ["subjects", "value"] (defScope (top 25)) := ⟨rfl, rfl, rfl, by decide +kernel, rfl, by decide +kernel, by decide +kernel⟩
theorem kn_is_kind (T : Tx P K mg) : Kn P w K mg base "is_kind" "is_kind" (top 25) (He.ga K "is_kind") ["subjects", "value"] 4 2 F_is_kind := by
  refine Kn.of (x := "is_kind") (qual := "is_kind") (f := He.ga K "is_kind") (st := top 25) (N := ["subjects", "value", "name", "gives", "number", "most", "ill"]) (ps := ["subjects", "value"]) (k := 3) (n := 2) (tr := false) (bf := bf_is_kind) (T.dn 14 rfl) sc_is_kind rfl (fun _ _ _ _ _ _ us hl => match us, hl with | [_, _], _ => rfl) fun X E hX c => ?_
  obtain ⟨cdv, A, outer, s, H, rfl⟩ := hX
  exact (fb_cons (fs_if (ft_w (fw_or (ft_not (ft_val (fe_isiT (T := "tuple") (by decide) (T.fr 14 rfl) rfl (T.fr 13 rfl) rfl (fe_loc 1) (by decide +kernel)))) (fw_or1 (ft_cmp (op_pNe c.hu4) (fe_b call_pLenS (T.fr 0 rfl) (by decide +kernel) rfl (fa_cons (fe_loc 1) fa_nil)) fe_int)))) (fb_one (fs_ret fe_bl)) fb_nil) (fb_cons (fs_asg (fe_loc 1) (fh_tup c.cm (fhs_cons (fh_name 2 c.nd) (fhs_cons (fh_name 3 c.nd) (fhs_cons (fh_name 4 c.nd) (fhs_cons (fh_name 5 c.nd) (fhs_cons (fh_name 6 c.nd) fhs_nil))))))) (fb_cons (fs_if (ft_w (fw_or (ft_not (ft_val (fe_kn (kn_is_name T) c (T.gl 19 rfl) rfl (fa_cons (fe_loc 2) fa_nil)))) (fw_or (ft_not (ft_val (fe_kn (kn_is_gives T) c (T.gl 31 rfl) rfl (fa_cons (fe_loc 0) (fa_cons (fe_loc 3) fa_nil))))) (fw_or1 (ft_not (ft_val (fe_kn (kn_is_number T) c (T.gl 26 rfl) rfl (fa_cons (fe_loc 4) fa_nil)))))))) (fb_one (fs_ret fe_bl)) fb_nil) (fb_one (fs_ret (fe_and (fe_kn (kn_is_between T) c (T.gl 25 rfl) rfl (fa_cons (fe_loc 5) (fa_cons fe_int (fa_cons fe_int fa_nil)))) (fe_one (fe_or (fe_cmp op_pIsN (fe_loc 6) fe_non) (fe_one (fe_kn (kn_is_number T) c (T.gl 26 rfl) rfl (fa_cons (fe_loc 6) fa_nil)))))))))))
theorem sc_check_kinds : FnScope ["subjects", "kinds", "names", "index", "value"] ["subjects", "kinds"] (defScope (top 28)) := ⟨rfl, rfl, rfl, by decide +kernel, rfl, by decide +kernel, by decide +kernel⟩
theorem kn_check_kinds (T : Tx P K mg) : Kn P w K mg base "check_kinds" "check_kinds" (top 28) (He.ga K "check_kinds") ["subjects", "kinds"] 5 2 F_check_kinds := by
  refine Kn.of (x := "check_kinds") (qual := "check_kinds") (f := He.ga K "check_kinds") (st := top 28) (N := ["subjects", "kinds", "names", "index", "value"]) (ps := ["subjects", "kinds"]) (k := 4) (n := 2) (tr := true) (bf := bf_check_kinds) (T.dn 15 rfl) sc_check_kinds rfl (fun _ _ _ _ _ _ us hl => match us, hl with | [_, _], _ => rfl) fun X E hX c => ?_
  obtain ⟨cdv, A, outer, s, H, rfl⟩ := hX
  exact (fb_cons (fs_if (ft_w (fw_or (ft_not (ft_val (fe_isiT (T := "tuple") (by decide) (T.fr 14 rfl) rfl (T.fr 13 rfl) rfl (fe_loc 1) (by decide +kernel)))) (fw_or1 (ft_cmp (op_pEq c.hu4) (fe_b call_pLenS (T.fr 0 rfl) (by decide +kernel) rfl (fa_cons (fe_loc 1) fa_nil)) fe_int)))) (fb_one (fs_raise c.cm (T.xc 2 rfl) T.tp c.rm.r c.tk (fa_cons fe_non fa_nil) rfl)) fb_nil) (fb_cons (fs_set 2 c.nd (fe_new fa_nil)) (fb_one (fs_for c.hp c.cm (fi_enum (T.fr 15 rfl) rfl (fa_cons (fe_loc 1) fa_nil)) (fg_tup c.cm (fgs_cons (fg_name 3 c.nd) (fgs_cons (fg_name 4 c.nd) fgs_nil))) (fb_cons (fs_if (ft_w (fw_or (ft_not (ft_val (fe_kn (kn_is_kind T) c (T.gl 32 rfl) rfl (fa_cons (fe_loc 0) (fa_cons (fe_loc 4) fa_nil))))) (fw_or (ft_cmp (op_pIn c.hu) (fe_ix (fe_loc 4) fe_int) (fe_loc 2)) (fw_or1 (ft_cmp op_pGe (fe_loc 3) (fe_gint rfl (T.it 33 rfl))))))) (fb_one (fs_raise c.cm (T.xc 2 rfl) T.tp c.rm.r c.tk (fa_cons (fe_loc 3) fa_nil) rfl)) fb_nil) (fb_one (fs_expr (fe_meth F.plainAttrs_list F.slot_list_append F.type_list_append mt_qAppend (by decide) (fe_loc 2) (fa_cons (fe_ix (fe_loc 4) fe_int) fa_nil)))))))))
theorem sc_Plan___init__ : FnScope ["self", "subjects", "hours", "kinds"] ["self", "subjects", "hours", "kinds"] (defScope (inClass (top 33) 0)) := ⟨rfl, rfl, rfl, by decide +kernel, rfl, by decide +kernel, by decide +kernel⟩
theorem kn_Plan___init__ (T : Tx P K mg) : Kn P w K mg base "Plan.__init__" "__init__" (inClass (top 33) 0) (He.ma K (He.ga K "Plan") "__init__") ["self", "subjects", "hours", "kinds"] 6 4 F_Plan___init__ := by
  refine Kn.of (x := "__init__") (qual := "Plan.__init__") (f := He.ma K (He.ga K "Plan") "__init__") (st := inClass (top 33) 0) (N := ["self", "subjects", "hours", "kinds"]) (ps := ["self", "subjects", "hours", "kinds"]) (k := 5) (n := 4) (tr := false) (bf := bf_Plan___init__) (T.dn 16 rfl) sc_Plan___init__ rfl (fun _ _ _ _ _ _ us hl => match us, hl with | [_, _, _, _], _ => rfl) fun X E hX c => ?_
  obtain ⟨cdv, A, outer, s, H, rfl⟩ := hX
  exact (fb_cons (fs_expr (fe_kn (kn_check_subjects T) c (T.gl 21 rfl) rfl (fa_cons (fe_loc 1) fa_nil))) (fb_cons (fs_expr (fe_kn (kn_check_hours T) c (T.gl 30 rfl) rfl (fa_cons (fe_loc 1) (fa_cons (fe_loc 2) fa_nil)))) (fb_cons (fs_expr (fe_kn (kn_check_kinds T) c (T.gl 34 rfl) rfl (fa_cons (fe_loc 1) (fa_cons (fe_loc 3) fa_nil)))) (fb_one (fs_setF (fe_loc 0) (fe_tup (fa_cons (fe_loc 1) (fa_cons (fe_loc 2) (fa_cons (fe_loc 3) fa_nil)))) (T.cl 35 rfl) (T.na 36 rfl))))))
theorem sc__law_plan : FnScope ["_law_sketch_here", "_law_sorts", "_law_name", "_law_gives", "_law_many", "_law_most", "_law_able_here", "_law_row"] ["_law_sketch_here"] (defScope (top 54)) := ⟨rfl, rfl, rfl, by decide +kernel, rfl, by decide +kernel, by decide +kernel⟩
theorem kn__law_plan (T : Tx P K mg) : Kn P w K mg base "_law_plan" "_law_plan" (top 54) (He.ga K "_law_plan") ["_law_sketch_here"] 8 1 F__law_plan := by
  refine Kn.of (x := "_law_plan") (qual := "_law_plan") (f := He.ga K "_law_plan") (st := top 54) (N := ["_law_sketch_here", "_law_sorts", "_law_name", "_law_gives", "_law_many", "_law_most", "_law_able_here", "_law_row"]) (ps := ["_law_sketch_here"]) (k := 7) (n := 1) (tr := false) (bf := bf__law_plan) (T.dn 17 rfl) sc__law_plan rfl (fun _ _ _ _ _ _ us hl => match us, hl with | [_], _ => rfl) fun X E hX c => ?_
  obtain ⟨cdv, A, outer, s, H, rfl⟩ := hX
  exact (fb_cons (fs_setLcF 1 c (fi_val (fe_ix (fe_loc 0) fe_int)) (blkOk_by (own := [("_law_name", 2), ("_law_gives", 3), ("_law_many", 4), ("_law_most", 5), ("_law_able_here", 6)]) (by kernel_rfl)) (fun s H C cl fp c => (fg_tup c.cm (fgs_cons (fg_name 2 c.nd) (fgs_cons (fg_name 3 c.nd) (fgs_cons (fg_name 4 c.nd) (fgs_cons (fg_name 5 c.nd) (fgs_cons (fg_name 6 c.nd) fgs_nil))))))) (by decide) (fun s H C cl fp c => fts_nil) (fun s H C cl fp c => (fe_tup (fa_cons (fe_loc 2) (fa_cons (fe_ty call_pTuple (T.fr 13 rfl) (by decide +kernel) rfl (fa_cons (fe_loc 3) fa_nil)) (fa_cons (fe_loc 4) (fa_cons (fe_loc 5) (fa_cons (fe_loc 6) fa_nil)))))))) (fb_one (fs_ret (fe_make (tr := true) (kn_Plan___init__ T) c (T.mr 37 rfl) (T.gl 38 rfl) rfl (fa_cons (fe_ty call_pTuple (T.fr 13 rfl) (by decide +kernel) rfl (fa_cons (fe_ix (fe_loc 0) fe_int) fa_nil)) (fa_cons (fe_ty call_pTuple (T.fr 13 rfl) (by decide +kernel) rfl (fa_cons (fe_lcF c (fi_val (fe_ix (fe_loc 0) fe_int)) (blkOk_by (own := [("_law_row", 7)]) (by kernel_rfl)) (fun s H C cl fp c => (fg_name 7 c.nd)) (by decide) (fun s H C cl fp c => fts_nil) (fun s H C cl fp c => (fe_ty call_pTuple (T.fr 13 rfl) (by decide +kernel) rfl (fa_cons (fe_loc 7) fa_nil)))) fa_nil)) (fa_cons (fe_ty call_pTuple (T.fr 13 rfl) (by decide +kernel) rfl (fa_cons (fe_loc 1) fa_nil)) fa_nil)))))))
theorem sc__law_able : FnScope ["_law_sort"] ["_law_sort"] (defScope (top 55)) := ⟨rfl, rfl, rfl, by decide +kernel, rfl, by decide +kernel, by decide +kernel⟩
theorem kn__law_able (T : Tx P K mg) : Kn P w K mg base "_law_able" "_law_able" (top 55) (He.ga K "_law_able") ["_law_sort"] 1 1 F__law_able := by
  refine Kn.of (x := "_law_able") (qual := "_law_able") (f := He.ga K "_law_able") (st := top 55) (N := ["_law_sort"]) (ps := ["_law_sort"]) (k := 0) (n := 1) (tr := false) (bf := bf__law_able) (T.dn 18 rfl) sc__law_able rfl (fun _ _ _ _ _ _ us hl => match us, hl with | [_], _ => rfl) fun X E hX c => ?_
  obtain ⟨cdv, A, outer, s, H, rfl⟩ := hX
  exact (fb_one (fs_ret (fe_if (ft_cmp op_pIsN (fe_ix (fe_loc 0) fe_int) fe_non) (fe_ix (fe_loc 0) fe_int) (fe_b (call_pMin2 c.cm) (T.fr 1 rfl) (by decide +kernel) rfl (fa_cons (fe_ix (fe_loc 0) fe_int) (fa_cons (fe_ix (fe_loc 0) fe_int) fa_nil))))))
theorem sc__law_gone : FnScope ["_law_cup_here", "_law_sketch_here", "_law_found", "_law_sort", "_law_most"] ["_law_cup_here", "_law_sketch_here"] (defScope (top 56)) := ⟨rfl, rfl, rfl, by decide +kernel, rfl, by decide +kernel, by decide +kernel⟩
theorem kn__law_gone (T : Tx P K mg) : Kn P w K mg base "_law_gone" "_law_gone" (top 56) (He.ga K "_law_gone") ["_law_cup_here", "_law_sketch_here"] 2 2 F__law_gone := by
  refine Kn.of (x := "_law_gone") (qual := "_law_gone") (f := He.ga K "_law_gone") (st := top 56) (N := ["_law_cup_here", "_law_sketch_here", "_law_found", "_law_sort", "_law_most"]) (ps := ["_law_cup_here", "_law_sketch_here"]) (k := 1) (n := 2) (tr := true) (bf := bf__law_gone) (T.dn 19 rfl) sc__law_gone rfl (fun _ _ _ _ _ _ us hl => match us, hl with | [_, _], _ => rfl) fun X E hX c => ?_
  obtain ⟨cdv, A, outer, s, H, rfl⟩ := hX
  exact (fb_cons (fs_set 2 c.nd (fe_new fa_nil)) (fb_cons (fs_for c.hp c.cm (fi_val (fe_ix (fe_loc 1) fe_int)) (fg_name 3 c.nd) (fb_cons (fs_set 4 c.nd (fe_kn (kn__law_able T) c (T.gl 40 rfl) rfl (fa_cons (fe_loc 3) fa_nil))) (fb_one (fs_expr (fe_meth F.plainAttrs_list F.slot_list_append F.type_list_append mt_qAppend (by decide) (fe_loc 2) (fa_cons (fe_ix (fe_lst (fa_cons fe_int (fa_cons (fe_loc 4) (fa_cons (fe_bin op_pDiv (fe_loc 4) fe_int) (fa_cons (fe_b (call_pMin2 c.cm) (T.fr 1 rfl) (by decide +kernel) rfl (fa_cons (fe_loc 4) (fa_cons fe_int fa_nil))) (fa_cons (fe_b (call_pMin2 c.cm) (T.fr 1 rfl) (by decide +kernel) rfl (fa_cons (fe_loc 4) (fa_cons fe_int fa_nil))) fa_nil)))))) (fe_kn (kn__law_sip T) c (T.gl 6 rfl) rfl (fa_cons (fe_loc 0) (fa_cons fe_int fa_nil)))) fa_nil)))))) (fb_one (fs_ret (fe_ty call_pTuple (T.fr 13 rfl) (by decide +kernel) rfl (fa_cons (fe_loc 2) fa_nil))))))
theorem sc__law_weight : FnScope ["_law_sort", "_law_lump", "_law_seen", "_law_h", "_law_subject_here"] ["_law_sort", "_law_lump"] (defScope (top 59)) := ⟨rfl, rfl, rfl, by decide +kernel, rfl, by decide +kernel, by decide +kernel⟩
theorem kn__law_weight (T : Tx P K mg) : Kn P w K mg base "_law_weight" "_law_weight" (top 59) (He.ga K "_law_weight") ["_law_sort", "_law_lump"] 1 2 F__law_weight := by
  refine Kn.of (x := "_law_weight") (qual := "_law_weight") (f := He.ga K "_law_weight") (st := top 59) (N := ["_law_sort", "_law_lump", "_law_seen", "_law_h", "_law_subject_here"]) (ps := ["_law_sort", "_law_lump"]) (k := 0) (n := 2) (tr := true) (bf := bf__law_weight) (T.dn 20 rfl) sc__law_weight rfl (fun _ _ _ _ _ _ us hl => match us, hl with | [_, _], _ => rfl) fun X E hX c => ?_
  obtain ⟨cdv, A, outer, s, H, rfl⟩ := hX
  exact (fb_cons (fs_set 2 c.nd (fe_new fa_nil)) (fb_cons (fs_for c.hp c.cm (fi_val (fe_loc 1)) (fg_tup c.cm (fgs_cons (fg_name 3 c.nd) (fgs_cons (fg_name 4 c.nd) fgs_nil))) (fb_one (fs_if (ft_w (fw_and (ft_cmp (op_pIn c.hu) (fe_loc 4) (fe_ix (fe_loc 0) fe_int)) (fw_and1 (ft_cmp (op_pNotIn c.hu) (fe_loc 3) (fe_loc 2))))) (fb_one (fs_expr (fe_meth F.plainAttrs_list F.slot_list_append F.type_list_append mt_qAppend (by decide) (fe_loc 2) (fa_cons (fe_loc 3) fa_nil)))) fb_nil))) (fb_one (fs_ret (fe_b (call_pMin2 c.cm) (T.fr 1 rfl) (by decide +kernel) rfl (fa_cons (fe_ix (fe_loc 0) fe_int) (fa_cons (fe_b call_pLenS (T.fr 0 rfl) (by decide +kernel) rfl (fa_cons (fe_loc 2) fa_nil)) fa_nil)))))))
theorem sc__law_needs : FnScope ["_law_sketch_here", "_law_lump", "_law_h", "_law_subject_here"] ["_law_sketch_here", "_law_lump"] (defScope (top 60)) := ⟨rfl, rfl, rfl, by decide +kernel, rfl, by decide +kernel, by decide +kernel⟩
theorem kn__law_needs (T : Tx P K mg) : Kn P w K mg base "_law_needs" "_law_needs" (top 60) (He.ga K "_law_needs") ["_law_sketch_here", "_law_lump"] 1 2 F__law_needs := by
  refine Kn.of (x := "_law_needs") (qual := "_law_needs") (f := He.ga K "_law_needs") (st := top 60) (N := ["_law_sketch_here", "_law_lump", "_law_h", "_law_subject_here"]) (ps := ["_law_sketch_here", "_law_lump"]) (k := 0) (n := 2) (tr := false) (bf := bf__law_needs) (T.dn 21 rfl) sc__law_needs rfl (fun _ _ _ _ _ _ us hl => match us, hl with | [_, _], _ => rfl) fun X E hX c => ?_
  obtain ⟨cdv, A, outer, s, H, rfl⟩ := hX
  exact (fb_one (fs_ret (fe_b (call_pSum c.cm) (T.fr 44 rfl) (by decide +kernel) rfl (fa_cons (fe_lcF c (fi_val (fe_loc 1)) (blkOk_by (own := [("_law_h", 2), ("_law_subject_here", 3)]) (by kernel_rfl)) (fun s H C cl fp c => (fg_tup c.cm (fgs_cons (fg_name 2 c.nd) (fgs_cons (fg_name 3 c.nd) fgs_nil)))) (by decide) (fun s H C cl fp c => fts_nil) (fun s H C cl fp c => (fe_ix (fe_ix (fe_ix (fe_loc 0) fe_int) (fe_loc 2)) (fe_meth F.plainAttrs_list F.slot_list_index F.type_list_index (mt_pIndexL c.hu) (by decide) (fe_ix (fe_loc 0) fe_int) (fa_cons (fe_loc 3) fa_nil))))) fa_nil))))
theorem sc__law_margin : FnScope ["_law_sketch_here", "_law_gone_here", "_law_lump", "_law_found", "_law_sort", "_law_less"] ["_law_sketch_here", "_law_gone_here", "_law_lump"] (defScope (top 61)) := ⟨rfl, rfl, rfl, by decide +kernel, rfl, by decide +kernel, by decide +kernel⟩
theorem kn__law_margin (T : Tx P K mg) : Kn P w K mg base "_law_margin" "_law_margin" (top 61) (He.ga K "_law_margin") ["_law_sketch_here", "_law_gone_here", "_law_lump"] 2 3 F__law_margin := by
  refine Kn.of (x := "_law_margin") (qual := "_law_margin") (f := He.ga K "_law_margin") (st := top 61) (N := ["_law_sketch_here", "_law_gone_here", "_law_lump", "_law_found", "_law_sort", "_law_less"]) (ps := ["_law_sketch_here", "_law_gone_here", "_law_lump"]) (k := 1) (n := 3) (tr := false) (bf := bf__law_margin) (T.dn 22 rfl) sc__law_margin rfl (fun _ _ _ _ _ _ us hl => match us, hl with | [_, _, _], _ => rfl) fun X E hX c => ?_
  obtain ⟨cdv, A, outer, s, H, rfl⟩ := hX
  exact (fb_cons (fs_set 3 c.nd fe_int) (fb_cons (fs_for c.hp c.cm (fi_zip2 (T.fr 42 rfl) rfl (fa_cons (fe_ix (fe_loc 0) fe_int) (fa_cons (fe_loc 1) fa_nil))) (fg_tup c.cm (fgs_cons (fg_name 4 c.nd) (fgs_cons (fg_name 5 c.nd) fgs_nil))) (fb_one (fs_set 3 c.nd (fe_bin op_pAdd (fe_loc 3) (fe_bin op_pMul (fe_bin op_pSub (fe_ix (fe_loc 4) fe_int) (fe_loc 5)) (fe_kn (kn__law_weight T) c (T.gl 43 rfl) rfl (fa_cons (fe_loc 4) (fa_cons (fe_loc 2) fa_nil)))))))) (fb_one (fs_ret (fe_bin op_pSub (fe_loc 3) (fe_kn (kn__law_needs T) c (T.gl 45 rfl) rfl (fa_cons (fe_loc 0) (fa_cons (fe_loc 2) fa_nil))))))))
theorem sc_check_plan : FnScope ["plan"] ["plan"] (defScope (top 34)) := ⟨rfl, rfl, rfl, by decide +kernel, rfl, by decide +kernel, by decide +kernel⟩
theorem kn_check_plan (T : Tx P K mg) : Kn P w K mg base "check_plan" "check_plan" (top 34) (He.ga K "check_plan") ["plan"] 2 1 F_check_plan := by
  refine Kn.of (x := "check_plan") (qual := "check_plan") (f := He.ga K "check_plan") (st := top 34) (N := ["plan"]) (ps := ["plan"]) (k := 1) (n := 1) (tr := false) (bf := bf_check_plan) (T.dn 23 rfl) sc_check_plan rfl (fun _ _ _ _ _ _ us hl => match us, hl with | [_], _ => rfl) fun X E hX c => ?_
  obtain ⟨cdv, A, outer, s, H, rfl⟩ := hX
  exact (fb_one (fs_if (ft_not (ft_val (fe_isiC (T.is_ 0 rfl) (T.fr 14 rfl) rfl (T.gl 38 rfl) rfl (fe_loc 0)))) (fb_one (fs_raise c.cm (T.xc 3 rfl) T.tp c.rm.r c.tk (fa_cons (fe_loc 0) fa_nil) rfl)) fb_nil))
theorem sc_Plan_kinds : FnScope ["self"] ["self"] (defScope (inClass (top 33) 4)) := ⟨rfl, rfl, rfl, by decide +kernel, rfl, by decide +kernel, by decide +kernel⟩
theorem kn_Plan_kinds (T : Tx P K mg) : Kn P w K mg base "Plan.kinds" "kinds" (inClass (top 33) 4) (prGet "Plan" "kinds" K) ["self"] 1 1 F_Plan_kinds := by
  refine Kn.of (x := "kinds") (qual := "Plan.kinds") (f := prGet "Plan" "kinds" K) (st := inClass (top 33) 4) (N := ["self"]) (ps := ["self"]) (k := 0) (n := 1) (tr := false) (bf := bf_Plan_kinds) (T.dn 24 rfl) sc_Plan_kinds rfl (fun _ _ _ _ _ _ us hl => match us, hl with | [_], _ => rfl) fun X E hX c => ?_
  obtain ⟨cdv, A, outer, s, H, rfl⟩ := hX
  exact (fb_one (fs_ret (fe_ix (fe_fld (fe_loc 0) (T.cl 35 rfl) (T.na 36 rfl)) fe_int)))
theorem sc_most_ill : FnScope ["value"] ["value"] (defScope (top 32)) := ⟨rfl, rfl, rfl, by decide +kernel, rfl, by decide +kernel, by decide +kernel⟩
theorem kn_most_ill (T : Tx P K mg) : Kn P w K mg base "most_ill" "most_ill" (top 32) (He.ga K "most_ill") ["value"] 1 1 F_most_ill := by
  refine Kn.of (x := "most_ill") (qual := "most_ill") (f := He.ga K "most_ill") (st := top 32) (N := ["value"]) (ps := ["value"]) (k := 0) (n := 1) (tr := false) (bf := bf_most_ill) (T.dn 25 rfl) sc_most_ill rfl (fun _ _ _ _ _ _ us hl => match us, hl with | [_], _ => rfl) fun X E hX c => ?_
  obtain ⟨cdv, A, outer, s, H, rfl⟩ := hX
  exact (fb_one (fs_ret (fe_if (ft_cmp op_pIsN (fe_ix (fe_loc 0) fe_int) fe_non) (fe_ix (fe_loc 0) fe_int) (fe_b (call_pMin2 c.cm) (T.fr 1 rfl) (by decide +kernel) rfl (fa_cons (fe_ix (fe_loc 0) fe_int) (fa_cons (fe_ix (fe_loc 0) fe_int) fa_nil))))))
theorem sc_is_absence : FnScope ["plan", "value", "kind", "less"] ["plan", "value"] (defScope (top 35)) := ⟨rfl, rfl, rfl, by decide +kernel, rfl, by decide +kernel, by decide +kernel⟩
theorem kn_is_absence (T : Tx P K mg) : Kn P w K mg base "is_absence" "is_absence" (top 35) (He.ga K "is_absence") ["plan", "value"] 3 2 F_is_absence := by
  refine Kn.of (x := "is_absence") (qual := "is_absence") (f := He.ga K "is_absence") (st := top 35) (N := ["plan", "value", "kind", "less"]) (ps := ["plan", "value"]) (k := 2) (n := 2) (tr := false) (bf := bf_is_absence) (T.dn 26 rfl) sc_is_absence rfl (fun _ _ _ _ _ _ us hl => match us, hl with | [_, _], _ => rfl) fun X E hX c => ?_
  obtain ⟨cdv, A, outer, s, H, rfl⟩ := hX
  exact (fb_cons (fs_if (ft_w (fw_or (ft_not (ft_val (fe_isiT (T := "tuple") (by decide) (T.fr 14 rfl) rfl (T.fr 13 rfl) rfl (fe_loc 1) (by decide +kernel)))) (fw_or1 (ft_cmp (op_pNe c.hu4) (fe_b call_pLenS (T.fr 0 rfl) (by decide +kernel) rfl (fa_cons (fe_loc 1) fa_nil)) (fe_b call_pLenS (T.fr 0 rfl) (by decide +kernel) rfl (fa_cons (fe_prop (kn_Plan_kinds T) c (T.cl 35 rfl) (T.pp 0 rfl) (fe_loc 0)) fa_nil)))))) (fb_one (fs_ret fe_bl)) fb_nil) (fb_one (fs_ret (fe_b (call_pAll c.cm) (T.fr 18 rfl) (by decide +kernel) rfl (fa_cons (fe_lcF c (fi_zip2 (T.fr 42 rfl) rfl (fa_cons (fe_prop (kn_Plan_kinds T) c (T.cl 35 rfl) (T.pp 0 rfl) (fe_loc 0)) (fa_cons (fe_loc 1) fa_nil))) (blkOk_by (own := [("kind", 2), ("less", 3)]) (by kernel_rfl)) (fun s H C cl fp c => (fg_tup c.cm (fgs_cons (fg_name 2 c.nd) (fgs_cons (fg_name 3 c.nd) fgs_nil)))) (by decide) (fun s H C cl fp c => fts_nil) (fun s H C cl fp c => (fe_kn (kn_is_between T) c (T.gl 25 rfl) rfl (fa_cons (fe_loc 3) (fa_cons fe_int (fa_cons (fe_kn (kn_most_ill T) c (T.gl 48 rfl) rfl (fa_cons (fe_loc 2) fa_nil)) fa_nil)))))) fa_nil)))))
theorem sc_check_away : FnScope ["plan", "away"] ["plan", "away"] (defScope (top 36)) := ⟨rfl, rfl, rfl, by decide +kernel, rfl, by decide +kernel, by decide +kernel⟩
theorem kn_check_away (T : Tx P K mg) : Kn P w K mg base "check_away" "check_away" (top 36) (He.ga K "check_away") ["plan", "away"] 4 2 F_check_away := by
  refine Kn.of (x := "check_away") (qual := "check_away") (f := He.ga K "check_away") (st := top 36) (N := ["plan", "away"]) (ps := ["plan", "away"]) (k := 3) (n := 2) (tr := false) (bf := bf_check_away) (T.dn 27 rfl) sc_check_away rfl (fun _ _ _ _ _ _ us hl => match us, hl with | [_, _], _ => rfl) fun X E hX c => ?_
  obtain ⟨cdv, A, outer, s, H, rfl⟩ := hX
  exact (fb_one (fs_if (ft_not (ft_val (fe_kn (kn_is_absence T) c (T.gl 49 rfl) rfl (fa_cons (fe_loc 0) (fa_cons (fe_loc 1) fa_nil))))) (fb_one (fs_raise c.cm (T.xc 4 rfl) T.tp c.rm.r c.tk (fa_cons (fe_loc 1) fa_nil) rfl)) fb_nil))
theorem sc_Plan_hours : FnScope ["self"] ["self"] (defScope (inClass (top 33) 3)) := ⟨rfl, rfl, rfl, by decide +kernel, rfl, by decide +kernel, by decide +kernel⟩
theorem kn_Plan_hours (T : Tx P K mg) : Kn P w K mg base "Plan.hours" "hours" (inClass (top 33) 3) (prGet "Plan" "hours" K) ["self"] 1 1 F_Plan_hours := by
  refine Kn.of (x := "hours") (qual := "Plan.hours") (f := prGet "Plan" "hours" K) (st := inClass (top 33) 3) (N := ["self"]) (ps := ["self"]) (k := 0) (n := 1) (tr := false) (bf := bf_Plan_hours) (T.dn 28 rfl) sc_Plan_hours rfl (fun _ _ _ _ _ _ us hl => match us, hl with | [_], _ => rfl) fun X E hX c => ?_
  obtain ⟨cdv, A, outer, s, H, rfl⟩ := hX
  exact (fb_one (fs_ret (fe_ix (fe_fld (fe_loc 0) (T.cl 35 rfl) (T.na 36 rfl)) fe_int)))
theorem sc_Plan_subjects : FnScope ["self"] ["self"] (defScope (inClass (top 33) 2)) := ⟨rfl, rfl, rfl, by decide +kernel, rfl, by decide +kernel, by decide +kernel⟩
theorem kn_Plan_subjects (T : Tx P K mg) : Kn P w K mg base "Plan.subjects" "subjects" (inClass (top 33) 2) (prGet "Plan" "subjects" K) ["self"] 1 1 F_Plan_subjects := by
  refine Kn.of (x := "subjects") (qual := "Plan.subjects") (f := prGet "Plan" "subjects" K) (st := inClass (top 33) 2) (N := ["self"]) (ps := ["self"]) (k := 0) (n := 1) (tr := false) (bf := bf_Plan_subjects) (T.dn 29 rfl) sc_Plan_subjects rfl (fun _ _ _ _ _ _ us hl => match us, hl with | [_], _ => rfl) fun X E hX c => ?_
  obtain ⟨cdv, A, outer, s, H, rfl⟩ := hX
  exact (fb_one (fs_ret (fe_ix (fe_fld (fe_loc 0) (T.cl 35 rfl) (T.na 36 rfl)) fe_int)))
theorem sc_pairs_of : FnScope ["plan", "found", "hour", "numbers", "name", "number"] ["plan"] (defScope (top 38)) := ⟨rfl, rfl, rfl, by decide +kernel, rfl, by decide +kernel, by decide +kernel⟩
theorem kn_pairs_of (T : Tx P K mg) : Kn P w K mg base "pairs_of" "pairs_of" (top 38) (He.ga K "pairs_of") ["plan"] 3 1 F_pairs_of := by
  refine Kn.of (x := "pairs_of") (qual := "pairs_of") (f := He.ga K "pairs_of") (st := top 38) (N := ["plan", "found", "hour", "numbers", "name", "number"]) (ps := ["plan"]) (k := 2) (n := 1) (tr := true) (bf := bf_pairs_of) (T.dn 30 rfl) sc_pairs_of rfl (fun _ _ _ _ _ _ us hl => match us, hl with | [_], _ => rfl) fun X E hX c => ?_
  obtain ⟨cdv, A, outer, s, H, rfl⟩ := hX
  exact (fb_cons (fs_set 1 c.nd (fe_new fa_nil)) (fb_cons (fs_for c.hp c.cm (fi_enum (T.fr 15 rfl) rfl (fa_cons (fe_prop (kn_Plan_hours T) c (T.cl 35 rfl) (T.pp 1 rfl) (fe_loc 0)) fa_nil)) (fg_tup c.cm (fgs_cons (fg_name 2 c.nd) (fgs_cons (fg_name 3 c.nd) fgs_nil))) (fb_one (fs_expr (fe_meth F.plainAttrs_list F.slot_list_extend F.type_list_extend mt_qExtend (by decide) (fe_loc 1) (fa_cons (fe_lcF c (fi_zip2 (T.fr 42 rfl) rfl (fa_cons (fe_prop (kn_Plan_subjects T) c (T.cl 35 rfl) (T.pp 2 rfl) (fe_loc 0)) (fa_cons (fe_loc 3) fa_nil))) (blkOk_by (own := [("name", 4), ("number", 5)]) (by kernel_rfl)) (fun s H C cl fp c => (fg_tup c.cm (fgs_cons (fg_name 4 c.nd) (fgs_cons (fg_name 5 c.nd) fgs_nil)))) (by decide) (fun s H C cl fp c => (fts_one (ft_cmp op_pGt (fe_loc 5) fe_int))) (fun s H C cl fp c => (fe_tup (fa_cons (fe_loc 2) (fa_cons (fe_loc 4) fa_nil))))) fa_nil))))) (fb_one (fs_ret (fe_b (call_pSorted c.hu4) (T.fr 10 rfl) (by decide +kernel) rfl (fa_cons (fe_loc 1) fa_nil))))))
theorem sc_is_lot : FnScope ["plan", "value", "pair", "left", "right"] ["plan", "value"] (defScope (top 44)) := ⟨rfl, rfl, rfl, by decide +kernel, rfl, by decide +kernel, by decide +kernel⟩
theorem kn_is_lot (T : Tx P K mg) : Kn P w K mg base "is_lot" "is_lot" (top 44) (He.ga K "is_lot") ["plan", "value"] 4 2 F_is_lot := by
  refine Kn.of (x := "is_lot") (qual := "is_lot") (f := He.ga K "is_lot") (st := top 44) (N := ["plan", "value", "pair", "left", "right"]) (ps := ["plan", "value"]) (k := 3) (n := 2) (tr := false) (bf := bf_is_lot) (T.dn 31 rfl) sc_is_lot rfl (fun _ _ _ _ _ _ us hl => match us, hl with | [_, _], _ => rfl) fun X E hX c => ?_
  obtain ⟨cdv, A, outer, s, H, rfl⟩ := hX
  exact (fb_cons (fs_if (ft_w (fw_or (ft_not (ft_val (fe_isiT (T := "tuple") (by decide) (T.fr 14 rfl) rfl (T.fr 13 rfl) rfl (fe_loc 1) (by decide +kernel)))) (fw_or1 (ft_cmp (op_pEq c.hu4) (fe_b call_pLenS (T.fr 0 rfl) (by decide +kernel) rfl (fa_cons (fe_loc 1) fa_nil)) fe_int)))) (fb_one (fs_ret fe_bl)) fb_nil) (fb_cons (fs_for c.hp c.cm (fi_val (fe_loc 1)) (fg_name 2 c.nd) (fb_cons (fs_if (ft_w (fw_or (ft_not (ft_val (fe_isiT (T := "tuple") (by decide) (T.fr 14 rfl) rfl (T.fr 13 rfl) rfl (fe_loc 2) (by decide +kernel)))) (fw_or (ft_cmp (op_pNe c.hu4) (fe_b call_pLenS (T.fr 0 rfl) (by decide +kernel) rfl (fa_cons (fe_loc 2) fa_nil)) fe_int) (fw_or1 (ft_not (ft_val (fe_isiT (T := "str") (by decide) (T.fr 14 rfl) rfl (T.fr 16 rfl) rfl (fe_ix (fe_loc 2) fe_int) (by decide +kernel)))))))) (fb_one (fs_ret fe_bl)) fb_nil) (fb_one (fs_if (ft_w (fw_or (ft_not (ft_val (fe_kn (kn_is_between T) c (T.gl 25 rfl) rfl (fa_cons (fe_ix (fe_loc 2) fe_int) (fa_cons fe_int (fa_cons (fe_bin op_pSub (fe_b call_pLenS (T.fr 0 rfl) (by decide +kernel) rfl (fa_cons (fe_prop (kn_Plan_hours T) c (T.cl 35 rfl) (T.pp 1 rfl) (fe_loc 0)) fa_nil)) fe_int) fa_nil)))))) (fw_or1 (ft_cmp (op_pNotIn c.hu) (fe_loc 2) (fe_kn (kn_pairs_of T) c (T.gl 51 rfl) rfl (fa_cons (fe_loc 0) fa_nil)))))) (fb_one (fs_ret fe_bl)) fb_nil)))) (fb_one (fs_ret (fe_b (call_pAll c.cm) (T.fr 18 rfl) (by decide +kernel) rfl (fa_cons (fe_lcF c (fi_zip2 (T.fr 42 rfl) rfl (fa_cons (fe_loc 1) (fa_cons (fe_sl (fe_loc 1) (fo_some fe_int) fo_none) fa_nil))) (blkOk_by (own := [("left", 3), ("right", 4)]) (by kernel_rfl)) (fun s H C cl fp c => (fg_tup c.cm (fgs_cons (fg_name 3 c.nd) (fgs_cons (fg_name 4 c.nd) fgs_nil)))) (by decide) (fun s H C cl fp c => fts_nil) (fun s H C cl fp c => (fe_cmp (op_pLtD c.hu4) (fe_loc 3) (fe_loc 4)))) fa_nil))))))
theorem sc_weight_of : FnScope ["kind", "lot", "hours", "hour", "name"] ["kind", "lot"] (defScope (top 42)) := ⟨rfl, rfl, rfl, by decide +kernel, rfl, by decide +kernel, by decide +kernel⟩
theorem kn_weight_of (T : Tx P K mg) : Kn P w K mg base "weight_of" "weight_of" (top 42) (He.ga K "weight_of") ["kind", "lot"] 1 2 F_weight_of := by
  refine Kn.of (x := "weight_of") (qual := "weight_of") (f := He.ga K "weight_of") (st := top 42) (N := ["kind", "lot", "hours", "hour", "name"]) (ps := ["kind", "lot"]) (k := 0) (n := 2) (tr := false) (bf := bf_weight_of) (T.dn 32 rfl) sc_weight_of rfl (fun _ _ _ _ _ _ us hl => match us, hl with | [_, _], _ => rfl) fun X E hX c => ?_
  obtain ⟨cdv, A, outer, s, H, rfl⟩ := hX
  exact (fb_cons (fs_set 2 c.nd (fe_ty (call_pSet c.cm) (T.fr 53 rfl) (by decide +kernel) rfl (fa_cons (fe_lcF c (fi_val (fe_loc 1)) (blkOk_by (own := [("hour", 3), ("name", 4)]) (by kernel_rfl)) (fun s H C cl fp c => (fg_tup c.cm (fgs_cons (fg_name 3 c.nd) (fgs_cons (fg_name 4 c.nd) fgs_nil)))) (by decide) (fun s H C cl fp c => (fts_one (ft_cmp (op_pIn c.hu) (fe_loc 4) (fe_ix (fe_loc 0) fe_int)))) (fun s H C cl fp c => (fe_loc 3))) fa_nil))) (fb_one (fs_ret (fe_b (call_pMin2 c.cm) (T.fr 1 rfl) (by decide +kernel) rfl (fa_cons (fe_ix (fe_loc 0) fe_int) (fa_cons (fe_b call_pLenS (T.fr 0 rfl) (by decide +kernel) rfl (fa_cons (fe_loc 2) fa_nil)) fa_nil))))))
theorem sc_lessons_of : FnScope ["plan", "lot", "hour", "name"] ["plan", "lot"] (defScope (top 41)) := ⟨rfl, rfl, rfl, by decide +kernel, rfl, by decide +kernel, by decide +kernel⟩
theorem kn_lessons_of (T : Tx P K mg) : Kn P w K mg base "lessons_of" "lessons_of" (top 41) (He.ga K "lessons_of") ["plan", "lot"] 3 2 F_lessons_of := by
  refine Kn.of (x := "lessons_of") (qual := "lessons_of") (f := He.ga K "lessons_of") (st := top 41) (N := ["plan", "lot", "hour", "name"]) (ps := ["plan", "lot"]) (k := 2) (n := 2) (tr := false) (bf := bf_lessons_of) (T.dn 33 rfl) sc_lessons_of rfl (fun _ _ _ _ _ _ us hl => match us, hl with | [_, _], _ => rfl) fun X E hX c => ?_
  obtain ⟨cdv, A, outer, s, H, rfl⟩ := hX
  exact (fb_one (fs_ret (fe_b (call_pSum c.cm) (T.fr 44 rfl) (by decide +kernel) rfl (fa_cons (fe_lcF c (fi_val (fe_loc 1)) (blkOk_by (own := [("hour", 2), ("name", 3)]) (by kernel_rfl)) (fun s H C cl fp c => (fg_tup c.cm (fgs_cons (fg_name 2 c.nd) (fgs_cons (fg_name 3 c.nd) fgs_nil)))) (by decide) (fun s H C cl fp c => fts_nil) (fun s H C cl fp c => (fe_ix (fe_ix (fe_prop (kn_Plan_hours T) c (T.cl 35 rfl) (T.pp 1 rfl) (fe_loc 0)) (fe_loc 2)) (fe_meth F.plainAttrs_tuple F.slot_tuple_index F.type_tuple_index mt_pIndexT (by decide) (fe_prop (kn_Plan_subjects T) c (T.cl 35 rfl) (T.pp 2 rfl) (fe_loc 0)) (fa_cons (fe_loc 3) fa_nil))))) fa_nil))))
theorem sc_margin_of : FnScope ["plan", "away", "lot", "there", "kind", "less"] ["plan", "away", "lot"] (defScope (top 43)) := ⟨rfl, rfl, rfl, by decide +kernel, rfl, by decide +kernel, by decide +kernel⟩
theorem kn_margin_of (T : Tx P K mg) : Kn P w K mg base "margin_of" "margin_of" (top 43) (He.ga K "margin_of") ["plan", "away", "lot"] 4 3 F_margin_of := by
  refine Kn.of (x := "margin_of") (qual := "margin_of") (f := He.ga K "margin_of") (st := top 43) (N := ["plan", "away", "lot", "there", "kind", "less"]) (ps := ["plan", "away", "lot"]) (k := 3) (n := 3) (tr := false) (bf := bf_margin_of) (T.dn 34 rfl) sc_margin_of rfl (fun _ _ _ _ _ _ us hl => match us, hl with | [_, _, _], _ => rfl) fun X E hX c => ?_
  obtain ⟨cdv, A, outer, s, H, rfl⟩ := hX
  exact (fb_cons (fs_set 3 c.nd (fe_b (call_pSum c.cm) (T.fr 44 rfl) (by decide +kernel) rfl (fa_cons (fe_lcF c (fi_zip2 (T.fr 42 rfl) rfl (fa_cons (fe_prop (kn_Plan_kinds T) c (T.cl 35 rfl) (T.pp 0 rfl) (fe_loc 0)) (fa_cons (fe_loc 1) fa_nil))) (blkOk_by (own := [("kind", 4), ("less", 5)]) (by kernel_rfl)) (fun s H C cl fp c => (fg_tup c.cm (fgs_cons (fg_name 4 c.nd) (fgs_cons (fg_name 5 c.nd) fgs_nil)))) (by decide) (fun s H C cl fp c => fts_nil) (fun s H C cl fp c => (fe_bin op_pMul (fe_bin op_pSub (fe_ix (fe_loc 4) fe_int) (fe_loc 5)) (fe_kn (kn_weight_of T) c (T.gl 54 rfl) rfl (fa_cons (fe_loc 4) (fa_cons (fe_loc 2) fa_nil)))))) fa_nil))) (fb_one (fs_ret (fe_bin op_pSub (fe_loc 3) (fe_kn (kn_lessons_of T) c (T.gl 55 rfl) rfl (fa_cons (fe_loc 0) (fa_cons (fe_loc 2) fa_nil)))))))
theorem sc_margin : FnScope ["plan", "away", "lot"] ["plan", "away", "lot"] (defScope (top 45)) := ⟨rfl, rfl, rfl, by decide +kernel, rfl, by decide +kernel, by decide +kernel⟩
theorem kn_margin (T : Tx P K mg) : Kn P w K mg base "margin" "margin" (top 45) (He.ga K "margin") ["plan", "away", "lot"] 5 3 F_margin := by
  refine Kn.of (x := "margin") (qual := "margin") (f := He.ga K "margin") (st := top 45) (N := ["plan", "away", "lot"]) (ps := ["plan", "away", "lot"]) (k := 4) (n := 3) (tr := false) (bf := bf_margin) (T.dn 35 rfl) sc_margin rfl (fun _ _ _ _ _ _ us hl => match us, hl with | [_, _, _], _ => rfl) fun X E hX c => ?_
  obtain ⟨cdv, A, outer, s, H, rfl⟩ := hX
  exact (fb_cons (fs_expr (fe_kn (kn_check_plan T) c (T.gl 47 rfl) rfl (fa_cons (fe_loc 0) fa_nil))) (fb_cons (fs_expr (fe_kn (kn_check_away T) c (T.gl 50 rfl) rfl (fa_cons (fe_loc 0) (fa_cons (fe_loc 1) fa_nil)))) (fb_cons (fs_if (ft_not (ft_val (fe_kn (kn_is_lot T) c (T.gl 52 rfl) rfl (fa_cons (fe_loc 0) (fa_cons (fe_loc 2) fa_nil))))) (fb_one (fs_raise c.cm (T.xc 5 rfl) T.tp c.rm.r c.tk (fa_cons (fe_loc 2) fa_nil) rfl)) fb_nil) (fb_one (fs_ret (fe_kn (kn_margin_of T) c (T.gl 56 rfl) rfl (fa_cons (fe_loc 0) (fa_cons (fe_loc 1) (fa_cons (fe_loc 2) fa_nil)))))))))
theorem sc_order_of : FnScope ["lot"] ["lot"] (defScope (top 39)) := ⟨rfl, rfl, rfl, by decide +kernel, rfl, by decide +kernel, by decide +kernel⟩
theorem kn_order_of (T : Tx P K mg) : Kn P w K mg base "order_of" "order_of" (top 39) (He.ga K "order_of") ["lot"] 1 1 F_order_of := by
  refine Kn.of (x := "order_of") (qual := "order_of") (f := He.ga K "order_of") (st := top 39) (N := ["lot"]) (ps := ["lot"]) (k := 0) (n := 1) (tr := false) (bf := bf_order_of) (T.dn 36 rfl) sc_order_of rfl (fun _ _ _ _ _ _ us hl => match us, hl with | [_], _ => rfl) fun X E hX c => ?_
  obtain ⟨cdv, A, outer, s, H, rfl⟩ := hX
  exact (fb_one (fs_ret (fe_tup (fa_cons (fe_b call_pLenS (T.fr 0 rfl) (by decide +kernel) rfl (fa_cons (fe_loc 0) fa_nil)) (fa_cons (fe_loc 0) fa_nil)))))
theorem lk_order_of (T : Tx P K mg) : IsLotKey K (He.ga K "order_of") := by
  obtain ⟨fd, F⟩ := T.dn 36 rfl
  exact ⟨_, _, _, _, _, fd, _, _, _, _, _, _, _, _, F, rfl, sc_order_of, rfl, rfl, by decide, fun _ _ _ _ _ _ _ => rfl⟩
theorem sc_lots_of : FnScope ["plan", "found", "pair", "lot"] ["plan"] (defScope (top 40)) := ⟨rfl, rfl, rfl, by decide +kernel, rfl, by decide +kernel, by decide +kernel⟩
theorem kn_lots_of (T : Tx P K mg) : Kn P w K mg base "lots_of" "lots_of" (top 40) (He.ga K "lots_of") ["plan"] 4 1 F_lots_of := by
  refine Kn.of (x := "lots_of") (qual := "lots_of") (f := He.ga K "lots_of") (st := top 40) (N := ["plan", "found", "pair", "lot"]) (ps := ["plan"]) (k := 3) (n := 1) (tr := false) (bf := bf_lots_of) (T.dn 37 rfl) sc_lots_of rfl (fun _ _ _ _ _ _ us hl => match us, hl with | [_], _ => rfl) fun X E hX c => ?_
  obtain ⟨cdv, A, outer, s, H, rfl⟩ := hX
  exact (fb_cons (fs_set 1 c.nd (fe_lst (fa_cons (fe_tup fa_nil) fa_nil))) (fb_cons (fs_for c.hp c.cm (fi_val (fe_kn (kn_pairs_of T) c (T.gl 51 rfl) rfl (fa_cons (fe_loc 0) fa_nil))) (fg_name 2 c.nd) (fb_one (fs_set 1 c.nd (fe_bin op_pAdd (fe_loc 1) (fe_lcF c (fi_val (fe_loc 1)) (blkOk_by (own := [("lot", 3)]) (by kernel_rfl)) (fun s H C cl fp c => (fg_name 3 c.nd)) (by decide) (fun s H C cl fp c => fts_nil) (fun s H C cl fp c => (fe_tup (fa_star (fe_loc 3) (fa_cons (fe_loc 2) fa_nil))))))))) (fb_one (fs_ret (fe_sortLot (lk_order_of T) c (T.fr 10 rfl) rfl (T.gl 59 rfl) rfl (T.fr 0 rfl) (fa_cons (fe_sl (fe_loc 1) (fo_some fe_int) fo_none) fa_nil))))))
theorem sc_tightest : FnScope ["plan", "away", "found", "lot", "least"] ["plan", "away"] (defScope (top 46)) := ⟨rfl, rfl, rfl, by decide +kernel, rfl, by decide +kernel, by decide +kernel⟩
theorem kn_tightest (T : Tx P K mg) : Kn P w K mg base "tightest" "tightest" (top 46) (He.ga K "tightest") ["plan", "away"] 5 2 F_tightest := by
  refine Kn.of (x := "tightest") (qual := "tightest") (f := He.ga K "tightest") (st := top 46) (N := ["plan", "away", "found", "lot", "least"]) (ps := ["plan", "away"]) (k := 4) (n := 2) (tr := false) (bf := bf_tightest) (T.dn 38 rfl) sc_tightest rfl (fun _ _ _ _ _ _ us hl => match us, hl with | [_, _], _ => rfl) fun X E hX c => ?_
  obtain ⟨cdv, A, outer, s, H, rfl⟩ := hX
  exact (fb_cons (fs_set 2 c.nd fe_non) (fb_cons (fs_for c.hp c.cm (fi_val (fe_kn (kn_lots_of T) c (T.gl 60 rfl) rfl (fa_cons (fe_loc 0) fa_nil))) (fg_name 3 c.nd) (fb_cons (fs_set 4 c.nd (fe_kn (kn_margin_of T) c (T.gl 56 rfl) rfl (fa_cons (fe_loc 0) (fa_cons (fe_loc 1) (fa_cons (fe_loc 3) fa_nil))))) (fb_one (fs_if (ft_w (fw_or (ft_cmp op_pIsN (fe_loc 2) fe_non) (fw_or1 (ft_cmp op_pLt (fe_loc 4) (fe_ix (fe_loc 2) fe_int))))) (fb_one (fs_set 2 c.nd (fe_tup (fa_cons (fe_loc 4) (fa_cons (fe_loc 3) fa_nil))))) fb_nil)))) (fb_one (fs_ret (fe_loc 2)))))
theorem sc_tight_lot : FnScope ["plan", "away"] ["plan", "away"] (defScope (top 47)) := ⟨rfl, rfl, rfl, by decide +kernel, rfl, by decide +kernel, by decide +kernel⟩
theorem kn_tight_lot (T : Tx P K mg) : Kn P w K mg base "tight_lot" "tight_lot" (top 47) (He.ga K "tight_lot") ["plan", "away"] 6 2 F_tight_lot := by
  refine Kn.of (x := "tight_lot") (qual := "tight_lot") (f := He.ga K "tight_lot") (st := top 47) (N := ["plan", "away"]) (ps := ["plan", "away"]) (k := 5) (n := 2) (tr := false) (bf := bf_tight_lot) (T.dn 39 rfl) sc_tight_lot rfl (fun _ _ _ _ _ _ us hl => match us, hl with | [_, _], _ => rfl) fun X E hX c => ?_
  obtain ⟨cdv, A, outer, s, H, rfl⟩ := hX
  exact (fb_cons (fs_expr (fe_kn (kn_check_plan T) c (T.gl 47 rfl) rfl (fa_cons (fe_loc 0) fa_nil))) (fb_cons (fs_expr (fe_kn (kn_check_away T) c (T.gl 50 rfl) rfl (fa_cons (fe_loc 0) (fa_cons (fe_loc 1) fa_nil)))) (fb_one (fs_ret (fe_kn (kn_tightest T) c (T.gl 61 rfl) rfl (fa_cons (fe_loc 0) (fa_cons (fe_loc 1) fa_nil)))))))
theorem sc__law_odd : FnScope ["_law_sketch_here", "_law_pairs_here", "_law_subject_here", "_law_found", "_law_h", "_law_k"] ["_law_sketch_here"] (defScope (top 63)) := ⟨rfl, rfl, rfl, by decide +kernel, rfl, by decide +kernel, by decide +kernel⟩
theorem kn__law_odd (T : Tx P K mg) : Kn P w K mg base "_law_odd" "_law_odd" (top 63) (He.ga K "_law_odd") ["_law_sketch_here"] 2 1 F__law_odd := by
  refine Kn.of (x := "_law_odd") (qual := "_law_odd") (f := He.ga K "_law_odd") (st := top 63) (N := ["_law_sketch_here", "_law_pairs_here", "_law_subject_here", "_law_found", "_law_h", "_law_k"]) (ps := ["_law_sketch_here"]) (k := 1) (n := 1) (tr := true) (bf := bf__law_odd) (T.dn 40 rfl) sc__law_odd rfl (fun _ _ _ _ _ _ us hl => match us, hl with | [_], _ => rfl) fun X E hX c => ?_
  obtain ⟨cdv, A, outer, s, H, rfl⟩ := hX
  exact (fb_cons (fs_par 1 2 c.cm c.nd (fa_cons (fe_kn (kn__law_pairs T) c (T.gl 11 rfl) rfl (fa_cons (fe_loc 0) fa_nil)) (fa_cons (fe_ix (fe_ix (fe_loc 0) fe_int) fe_int) fa_nil))) (fb_fz2 (fs_set 3 c.nd (fe_new (fa_cons (fe_tup fa_nil) (fa_cons fe_non (fa_cons (fe_lst fa_nil) (fa_cons (fe_tup (fa_cons (fe_tup (fa_cons (fe_b call_pLenS (T.fr 0 rfl) (by decide +kernel) rfl (fa_cons (fe_ix (fe_loc 0) fe_int) fa_nil)) (fa_cons (fe_loc 2) fa_nil))) fa_nil)) (fa_cons (fe_tup (fa_cons (fe_tup (fa_cons fe_neg (fa_cons (fe_loc 2) fa_nil))) fa_nil)) (fa_cons (fe_tup (fa_cons (fe_tup (fa_cons fe_int (fa_cons fe_str fa_nil))) fa_nil)) fa_nil)))))))) (fs_expr (fe_meth F.plainAttrs_list F.slot_list_append F.type_list_append mt_qAppend (by decide) (fe_loc 3) (fa_cons (fe_tup (fa_cons fe_int (fa_cons (fe_loc 2) fa_nil))) fa_nil))) (fb_cons (fs_set 3 c.nd (fe_bin op_pAdd (fe_loc 3) (fe_lst (fa_cons (fe_tup (fa_cons (fe_tup (fa_cons fe_bl (fa_cons (fe_loc 2) fa_nil))) fa_nil)) (fa_cons (fe_tup (fa_cons (fe_tup (fa_cons fe_int (fa_cons (fe_loc 2) (fa_cons fe_int fa_nil)))) fa_nil)) (fa_cons (fe_tup (fa_cons (fe_lst (fa_cons fe_int (fa_cons (fe_loc 2) fa_nil))) fa_nil)) (fa_cons (fe_loc 2) (fa_cons fe_int (fa_cons fe_bl fa_nil))))))))) (fb_cons (fs_for c.hp c.cm (fi_rg1 (T.fr 3 rfl) rfl (fa_cons (fe_b call_pLenS (T.fr 0 rfl) (by decide +kernel) rfl (fa_cons (fe_ix (fe_loc 0) fe_int) fa_nil)) fa_nil)) (fg_name 4 c.nd) (fb_one (fs_set 3 c.nd (fe_bin op_pAdd (fe_loc 3) (fe_lcF c (fi_rg1 (T.fr 3 rfl) rfl (fa_cons (fe_b call_pLenS (T.fr 0 rfl) (by decide +kernel) rfl (fa_cons (fe_ix (fe_loc 0) fe_int) fa_nil)) fa_nil)) (blkOk_by (own := [("_law_k", 5)]) (by kernel_rfl)) (fun s H C cl fp c => (fg_name 5 c.nd)) (by decide) (fun s H C cl fp c => (fts_one (ft_cmp (op_pEq c.hu4) (fe_ix (fe_ix (fe_ix (fe_loc 0) fe_int) (fe_loc 4)) (fe_loc 5)) fe_int))) (fun s H C cl fp c => (fe_tup (fa_cons (fe_tup (fa_cons (fe_loc 4) (fa_cons (fe_ix (fe_ix (fe_loc 0) fe_int) (fe_loc 5)) fa_nil))) fa_nil)))))))) (fb_cons (fs_if (ft_cmp (op_pNe c.hu4) (fe_loc 1) (fe_lst fa_nil)) (fb_one (fs_set 3 c.nd (fe_bin op_pAdd (fe_loc 3) (fe_lst (fa_cons (fe_tup (fa_cons (fe_ix (fe_loc 1) fe_int) (fa_cons (fe_ix (fe_loc 1) fe_int) fa_nil))) (fa_cons (fe_lst (fa_cons (fe_ix (fe_loc 1) fe_int) fa_nil)) (fa_cons (fe_bin op_pAdd (fe_ty call_pTuple (T.fr 13 rfl) (by decide +kernel) rfl (fa_cons (fe_loc 1) fa_nil)) (fe_tup (fa_cons (fe_ix (fe_loc 1) fe_int) fa_nil))) fa_nil))))))) fb_nil) (fb_one (fs_ret (fe_if (ft_cmp op_pGt (fe_b call_pLenS (T.fr 0 rfl) (by decide +kernel) rfl (fa_cons (fe_loc 1) fa_nil)) fe_int) (fe_bin op_pAdd (fe_loc 3) (fe_lst (fa_cons (fe_ty call_pTuple (T.fr 13 rfl) (by decide +kernel) rfl (fa_cons (fe_rev (fe_loc 1)) fa_nil)) fa_nil))) (fe_loc 3)))))))))
theorem sc__law_refused : FnScope ["_law_mine", "_law_gone_here", "_law_thing", "e"] ["_law_mine", "_law_gone_here", "_law_thing"] (defScope (top 62)) := ⟨rfl, rfl, rfl, by decide +kernel, rfl, by decide +kernel, by decide +kernel⟩
theorem kn__law_refused (T : Tx P K mg) : Kn P w K mg base "_law_refused" "_law_refused" (top 62) (He.ga K "_law_refused") ["_law_mine", "_law_gone_here", "_law_thing"] 6 3 F__law_refused := by
  refine Kn.of (x := "_law_refused") (qual := "_law_refused") (f := He.ga K "_law_refused") (st := top 62) (N := ["_law_mine", "_law_gone_here", "_law_thing", "e"]) (ps := ["_law_mine", "_law_gone_here", "_law_thing"]) (k := 5) (n := 3) (tr := false) (bf := bf__law_refused) (T.dn 41 rfl) sc__law_refused rfl (fun _ _ _ _ _ _ us hl => match us, hl with | [_, _, _], _ => rfl) fun X E hX c => ?_
  obtain ⟨cdv, A, outer, s, H, rfl⟩ := hX
  exact (fb_cons (fs_try rfl rfl rfl c (fun W pn xe c => (fb_one (fs_expr (fe_knK0 3 [2, 1, 0] (kn_margin T) c (T.gl 57 rfl) rfl (fk_cons (fe_loc 2) (fk_cons (fe_loc 1) (fk_cons (fe_loc 0) fk_nil))) (fun _ _ _ _ _ _ ws hw => match ws, hw with | [_, _, _], _ => rfl))))) (.as_ ⟨rfl, by decide, .inl (T.nm 0 rfl)⟩ (T.tk 0 rfl) rfl rfl (fun a pn c => (fb_one (fs_ret (fe_cmp (op_pEq c.hu4) (fe_b (call_pRepr c.rm.g c.hu4) (T.fr 58 rfl) (by decide +kernel) rfl (fa_cons (fe_err (cs := ["InvalidPlace"]) (fe_loc 3) (T.er (by decide +kernel))) fa_nil)) (fe_b (call_pRepr c.rm.g c.hu4) (T.fr 58 rfl) (by decide +kernel) rfl (fa_cons (fe_loc 2) fa_nil)))))) .nil)) (fb_one (fs_ret fe_bl)))
theorem sc__law_right : FnScope ["_law_cup_here", "_law_sketch_here", "_law_mine", "_law_lots_here", "_law_gone_here", "_law_numbers", "_law_due", "_law_sort", "_law_lump", "_law_thing"] ["_law_cup_here"] (defScope (top 64)) := ⟨rfl, rfl, rfl, by decide +kernel, rfl, by decide +kernel, by decide +kernel⟩
theorem kn__law_right (T : Tx P K mg) : Kn P w K mg base "_law_right" "_law_right" (top 64) (He.ga K "_law_right") ["_law_cup_here"] 9 1 F__law_right := by
  refine Kn.of (x := "_law_right") (qual := "_law_right") (f := He.ga K "_law_right") (st := top 64) (N := ["_law_cup_here", "_law_sketch_here", "_law_mine", "_law_lots_here", "_law_gone_here", "_law_numbers", "_law_due", "_law_sort", "_law_lump", "_law_thing"]) (ps := ["_law_cup_here"]) (k := 8) (n := 1) (tr := false) (bf := bf__law_right) (T.dn 42 rfl) sc__law_right rfl (fun _ _ _ _ _ _ us hl => match us, hl with | [_], _ => rfl) fun X E hX c => ?_
  obtain ⟨cdv, A, outer, s, H, rfl⟩ := hX
  exact (fb_cons (fs_set 1 c.nd (fe_kn (kn__law_sketch T) c (T.gl 9 rfl) rfl (fa_cons (fe_loc 0) (fa_cons (fe_cmp op_pGt (fe_kn (kn__law_sip T) c (T.gl 6 rfl) rfl (fa_cons (fe_loc 0) (fa_cons fe_int fa_nil))) fe_int) fa_nil)))) (fb_cons (fs_asg (fe_tup (fa_cons (fe_kn (kn__law_plan T) c (T.gl 39 rfl) rfl (fa_cons (fe_loc 1) fa_nil)) (fa_cons (fe_kn (kn__law_lots T) c (T.gl 12 rfl) rfl (fa_cons (fe_loc 1) fa_nil)) fa_nil))) (fh_tup c.cm (fhs_cons (fh_name 2 c.nd) (fhs_cons (fh_name 3 c.nd) fhs_nil)))) (fb_cons (fs_for c.hp c.cm (fi_val (fe_lst (fa_cons (fe_ty call_pTuple (T.fr 13 rfl) (by decide +kernel) rfl (fa_cons (fe_lcF c (fi_val (fe_ix (fe_loc 1) fe_int)) (blkOk_by (own := [("_law_sort", 7)]) (by kernel_rfl)) (fun s H C cl fp c => (fg_name 7 c.nd)) (by decide) (fun s H C cl fp c => fts_nil) (fun s H C cl fp c => fe_int)) fa_nil)) (fa_cons (fe_kn (kn__law_gone T) c (T.gl 41 rfl) rfl (fa_cons (fe_loc 0) (fa_cons (fe_loc 1) fa_nil))) (fa_cons (fe_kn (kn__law_gone T) c (T.gl 41 rfl) rfl (fa_cons (fe_loc 0) (fa_cons (fe_loc 1) fa_nil))) fa_nil))))) (fg_name 4 c.nd) (fb_cons (fs_setLcF 5 c (fi_val (fe_loc 3)) (blkOk_by (own := [("_law_lump", 8)]) (by kernel_rfl)) (fun s H C cl fp c => (fg_name 8 c.nd)) (by decide) (fun s H C cl fp c => fts_nil) (fun s H C cl fp c => (fe_kn (kn__law_margin T) c (T.gl 46 rfl) rfl (fa_cons (fe_loc 1) (fa_cons (fe_loc 4) (fa_cons (fe_loc 8) fa_nil)))))) (fb_cons (fs_if (ft_cmp (op_pNe c.hu4) (fe_b (call_pRepr c.rm.g c.hu4) (T.fr 58 rfl) (by decide +kernel) rfl (fa_cons (fe_lcF c (fi_val (fe_loc 3)) (blkOk_by (own := [("_law_lump", 8)]) (by kernel_rfl)) (fun s H C cl fp c => (fg_name 8 c.nd)) (by decide) (fun s H C cl fp c => fts_nil) (fun s H C cl fp c => (fe_kn (kn_margin T) c (T.gl 57 rfl) rfl (fa_cons (fe_loc 2) (fa_cons (fe_loc 4) (fa_cons (fe_loc 8) fa_nil)))))) fa_nil)) (fe_b (call_pRepr c.rm.g c.hu4) (T.fr 58 rfl) (by decide +kernel) rfl (fa_cons (fe_loc 5) fa_nil))) (fb_one (fs_ret fe_bl)) fb_nil) (fb_cons (fs_set 6 c.nd (fe_if (ft_cmp (op_pNe c.hu4) (fe_loc 3) (fe_lst fa_nil)) (fe_tup (fa_cons (fe_b (call_pMinL c.cm) (T.fr 1 rfl) (by decide +kernel) rfl (fa_cons (fe_loc 5) fa_nil)) (fa_cons (fe_ix (fe_loc 3) (fe_meth F.plainAttrs_list F.slot_list_index F.type_list_index (mt_pIndexL c.hu) (by decide) (fe_loc 5) (fa_cons (fe_b (call_pMinL c.cm) (T.fr 1 rfl) (by decide +kernel) rfl (fa_cons (fe_loc 5) fa_nil)) fa_nil))) fa_nil))) fe_non)) (fb_cons (fs_if (ft_cmp (op_pNe c.hu4) (fe_b (call_pRepr c.rm.g c.hu4) (T.fr 58 rfl) (by decide +kernel) rfl (fa_cons (fe_lst (fa_cons (fe_kn (kn_tight_lot T) c (T.gl 62 rfl) rfl (fa_cons (fe_loc 2) (fa_cons (fe_loc 4) fa_nil))) (fa_cons (fe_knK0 2 [1, 0] (kn_tight_lot T) c (T.gl 62 rfl) rfl (fk_cons (fe_loc 4) (fk_cons (fe_loc 2) fk_nil)) (fun _ _ _ _ _ _ ws hw => match ws, hw with | [_, _], _ => rfl)) fa_nil))) fa_nil)) (fe_b (call_pRepr c.rm.g c.hu4) (T.fr 58 rfl) (by decide +kernel) rfl (fa_cons (fe_lst (fa_cons (fe_loc 6) (fa_cons (fe_loc 6) fa_nil))) fa_nil))) (fb_one (fs_ret fe_bl)) fb_nil) (fb_one (fs_if (ft_cmp (op_pNe c.hu4) (fe_lcF c (fi_val (fe_kn (kn__law_odd T) c (T.gl 63 rfl) rfl (fa_cons (fe_loc 1) fa_nil))) (blkOk_by (own := [("_law_thing", 9)]) (by kernel_rfl)) (fun s H C cl fp c => (fg_name 9 c.nd)) (by decide) (fun s H C cl fp c => (fts_one (ft_not (ft_val (fe_kn (kn__law_refused T) c (T.gl 64 rfl) rfl (fa_cons (fe_loc 2) (fa_cons (fe_loc 4) (fa_cons (fe_loc 9) fa_nil)))))))) (fun s H C cl fp c => (fe_loc 9))) (fe_lst fa_nil)) (fb_one (fs_ret fe_bl)) fb_nil))))))) (fb_one (fs_ret fe_bl)))))
theorem sc__law_cup : FnScope ["_law_cells", "_law_turn", "_law_cell", "_law_mixed", "_law_each"] ["_law_cells", "_law_turn"] (defScope (top 49)) := ⟨rfl, rfl, rfl, by decide +kernel, rfl, by decide +kernel, by decide +kernel⟩
theorem kn__law_cup (T : Tx P K mg) : Kn P w K mg base "_law_cup" "_law_cup" (top 49) (He.ga K "_law_cup") ["_law_cells", "_law_turn"] 1 2 F__law_cup := by
  refine Kn.of (x := "_law_cup") (qual := "_law_cup") (f := He.ga K "_law_cup") (st := top 49) (N := ["_law_cells", "_law_turn", "_law_cell", "_law_mixed", "_law_each"]) (ps := ["_law_cells", "_law_turn"]) (k := 0) (n := 2) (tr := false) (bf := bf__law_cup) (T.dn 43 rfl) sc__law_cup rfl (fun _ _ _ _ _ _ us hl => match us, hl with | [_, _], _ => rfl) fun X E hX c => ?_
  obtain ⟨cdv, A, outer, s, H, rfl⟩ := hX
  exact (fb_cons (fs_set 2 c.nd (fe_if (ft_cmp op_pLt (fe_loc 1) (fe_b call_pLenS (T.fr 0 rfl) (by decide +kernel) rfl (fa_cons (fe_loc 0) fa_nil))) (fe_ix (fe_loc 0) (fe_loc 1)) (fe_bin op_pAdd (fe_loc 1) fe_int))) (fb_cons (fs_set 3 c.nd (fe_bin op_pAdd fe_int (fe_bin op_pMul fe_int (fe_loc 1)))) (fb_cons (fs_for c.hp c.cm (fi_val (fe_bin op_pAdd (fe_sl (fe_loc 0) fo_none (fo_some fe_int)) (fe_lst (fa_cons (fe_loc 2) fa_nil)))) (fg_name 4 c.nd) (fb_one (fs_set 3 c.nd (fe_bin op_pMod (fe_ty call_pInt (T.fr 5 rfl) (by decide +kernel) rfl (fa_cons (fe_bin op_pAdd (fe_bin op_pMul (fe_loc 3) fe_int) (fe_loc 4)) fa_nil)) fe_int)))) (fb_one (fs_ret (fe_new (fa_cons (fe_if (ft_w (fw_or (ft_cmp op_pLt (fe_loc 2) fe_int) (fw_or1 (ft_cmp op_pGe (fe_loc 2) (fe_bin op_pPow fe_int fe_int))))) (fe_b call_pAbs (T.fr 65 rfl) (by decide +kernel) rfl (fa_cons (fe_loc 2) fa_nil)) fe_int) (fa_cons (fe_loc 3) (fa_cons fe_int fa_nil)))))))))
theorem sc_law : FnScope ["_law_cells", "_law_turn"] ["_law_cells"] (defScope (top 65)) := ⟨rfl, rfl, rfl, by decide +kernel, rfl, by decide +kernel, by decide +kernel⟩
theorem kn_law (T : Tx P K mg) : Kn P w K mg base "law" "law" (top 65) (He.ga K "law") ["_law_cells"] 10 1 F_law := by
  refine Kn.of (x := "law") (qual := "law") (f := He.ga K "law") (st := top 65) (N := ["_law_cells", "_law_turn"]) (ps := ["_law_cells"]) (k := 9) (n := 1) (tr := false) (bf := bf_law) (T.dn 44 rfl) sc_law rfl (fun _ _ _ _ _ _ us hl => match us, hl with | [_], _ => rfl) fun X E hX c => ?_
  obtain ⟨cdv, A, outer, s, H, rfl⟩ := hX
  exact (fb_one (fs_ret (fe_b (call_pAll c.cm) (T.fr 18 rfl) (by decide +kernel) rfl (fa_cons (fe_lcF c (fi_rg1 (T.fr 3 rfl) rfl (fa_cons (fe_b (call_pMax2 c.cm) (T.fr 2 rfl) (by decide +kernel) rfl (fa_cons fe_int (fa_cons (fe_b (call_pMin2 c.cm) (T.fr 1 rfl) (by decide +kernel) rfl (fa_cons (fe_b call_pLenS (T.fr 0 rfl) (by decide +kernel) rfl (fa_cons (fe_loc 0) fa_nil)) (fa_cons fe_int fa_nil))) fa_nil))) fa_nil)) (blkOk_by (own := [("_law_turn", 1)]) (by kernel_rfl)) (fun s H C cl fp c => (fg_name 1 c.nd)) (by decide) (fun s H C cl fp c => fts_nil) (fun s H C cl fp c => (fe_kn (kn__law_right T) c (T.gl 67 rfl) rfl (fa_cons (fe_kn (kn__law_cup T) c (T.gl 66 rfl) rfl (fa_cons (fe_loc 0) (fa_cons (fe_loc 1) fa_nil))) fa_nil)))) fa_nil))))
end
end HL
end
section
set_option Elab.async false
set_option linter.all false
set_option maxRecDepth 100000
set_option maxHeartbeats 0
namespace HL
open PySem PySem.Spec L2
def nm0 : List Str := [("_wall" : Str), ("__name__" : Str), ("NotRight" : Str), ("InvalidText" : Str), ("InvalidAbsence" : Str), ("InvalidPlace" : Str), ("NotAPlan" : Str), ("InvalidSubjects" : Str), ("InvalidHours" : Str), ("InvalidKinds" : Str), ("MOST_SUBJECTS" : Str), ("MOST_HOURS" : Str), ("MOST_PAIRS" : Str), ("MOST_KINDS" : Str), ("MOST_NUMBER" : Str), ("LETTERS" : Str), ("is_integer" : Str), ("is_between" : Str), ("is_number" : Str), ("is_name" : Str), ("DIGITS" : Str), ("is_row" : Str), ("is_gives" : Str), ("is_kind" : Str), ("check_subjects" : Str), ("check_hours" : Str), ("check_kinds" : Str), ("number_of" : Str), ("kind_of" : Str), ("line_of" : Str), ("most_ill" : Str), ("Plan" : Str), ("check_plan" : Str), ("is_absence" : Str), ("check_away" : Str), ("pairs_of" : Str), ("order_of" : Str), ("lots_of" : Str), ("lessons_of" : Str), ("weight_of" : Str)]
def nm1 : List Str := [("margin_of" : Str), ("is_lot" : Str), ("margin" : Str), ("tightest" : Str), ("tight_lot" : Str), ("_law_cup" : Str), ("_law_sip" : Str), ("_law_words" : Str), ("_law_amount" : Str), ("_law_sketch" : Str), ("_law_plan" : Str), ("_law_able" : Str), ("_law_gone" : Str), ("_law_pairs" : Str), ("_law_lots" : Str), ("_law_weight" : Str), ("_law_needs" : Str), ("_law_margin" : Str), ("_law_refused" : Str), ("_law_odd" : Str), ("_law_right" : Str)]
def looseL : List Str := nm0 ++ nm1
abbrev rowL : PySem.W.OpenRow := PySem.W.OpenLaw.row PySem.Challenge.rw_heldlessons_k31_whole_lots
abbrev hkL : PySem.W.Hook := hookX faL fnL prL isL xcL tkL erL fileL
theorem runL (w : World) : HandSHeadRun.RunEq rowL (PySem.W.view rowL.prog [65]) hkL (obTX faL fnL prL isL xcL tkL erL fileL) 6000 looseL w := by
  intro os
  kernel_rfl
theorem factsL {w : World} {h : Heap} {mg : Str → Option Value} {fA : Addr} (Y : hkL.says w h) (G : h.Ns mainGlobals mg) (hm : mg ("law" : Str) = some (.ref fA)) :
    ∃ (K : Frag) (fd : FuncData), K.In h ∧ (∀ (s : Shared) (u : Value), BindsTo s fd ⟨[u], []⟩ [("_law_cells", u)]) ∧ ∀ base : Heap, K.In base → base.Ns mainGlobals mg → FnG PySem.Challenge.pw_heldlessons_k31_whole_lots w K mg base 10 fA fd ["_law_cells"] (spOf K 1 F_law) := by
  obtain ⟨K, KX, c⟩ := Y
  have T : Tx PySem.Challenge.pw_heldlessons_k31_whole_lots K mg := ⟨⟨⟨h, KX, G⟩, congrArg Prod.fst c⟩, ⟨rfl, by kernel_rfl⟩, congrArg Prod.snd c⟩
  have kn : ∀ base : Heap, Kn PySem.Challenge.pw_heldlessons_k31_whole_lots w K mg base "law" "law" (top 65) (He.ga K "law") ["_law_cells"] 10 1 F_law := fun base => kn_law T
  obtain ⟨fd, F, _, _⟩ := kn h
  have eA : fA = He.ga K "law" := by
    have e := hm.symm.trans (T.gl 68 rfl)
    cases e
    rfl
  subst eA
  refine ⟨K, fd, KX, fun s u => ?_, fun base _ _ => ?_⟩
  · exact FunD.bindsA (ps := ["_law_cells"]) F (fun _ _ _ _ _ _ us hl => match us, hl with | [_], _ => rfl) s [u] rfl
  · obtain ⟨fd2, F2, G2, _⟩ := kn base
    obtain ⟨_, _, _, _, _, _, _, _, _, _, _, e1, _⟩ := F.ex
    obtain ⟨_, _, _, _, _, _, _, _, _, _, _, e2, _⟩ := F2.ex
    rw [e1] at e2
    cases e2
    exact G2
end HL
open PySem PySem.W PySem.Calls PyProof.Rows
theorem HL.holds_of (law : ∀ ns : List Int, ns.length ≤ 63 → ∃ S, HL.F_law [HL.cellsD ns] [] = .ok (.bl true) S) : PySem.Challenge.rw_heldlessons_k31_whole_lots.Holds := by
  w_on; o_law
  refine HandSHeadRun.head_any (r := HL.rowL) (q := view HL.rowL.prog [65]) (H := HL.hkL) (ob := HL.obTX HL.faL HL.fnL HL.prL HL.isL HL.xcL HL.tkL HL.erL HL.fileL) (M := 6000) (loose := HL.looseL) (d := HandSHeadRun.topDef HL.rowL.prog 65) (kwd := []) (HL.obTX_eq _ _ _ _ _ _ _ _)
    (by kernel_rfl) (fun s => by kernel_rfl) HL.runL (by kernel_rfl) (by kernel_rfl) (by kernel_rfl) (by rfl) (by first | assumption | decide +kernel) (by decide +kernel) ⟨rfl, rfl, rfl, rfl, rfl, by decide +kernel⟩ ?hw ?hc
  case hw => w_witness2
  case hc =>
    refine HL.walkG (l := PySem.Challenge.rw_heldlessons_k31_whole_lots) (n := 63) (k := 10) (x := "_law_cells") (g := HL.F_law) rfl (by decide) (by kernel_rfl) ⟨⟨rfl, by decide, by decide⟩, rfl⟩ (fun w mg fA h Y G hm => ?_) law
    have e : (HandSHeadRun.topDef HL.rowL.prog 65).name = ("law" : PySem.Str) := by kernel_rfl
    rw [e] at hm
    exact HL.factsL Y G hm
end
set_option Elab.async false
set_option linter.all false
set_option maxRecDepth 100000
set_option maxHeartbeats 4000000
namespace HL
open PySem PySem.Spec L2
theorem refused_ok {p : Pl} (ok : PlOk p) {aw : List Int} {b : Bool} (w : Wsd p [] aw) {d : D} (h : ∀ S, F_is_lot [plD p, d] S = .ok (.bl false) S) (hr : ∃ z, PyData.strOk z = true ∧ ∀ T, pRepr [d] T = some (.str z)) (S : Store) : F__law_refused [plD p, awD b aw, d] S = .ok (.bl true) S := by
  unfold F__law_refused bf__law_refused
  obtain ⟨z, hz, hr⟩ := hr
  simp [margin_no ok w (h S)]
  rw [hRun_yes rfl (show (["InvalidPlace"] : List Str).contains "InvalidPlace" = true by decide)]
  simp [pErr_one d S (show (["InvalidPlace"] : List Str).contains "InvalidPlace" = true by decide), hr, pEq_ss hz hz]
/-- a thing that is no lot, and is short -/
structure Odd (p : Pl) (d : D) : Prop where
  no : ∀ S, F_is_lot [plD p, d] S = .ok (.bl false) S
  nice : Nice 3 100000 d
structure OdInv (k : Sk) (t : Str) (S : Store) (zs : List Nat) (l : L) (S' : Store) : Prop where
  ex : ∃ (xs : List D) (o4 o5 : Option D), l = [some (skD k), some (.lst ((pairs (plOf k)).map prD)), some (.str t), some (.lst xs), o4, o5] ∧ S' = S ∧ (∀ d ∈ xs, Odd (plOf k) d) ∧ xs.length + 4 * zs.length ≤ 100
theorem law_odd_ok {k : Sk} {b : Bool} (sk : SkOk b k) (ok : PlOk (plOf k)) (S : Store) : ∃ xs : List D, F__law_odd [skD k] S = .ok (.lst xs) S ∧ (∀ d ∈ xs, Odd (plOf k) d) ∧ xs.length ≤ 1000 := by
  obtain ⟨t, ts, ht⟩ : ∃ t ts, k.tops = t :: ts := by
    have := sk.t0
    cases h : k.tops with
    | nil => rw [h] at this; simp at this
    | cons t ts => exact ⟨t, ts, rfl⟩
  have hc2 := sk.c1
  have ht3 := sk.t1
  have htm : t ∈ k.tops := by rw [ht]; exact .head _
  have htn := ok.sm t htm
  have tok : PyData.strOk t = true := strOk_name htn
  have tlen := name_len htn
  have i0 : ∀ T, pIx (skD k) (.int 0) T = some (.lst (k.tops.map .str)) := fun T => by simp [skD]
  have i1 : ∀ T, pIx (skD k) (.int 1) T = some (.lst (k.clk.map rowD)) := fun T => by simp [skD]
  have j0 : ∀ T, pIx (.lst (k.tops.map .str)) (.int 0) T = some (.str t) := fun T => by rw [ht]; simp
  have hN : (plOf k).hrs.length = k.clk.length := hrs1 k
  have n1 : ∀ {i : Int} (s : Str), -10 ≤ i → i ≤ 100 → PyData.strOk s = true → s.length ≤ 100 → Nice 1 3849 (.tup [.int i, .str s]) := fun s h1 h2 h3 h4 => nice_tup (n := 0) (B := 1921) (fun x hx => by
    simp at hx
    rcases hx with rfl | rfl
    · exact nice_int (by omega) (by omega)
    · exact nice_str h3 h4) 2 (by simp)
  have one : ∀ {x : D}, Nice 1 6000 x → Nice 3 100000 (.tup [x]) := fun h => (nice_tup (n := 1) (B := 6000) (fun y hy => by
    simp at hy
    subst hy
    exact h) 1 (by simp)).mono (by decide) (by decide)
  have sj : ∀ {x : D}, (∀ S, isiT "tuple" x S = some (.bl false)) → Nice 3 100000 x → Odd (plOf k) x := fun h1 h2 => ⟨fun S => is_lot_no (h1 S), h2⟩
  have bj : ∀ {x : D}, BadPr (plOf k) x → Nice 1 6000 x → Odd (plOf k) (.tup [x]) := fun h1 h2 => ⟨fun S => is_lot_bad ok h1 [] S, one h2⟩
  have o1 : Odd (plOf k) (.tup []) := ⟨is_lot_nil _, (nice_tup (n := 0) (B := 0) (xs := []) (fun x hx => nomatch hx) 0 (by simp)).mono (by decide) (by decide)⟩
  have o2 : Odd (plOf k) .non := sj (fun S => rfl) (nice_non.mono (by decide) (by decide))
  have o3 : Odd (plOf k) (.lst []) := sj (fun S => rfl) ((nice_lst (n := 0) (B := 0) (xs := []) (fun x hx => nomatch hx) 0 (by simp)).mono (by decide) (by decide))
  have o4 : Odd (plOf k) (.tup [.tup [.int (k.clk.length : Int), .str t]]) := bj (.hour (by rw [hN]; omega)) ((n1 t (by omega) (by omega) tok (by omega)).mono (by decide) (by decide))
  have o5 : Odd (plOf k) (.tup [.tup [.int (-1), .str t]]) := bj (.hour (by omega)) ((n1 t (by omega) (by omega) tok (by omega)).mono (by decide) (by decide))
  have hnob : ("nobody" : Str) ∉ (plOf k).subs := fun h => by
    have := sk.tm _ h
    revert this
    decide +kernel
  have o6 : Odd (plOf k) (.tup [.tup [.int 0, .str "nobody"]]) := bj (.none (q := (0, "nobody")) (by rw [hN]; exact sk.c0) (by decide +kernel) fun h => hnob (pairs_mem h).2) ((n1 "nobody" (by omega) (by omega) (by decide +kernel) (by decide +kernel)).mono (by decide) (by decide))
  have o7 : Odd (plOf k) (.tup [.int 0, .str t]) := ⟨fun S => is_lot_bad ok (.no fun S => rfl) [.str t] S, (n1 t (by omega) (by omega) tok (by omega)).mono (by decide) (by decide)⟩
  have o8 : Odd (plOf k) (.tup [.tup [.bl false, .str t]]) := bj (.truth _ _) ((nice_tup (n := 0) (B := 1921) (fun x hx => by
    simp at hx
    rcases hx with rfl | rfl
    · exact nice_bl _
    · exact nice_str tok (by omega)) 2 (by simp)).mono (by decide) (by decide))
  have o9 : Odd (plOf k) (.tup [.tup [.int 0, .str t, .int 1]]) := bj (.len (by simp)) ((nice_tup (n := 0) (B := 1921) (fun x hx => by
    simp at hx
    rcases hx with rfl | rfl | rfl
    · exact nice_int (by omega) (by omega)
    · exact nice_str tok (by omega)
    · exact nice_int (by omega) (by omega)) 3 (by simp)).mono (by decide) (by decide))
  have o10 : Odd (plOf k) (.tup [.lst [.int 0, .str t]]) := bj (.no fun S => rfl) ((nice_lst (n := 0) (B := 1921) (fun x hx => by
    simp at hx
    rcases hx with rfl | rfl
    · exact nice_int (by omega) (by omega)
    · exact nice_str tok (by omega)) 2 (by simp)).mono (by decide) (by decide))
  have o11 : Odd (plOf k) (.str t) := sj (fun S => rfl) ((nice_str tok (by omega)).mono (by decide) (by decide))
  have o12 : Odd (plOf k) (.int 0) := sj (fun S => rfl) ((nice_int (by omega) (by omega)).mono (by decide) (by decide))
  have o13 : Odd (plOf k) (.bl true) := sj (fun S => rfl) ((nice_bl _).mono (by decide) (by decide))
  unfold F__law_odd bf__law_odd
  simp [law_pairs_ok ok, i0, i1, j0]
  rw [bFz_ok (S1 := S ++ [.lst ([.tup [], .non, .lst [], .tup [.tup [.int (k.clk.length : Int), .str t]], .tup [.tup [.int (-1), .str t]], .tup [.tup [.int 0, .str "nobody"]]] ++ [.tup [.int 0, .str t]])]) (l1 := [some (skD k), some (.lst ((pairs (plOf k)).map prD)), some (.str t), some (.loc S.length), none, none])
    (l2 := [some (skD k), some (.lst ((pairs (plOf k)).map prD)), some (.str t), some (.lst ([.tup [], .non, .lst [], .tup [.tup [.int (k.clk.length : Int), .str t]], .tup [.tup [.int (-1), .str t]], .tup [.tup [.int 0, .str "nobody"]]] ++ [.tup [.int 0, .str t]])), none, none]) ?_ ?_ ?_]
  · simp [i1, rg1_nat (show k.clk.length < 4611686018427387904 by omega)]
    generalize hc : forGo _ _ _ _ _ _ = r
    obtain ⟨xs, o4', o5', hr, hx, hxl⟩ : ∃ (xs : List D) (o4 o5 : Option D), r = .nx [some (skD k), some (.lst ((pairs (plOf k)).map prD)), some (.str t), some (.lst xs), o4, o5] S ∧ (∀ d ∈ xs, Odd (plOf k) d) ∧ xs.length ≤ 100 := by
      rw [← hc]
      clear hc
      refine forGo_inv (en := fun i : Nat => D.int (i : Int)) (xs := List.range k.clk.length) (OdInv k t S) (fun r => ∃ (xs : List D) (o4 o5 : Option D), r = .nx [some (skD k), some (.lst ((pairs (plOf k)).map prD)), some (.str t), some (.lst xs), o4, o5] S ∧ (∀ d ∈ xs, Odd (plOf k) d) ∧ xs.length ≤ 100) ?_ ?_ (fun z h => h) ⟨⟨_, none, none, rfl, rfl, ?_, by simp; omega⟩⟩
      · rintro l S' ⟨⟨xs, o4, o5, rfl, rfl, hx, hl⟩⟩
        exact ⟨trivial, xs, o4, o5, rfl, hx, by simp at hl; omega⟩
      · rintro h ys l S' hh ⟨⟨xs, o4, o5, rfl, rfl, hx, hl⟩⟩
        refine ⟨trivial, _, rfl, ?_⟩
        have hlt : h < k.clk.length := by simpa using hh
        obtain ⟨row, hrow⟩ : ∃ row, k.clk[h]? = some row := ⟨_, List.getElem?_eq_getElem hlt⟩
        have hrl := sk.cl row (List.mem_of_getElem? hrow)
        have r1 : ∀ T, pIx (.lst (k.clk.map rowD)) (.int (h : Int)) T = some (rowD row) := fun T => by simp [hrow]
        simp [i0, i1, r1, rg1_nat (show k.tops.length < 4611686018427387904 by omega)]
        obtain ⟨u, v, hst⟩ : ∃ (u : Nat → Int) (v : Nat → Str), ∀ j ∈ List.range k.tops.length, row[j]? = some (u j) ∧ k.tops[j]? = some (v j) := by
          refine ⟨fun j => row.getD j 0, fun j => k.tops.getD j default, fun j hj => ?_⟩
          have hj := List.mem_range.mp hj
          constructor
          · show row[j]? = some (row.getD j 0)
            rw [List.getD_eq_getElem?_getD, List.getElem?_eq_getElem (by omega)]; rfl
          · show k.tops[j]? = some (k.tops.getD j default)
            rw [List.getD_eq_getElem?_getD, List.getElem?_eq_getElem hj]; rfl
        rw [cFil (en := fun j : Nat => D.int (j : Int)) (f := fun j => D.tup [prD (h, v j)]) (p := fun j => decide (u j = 0)) (fun j hj => by
          obtain ⟨e1, e2⟩ := hst j hj
          have q1 : ∀ T, pIx (rowD row) (.int (j : Int)) T = some (.int (u j)) := fun T => by simp [rowD, e1]
          have q2 : ∀ T, pIx (.lst (k.tops.map .str)) (.int (j : Int)) T = some (.str (v j)) := fun T => by simp [e2]
          by_cases c : u j = 0
          · simp [cStep, i0, i1, r1, q1, q2, c, prD]
          · simp [cStep, i0, i1, r1, q1, q2, c, prD]) (by simp; omega)]
        have hfl := List.length_filter_le (fun j => decide (u j = 0)) (List.range k.tops.length)
        rw [List.length_range] at hfl
        rw [List.length_cons] at hl
        have hle : xs.length + (List.filter (fun j => decide (u j = 0)) (List.range k.tops.length)).length ≤ 16777216 := by omega
        simp [hle]
        refine ⟨⟨_, _, _, rfl, rfl, fun d hd => ?_, by simp; omega⟩⟩
        rcases List.mem_append.mp hd with hd | hd
        · exact hx d hd
        · obtain ⟨j, hj, rfl⟩ := List.mem_map.mp hd
          obtain ⟨hj1, hj2⟩ := List.mem_filter.mp hj
          have hj2 : u j = 0 := by simpa using hj2
          obtain ⟨e1, e2⟩ := hst j hj1
          have hvm : v j ∈ k.tops := List.mem_of_getElem? e2
          have hvn := ok.sm _ hvm
          have hvl := name_len hvn
          refine bj (.none (by rw [hN]; exact hlt) (strOk_name hvn) fun hp => ?_) ((nice_prD (by show h ≤ 100; omega) (strOk_name hvn) (by show (v j).length ≤ 100; omega)).mono (by decide) (by decide))
          have := ((pairs_iff ok).mp hp).2.2
          rw [lesson_at ok (i := h) (j := j) (h := hrOf row) (v := u j) (by show (k.clk.map hrOf)[h]? = _; rw [List.getElem?_map, hrow]; rfl) e2 e1] at this
          omega
      · simp
        exact ⟨o1, o2, o3, o4, o5, o6, o7, o8, o9, o10, o11, o12, o13⟩
    subst hr
    have hx1 : doks 1 ((pairs (plOf k)).map prD) = true := doks_map fun q hq => dok_prD 0 (pairs_name ok hq)
    have fin : ∀ ys : List D, (∀ d ∈ ys, Odd (plOf k) d) → ys.length ≤ 1000 → ∃ zs, HL.fin true S (.lst ys) S = .ok (.lst zs) S ∧ (∀ d ∈ zs, Odd (plOf k) d) ∧ zs.length ≤ 1000 := fun ys h1 h2 =>
      ⟨ys, fin_true (Nat.le_refl _) (fun _ _ => rfl) (frz_flat (noLocs_dok (nice_all fun x hx => (h1 x hx).nice).1)), h1, h2⟩
    have hmem : ∀ q ∈ pairs (plOf k), Nice 1 3849 (prD q) := fun q hq => nice_pair ok hq
    have hasc := pairs_asc ok
    have hpl := pairs_len ok
    have tp := fun (l : List Pr) (a : l ≠ []) (b : l.length ≤ 1000) (c : ∀ q ∈ l, q ∈ pairs (plOf k)) S => is_lot_tp ok a b c S
    have tt := fun (l : List Pr) (a : l ≠ []) (b : l.length ≤ 1000) (c : ∀ q ∈ l, q ∈ pairs (plOf k)) S => is_lot_ok ok a b c S
    simp [pNe_nil 1 hx1]
    generalize pairs (plOf k) = pz at *
    cases pz with
    | nil =>
      simp
      exact fin xs hx (by omega)
    | cons a r =>
      have ha := hmem a (.head _)
      have hle : xs.length + 3 ≤ 16777216 := by omega
      have hr1 : r.length + 1 ≤ 9 := by simpa using hpl
      have hle2 : r.length + 1 + 1 ≤ 16777216 := by omega
      have p1 : Odd (plOf k) (.tup [prD a, prD a]) := ⟨fun S => by
        have := tt [a, a] (by simp) (by simp) (by simp) S
        rw [show ascB [a, a] = false by rw [ascB, prLt_irrefl]; rfl] at this
        exact this, (nice_tup (n := 1) (B := 3849) (xs := [prD a, prD a]) (fun x hx => by
          simp at hx
          subst hx
          exact ha) 2 (by simp)).mono (by decide) (by decide)⟩
      have p2 : Odd (plOf k) (.lst [prD a]) := sj (fun S => rfl) ((nice_lst (n := 1) (B := 3849) (xs := [prD a]) (fun x hx => by
          simp at hx
          subst hx
          exact ha) 1 (by simp)).mono (by decide) (by decide))
      have p3 : Odd (plOf k) (.tup (prD a :: (r.map prD ++ [prD a]))) := ⟨fun S => by
        have := tt (a :: (r ++ [a])) (by simp) (by simp; omega) (fun q hq => by simp at hq; rcases hq with h | h | h <;> simp [h]) S
        have na : ascB (a :: (r ++ [a])) = false := by
          cases e : ascB (a :: (r ++ [a])) with
          | false => rfl
          | true =>
            exfalso
            rcases List.eq_nil_or_concat r with rfl | ⟨r', z, rfl⟩
            · have := asc_adj (u := []) (x := a) (y := a) (v := []) e
              rw [prLt_irrefl] at this
              cases this
            · have e2 : a :: (r' ++ [z] ++ [a]) = (a :: r') ++ z :: a :: [] := by simp
              simp only [List.concat_eq_append] at e hasc
              rw [e2] at e
              have h1 := asc_adj e
              have h2 : prLt a z = true := (List.pairwise_cons.mp hasc).1 z (by simp)
              have := prLt_trans h1 h2
              rw [prLt_irrefl] at this
              cases this
        rw [na] at this
        simpa [lotD] using this, (nice_tup (n := 1) (B := 3849) (xs := prD a :: (r.map prD ++ [prD a])) (fun x hx => by
          have hx2 : x ∈ ((a :: r).map prD) := by simp at hx ⊢; rcases hx with h | h | h <;> simp [h]
          obtain ⟨q, hq, rfl⟩ := List.mem_map.mp hx2
          exact hmem q hq) 12 (by simp; omega)).mono (by decide) (by decide)⟩
      have hx3 : ∀ d ∈ xs ++ [.tup [prD a, prD a], .lst [prD a], .tup (prD a :: (r.map prD ++ [prD a]))], Odd (plOf k) d := fun d hd => by
        rcases List.mem_append.mp hd with hd | hd
        · exact hx d hd
        · simp at hd
          rcases hd with rfl | rfl | rfl
          · exact p1
          · exact p2
          · exact p3
      simp [hle, hle2]
      cases r with
      | nil =>
        simp
        exact fin _ hx3 (by simp; omega)
      | cons c r2 =>
        have hc1 : (1 : Int) < (r2.length : Int) + 1 + 1 := by omega
        have hle4 : xs.length ≤ 16777212 := by omega
        have p4 : Odd (plOf k) (.tpn ((r2.map prD).reverse ++ [prD c, prD a])) := by
          have e : (r2.map prD).reverse ++ [prD c, prD a] = (r2.reverse ++ [c, a]).map prD := by simp
          rw [e]
          refine ⟨fun S => ?_, (nice_tpn (n := 1) (B := 3849) (fun x hx => by
            obtain ⟨q, hq, rfl⟩ := List.mem_map.mp hx
            exact hmem q (by simp at hq ⊢; rcases hq with h | h | h <;> simp [h])) 12 (by simp; simp at hr1; omega)).mono (by decide) (by decide)⟩
          have := tp (r2.reverse ++ [c, a]) (by simp) (by simp; simp at hr1; omega) (fun q hq => by simp at hq ⊢; rcases hq with h | h | h <;> simp [h]) S
          have na : ascB (r2.reverse ++ [c, a]) = false := by
            cases e : ascB (r2.reverse ++ [c, a]) with
            | false => rfl
            | true =>
              exfalso
              have h1 := asc_adj e
              have h2 : prLt a c = true := (List.pairwise_cons.mp hasc).1 c (by simp)
              have := prLt_trans h1 h2
              rw [prLt_irrefl] at this
              cases this
          rw [na] at this
          exact this
        simp [hc1, hle4]
        refine fin (xs ++ [_, _, _, _]) (fun d hd => ?_) (by simp; omega)
        rcases List.mem_append.mp hd with hd | hd
        · exact hx d hd
        · have p3' := p3
          simp at hd p3'
          rcases hd with rfl | rfl | rfl | rfl
          · exact p1
          · exact p2
          · exact p3'
          · exact p4
  · simp [i1, j0]
  · refine ⟨by simp, fun i o hi h => .inl ?_⟩
    rw [List.getElem?_append_left hi] at h
    exact h
  · have g1 : noLoc (skD k) = true := by simp [skD, noLoc, noLocs]
    have g2 : noLoc (D.lst ((pairs (plOf k)).map prD)) = true := noLocs_map (fun _ => rfl) _
    rw [fzL_some, frzS_flat g1, fzL_some, frzS_flat g2, fzL_some, frzS_flat (d := .str t) rfl]
    simp [frzS_flat, frzS_new (Nat.le_refl S.length)]
    rw [frz_loc (xs := [.tup [], .non, .lst [], .tup [.tup [.int (k.clk.length : Int), .str t]], .tup [.tup [.int (-1), .str t]], .tup [.tup [.int 0, .str "nobody"]], .tup [.int 0, .str t]]) (by simp) (Nat.le_refl _) (by simp [noLocs, noLoc])]
    simp
theorem right_ok {n : Nat} {S : Store} (h : CupOk S n) (hn : n < S.length) : ∃ S', F__law_right [.loc n] S = .ok (.bl true) S' := by
  obtain ⟨v, S1, e1, d1, v0, v1⟩ := sip_ok (t := 3) h (by omega) (by omega)
  obtain ⟨k, S2, e2, d2, sk⟩ := sketch_ok (b := decide (0 < v)) d1.cup (by rw [d1.len]; exact hn)
  have ok := sk.pl
  have rb := sk.rows
  have hk5 := ok.k1
  have d12 := d1.trans d2
  obtain ⟨a1, S3, e3, d3, w1⟩ := law_gone_ok ok d12.cup (by rw [d12.len]; exact hn)
  obtain ⟨a2, S4, e4, d4, w2⟩ := law_gone_ok ok d3.cup (by rw [d3.len, d12.len]; exact hn)
  refine ⟨S4, ?_⟩
  have k1 : k.srt.length ≤ 5 := by simpa [plOf] using ok.k1
  have hll : (lots (plOf k)).length ≤ 511 := by
    unfold lots
    rw [List.length_mergeSort, List.length_tail]
    unfold lots0
    rw [lots0_len, List.length_singleton, Nat.one_mul]
    have : 2 ^ (pairs (plOf k)).length ≤ 2 ^ 9 := Nat.pow_le_pow_right (by omega) (pairs_len ok)
    omega
  have hx2 : doks 2 ((lots (plOf k)).map lotD) = true := doks_map fun m hm => dok_lotD fun q hq => strOk_sub ok ((lots_ok ok hm).mem q hq).2
  obtain ⟨os, eo, ho, hol⟩ := law_odd_ok sk ok S4
  unfold F__law_right bf__law_right
  simp [e1, e2, law_plan_ok ok rb, law_lots_ok ok]
  rw [cMap (en := srtD) (f := fun s => D.int 0) (fun s hs => by simp [cStep]) (by omega)]
  have e0 : D.tpn (k.srt.map fun _ => D.int 0) = awD true (nob (plOf k)) := by
    unfold awD tq
    rw [if_pos rfl, nob_srt, List.map_map]
    rfl
  simp [e0, e3, e4]
  generalize hc : forGo _ _ _ _ _ _ = r
  obtain ⟨_, rfl, o4, o5, o6, rfl⟩ : ∃ l', r = .nx l' S4 ∧ ∃ o4 o5 o6, l' = [some (.loc n), some (skD k), some (plD (plOf k)), some (.lst ((lots (plOf k)).map lotD)), o4, o5, o6, none, none, none] := by
    rw [← hc]
    clear hc
    have el : [awD true (nob (plOf k)), awD true a1, awD true a2] = [nob (plOf k), a1, a2].map fun q : List Int => awD true q := rfl
    rw [el]
    refine forGo_pass (en := fun q : List Int => awD true q) (fun ls aw hq ⟨o4, o5, o6, e⟩ => ?_) ⟨_, _, _, rfl⟩
    subst e
    have w : Wsd (plOf k) [] aw := by
      simp at hq
      rcases hq with rfl | rfl | rfl
      · exact nob_wsd ok
      · exact w1
      · exact w2
    refine ⟨[(4, awD true aw)], ?_⟩
    have mo : ∀ l ∈ lots (plOf k), F__law_margin [skD k, awD true aw, lotD l] S4 = .ok (.int (margin (plOf k) aw l)) S4 := fun l hl => law_margin_ok ok (fun T => sq1_tq _ _ _) (lots_ok ok hl) S4
    have mp : ∀ l ∈ lots (plOf k), F_margin [plD (plOf k), awD true aw, lotD l] S4 = .ok (.int (margin (plOf k) aw l)) S4 := fun l hl => margin_ok ok rfl w hl S4
    have mr : ∃ z, PyData.strOk z = true ∧ ∀ T, pRepr [.lst ((lots (plOf k)).map fun l => D.int (margin (plOf k) aw l))] T = some (.str z) :=
      Nice.repr (nice_lst (n := 0) (B := 1921) (fun x hx => by
        obtain ⟨l, hl, rfl⟩ := List.mem_map.mp hx
        obtain ⟨a, b⟩ := mg_small ok rb w hl
        exact nice_int (by omega) (by omega)) 511 (by simpa using hll)) (by decide) (by decide)
    obtain ⟨z, z1, z2⟩ := mr
    simp
    rw [cMap (en := lotD) (f := fun l => D.int (margin (plOf k) aw l)) (fun l hl => by simp [cStep, mo l hl]) (by omega)]
    simp
    rw [cMap (en := lotD) (f := fun l => D.int (margin (plOf k) aw l)) (fun l hl => by simp [cStep, mp l hl]) (by omega)]
    have hod := cFil (en := fun d : D => d) (f := fun d : D => d) (p := fun _ => false) (g := gN 9) (t := mNot (asB (eCalln 3 F__law_refused (aCons (eLoc 2) (aCons (eLoc 4) (aCons (eLoc 9) aNil)))))) (e := eLoc 9) (S := S4) (xs := os)
      (l := [some (.loc n), some (skD k), some (plD (plOf k)), some (.lst ((lots (plOf k)).map lotD)), some (awD true aw), some (.lst ((lots (plOf k)).map fun l => D.int (margin (plOf k) aw l))), some (foundD (tight (plOf k) aw)), none, none, none])
      (fun d hd => by
        have := refused_ok ok (b := true) w (d := d) (fun S => (ho d hd).no S) ((ho d hd).nice.repr (by decide) (by decide)) S4
        simp [cStep, this]) (by omega)
    have hf : (os.filter fun _ => false) = [] := List.filter_eq_nil_iff.mpr (fun _ _ h => nomatch h)
    rw [List.map_id', hf, List.map_nil] at hod
    have tl := fun S => tight_lot_ok ok rfl (b := true) w S
    simp [z2, pNe_ss z1 z1, pNe_nil 2 hx2]
    by_cases hl0 : lots (plOf k) = []
    · have ht : tight (plOf k) aw = none := by unfold tight; rw [hl0]; rfl
      obtain ⟨y, y1, y2⟩ := Nice.repr (nice_lst (n := 0) (B := 1921) (xs := [.non, .non]) (fun x hx => by
        simp at hx
        subst hx
        exact nice_non) 2 (by simp)) (by decide) (by decide)
      rw [ht] at hod tl
      simp [hl0, foundD] at hod tl
      simp [hl0, tl, y2, pNe_ss y1 y1, eo, hod]
    · obtain ⟨j, l, t1, t2, t3⟩ := tight_first (aw := aw) hl0
      have hlm := List.mem_of_getElem? t2
      have em : ((lots (plOf k)).map fun l => D.int (margin (plOf k) aw l)) = ((lots (plOf k)).map (margin (plOf k) aw)).map .int := by rw [List.map_map]; rfl
      have hpos : 0 < ((lots (plOf k)).map (margin (plOf k) aw)).length := by rw [List.length_map]; exact List.length_pos_iff.mpr hl0
      have pm : pMinL [.lst ((lots (plOf k)).map fun l => D.int (margin (plOf k) aw l))] S4 = some (.int (minI ((lots (plOf k)).map (margin (plOf k) aw)))) := pMinL_ints (by rw [em]; rfl) hpos
      have pi : pIndexL (.lst ((lots (plOf k)).map fun l => D.int (margin (plOf k) aw l))) [.int (minI ((lots (plOf k)).map (margin (plOf k) aw)))] S4 = some (.int (j : Int)) := by rw [em, pIndexL_ints, t3]; rfl
      have px : pIx (.lst ((lots (plOf k)).map lotD)) (.int (j : Int)) S4 = some (lotD l) := by simp [t2]
      have hmin : ∃ l' ∈ lots (plOf k), margin (plOf k) aw l' = minI ((lots (plOf k)).map (margin (plOf k) aw)) := by
        obtain ⟨m1, _⟩ := minI_spec (xs := (lots (plOf k)).map (margin (plOf k) aw)) hpos
        exact List.mem_map.mp m1
      obtain ⟨l', hl', hle⟩ := hmin
      obtain ⟨b1, b2⟩ := mg_small ok rb w hl'
      rw [hle] at b1 b2
      obtain ⟨y, y1, y2⟩ := Nice.repr (nice_lst (n := 3) (B := 100000) (xs := [.tup [.int (minI ((lots (plOf k)).map (margin (plOf k) aw))), lotD l], .tup [.int (minI ((lots (plOf k)).map (margin (plOf k) aw))), lotD l]]) (fun x hx => by
        simp at hx
        subst hx
        exact due_nice ok b1 b2 hlm) 2 (by simp)) (by decide) (by decide)
      rw [t1] at hod tl
      simp [foundD] at hod tl
      simp [hl0, pm, pi, px, tl, y2, pNe_ss y1 y1, eo, hod]
  simp
theorem law_ok (ns : List Int) (hn : ns.length ≤ 63) : ∃ S, F_law [cellsD ns] [] = .ok (.bl true) S := by
  unfold F_law bf_law
  have hp : ∀ T, pLenS [cellsD ns] T = some (.int (ns.length : Int)) := fun T => by unfold cellsD; simp
  have h0 : (0 : Int) ≤ max 2 (min (ns.length : Int) 5) := by omega
  simp [hp, rg1_int h0 (show max 2 (min (ns.length : Int) 5) < 4611686018427387904 by omega)]
  obtain ⟨S', e⟩ := cGo_all (g := gN 1) (t := tYesF) (e := eCalln 1 F__law_right (aCons (eCalln 2 F__law_cup (aCons (eLoc 0) (aCons (eLoc 1) aNil))) aNil)) (l := [some (cellsD ns), none]) (en := fun i : Nat => D.int (i : Int)) (xs := List.range (max 2 (min (ns.length : Int) 5)).toNat) (S := []) (k := 0) (fun x hx S => by
    rw [List.mem_range] at hx
    obtain ⟨S1, e1, c1, l1, _⟩ := cup_ok ns (x : Int) S (by omega) (by omega)
    obtain ⟨S2, e2⟩ := right_ok c1 (by omega)
    exact ⟨S2, by simp [cStep, e1, e2]⟩) (by simp; omega)
  rw [e]
  simp
end HL
theorem PySem.Challenge.cw_heldlessons_k31_whole_lots_holds : PySem.Challenge.rw_heldlessons_k31_whole_lots.Holds := by
  exact HL.holds_of HL.law_ok
