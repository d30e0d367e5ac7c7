import PyProof.Rows.All
import Wide.All
import OpenK.AllK
import Wide.FinOn
import HandS.ForMost
import HandS.Lambda
import KE.KeyNested
import HandS.ForExc
import HandS.HeadHook1
import HandS.HeadHook4
import HandS.Wide
import HandS.TupAny
import HandS.Deep
import HandS.IsInst
import KE.KTupSum
import HandS.NoneIn
import HandS.Style
import HandS.Iter
import HandS.Strs
import HandS.Text
import HandS.Replace
import KE.SortData
import KE.SortKeyHeap
import HandS.SortKw
import HandS.Star
import HandS.FStr
import HandS.TupSets
import PyProof.ReprRoads
import HandS.Zip
import KE.GoesNew
import KE.GoesMore
import HandS.Defaults
import HandS.Property
import KE.KSortKey
import HandS.Words
import HandS.HeadHook2
import HandS.Ends
import HandS.Head0
import HandS.Head1
import HandS.Head2
import HandS.HeadEnd
import HandS.WideBits
import PyProof.NoPylong
import KE.DataCmp
import KE.KCallOwn
import PyProof.InstNe
import HandS.Small
import PyProof.StrOps2
import HandS.ClsMeth
import HandS.HeadNt
import HandS.HeadHook3
import KE.KExcSuper
import PyProof.ExcBaseAll.ValueError
import PyProof.ExcBaseAll.LookupError
import PyProof.ExcBaseAll.ArithmeticError
import HandS.TryMany
import HandS.ExcValue
import HandS.ExcField
import HandS.ExcInit
import HandS.HotCalls
import KE.KExcIs
import HandS.SetFor
import HandS.EndTab
import HandS.TupMul
import PyProof.EqAt
import HandS.ExcOwn
import PyProof.StrLawsRepr
import PyProof.Rows.RegStrFacts
import PyProof.StrLawsIn
import PySem.Challenge.RW_heldlessons_k01_limits_and_errors
section
set_option Elab.async false
set_option linter.all false
set_option maxRecDepth 100000
set_option maxHeartbeats 1000000
namespace HL
open PySem PySem.Spec L2
/-- the hash of texts -/
abbrev HSh := Str → Int
mutual
def kHash (hs : HSh) : NestedKey → Int
  | .none => reduceHash 0xFCA86420
  | .num i => hashInt i
  | .text x => hs x
  | .tup ks => reduceHash (Builtin.Tuple.tupleHashOf (kHashes hs ks))
def kHashes (hs : HSh) : List NestedKey → List Int
  | [] => []
  | k :: ks => kHash hs k :: kHashes hs ks
end
mutual
theorem kHash_eq (w : World) : ∀ k : NestedKey, kHash (hashStr w) k = k.hash w
  | .none => rfl
  | .num _ => rfl
  | .text _ => rfl
  | .tup ks => by rw [kHash, NestedKey.hash, kHashes_eq w ks]
theorem kHashes_eq (w : World) : ∀ ks : List NestedKey, kHashes (hashStr w) ks = NestedKey.hashes w ks
  | [] => rfl
  | k :: ks => by rw [kHashes, NestedKey.hashes, kHash_eq w k, kHashes_eq w ks]
end
/-- what a dict holds: key, the key's tuple, value -/
abbrev DRow := NestedKey × Addr × V
def rowE (hs : HSh) (x : DRow) (v : Value) : DictEntry := ⟨kHash hs x.1, .ref x.2.1, v⟩
/-- the dict at a holds xs -/
def DctAt (hs : HSh) (a : Addr) (xs : List DRow) (h : Heap) : Prop :=
  xs.length ≤ sizeLine ∧ (a == sysModules) = false ∧ (∀ x ∈ xs, x.1.depth ≤ 8) ∧ (xs.map (·.1)).Nodup ∧ ∃ (vals : List Value) (o : Obj) (es : Array DictEntry) (ep : Nat), Vals (xs.map (·.2.2)) vals ∧ h.get? a = some o ∧ o.ExactDict ∧ o.data = .dict es ep ∧ es.toList = (xs.zip vals).map fun p => rowE hs p.1 p.2
abbrev dctO (hs : HSh) (a : Addr) (xs : List DRow) : HO := .ext (DctAt hs a xs)
/-- a heap that holds one thing over and over -/
def flood (n : Nat) (o : Obj) : Heap := { objs := Array.replicate (n + 1) o }
theorem flood_at {n a : Nat} {o : Obj} (hd : o.data ≠ .freed) (h : a ≤ n) : (flood n o).get? a = some o := by
  unfold flood Heap.get?
  have e : (Array.replicate (n + 1) o)[a]? = some o := by
    rw [Array.getElem?_replicate, if_pos (by omega)]
  dsimp only
  rw [e]
  obtain ⟨c, d, dt, sl⟩ := o
  cases dt <;> first | rfl | exact absurd rfl hd
theorem flood_is {n a : Nat} {o o' : Obj} (h : (flood n o).get? a = some o') : o' = o := by
  unfold flood Heap.get? at h
  dsimp only at h
  rw [Array.getElem?_replicate] at h
  split at h
  · cases h
  · split at h
    · exact (Option.some.inj h).symm
    · cases h
theorem dct_ne {hs : HSh} {a : Addr} {xs : List DRow} {φ : Heap → Prop} {n : Nat} {o : Obj} (hφ : φ (flood n o)) (hd : ∀ es ep, o.data ≠ .dict es ep) : HO.ext φ ≠ dctO hs a xs := fun e => by
  have e2 : φ = DctAt hs a xs := HO.ext.inj e
  rw [e2] at hφ
  obtain ⟨_, _, _, _, _, o', es, ep, _, h1, _, h2, _⟩ := hφ
  rw [flood_is h1] at h2
  exact hd es ep h2
/-- a code object is no such dict -/
theorem code_ne {hs : HSh} {a c : Addr} {xs : List DRow} {q : Str} : LamX.CodeO c q ≠ dctO hs a xs := by
  refine dct_ne (n := c) (o := { cls := .none, data := .fields #[.none, .str q 0] }) ?_ (fun es ep z => by cases z)
  exact ⟨_, _, 0, flood_at (fun z => by cases z) (Nat.le_refl _), rfl, rfl⟩
end HL
end
section
set_option Elab.async false
set_option linter.all false
set_option maxRecDepth 100000
set_option maxHeartbeats 1000000
namespace HL
open PySem PySem.Spec L2

/-- data: by value, but for what may change (loc); tpn: a tuple made by tuple(..), of which we know that it has no dict -/
inductive D where
  | non | bl (b : Bool) | int (i : Int) | str (x : Str)
  | tup (xs : List D) | tpn (xs : List D) | lst (xs : List D) | scr (xs : List D) | iset (n : Nat) | ins (C : Str) (ks : List Str) (vs : List D) | err (C : Str) (ks : List Str) (vs : List D) | cls (C : Str) | dic | loc (n : Nat)
  deriving Inhabited
/-- what may change -/
inductive Ob where
  | lst (xs : List D) | ins (C : Str) (ks : List Str) (vs : List D) | tab (x : Str) | dct (hs : HSh) (kvs : List (NestedKey × D))
abbrev Store := List Ob
structure Exc where
  cls : Str
  ks : List Str
  vs : List D
inductive R (α : Type) where
  | ok (a : α) (S : Store) | exc (e : Exc) (S : Store) | bad
def R.bind {α β : Type} (r : R α) (f : α → Store → R β) : R β := match r with
  | .ok a S => f a S
  | .exc e S => .exc e S
  | .bad => .bad
@[simp] theorem R.bind_ok {α β : Type} (a : α) (S : Store) (f : α → Store → R β) : (R.ok a S).bind f = f a S := rfl
@[simp] theorem R.bind_bad {α β : Type} (f : α → Store → R β) : (R.bad : R α).bind f = .bad := rfl
@[simp] theorem R.bind_exc {α β : Type} (e : Exc) (S : Store) (f : α → Store → R β) : (R.exc e S : R α).bind f = .exc e S := rfl
def ofO {α : Type} (o : Option α) (S : Store) : R α := match o with
  | some a => .ok a S
  | none => .bad
@[simp] theorem ofO_some {α : Type} (a : α) (S : Store) : ofO (some a) S = .ok a S := rfl
abbrev L := List (Option D)

abbrev Frag := PySem.W.Frag
/-- a world: where the store's objects stand, the store, the heap, what is being built (busy) -/
structure Wd where
  ρ : Nat → Addr
  S : Store
  H : Hp
  B : Addr → Prop
def Live (W : Wd) (a : Addr) : Prop := ∃ i, i < W.S.length ∧ W.ρ i = a
def Sq (W : Wd) (a : Addr) (vs : List V) : Prop := W.H a = some (.lst vs) ∧ ¬ Live W a ∧ ¬ W.B a

/-- a list that never changes: it was laid so, or it stands in the written part -/
def SqF (K : Frag) (H : Hp) (a : Addr) (vs : List V) : Prop := (∃ o, H a = some (.frz o (.lst vs))) ∨ ∃ (o : Obj) (its : Array Value) (n : Nat), K.lookup a = some o ∧ o.cls = .type "list" ∧ o.dict = none ∧ o.data = .seq its n ∧ its.size ≤ sizeLine ∧ Vals vs its.toList
theorem SqF.sql {K : Frag} {H : Hp} {a : Addr} {vs : List V} (h : SqF K H a vs) : SqL K H a vs := h.elim (fun z => .inl (.inr z)) .inr
/-- a caught exception at a: its class, its dict -/
abbrev exq (a : Addr) (cls : Value) (d : Option Addr) : HO := .ext fun h => ∃ (oe : Obj) (vs : Array Value), h.get? a = some oe ∧ Zc cls d oe ∧ oe.data = .fields vs
theorem exq_ne {hs : HSh} {b a : Addr} {xs : List DRow} {cls : Value} {d : Option Addr} : exq a cls d ≠ dctO hs b xs :=
  dct_ne (n := a) (o := { cls := cls, dict := d, data := .fields #[] }) ⟨_, _, flood_at (fun z => by cases z) (Nat.le_refl _), ⟨rfl, rfl⟩, rfl⟩ (fun es ep z => by cases z)
mutual
inductive Rep (K : Frag) (W : Wd) : D → V → Prop
  | non : Rep K W .non .non
  | bl (b : Bool) : Rep K W (.bl b) (.bl b)
  | int (i : Int) : Rep K W (.int i) (.int i)
  | str (x : Str) : Rep K W (.str x) (.str x)
  | tup {xs : List D} {vs : List V} {a : Addr} : SqT K W.H a vs → Reps K W xs vs → Rep K W (.tup xs) (.ref a)
  | tpn {xs : List D} {vs : List V} {a : Addr} : (∃ o : Obj, W.H a = some (.frz o (.tup vs)) ∧ o.dict = none) → Reps K W xs vs → Rep K W (.tpn xs) (.ref a)
  | lst {xs : List D} {vs : List V} {a : Addr} : Sq W a vs → Reps K W xs vs → Rep K W (.lst xs) (.ref a)
  | scr {xs : List D} {vs : List V} {a : Addr} : SqF K W.H a vs → Reps K W xs vs → Rep K W (.scr xs) (.ref a)
  | iset {n : Nat} {a : Addr} : (∃ M, W.H a = some (.set M n)) → ¬ Live W a → Rep K W (.iset n) (.ref a)
  | ins {C : Str} {ks : List Str} {xs : List D} {vs : List V} {a dx : Addr} : W.H a = some (.ins (He.ga K C) dx (ks.zip vs)) → ¬ Live W a → ks.length = vs.length → Reps K W xs vs → Rep K W (.ins C ks xs) (.ref a)
  | err {C : Str} {ks : List Str} {xs : List D} {vs : List V} {a : Addr} {d : Option Addr} : W.H a = some (exq a (.ref (He.ga K C)) d) → (ks = [] ∧ d = none ∨ ∃ dd, d = some dd ∧ W.H dd = some (.xd (ks.zip vs))) → ks.length = vs.length → Reps K W xs vs → Rep K W (.err C ks xs) (.ref a)
  | cls (C : Str) : Rep K W (.cls C) (.ref (He.ga K C))
  | dic {a : Addr} : W.H a = some (.dK []) → Rep K W .dic (.ref a)
  | loc {n : Nat} : n < W.S.length → Rep K W (.loc n) (.ref (W.ρ n))
inductive Reps (K : Frag) (W : Wd) : List D → List V → Prop
  | nil : Reps K W [] []
  | cons {d : D} {v : V} {ds : List D} {vs : List V} : Rep K W d v → Reps K W ds vs → Reps K W (d :: ds) (v :: vs)
end
/-- the table of the code objects that the def x makes; the name of such a code object -/
def tabP (K : Frag) (x : Str) : Addr := (He.cT K (x, none)).2
def lamQ (x : Str) : Str := x ++ ".<locals>." ++ "<lambda>"
mutual
/-- a key as data -/
def keyD : NestedKey → D
  | .none => .non
  | .num i => .int i
  | .text x => .str x
  | .tup ks => .tup (keyDs ks)
def keyDs : List NestedKey → List D
  | [] => []
  | k :: ks => keyD k :: keyDs ks
end
def RepO (K : Frag) (W : Wd) (o : Ob) (a : Addr) : Prop := match o with
  | .dct hs kvs => ∃ xs : List DRow, W.H a = some (dctO hs a xs) ∧ xs.map (·.1) = kvs.map (·.1) ∧ Reps K W (kvs.map fun p => keyD p.1) (xs.map fun x => .ref x.2.1) ∧ Reps K W (kvs.map (·.2)) (xs.map (·.2.2))
  | .tab x => a = tabP K x ∧ LamX.TabS W.H a (lamQ x)
  | .lst xs => ∃ vs, W.H a = some (.lst vs) ∧ Reps K W xs vs
  | .ins C ks xs => ∃ dx vs, W.H a = some (.ins (He.ga K C) dx (ks.zip vs)) ∧ ks.length = vs.length ∧ Reps K W xs vs
structure Ok (K : Frag) (W : Wd) : Prop where
  bl : ∀ a, W.B a → ∃ xs, W.H a = some (.lst xs)
  nb : ∀ a, W.B a → ¬ Live W a
  inj : ∀ i j, i < W.S.length → j < W.S.length → W.ρ i = W.ρ j → i = j
  obj : ∀ i o, W.S[i]? = some o → RepO K W o (W.ρ i)
theorem Ok.busy {K : Frag} {W : Wd} (ok : Ok K W) : ∀ a, W.B a → W.H a ≠ none := fun a b e => by
  obtain ⟨xs, h⟩ := ok.bl a b
  rw [h] at e
  cases e
/-- what holds no list is not busy -/
theorem Ok.nbusy {K : Frag} {W : Wd} (ok : Ok K W) {a : Addr} {u : HO} (h : W.H a = some u) (hu : ∀ xs, u ≠ .lst xs) : ¬ W.B a := fun b => by
  obtain ⟨xs, e⟩ := ok.bl a b
  rw [h] at e
  exact hu xs (Option.some.inj e)
structure Ext (W W' : Wd) : Prop where
  B : W'.B = W.B
  len : W.S.length ≤ W'.S.length
  rho : ∀ i, i < W.S.length → W'.ρ i = W.ρ i
  keep : ∀ a u, W.H a = some u → ¬ Live W a → W'.H a = some u ∧ ¬ Live W' a
/-- .. where more may be busy -/
structure Exs (W W' : Wd) : Prop where
  len : W.S.length ≤ W'.S.length
  rho : ∀ i, i < W.S.length → W'.ρ i = W.ρ i
  keep : ∀ a u, W.H a = some u → ¬ Live W a → W'.H a = some u ∧ ¬ Live W' a
  fresh : ∀ a u, W.H a = some u → ¬ Live W a → ¬ W.B a → ¬ W'.B a
/-- .. where what is busy may change -/
structure Exw (W W' : Wd) : Prop where
  len : W.S.length ≤ W'.S.length
  rho : ∀ i, i < W.S.length → W'.ρ i = W.ρ i
  keep : ∀ a u, W.H a = some u → ¬ Live W a → ¬ W.B a → W'.H a = some u ∧ ¬ Live W' a ∧ ¬ W'.B a
theorem Exs.v {W W' : Wd} (e : Exs W W') : Exw W W' := ⟨e.len, e.rho, fun a u h n m => ⟨(e.keep a u h n).1, (e.keep a u h n).2, e.fresh a u h n m⟩⟩
theorem Ext.w {W W' : Wd} (e : Ext W W') : Exs W W' := ⟨e.len, e.rho, e.keep, fun a u _ _ n => by rw [e.B]; exact n⟩
theorem Exs.trans {W W' W'' : Wd} (a : Exs W W') (b : Exs W' W'') : Exs W W'' :=
  ⟨Nat.le_trans a.len b.len, fun i h => (b.rho i (Nat.lt_of_lt_of_le h a.len)).trans (a.rho i h), fun x u h n => let ⟨h', n'⟩ := a.keep x u h n; b.keep x u h' n',
    fun x u h n m => let ⟨h', n'⟩ := a.keep x u h n; b.fresh x u h' n' (a.fresh x u h n m)⟩
theorem Exw.trans {W W' W'' : Wd} (a : Exw W W') (b : Exw W' W'') : Exw W W'' :=
  ⟨Nat.le_trans a.len b.len, fun i h => (b.rho i (Nat.lt_of_lt_of_le h a.len)).trans (a.rho i h), fun x u h n m => let ⟨h', n', m'⟩ := a.keep x u h n m; b.keep x u h' n' m'⟩
theorem Ext.refl (W : Wd) : Ext W W := ⟨rfl, Nat.le_refl _, fun _ _ => rfl, fun _ _ h n => ⟨h, n⟩⟩
theorem Ext.trans {W W' W'' : Wd} (a : Ext W W') (b : Ext W' W'') : Ext W W'' :=
  ⟨b.B.trans a.B, Nat.le_trans a.len b.len, fun i h => (b.rho i (Nat.lt_of_lt_of_le h a.len)).trans (a.rho i h), fun x u h n => let ⟨h', n'⟩ := a.keep x u h n; b.keep x u h' n'⟩

section
variable {K : Frag} {W W' : Wd}
/-- a live address holds what may change -/
theorem Ok.live (ok : Ok K W) {a : Addr} (l : Live W a) : ∃ u, W.H a = some u ∧ ((∃ xs, u = .lst xs) ∨ (∃ C dx fs, u = .ins C dx fs) ∨ (∃ ps, u = .tbl ps) ∨ ∃ hs b xs, u = dctO hs b xs) := by
  obtain ⟨i, hi, rfl⟩ := l
  have h := ok.obj i _ (List.getElem?_eq_getElem hi)
  cases q : W.S[i] with
  | lst xs =>
    rw [q] at h
    obtain ⟨vs, e, _⟩ := h
    exact ⟨_, e, .inl ⟨_, rfl⟩⟩
  | ins C ks xs =>
    rw [q] at h
    obtain ⟨dx, vs, e, _⟩ := h
    exact ⟨_, e, .inr (.inl ⟨_, _, _, rfl⟩)⟩
  | tab x =>
    rw [q] at h
    obtain ⟨_, ps, e, _⟩ := h
    exact ⟨_, e, .inr (.inr (.inl ⟨_, rfl⟩))⟩
  | dct hs kvs =>
    rw [q] at h
    obtain ⟨xs, e, _⟩ := h
    exact ⟨_, e, .inr (.inr (.inr ⟨_, _, _, rfl⟩))⟩
theorem Ok.nlive (ok : Ok K W) {a : Addr} {u : HO} (e : W.H a = some u) (h1 : ∀ xs, u ≠ .lst xs) (h2 : ∀ C dx fs, u ≠ .ins C dx fs) (h3 : ∀ ps, u ≠ .tbl ps := by intro ps q; cases q) (h4 : ∀ hs b xs, u ≠ dctO hs b xs := by first | exact (fun _ _ _ q => HO.noConfusion q) | exact (fun _ _ _ => exq_ne) | exact (fun _ _ _ => code_ne)) : ¬ Live W a := fun l => by
  obtain ⟨v, e', q⟩ := ok.live l
  rw [e] at e'
  cases e'
  rcases q with ⟨xs, rfl⟩ | ⟨C, dx, fs, rfl⟩ | ⟨ps, rfl⟩ | ⟨hs, b, xs, rfl⟩
  · exact h1 _ rfl
  · exact h2 _ _ _ rfl
  · exact h3 _ rfl
  · exact h4 _ _ _ rfl
theorem Ok.nlive0 (ok : Ok K W) {a : Addr} (e : W.H a = none) : ¬ Live W a := fun l => by
  obtain ⟨v, e', _⟩ := ok.live l
  rw [e] at e'
  cases e'
theorem SqT.ext (e : Exw W W') (ok : Ok K W) {a : Addr} {vs : List V} (h : SqT K W.H a vs) : SqT K W'.H a vs := by
  rcases h with (h | ⟨o, h⟩) | h
  · exact .inl (.inl (e.keep _ _ h (ok.nlive h (fun _ q => nomatch q) (fun _ _ _ q => nomatch q)) (ok.nbusy h fun _ q => nomatch q)).1)
  · exact .inl (.inr ⟨o, (e.keep _ _ h (ok.nlive h (fun _ q => nomatch q) (fun _ _ _ q => nomatch q)) (ok.nbusy h fun _ q => nomatch q)).1⟩)
  · exact .inr h
theorem Sq.ext (e : Exw W W') {a : Addr} {vs : List V} (h : Sq W a vs) : Sq W' a vs := e.keep _ _ h.1 h.2.1 h.2.2
theorem Sq.sql {K : Frag} {a : Addr} {vs : List V} (h : Sq W a vs) : SqL K W.H a vs := .inl (.inl h.1)
theorem frz_ext (e : Exw W W') (ok : Ok K W) {a : Addr} {o : Obj} {u : HO} (h : W.H a = some (.frz o u)) : W'.H a = some (.frz o u) := (e.keep _ _ h (ok.nlive h (fun _ q => nomatch q) (fun _ _ _ q => nomatch q)) (ok.nbusy h fun _ q => nomatch q)).1
theorem SqF.ext (e : Exw W W') (ok : Ok K W) {a : Addr} {vs : List V} (h : SqF K W.H a vs) : SqF K W'.H a vs := h.elim (fun ⟨o, z⟩ => .inl ⟨o, frz_ext e ok z⟩) .inr
mutual
theorem Rep.exw (e : Exw W W') (ok : Ok K W) : ∀ {d : D} {v : V}, Rep K W d v → Rep K W' d v
  | _, _, .non => .non
  | _, _, .bl b => .bl b
  | _, _, .int i => .int i
  | _, _, .str x => .str x
  | _, _, .tup h r => .tup (SqT.ext e ok h) (Reps.exw e ok r)
  | _, _, .tpn ⟨o, h, hd⟩ r => .tpn ⟨o, frz_ext e ok h, hd⟩ (Reps.exw e ok r)
  | _, _, .lst h r => .lst (h.ext e) (Reps.exw e ok r)
  | _, _, .scr h r => .scr (SqF.ext e ok h) (Reps.exw e ok r)
  | _, _, .iset ⟨M, h⟩ n => .iset ⟨M, (e.keep _ _ h n (ok.nbusy h fun _ q => nomatch q)).1⟩ (e.keep _ _ h n (ok.nbusy h fun _ q => nomatch q)).2.1
  | _, _, .ins h n hl r => .ins (e.keep _ _ h n (ok.nbusy h fun _ q => nomatch q)).1 (e.keep _ _ h n (ok.nbusy h fun _ q => nomatch q)).2.1 hl (Reps.exw e ok r)
  | _, _, .err h hd hl r => .err (e.keep _ _ h (ok.nlive h (fun _ q => nomatch q) (fun _ _ _ q => nomatch q)) (ok.nbusy h fun _ q => nomatch q)).1 (hd.imp id fun ⟨dd, h1, h2⟩ => ⟨dd, h1, (e.keep _ _ h2 (ok.nlive h2 (fun _ q => nomatch q) (fun _ _ _ q => nomatch q)) (ok.nbusy h2 fun _ q => nomatch q)).1⟩) hl (Reps.exw e ok r)
  | _, _, .cls C => .cls C
  | _, _, .dic h => .dic (e.keep _ _ h (ok.nlive h (fun _ q => nomatch q) (fun _ _ _ q => nomatch q)) (ok.nbusy h fun _ q => nomatch q)).1
  | _, _, .loc (n := n) h => by
    rw [← e.rho n h]
    exact .loc (Nat.lt_of_lt_of_le h e.len)
theorem Reps.exw (e : Exw W W') (ok : Ok K W) : ∀ {ds : List D} {vs : List V}, Reps K W ds vs → Reps K W' ds vs
  | _, _, .nil => .nil
  | _, _, .cons h r => .cons (Rep.exw e ok h) (Reps.exw e ok r)
end
theorem Rep.ext (e : Ext W W') (ok : Ok K W) {d : D} {v : V} (h : Rep K W d v) : Rep K W' d v := Rep.exw e.w.v ok h
theorem Reps.ext (e : Ext W W') (ok : Ok K W) {ds : List D} {vs : List V} (h : Reps K W ds vs) : Reps K W' ds vs := Reps.exw e.w.v ok h
/-- a tuple like any other -/
def nt : D → D
  | .tpn xs => .tup xs
  | d => d
theorem Rep.nt {d : D} {v : V} (r : Rep K W d v) : Rep K W (HL.nt d) v := by
  cases r with
  | tpn h q =>
    obtain ⟨o, h, _⟩ := h
    exact .tup (.inl (.inr ⟨o, h⟩)) q
  | non => exact .non
  | bl b => exact .bl b
  | int i => exact .int i
  | str x => exact .str x
  | tup h q => exact .tup h q
  | lst h q => exact .lst h q
  | scr h q => exact .scr h q
  | iset h n => exact .iset h n
  | ins h n hl q => exact .ins h n hl q
  | err h hd hl q => exact .err h hd hl q
  | cls C => exact .cls C
  | dic h => exact .dic h
  | loc h => exact .loc h
theorem Reps.length : ∀ {ds : List D} {vs : List V}, Reps K W ds vs → ds.length = vs.length
  | _, _, .nil => rfl
  | _, _, .cons _ r => by rw [List.length_cons, List.length_cons, Reps.length r]
theorem Reps.get : ∀ {ds : List D} {vs : List V} {i : Nat} {d : D}, Reps K W ds vs → ds[i]? = some d → ∃ v, vs[i]? = some v ∧ Rep K W d v
  | _, _, _, _, .nil, h => by simp at h
  | _, _, 0, _, .cons h _, e => by simp at e; subst e; exact ⟨_, rfl, h⟩
  | _, _, i + 1, _, .cons _ r, e => by
    obtain ⟨v, h1, h2⟩ := Reps.get (i := i) r (by simpa using e)
    exact ⟨v, by simpa using h1, h2⟩
theorem Reps.got : ∀ {ds : List D} {vs : List V} {i : Nat} {v : V}, Reps K W ds vs → vs[i]? = some v → ∃ d, ds[i]? = some d ∧ Rep K W d v
  | _, _, _, _, .nil, h => by simp at h
  | _, _, 0, _, .cons h _, e => by simp at e; subst e; exact ⟨_, rfl, h⟩
  | _, _, i + 1, _, .cons _ r, e => by
    obtain ⟨v, h1, h2⟩ := Reps.got (i := i) r (by simpa using e)
    exact ⟨v, by simpa using h1, h2⟩
theorem Reps.append : ∀ {ds es : List D} {vs ws : List V}, Reps K W ds vs → Reps K W es ws → Reps K W (ds ++ es) (vs ++ ws)
  | _, _, _, _, .nil, s => s
  | _, _, _, _, .cons h r, s => .cons h (Reps.append r s)
theorem Reps.set {d : D} {v : V} (h : Rep K W d v) : ∀ {ds : List D} {vs : List V} (i : Nat), Reps K W ds vs → Reps K W (ds.set i d) (vs.set i v)
  | _, _, _, .nil => .nil
  | _, _, 0, .cons _ r => .cons h r
  | _, _, i + 1, .cons q r => .cons q (Reps.set h i r)
theorem Reps.take : ∀ {ds : List D} {vs : List V} (n : Nat), Reps K W ds vs → Reps K W (ds.take n) (vs.take n)
  | _, _, 0, _ => .nil
  | _, _, _ + 1, .nil => .nil
  | _, _, n + 1, .cons h r => .cons h (Reps.take n r)
theorem Reps.drop : ∀ {ds : List D} {vs : List V} (n : Nat), Reps K W ds vs → Reps K W (ds.drop n) (vs.drop n)
  | _, _, 0, r => r
  | _, _, _ + 1, .nil => .nil
  | _, _, n + 1, .cons _ r => Reps.drop n r

/-- the heap grew -/
theorem Ext.same {ρ : Nat → Addr} {S : Store} {H H' : Hp} {B : Addr → Prop} (s : Same H H') : Ext ⟨ρ, S, H, B⟩ ⟨ρ, S, H', B⟩ :=
  ⟨rfl, Nat.le_refl _, fun _ _ => rfl, fun a u h n => ⟨s a u h, n⟩⟩
theorem Ok.same {ρ : Nat → Addr} {S : Store} {H H' : Hp} {B : Addr → Prop} (ok : Ok K ⟨ρ, S, H, B⟩) (s : Same H H') : Ok K ⟨ρ, S, H', B⟩ := by
  refine ⟨fun a b => let ⟨xs, e⟩ := ok.bl a b; ⟨xs, s a _ e⟩, ok.nb, ok.inj, fun i o h => ?_⟩
  have r := ok.obj i o h
  cases o with
  | lst xs =>
    obtain ⟨vs, e, q⟩ := r
    exact ⟨vs, s _ _ e, Reps.ext (Ext.same s) ok q⟩
  | ins C ks xs =>
    obtain ⟨dx, vs, e, hl, q⟩ := r
    exact ⟨dx, vs, s _ _ e, hl, Reps.ext (Ext.same s) ok q⟩
  | tab x => exact ⟨r.1, r.2.ext s⟩
  | dct hs kvs =>
    obtain ⟨xs, e, hk, q1, q2⟩ := r
    exact ⟨xs, s _ _ e, hk, Reps.ext (Ext.same s) ok q1, Reps.ext (Ext.same s) ok q2⟩
theorem tabS_upd {H : Hp} {D P : Addr} {u : HO} {q : Str} (n : P ≠ D) (n2 : ∀ c, H D ≠ some (LamX.CodeO c q)) (t : LamX.TabS H P q) : LamX.TabS (upd H D u) P q := by
  obtain ⟨ps, h1, h2, h3⟩ := t
  refine ⟨ps, (upd_ne n).trans h1, h2, fun pos cv hc => ?_⟩
  obtain ⟨c, e1, e2⟩ := h3 pos cv hc
  exact ⟨c, e1, (upd_ne fun z => n2 _ (by rw [← z]; exact e2)).trans e2⟩
theorem Same.upd {H : Hp} {p : Addr} {o : HO} (n : H p = none) : Same H (upd H p o) := fun b u e => by
  rw [upd_ne (ne_of_none e n)]
  exact e
end

/-! ### what is wanted behind a function's answer -/
def RepX (K : Frag) (W : Wd) (e : Exc) (cls : Value) (d : Option Addr) : Prop :=
  cls = .ref (He.ga K e.cls) ∧ ((e.ks = [] ∧ e.vs = [] ∧ d = none) ∨ ∃ dd vs, d = some dd ∧ W.H dd = some (.xd (e.ks.zip vs)) ∧ e.ks.length = vs.length ∧ Reps K W e.vs vs)
def Post {α : Type} (K : Frag) (Wx : WX) (σ : St) (W : Wd) (r : R α) (k : Wd → α → Prop) : Prop := match r with
  | .ok a S => ∀ ρ H, Ext W ⟨ρ, S, H, W.B⟩ → Ok K ⟨ρ, S, H, W.B⟩ → k ⟨ρ, S, H, W.B⟩ a
  | .exc e S => ∀ ρ H cls d, Ext W ⟨ρ, S, H, W.B⟩ → Ok K ⟨ρ, S, H, W.B⟩ → RepX K ⟨ρ, S, H, W.B⟩ e cls d → Wx cls d σ H
  | .bad => False
section
variable {α β : Type} {K : Frag} {Wx : WX} {σ : St} {W W' : Wd} {r : R α} {k k' : Wd → α → Prop}
theorem Post.mono (h : Post K Wx σ W r k) (i : ∀ W' a, Ext W W' → Ok K W' → k W' a → k' W' a) : Post K Wx σ W r k' := by
  cases r with
  | ok a S => exact fun ρ H e o => i _ _ e o (h ρ H e o)
  | exc e S => exact h
  | bad => exact h
theorem Post.weak (h : Post K Wx σ W r k) (e : Ext W W') : Post K Wx σ W' r k := by
  cases r with
  | ok a S =>
    intro ρ H e' o
    have q := e.B
    rw [q] at e' o ⊢
    exact h ρ H (e.trans e') o
  | exc x S =>
    intro ρ H cls d e' o
    have q := e.B
    rw [q] at e' o ⊢
    exact h ρ H cls d (e.trans e') o
  | bad => exact h
theorem Post.bind {f : α → Store → R β} {k : Wd → β → Prop} (h : Post K Wx σ W (r.bind f) k) : Post K Wx σ W r fun W' a => Ext W W' ∧ Ok K W' ∧ Post K Wx σ W' (f a W'.S) k := by
  cases r with
  | ok a S => exact fun ρ H e o => ⟨e, o, Post.weak (r := f a S) h e⟩
  | exc x S => exact h
  | bad => exact h
theorem Post.ok_of (o : Ok K W) {a : α} (h : Post K Wx σ W (.ok a W.S) k) : k W a := h W.ρ W.H (Ext.refl W) o
end

/-! ### slots -/
structure Sl (K : Frag) (W : Wd) (σ : St) (l : L) : Prop where
  len : l.length = σ.length
  get : ∀ (i : Nat) (d : D), l[i]? = some (some d) → ∃ v, σ[i]? = some (some v) ∧ Rep K W d v
section
variable {K : Frag} {W W' : Wd} {σ : St} {l : L}
theorem Sl.ext (s : Sl K W σ l) (e : Ext W W') (ok : Ok K W) : Sl K W' σ l := ⟨s.len, fun i d h => let ⟨v, a, b⟩ := s.get i d h; ⟨v, a, b.ext e ok⟩⟩
theorem Sl.exw (s : Sl K W σ l) (e : Exw W W') (ok : Ok K W) : Sl K W' σ l := ⟨s.len, fun i d h => let ⟨v, a, b⟩ := s.get i d h; ⟨v, a, b.exw e ok⟩⟩
theorem Sl.set (s : Sl K W σ l) {d : D} {v : V} (r : Rep K W d v) (i : Nat) : Sl K W (σ.set i (some v)) (l.set i (some d)) := by
  refine ⟨by rw [List.length_set, List.length_set]; exact s.len, fun j d' h => ?_⟩
  by_cases e : i = j
  · subst e
    by_cases hi : i < l.length
    · rw [List.getElem?_set_self hi] at h
      cases h
      exact ⟨v, by rw [List.getElem?_set_self (by rw [← s.len]; exact hi)], r⟩
    · rw [List.getElem?_eq_none (by rw [List.length_set]; omega)] at h
      cases h
  · rw [List.getElem?_set_ne e] at h
    obtain ⟨w, a, b⟩ := s.get j d' h
    exact ⟨w, by rw [List.getElem?_set_ne e]; exact a, b⟩
end

/-! ### readings -/
section
variable (K : Frag) (Wx : WX)
def tE (f : L → Store → R D) : TE := fun σ H Q => ∃ ρ S B l, Ok K ⟨ρ, S, H, B⟩ ∧ Sl K ⟨ρ, S, H, B⟩ σ l ∧ Post K Wx σ ⟨ρ, S, H, B⟩ (f l S) fun W d => ∀ v, Rep K W d v → Q v W.H
def tT (f : L → Store → R Bool) : TT := fun σ H Q => ∃ ρ S B l, Ok K ⟨ρ, S, H, B⟩ ∧ Sl K ⟨ρ, S, H, B⟩ σ l ∧ Post K Wx σ ⟨ρ, S, H, B⟩ (f l S) fun W b => Q b W.H
def tL (f : L → Store → R (List D)) : TA := fun σ H Q => ∃ ρ S B l, Ok K ⟨ρ, S, H, B⟩ ∧ Sl K ⟨ρ, S, H, B⟩ σ l ∧ Post K Wx σ ⟨ρ, S, H, B⟩ (f l S) fun W ds => ∀ vs, Reps K W ds vs → Q vs W.H
end
theorem _root_.L2.PE.imp {X : Cx} {e : Expr} {t t' : TE} (h : PE X e t) (i : ∀ σ H Q, t' σ H Q → t σ H Q) : PE X e t' := ⟨fun p s σ H Q I q => h.run p s σ H Q I (i σ H Q q)⟩
theorem _root_.L2.PT.imp {X : Cx} {e : Expr} {t t' : TT} (h : PT X e t) (i : ∀ σ H Q, t' σ H Q → t σ H Q) : PT X e t' := ⟨fun p s σ H Q I q => h.run p s σ H Q I (i σ H Q q)⟩
theorem _root_.L2.PA.imp {X : Cx} {e : List Expr} {t t' : TA} (h : PA X e t) (i : ∀ σ H Q, t' σ H Q → t σ H Q) : PA X e t' := ⟨fun p q s σ H Q I z => h.run p q s σ H Q I (i σ H Q z)⟩
theorem _root_.L2.PS.imp {X : Cx} {e : Stmt} {t t' : TS} (h : PS X e t) (i : ∀ D σ H, t' D σ H → t D σ H) : PS X e t' := ⟨fun p s σ H D I q => h.run p s σ H D I (i D σ H q)⟩
theorem _root_.L2.PSs.imp {X : Cx} {e : List Stmt} {t t' : TS} (h : PSs X e t) (i : ∀ D σ H, t' D σ H → t D σ H) : PSs X e t' := ⟨fun p s σ H D I q => h.run p s σ H D I (i D σ H q)⟩

abbrev FE (X : Cx) (Wx : WX) (e : Expr) (f : L → Store → R D) : Prop := PE X e (tE X.K Wx f)
abbrev FT (X : Cx) (Wx : WX) (e : Expr) (f : L → Store → R Bool) : Prop := PT X e (tT X.K Wx f)
abbrev FA (X : Cx) (Wx : WX) (e : List Expr) (f : L → Store → R (List D)) : Prop := PA X e (tL X.K Wx f)

/-! ### names, constants, displays -/
def eLoc (i : Nat) : L → Store → R D := fun l S => match l[i]? with
  | some (some d) => .ok d S
  | _ => .bad
def eCon (d : D) : L → Store → R D := fun _ S => .ok d S
section
variable {X : Cx} {Wx : WX} {pos : Pos}
theorem fe_loc (i : Nat) {x : Str} (hN : X.N[i]? = some x := by rfl) (hv : Vis X.env.scope x := by first | exact Or.inl rfl | exact Or.inr (Or.inl rfl) | exact Or.inr (Or.inr rfl)) (hd : (x == ("__debug__" : Str)) = false := by decide)
    (hcd : (x == ("__classdict__" : Str)) = false := by decide) : FE X Wx (.Name x pos) (eLoc i) := by
  refine (pe_var hN hv hd hcd).imp fun σ H Q ⟨ρ, S, B, l, ok, sl, h⟩ => ?_
  unfold eLoc at h
  cases e : l[i]? with
  | none => rw [e] at h; exact h.elim
  | some o =>
    cases o with
    | none => rw [e] at h; exact h.elim
    | some d =>
      rw [e] at h
      obtain ⟨v, a, b⟩ := sl.get i d e
      exact ⟨v, a, Post.ok_of (W := ⟨ρ, S, H, B⟩) ok h v b⟩
theorem fe_of {e : Expr} {v : V} {d : D} (h : PE X e (tC v)) (r : ∀ W, Rep X.K W d v) : FE X Wx e (eCon d) :=
  h.imp fun σ H Q ⟨ρ, S, B, l, ok, sl, h⟩ => Post.ok_of (W := ⟨ρ, S, H, B⟩) ok h v (r _)
theorem fe_int {i j} : FE X Wx (.Constant (.int i) j pos) (eCon (.int i)) := fe_of pe_int fun _ => .int i
theorem fe_bl {b j} : FE X Wx (.Constant (.bool b) j pos) (eCon (.bl b)) := fe_of pe_bl fun _ => .bl b
theorem fe_non {j} : FE X Wx (.Constant .none j pos) (eCon .non) := fe_of pe_non fun _ => .non
theorem fe_str {x j} : FE X Wx (.Constant (.str x) j pos) (eCon (.str x)) := fe_of pe_str fun _ => .str x

def aNil : L → Store → R (List D) := fun _ S => .ok [] S
def aCons (f : L → Store → R D) (g : L → Store → R (List D)) : L → Store → R (List D) := fun l S => (f l S).bind fun d S1 => (g l S1).bind fun ds S2 => .ok (d :: ds) S2
theorem fa_nil : FA X Wx [] aNil := pa_nil.imp fun σ H Q ⟨ρ, S, B, l, ok, sl, h⟩ => Post.ok_of (W := ⟨ρ, S, H, B⟩) ok h [] .nil
theorem fa_cons {e : Expr} {es : List Expr} {f : L → Store → R D} {g : L → Store → R (List D)} (ha : FE X Wx e f) (hr : FA X Wx es g) (hs : starEach (e :: es) X.env = (false, eval e X.env) :: starEach es X.env := by rfl) : FA X Wx (e :: es) (aCons f g) :=
  (pa_cons ha hr hs).imp fun σ H Q ⟨ρ, S, B, l, ok, sl, h⟩ =>
    ⟨ρ, S, B, l, ok, sl, h.bind.mono fun W1 d e1 o1 ⟨_, _, h1⟩ v rv => ⟨W1.ρ, W1.S, W1.B, l, o1, sl.ext e1 ok, h1.bind.mono fun W2 ds e2 o2 ⟨_, _, h2⟩ vs rvs =>
      Post.ok_of o2 h2 (v :: vs) (.cons (rv.ext e2 o1) rvs)⟩⟩
def eTup (g : L → Store → R (List D)) : L → Store → R D := fun l S => (g l S).bind fun ds S1 => if ds.length ≤ sizeLine then .ok (.tup ds) S1 else .bad
def eLst (g : L → Store → R (List D)) : L → Store → R D := fun l S => (g l S).bind fun ds S1 => if ds.length ≤ sizeLine then .ok (.lst ds) S1 else .bad
/-- a new list that may change -/
def eNew (g : L → Store → R (List D)) : L → Store → R D := fun l S => (g l S).bind fun ds S1 => if ds.length ≤ sizeLine then .ok (.loc S1.length) (S1 ++ [.lst ds]) else .bad

theorem Post.iff_ok {α : Type} {K : Frag} {σ : St} {W : Wd} {c : Prop} [Decidable c] {r : R α} {k : Wd → α → Prop} (h : Post K Wx σ W (if c then r else .bad) k) : c ∧ Post K Wx σ W r k := by
  by_cases hc : c
  · rw [if_pos hc] at h
    exact ⟨hc, h⟩
  · rw [if_neg hc] at h
    exact h.elim
/-- a value at a new address, by value -/
theorem Post.new {K : Frag} {σ : St} {W : Wd} {d : D} {Q : VK} {p : Addr} {o : HO} (ok : Ok K W) (hp : W.H p = none) (h : Post K Wx σ W (.ok d W.S) fun W d => ∀ v, Rep K W d v → Q v W.H)
    (r : ∀ W' : Wd, W'.H = upd W.H p o → ¬ Live W' p → ¬ W'.B p → Ext W W' → Rep K W' d (.ref p)) : Q (.ref p) (upd W.H p o) := by
  have s : Same W.H (upd W.H p o) := Same.upd hp
  refine h W.ρ (upd W.H p o) (Ext.same s) (ok.same s) _ (r ⟨W.ρ, W.S, upd W.H p o, W.B⟩ rfl ?_ ?_ (Ext.same s))
  · exact fun l => ok.nlive0 hp l
  · exact fun l => ok.busy p l hp
theorem fe_tup {es : List Expr} {g : L → Store → R (List D)} {x1} (h : FA X Wx es g) : FE X Wx (.Tuple es x1 pos) (eTup g) :=
  (pe_tup h).imp fun σ H Q ⟨ρ, S, B, l, ok, sl, h⟩ => ⟨ρ, S, B, l, ok, sl, h.bind.mono fun W1 ds e1 o1 ⟨_, _, h1⟩ vs rvs => by
    obtain ⟨hc, h1⟩ := Post.iff_ok h1
    exact ⟨by rw [← rvs.length]; exact hc, fun p hp => Post.new o1 hp h1 fun W' e n nb x => .tup (.inl (.inl (by rw [e]; exact upd_same))) (rvs.ext x o1)⟩⟩
theorem fe_lst {es : List Expr} {g : L → Store → R (List D)} (h : FA X Wx es g) : FE X Wx (.List es pos) (eLst g) :=
  (pe_lst h).imp fun σ H Q ⟨ρ, S, B, l, ok, sl, h⟩ => ⟨ρ, S, B, l, ok, sl, h.bind.mono fun W1 ds e1 o1 ⟨_, _, h1⟩ vs rvs => by
    obtain ⟨hc, h1⟩ := Post.iff_ok h1
    exact ⟨by rw [← rvs.length]; exact hc, fun p hp => Post.new o1 hp h1 fun W' e n nb x => .lst ⟨by rw [e]; exact upd_same, n, nb⟩ (rvs.ext x o1)⟩⟩
end

/-! ### a new object in the store -/
theorem alloc_ok {K : Frag} {W : Wd} {p : Addr} {u : HO} {o : Ob} (ok : Ok K W) (hp : W.H p = none) (r : ∀ W' : Wd, W'.H p = some u → Ext W W' → RepO K W' o p) :
    Ext W ⟨fun i => if i = W.S.length then p else W.ρ i, W.S ++ [o], upd W.H p u, W.B⟩ ∧ Ok K ⟨fun i => if i = W.S.length then p else W.ρ i, W.S ++ [o], upd W.H p u, W.B⟩ := by
  have ne : ∀ i, i < W.S.length → W.ρ i ≠ p := fun i hi q => ok.nlive0 hp ⟨i, hi, q⟩
  have e : Ext W ⟨fun i => if i = W.S.length then p else W.ρ i, W.S ++ [o], upd W.H p u, W.B⟩ := by
    refine ⟨rfl, by simp, fun i hi => if_neg (Nat.ne_of_lt hi), fun a w h n => ⟨Same.upd hp _ _ h, ?_⟩⟩
    rintro ⟨i, hi, q⟩
    by_cases z : i = W.S.length
    · have q' : p = a := by simpa [z] using q
      rw [← q', hp] at h
      cases h
    · have q' : W.ρ i = a := by simpa [z] using q
      have hi' : i < W.S.length + 1 := by simpa using hi
      exact n ⟨i, by omega, q'⟩
  refine ⟨e, fun a b => let ⟨xs, e⟩ := ok.bl a b; ⟨xs, Same.upd hp _ _ e⟩, fun a b ⟨i, hi, q⟩ => ?_, fun i j hi hj q => ?_, fun i o' h => ?_⟩
  · by_cases z : i = W.S.length
    · have q' : p = a := by simpa [z] using q
      rw [← q'] at b
      exact ok.busy p b hp
    · have q' : W.ρ i = a := by simpa [z] using q
      have hi' : i < W.S.length + 1 := by simpa using hi
      exact ok.nb a b ⟨i, by omega, q'⟩
  · have hi : i < W.S.length + 1 := by simpa using hi
    have hj : j < W.S.length + 1 := by simpa using hj
    by_cases zi : i = W.S.length
    · by_cases zj : j = W.S.length
      · omega
      · have q' : p = W.ρ j := by simpa [zi, zj] using q
        exact absurd q'.symm (ne j (by omega))
    · by_cases zj : j = W.S.length
      · have q' : W.ρ i = p := by simpa [zi, zj] using q
        exact absurd q' (ne i (by omega))
      · have q' : W.ρ i = W.ρ j := by simpa [zi, zj] using q
        exact ok.inj i j (by omega) (by omega) q'
  · by_cases z : i = W.S.length
    · subst z
      have h' : o = o' := by simpa using h
      subst h'
      show RepO K _ o (if W.S.length = W.S.length then p else _)
      rw [if_pos rfl]
      exact r _ upd_same e
    · have hi : i < W.S.length + 1 := by
        have := (List.getElem?_eq_some_iff.mp h).1
        simpa using this
      have h' : W.S[i]? = some o' := by
        rw [List.getElem?_append_left (by omega)] at h
        exact h
      show RepO K _ o' (if i = W.S.length then p else W.ρ i)
      rw [if_neg z]
      have q := ok.obj i o' h'
      have neq : W.ρ i ≠ p := ne i (by omega)
      cases o' with
      | lst xs =>
        obtain ⟨vs, e1, q1⟩ := q
        exact ⟨vs, (upd_ne neq).trans e1, Reps.ext e ok q1⟩
      | ins C ks xs =>
        obtain ⟨dx, vs, e1, hl, q1⟩ := q
        exact ⟨dx, vs, (upd_ne neq).trans e1, hl, Reps.ext e ok q1⟩
      | tab x => exact ⟨q.1, q.2.ext (Same.upd hp)⟩
      | dct hs kvs =>
        obtain ⟨xs, e1, hk, q1, q2⟩ := q
        exact ⟨xs, (upd_ne neq).trans e1, hk, Reps.ext e ok q1, Reps.ext e ok q2⟩
theorem fe_new {X : Cx} {Wx : WX} {pos : Pos} {es : List Expr} {g : L → Store → R (List D)} (h : FA X Wx es g) : FE X Wx (.List es pos) (eNew g) :=
  (pe_lst h).imp fun σ H Q ⟨ρ, S, B, l, ok, sl, h⟩ => ⟨ρ, S, B, l, ok, sl, h.bind.mono fun W1 ds e1 o1 ⟨_, _, h1⟩ vs rvs => by
    obtain ⟨hc, h1⟩ := Post.iff_ok h1
    refine ⟨by rw [← rvs.length]; exact hc, fun p hp => ?_⟩
    obtain ⟨x, o2⟩ := alloc_ok (p := p) (u := .lst vs) (o := .lst ds) o1 hp fun W' e x => ⟨vs, e, rvs.ext x o1⟩
    refine h1 _ _ x o2 _ ?_
    have q : Rep X.K _ (.loc W1.S.length) (.ref ((⟨fun i => if i = W1.S.length then p else W1.ρ i, W1.S ++ [.lst ds], upd W1.H p (.lst vs), W1.B⟩ : Wd).ρ W1.S.length)) := Rep.loc (K := X.K) (W := ⟨fun i => if i = W1.S.length then p else W1.ρ i, W1.S ++ [.lst ds], upd W1.H p (.lst vs), W1.B⟩) (n := W1.S.length) (by simp)
    simpa using q⟩
end HL
end
section
set_option Elab.async false
set_option linter.all false
set_option maxRecDepth 100000
set_option maxHeartbeats 1000000
namespace HL
open PySem PySem.Spec L2

/-! ### room, with no guard about -/
structure RoomG (k : Nat) (A : Around) : Prop where
  r : Room k A
  g : A.guards = some []
theorem RoomG.mono {j k : Nat} {A : Around} (h : RoomG k A) (le : j ≤ k) : RoomG j A := ⟨h.r.mono le, h.g⟩
theorem RoomG.deeper {k : Nat} {A : Around} (h : RoomG (k + 1) A) (env : Env) : RoomG k (A.deeper env) := ⟨h.r.deeper env, h.g⟩
theorem RoomG.in1 {k : Nat} {A : Around} (h : RoomG (k + 1) A) : RoomG k A.in1 := ⟨h.r.in1, h.g⟩
theorem RoomG.make {k : Nat} {A : Around} (h : RoomG (k + 1) A) (C : Addr) (us : List Value) (kw : List (Str × Value)) : RoomG k (A.under (.builtin "type.__call__" ⟨.ref C :: us, kw⟩)) := by
  refine ⟨h.r.make C us kw, ?_⟩
  have e : (Code.builtin "type.__call__" ⟨.ref C :: us, kw⟩).guards = [] := by
    unfold Code.guards
    rw [if_neg]
    show ¬ guardIds.contains "type.__call__" = true
    decide
  show pushGuards (Code.builtin "type.__call__" ⟨.ref C :: us, kw⟩).guards A.guards = some []
  rw [e]
  exact h.g

/-- the def at f keeps the promise sp where no repr is under way -/
structure FnG (P : Program) (w : World) (K : Frag) (mg : Str → Option Value) (base : Heap) (k : Nat) (f : Addr) (fd : FuncData) (ps : List Str) (sp : Sp) : Prop where
  len : ∀ vs H Q E, sp vs H Q E → vs.length = ps.length
  go : ∀ (A : Around) (outer : List Env) (s : Shared) (H : Hp) (args : Args) (us : List Value) (vs : List V) (Q : VK) (E : XK),
    RoomG k A → Env0 P w K mg base A outer s H → BindsTo s fd args (ps.zip us) → Vals vs us → sp vs H Q E → codeAny (model P w) A (.call (.ref f) args) (CR (L2.CX P w) outer P w H s Q E) s
theorem FnG.mono {P : Program} {w : World} {K : Frag} {mg : Str → Option Value} {base : Heap} {j k : Nat} {f : Addr} {fd : FuncData} {ps : List Str} {sp : Sp} (F : FnG P w K mg base j f fd ps sp) (h : j ≤ k) : FnG P w K mg base k f fd ps sp :=
  ⟨F.len, fun A outer s H args us vs Q E hr => F.go A outer s H args us vs Q E (hr.mono h)⟩
theorem FnG.imp {P : Program} {w : World} {K : Frag} {mg : Str → Option Value} {base : Heap} {k : Nat} {f : Addr} {fd : FuncData} {ps : List Str} {sp sp' : Sp} (F : FnG P w K mg base k f fd ps sp)
    (h : ∀ vs H Q E, sp' vs H Q E → sp vs H Q E) : FnG P w K mg base k f fd ps sp' :=
  ⟨fun vs H Q E q => F.len vs H Q E (h _ _ _ _ q), fun A outer s H args us vs Q E hr he hb hv hs => F.go A outer s H args us vs Q E hr he hb hv (h _ _ _ _ hs)⟩

section
variable {X : Cx} {k : Nat} {f C : Addr} {fd : FuncData} {ps : List Str} {sp : Sp} {E : XK} {pins : List (Addr × Obj)} {σ : L2.St} {H : Hp} {s : Shared} {Q : VK}
/-- how arguments come to the parameters: positional us, named ws (names ks); g puts them in order -/
structure Bd (K : Frag) (fd : FuncData) (ps ks : List Str) (g : {α : Type} → List α → List α → List α) : Prop where
  to : ∀ (s : Shared) (us ws : List Value), K.In s.heap → (g us ws).length = ps.length → BindsTo s fd ⟨us, ks.zip ws⟩ (ps.zip (g us ws))
  rel : ∀ {vs : List V} {us : List Value} {zs : List V} {ws : List Value}, Vals vs us → Vals zs ws → Vals (g vs zs) (g us ws)
theorem out_g {r : Result} {s' : Shared} (hx : PassesAt (L2.CX X.prog X.w) X σ E) (I : Inv X pins σ H s) (hq : CR (L2.CX X.prog X.w) X.stack X.prog X.w H s Q E r s') : match r with
    | .ok (.ret u) => EP X pins σ Q u s'
    | .ok _ => False
    | .error e => X.xe e s' := by
  cases r with
  | error e => exact hx pins H s e s' I hq
  | ok fl => cases fl with
    | ret u => exact I.after hq
    | next => exact hq
    | brk => exact hq
    | cont => exact hq
theorem run_g {us : List Value} {vs : List V} {ks : List Str} {ws : List Value} {zs : List V} {g : {α : Type} → List α → List α → List α} (F : FnG X.prog X.w X.K X.mg X.base k f fd ps sp) (hr : RoomG k X.A) (hb : Bd X.K fd ps ks g) (hx : PassesAt (L2.CX X.prog X.w) X σ E)
    (I : Inv X pins σ H s) (r : Vals vs us) (rz : Vals zs ws) (h : sp (g vs zs) H Q E) : wpAny (model X.prog X.w) X.A (call (.ref f) us (ks.zip ws)) (EP X pins σ Q) X.xe s := by
  have r2 := hb.rel r rz
  have hl : (g us ws).length = ps.length := by rw [← r2.length]; exact F.len _ _ _ _ h
  refine wpAny_call (codeAny_mono (F.go X.A X.stack s H _ _ _ Q E hr I.env0 (hb.to s us ws I.kIn hl) r2 h) fun r s' hq => ?_)
  have z := out_g hx I hq
  cases r with
  | error e => exact z
  | ok fl => cases fl with
    | ret u => exact z
    | next => exact z.elim
    | brk => exact z.elim
    | cont => exact z.elim
/-- g(..) of positional arguments alone -/
abbrev gPos {α : Type} (us : List α) (_ : List α) : List α := us
theorem run_g0 {us : List Value} {vs : List V} (F : FnG X.prog X.w X.K X.mg X.base k f fd ps sp) (hr : RoomG k X.A) (hb : Bd X.K fd ps [] gPos) (hx : PassesAt (L2.CX X.prog X.w) X σ E)
    (I : Inv X pins σ H s) (r : Vals vs us) (h : sp vs H Q E) : wpAny (model X.prog X.w) X.A (call (.ref f) us) (EP X pins σ Q) X.xe s :=
  run_g (ks := []) (ws := []) (zs := []) (g := gPos) F hr hb hx I r .nil h
end
theorem Bd.pos {K : Frag} {fd : FuncData} {ps : List Str} (h : ∀ us : List Value, us.length = ps.length → bindArgs fd ⟨us, []⟩ = pure (ps.zip us)) : Bd K fd ps [] gPos :=
  ⟨fun s us ws _ hl => .of_eq (h us hl), fun r _ => r⟩

/-! ### the promise of a function over data -/
def spOf (K : Frag) (n : Nat) (g : List D → Store → R D) : Sp := fun vs H Q E => ∃ ρ S B ds, Ok K ⟨ρ, S, H, B⟩ ∧ Reps K ⟨ρ, S, H, B⟩ ds vs ∧ ds.length = n ∧ Post K (fun c d _ H => E c d H) [] ⟨ρ, S, H, B⟩ (g ds S) fun W d => ∀ v, Rep K W d v → Q v W.H
theorem spOf.len {K : Frag} {n : Nat} {g : List D → Store → R D} {ps : List Str} (hp : ps.length = n) : ∀ vs H Q E, spOf K n g vs H Q E → vs.length = ps.length := fun vs H Q E ⟨ρ, S, B, ds, _, r, hl, _⟩ => by rw [hp, ← hl, r.length]
theorem Post.at {α : Type} {K : Frag} {Wx : WX} {σ : L2.St} {W : Wd} {r : R α} {k : Wd → α → Prop} (h : Post K Wx σ W r k) : Post K (fun c d _ H => Wx c d σ H) [] W r k := by
  cases r with
  | ok a S => exact h
  | exc e S => exact h
  | bad => exact h
def eCall (g : List D → Store → R D) (fa : L → Store → R (List D)) : L → Store → R D := fun l S => (fa l S).bind fun ds S1 => if ds.length = 0 then .bad else g ds S1
def eCalln (n : Nat) (g : List D → Store → R D) (fa : L → Store → R (List D)) : L → Store → R D := fun l S => (fa l S).bind fun ds S1 => if ds.length = n then g ds S1 else .bad
section
variable {X : Cx} {Wx : WX} {k n : Nat} {f C : Addr} {fd : FuncData} {ps : List Str} {g : List D → Store → R D} {x m : Str} {p pos apos : Pos} {e o : Expr} {es : List Expr} {fa : L → Store → R (List D)}
/-- the callee's promise, where arguments stand for data -/
theorem call_sp {K : Frag} {W : Wd} {σ : L2.St} {ds : List D} {vs : List V} {Q : VK} (ok : Ok K W) (r : Reps K W ds vs) (h : Post K Wx σ W (if ds.length = n then g ds W.S else .bad) fun W d => ∀ v, Rep K W d v → Q v W.H) : spOf K n g vs W.H Q (WE Wx σ) := by
  obtain ⟨hc, h⟩ := Post.iff_ok h
  exact ⟨W.ρ, W.S, W.B, ds, ok, r, hc, h.at⟩
theorem fe_call (F : FnG X.prog X.w X.K X.mg X.base k f fd ps (spOf X.K n g)) (hr : RoomG k X.A) (tk : Takes X Wx) (hm : X.mg x = some (.ref f)) (hk : PySem.W.keepIn X.K (.ref f) = true) (hb : Bd X.K fd ps [] gPos) (hg : Gl X x)
    (ha : FA X Wx (e :: es) fa) (hdb : (x == ("__debug__" : Str)) = false := by decide) (he : starEach (e :: es) X.env = (false, eval e X.env) :: starEach es X.env := by rfl) (hpl : (backTo pos (starEach es X.env)).any (·.1) = false := by rfl) :
    FE X Wx (.Call (.Name x p) (e :: es) [] pos) (eCalln n g fa) := by
  refine ⟨fun pins s σ H Q I ⟨ρ, S, B, l, ok, sl, h⟩ => ?_⟩
  refine wpAny_Call_Name_kw (ld_glob I hg hm ?_ hdb)
  have ha' := ha.run pos pins s σ H (fun vs H1 => spOf X.K n g vs H1 Q (WE Wx σ)) I ⟨ρ, S, B, l, ok, sl, h.bind.mono fun W1 ds e1 o1 ⟨_, _, h1⟩ vs rvs => call_sp o1 rvs h1⟩
  refine PySem.W.callWith_K (h₀ := X.base) I.ok.mod.kin hk (thn ha' fun us s1 ⟨vs, H1, I1, r, q⟩ => ⟨I1.kIn, ?_⟩) he hpl
  exact run_g0 F hr hb (passAt tk σ) I1 r q
theorem fe_call0 (F : FnG X.prog X.w X.K X.mg X.base k f fd ps (spOf X.K n g)) (hr : RoomG k X.A) (tk : Takes X Wx) (hm : X.mg x = some (.ref f)) (hk : PySem.W.keepIn X.K (.ref f) = true) (hb : Bd X.K fd ps [] gPos) (hg : Gl X x)
    (hdb : (x == ("__debug__" : Str)) = false := by decide) : FE X Wx (.Call (.Name x p) [] [] pos) (eCalln n g aNil) := by
  refine ⟨fun pins s σ H Q I ⟨ρ, S, B, l, ok, sl, h⟩ => ?_⟩
  refine wpAny_Call_Name_kw (ld_glob I hg hm ?_ hdb)
  exact PySem.W.callWith_K0 I.kIn hk (run_g0 (us := []) (vs := []) F hr hb (passAt tk σ) I .nil (call_sp (W := ⟨ρ, S, H, B⟩) (ds := []) ok .nil h))
end

/-! ### statements -/
inductive Fl where
  | nx (l : L) (S : Store) | rt (d : D) (S : Store) | bk (l : L) (S : Store) | ct (l : L) (S : Store) | exc (e : Exc) (l : L) (S : Store) | bad
def PostS (K : Frag) (Wx : WX) (W : Wd) (r : Fl) (D : Ends) : Prop := match r with
  | .nx l S => ∀ ρ H σ, Ext W ⟨ρ, S, H, W.B⟩ → Ok K ⟨ρ, S, H, W.B⟩ → Sl K ⟨ρ, S, H, W.B⟩ σ l → D.nx σ H
  | .rt d S => ∀ ρ H v, Ext W ⟨ρ, S, H, W.B⟩ → Ok K ⟨ρ, S, H, W.B⟩ → Rep K ⟨ρ, S, H, W.B⟩ d v → D.rt v H
  | .bk l S => ∀ ρ H σ, Ext W ⟨ρ, S, H, W.B⟩ → Ok K ⟨ρ, S, H, W.B⟩ → Sl K ⟨ρ, S, H, W.B⟩ σ l → D.bk σ H
  | .ct l S => ∀ ρ H σ, Ext W ⟨ρ, S, H, W.B⟩ → Ok K ⟨ρ, S, H, W.B⟩ → Sl K ⟨ρ, S, H, W.B⟩ σ l → D.ct σ H
  | .exc e l S => ∀ ρ H σ cls d, Ext W ⟨ρ, S, H, W.B⟩ → Ok K ⟨ρ, S, H, W.B⟩ → Sl K ⟨ρ, S, H, W.B⟩ σ l → RepX K ⟨ρ, S, H, W.B⟩ e cls d → Wx cls d σ H
  | .bad => False
def R.toS {α : Type} (r : R α) (l : L) (k : α → Store → Fl) : Fl := match r with
  | .ok a S => k a S
  | .exc e S => .exc e l S
  | .bad => .bad
@[simp] theorem R.toS_ok {α : Type} (a : α) (S : Store) (l : L) (k : α → Store → Fl) : (R.ok a S).toS l k = k a S := rfl
@[simp] theorem R.toS_bad {α : Type} (l : L) (k : α → Store → Fl) : (R.bad : R α).toS l k = .bad := rfl
@[simp] theorem R.toS_exc {α : Type} (e : Exc) (S : Store) (l : L) (k : α → Store → Fl) : (R.exc e S : R α).toS l k = .exc e l S := rfl
section
variable {K : Frag} {Wx : WX} {W W' : Wd} {r : Fl} {E E' : Ends} {σ : L2.St} {l : L}
theorem PostS.weak (h : PostS K Wx W r E) (e : Ext W W') : PostS K Wx W' r E := by
  have q := e.B
  cases r with
  | nx l S =>
    intro ρ H σ e' o
    rw [q] at e' o ⊢
    exact h ρ H σ (e.trans e') o
  | rt d S =>
    intro ρ H v e' o
    rw [q] at e' o ⊢
    exact h ρ H v (e.trans e') o
  | bk l S =>
    intro ρ H σ e' o
    rw [q] at e' o ⊢
    exact h ρ H σ (e.trans e') o
  | ct l S =>
    intro ρ H σ e' o
    rw [q] at e' o ⊢
    exact h ρ H σ (e.trans e') o
  | exc x l S =>
    intro ρ H σ cls d e' o
    rw [q] at e' o ⊢
    exact h ρ H σ cls d (e.trans e') o
  | bad => exact h
theorem PostS.toS {α : Type} {r : R α} {k : α → Store → Fl} (sl : Sl K W σ l) (ok : Ok K W) (h : PostS K Wx W (r.toS l k) E) : Post K Wx σ W r fun W' a => Ext W W' ∧ Ok K W' ∧ PostS K Wx W' (k a W'.S) E := by
  cases r with
  | ok a S => exact fun ρ H e o => ⟨e, o, PostS.weak (r := k a S) h e⟩
  | exc x S => exact fun ρ H cls d e o rx => h ρ H σ cls d e o (sl.ext e ok) rx
  | bad => exact h
end
def tS (K : Frag) (Wx : WX) (f : L → Store → Fl) : TS := fun D σ H => ∃ ρ S B l, Ok K ⟨ρ, S, H, B⟩ ∧ Sl K ⟨ρ, S, H, B⟩ σ l ∧ PostS K Wx ⟨ρ, S, H, B⟩ (f l S) D
abbrev FS (X : Cx) (Wx : WX) (st : Stmt) (f : L → Store → Fl) : Prop := PS X st (tS X.K Wx f)
abbrev FB (X : Cx) (Wx : WX) (st : List Stmt) (f : L → Store → Fl) : Prop := PSs X st (tS X.K Wx f)
def Fl.andThen (r : Fl) (g : L → Store → Fl) : Fl := match r with
  | .nx l S => g l S
  | .rt d S => .rt d S
  | .bk l S => .bk l S
  | .ct l S => .ct l S
  | .exc e l S => .exc e l S
  | .bad => .bad
@[simp] theorem Fl.andThen_nx (l : L) (S : Store) (g : L → Store → Fl) : (Fl.nx l S).andThen g = g l S := rfl
@[simp] theorem Fl.andThen_rt (d : D) (S : Store) (g : L → Store → Fl) : (Fl.rt d S).andThen g = .rt d S := rfl
@[simp] theorem Fl.andThen_bk (l : L) (S : Store) (g : L → Store → Fl) : (Fl.bk l S).andThen g = .bk l S := rfl
@[simp] theorem Fl.andThen_ct (l : L) (S : Store) (g : L → Store → Fl) : (Fl.ct l S).andThen g = .ct l S := rfl
@[simp] theorem Fl.andThen_exc (e : Exc) (l : L) (S : Store) (g : L → Store → Fl) : (Fl.exc e l S).andThen g = .exc e l S := rfl
@[simp] theorem Fl.andThen_bad (g : L → Store → Fl) : Fl.bad.andThen g = .bad := rfl
def bSeq (f g : L → Store → Fl) : L → Store → Fl := fun l S => (f l S).andThen g
def bNil : L → Store → Fl := fun l S => .nx l S
def sRet (f : L → Store → R D) : L → Store → Fl := fun l S => (f l S).toS l fun d S1 => .rt d S1
def sRetN : L → Store → Fl := fun l S => .rt .non S
def sDrop (f : L → Store → R D) : L → Store → Fl := fun l S => (f l S).toS l fun _ S1 => .nx l S1
def sSet (i : Nat) (f : L → Store → R D) : L → Store → Fl := fun l S => (f l S).toS l fun d S1 => .nx (l.set i (some d)) S1
def sIf (c : L → Store → R Bool) (f g : L → Store → Fl) : L → Store → Fl := fun l S => (c l S).toS l fun b S1 => if b then f l S1 else g l S1
def sBad : L → Store → Fl := fun _ _ => .bad
def sBrk : L → Store → Fl := fun l S => .bk l S
def sCnt : L → Store → Fl := fun l S => .ct l S
section
variable {X : Cx} {Wx : WX} {st : Stmt} {rest : List Stmt} {f g : L → Store → Fl} {e : Expr} {fe : L → Store → R D} {pos : Pos}
theorem fb_nil : FB X Wx [] bNil := pss_nil.imp fun D σ H ⟨ρ, S, B, l, ok, sl, h⟩ => h ρ H σ (Ext.refl _) ok sl
theorem fb_cons (h1 : FS X Wx st f) (h2 : FB X Wx rest g) : FB X Wx (st :: rest) (bSeq f g) :=
  (pss_cons h1 h2).imp fun D σ H ⟨ρ, S, B, l, ok, sl, h⟩ => by
    refine ⟨ρ, S, B, l, ok, sl, ?_⟩
    unfold bSeq at h
    cases q : f l S with
    | nx l' S' =>
      rw [q] at h
      exact fun ρ' H' σ' e' o' s' => ⟨ρ', S', B, l', o', s', PostS.weak (r := g l' S') h e'⟩
    | rt d S' => rw [q] at h; exact h
    | bk l' S' => rw [q] at h; exact h
    | ct l' S' => rw [q] at h; exact h
    | exc x l' S' => rw [q] at h; exact h
    | bad => rw [q] at h; exact h
theorem fb_one (h1 : FS X Wx st f) : FB X Wx [st] f := (pss_one h1).imp fun D σ H h => h
theorem fs_pass : FS X Wx (.Pass pos) bNil := ps_pass.imp fun D σ H ⟨ρ, S, B, l, ok, sl, h⟩ => h ρ H σ (Ext.refl _) ok sl
theorem fs_brk : FS X Wx (.Break pos) sBrk := ps_break.imp fun D σ H ⟨ρ, S, B, l, ok, sl, h⟩ => h ρ H σ (Ext.refl _) ok sl
theorem fs_cnt : FS X Wx (.Continue pos) sCnt := ps_continue.imp fun D σ H ⟨ρ, S, B, l, ok, sl, h⟩ => h ρ H σ (Ext.refl _) ok sl
theorem fs_bad : FS X Wx st sBad := ps_never.imp fun D σ H ⟨ρ, S, B, l, ok, sl, h⟩ => h
theorem fs_ret (he : FE X Wx e fe) : FS X Wx (.Return (some e) pos) (sRet fe) :=
  (ps_ret he).imp fun D σ H ⟨ρ, S, B, l, ok, sl, h⟩ => ⟨ρ, S, B, l, ok, sl, (h.toS sl ok).mono fun W1 d e1 o1 ⟨_, _, h1⟩ v rv => h1 W1.ρ W1.H v (Ext.refl _) o1 rv⟩
theorem fs_retN : FS X Wx (.Return none pos) sRetN := ps_retN.imp fun D σ H ⟨ρ, S, B, l, ok, sl, h⟩ => h ρ H .non (Ext.refl _) ok .non
theorem fs_expr (he : FE X Wx e fe) (hs : swapsWith e none pos.line X.env = pure false := by rfl) : FS X Wx (.Expr e pos) (sDrop fe) :=
  (ps_expr he hs).imp fun D σ H ⟨ρ, S, B, l, ok, sl, h⟩ => ⟨ρ, S, B, l, ok, sl, (h.toS sl ok).mono fun W1 d e1 o1 ⟨_, _, h1⟩ v rv => h1 W1.ρ W1.H σ (Ext.refl _) o1 (sl.ext e1 ok)⟩
theorem fs_set (i : Nat) {x : Str} {pos' : Pos} (hN : X.N.Nodup) (he : FE X Wx e fe) (hi : X.N[i]? = some x := by rfl) (hx : Loc X.env.scope x := by first | exact Or.inl rfl | exact Or.inr rfl) (hs : swapsWith e (some (.Name x pos')) pos.line X.env = pure false := by rfl)
    (hf : X.fn x = true ∨ X.env.scope.names.lookup x = some .local := by first | exact .inl rfl | exact .inr rfl) : FS X Wx (.Assign [.Name x pos'] e pos) (sSet i fe) :=
  (ps_set hN hi hx he hs hf).imp fun D σ H ⟨ρ, S, B, l, ok, sl, h⟩ => ⟨ρ, S, B, l, ok, sl, (h.toS sl ok).mono fun W1 d e1 o1 ⟨_, _, h1⟩ v rv => h1 W1.ρ W1.H _ (Ext.refl _) o1 ((sl.ext e1 ok).set rv i)⟩
theorem fs_if {c : Expr} {a b : List Stmt} {fc : L → Store → R Bool} (hc : FT X Wx c fc) (ha : FB X Wx a f) (hb : FB X Wx b g) : FS X Wx (.If c a b pos) (sIf fc f g) :=
  (ps_if hc ha hb).imp fun D σ H ⟨ρ, S, B, l, ok, sl, h⟩ => ⟨ρ, S, B, l, ok, sl, (h.toS sl ok).mono fun W1 d e1 o1 ⟨_, _, h1⟩ => by
    cases d with
    | true =>
      rw [if_pos rfl] at h1 ⊢
      exact ⟨W1.ρ, W1.S, W1.B, l, o1, sl.ext e1 ok, h1⟩
    | false =>
      rw [if_neg Bool.false_ne_true] at h1 ⊢
      exact ⟨W1.ρ, W1.S, W1.B, l, o1, sl.ext e1 ok, h1⟩⟩
end

/-! ### a def by its body -/
mutual
def noLoc : D → Bool
  | .loc _ => false
  | .tup xs => noLocs xs
  | .tpn xs => noLocs xs
  | .lst xs => noLocs xs
  | .scr xs => noLocs xs
  | .ins _ _ xs => noLocs xs
  | .err _ _ xs => noLocs xs
  | _ => true
def noLocs : List D → Bool
  | [] => true
  | d :: ds => noLoc d && noLocs ds
end
mutual
theorem noLoc_key : ∀ k : NestedKey, noLoc (keyD k) = true
  | .none => rfl
  | .num _ => rfl
  | .text _ => rfl
  | .tup ks => noLocs_key ks
theorem noLocs_key : ∀ ks : List NestedKey, noLocs (keyDs ks) = true
  | [] => rfl
  | k :: ks => by rw [keyDs, noLocs, noLoc_key k, noLocs_key ks]; rfl
end
theorem noLocs_keys {α : Type} : ∀ kvs : List (NestedKey × α), noLocs (kvs.map fun p => keyD p.1) = true
  | [] => rfl
  | k :: ks => by rw [List.map_cons, noLocs, noLoc_key k.1, noLocs_keys ks]; rfl
/-- what stood in the store stands there still, or holds flat data now -/
def Pres (S S' : Store) : Prop := S.length ≤ S'.length ∧ ∀ i o, i < S.length → S'[i]? = some o → S[i]? = some o ∨ match o with
  | .lst xs => noLocs xs = true
  | .ins _ _ xs => noLocs xs = true
  | .tab _ => False
  | .dct _ kvs => noLocs (kvs.map (·.2)) = true
/-- what was new in the store, by value -/
def frz (n0 : Nat) (S : Store) : Nat → D → Option D
  | 0, d => if noLoc d = true then some d else none
  | f + 1, d => if noLoc d = true then some d else match d with
    | .tup xs => (xs.mapM (frz n0 S f)).map .tup
    | .tpn xs => (xs.mapM (frz n0 S f)).map .tpn
    | .lst xs => (xs.mapM (frz n0 S f)).map .lst
    | .scr xs => (xs.mapM (frz n0 S f)).map .scr
    | .ins C ks xs => (xs.mapM (frz n0 S f)).map (.ins C ks)
    | .loc n => if n0 ≤ n then match S[n]? with
      | some (.lst xs) => (xs.mapM (frz n0 S f)).map .lst
      | some (.ins C ks xs) => (xs.mapM (frz n0 S f)).map (.ins C ks)
      | _ => none
      else some (.loc n)
    | _ => none
theorem frz_flat {n0 : Nat} {S : Store} {f : Nat} {d : D} (h : noLoc d = true) : frz n0 S f d = some d := by
  cases f with
  | zero => unfold frz; rw [if_pos h]
  | succ f => unfold frz; rw [if_pos h]
open Classical in
noncomputable def fin (tr : Bool) (S0 : Store) (d : D) (S : Store) : R D := if tr then (if Pres S0 S then ofO (frz S0.length S 9 d) (S.take S0.length) else .bad) else .ok d S
noncomputable def finish (tr : Bool) (S0 : Store) (r : Fl) : R D := match r with
  | .nx _ S => fin tr S0 .non S
  | .rt d S => fin tr S0 d S
  | .exc e _ S => .exc e S
  | _ => .bad
/-- the function of a def: n names in all, the arguments first -/
noncomputable def run (tr : Bool) (n : Nat) (f : L → Store → Fl) : List D → Store → R D := fun ds S => finish tr S (f (ds.map some ++ List.replicate (n - ds.length) none) S)
section
variable {K : Frag} {W W' : Wd}
theorem live_cut {ρ : Nat → Addr} {S : Store} {H : Hp} {B : Addr → Prop} {n : Nat} {a : Addr} (h : Live ⟨ρ, S.take n, H, B⟩ a) : Live ⟨ρ, S, H, B⟩ a := by
  obtain ⟨i, hi, q⟩ := h
  refine ⟨i, Nat.lt_of_lt_of_le hi ?_, q⟩
  show (S.take n).length ≤ S.length
  rw [List.length_take]
  exact Nat.min_le_right _ _
mutual
theorem Rep.cut {ρ : Nat → Addr} {S : Store} {H : Hp} {B : Addr → Prop} (n : Nat) : ∀ {d : D} {v : V}, noLoc d = true → Rep K ⟨ρ, S, H, B⟩ d v → Rep K ⟨ρ, S.take n, H, B⟩ d v
  | _, _, _, .non => .non
  | _, _, _, .bl b => .bl b
  | _, _, _, .int i => .int i
  | _, _, _, .str x => .str x
  | _, _, z, .tup h r => .tup h (Reps.cut n z r)
  | _, _, z, .tpn h r => .tpn h (Reps.cut n z r)
  | _, _, z, .lst h r => .lst ⟨h.1, fun z => h.2.1 (live_cut z), h.2.2⟩ (Reps.cut n z r)
  | _, _, z, .scr h r => .scr h (Reps.cut n z r)
  | _, _, z, .iset h b => .iset h (fun z => b (live_cut z))
  | _, _, z, .ins h b hl r => .ins h (fun z => b (live_cut z)) hl (Reps.cut n z r)
  | _, _, z, .err h hd hl r => .err h hd hl (Reps.cut n z r)
  | _, _, _, .cls C => .cls C
  | _, _, _, .dic h => .dic h
  | _, _, z, .loc h => by cases z
theorem Reps.cut {ρ : Nat → Addr} {S : Store} {H : Hp} {B : Addr → Prop} (n : Nat) : ∀ {ds : List D} {vs : List V}, noLocs ds = true → Reps K ⟨ρ, S, H, B⟩ ds vs → Reps K ⟨ρ, S.take n, H, B⟩ ds vs
  | _, _, _, .nil => .nil
  | _, _, z, .cons h r => by
    unfold noLocs at z
    obtain ⟨z1, z2⟩ := Bool.and_eq_true_iff.mp z
    exact .cons (Rep.cut n z1 h) (Reps.cut n z2 r)
end
mutual
theorem Rep.back {ρ0 ρ : Nat → Addr} {S0 S : Store} {H0 H : Hp} {B0 B : Addr → Prop} (hlen : (S.take S0.length).length = S0.length) : ∀ {d : D} {u v : V}, Rep K ⟨ρ0, S0, H0, B0⟩ d u → Rep K ⟨ρ, S, H, B⟩ d v → Rep K ⟨ρ, S.take S0.length, H, B⟩ d v
  | _, _, _, .non, .non => .non
  | _, _, _, .bl _, .bl b => .bl b
  | _, _, _, .int _, .int i => .int i
  | _, _, _, .str _, .str x => .str x
  | _, _, _, .tup _ q, .tup h r => .tup h (Reps.back hlen q r)
  | _, _, _, .tpn _ q, .tpn h r => .tpn h (Reps.back hlen q r)
  | _, _, _, .lst _ q, .lst h r => .lst ⟨h.1, fun z => h.2.1 (live_cut z), h.2.2⟩ (Reps.back hlen q r)
  | _, _, _, .scr _ q, .scr h r => .scr h (Reps.back hlen q r)
  | _, _, _, .iset _ _, .iset h b => .iset h (fun z => b (live_cut z))
  | _, _, _, .ins _ _ _ q, .ins h b hl r => .ins h (fun z => b (live_cut z)) hl (Reps.back hlen q r)
  | _, _, _, .err _ _ _ q, .err h hd hl r => .err h hd hl (Reps.back hlen q r)
  | _, _, _, .cls _, .cls C => .cls C
  | _, _, _, .dic _, .dic h => .dic h
  | .loc n, _, _, hn, h => by
    cases hn with
    | loc hn => cases h with
      | loc h => exact Rep.loc (K := K) (W := ⟨ρ, S.take S0.length, H, B⟩) (n := n) (by show n < (S.take S0.length).length; rw [hlen]; exact hn)
theorem Reps.back {ρ0 ρ : Nat → Addr} {S0 S : Store} {H0 H : Hp} {B0 B : Addr → Prop} (hlen : (S.take S0.length).length = S0.length) : ∀ {xs : List D} {ws vs : List V}, Reps K ⟨ρ0, S0, H0, B0⟩ xs ws → Reps K ⟨ρ, S, H, B⟩ xs vs → Reps K ⟨ρ, S.take S0.length, H, B⟩ xs vs
  | _, _, _, .nil, .nil => .nil
  | _, _, _, .cons h q, .cons h' r => .cons (Rep.back hlen h h') (Reps.back hlen q r)
end
theorem mapM_some {α β : Type} {f : α → Option β} : ∀ {xs : List α} {ys : List β}, xs.mapM f = some ys → (xs = [] ∧ ys = []) ∨ ∃ x xr y yr, xs = x :: xr ∧ ys = y :: yr ∧ f x = some y ∧ xr.mapM f = some yr
  | [], ys, h => by
    rw [List.mapM_nil] at h
    cases h
    exact .inl ⟨rfl, rfl⟩
  | x :: xs, ys, h => by
    rw [List.mapM_cons] at h
    cases q : f x with
    | none => rw [q] at h; cases h
    | some y => cases q2 : xs.mapM f with
      | none => rw [q, q2] at h; cases h
      | some yr =>
        rw [q, q2] at h
        cases h
        exact .inr ⟨x, xs, y, yr, rfl, rfl, q, q2⟩
theorem cut_dead {ρ : Nat → Addr} {S : Store} {H : Hp} {B : Addr → Prop} {n0 n : Nat} (ok : Ok K ⟨ρ, S, H, B⟩) (hn : n < S.length) (h : n0 ≤ n) : ¬ Live ⟨ρ, S.take n0, H, B⟩ (ρ n) := fun ⟨i, hi, q⟩ => by
  have hi : i < (S.take n0).length := hi
  rw [List.length_take] at hi
  have e := ok.inj i n (Nat.lt_of_lt_of_le hi (Nat.min_le_right _ _)) hn q
  omega
theorem Reps.frz {ρ : Nat → Addr} {S : Store} {H : Hp} {B : Addr → Prop} {n0 : Nat} {g : D → Option D} (h : ∀ d d' v, g d = some d' → Rep K ⟨ρ, S, H, B⟩ d v → Rep K ⟨ρ, S.take n0, H, B⟩ d' v) : ∀ {ds es : List D} {vs : List V}, ds.mapM g = some es → Reps K ⟨ρ, S, H, B⟩ ds vs → Reps K ⟨ρ, S.take n0, H, B⟩ es vs
  | _, _, _, m, .nil => by
    rcases mapM_some m with ⟨_, rfl⟩ | ⟨_, _, _, _, e, _⟩
    · exact .nil
    · cases e
  | _, _, _, m, .cons r rs => by
    rcases mapM_some m with ⟨e, _⟩ | ⟨_, _, _, _, e, rfl, q1, q2⟩
    · cases e
    · cases e
      exact .cons (h _ _ _ q1 r) (Reps.frz h q2 rs)
theorem Rep.frz {ρ : Nat → Addr} {S : Store} {H : Hp} {B : Addr → Prop} {n0 : Nat} (ok : Ok K ⟨ρ, S, H, B⟩) : ∀ {f : Nat} {d d' : D} {v : V}, HL.frz n0 S f d = some d' → Rep K ⟨ρ, S, H, B⟩ d v → Rep K ⟨ρ, S.take n0, H, B⟩ d' v
  | 0, d, d', v, z, r => by
    unfold HL.frz at z
    by_cases c : noLoc d = true
    · rw [if_pos c] at z
      cases z
      exact r.cut n0 c
    · rw [if_neg c] at z
      cases z
  | f + 1, d, d', v, z, r => by
    have ih : ∀ d d' v, HL.frz n0 S f d = some d' → Rep K ⟨ρ, S, H, B⟩ d v → Rep K ⟨ρ, S.take n0, H, B⟩ d' v := fun d d' v z r => Rep.frz ok z r
    unfold HL.frz at z
    by_cases c : noLoc d = true
    · rw [if_pos c] at z
      cases z
      exact r.cut n0 c
    · rw [if_neg c] at z
      cases r with
      | non => cases z
      | bl => cases z
      | int => cases z
      | str => cases z
      | iset h b => cases z
      | err h hd hl q => cases z
      | cls C => cases z
      | dic h => cases z
      | tup h q =>
        obtain ⟨es, m, rfl⟩ := Option.map_eq_some_iff.mp z
        exact .tup h (Reps.frz ih m q)
      | tpn h q =>
        obtain ⟨es, m, rfl⟩ := Option.map_eq_some_iff.mp z
        exact .tpn h (Reps.frz ih m q)
      | lst h q =>
        obtain ⟨es, m, rfl⟩ := Option.map_eq_some_iff.mp z
        exact .lst ⟨h.1, fun z => h.2.1 (live_cut z), h.2.2⟩ (Reps.frz ih m q)
      | scr h q =>
        obtain ⟨es, m, rfl⟩ := Option.map_eq_some_iff.mp z
        exact .scr h (Reps.frz ih m q)
      | ins h b hl q =>
        obtain ⟨es, m, rfl⟩ := Option.map_eq_some_iff.mp z
        exact .ins h (fun z => b (live_cut z)) hl (Reps.frz ih m q)
      | @loc n hn =>
        have hn : n < S.length := hn
        dsimp only at z
        by_cases c2 : n0 ≤ n
        · rw [if_pos c2] at z
          have o := ok.obj n _ (List.getElem?_eq_getElem hn)
          have nb : ¬ B (ρ n) := fun b => ok.nb _ b ⟨n, hn, rfl⟩
          rw [List.getElem?_eq_getElem hn] at z
          cases q : S[n] with
          | lst xs =>
            have o : RepO K ⟨ρ, S, H, B⟩ S[n] (ρ n) := o
            rw [q] at z o
            obtain ⟨es, m, rfl⟩ := Option.map_eq_some_iff.mp z
            obtain ⟨vs, e, rs⟩ := o
            exact .lst ⟨e, cut_dead ok hn c2, nb⟩ (Reps.frz ih m rs)
          | ins C ks xs =>
            have o : RepO K ⟨ρ, S, H, B⟩ S[n] (ρ n) := o
            rw [q] at z o
            obtain ⟨es, m, rfl⟩ := Option.map_eq_some_iff.mp z
            obtain ⟨dx, vs, e, hl, rs⟩ := o
            exact .ins e (cut_dead ok hn c2) hl (Reps.frz ih m rs)
          | tab x => rw [q] at z; cases z
          | dct hs kvs => rw [q] at z; cases z
        · rw [if_neg c2] at z
          cases z
          exact Rep.loc (K := K) (W := ⟨ρ, S.take n0, H, B⟩) (by rw [List.length_take]; omega)
open Classical in
theorem fin_ok {tr : Bool} {S0 : Store} {E : XK} {Q : VK} {d : D} {S : Store} {ρ0 : Nat → Addr} {H0 : Hp} {B : Addr → Prop} (ok0 : Ok K ⟨ρ0, S0, H0, B⟩) (h : Post K (fun c d _ H => E c d H) [] ⟨ρ0, S0, H0, B⟩ (fin tr S0 d S) fun W d => ∀ v, Rep K W d v → Q v W.H)
    {ρ : Nat → Addr} {H : Hp} {v : V} (e : Ext ⟨ρ0, S0, H0, B⟩ ⟨ρ, S, H, B⟩) (ok : Ok K ⟨ρ, S, H, B⟩) (r : Rep K ⟨ρ, S, H, B⟩ d v) : Q v H := by
  unfold fin at h
  cases tr with
  | false =>
    rw [if_neg Bool.false_ne_true] at h
    exact h ρ H e ok v r
  | true =>
    rw [if_pos rfl] at h
    obtain ⟨hp, h⟩ := Post.iff_ok h
    have hlen : (S.take S0.length).length = S0.length := by rw [List.length_take]; exact Nat.min_eq_left hp.1
    have hle : ∀ {i : Nat}, i < (S.take S0.length).length → i < S.length := fun hi => Nat.lt_of_lt_of_le hi (by rw [List.length_take]; exact Nat.min_le_right _ _)
    have e2 : Ext ⟨ρ0, S0, H0, B⟩ ⟨ρ, S.take S0.length, H, B⟩ := ⟨rfl, Nat.le_of_eq hlen.symm, e.rho, fun a u z n => ⟨(e.keep a u z n).1, fun q => (e.keep a u z n).2 (live_cut q)⟩⟩
    have ok2 : Ok K ⟨ρ, S.take S0.length, H, B⟩ := by
      refine ⟨ok.bl, fun a b q => ok.nb a b (live_cut q), fun i j hi hj q => ok.inj i j (hle hi) (hle hj) q, fun i o z => ?_⟩
      have hi : i < S0.length := by
        have q : i < (S.take S0.length).length := (List.getElem?_eq_some_iff.mp z).1
        rw [hlen] at q
        exact q
      have z' : S[i]? = some o := by
        have q : (S.take S0.length)[i]? = some o := z
        rw [List.getElem?_take_of_lt hi] at q
        exact q
      have w := ok.obj i o z'
      rcases hp.2 i o hi z' with same | flat
      · have w0 := ok0.obj i o same
        cases o with
        | lst xs =>
          obtain ⟨vs, e1, q1⟩ := w
          obtain ⟨ws, _, q0⟩ := w0
          exact ⟨vs, e1, Reps.back hlen q0 q1⟩
        | ins C ks xs =>
          obtain ⟨dx, vs, e1, hl, q1⟩ := w
          obtain ⟨_, ws, _, _, q0⟩ := w0
          exact ⟨dx, vs, e1, hl, Reps.back hlen q0 q1⟩
        | tab x => exact w
        | dct hs kvs =>
          obtain ⟨xs, e1, hk, q1, q2⟩ := w
          obtain ⟨ys, _, _, q3, q4⟩ := w0
          exact ⟨xs, e1, hk, Reps.back hlen q3 q1, Reps.back hlen q4 q2⟩
      · cases o with
        | lst xs =>
          obtain ⟨vs, e1, q1⟩ := w
          exact ⟨vs, e1, Reps.cut _ flat q1⟩
        | ins C ks xs =>
          obtain ⟨dx, vs, e1, hl, q1⟩ := w
          exact ⟨dx, vs, e1, hl, Reps.cut _ flat q1⟩
        | tab x => exact w
        | dct hs kvs =>
          obtain ⟨xs, e1, hk, q1, q2⟩ := w
          exact ⟨xs, e1, hk, Reps.cut _ (noLocs_keys kvs) q1, Reps.cut _ flat q2⟩
    cases hz : HL.frz S0.length S 9 d with
    | none => rw [hz] at h; exact h.elim
    | some d' =>
      rw [hz] at h
      exact h ρ H e2 ok2 v (Rep.frz ok hz r)
end
end HL
end
section
set_option Elab.async false
set_option linter.all false
set_option maxRecDepth 100000
set_option maxHeartbeats 1000000
namespace HL
open PySem PySem.Spec L2

/-! ### values by the store -/
def seqL (d : D) (S : Store) : Option (List D) := match d with
  | .lst xs => some xs
  | .scr xs => some xs
  | .loc n => match S[n]? with
    | some (.lst xs) => some xs
    | _ => none
  | _ => none
/-- a list or a tuple -/
def seqD (d : D) (S : Store) : Option (List D) := match d with
  | .tup xs => some xs
  | .tpn xs => some xs
  | d => seqL d S
section
variable {K : Frag} {W : Wd} {ρ : Nat → Addr} {S : Store} {H : Hp}
theorem seqL_ok (ok : Ok K W) {d : D} {v : V} {xs : List D} (r : Rep K W d v) (e : seqL d W.S = some xs) : ∃ a vs, v = .ref a ∧ SqL K W.H a vs ∧ Reps K W xs vs := by
  cases r with
  | lst h q =>
    cases (show some _ = some xs from e)
    exact ⟨_, _, rfl, h.sql, q⟩
  | scr h q =>
    cases (show some _ = some xs from e)
    exact ⟨_, _, rfl, h.sql, q⟩
  | @loc n hn =>
    have e' : (match W.S[n]? with
      | some (.lst xs) => some xs
      | _ => none) = some xs := e
    cases z : W.S[n]? with
    | none => rw [z] at e'; cases e'
    | some o => cases o with
      | lst ys =>
        rw [z] at e'
        cases e'
        obtain ⟨vs, h1, h2⟩ := ok.obj n _ z
        exact ⟨_, vs, rfl, SqL.of h1, h2⟩
      | ins C ks zs => rw [z] at e'; cases e'
      | tab x => rw [z] at e'; cases e'
      | dct hs kvs => rw [z] at e'; cases e'
  | _ => cases e
theorem seqD_ok (ok : Ok K W) {d : D} {v : V} {xs : List D} (r : Rep K W d v) (e : seqD d W.S = some xs) : ∃ a vs, v = .ref a ∧ (SqL K W.H a vs ∨ SqT K W.H a vs) ∧ Reps K W xs vs := by
  cases r with
  | tup h q =>
    cases (show some _ = some xs from e)
    exact ⟨_, _, rfl, .inr h, q⟩
  | tpn h q =>
    cases (show some _ = some xs from e)
    obtain ⟨o, h, _⟩ := h
    exact ⟨_, _, rfl, .inr (.inl (.inr ⟨o, h⟩)), q⟩
  | lst h q =>
    obtain ⟨a, vs, e1, h1, q1⟩ := seqL_ok ok (.lst h q) (show seqL (.lst _) W.S = some xs from e)
    exact ⟨a, vs, e1, .inl h1, q1⟩
  | scr h q =>
    obtain ⟨a, vs, e1, h1, q1⟩ := seqL_ok ok (.scr h q) (show seqL (.scr _) W.S = some xs from e)
    exact ⟨a, vs, e1, .inl h1, q1⟩
  | loc hn =>
    obtain ⟨a, vs, e1, h1, q1⟩ := seqL_ok ok (.loc hn) (show seqL (.loc _) W.S = some xs from e)
    exact ⟨a, vs, e1, .inl h1, q1⟩
  | _ => cases e
end

/-! ### rules over values -/
/-- a function of two data and the store, that changes nothing -/
def rP2 (K : Frag) (p : D → D → Store → Option D) : R2 := fun x y H Q => ∃ ρ S B d e r, Ok K ⟨ρ, S, H, B⟩ ∧ Rep K ⟨ρ, S, H, B⟩ d x ∧ Rep K ⟨ρ, S, H, B⟩ e y ∧ p d e S = some r ∧ ∀ H' v, Same H H' → Rep K ⟨ρ, S, H', B⟩ r v → Q v H'
abbrev OpD (X : Cx) (f : Value → Value → Sem Value) (p : D → D → Store → Option D) : Prop := OpR X f (rP2 X.K p)
def rPl (K : Frag) (p : List D → Store → Option D) : List V → Hp → VK → Prop := fun xs H Q => ∃ ρ S B ds r, Ok K ⟨ρ, S, H, B⟩ ∧ Reps K ⟨ρ, S, H, B⟩ ds xs ∧ p ds S = some r ∧ ∀ H' v, Same H H' → Rep K ⟨ρ, S, H', B⟩ r v → Q v H'
abbrev CallD (X : Cx) (f : Value) (p : List D → Store → Option D) : Prop := CallR X f (rPl X.K p)
def mBin (p : D → D → Store → Option D) (f g : L → Store → R D) : L → Store → R D := fun l S => (f l S).bind fun d S1 => (g l S1).bind fun e S2 => ofO (p d e S2) S2
def mCall (p : List D → Store → Option D) (fa : L → Store → R (List D)) : L → Store → R D := fun l S => (fa l S).bind fun ds S1 => ofO (p ds S1) S1
def mUn (p : D → Store → Option D) (f : L → Store → R D) : L → Store → R D := fun l S => (f l S).bind fun d S1 => ofO (p d S1) S1
theorem Post.ofO {α : Type} {K : Frag} {Wx : WX} {σ : L2.St} {W : Wd} {o : Option α} {k : Wd → α → Prop} (h : Post K Wx σ W (ofO o W.S) k) : ∃ a, o = some a ∧ ∀ H', Same W.H H' → Ok K W → k ⟨W.ρ, W.S, H', W.B⟩ a := by
  cases o with
  | none => exact h.elim
  | some a => exact ⟨a, rfl, fun H' s ok => h W.ρ H' (Ext.same s) (ok.same s)⟩
section
variable {X : Cx} {Wx : WX} {pos : Pos} {a b c : Expr} {fa fb fc : L → Store → R D} {p p' : D → D → Store → Option D}
theorem bin_ok {K : Frag} {σ : L2.St} {W : Wd} {l : L} {f g : L → Store → R D} {Q : VK} (ok : Ok K W) (sl : Sl K W σ l) (h : Post K Wx σ W (mBin p f g l W.S) fun W d => ∀ v, Rep K W d v → Q v W.H) :
    tE K Wx f σ W.H fun x H1 => tE K Wx g σ H1 fun y H2 => rP2 K p x y H2 Q :=
  ⟨W.ρ, W.S, W.B, l, ok, sl, h.bind.mono fun W1 d e1 o1 ⟨_, _, h1⟩ v rv => ⟨W1.ρ, W1.S, W1.B, l, o1, sl.ext e1 ok, h1.bind.mono fun W2 d2 e2 o2 ⟨_, _, h2⟩ u ru => by
    obtain ⟨r, er, q⟩ := h2.ofO
    exact ⟨W2.ρ, W2.S, W2.B, d, d2, r, o2, rv.ext e2 o1, ru, er, fun H' v' s rv' => q H' s o2 v' rv'⟩⟩⟩
theorem fe_bin {op : Operator} (ho : OpD X (binaryOp op) p) (ha : FE X Wx a fa) (hb : FE X Wx b fb) : FE X Wx (.BinOp a op b pos) (mBin p fa fb) :=
  (pe_op ho ha hb).imp fun σ H Q ⟨ρ, S, B, l, ok, sl, h⟩ => bin_ok (W := ⟨ρ, S, H, B⟩) ok sl h
theorem fe_cmp {op : CmpOp} (ho : OpD X (compareOp op) p) (ha : FE X Wx a fa) (hb : FE X Wx b fb) (hm : behindInMarks op b = false := by rfl) : FE X Wx (.Compare a [op] [b] pos) (mBin p fa fb) :=
  (pe_cmpR ho ha hb hm).imp fun σ H Q ⟨ρ, S, B, l, ok, sl, h⟩ => bin_ok (W := ⟨ρ, S, H, B⟩) ok sl h
/-- a test from a value that is a bool -/
def asB (f : L → Store → R D) : L → Store → R Bool := fun l S => (f l S).bind fun d S1 => match d with
  | .bl b => .ok b S1
  | _ => .bad
theorem asB_ok {K : Frag} {σ : L2.St} {H : Hp} {f : L → Store → R D} {Q : Bool → Hp → Prop} (h : tT K Wx (asB f) σ H Q) : tE K Wx f σ H fun x H' => ∃ k, x = .bl k ∧ Q k H' := by
  obtain ⟨ρ, S, B, l, ok, sl, h⟩ := h
  refine ⟨ρ, S, B, l, ok, sl, h.bind.mono fun W1 d e1 o1 ⟨_, _, h1⟩ v rv => ?_⟩
  cases rv with
  | bl k => exact ⟨k, rfl, Post.ok_of o1 h1⟩
  | _ => exact h1.elim
theorem ft_cmp {op : CmpOp} (ho : OpD X (compareOp op) p) (ha : FE X Wx a fa) (hb : FE X Wx b fb) (hm : behindInMarks op b = false := by rfl) : FT X Wx (.Compare a [op] [b] pos) (asB (mBin p fa fb)) :=
  (pt_cmpR ho ha hb hm).imp fun σ H Q h => by
    obtain ⟨ρ, S, B, l, ok, sl, h⟩ := asB_ok h
    exact bin_ok (W := ⟨ρ, S, H, B⟩) ok sl h
/-- an expression that gives a bool, as a test -/
theorem ft_val {e : Expr} {f : L → Store → R D} (h : FE X Wx e f) (he : ∀ whole, isTrue e X.env whole = (do let v ← whole; standAt e.pos; holding [v] (truthy v)) := by intro _; rfl) : FT X Wx e (asB f) :=
  (pt_val h he).imp fun σ H Q h => asB_ok h
/-- a op b op' c -/
def mChain (p p' : D → D → Store → Option D) (f g k : L → Store → R D) : L → Store → R D := fun l S => (f l S).bind fun d S1 => (g l S1).bind fun e S2 => match p d e S2 with
  | some (.bl true) => (k l S2).bind fun z S3 => ofO (p' e z S3) S3
  | some (.bl false) => .ok (.bl false) S2
  | _ => .bad
theorem chain_ok {K : Frag} {σ : L2.St} {W : Wd} {l : L} {Q : VK} (ok : Ok K W) (sl : Sl K W σ l) (h : Post K Wx σ W (mChain p p' fa fb fc l W.S) fun W d => ∀ v, Rep K W d v → Q v W.H) : tChain (rP2 K p) (rP2 K p') (tE K Wx fa) (tE K Wx fb) (tE K Wx fc) σ W.H Q :=
  ⟨W.ρ, W.S, W.B, l, ok, sl, h.bind.mono fun W1 d e1 o1 ⟨_, _, h1⟩ v rv => ⟨W1.ρ, W1.S, W1.B, l, o1, sl.ext e1 ok, h1.bind.mono fun W2 d2 e2 o2 ⟨_, _, h2⟩ u ru => by
    cases q : p d d2 W2.S with
    | none => rw [q] at h2; exact h2.elim
    | some r =>
      rw [q] at h2
      refine ⟨W2.ρ, W2.S, W2.B, d, d2, r, o2, rv.ext e2 o1, ru, q, fun H' v' s rv' => ?_⟩
      cases r with
      | bl b =>
        cases rv' with
        | bl b =>
          refine ⟨b, rfl, ?_⟩
          cases b with
          | true =>
            rw [if_pos rfl]
            have e3 : Ext W2 ⟨W2.ρ, W2.S, H', W2.B⟩ := Ext.same s
            have o3 : Ok K ⟨W2.ρ, W2.S, H', W2.B⟩ := o2.same s
            refine ⟨W2.ρ, W2.S, W2.B, l, o3, (sl.ext (e1.trans e2) ok).ext e3 o2, (Post.weak h2 e3).bind.mono fun W4 z e4 o4 ⟨_, _, h4⟩ w rw' => ?_⟩
            obtain ⟨r4, er4, q4⟩ := h4.ofO
            exact ⟨W4.ρ, W4.S, W4.B, d2, z, r4, o4, (ru.ext e3 o2).ext e4 o3, rw', er4, fun H5 v5 s5 rv5 => q4 H5 s5 o4 v5 rv5⟩
          | false =>
            rw [if_neg Bool.false_ne_true]
            exact h2 W2.ρ H' (Ext.same s) (o2.same s) _ (.bl false)
      | _ => exact h2.elim⟩⟩
theorem fe_chain {op op' : CmpOp} (ho : OpD X (compareOp op) p) (ho' : OpD X (compareOp op') p') (ha : FE X Wx a fa) (hb : FE X Wx b fb) (hc : FE X Wx c fc) (hm : lastMarks [op, op'] [b, c] = false := by with_unfolding_all rfl) :
    FE X Wx (.Compare a [op, op'] [b, c] pos) (mChain p p' fa fb fc) :=
  (pe_chain ho ho' ha hb hc hm).imp fun σ H Q ⟨ρ, S, B, l, ok, sl, h⟩ => chain_ok (W := ⟨ρ, S, H, B⟩) ok sl h
theorem ft_chain {op op' : CmpOp} (ho : OpD X (compareOp op) p) (ho' : OpD X (compareOp op') p') (ha : FE X Wx a fa) (hb : FE X Wx b fb) (hc : FE X Wx c fc) (hm : lastMarks [op, op'] [b, c] = false := by with_unfolding_all rfl) :
    FT X Wx (.Compare a [op, op'] [b, c] pos) (asB (mChain p p' fa fb fc)) :=
  (pt_chain ho ho' ha hb hc hm).imp fun σ H Q h => by
    obtain ⟨ρ, S, B, l, ok, sl, h⟩ := asB_ok h
    exact chain_ok (W := ⟨ρ, S, H, B⟩) ok sl h
end

/-! ### and, or, not, if -/
def mNot (f : L → Store → R Bool) : L → Store → R Bool := fun l S => (f l S).bind fun b S1 => .ok (!b) S1
def mAnd (f g : L → Store → R Bool) : L → Store → R Bool := fun l S => (f l S).bind fun b S1 => if b then g l S1 else .ok false S1
def mOr (f g : L → Store → R Bool) : L → Store → R Bool := fun l S => (f l S).bind fun b S1 => if b then .ok true S1 else g l S1
def mIf (c : L → Store → R Bool) (f g : L → Store → R D) : L → Store → R D := fun l S => (c l S).bind fun b S1 => if b then f l S1 else g l S1
/-- values (bools): and, or, not -/
def vAnd (f g : L → Store → R D) : L → Store → R D := fun l S => (f l S).bind fun d S1 => match d with
  | .bl true => g l S1
  | .bl false => .ok (.bl false) S1
  | _ => .bad
def vOr (f g : L → Store → R D) : L → Store → R D := fun l S => (f l S).bind fun d S1 => match d with
  | .bl true => .ok (.bl true) S1
  | .bl false => g l S1
  | _ => .bad
def vNot (f : L → Store → R D) : L → Store → R D := fun l S => (f l S).bind fun d S1 => match d with
  | .bl b => .ok (.bl (!b)) S1
  | _ => .bad
section
variable {X : Cx} {Wx : WX} {pos : Pos} {a b c : Expr} {rest : List Expr} {f g k : L → Store → R D} {t u : L → Store → R Bool}
abbrev FW (X : Cx) (Wx : WX) (e : Expr) (f : L → Store → R Bool) : Prop := PW X e (tT X.K Wx f)
theorem _root_.L2.PW.imp {X : Cx} {e : Expr} {t t' : TT} (h : PW X e t) (i : ∀ σ H Q, t' σ H Q → t σ H Q) : PW X e t' := ⟨fun w p s σ H Q I q => h.run w p s σ H Q I (i σ H Q q)⟩
theorem ft_not (h : FT X Wx a t) : FT X Wx (.UnaryOp .Not a pos) (mNot t) :=
  (pt_not h).imp fun σ H Q ⟨ρ, S, B, l, ok, sl, h⟩ => ⟨ρ, S, B, l, ok, sl, h.bind.mono fun W1 d e1 o1 ⟨_, _, h1⟩ => Post.ok_of o1 h1⟩
theorem fw_and1 (h : FT X Wx a t) : FW X Wx (.BoolOp .And [a] pos) t := pw_and1 h
theorem fw_or1 (h : FT X Wx a t) : FW X Wx (.BoolOp .Or [a] pos) t := pw_or1 h
theorem fw_and (h : FT X Wx a t) (r : FW X Wx (.BoolOp .And (b :: rest) pos) u) : FW X Wx (.BoolOp .And (a :: b :: rest) pos) (mAnd t u) :=
  (pw_and h r).imp fun σ H Q ⟨ρ, S, B, l, ok, sl, h⟩ => ⟨ρ, S, B, l, ok, sl, h.bind.mono fun W1 d e1 o1 ⟨_, _, h1⟩ => by
    cases d with
    | true => exact iteT ⟨W1.ρ, W1.S, W1.B, l, o1, sl.ext e1 ok, h1⟩
    | false => exact iteF (Post.ok_of o1 h1)⟩
theorem fw_or (h : FT X Wx a t) (r : FW X Wx (.BoolOp .Or (b :: rest) pos) u) : FW X Wx (.BoolOp .Or (a :: b :: rest) pos) (mOr t u) :=
  (pw_or h r).imp fun σ H Q ⟨ρ, S, B, l, ok, sl, h⟩ => ⟨ρ, S, B, l, ok, sl, h.bind.mono fun W1 d e1 o1 ⟨_, _, h1⟩ => by
    cases d with
    | true => exact iteT (Post.ok_of o1 h1)
    | false => exact iteF ⟨W1.ρ, W1.S, W1.B, l, o1, sl.ext e1 ok, h1⟩⟩
theorem ft_w {e : Expr} (h : FW X Wx e t) : FT X Wx e t := PW.pt h
theorem fe_if (hc : FT X Wx c t) (ha : FE X Wx a f) (hb : FE X Wx b g) : FE X Wx (.IfExp c a b pos) (mIf t f g) :=
  (pe_ifExp hc ha hb).imp fun σ H Q ⟨ρ, S, B, l, ok, sl, h⟩ => ⟨ρ, S, B, l, ok, sl, h.bind.mono fun W1 d e1 o1 ⟨_, _, h1⟩ => by
    cases d with
    | true => exact iteT ⟨W1.ρ, W1.S, W1.B, l, o1, sl.ext e1 ok, h1⟩
    | false => exact iteF ⟨W1.ρ, W1.S, W1.B, l, o1, sl.ext e1 ok, h1⟩⟩
theorem fe_one {op : PySem.BoolOp} (h : FE X Wx a f) : FE X Wx (.BoolOp op [a] pos) f := pe_one h
theorem fe_and (h : FE X Wx a f) (r : FE X Wx (.BoolOp .And (b :: rest) pos) g) : FE X Wx (.BoolOp .And (a :: b :: rest) pos) (vAnd f g) :=
  (pe_and h r).imp fun σ H Q ⟨ρ, S, B, l, ok, sl, h⟩ => ⟨ρ, S, B, l, ok, sl, h.bind.mono fun W1 d e1 o1 ⟨_, _, h1⟩ v rv => by
    cases rv with
    | bl k =>
      refine ⟨k, rfl, ?_⟩
      cases k with
      | true => exact iteT ⟨W1.ρ, W1.S, W1.B, l, o1, sl.ext e1 ok, h1⟩
      | false => exact iteF (Post.ok_of o1 h1 _ (.bl false))
    | _ => exact h1.elim⟩
theorem fe_or (h : FE X Wx a f) (r : FE X Wx (.BoolOp .Or (b :: rest) pos) g) : FE X Wx (.BoolOp .Or (a :: b :: rest) pos) (vOr f g) :=
  (pe_or h r).imp fun σ H Q ⟨ρ, S, B, l, ok, sl, h⟩ => ⟨ρ, S, B, l, ok, sl, h.bind.mono fun W1 d e1 o1 ⟨_, _, h1⟩ v rv => by
    cases rv with
    | bl k =>
      refine ⟨k, rfl, ?_⟩
      cases k with
      | true => exact iteT (Post.ok_of o1 h1 _ (.bl true))
      | false => exact iteF ⟨W1.ρ, W1.S, W1.B, l, o1, sl.ext e1 ok, h1⟩
    | _ => exact h1.elim⟩
theorem fe_not (h : FE X Wx a f) : FE X Wx (.UnaryOp .Not a pos) (vNot f) :=
  (pe_not h).imp fun σ H Q ⟨ρ, S, B, l, ok, sl, h⟩ => ⟨ρ, S, B, l, ok, sl, h.bind.mono fun W1 d e1 o1 ⟨_, _, h1⟩ v rv => by
    cases rv with
    | bl k => exact ⟨k, rfl, Post.ok_of o1 h1 _ (.bl _)⟩
    | _ => exact h1.elim⟩
end

/-! ### arithmetic -/
def pAdd (d e : D) (S : Store) : Option D := match nt d, nt e with
  | .int i, .int j => some (.int (i + j))
  | .str x, .str y => if x.length + y.length ≤ sizeLine then some (.str (x ++ y)) else none
  | .tup xs, .tup ys => if xs.length + ys.length ≤ sizeLine then some (.tup (xs ++ ys)) else none
  | .lst xs, .lst ys => if xs.length + ys.length ≤ sizeLine then some (.lst (xs ++ ys)) else none
  | _, _ => none
def pSub (d e : D) (_ : Store) : Option D := match d, e with
  | .int i, .int j => some (.int (i - j))
  | _, _ => none
instance (i j : Int) : Decidable (CMul i j) := inferInstanceAs (Decidable (_ ∨ _))
instance (i j : Int) : Decidable (CDiv i j) := inferInstanceAs (Decidable (_ ∧ _))
instance (i j : Int) : Decidable (CPow i j) := inferInstanceAs (Decidable (_ ∧ _))
def pMul (d e : D) (_ : Store) : Option D := match d, e with
  | .int i, .int j => if CMul i j then some (.int (i * j)) else none
  | .lst xs, .int k => if 0 ≤ k ∧ k < 1000000 ∧ xs.length * k.toNat ≤ sizeLine then some (.lst (List.replicate k.toNat xs).flatten) else none
  | _, _ => none
def pDiv (d e : D) (_ : Store) : Option D := match d, e with
  | .int i, .int j => if CDiv i j then some (.int (i / j)) else none
  | _, _ => none
def pMod (d e : D) (_ : Store) : Option D := match d, e with
  | .int i, .int j => if 0 < j then some (.int (i % j)) else none
  | _, _ => none
def pPow (d e : D) (_ : Store) : Option D := match d, e with
  | .int i, .int j => if CPow i j then some (.int (i ^ j.toNat)) else none
  | _, _ => none
section
variable {X : Cx}
theorem new_lst {K : Frag} {ρ : Nat → Addr} {S : Store} {H : Hp} {B : Addr → Prop} {p : Addr} {vs : List V} {xs : List D} (ok : Ok K ⟨ρ, S, H, B⟩) (hp : H p = none) (q : Reps K ⟨ρ, S, H, B⟩ xs vs) : Same H (upd H p (.lst vs)) ∧ Rep K ⟨ρ, S, upd H p (.lst vs), B⟩ (.lst xs) (.ref p) :=
  ⟨Same.upd hp, .lst ⟨upd_same, fun l => ok.nlive0 hp l, fun l => ok.busy p l hp⟩ (q.ext (Ext.same (Same.upd hp)) ok)⟩
theorem new_tup {K : Frag} {ρ : Nat → Addr} {S : Store} {H : Hp} {B : Addr → Prop} {p : Addr} {vs : List V} {xs : List D} (ok : Ok K ⟨ρ, S, H, B⟩) (hp : H p = none) (q : Reps K ⟨ρ, S, H, B⟩ xs vs) : Same H (upd H p (.tup vs)) ∧ Rep K ⟨ρ, S, upd H p (.tup vs), B⟩ (.tup xs) (.ref p) :=
  ⟨Same.upd hp, .tup (SqT.of upd_same) (q.ext (Ext.same (Same.upd hp)) ok)⟩
theorem Reps.flat {K : Frag} {W : Wd} {xs : List D} {vs : List V} (q : Reps K W xs vs) : ∀ n : Nat, Reps K W (List.replicate n xs).flatten (List.replicate n vs).flatten
  | 0 => .nil
  | n + 1 => by
    rw [List.replicate_succ, List.replicate_succ, List.flatten_cons, List.flatten_cons]
    exact q.append (Reps.flat q n)
theorem op_pAdd : OpD X (binaryOp .Add) pAdd := by
  intro pins s σ H x y v u Q I rx ry ⟨ρ, S, B, d, e, r, ok, rd, re, hp, k⟩
  unfold pAdd at hp
  replace rd := rd.nt
  replace re := re.nt
  generalize nt d = d at rd hp
  generalize nt e = e at re hp
  split at hp
  · cases hp; cases rd; cases re
    exact op_add pins s σ H _ _ v u Q I rx ry ⟨_, _, rfl, rfl, k _ _ (Same.refl H) (.int _)⟩
  · split at hp
    · rename_i hz
      cases hp; cases rd; cases re
      exact op_add_str pins s σ H _ _ v u Q I rx ry ⟨_, _, rfl, rfl, hz, k _ _ (Same.refl H) (.str _)⟩
    · cases hp
  · split at hp
    · rename_i hz
      cases hp
      cases rd with
      | tup h1 q1 => cases re with
        | tup h2 q2 =>
          refine op_catA pins s σ H _ _ v u Q I rx ry ⟨_, _, _, _, rfl, rfl, h1, h2, by rw [← q1.length, ← q2.length]; exact hz, fun e1 => ?_, fun _ e2 => ?_, fun _ _ p hp => ?_⟩
          · subst e1
            have z := q1.length
            rw [List.length_nil] at z
            rw [List.eq_nil_of_length_eq_zero z] at k
            exact k _ _ (Same.refl H) (.tup h2 q2)
          · subst e2
            have z := q2.length
            rw [List.length_nil] at z
            rw [List.eq_nil_of_length_eq_zero z, List.append_nil] at k
            exact k _ _ (Same.refl H) (.tup h1 q1)
          · obtain ⟨sm, z⟩ := new_tup ok hp (q1.append q2)
            exact k _ _ sm z
    · cases hp
  · split at hp
    · rename_i hz
      cases hp
      cases rd with
      | lst h1 q1 => cases re with
        | lst h2 q2 =>
          refine op_cat pins s σ H _ _ v u Q I rx ry ⟨_, _, _, _, rfl, rfl, h1.1, h2.1, by rw [← q1.length, ← q2.length]; exact hz, fun p hp => ?_⟩
          obtain ⟨sm, z⟩ := new_lst ok hp (q1.append q2)
          exact k _ _ sm z
    · cases hp
  · cases hp
theorem op_pSub : OpD X (binaryOp .Sub) pSub := by
  intro pins s σ H x y v u Q I rx ry ⟨ρ, S, B, d, e, r, ok, rd, re, hp, k⟩
  unfold pSub at hp
  split at hp
  · cases hp; cases rd; cases re
    exact op_sub pins s σ H _ _ v u Q I rx ry ⟨_, _, rfl, rfl, k _ _ (Same.refl H) (.int _)⟩
  · cases hp
theorem op_pDiv : OpD X (binaryOp .FloorDiv) pDiv := by
  intro pins s σ H x y v u Q I rx ry ⟨ρ, S, B, d, e, r, ok, rd, re, hp, k⟩
  unfold pDiv at hp
  split at hp
  · split at hp
    · rename_i hz
      cases hp; cases rd; cases re
      exact op_fdiv pins s σ H _ _ v u Q I rx ry ⟨_, _, rfl, rfl, hz, k _ _ (Same.refl H) (.int _)⟩
    · cases hp
  · cases hp
theorem op_pMod : OpD X (binaryOp .Mod) pMod := by
  intro pins s σ H x y v u Q I rx ry ⟨ρ, S, B, d, e, r, ok, rd, re, hp, k⟩
  unfold pMod at hp
  split at hp
  · split at hp
    · rename_i hz
      cases hp; cases rd; cases re
      exact op_mod pins s σ H _ _ v u Q I rx ry ⟨_, _, rfl, rfl, hz, k _ _ (Same.refl H) (.int _)⟩
    · cases hp
  · cases hp
theorem op_pPow : OpD X (binaryOp .Pow) pPow := by
  intro pins s σ H x y v u Q I rx ry ⟨ρ, S, B, d, e, r, ok, rd, re, hp, k⟩
  unfold pPow at hp
  split at hp
  · split at hp
    · rename_i hz
      cases hp; cases rd; cases re
      exact op_pow pins s σ H _ _ v u Q I rx ry ⟨_, _, rfl, rfl, hz, k _ _ (Same.refl H) (.int _)⟩
    · cases hp
  · cases hp
theorem op_pMul : OpD X (binaryOp .Mult) pMul := by
  intro pins s σ H x y v u Q I rx ry ⟨ρ, S, B, d, e, r, ok, rd, re, hp, k⟩
  unfold pMul at hp
  split at hp
  · split at hp
    · rename_i hz
      cases hp; cases rd; cases re
      exact op_mul pins s σ H _ _ v u Q I rx ry ⟨_, _, rfl, rfl, hz, k _ _ (Same.refl H) (.int _)⟩
    · cases hp
  · split at hp
    · rename_i hz
      cases hp
      cases rd with
      | lst h1 q1 => cases re with
        | int _ =>
          refine op_rep pins s σ H _ _ v u Q I rx ry ⟨_, _, _, rfl, rfl, h1.1, by omega, by omega, by rw [← q1.length]; exact hz.2.2, fun p hp => ?_⟩
          obtain ⟨sm, z⟩ := new_lst ok hp (q1.flat _)
          exact k _ _ sm z
    · cases hp
  · cases hp
end
end HL
end
section
set_option Elab.async false
set_option linter.all false
set_option maxRecDepth 100000
set_option maxHeartbeats 1000000
namespace HL
open PySem PySem.Spec L2

/-! ### data as the library has it -/
mutual
def toPy : D → Option PyData
  | .non => some .none
  | .bl b => some (.bool b)
  | .int i => some (.int i)
  | .str x => some (.str x)
  | .tup xs => (toPys xs).map .tuple
  | .tpn xs => (toPys xs).map .tuple
  | .lst xs => (toPys xs).map .list
  | .scr xs => (toPys xs).map .list
  | .iset _ => none
  | .ins _ _ _ => none
  | .err _ _ _ => none
  | .cls _ => none
  | .dic => none
  | .loc _ => none
def toPys : List D → Option (List PyData)
  | [] => some []
  | d :: ds => match toPy d, toPys ds with
    | some p, some ps => some (p :: ps)
    | _, _ => none
end
def toPyS (d : D) (S : Store) : Option PyData := match d with
  | .loc n => match S[n]? with
    | some (.lst xs) => (toPys xs).map .list
    | _ => none
  | d => toPy d
section
variable {K : Frag} {W : Wd}
mutual
theorem Rep.dp (ok : Ok K W) : ∀ {d : D} {v : V} {p : PyData}, Rep K W d v → toPy d = some p → Dp K W.H v p
  | _, _, _, .non, e => by cases e; exact .non
  | _, _, _, .bl b, e => by cases e; exact .bl b
  | _, _, _, .int i, e => by cases e; exact .int i
  | _, _, _, .str x, e => by cases e; exact .str x
  | _, _, _, .tup (xs := xs) h r, e => by
    have e' : (toPys xs).map PyData.tuple = some _ := e
    obtain ⟨ps, h1, rfl⟩ := Option.map_eq_some_iff.mp e'
    exact .tup h (Reps.dp ok r h1)
  | _, _, _, .tpn (xs := xs) h r, e => by
    have e' : (toPys xs).map PyData.tuple = some _ := e
    obtain ⟨ps, h1, rfl⟩ := Option.map_eq_some_iff.mp e'
    obtain ⟨o, h, _⟩ := h
    exact .tup (.inl (.inr ⟨o, h⟩)) (Reps.dp ok r h1)
  | _, _, _, .lst (xs := xs) h r, e => by
    have e' : (toPys xs).map PyData.list = some _ := e
    obtain ⟨ps, h1, rfl⟩ := Option.map_eq_some_iff.mp e'
    exact .lst h.sql (Reps.dp ok r h1)
  | _, _, _, .scr (xs := xs) h r, e => by
    have e' : (toPys xs).map PyData.list = some _ := e
    obtain ⟨ps, h1, rfl⟩ := Option.map_eq_some_iff.mp e'
    exact .lst h.sql (Reps.dp ok r h1)
  | _, _, _, .iset _ _, e => by cases e
  | _, _, _, .ins _ _ _ _, e => by cases e
  | _, _, _, .err _ _ _ _, e => by cases e
  | _, _, _, .cls _, e => by cases e
  | _, _, _, .dic _, e => by cases e
  | _, _, _, .loc _, e => by cases e
theorem Reps.dp (ok : Ok K W) : ∀ {ds : List D} {vs : List V} {ps : List PyData}, Reps K W ds vs → toPys ds = some ps → DpAll K W.H vs ps
  | _, _, _, .nil, e => by cases e; exact .nil
  | _, _, _, .cons (d := d) (ds := ds) h r, e => by
    unfold toPys at e
    cases h1 : toPy d with
    | none => rw [h1] at e; cases e
    | some p => cases h2 : toPys ds with
      | none => rw [h1, h2] at e; cases e
      | some ps =>
        rw [h1, h2] at e
        cases e
        exact .cons (Rep.dp ok h h1) (Reps.dp ok r h2)
end
theorem Rep.dpS (ok : Ok K W) {d : D} {v : V} {p : PyData} (r : Rep K W d v) (e : toPyS d W.S = some p) : Dp K W.H v p := by
  by_cases hl : ∃ n, d = .loc n
  · obtain ⟨n, rfl⟩ := hl
    cases r with
    | loc hn =>
      have e' : (match W.S[n]? with
        | some (.lst xs) => (toPys xs).map PyData.list
        | _ => none) = some p := e
      cases z : W.S[n]? with
      | none => rw [z] at e'; cases e'
      | some o => cases o with
        | lst xs =>
          rw [z] at e'
          obtain ⟨ps, h1, rfl⟩ := Option.map_eq_some_iff.mp e'
          obtain ⟨vs, h2, h3⟩ := ok.obj n _ z
          exact .lst (SqL.of h2) (Reps.dp ok h3 h1)
        | ins C ks xs => rw [z] at e'; cases e'
        | tab x => rw [z] at e'; cases e'
        | dct hs kvs => rw [z] at e'; cases e'
  · have e' : toPy d = some p := by
      cases d with
      | loc n => exact absurd ⟨n, rfl⟩ hl
      | _ => exact e
    exact r.dp ok e'
end

/-! ### ==, !=, <, <=, >, >= -/
def pEq (d e : D) (S : Store) : Option D := match toPyS d S, toPyS e S with
  | some p, some q => if SeqAt.shaped p = true ∧ SeqAt.shaped q = true then some (.bl (PyData.eqv p q)) else none
  | _, _ => none
def pNe (d e : D) (S : Store) : Option D := match toPyS d S, toPyS e S with
  | some p, some q => if SeqAt.shaped p = true ∧ SeqAt.shaped q = true then some (.bl (!PyData.eqv p q)) else none
  | _, _ => none
def pLt (d e : D) (_ : Store) : Option D := match d, e with
  | .int i, .int j => some (.bl (decide (i < j)))
  | _, _ => none
def pLe (d e : D) (_ : Store) : Option D := match d, e with
  | .int i, .int j => some (.bl (decide (i ≤ j)))
  | _, _ => none
def pGt (d e : D) (_ : Store) : Option D := match d, e with
  | .int i, .int j => some (.bl (decide (j < i)))
  | _, _ => none
def pGe (d e : D) (_ : Store) : Option D := match d, e with
  | .int i, .int j => some (.bl (decide (j ≤ i)))
  | _, _ => none
/-- x is None -/
def pIsN (d e : D) (_ : Store) : Option D := match e with
  | .non => some (.bl (match d with | .non => true | _ => false))
  | _ => none
def pNotN (d e : D) (_ : Store) : Option D := match e with
  | .non => some (.bl (match d with | .non => false | _ => true))
  | _ => none
/-- x in xs -/
def inP (p : PyData) (ps : List PyData) : Bool := ps.any fun z => PyData.eqv z p
def pIn (d e : D) (S : Store) : Option D := match d, nt e with
  | .str x, .str y => some (.bl (!(Builtin.Str.occurrences y x 0 y.length 1).isEmpty))
  | d, .tup ys => if flats (d :: ys) then some (.bl (ys.any fun y => eqF y d)) else none
  | d, e => match toPyS d S, toPyS e S with
    | some p, some (.list ps) => if SeqAt.shaped p = true ∧ SeqAt.shaped (.list ps) = true then some (.bl (inP p ps)) else none
    | _, _ => none
where
  flats (ds : List D) : Bool := ds.all fun d => match d with
    | .non => true
    | .bl _ => true
    | .int _ => true
    | .str _ => true
    | _ => false
  eqF (d e : D) : Bool := match d, e with
    | .non, .non => true
    | .bl a, .bl b => a == b
    | .bl a, .int b => (if a then 1 else 0) == b
    | .int a, .bl b => a == (if b then 1 else 0)
    | .int a, .int b => a == b
    | .str a, .str b => a == b
    | _, _ => false
def pNotIn (d e : D) (S : Store) : Option D := match pIn d e S with
  | some (.bl b) => some (.bl (!b))
  | _ => none
section
variable {X : Cx}
theorem op_pEq (hu : X.A.units + 64 < cLine) : OpD X (compareOp .Eq) pEq := by
  intro pins s σ H x y v u Q I rx ry ⟨ρ, S, B, d, e, r, ok, rd, re, hp, k⟩
  unfold pEq at hp
  split at hp
  · rename_i p q h1 h2
    split at hp
    · rename_i hs
      cases hp
      exact op_eqD hu pins s σ H x y v u Q I rx ry ⟨p, q, rd.dpS ok h1, re.dpS ok h2, hs.1, hs.2, k _ _ (Same.refl H) (.bl _)⟩
    · cases hp
  · cases hp
theorem op_pNe (hu : X.A.units + 64 < cLine) : OpD X (compareOp .NotEq) pNe := by
  intro pins s σ H x y v u Q I rx ry ⟨ρ, S, B, d, e, r, ok, rd, re, hp, k⟩
  unfold pNe at hp
  split at hp
  · rename_i p q h1 h2
    split at hp
    · rename_i hs
      cases hp
      exact op_neD hu pins s σ H x y v u Q I rx ry ⟨p, q, rd.dpS ok h1, re.dpS ok h2, hs.1, hs.2, k _ _ (Same.refl H) (.bl _)⟩
    · cases hp
  · cases hp
theorem op_pLt : OpD X (compareOp .Lt) pLt := by
  intro pins s σ H x y v u Q I rx ry ⟨ρ, S, B, d, e, r, ok, rd, re, hp, k⟩
  unfold pLt at hp
  split at hp
  · cases hp; cases rd; cases re
    exact op_lt pins s σ H _ _ v u Q I rx ry ⟨_, _, rfl, rfl, k _ _ (Same.refl H) (.bl _)⟩
  · cases hp
theorem op_pLe : OpD X (compareOp .LtE) pLe := by
  intro pins s σ H x y v u Q I rx ry ⟨ρ, S, B, d, e, r, ok, rd, re, hp, k⟩
  unfold pLe at hp
  split at hp
  · cases hp; cases rd; cases re
    exact op_le pins s σ H _ _ v u Q I rx ry ⟨_, _, rfl, rfl, k _ _ (Same.refl H) (.bl _)⟩
  · cases hp
theorem op_pGt : OpD X (compareOp .Gt) pGt := by
  intro pins s σ H x y v u Q I rx ry ⟨ρ, S, B, d, e, r, ok, rd, re, hp, k⟩
  unfold pGt at hp
  split at hp
  · cases hp; cases rd; cases re
    exact op_gt pins s σ H _ _ v u Q I rx ry ⟨_, _, rfl, rfl, k _ _ (Same.refl H) (.bl _)⟩
  · cases hp
theorem op_pGe : OpD X (compareOp .GtE) pGe := by
  intro pins s σ H x y v u Q I rx ry ⟨ρ, S, B, d, e, r, ok, rd, re, hp, k⟩
  unfold pGe at hp
  split at hp
  · cases hp; cases rd; cases re
    exact op_ge pins s σ H _ _ v u Q I rx ry ⟨_, _, rfl, rfl, k _ _ (Same.refl H) (.bl _)⟩
  · cases hp
theorem op_pIsN : OpD X (compareOp .Is) pIsN := by
  intro pins s σ H x y v u Q I rx ry ⟨ρ, S, B, d, e, r, ok, rd, re, hp, k⟩
  unfold pIsN at hp
  split at hp
  · cases hp
    cases re
    refine op_isN pins s σ H _ _ v u Q I rx ry ⟨rfl, k _ _ (Same.refl H) ?_⟩
    cases rd <;> exact .bl _
  · cases hp
theorem op_pNotN : OpD X (compareOp .IsNot) pNotN := by
  intro pins s σ H x y v u Q I rx ry ⟨ρ, S, B, d, e, r, ok, rd, re, hp, k⟩
  unfold pNotN at hp
  split at hp
  · cases hp
    cases re
    refine op_notN pins s σ H _ _ v u Q I rx ry ⟨rfl, k _ _ (Same.refl H) ?_⟩
    cases rd <;> exact .bl _
  · cases hp
theorem eqF_ok {K : Frag} {W : Wd} {d e : D} {v u : V} (rd : Rep K W d v) (re : Rep K W e u) (h1 : pIn.flats [d] = true) (h2 : pIn.flats [e] = true) : eqV v u = pIn.eqF d e := by
  cases rd <;> cases re <;> first | rfl | cases h1 | cases h2
theorem flats_ok {K : Frag} {W : Wd} : ∀ {ds : List D} {vs : List V}, Reps K W ds vs → pIn.flats ds = true → vs.all flatV = true
  | _, _, .nil, _ => rfl
  | d :: ds, v :: vs, .cons h r, z => by
    have z' : (pIn.flats [d] && pIn.flats ds) = true := by
      unfold pIn.flats at z ⊢
      simpa [List.all_cons] using z
    obtain ⟨z1, z2⟩ := Bool.and_eq_true_iff.mp z'
    rw [List.all_cons, flats_ok r z2, Bool.and_true]
    cases h <;> first | rfl | cases z1
theorem any_ok {K : Frag} {W : Wd} {d : D} {v : V} (rd : Rep K W d v) (hd : pIn.flats [d] = true) : ∀ {ds : List D} {vs : List V}, Reps K W ds vs → pIn.flats ds = true → inV v vs = ds.any fun y => pIn.eqF y d
  | _, _, .nil, _ => rfl
  | e :: ds, u :: vs, .cons h r, z => by
    have z' : (pIn.flats [e] && pIn.flats ds) = true := by
      unfold pIn.flats at z ⊢
      simpa [List.all_cons] using z
    obtain ⟨z1, z2⟩ := Bool.and_eq_true_iff.mp z'
    have ih := any_ok rd hd r z2
    unfold inV at ih ⊢
    rw [List.any_cons, List.any_cons, ih, eqF_ok h rd z1 hd]
theorem op_pIn (hu : X.A.units + 65 < cLine) : OpD X (compareOp .In) pIn := by
  intro pins s σ H x y v u Q I rx ry ⟨ρ, S, B, d, e, r, ok, rd, re, hp, k⟩
  unfold pIn at hp
  replace re := re.nt
  generalize nt e = e at re hp
  split at hp
  · cases hp; cases rd; cases re
    exact op_in_str pins s σ H _ _ v u Q I rx ry ⟨_, _, rfl, rfl, k _ _ (Same.refl H) (.bl _)⟩
  · rename_i ys
    split at hp
    · rename_i hf
      cases hp
      cases re with
      | tup h1 q1 =>
        have z' : (pIn.flats [d] && pIn.flats ys) = true := by
          unfold pIn.flats at hf ⊢
          simpa [List.all_cons] using hf
        obtain ⟨z1, z2⟩ := Bool.and_eq_true_iff.mp z'
        have fx : flatV x = true := by
          have := flats_ok (.cons rd .nil) z1
          simpa using this
        refine op_in_seq pins s σ H _ _ v u Q I rx ry ⟨_, _, rfl, .inr h1, fx, flats_ok q1 z2, ?_⟩
        rw [if_neg Bool.false_ne_true, any_ok rd z1 q1 z2]
        exact k _ _ (Same.refl H) (.bl _)
    · cases hp
  · split at hp
    · rename_i p ps h1 h2
      split at hp
      · rename_i hs
        cases hp
        exact op_inD hu pins s σ H x y v u Q I rx ry ⟨p, ps, rd.dpS ok h1, re.dpS ok h2, hs.1, hs.2, k _ _ (Same.refl H) (.bl _)⟩
      · cases hp
    · cases hp
theorem op_pNotIn (hu : X.A.units + 65 < cLine) : OpD X (compareOp .NotIn) pNotIn := by
  intro pins s σ H x y v u Q I rx ry ⟨ρ, S, B, d, e, r, ok, rd, re, hp, k⟩
  unfold pNotIn at hp
  split at hp
  case h_2 => cases hp
  case h_1 b hb =>
    cases hp
    unfold pIn at hb
    replace re := re.nt
    generalize nt e = e at re hb
    split at hb
    · cases hb; cases rd; cases re
      exact op_notin_str pins s σ H _ _ v u Q I rx ry ⟨_, _, rfl, rfl, k _ _ (Same.refl H) (.bl _)⟩
    · rename_i ys
      split at hb
      · rename_i hf
        cases hb
        cases re with
        | tup h1 q1 =>
          have z' : (pIn.flats [d] && pIn.flats ys) = true := by
            unfold pIn.flats at hf ⊢
            simpa [List.all_cons] using hf
          obtain ⟨z1, z2⟩ := Bool.and_eq_true_iff.mp z'
          have fx : flatV x = true := by
            have := flats_ok (.cons rd .nil) z1
            simpa using this
          refine op_notIn_seq pins s σ H _ _ v u Q I rx ry ⟨_, _, rfl, .inr h1, fx, flats_ok q1 z2, ?_⟩
          rw [if_pos rfl, any_ok rd z1 q1 z2]
          exact k _ _ (Same.refl H) (.bl _)
      · cases hb
    · split at hb
      · rename_i p ps h1 h2
        split at hb
        · rename_i hs
          cases hb
          exact op_notInD hu pins s σ H x y v u Q I rx ry ⟨p, ps, rd.dpS ok h1, re.dpS ok h2, hs.1, hs.2, k _ _ (Same.refl H) (.bl _)⟩
        · cases hb
      · cases hb
end

/-! ### items, slices -/
def ixD {α : Type} (xs : List α) (i : Int) : Option α := atI xs i
def pIx (d e : D) (S : Store) : Option D := match d, e with
  | .str z, .int i => if z.length ≤ sizeLine then (atI z.cps.toList i).map fun c => .str ⟨#[c]⟩ else none
  | d, .int i => (seqD d S).bind fun xs => atI xs i
  | _, _ => none
theorem atI_rep {K : Frag} {W : Wd} {xs : List D} {vs : List V} {i : Int} {d : D} (q : Reps K W xs vs) (h : atI xs i = some d) : ∃ v, atI vs i = some v ∧ Rep K W d v := by
  unfold atI at h ⊢
  rw [← q.length]
  obtain ⟨j, h1, h2⟩ := Option.bind_eq_some_iff.mp h
  rw [h1]
  exact q.get h2
section
variable {X : Cx} {Wx : WX} {pos p2 : Pos} {a b : Expr} {f g : L → Store → R D}
theorem ix_pIx : IxR X (rP2 X.K pIx) := by
  intro va sc pins s σ H x y v u Q I rx ry ⟨ρ, S, B, d, e, r, ok, rd, re, hp, k⟩ hs
  unfold pIx at hp
  split at hp
  · split at hp
    · rename_i hz
      obtain ⟨c, h1, rfl⟩ := Option.map_eq_some_iff.mp hp
      cases rd; cases re
      exact ix_seq va sc pins s σ H _ _ v u Q I rx ry (.inr (.inr ⟨_, _, c, rfl, rfl, hz, h1, k _ _ (Same.refl H) (.str _)⟩)) hs
    · cases hp
  · obtain ⟨xs, h1, h2⟩ := Option.bind_eq_some_iff.mp hp
    obtain ⟨a, vs, rfl, h3, q⟩ := seqD_ok ok rd h1
    obtain ⟨w, h4, rw'⟩ := atI_rep q h2
    cases re
    rcases h3 with h3 | h3
    · exact ix_seq va sc pins s σ H _ _ v u Q I rx ry (.inl ⟨a, vs, _, w, rfl, rfl, h3, h4, k _ _ (Same.refl H) rw'⟩) hs
    · exact ix_seq va sc pins s σ H _ _ v u Q I rx ry (.inr (.inl ⟨a, vs, _, w, rfl, rfl, h3, h4, k _ _ (Same.refl H) rw'⟩)) hs
  · cases hp
theorem fe_ix (ha : FE X Wx a f) (hb : FE X Wx b g) (hs : PlainIx b := by exact fun _ _ => rfl) : FE X Wx (.Subscript a b pos) (mBin pIx f g) :=
  (pe_ix ix_pIx ha hb hs).imp fun σ H Q ⟨ρ, S, B, l, ok, sl, h⟩ => bin_ok (W := ⟨ρ, S, H, B⟩) ok sl h

/-- a part of a slice -/
def oNone : L → Store → R (Option Int) := fun _ S => .ok none S
def oSome (f : L → Store → R D) : L → Store → R (Option Int) := fun l S => (f l S).bind fun d S1 => match d with
  | .int i => .ok (some i) S1
  | _ => .bad
def tO (K : Frag) (Wx : WX) (f : L → Store → R (Option Int)) : TO := fun σ H Q => ∃ ρ S B l, Ok K ⟨ρ, S, H, B⟩ ∧ Sl K ⟨ρ, S, H, B⟩ σ l ∧ Post K Wx σ ⟨ρ, S, H, B⟩ (f l S) fun W o => Q o W.H
abbrev FO (X : Cx) (Wx : WX) (e : Option Expr) (f : L → Store → R (Option Int)) : Prop := PO X e (tO X.K Wx f)
theorem _root_.L2.PO.imp {X : Cx} {e : Option Expr} {t t' : TO} (h : PO X e t) (i : ∀ σ H Q, t' σ H Q → t σ H Q) : PO X e t' := ⟨fun p s σ H Q I q => h.run p s σ H Q I (i σ H Q q)⟩
theorem fo_none : FO X Wx none oNone := po_none.imp fun σ H Q ⟨ρ, S, B, l, ok, sl, h⟩ => Post.ok_of (W := ⟨ρ, S, H, B⟩) ok h
theorem fo_some {e : Expr} (h : FE X Wx e f) : FO X Wx (some e) (oSome f) := (po_some h).imp fun σ H Q ⟨ρ, S, B, l, ok, sl, h⟩ => ⟨ρ, S, B, l, ok, sl, h.bind.mono fun W1 d e1 o1 ⟨_, _, h1⟩ v rv => by
  cases rv with
  | int i => exact ⟨i, rfl, Post.ok_of o1 h1⟩
  | _ => exact h1.elim⟩
def cutD {α : Type} (xs : List α) (lo hi : Option Int) : List α := (xs.drop (HT.sIx xs.length 0 lo)).take (HT.sIx xs.length xs.length hi - HT.sIx xs.length 0 lo)
def pSl (d : D) (lo hi : Option Int) (S : Store) : Option D := match nt d with
  | .str z => if z.length ≤ sizeLine then some (.str (cutS z lo hi)) else none
  | .tup xs => some (.tup (cutD xs lo hi))
  | d => (seqL d S).map fun xs => .lst (cutD xs lo hi)
def mSl (f : L → Store → R D) (lo hi : L → Store → R (Option Int)) : L → Store → R D := fun l S => (f l S).bind fun d S1 => (lo l S1).bind fun i S2 => (hi l S2).bind fun j S3 => ofO (pSl d i j S3) S3
theorem Reps.cutD {K : Frag} {W : Wd} {xs : List D} {vs : List V} (q : Reps K W xs vs) (lo hi : Option Int) : Reps K W (cutD xs lo hi) (cutV vs lo hi) := by
  unfold HL.cutD cutV
  rw [← q.length]
  exact (q.drop _).take _
def rSlD (K : Frag) : V → Option Int → Option Int → Hp → VK → Prop := fun x lo hi H Q => ∃ ρ S B d r, Ok K ⟨ρ, S, H, B⟩ ∧ Rep K ⟨ρ, S, H, B⟩ d x ∧ pSl d lo hi S = some r ∧ ∀ H' v, Same H H' → Rep K ⟨ρ, S, H', B⟩ r v → Q v H'
theorem sl_pSl : SlR X (rSlD X.K) := by
  intro pins s σ H x v vl vu lo hi sl Q I rx hsl pl pu ⟨ρ, S, B, d, r, ok, rd, hp, k⟩
  unfold pSl at hp
  replace rd := rd.nt
  generalize nt d = d at rd hp
  split at hp
  · split at hp
    · rename_i hz
      cases hp; cases rd
      exact sl_str pins s σ H _ v vl vu lo hi sl Q I rx hsl pl pu ⟨_, rfl, hz, k _ _ (Same.refl H) (.str _)⟩
    · cases hp
  · rename_i xs
    cases hp
    cases rd with
    | @tup _ vs a h q =>
      refine sl_tupA pins s σ H _ v vl vu lo hi sl Q I rx hsl pl pu ⟨a, vs, rfl, h, fun hw => ?_, fun _ p hp => ?_⟩
      · have e : cutD xs lo hi = xs := by
          rw [← q.length] at hw
          unfold HL.cutD
          rw [hw.1, hw.2, List.drop_zero, Nat.sub_zero, List.take_length]
        rw [e] at k
        exact k _ _ (Same.refl H) (.tup h q)
      · obtain ⟨sm, z⟩ := new_tup ok hp (q.cutD lo hi)
        exact k _ _ sm z
  · obtain ⟨xs, h1, rfl⟩ := Option.map_eq_some_iff.mp hp
    obtain ⟨a, vs, rfl, h3, q⟩ := seqL_ok ok rd h1
    refine sl_list pins s σ H _ v vl vu lo hi sl Q I rx hsl pl pu ⟨a, vs, rfl, h3, fun p hp => ?_⟩
    obtain ⟨sm, z⟩ := new_lst ok hp (q.cutD lo hi)
    exact k _ _ sm z
theorem fe_sl {lo hi : Option Expr} {fl fh : L → Store → R (Option Int)} (ha : FE X Wx a f) (hl : FO X Wx lo fl) (hu : FO X Wx hi fh) : FE X Wx (.Subscript a (.Slice lo hi none p2) pos) (mSl f fl fh) :=
  (pe_slice sl_pSl ha hl hu).imp fun σ H Q ⟨ρ, S, B, l, ok, sl, h⟩ => ⟨ρ, S, B, l, ok, sl, h.bind.mono fun W1 d e1 o1 ⟨_, _, h1⟩ v rv =>
    ⟨W1.ρ, W1.S, W1.B, l, o1, sl.ext e1 ok, h1.bind.mono fun W2 i e2 o2 ⟨_, _, h2⟩ => ⟨W2.ρ, W2.S, W2.B, l, o2, (sl.ext e1 ok).ext e2 o1, h2.bind.mono fun W3 j e3 o3 ⟨_, _, h3⟩ => by
      obtain ⟨r, er, q⟩ := h3.ofO
      exact ⟨W3.ρ, W3.S, W3.B, d, r, o3, (rv.ext e2 o1).ext e3 o2, er, fun H' v' s rv' => q H' s o3 v' rv'⟩⟩⟩⟩
end

/-! ### small built-ins -/
def pLen (ds : List D) (S : Store) : Option D := match ds with
  | [.str z] => if z.length ≤ sizeLine then some (.int z.length) else none
  | [d] => (seqD d S).map fun xs => .int xs.length
  | _ => none
def pInt (ds : List D) (_ : Store) : Option D := match ds with
  | [.int i] => some (.int i)
  | [.bl b] => some (.int (if b then 1 else 0))
  | [.str z] => match PySem.intText? z with
    | some n => if z.length ≤ 640 then some (.int n) else none
    | none => none
  | _ => none
def pAbs (ds : List D) (_ : Store) : Option D := match ds with
  | [.int i] => some (.int (if i < 0 then -i else i))
  | _ => none
def pStr (ds : List D) (_ : Store) : Option D := match ds with
  | [.int i] => if i.natAbs.log2 < 1920 then some (.str (toString i)) else none
  | _ => none
def pBool (ds : List D) (_ : Store) : Option D := match ds with
  | [.int i] => some (.bl (i != 0))
  | [.bl b] => some (.bl b)
  | _ => none
def pMax2 (ds : List D) (_ : Store) : Option D := match ds with
  | [.int i, .int j] => some (.int (if j > i then j else i))
  | _ => none
def pMin2 (ds : List D) (_ : Store) : Option D := match ds with
  | [.int i, .int j] => some (.int (if j < i then j else i))
  | _ => none
def pTuple (ds : List D) (S : Store) : Option D := match ds with
  | [.tup xs] => some (.tup xs)
  | [.tpn xs] => some (.tpn xs)
  | [d] => (seqL d S).map fun xs => .tpn xs
  | _ => none
def pList (ds : List D) (S : Store) : Option D := match ds with
  | [d] => (seqD d S).map fun xs => .lst xs
  | _ => none
def intsD : List D → Option (List Int)
  | [] => some []
  | .int i :: ds => (intsD ds).map (i :: ·)
  | _ => none
def blsD : List D → Option (List Bool)
  | [] => some []
  | .bl i :: ds => (blsD ds).map (i :: ·)
  | _ => none
def pSum (ds : List D) (S : Store) : Option D := match ds with
  | [d] => ((seqD d S).bind intsD).map fun ns => .int ns.sum
  | _ => none
def pAll (ds : List D) (S : Store) : Option D := match ds with
  | [d] => ((seqL d S).bind blsD).map fun bs => .bl (bs.all id)
  | _ => none
def pAny (ds : List D) (S : Store) : Option D := match ds with
  | [d] => ((seqL d S).bind blsD).map fun bs => .bl (bs.any id)
  | _ => none
section
variable {K : Frag} {W : Wd}
theorem ints_ok : ∀ {ds : List D} {vs : List V} {ns : List Int}, Reps K W ds vs → intsD ds = some ns → vs = ns.map V.int
  | _, _, _, .nil, e => by cases e; rfl
  | _, _, _, .cons (d := d) h r, e => by
    cases h with
    | int i =>
      obtain ⟨ns, h1, rfl⟩ := Option.map_eq_some_iff.mp (show (intsD _).map (i :: ·) = some _ from e)
      rw [ints_ok r h1]
      rfl
    | _ => cases e
theorem bls_ok : ∀ {ds : List D} {vs : List V} {ns : List Bool}, Reps K W ds vs → blsD ds = some ns → vs = ns.map V.bl
  | _, _, _, .nil, e => by cases e; rfl
  | _, _, _, .cons (d := d) h r, e => by
    cases h with
    | bl i =>
      obtain ⟨ns, h1, rfl⟩ := Option.map_eq_some_iff.mp (show (blsD _).map (i :: ·) = some _ from e)
      rw [bls_ok r h1]
      rfl
    | _ => cases e
theorem Reps.one {d : D} {vs : List V} (r : Reps K W [d] vs) : ∃ v, vs = [v] ∧ Rep K W d v := by
  cases r with
  | cons h r => cases r; exact ⟨_, rfl, h⟩
theorem Reps.two {d e : D} {vs : List V} (r : Reps K W [d, e] vs) : ∃ v u, vs = [v, u] ∧ Rep K W d v ∧ Rep K W e u := by
  cases r with
  | cons h r => cases r with
    | cons h' r => cases r; exact ⟨_, _, rfl, h, h'⟩
end
section
variable {X : Cx}
theorem call_pLen : CallD X (.builtin "len") pLen := by
  intro pins s σ H xs us Q I r ⟨ρ, S, B, ds, e, ok, rd, hp, k⟩
  unfold pLen at hp
  split at hp
  · split at hp
    · rename_i hz
      cases hp
      obtain ⟨v, rfl, h⟩ := rd.one
      cases h
      exact call_len_str pins s σ H _ us Q I r ⟨_, rfl, hz, k _ _ (Same.refl H) (.int _)⟩
    · cases hp
  · obtain ⟨ys, h1, rfl⟩ := Option.map_eq_some_iff.mp hp
    obtain ⟨v, rfl, h⟩ := rd.one
    obtain ⟨a, vs, rfl, h3, q⟩ := seqD_ok ok h h1
    refine call_len_seq pins s σ H _ us Q I r ⟨a, vs, rfl, h3, ?_⟩
    rw [← q.length]
    exact k _ _ (Same.refl H) (.int _)
  · cases hp
theorem call_pInt : CallD X (.type "int") pInt := by
  intro pins s σ H xs us Q I r ⟨ρ, S, B, ds, e, ok, rd, hp, k⟩
  unfold pInt at hp
  split at hp
  · cases hp
    obtain ⟨v, rfl, h⟩ := rd.one
    cases h
    exact call_int1 pins s σ H _ us Q I r (.inl ⟨_, rfl, k _ _ (Same.refl H) (.int _)⟩)
  · cases hp
    obtain ⟨v, rfl, h⟩ := rd.one
    cases h
    exact call_int1 pins s σ H _ us Q I r (.inr ⟨_, rfl, k _ _ (Same.refl H) (.int _)⟩)
  · rename_i z
    split at hp
    · rename_i n hn
      split at hp
      · rename_i hl
        cases hp
        obtain ⟨v, rfl, h⟩ := rd.one
        cases h
        exact call_int_str pins s σ H _ us Q I r ⟨_, n, rfl, hn, hl, k _ _ (Same.refl H) (.int _)⟩
      · cases hp
    · cases hp
  · cases hp
theorem call_pAbs : CallD X (.builtin "abs") pAbs := by
  intro pins s σ H xs us Q I r ⟨ρ, S, B, ds, e, ok, rd, hp, k⟩
  unfold pAbs at hp
  split at hp
  · cases hp
    obtain ⟨v, rfl, h⟩ := rd.one
    cases h
    exact call_abs pins s σ H _ us Q I r ⟨_, rfl, k _ _ (Same.refl H) (.int _)⟩
  · cases hp
theorem call_pStr : CallD X (.type "str") pStr := by
  intro pins s σ H xs us Q I r ⟨ρ, S, B, ds, e, ok, rd, hp, k⟩
  unfold pStr at hp
  split at hp
  · split at hp
    · rename_i hz
      cases hp
      obtain ⟨v, rfl, h⟩ := rd.one
      cases h
      exact call_str_int pins s σ H _ us Q I r ⟨_, rfl, hz, k _ _ (Same.refl H) (.str _)⟩
    · cases hp
  · cases hp
theorem call_pBool : CallD X (.type "bool") pBool := by
  intro pins s σ H xs us Q I r ⟨ρ, S, B, ds, e, ok, rd, hp, k⟩
  unfold pBool at hp
  split at hp
  · cases hp
    obtain ⟨v, rfl, h⟩ := rd.one
    cases h
    exact call_bool1 pins s σ H _ us Q I r (.inl ⟨_, rfl, k _ _ (Same.refl H) (.bl _)⟩)
  · cases hp
    obtain ⟨v, rfl, h⟩ := rd.one
    cases h
    exact call_bool1 pins s σ H _ us Q I r (.inr ⟨_, rfl, k _ _ (Same.refl H) (.bl _)⟩)
  · cases hp
theorem call_pMax2 (hc : X.calm = true) : CallD X (.builtin "max") pMax2 := by
  intro pins s σ H xs us Q I r ⟨ρ, S, B, ds, e, ok, rd, hp, k⟩
  unfold pMax2 at hp
  split at hp
  · cases hp
    obtain ⟨v, u, rfl, h, h'⟩ := rd.two
    cases h; cases h'
    exact call_max2 hc pins s σ H _ us Q I r ⟨_, _, rfl, k _ _ (Same.refl H) (.int _)⟩
  · cases hp
theorem call_pMin2 (hc : X.calm = true) : CallD X (.builtin "min") pMin2 := by
  intro pins s σ H xs us Q I r ⟨ρ, S, B, ds, e, ok, rd, hp, k⟩
  unfold pMin2 at hp
  split at hp
  · cases hp
    obtain ⟨v, u, rfl, h, h'⟩ := rd.two
    cases h; cases h'
    exact call_min2 hc pins s σ H _ us Q I r ⟨_, _, rfl, k _ _ (Same.refl H) (.int _)⟩
  · cases hp
theorem call_pTuple : CallD X (.type "tuple") pTuple := by
  intro pins s σ H xs us Q I r ⟨ρ, S, B, ds, e, ok, rd, hp, k⟩
  unfold pTuple at hp
  split at hp
  · cases hp
    obtain ⟨v, rfl, h⟩ := rd.one
    cases h with
    | tup h q => exact call_tuple_of pins s σ H _ us Q I r ⟨_, _, rfl, .inr ⟨h, k _ _ (Same.refl H) (.tup h q)⟩⟩
  · cases hp
    obtain ⟨v, rfl, h⟩ := rd.one
    cases h with
    | tpn h q =>
      obtain ⟨o, h, hd⟩ := h
      exact call_tuple_of pins s σ H _ us Q I r ⟨_, _, rfl, .inr ⟨.inl (.inr ⟨o, h⟩), k _ _ (Same.refl H) (.tpn ⟨o, h, hd⟩ q)⟩⟩
  · obtain ⟨ys, h1, rfl⟩ := Option.map_eq_some_iff.mp hp
    obtain ⟨v, rfl, h⟩ := rd.one
    obtain ⟨a, vs, rfl, h3, q⟩ := seqL_ok ok h h1
    obtain ⟨u, rfl, rx⟩ := vals1 r
    cases rx
    obtain ⟨its, r', pl, hz⟩ := I.list h3
    have hlen := r'.length
    refine PySem.call_tuple_list pl.isList (fun h' kp => ?_) (by simp only [List.size_toArray] <;> omega)
    have I1 : Inv X pins σ H { s with heap := h' } := I.kept (t' := s.toks) kp
    have hn : H h'.objs.size = none := I1.hok.fresh (Nat.le_refl _)
    have I2 : Inv X pins σ (upd H h'.objs.size (.frz { cls := .type "tuple", data := .seq its.toArray } (.tup vs))) { s with heap := h'.push { cls := .type "tuple", data := .seq its.toArray } } :=
      I1.laid (t' := s.toks) (fun b o e => Heap.get?_push_of_some _ e) (Nat.le_refl _) ⟨Heap.get?_push_size _ rfl, show ObjOk X.prog X.w _ _ _ (.tup vs) from ⟨hz, its, r', PyProof.Rows.IsTup.new _ _⟩⟩
    have sm : Same H (upd H h'.objs.size (.frz { cls := .type "tuple", data := .seq its.toArray } (.tup vs))) := Same.upd hn
    exact ⟨.ref h'.objs.size, _, I2, rfl, k _ _ sm (.tpn ⟨_, upd_same, rfl⟩ (q.ext (Ext.same sm) ok))⟩
  · cases hp
theorem call_pList : CallD X (.type "list") pList := by
  intro pins s σ H xs us Q I r ⟨ρ, S, B, ds, e, ok, rd, hp, k⟩
  unfold pList at hp
  split at hp
  · obtain ⟨ys, h1, rfl⟩ := Option.map_eq_some_iff.mp hp
    obtain ⟨v, rfl, h⟩ := rd.one
    obtain ⟨a, vs, rfl, h3, q⟩ := seqD_ok ok h h1
    refine call_list_of pins s σ H _ us Q I r ⟨a, vs, rfl, h3, fun l hl => ?_⟩
    obtain ⟨sm, z⟩ := new_lst ok hl q
    exact k _ _ sm z
  · cases hp
theorem call_pSum (hc : X.calm = true) : CallD X (.builtin "sum") pSum := by
  intro pins s σ H xs us Q I r ⟨ρ, S, B, ds, e, ok, rd, hp, k⟩
  unfold pSum at hp
  split at hp
  · obtain ⟨ns, h1, rfl⟩ := Option.map_eq_some_iff.mp hp
    obtain ⟨ys, h2, h4⟩ := Option.bind_eq_some_iff.mp h1
    obtain ⟨v, rfl, h⟩ := rd.one
    obtain ⟨a, vs, rfl, h3, q⟩ := seqD_ok ok h h2
    rw [ints_ok q h4] at h3
    rcases h3 with h3 | h3
    · exact cr_sum hc pins s σ H _ us Q I r ⟨a, ns, rfl, h3, k _ _ (Same.refl H) (.int _)⟩
    · obtain ⟨its, rv, hl, _⟩ := I.tuple h3
      rw [Vals.ref1 r]
      have hi := rv.ints
      obtain ⟨xs, hx⟩ := hi.allInts.items
      have hn : PySem.numsOf (PySem.intItems xs).toList = ns := by rw [← hx]; exact hi.numsOf
      rw [PySem.nums_intItems] at hn
      have hl2 : s.heap.IsTuple a (PySem.intItems xs) := by rw [← hx]; exact hl
      refine PySem.W.ktm_sumG (I.ok.hd hc) hl2 fun h' tk t' hk => ?_
      rw [PySem.preSum_eq, List.take_of_length_le (by simp), hn]
      exact ⟨.int _, H, I.kept hk, ⟨_, rfl⟩, k _ _ (Same.refl H) (.int _)⟩
  · cases hp
theorem call_pAll (hc : X.calm = true) : CallD X (.builtin "all") pAll := by
  intro pins s σ H xs us Q I r ⟨ρ, S, B, ds, e, ok, rd, hp, k⟩
  unfold pAll at hp
  split at hp
  · obtain ⟨ns, h1, rfl⟩ := Option.map_eq_some_iff.mp hp
    obtain ⟨ys, h2, h4⟩ := Option.bind_eq_some_iff.mp h1
    obtain ⟨v, rfl, h⟩ := rd.one
    obtain ⟨a, vs, rfl, h3, q⟩ := seqL_ok ok h h2
    rw [bls_ok q h4] at h3
    exact cr_all hc pins s σ H _ us Q I r ⟨a, ns, rfl, h3, k _ _ (Same.refl H) (.bl _)⟩
  · cases hp
theorem call_pAny (hc : X.calm = true) : CallD X (.builtin "any") pAny := by
  intro pins s σ H xs us Q I r ⟨ρ, S, B, ds, e, ok, rd, hp, k⟩
  unfold pAny at hp
  split at hp
  · obtain ⟨ns, h1, rfl⟩ := Option.map_eq_some_iff.mp hp
    obtain ⟨ys, h2, h4⟩ := Option.bind_eq_some_iff.mp h1
    obtain ⟨v, rfl, h⟩ := rd.one
    obtain ⟨a, vs, rfl, h3, q⟩ := seqL_ok ok h h2
    rw [bls_ok q h4] at h3
    exact cr_any hc pins s σ H _ us Q I r ⟨a, ns, rfl, h3, k _ _ (Same.refl H) (.bl _)⟩
  · cases hp
variable {Wx : WX} {x : Str} {p pos : Pos} {e : Expr} {es : List Expr} {id T : String} {pf : List D → Store → Option D} {fa : L → Store → R (List D)}
theorem cb_ok {K : Frag} {σ : L2.St} {H : Hp} {Q : VK} (h : tE K Wx (mCall pf fa) σ H Q) : tCB (rPl K pf) (tL K Wx fa) σ H Q := by
  obtain ⟨ρ, S, B, l, ok, sl, h⟩ := h
  refine ⟨ρ, S, B, l, ok, sl, h.bind.mono fun W1 ds e1 o1 ⟨_, _, h1⟩ vs rvs => ?_⟩
  obtain ⟨r, er, q⟩ := h1.ofO
  exact ⟨W1.ρ, W1.S, W1.B, ds, r, o1, rvs, er, fun H' v' s rv' => q H' s o1 v' rv'⟩
theorem fe_b (hc : CallD X (.builtin id) pf) (hm : X.mg x = none) (hv : bootBuiltins x = some (.builtin id)) (hg : Gl X x) (ha : FA X Wx (e :: es) fa) (hn : x ≠ "__name__" := by decide) (hdb : (x == ("__debug__" : Str)) = false := by decide)
    (he : starEach (e :: es) X.env = (false, eval e X.env) :: starEach es X.env := by rfl) (hpl : (backTo pos (starEach es X.env)).any (·.1) = false := by rfl) : FE X Wx (.Call (.Name x p) (e :: es) [] pos) (mCall pf fa) :=
  (pe_callB hc hg hm hv ha hn hdb he hpl).imp fun σ H Q h => cb_ok h
theorem fe_ty (hc : CallD X (.type T) pf) (hm : X.mg x = none) (hv : bootBuiltins x = some (.type T)) (hg : Gl X x) (ha : FA X Wx (e :: es) fa) (hn : x ≠ "__name__" := by decide) (hdb : (x == ("__debug__" : Str)) = false := by decide)
    (he : starEach (e :: es) X.env = (false, eval e X.env) :: starEach es X.env := by rfl) (hpl : (backTo pos (starEach es X.env)).any (·.1) = false := by rfl) : FE X Wx (.Call (.Name x p) (e :: es) [] pos) (mCall pf fa) :=
  (pe_callTy hc hg hm hv ha hn hdb he hpl).imp fun σ H Q h => cb_ok h
end
end HL
end
section
set_option Elab.async false
set_option linter.all false
set_option maxRecDepth 100000
set_option maxHeartbeats 1000000
namespace HL
open PySem PySem.Spec L2

/-! ### targets: names -/
abbrev Tgt := D → Store → Option (List (Nat × D))
def setA {α : Type} (l : List (Option α)) : List (Nat × α) → List (Option α)
  | [] => l
  | (i, d) :: r => setA (l.set i (some d)) r
inductive RepA (K : Frag) (W : Wd) : List (Nat × D) → List (Nat × V) → Prop
  | nil : RepA K W [] []
  | cons {i : Nat} {d : D} {v : V} {as : List (Nat × D)} {vs : List (Nat × V)} : Rep K W d v → RepA K W as vs → RepA K W ((i, d) :: as) ((i, v) :: vs)
theorem RepA.append {K : Frag} {W : Wd} : ∀ {as bs : List (Nat × D)} {vs ws : List (Nat × V)}, RepA K W as vs → RepA K W bs ws → RepA K W (as ++ bs) (vs ++ ws)
  | _, _, _, _, .nil, s => s
  | _, _, _, _, .cons h r, s => .cons h (RepA.append r s)
theorem RepA.split {K : Frag} {W : Wd} : ∀ {as bs : List (Nat × D)} {vs : List (Nat × V)}, RepA K W (as ++ bs) vs → ∃ v1 v2, vs = v1 ++ v2 ∧ RepA K W as v1 ∧ RepA K W bs v2
  | [], _, vs, h => ⟨[], vs, rfl, .nil, h⟩
  | (i, d) :: as, bs, _, .cons h r => by
    obtain ⟨v1, v2, e, h1, h2⟩ := RepA.split (as := as) r
    exact ⟨(i, _) :: v1, v2, by rw [e]; rfl, .cons h h1, h2⟩
theorem setA_append {α : Type} : ∀ (as bs : List (Nat × α)) (l : List (Option α)), setA l (as ++ bs) = setA (setA l as) bs
  | [], _, _ => rfl
  | (i, d) :: as, bs, l => setA_append as bs _
theorem Sl.setA {K : Frag} {W : Wd} : ∀ {as : List (Nat × D)} {vs : List (Nat × V)} {σ : L2.St} {l : L}, Sl K W σ l → RepA K W as vs → Sl K W (HL.setA σ vs) (HL.setA l as)
  | _, _, _, _, s, .nil => s
  | _, _, _, _, s, .cons (i := i) (as := as) (vs := vs) h r => by
    unfold HL.setA
    exact Sl.setA (s.set h i) r
theorem RepA.ix {K : Frag} {W : Wd} : ∀ {as : List (Nat × D)} {vs : List (Nat × V)}, RepA K W as vs → as.map (·.1) = vs.map (·.1)
  | _, _, .nil => rfl
  | _, _, .cons h r => by
    rw [List.map_cons, List.map_cons, RepA.ix r]
def tG (K : Frag) (b : Tgt) : TG := fun v σ H Q => ∃ ρ S B d as, Ok K ⟨ρ, S, H, B⟩ ∧ Rep K ⟨ρ, S, H, B⟩ d v ∧ b d S = some as ∧ ∀ vs, RepA K ⟨ρ, S, H, B⟩ as vs → Q (setA σ vs) H
def tGs (K : Frag) (b : List D → Store → Option (List (Nat × D))) : TGs := fun us σ H Q => ∃ ρ S B ds as, Ok K ⟨ρ, S, H, B⟩ ∧ Reps K ⟨ρ, S, H, B⟩ ds us ∧ b ds S = some as ∧ ∀ vs, RepA K ⟨ρ, S, H, B⟩ as vs → Q (setA σ vs) H
structure FG (X : Cx) (e : Expr) (b : Tgt) (ix : List Nat) : Prop where
  g : PG X e (tG X.K b)
  ix : ∀ d S as, b d S = some as → as.map (·.1) = ix
structure FGs (X : Cx) (es : List Expr) (b : List D → Store → Option (List (Nat × D))) (ix : List Nat) : Prop where
  g : PGs X es (tGs X.K b)
  ix : ∀ d S as, b d S = some as → as.map (·.1) = ix
theorem _root_.L2.PG.imp {X : Cx} {e : Expr} {t t' : TG} (h : PG X e t) (i : ∀ v σ H Q, t' v σ H Q → t v σ H Q) : PG X e t' := ⟨fun p s σ H v u Q I r q => h.run p s σ H v u Q I r (i v σ H Q q)⟩
theorem _root_.L2.PGs.imp {X : Cx} {e : List Expr} {t t' : TGs} (h : PGs X e t) (i : ∀ v σ H Q, t' v σ H Q → t v σ H Q) : PGs X e t' := ⟨fun p s σ H v u Q I r q => h.run p s σ H v u Q I r (i v σ H Q q)⟩
theorem _root_.L2.PG.or {X : Cx} {e : Expr} {t t' : TG} (h : PG X e t) (h' : PG X e t') : PG X e (fun v σ H Q => t v σ H Q ∨ t' v σ H Q) := ⟨fun p s σ H v u Q I r q => by
  rcases q with q | q
  · exact h.run p s σ H v u Q I r q
  · exact h'.run p s σ H v u Q I r q⟩
def gN (i : Nat) : Tgt := fun d _ => some [(i, d)]
def gsNil : List D → Store → Option (List (Nat × D)) := fun ds _ => match ds with
  | [] => some []
  | _ => none
def gsCons (b : Tgt) (c : List D → Store → Option (List (Nat × D))) : List D → Store → Option (List (Nat × D)) := fun ds S => match ds with
  | d :: ds => match b d S, c ds S with
    | some as, some bs => some (as ++ bs)
    | _, _ => none
  | [] => none
def gT (n : Nat) (c : List D → Store → Option (List (Nat × D))) : Tgt := fun d S => match seqD d S with
  | some ds => if ds.length = n then c ds S else none
  | none => none
section
variable {X : Cx} {pos : Pos} {e : Expr} {es : List Expr} {b : Tgt} {c : List D → Store → Option (List (Nat × D))} {ix iy : List Nat}
theorem fg_name (i : Nat) {x : Str} (hN : X.N.Nodup) (hi : X.N[i]? = some x := by rfl) (hx : Loc X.env.scope x := by first | exact Or.inl rfl | exact Or.inr rfl) (hf : X.fn x = true ∨ X.env.scope.names.lookup x = some .local := by first | exact .inl rfl | exact .inr rfl) : FG X (.Name x pos) (gN i) [i] :=
  ⟨(pg_name hN hi hx hf).imp fun v σ H Q ⟨ρ, S, B, d, as, ok, r, e, q⟩ => by
    cases e
    exact q [(i, v)] (.cons r .nil), fun d S as e => by cases e; rfl⟩
theorem gsNil_ix : ∀ d S as, gsNil d S = some as → as.map (·.1) = [] := fun d S as e => by
  unfold gsNil at e
  split at e
  · cases e; rfl
  · cases e
theorem fgs_nil : FGs X [] gsNil [] :=
  ⟨pgs_nil.imp fun v σ H Q ⟨ρ, S, B, ds, as, ok, r, e, q⟩ => by
    cases r with
    | nil =>
      cases e
      exact ⟨rfl, q [] .nil⟩
    | cons _ _ => exact (nomatch e), gsNil_ix⟩
theorem gsCons_ix (h : ∀ d S as, b d S = some as → as.map (·.1) = ix) (r : ∀ d S as, c d S = some as → as.map (·.1) = iy) : ∀ d S as, gsCons b c d S = some as → as.map (·.1) = ix ++ iy := fun d S as e => by
  unfold gsCons at e
  split at e
  · rename_i d ds
    split at e
    · rename_i a1 a2 h1 h2
      cases e
      rw [List.map_append, h _ _ _ h1, r _ _ _ h2]
    · cases e
  · cases e
theorem gT_ix {n : Nat} (h : ∀ d S as, c d S = some as → as.map (·.1) = ix) : ∀ d S as, gT n c d S = some as → as.map (·.1) = ix := fun d S as e => by
  unfold gT at e
  split at e
  · split at e
    · exact h _ _ _ e
    · cases e
  · cases e
theorem fgs_cons (h : FG X e b ix) (r : FGs X es c iy) (hs : (assignEach (e :: es) X.env).map (·.2) = assign e X.env :: (assignEach es X.env).map (·.2) := by rfl) : FGs X (e :: es) (gsCons b c) (ix ++ iy) :=
  ⟨(pgs_cons h.g r.g hs).imp fun us σ H Q ⟨ρ, S, B, ds, as, ok, rr, e, q⟩ => by
    cases rr with
    | nil => cases e
    | @cons d v ds vs rd rs =>
      unfold gsCons at e
      dsimp only at e
      cases h1 : b d S with
      | none => rw [h1] at e; cases e
      | some a1 => cases h2 : c ds S with
        | none => rw [h1, h2] at e; cases e
        | some a2 =>
          rw [h1, h2] at e
          cases e
          refine ⟨v, vs, rfl, ρ, S, B, d, a1, ok, rd, h1, fun w1 r1 => ⟨ρ, S, B, ds, a2, ok, rs, h2, fun w2 r2 => ?_⟩⟩
          have z := q (w1 ++ w2) (r1.append r2)
          rw [setA_append] at z
          exact z, gsCons_ix h.ix r.ix⟩
theorem fg_tup {k n : Nat} (hc : X.calm = true) (h : FGs X es c ix) (hn : (assignEach es X.env).length = n := by rfl) (hst : (assignEach es X.env).findIdx? (·.1) = none := by rfl) : FG X (.Tuple es k pos) (gT n c) ix :=
  ⟨((pg_tup hc h.g hn hst).or (pg_lst hc h.g hn hst)).imp fun v σ H Q ⟨ρ, S, B, d, as, ok, r, e, q⟩ => by
    unfold gT at e
    cases h1 : seqD d S with
    | none => rw [h1] at e; cases e
    | some ds =>
      rw [h1] at e
      dsimp only at e
      by_cases hl : ds.length = n
      · rw [if_pos hl] at e
        obtain ⟨a, vs, rfl, h2, q2⟩ := seqD_ok ok r h1
        rcases h2 with h2 | h2
        · exact .inr ⟨a, vs, rfl, h2, by rw [← q2.length]; exact hl, ρ, S, B, ds, as, ok, q2, e, q⟩
        · exact .inl ⟨a, vs, rfl, h2, by rw [← q2.length]; exact hl, ρ, S, B, ds, as, ok, q2, e, q⟩
      · rw [if_neg hl] at e
        exact (nomatch e), gT_ix h.ix⟩
end

/-! ### what is walked -/
/-- lists in the store that are walked stay as they are -/
abbrev Hld := List (Nat × List D)
def held : Hld → Store → Prop
  | [], _ => True
  | (n, ds) :: w, S => S[n]? = some (.lst ds) ∧ held w S
@[simp] theorem held_none (S : Store) : held [] S = True := rfl
@[simp] theorem held_some (n : Nat) (ds : List D) (w : Hld) (S : Store) : held ((n, ds) :: w) S = (S[n]? = some (.lst ds) ∧ held w S) := rfl
structure ItD (K : Frag) (W : Wd) (w : Hld) (ds : List D) (J : It) : Prop where
  go : ∀ W' i, Exw W W' → Ok K W' → held w W'.S → i < ds.length → J.go i W'.H
  yld : ∀ W' i x H', Exw W W' → Ok K W' → held w W'.S → i < ds.length → J.yld i W'.H x H' → Same W'.H H' ∧ ∃ d, ds[i]? = some d ∧ Rep K ⟨W'.ρ, W'.S, H', W'.B⟩ d x
  stop : ∀ W' i, Exw W W' → Ok K W' → held w W'.S → ds.length = i → J.stop i W'.H
abbrev Src := List D × Hld
def tI (K : Frag) (Wx : WX) (f : L → Store → R Src) : TI := fun σ H Q => ∃ ρ S B l, Ok K ⟨ρ, S, H, B⟩ ∧ Sl K ⟨ρ, S, H, B⟩ σ l ∧ Post K Wx σ ⟨ρ, S, H, B⟩ (f l S) fun W x => ∀ J, ItD K W x.2 x.1 J → Q J W.H
abbrev FI (X : Cx) (Wx : WX) (tg e : Expr) (f : L → Store → R Src) : Prop := PI X tg e (tI X.K Wx f)
theorem _root_.L2.PI.imp {X : Cx} {tg e : Expr} {t t' : TI} (h : PI X tg e t) (i : ∀ σ H Q, t' σ H Q → t σ H Q) : PI X tg e t' := ⟨fun p s σ H Q I q => h.run p s σ H Q I (i σ H Q q)⟩
/-- the items of a list, a tuple, a text -/
def itemsV (d : D) (S : Store) : Option Src := match d with
  | .tup xs => some (xs, [])
  | .tpn xs => some (xs, [])
  | .lst xs => some (xs, [])
  | .scr xs => some (xs, [])
  | .str z => some (z.cps.toList.map fun c => .str ⟨#[c]⟩, [])
  | .loc n => match S[n]? with
    | some (.lst xs) => some (xs, [(n, xs)])
    | _ => none
  | _ => none
def iVal (f : L → Store → R D) : L → Store → R Src := fun l S => (f l S).bind fun d S1 => ofO (itemsV d S1) S1
section
variable {K : Frag} {W : Wd}
theorem itd_list {a : Addr} {xs : List D} {vs : List V} (h : Sq W a vs) (q : Reps K W xs vs) (ok : Ok K W) : ItD K W [] xs (Itl K a) where
  go := fun W' i e o _ hi => by
    obtain ⟨v, hv, _⟩ := q.get (List.getElem?_eq_getElem hi)
    exact ⟨vs, v, (h.ext e).sql, hv⟩
  yld := fun W' i x H' e o _ hi ⟨eH, y⟩ => by
    subst eH
    have hx := y vs (h.ext e).sql
    obtain ⟨d, h1, h2⟩ := (Reps.exw e ok q).got hx
    exact ⟨Same.refl _, d, h1, h2⟩
  stop := fun W' i e o _ hi => ⟨vs, (h.ext e).sql, by rw [← q.length]; omega⟩
theorem itd_loc {n : Nat} {xs : List D} (hn : n < W.S.length) (ok : Ok K W) : ItD K W [(n, xs)] xs (Itl K (W.ρ n)) where
  go := fun W' i e o hh hi => by
    obtain ⟨vs, ha, q⟩ := o.obj n _ hh.1
    obtain ⟨v, hv, _⟩ := q.get (List.getElem?_eq_getElem hi)
    rw [e.rho n hn] at ha
    exact ⟨vs, v, .inl (.inl ha), hv⟩
  yld := fun W' i x H' e o hh hi ⟨eH, y⟩ => by
    subst eH
    obtain ⟨vs, ha, q⟩ := o.obj n _ hh.1
    rw [e.rho n hn] at ha
    have hx := y vs (.inl (.inl ha))
    obtain ⟨d, h1, h2⟩ := q.got hx
    exact ⟨Same.refl _, d, h1, h2⟩
  stop := fun W' i e o hh hi => by
    obtain ⟨vs, ha, q⟩ := o.obj n _ hh.1
    rw [e.rho n hn] at ha
    exact ⟨vs, .inl (.inl ha), by rw [← q.length]; omega⟩
theorem itd_scr {a : Addr} {xs : List D} {vs : List V} (h : SqF K W.H a vs) (q : Reps K W xs vs) (ok : Ok K W) : ItD K W [] xs (Itl K a) where
  go := fun W' i e o _ hi => by
    obtain ⟨v, hv, _⟩ := q.get (List.getElem?_eq_getElem hi)
    exact ⟨vs, v, (SqF.ext e ok h).sql, hv⟩
  yld := fun W' i x H' e o _ hi ⟨eH, y⟩ => by
    subst eH
    have hx := y vs ((SqF.ext e ok h).sql)
    obtain ⟨d, h1, h2⟩ := (Reps.exw e ok q).got hx
    exact ⟨Same.refl _, d, h1, h2⟩
  stop := fun W' i e o _ hi => ⟨vs, (SqF.ext e ok h).sql, by rw [← q.length]; omega⟩
theorem itd_tup {a : Addr} {xs : List D} {vs : List V} (h : SqT K W.H a vs) (q : Reps K W xs vs) (ok : Ok K W) : ItD K W [] xs (Itt K a) where
  go := fun W' i e o _ hi => by
    obtain ⟨v, hv, _⟩ := q.get (List.getElem?_eq_getElem hi)
    exact ⟨vs, v, SqT.ext e ok h, hv⟩
  yld := fun W' i x H' e o _ hi ⟨eH, y⟩ => by
    subst eH
    have hx := y vs (SqT.ext e ok h)
    obtain ⟨d, h1, h2⟩ := (Reps.exw e ok q).got hx
    exact ⟨Same.refl _, d, h1, h2⟩
  stop := fun W' i e o _ hi => ⟨vs, SqT.ext e ok h, by rw [← q.length]; omega⟩
theorem itd_str {z : Str} : ItD K W [] (z.cps.toList.map fun c => .str ⟨#[c]⟩) (Its z) where
  go := fun W' i e o _ hi => by
    show i < z.cps.size
    simpa using hi
  yld := fun W' i x H' e o _ hi ⟨eH, c, hc, ev⟩ => by
    subst eH ev
    refine ⟨Same.refl _, .str ⟨#[c]⟩, ?_, .str _⟩
    rw [List.getElem?_map]
    have : z.cps.toList[i]? = some c := by simpa using hc
    rw [this]
    rfl
  stop := fun W' i e o _ hi => by
    show z.cps.size ≤ i
    have : z.cps.size = i := by simpa using hi
    omega
theorem itd_rng {lo : Int} {n : Nat} : ItD K W [] ((List.range n).map fun (i : Nat) => .int (lo + i)) (Itr lo n) where
  go := fun W' i e o _ hi => by
    show i < n
    simpa using hi
  yld := fun W' i x H' e o _ hi ⟨eH, ev⟩ => by
    subst eH ev
    have hi' : i < n := by simpa using hi
    refine ⟨Same.refl _, .int (lo + i), ?_, .int _⟩
    rw [List.getElem?_map, List.getElem?_range hi']
    rfl
  stop := fun W' i e o _ hi => by
    show n ≤ i
    have : n = i := by simpa using hi
    omega
end
section
variable {X : Cx} {Wx : WX} {tg e a b : Expr} {f g : L → Store → R D} {fa : L → Store → R (List D)} {p pos : Pos}
theorem _root_.L2.PI.or {X : Cx} {tg e : Expr} {t t' : TI} (h : PI X tg e t) (h' : PI X tg e t') : PI X tg e (fun σ H Q => t σ H Q ∨ t' σ H Q) := ⟨fun p s σ H Q I q => by
  rcases q with q | q
  · exact h.run p s σ H Q I q
  · exact h'.run p s σ H Q I q⟩
/-- over a list, a tuple, a text -/
theorem fi_val (he : FE X Wx e f) : FI X Wx tg e (iVal f) :=
  ((pi_list he).or ((pi_tup he).or (pi_str he))).imp fun σ H Q ⟨ρ, S, B, l, ok, sl, h⟩ => by
    have hb := h.bind
    cases q : f l S with
    | bad => rw [q] at hb; exact hb.elim
    | exc x S1 =>
      rw [q] at hb
      refine .inl ⟨ρ, S, B, l, ok, sl, ?_⟩
      rw [q]
      exact hb
    | ok d S1 =>
      rw [q] at hb
      cases d with
      | tup xs =>
        refine .inr (.inl ⟨ρ, S, B, l, ok, sl, ?_⟩)
        rw [q]
        exact fun ρ' H' e' o' v rv => by
          obtain ⟨_, _, h1⟩ := hb ρ' H' e' o'
          cases rv with
          | tup h2 q2 => exact ⟨_, rfl, ⟨_, h2⟩, Post.ok_of (W := ⟨ρ', S1, H', B⟩) o' h1 _ (itd_tup h2 q2 o')⟩
      | tpn xs =>
        refine .inr (.inl ⟨ρ, S, B, l, ok, sl, ?_⟩)
        rw [q]
        exact fun ρ' H' e' o' v rv => by
          obtain ⟨_, _, h1⟩ := hb ρ' H' e' o'
          cases rv with
          | tpn h2 q2 =>
            obtain ⟨o2, h2, _⟩ := h2
            exact ⟨_, rfl, ⟨_, .inl (.inr ⟨o2, h2⟩)⟩, Post.ok_of (W := ⟨ρ', S1, H', B⟩) o' h1 _ (itd_tup (.inl (.inr ⟨o2, h2⟩)) q2 o')⟩
      | lst xs =>
        refine .inl ⟨ρ, S, B, l, ok, sl, ?_⟩
        rw [q]
        exact fun ρ' H' e' o' v rv => by
          obtain ⟨_, _, h1⟩ := hb ρ' H' e' o'
          cases rv with
          | lst h2 q2 => exact ⟨_, rfl, ⟨_, h2.sql⟩, Post.ok_of (W := ⟨ρ', S1, H', B⟩) o' h1 _ (itd_list h2 q2 o')⟩
      | loc n =>
        refine .inl ⟨ρ, S, B, l, ok, sl, ?_⟩
        rw [q]
        exact fun ρ' H' e' o' v rv => by
          obtain ⟨_, _, h1⟩ := hb ρ' H' e' o'
          cases rv with
          | loc hn =>
            have hn : n < S1.length := hn
            cases q2 : S1[n]? with
            | none => simp [itemsV, q2, ofO] at h1; exact h1.elim
            | some ob => cases ob with
              | ins C ks xs => simp [itemsV, q2, ofO] at h1; exact h1.elim
              | tab x => simp [itemsV, q2, ofO] at h1; exact h1.elim
              | dct hs kvs => simp [itemsV, q2, ofO] at h1; exact h1.elim
              | lst xs =>
                simp only [itemsV, q2, ofO] at h1
                obtain ⟨vs, ha, _⟩ := o'.obj n _ q2
                exact ⟨_, rfl, ⟨_, .inl (.inl ha)⟩, Post.ok_of (W := ⟨ρ', S1, H', B⟩) o' h1 _ (itd_loc (W := ⟨ρ', S1, H', B⟩) hn o')⟩
      | scr xs =>
        refine .inl ⟨ρ, S, B, l, ok, sl, ?_⟩
        rw [q]
        exact fun ρ' H' e' o' v rv => by
          obtain ⟨_, _, h1⟩ := hb ρ' H' e' o'
          cases rv with
          | scr h2 q2 =>
            exact ⟨_, rfl, ⟨_, h2.sql⟩, Post.ok_of (W := ⟨ρ', S1, H', B⟩) o' h1 _ (itd_scr h2 q2 o')⟩
      | str z =>
        refine .inr (.inr ⟨ρ, S, B, l, ok, sl, ?_⟩)
        rw [q]
        exact fun ρ' H' e' o' v rv => by
          obtain ⟨_, _, h1⟩ := hb ρ' H' e' o'
          cases rv
          exact ⟨_, rfl, Post.ok_of (W := ⟨ρ', S1, H', B⟩) o' h1 _ itd_str⟩
      | _ =>
        refine .inl ⟨ρ, S, B, l, ok, sl, ?_⟩
        rw [q]
        exact fun ρ' H' e' o' v rv => (hb ρ' H' e' o').2.2.elim
/-- over range(a), range(a, b) -/
def iRg1 (fa : L → Store → R (List D)) : L → Store → R Src := fun l S => (fa l S).bind fun ds S1 => match ds with
  | [.int j] => if j < 2 ^ 62 ∧ -(2 ^ 62) ≤ j then .ok ((List.range j.toNat).map fun (i : Nat) => .int (0 + i), []) S1 else .bad
  | _ => .bad
def iRg2 (fa : L → Store → R (List D)) : L → Store → R Src := fun l S => (fa l S).bind fun ds S1 => match ds with
  | [.int i, .int j] => if (-(2 ^ 62) ≤ i ∧ i < 2 ^ 62) ∧ -(2 ^ 62) ≤ j ∧ j < 2 ^ 62 then .ok ((List.range (j - i).toNat).map fun (k : Nat) => .int (i + k), []) S1 else .bad
  | _ => .bad
theorem fi_rg1 (hm : X.mg "range" = none) (hg : Gl X "range") (ha : FA X Wx [a] fa) (hs : starEach [a] X.env = [(false, eval a X.env)] := by rfl) : FI X Wx tg (.Call (.Name "range" p) [a] [] pos) (iRg1 fa) :=
  (pi_range1 hg hm ha hs).imp fun σ H Q ⟨ρ, S, B, l, ok, sl, h⟩ => ⟨ρ, S, B, l, ok, sl, h.bind.mono fun W1 ds e1 o1 ⟨_, _, h1⟩ vs rvs => by
    split at h1
    · obtain ⟨hc, h1⟩ := Post.iff_ok h1
      obtain ⟨v, rfl, r⟩ := rvs.one
      cases r
      exact ⟨_, rfl, hc.2, hc.1, Post.ok_of o1 h1 _ itd_rng⟩
    · exact h1.elim⟩
theorem fi_rg2 (hm : X.mg "range" = none) (hg : Gl X "range") (ha : FA X Wx [a, b] fa) (hs : starEach [a, b] X.env = [(false, eval a X.env), (false, eval b X.env)] := by rfl) (hs2 : starEach [b] X.env = [(false, eval b X.env)] := by rfl) :
    FI X Wx tg (.Call (.Name "range" p) [a, b] [] pos) (iRg2 fa) :=
  (pi_range2 hg hm ha hs hs2).imp fun σ H Q ⟨ρ, S, B, l, ok, sl, h⟩ => ⟨ρ, S, B, l, ok, sl, h.bind.mono fun W1 ds e1 o1 ⟨_, _, h1⟩ vs rvs => by
    split at h1
    · obtain ⟨hc, h1⟩ := Post.iff_ok h1
      obtain ⟨v, u, rfl, r, r'⟩ := rvs.two
      cases r; cases r'
      exact ⟨_, _, rfl, ⟨hc.1.1, hc.1.2, hc.2.1, hc.2.2⟩, Post.ok_of o1 h1 _ itd_rng⟩
    · exact h1.elim⟩
end

/-! ### for -/
open Classical in
noncomputable def forGo (g : Tgt) (b : L → Store → Fl) (w : Hld) : List D → L → Store → Fl
  | [], l, S => if held w S then .nx l S else .bad
  | d :: ds, l, S => if held w S then match g d S with
    | none => .bad
    | some as => match b (setA l as) S with
      | .nx l1 S1 => forGo g b w ds l1 S1
      | .ct l1 S1 => forGo g b w ds l1 S1
      | .bk l1 S1 => .nx l1 S1
      | .rt d S1 => .rt d S1
      | .exc e l1 S1 => .exc e l1 S1
      | .bad => .bad
    else .bad
noncomputable def sFor (fi : L → Store → R Src) (g : Tgt) (b : L → Store → Fl) : L → Store → Fl := fun l S => (fi l S).toS l fun x S1 => forGo g b x.2 x.1 l S1
theorem PostS.iff_ok {K : Frag} {Wx : WX} {W : Wd} {c : Prop} [Decidable c] {r : Fl} {E : Ends} (h : PostS K Wx W (if c then r else .bad) E) : c ∧ PostS K Wx W r E := by
  by_cases hc : c
  · rw [if_pos hc] at h
    exact ⟨hc, h⟩
  · rw [if_neg hc] at h
    exact h.elim
section
variable {X : Cx} {Wx : WX} {tg e : Expr} {f : L → Store → R Src} {g : Tgt} {ix : List Nat} {body : List Stmt} {fb : L → Store → Fl} {pos : Pos}
open Classical in
theorem fs_for (hp : PassesOwn (model X.prog X.w) X.A X.env X.xe) (hc : X.calm = true) (hi : FI X Wx tg e f) (hg : FG X tg g ix) (hb : FB X Wx body fb) (hs : ∀ x, foldedSetIterable e X.env x = pure x := by intro _; rfl) :
    FS X Wx (.For tg e body [] pos) (sFor f g fb) :=
  (ps_for hp hc hi hg.g hb hs).imp fun D σ H ⟨ρ, S, B, l, ok, sl, h⟩ => ⟨ρ, S, B, l, ok, sl, (h.toS sl ok).mono fun W1 x e1 o1 ⟨_, _, h1⟩ J it => by
    obtain ⟨ds, w⟩ := x
    dsimp only at h1 it
    refine ⟨fun i m σ H => m = ds.length - i ∧ i ≤ ds.length ∧ ∃ ρ S l, Ok X.K ⟨ρ, S, H, W1.B⟩ ∧ Sl X.K ⟨ρ, S, H, W1.B⟩ σ l ∧ Ext W1 ⟨ρ, S, H, W1.B⟩ ∧ PostS X.K Wx ⟨ρ, S, H, W1.B⟩ (forGo g fb w (ds.drop i) l S) D,
      ⟨ds.length, by simp, Nat.zero_le _, W1.ρ, W1.S, l, o1, sl.ext e1 ok, Ext.refl _, by simpa using h1⟩, ?_⟩
    rintro i m σ H ⟨rfl, hi, ρ, S, l, ok, sl, e, h⟩
    by_cases hlt : i < ds.length
    · rw [List.drop_eq_getElem_cons hlt] at h
      unfold forGo at h
      obtain ⟨hh, h⟩ := PostS.iff_ok h
      refine .inr ⟨it.go ⟨ρ, S, H, W1.B⟩ i e.w.v ok hh hlt, fun σ' H' => ∃ ρ S l, Ok X.K ⟨ρ, S, H', W1.B⟩ ∧ Sl X.K ⟨ρ, S, H', W1.B⟩ σ' l ∧ Ext W1 ⟨ρ, S, H', W1.B⟩ ∧ PostS X.K Wx ⟨ρ, S, H', W1.B⟩ (forGo g fb w (ds.drop (i + 1)) l S) D,
        fun σ' H' n => ⟨ds.length - (i + 1), by omega, rfl, hlt, n⟩, fun x H' y => ?_⟩
      obtain ⟨sm, d, hd, rd⟩ := it.yld ⟨ρ, S, H, W1.B⟩ i x H' e.w.v ok hh hlt y
      rw [List.getElem?_eq_getElem hlt] at hd
      cases hd
      cases q : g ds[i] S with
      | none => rw [q] at h; exact h.elim
      | some as =>
        rw [q] at h
        dsimp only at h
        have e2 : Ext ⟨ρ, S, H, W1.B⟩ ⟨ρ, S, H', W1.B⟩ := Ext.same sm
        refine ⟨ρ, S, W1.B, ds[i], as, ok.same sm, rd, q, fun vs rvs => ⟨ρ, S, W1.B, _, ok.same sm, (sl.ext e2 ok).setA rvs, ?_⟩⟩
        have h := PostS.weak h e2
        cases q2 : fb (setA l as) S with
        | nx l1 S1 => rw [q2] at h; exact fun ρ' H2 σ' e' o' s' => ⟨ρ', S1, l1, o', s', (e.trans e2).trans e', PostS.weak h e'⟩
        | ct l1 S1 => rw [q2] at h; exact fun ρ' H2 σ' e' o' s' => ⟨ρ', S1, l1, o', s', (e.trans e2).trans e', PostS.weak h e'⟩
        | bk l1 S1 => rw [q2] at h; exact h
        | rt d S1 => rw [q2] at h; exact h
        | exc x l1 S1 => rw [q2] at h; exact h
        | bad => rw [q2] at h; exact h
    · have ei : ds.drop i = [] := List.drop_eq_nil_of_le (by omega)
      rw [ei] at h
      unfold forGo at h
      obtain ⟨hh, h⟩ := PostS.iff_ok h
      exact .inl ⟨it.stop ⟨ρ, S, H, W1.B⟩ i e.w.v ok hh (by omega), h ρ H σ (Ext.refl _) ok sl⟩⟩
end

/-! ### while -/
def whGo (c : L → Store → R Bool) (b : L → Store → Fl) : Nat → L → Store → Fl
  | 0, _, _ => .bad
  | n + 1, l, S => (c l S).toS l fun t S1 => if t = true then match b l S1 with
      | .nx l1 S2 => whGo c b n l1 S2
      | .ct l1 S2 => whGo c b n l1 S2
      | .bk l1 S2 => .nx l1 S2
      | .rt d S2 => .rt d S2
      | .exc e l1 S2 => .exc e l1 S2
      | .bad => .bad
    else .nx l S1
open Classical in
noncomputable def sWh (c : L → Store → R Bool) (b : L → Store → Fl) : L → Store → Fl := fun l S => if h : ∃ n, whGo c b n l S ≠ .bad then whGo c b h.choose l S else .bad
section
variable {X : Cx} {Wx : WX} {c : Expr} {fc : L → Store → R Bool} {body : List Stmt} {fb : L → Store → Fl} {pos : Pos}
theorem whGo_succ : ∀ {n : Nat} {l : L} {S : Store}, whGo fc fb n l S ≠ .bad → whGo fc fb (n + 1) l S = whGo fc fb n l S
  | 0, l, S, h => absurd rfl h
  | n + 1, l, S, h => by
    rw [whGo] at h ⊢
    rw [whGo]
    cases q : fc l S with
    | bad => rfl
    | exc e S1 => rfl
    | ok t S1 =>
      rw [q] at h
      rw [R.toS_ok] at h
      rw [R.toS_ok, R.toS_ok]
      cases t with
      | false => rfl
      | true =>
        rw [if_pos rfl] at h ⊢
        rw [if_pos rfl]
        cases q2 : fb l S1 with
        | nx l1 S2 => rw [q2] at h; exact whGo_succ h
        | ct l1 S2 => rw [q2] at h; exact whGo_succ h
        | _ => rfl
theorem whGo_le {n m : Nat} {l : L} {S : Store} (h : whGo fc fb n l S ≠ .bad) (hm : n ≤ m) : whGo fc fb m l S = whGo fc fb n l S := by
  obtain ⟨k, rfl⟩ := Nat.exists_eq_add_of_le hm
  clear hm
  induction k with
  | zero => rfl
  | succ k ih =>
    have z : whGo fc fb (n + k) l S ≠ .bad := by rw [ih]; exact h
    exact (whGo_succ z).trans ih
theorem sWh_of {n : Nat} {l : L} {S : Store} {r : Fl} (h : whGo fc fb n l S = r) (hr : r ≠ .bad) : sWh fc fb l S = r := by
  have hn : whGo fc fb n l S ≠ .bad := by rw [h]; exact hr
  have ex : ∃ n, whGo fc fb n l S ≠ .bad := ⟨n, hn⟩
  unfold sWh
  rw [dif_pos ex]
  rcases Nat.le_total n ex.choose with le | le
  · rw [whGo_le hn le, h]
  · rw [← whGo_le ex.choose_spec le, h]
theorem fs_while (hp : PassesOwn (model X.prog X.w) X.A X.env X.xe) (hc : FT X Wx c fc) (hb : FB X Wx body fb) : FS X Wx (.While c body [] pos) (sWh fc fb) :=
  (ps_while hp hc hb).imp fun D σ H ⟨ρ, S, B, l, ok, sl, h⟩ => by
    unfold sWh at h
    by_cases ex : ∃ n, whGo fc fb n l S ≠ .bad
    · rw [dif_pos ex] at h
      refine ⟨fun m σ H => ∃ ρ S l, Ok X.K ⟨ρ, S, H, B⟩ ∧ Sl X.K ⟨ρ, S, H, B⟩ σ l ∧ PostS X.K Wx ⟨ρ, S, H, B⟩ (whGo fc fb m l S) D, ⟨_, ρ, S, l, ok, sl, h⟩, ?_⟩
      rintro m σ H ⟨ρ, S, l, ok, sl, h⟩
      cases m with
      | zero => exact h.elim
      | succ m =>
        rw [whGo] at h
        refine ⟨ρ, S, B, l, ok, sl, (h.toS sl ok).mono fun W1 t e1 o1 ⟨_, _, h1⟩ => ?_⟩
        have eB := e1.B
        have eB : W1.B = B := eB
        obtain ⟨ρ1, S1, H1, B1⟩ := W1
        cases eB
        cases t with
        | false =>
          rw [if_neg Bool.false_ne_true] at h1
          show D.nx σ H1
          exact h1 ρ1 H1 σ (Ext.refl _) o1 (sl.ext e1 ok)
        | true =>
          rw [if_pos rfl] at h1
          refine (if_pos rfl).mpr ?_
          refine ⟨fun σ' H' => ∃ ρ S l, Ok X.K ⟨ρ, S, H', B1⟩ ∧ Sl X.K ⟨ρ, S, H', B1⟩ σ' l ∧ PostS X.K Wx ⟨ρ, S, H', B1⟩ (whGo fc fb m l S) D, fun σ' H' n => ⟨m, Nat.lt_succ_self _, n⟩, ρ1, S1, B1, l, o1, sl.ext e1 ok, ?_⟩
          dsimp only at h1
          cases q2 : fb l S1 with
          | nx l1 S2 => rw [q2] at h1; exact fun ρ' H2 σ' e' o' s' => ⟨ρ', S2, l1, o', s', PostS.weak h1 e'⟩
          | ct l1 S2 => rw [q2] at h1; exact fun ρ' H2 σ' e' o' s' => ⟨ρ', S2, l1, o', s', PostS.weak h1 e'⟩
          | bk l1 S2 => rw [q2] at h1; exact h1
          | rt d S2 => rw [q2] at h1; exact h1
          | exc x l1 S2 => rw [q2] at h1; exact h1
          | bad => rw [q2] at h1; exact h1
    · rw [dif_neg ex] at h
      exact h.elim
end
end HL
end
section
set_option Elab.async false
set_option linter.all false
set_option maxRecDepth 100000
set_option maxHeartbeats 1000000
namespace HL
open PySem PySem.Spec L2

/-! ### slots forgotten -/
def wp {α : Type} (l : List (Option α)) : List Nat → List (Option α)
  | [] => l
  | v :: vs => (wp l vs).set v none
theorem wipe_wp (σ : L2.St) : ∀ vs : List Nat, wipe σ vs = wp σ vs
  | [] => rfl
  | v :: vs => by unfold wipe wp; rw [wipe_wp σ vs]
section
variable {α : Type}
theorem wp_length (l : List (Option α)) : ∀ vs : List Nat, (wp l vs).length = l.length
  | [] => rfl
  | v :: vs => by unfold wp; rw [List.length_set, wp_length l vs]
theorem wp_get (l : List (Option α)) (j : Nat) : ∀ vs : List Nat, (wp l vs)[j]? = if j ∈ vs then (l[j]?).map (fun _ => none) else l[j]?
  | [] => by simp [wp]
  | v :: vs => by
    unfold wp
    rw [List.getElem?_set, wp_length, wp_get l j vs]
    by_cases e : v = j
    · subst e
      by_cases h : v < l.length
      · simp [h]
      · simp [h]
    · have e' : ¬ j = v := fun z => e z.symm
      simp [e, e']
theorem setA_length : ∀ (as : List (Nat × α)) (l : List (Option α)), (setA l as).length = l.length
  | [], _ => rfl
  | (i, d) :: as, l => by unfold setA; rw [setA_length as, List.length_set]
theorem setA_get {j : Nat} : ∀ (as : List (Nat × α)) (l : List (Option α)), j ∉ as.map (·.1) → (setA l as)[j]? = l[j]?
  | [], _, _ => rfl
  | (i, d) :: as, l, h => by
    unfold setA
    rw [setA_get as _ fun z => h (by rw [List.map_cons]; exact List.mem_cons_of_mem _ z)]
    exact List.getElem?_set_ne fun e => h (by rw [List.map_cons]; exact e ▸ List.mem_cons_self)
theorem wp_setA {as : List (Nat × α)} {l : List (Option α)} {vs : List Nat} (h : ∀ i ∈ as.map (·.1), i ∈ vs) : wp (setA (wp l vs) as) vs = wp l vs := by
  refine List.ext_getElem? fun j => ?_
  rw [wp_get (setA (wp l vs) as), wp_get l]
  by_cases hj : j ∈ vs
  · rw [if_pos hj, if_pos hj]
    by_cases hl : j < l.length
    · rw [List.getElem?_eq_getElem (by rw [setA_length, wp_length]; exact hl), List.getElem?_eq_getElem hl]
      rfl
    · rw [List.getElem?_eq_none (by rw [setA_length, wp_length]; omega), List.getElem?_eq_none (by omega)]
  · rw [if_neg hj, if_neg hj, setA_get _ _ fun z => hj (h j z), wp_get, if_neg hj]
end
theorem Sl.wp {K : Frag} {W : Wd} {σ : L2.St} {l : L} (s : Sl K W σ l) (vs : List Nat) : Sl K W (wipe σ vs) (HL.wp l vs) := by
  refine ⟨by rw [wipe_wp, wp_length, wp_length]; exact s.len, fun i d h => ?_⟩
  rw [wp_get] at h
  by_cases hi : i ∈ vs
  · rw [if_pos hi] at h
    cases q : l[i]? with
    | none => rw [q] at h; cases h
    | some o => rw [q] at h; cases h
  · rw [if_neg hi] at h
    obtain ⟨v, a, b⟩ := s.get i d h
    refine ⟨v, ?_, b⟩
    rw [wipe_wp, wp_get, if_neg hi]
    exact a

/-! ### what is being built is busy -/
abbrev plusB (B : Addr → Prop) (D : Addr) : Addr → Prop := fun a => B a ∨ a = D
theorem ne_lst {H : Hp} {a A : Addr} {u : HO} {xs : List V} (hD : H A = some (.lst xs)) (h : H a = some u) (hu : ∀ ys, u ≠ .lst ys) : a ≠ A := fun e => by
  rw [e, hD] at h
  exact hu xs (Option.some.inj h).symm
section
variable {K : Frag} {ρ : Nat → Addr} {S : Store} {H : Hp} {B : Addr → Prop} {D : Addr}
mutual
theorem Rep.poke {xs ys : List V} (hD : H D = some (.lst xs)) : ∀ {d : HL.D} {v : V}, Rep K ⟨ρ, S, H, plusB B D⟩ d v → Rep K ⟨ρ, S, upd H D (.lst ys), plusB B D⟩ d v
  | _, _, .non => .non
  | _, _, .bl b => .bl b
  | _, _, .int i => .int i
  | _, _, .str x => .str x
  | _, _, .tup h r => .tup (by
      rcases h with (h | ⟨o, h⟩) | h
      · exact .inl (.inl ((upd_ne (ne_lst hD h fun _ => nofun)).trans h))
      · exact .inl (.inr ⟨o, (upd_ne (ne_lst hD h fun _ => nofun)).trans h⟩)
      · exact .inr h) (Reps.poke hD r)
  | _, _, .tpn ⟨o, h, hd⟩ r => .tpn ⟨o, (upd_ne (ne_lst hD h fun _ => nofun)).trans h, hd⟩ (Reps.poke hD r)
  | _, _, .lst h r => .lst ⟨(upd_ne fun e => h.2.2 (.inr e)).trans h.1, h.2.1, h.2.2⟩ (Reps.poke hD r)
  | _, _, .scr h r => .scr (h.elim (fun ⟨o, h⟩ => .inl ⟨o, (upd_ne (ne_lst hD h fun _ => nofun)).trans h⟩) .inr) (Reps.poke hD r)
  | _, _, .iset ⟨M, h⟩ n => .iset ⟨M, (upd_ne (ne_lst hD h fun _ => nofun)).trans h⟩ n
  | _, _, .ins h n hl r => .ins ((upd_ne (ne_lst hD h fun _ => nofun)).trans h) n hl (Reps.poke hD r)
  | _, _, .err h hd hl r => .err ((upd_ne (ne_lst hD h fun _ => nofun)).trans h) (hd.imp id fun ⟨dd, h1, h2⟩ => ⟨dd, h1, (upd_ne (ne_lst hD h2 fun _ => nofun)).trans h2⟩) hl (Reps.poke hD r)
  | _, _, .cls C => .cls C
  | _, _, .dic h => .dic ((upd_ne (ne_lst hD h fun _ => nofun)).trans h)
  | _, _, .loc h => Rep.loc (K := K) (W := ⟨ρ, S, upd H D (.lst ys), plusB B D⟩) h
theorem Reps.poke {xs ys : List V} (hD : H D = some (.lst xs)) : ∀ {ds : List HL.D} {vs : List V}, Reps K ⟨ρ, S, H, plusB B D⟩ ds vs → Reps K ⟨ρ, S, upd H D (.lst ys), plusB B D⟩ ds vs
  | _, _, .nil => .nil
  | _, _, .cons h r => .cons (Rep.poke hD h) (Reps.poke hD r)
end
theorem Ok.poke {xs ys : List V} (hD : H D = some (.lst xs)) (nl : ¬ Live ⟨ρ, S, H, plusB B D⟩ D) (ok : Ok K ⟨ρ, S, H, plusB B D⟩) : Ok K ⟨ρ, S, upd H D (.lst ys), plusB B D⟩ := by
  refine ⟨fun a b => ?_, ok.nb, ok.inj, fun i o h => ?_⟩
  · by_cases e : a = D
    · rw [e]; exact ⟨ys, upd_same⟩
    · obtain ⟨zs, e'⟩ := ok.bl a b
      exact ⟨zs, (upd_ne e).trans e'⟩
  · have r := ok.obj i o h
    have hi : i < S.length := (List.getElem?_eq_some_iff.mp h).1
    have ne : ρ i ≠ D := fun e => nl ⟨i, hi, e⟩
    cases o with
    | lst xs =>
      obtain ⟨vs, e, q⟩ := r
      exact ⟨vs, (upd_ne ne).trans e, Reps.poke hD q⟩
    | ins C ks xs =>
      obtain ⟨dx, vs, e, hl, q⟩ := r
      exact ⟨dx, vs, (upd_ne ne).trans e, hl, Reps.poke hD q⟩
    | tab x => exact ⟨r.1, tabS_upd ne (fun φ z => by rw [hD] at z; cases z) r.2⟩
    | dct hs kvs =>
      obtain ⟨xs, e, hk, q1, q2⟩ := r
      exact ⟨xs, (upd_ne ne).trans e, hk, Reps.poke hD q1, Reps.poke hD q2⟩
mutual
theorem Rep.less {B' : Addr → Prop} (hb : ∀ a, B' a → B a) : ∀ {d : HL.D} {v : V}, Rep K ⟨ρ, S, H, B⟩ d v → Rep K ⟨ρ, S, H, B'⟩ d v
  | _, _, .non => .non
  | _, _, .bl b => .bl b
  | _, _, .int i => .int i
  | _, _, .str x => .str x
  | _, _, .tup h r => .tup h (Reps.less hb r)
  | _, _, .tpn h r => .tpn h (Reps.less hb r)
  | _, _, .lst h r => .lst ⟨h.1, h.2.1, fun z => h.2.2 (hb _ z)⟩ (Reps.less hb r)
  | _, _, .scr h r => .scr h (Reps.less hb r)
  | _, _, .iset h n => .iset h n
  | _, _, .ins h n hl r => .ins h n hl (Reps.less hb r)
  | _, _, .err h hd hl r => .err h hd hl (Reps.less hb r)
  | _, _, .cls C => .cls C
  | _, _, .dic h => .dic h
  | _, _, .loc h => Rep.loc (K := K) (W := ⟨ρ, S, H, B'⟩) h
theorem Reps.less {B' : Addr → Prop} (hb : ∀ a, B' a → B a) : ∀ {ds : List HL.D} {vs : List V}, Reps K ⟨ρ, S, H, B⟩ ds vs → Reps K ⟨ρ, S, H, B'⟩ ds vs
  | _, _, .nil => .nil
  | _, _, .cons h r => .cons (Rep.less hb h) (Reps.less hb r)
end
theorem Ok.less {B' : Addr → Prop} (hb : ∀ a, B' a → B a) (ok : Ok K ⟨ρ, S, H, B⟩) : Ok K ⟨ρ, S, H, B'⟩ := by
  refine ⟨fun a b => ok.bl a (hb a b), fun a b => ok.nb a (hb a b), ok.inj, fun i o h => ?_⟩
  have r := ok.obj i o h
  cases o with
  | lst xs =>
    obtain ⟨vs, e, q⟩ := r
    exact ⟨vs, e, Reps.less hb q⟩
  | ins C ks xs =>
    obtain ⟨dx, vs, e, hl, q⟩ := r
    exact ⟨dx, vs, e, hl, Reps.less hb q⟩
  | tab x => exact r
  | dct hs kvs =>
    obtain ⟨xs, e, hk, q1, q2⟩ := r
    exact ⟨xs, e, hk, Reps.less hb q1, Reps.less hb q2⟩
end
/-- a new list, busy -/
theorem busy_ok {K : Frag} {W : Wd} {D : Addr} {xs : List V} (ok : Ok K W) (hD : W.H D = none) : Exs W ⟨W.ρ, W.S, upd W.H D (.lst xs), plusB W.B D⟩ ∧ Ok K ⟨W.ρ, W.S, upd W.H D (.lst xs), plusB W.B D⟩ ∧ ¬ Live ⟨W.ρ, W.S, upd W.H D (.lst xs), plusB W.B D⟩ D := by
  have nl : ¬ Live W D := ok.nlive0 hD
  have e : Exs W ⟨W.ρ, W.S, upd W.H D (.lst xs), plusB W.B D⟩ := ⟨Nat.le_refl _, fun _ _ => rfl, fun a u h n => ⟨Same.upd hD _ _ h, n⟩, fun a u h n m z => by
    rcases z with z | z
    · exact m z
    · rw [z, hD] at h; cases h⟩
  refine ⟨e, ⟨fun a b => ?_, fun a b q => ?_, ok.inj, fun i o h => ?_⟩, nl⟩
  · rcases b with b | b
    · obtain ⟨ys, e'⟩ := ok.bl a b
      exact ⟨ys, Same.upd hD _ _ e'⟩
    · rw [b]
      exact ⟨xs, upd_same⟩
  · rcases b with b | b
    · exact ok.nb a b q
    · rw [b] at q; exact nl q
  · have r := ok.obj i o h
    have hi : i < W.S.length := (List.getElem?_eq_some_iff.mp h).1
    have ne : W.ρ i ≠ D := fun e => nl ⟨i, hi, e⟩
    cases o with
    | lst ys =>
      obtain ⟨vs, e1, q⟩ := r
      exact ⟨vs, (upd_ne ne).trans e1, Reps.exw e.v ok q⟩
    | ins C ks ys =>
      obtain ⟨dx, vs, e1, hl, q⟩ := r
      exact ⟨dx, vs, (upd_ne ne).trans e1, hl, Reps.exw e.v ok q⟩
    | tab x => exact ⟨r.1, r.2.ext (Same.upd hD)⟩
    | dct hs kvs =>
      obtain ⟨ys, e1, hk, q1, q2⟩ := r
      exact ⟨ys, (upd_ne ne).trans e1, hk, Reps.exw e.v ok q1, Reps.exw e.v ok q2⟩

/-! ### one clause -/
abbrev wx0 : WX := fun _ _ _ _ => False
open Classical in
noncomputable def cGo (g : Tgt) (t : L → Store → R Bool) (e : L → Store → R D) (w : Hld) (l : L) : List D → Nat → Store → Option (List D × Store)
  | [], n, S => if held w S then some ([], S) else none
  | d :: ds, n, S => if held w S then match g d S with
    | none => none
    | some as => match t (setA l as) S with
      | .ok true S1 => match e (setA l as) S1 with
        | .ok y S2 => if n < sizeLine then match cGo g t e w l ds (n + 1) S2 with
          | some (ys, S3) => some (y :: ys, S3)
          | none => none
          else none
        | _ => none
      | .ok false S1 => cGo g t e w l ds n S1
      | _ => none
    else none
noncomputable def eLc (fi : L → Store → R Src) (g : Tgt) (t : L → Store → R Bool) (e : L → Store → R D) (vs : List Nat) : L → Store → R D := fun l S => (fi l S).bind fun x S1 => match cGo g t e x.2 (wp l vs) x.1 0 S1 with
  | some (ds, S2) => .ok (.lst ds) S2
  | none => .bad
/-- .. that may change -/
noncomputable def eLcN (fi : L → Store → R Src) (g : Tgt) (t : L → Store → R Bool) (e : L → Store → R D) (vs : List Nat) : L → Store → R D := fun l S => (fi l S).bind fun x S1 => match cGo g t e x.2 (wp l vs) x.1 0 S1 with
  | some (ds, S2) => .ok (.loc S2.length) (S2 ++ [.lst ds])
  | none => .bad
def tYesF : L → Store → R Bool := fun _ S => .ok true S
abbrev FTs (X : Cx) (ifs : List Expr) (t : L → Store → R Bool) : Prop := PTs X ifs (tT X.K wx0 t)
theorem fts_nil {X : Cx} : FTs X [] tYesF := ⟨fun pins s σ H Q I ⟨ρ, S, B, l, ok, sl, h⟩ => pts_nil.run pins s σ H Q I (Post.ok_of (W := ⟨ρ, S, H, B⟩) ok h)⟩
theorem fts_one {X : Cx} {c : Expr} {t : L → Store → R Bool} (h : FT X wx0 c t) : FTs X [c] t := pts_one h

theorem if_same {c : Prop} [Decidable c] {α : Type} {a r : α} {n : α} (h : (if c then a else n) = r) (hn : n ≠ r) : c ∧ a = r := by
  by_cases hc : c
  · rw [if_pos hc] at h; exact ⟨hc, h⟩
  · rw [if_neg hc] at h; exact absurd h hn
open Classical in
theorem lc_go {K : Frag} {Wx : WX} {fi : L → Store → R Src} {g : Tgt} {ix vs : List Nat} {t : L → Store → R Bool} {e : L → Store → R D} {σ : L2.St} {Q : VK} {H : Hp} {ρ : Nat → Addr} {S : Store} {B : Addr → Prop} {l : L}
    (ok : Ok K ⟨ρ, S, H, B⟩) (sl : Sl K ⟨ρ, S, H, B⟩ σ l) (hix : ∀ d S as, g d S = some as → as.map (·.1) = ix) (hv : ∀ i ∈ ix, i ∈ vs)
    (h : Post K Wx σ ⟨ρ, S, H, B⟩ (fi l S) fun W1 x => ∃ dF SF, cGo g t e x.2 (wp l vs) x.1 0 W1.S = some (dF, SF) ∧ ∀ ρ' H' A us, Exs W1 ⟨ρ', SF, H', plusB W1.B A⟩ → Ok K ⟨ρ', SF, H', plusB W1.B A⟩ → H' A = some (.lst us) → ¬ Live ⟨ρ', SF, H', plusB W1.B A⟩ A → ¬ W1.B A → W1.H A = none → Reps K ⟨ρ', SF, H', plusB W1.B A⟩ dF us → Q (.ref A) H') :
    tLc (tI K Wx fi) (tG K g) (tT K wx0 t) (tE K wx0 e) vs σ H Q := by
  refine ⟨ρ, S, B, l, ok, sl, h.mono fun W1 x e1 o1 ⟨dF, SF, hc, hq⟩ J it A hA => ?_⟩
  obtain ⟨ds, w⟩ := x
  dsimp only at hc it
  have sl1 := (sl.ext e1 ok).wp vs
  generalize hl0 : wp l vs = l0 at hc sl1
  have hwl : ∀ as : List (Nat × V), as.map (·.1) = ix → wipe (setA (wipe σ vs) as) vs = wipe σ vs := fun as ha => by
    rw [wipe_wp, wipe_wp]
    exact wp_setA fun i hi => hv i (by rw [← ha]; exact hi)
  obtain ⟨b1, b2, b3⟩ := busy_ok (xs := []) o1 hA
  refine ⟨fun i m H => m = ds.length - i ∧ i ≤ ds.length ∧ ∃ ρ S acc us tl, Exs W1 ⟨ρ, S, H, plusB W1.B A⟩ ∧ Ok K ⟨ρ, S, H, plusB W1.B A⟩ ∧ ¬ Live ⟨ρ, S, H, plusB W1.B A⟩ A ∧ H A = some (.lst us) ∧ Reps K ⟨ρ, S, H, plusB W1.B A⟩ acc us ∧ cGo g t e w l0 (ds.drop i) acc.length S = some (tl, SF) ∧ acc ++ tl = dF,
    ⟨ds.length, by simp, Nat.zero_le _, W1.ρ, W1.S, [], [], dF, b1, b2, b3, upd_same, .nil, by simpa using hc, rfl⟩, ?_⟩
  rintro i m H ⟨rfl, hi, ρ, S, acc, us, tl, e2, ok2, nl, hu, ra, hc, hd⟩
  have sl2 := sl1.exw e2.v o1
  by_cases hlt : i < ds.length
  · rw [List.drop_eq_getElem_cons hlt, cGo] at hc
    obtain ⟨hh, hc⟩ := if_same hc (by simp)
    refine .inr ⟨it.go ⟨ρ, S, H, _⟩ i e2.v ok2 hh hlt, fun H => ∃ ρ S acc us tl, Exs W1 ⟨ρ, S, H, plusB W1.B A⟩ ∧ Ok K ⟨ρ, S, H, plusB W1.B A⟩ ∧ ¬ Live ⟨ρ, S, H, plusB W1.B A⟩ A ∧ H A = some (.lst us) ∧ Reps K ⟨ρ, S, H, plusB W1.B A⟩ acc us ∧ cGo g t e w l0 (ds.drop (i + 1)) acc.length S = some (tl, SF) ∧ acc ++ tl = dF,
      fun H' n => ⟨ds.length - (i + 1), by omega, rfl, hlt, n⟩, fun x H' y => ?_⟩
    obtain ⟨sm, d, hd', rd⟩ := it.yld ⟨ρ, S, H, _⟩ i x H' e2.v ok2 hh hlt y
    rw [List.getElem?_eq_getElem hlt] at hd'
    cases hd'
    cases q : g ds[i] S with
    | none => rw [q] at hc; cases hc
    | some as =>
      rw [q] at hc
      dsimp only at hc
      have e3 : Ext ⟨ρ, S, H, plusB W1.B A⟩ ⟨ρ, S, H', plusB W1.B A⟩ := Ext.same sm
      have ok3 : Ok K ⟨ρ, S, H', plusB W1.B A⟩ := ok2.same sm
      have hu3 : H' A = some (.lst us) := sm _ _ hu
      refine ⟨ρ, S, _, ds[i], as, ok3, rd, q, fun vv rvv => ⟨hwl vv (by rw [← rvv.ix]; exact hix _ _ _ q), ?_⟩⟩
      have sl3 := (sl2.ext e3 ok2).setA rvv
      refine ⟨ρ, S, _, _, ok3, sl3, ?_⟩
      cases q2 : t (setA l0 as) S with
      | bad => rw [q2] at hc; cases hc
      | exc x S1 => rw [q2] at hc; cases hc
      | ok b S1 =>
        rw [q2] at hc
        intro ρ4 H4 e4 ok4
        have hu4 := e4.keep _ _ hu3 nl
        cases b with
        | false =>
          dsimp only at hc
          refine (if_neg Bool.false_ne_true).mpr ?_
          exact ⟨ρ4, S1, acc, us, tl, (e2.trans e3.w).trans e4.w, ok4, hu4.2, hu4.1, (ra.ext e3 ok2).ext e4 ok3, hc, hd⟩
        | true =>
          dsimp only at hc
          refine (if_pos rfl).mpr ?_
          refine ⟨ρ4, S1, _, _, ok4, sl3.ext e4 ok3, ?_⟩
          cases q3 : e (setA l0 as) S1 with
          | bad => rw [q3] at hc; cases hc
          | exc x S2 => rw [q3] at hc; cases hc
          | ok y S2 =>
            rw [q3] at hc
            dsimp only at hc
            obtain ⟨hn, hc⟩ := if_same hc (by simp)
            intro ρ5 H5 e5 ok5 v rv
            have hu5 := e5.keep _ _ hu4.1 hu4.2
            cases q4 : cGo g t e w l0 (ds.drop (i + 1)) (acc.length + 1) S2 with
            | none => rw [q4] at hc; cases hc
            | some pr =>
              obtain ⟨ys, S3⟩ := pr
              rw [q4] at hc
              cases hc
              have ra5 := ((ra.ext e3 ok2).ext e4 ok3).ext e5 ok4
              have ex5 : Exs W1 ⟨ρ5, S2, H5, plusB W1.B A⟩ := ((e2.trans e3.w).trans e4.w).trans e5.w
              refine ⟨us, hu5.1, by rw [← ra.length]; exact hn, ρ5, S2, acc ++ [y], us ++ [v], ys, ⟨ex5.len, ex5.rho, fun a u z n => ?_, ex5.fresh⟩, ok5.poke hu5.1 hu5.2, hu5.2, upd_same, ?_, by simpa using q4, by rw [← hd]; simp⟩
              · obtain ⟨z1, z2⟩ := ex5.keep a u z n
                exact ⟨(upd_ne fun e => by rw [e, hA] at z; cases z).trans z1, z2⟩
              · exact Reps.append (Reps.poke hu5.1 ra5) (.cons (Rep.poke hu5.1 rv) .nil)
  · have ei : ds.drop i = [] := List.drop_eq_nil_of_le (by omega)
    rw [ei, cGo] at hc
    obtain ⟨hh, hc⟩ := if_same hc (by simp)
    cases hc
    rw [List.append_nil] at hd
    subst hd
    exact .inl ⟨it.stop ⟨ρ, SF, H, _⟩ i e2.v ok2 hh (by omega), hq ρ H A us e2 ok2 hu nl (fun z => o1.busy _ z hA) hA ra⟩

/-! ### what was built joins the store -/
section
variable {K : Frag} {ρ : Nat → Addr} {S : Store} {H : Hp} {B : Addr → Prop} {A : Addr}
theorem live_join {ds : List D} {a : Addr} (h : Live ⟨fun i => if i = S.length then A else ρ i, S ++ [.lst ds], H, B⟩ a) : a = A ∨ ∀ B', Live ⟨ρ, S, H, B'⟩ a := by
  obtain ⟨i, hi, q⟩ := h
  have hi : i < (S ++ [Ob.lst ds]).length := hi
  rw [List.length_append, List.length_singleton] at hi
  by_cases z : i = S.length
  · have q' : A = a := by simpa [z] using q
    exact .inl q'.symm
  · have q' : ρ i = a := by simpa [z] using q
    exact .inr fun B' => ⟨i, by show i < S.length; omega, q'⟩
mutual
theorem Rep.join {es : List D} {us : List V} (hu : H A = some (.lst us)) : ∀ {d : D} {v : V}, Rep K ⟨ρ, S, H, plusB B A⟩ d v → Rep K ⟨fun i => if i = S.length then A else ρ i, S ++ [.lst es], H, B⟩ d v
  | _, _, .non => .non
  | _, _, .bl b => .bl b
  | _, _, .int i => .int i
  | _, _, .str x => .str x
  | _, _, .tup h r => .tup h (Reps.join hu r)
  | _, _, .tpn h r => .tpn h (Reps.join hu r)
  | _, _, .lst h r => .lst ⟨h.1, fun z => (live_join z).elim (fun e => h.2.2 (.inr e)) (fun z => h.2.1 (z _)), fun z => h.2.2 (.inl z)⟩ (Reps.join hu r)
  | _, _, .scr h r => .scr h (Reps.join hu r)
  | _, _, .iset ⟨M, h⟩ n => .iset ⟨M, h⟩ (fun z => (live_join z).elim (fun e => ne_lst (H := H) hu h (fun _ => nofun) e) (fun z => n (z _)))
  | _, _, .ins h n hl r => .ins h (fun z => (live_join z).elim (fun e => by rw [e] at h; have h : H A = _ := h; rw [hu] at h; cases h) (fun z => n (z _))) hl (Reps.join hu r)
  | _, _, .err h hd hl r => .err h hd hl (Reps.join hu r)
  | _, _, .cls C => .cls C
  | _, _, .dic h => .dic h
  | _, _, .loc (n := n) h => by
    have h : n < S.length := h
    have e : (⟨ρ, S, H, plusB B A⟩ : Wd).ρ n = (⟨fun i => if i = S.length then A else ρ i, S ++ [.lst es], H, B⟩ : Wd).ρ n := (if_neg (Nat.ne_of_lt h)).symm
    rw [e]
    exact Rep.loc (by show n < (S ++ [Ob.lst es]).length; rw [List.length_append, List.length_singleton]; omega)
theorem Reps.join {es : List D} {us : List V} (hu : H A = some (.lst us)) : ∀ {ds : List D} {vs : List V}, Reps K ⟨ρ, S, H, plusB B A⟩ ds vs → Reps K ⟨fun i => if i = S.length then A else ρ i, S ++ [.lst es], H, B⟩ ds vs
  | _, _, .nil => .nil
  | _, _, .cons h r => .cons (Rep.join hu h) (Reps.join hu r)
end
theorem join_ok {W1 : Wd} {ds : List D} {us : List V} (e : Exs W1 ⟨ρ, S, H, plusB W1.B A⟩) (ok : Ok K ⟨ρ, S, H, plusB W1.B A⟩) (hu : H A = some (.lst us)) (nl : ¬ Live ⟨ρ, S, H, plusB W1.B A⟩ A) (nb : ¬ W1.B A) (hA : W1.H A = none) (r : Reps K ⟨ρ, S, H, plusB W1.B A⟩ ds us) :
    Ext W1 ⟨fun i => if i = S.length then A else ρ i, S ++ [.lst ds], H, W1.B⟩ ∧ Ok K ⟨fun i => if i = S.length then A else ρ i, S ++ [.lst ds], H, W1.B⟩ := by
  have hlen : W1.S.length ≤ S.length := e.len
  refine ⟨⟨rfl, ?_, fun i hi => ?_, fun a u z n => ?_⟩, ⟨fun a b => ok.bl a (.inl b), fun a b z => ?_, fun i j hi hj q => ?_, fun i o' h => ?_⟩⟩
  · show W1.S.length ≤ (S ++ [Ob.lst ds]).length
    rw [List.length_append]; omega
  · show (if i = S.length then A else ρ i) = W1.ρ i
    rw [if_neg (by omega)]
    exact e.rho i hi
  · obtain ⟨z1, z2⟩ := e.keep a u z n
    refine ⟨z1, fun z3 => ?_⟩
    rcases live_join z3 with z3 | z3
    · rw [z3, hA] at z; cases z
    · exact z2 (z3 _)
  · rcases live_join z with z | z
    · exact nb (z ▸ b)
    · exact ok.nb a (.inl b) (z _)
  · have hi : i < S.length + 1 := by simpa using hi
    have hj : j < S.length + 1 := by simpa using hj
    have ne : ∀ k, k < S.length → ρ k ≠ A := fun k hk q => nl ⟨k, hk, q⟩
    by_cases zi : i = S.length
    · by_cases zj : j = S.length
      · omega
      · have q' : A = ρ j := by simpa [zi, zj] using q
        exact absurd q'.symm (ne j (by omega))
    · by_cases zj : j = S.length
      · have q' : ρ i = A := by simpa [zi, zj] using q
        exact absurd q' (ne i (by omega))
      · have q' : ρ i = ρ j := by simpa [zi, zj] using q
        exact ok.inj i j (by show i < S.length; omega) (by show j < S.length; omega) q'
  · by_cases z : i = S.length
    · subst z
      have h' : Ob.lst ds = o' := by simpa using h
      subst h'
      show RepO K _ (.lst ds) (if S.length = S.length then A else _)
      rw [if_pos rfl]
      exact ⟨us, hu, Reps.join hu r⟩
    · have hi : i < S.length + 1 := by
        have := (List.getElem?_eq_some_iff.mp h).1
        simpa using this
      have h' : S[i]? = some o' := by
        have h : (S ++ [Ob.lst ds])[i]? = some o' := h
        rw [List.getElem?_append_left (by omega)] at h
        exact h
      show RepO K _ o' (if i = S.length then A else ρ i)
      rw [if_neg z]
      have q := ok.obj i o' h'
      cases o' with
      | lst xs =>
        obtain ⟨vs, e1, q1⟩ := q
        exact ⟨vs, e1, Reps.join hu q1⟩
      | ins C ks xs =>
        obtain ⟨dx, vs, e1, hl, q1⟩ := q
        exact ⟨dx, vs, e1, hl, Reps.join hu q1⟩
      | tab x => exact q
      | dct hs kvs =>
        obtain ⟨xs, e1, hk, q1, q2⟩ := q
        exact ⟨xs, e1, hk, Reps.join hu q1, Reps.join hu q2⟩
end
section
variable {X : Cx} {Wx : WX} {elt tg iter : Expr} {ifs : List Expr} {scope : Scope} {own : List (Str × Nat)} {pos : Pos} {fi : L → Store → R Src} {g : Tgt} {ix : List Nat} {t : L → Store → R Bool} {e : L → Store → R D}
theorem lc_val {K : Frag} {σ : L2.St} {W : Wd} {Q : VK} {vs : List Nat} {l : L} (h : Post K Wx σ W (eLc fi g t e vs l W.S) fun W d => ∀ v, Rep K W d v → Q v W.H) :
    Post K Wx σ W (fi l W.S) fun W1 x => ∃ dF SF, cGo g t e x.2 (wp l vs) x.1 0 W1.S = some (dF, SF) ∧ ∀ ρ' H' A us, Exs W1 ⟨ρ', SF, H', plusB W1.B A⟩ → Ok K ⟨ρ', SF, H', plusB W1.B A⟩ → H' A = some (.lst us) → ¬ Live ⟨ρ', SF, H', plusB W1.B A⟩ A → ¬ W1.B A → W1.H A = none → Reps K ⟨ρ', SF, H', plusB W1.B A⟩ dF us → Q (.ref A) H' :=
  h.bind.mono fun W1 x e1 o1 ⟨_, _, h1⟩ => by
    cases q : cGo g t e x.2 (wp l vs) x.1 0 W1.S with
    | none => rw [q] at h1; exact h1.elim
    | some pr =>
      rw [q] at h1
      exact ⟨pr.1, pr.2, rfl, fun ρ' H' A us e' o' hu nl nb hA r => h1 ρ' H' ⟨rfl, e'.len, e'.rho, e'.keep⟩ (o'.less fun a h => .inl h) _ (.lst ⟨hu, nl, nb⟩ (r.less fun a h => .inl h))⟩
theorem lc_new {K : Frag} {σ : L2.St} {W : Wd} {Q : VK} {vs : List Nat} {l : L} (h : Post K Wx σ W (eLcN fi g t e vs l W.S) fun W d => ∀ v, Rep K W d v → Q v W.H) :
    Post K Wx σ W (fi l W.S) fun W1 x => ∃ dF SF, cGo g t e x.2 (wp l vs) x.1 0 W1.S = some (dF, SF) ∧ ∀ ρ' H' A us, Exs W1 ⟨ρ', SF, H', plusB W1.B A⟩ → Ok K ⟨ρ', SF, H', plusB W1.B A⟩ → H' A = some (.lst us) → ¬ Live ⟨ρ', SF, H', plusB W1.B A⟩ A → ¬ W1.B A → W1.H A = none → Reps K ⟨ρ', SF, H', plusB W1.B A⟩ dF us → Q (.ref A) H' :=
  h.bind.mono fun W1 x e1 o1 ⟨_, _, h1⟩ => by
    cases q : cGo g t e x.2 (wp l vs) x.1 0 W1.S with
    | none => rw [q] at h1; exact h1.elim
    | some pr =>
      rw [q] at h1
      refine ⟨pr.1, pr.2, rfl, fun ρ' H' A us e' o' hu nl nb hA r => ?_⟩
      obtain ⟨x, o2⟩ := join_ok e' o' hu nl nb hA r
      refine h1 _ _ x o2 _ ?_
      have q : Rep K _ (.loc pr.2.length) (.ref ((⟨fun i => if i = pr.2.length then A else ρ' i, pr.2 ++ [.lst pr.1], H', W1.B⟩ : Wd).ρ pr.2.length)) := Rep.loc (K := K) (W := ⟨fun i => if i = pr.2.length then A else ρ' i, pr.2 ++ [.lst pr.1], H', W1.B⟩) (n := pr.2.length) (by simp)
      simpa using q
theorem fe_lc (hc : X.calm = true) (hN : X.N.Nodup) (hi : FI X Wx tg iter fi) (okB : BlkOk X.N X.env.scope scope own)
    (hg : ∀ (s : Shared) (H : Hp) (C : Addr) (cl : List (Str × Addr)) (fp : List Addr), FG (X.blk s H scope (compEnvC scope cl C X.env) fp) tg g ix) (hix : ∀ i ∈ ix, i ∈ own.map (·.2)) (ht : ∀ (s : Shared) (H : Hp) (C : Addr) (cl : List (Str × Addr)) (fp : List Addr), FTs (X.blk s H scope (compEnvC scope cl C X.env) fp) ifs t)
    (he : ∀ (s : Shared) (H : Hp) (C : Addr) (cl : List (Str × Addr)) (fp : List Addr), FE (X.blk s H scope (compEnvC scope cl C X.env) fp) wx0 elt e) (hs : ∀ x, foldedSetIterable iter X.env x = pure x := by intro _; rfl) :
    FE X Wx (.ListComp elt [⟨tg, iter, ifs, 0⟩] scope pos) (eLc fi g t e (own.map (·.2))) :=
  (pe_lc hc hN hi okB (fun s H C cl fp => (hg s H C cl fp).g) ht he hs).imp fun σ H Q ⟨ρ, S, B, l, ok, sl, h⟩ =>
    lc_go ok sl (hg X.s_0 H 0 [] []).ix hix (lc_val (W := ⟨ρ, S, H, B⟩) h)
theorem fe_lcN (hc : X.calm = true) (hN : X.N.Nodup) (hi : FI X Wx tg iter fi) (okB : BlkOk X.N X.env.scope scope own)
    (hg : ∀ (s : Shared) (H : Hp) (C : Addr) (cl : List (Str × Addr)) (fp : List Addr), FG (X.blk s H scope (compEnvC scope cl C X.env) fp) tg g ix) (hix : ∀ i ∈ ix, i ∈ own.map (·.2)) (ht : ∀ (s : Shared) (H : Hp) (C : Addr) (cl : List (Str × Addr)) (fp : List Addr), FTs (X.blk s H scope (compEnvC scope cl C X.env) fp) ifs t)
    (he : ∀ (s : Shared) (H : Hp) (C : Addr) (cl : List (Str × Addr)) (fp : List Addr), FE (X.blk s H scope (compEnvC scope cl C X.env) fp) wx0 elt e) (hs : ∀ x, foldedSetIterable iter X.env x = pure x := by intro _; rfl) :
    FE X Wx (.ListComp elt [⟨tg, iter, ifs, 0⟩] scope pos) (eLcN fi g t e (own.map (·.2))) :=
  (pe_lc hc hN hi okB (fun s H C cl fp => (hg s H C cl fp).g) ht he hs).imp fun σ H Q ⟨ρ, S, B, l, ok, sl, h⟩ =>
    lc_go ok sl (hg X.s_0 H 0 [] []).ix hix (lc_new (W := ⟨ρ, S, H, B⟩) h)
theorem ps_toE {K : Frag} {f : L → Store → R D} {i : Nat} {D : Ends} {σ : L2.St} {H : Hp} {ρ : Nat → Addr} {S : Store} {B : Addr → Prop} {l : L} (ok : Ok K ⟨ρ, S, H, B⟩) (sl : Sl K ⟨ρ, S, H, B⟩ σ l) (h : PostS K Wx ⟨ρ, S, H, B⟩ (sSet i f l S) D) :
    Post K Wx σ ⟨ρ, S, H, B⟩ (f l S) fun W d => ∀ v, Rep K W d v → gName i v σ W.H D.nx :=
  (PostS.toS sl ok h).mono fun W1 d e1 o1 ⟨_, _, h1⟩ v rv => h1 W1.ρ W1.H _ (Ext.refl _) o1 ((sl.ext e1 ok).set rv i)
/-- name = [..] on one line, the name a local -/
theorem fs_setLc {i : Nat} {y : Str} {py spos : Pos} (hc : X.calm = true) (hN : X.N.Nodup) (hi : FI X Wx tg iter fi) (okB : BlkOk X.N X.env.scope scope own)
    (hg : ∀ (s : Shared) (H : Hp) (C : Addr) (cl : List (Str × Addr)) (fp : List Addr), FG (X.blk s H scope (compEnvC scope cl C X.env) fp) tg g ix) (hix : ∀ i ∈ ix, i ∈ own.map (·.2)) (ht : ∀ (s : Shared) (H : Hp) (C : Addr) (cl : List (Str × Addr)) (fp : List Addr), FTs (X.blk s H scope (compEnvC scope cl C X.env) fp) ifs t)
    (he : ∀ (s : Shared) (H : Hp) (C : Addr) (cl : List (Str × Addr)) (fp : List Addr), FE (X.blk s H scope (compEnvC scope cl C X.env) fp) wx0 elt e)
    (hy : X.N[i]? = some y := by rfl) (hyl : X.env.scope.names.lookup y = some .local := by rfl) (hk : X.env.scope.kind = .function := by rfl) (hl : (py.line == pos.line) = true := by rfl) (ha : (scope.names.any fun (n, k) => n == y && (k == .local || k == .cell)) = false := by rfl) (hs : ∀ x, foldedSetIterable iter X.env x = pure x := by intro _; rfl) :
    FS X Wx (.Assign [.Name y py] (.ListComp elt [⟨tg, iter, ifs, 0⟩] scope pos) spos) (sSet i (eLc fi g t e (own.map (·.2)))) :=
  (ps_setLc hc hN hy hyl (sw_true hk hyl hl ha) hi okB (fun s H C cl fp => (hg s H C cl fp).g) ht he hs).imp fun D σ H ⟨ρ, S, B, l, ok, sl, h⟩ =>
    lc_go (Q := fun x H1 => gName i x σ H1 D.nx) ok sl (hg X.s_0 H 0 [] []).ix hix (lc_val (W := ⟨ρ, S, H, B⟩) (ps_toE ok sl h))
theorem fs_setLcN {i : Nat} {y : Str} {py spos : Pos} (hc : X.calm = true) (hN : X.N.Nodup) (hi : FI X Wx tg iter fi) (okB : BlkOk X.N X.env.scope scope own)
    (hg : ∀ (s : Shared) (H : Hp) (C : Addr) (cl : List (Str × Addr)) (fp : List Addr), FG (X.blk s H scope (compEnvC scope cl C X.env) fp) tg g ix) (hix : ∀ i ∈ ix, i ∈ own.map (·.2)) (ht : ∀ (s : Shared) (H : Hp) (C : Addr) (cl : List (Str × Addr)) (fp : List Addr), FTs (X.blk s H scope (compEnvC scope cl C X.env) fp) ifs t)
    (he : ∀ (s : Shared) (H : Hp) (C : Addr) (cl : List (Str × Addr)) (fp : List Addr), FE (X.blk s H scope (compEnvC scope cl C X.env) fp) wx0 elt e)
    (hy : X.N[i]? = some y := by rfl) (hyl : X.env.scope.names.lookup y = some .local := by rfl) (hk : X.env.scope.kind = .function := by rfl) (hl : (py.line == pos.line) = true := by rfl) (ha : (scope.names.any fun (n, k) => n == y && (k == .local || k == .cell)) = false := by rfl) (hs : ∀ x, foldedSetIterable iter X.env x = pure x := by intro _; rfl) :
    FS X Wx (.Assign [.Name y py] (.ListComp elt [⟨tg, iter, ifs, 0⟩] scope pos) spos) (sSet i (eLcN fi g t e (own.map (·.2)))) :=
  (ps_setLc hc hN hy hyl (sw_true hk hyl hl ha) hi okB (fun s H C cl fp => (hg s H C cl fp).g) ht he hs).imp fun D σ H ⟨ρ, S, B, l, ok, sl, h⟩ =>
    lc_go (Q := fun x H1 => gName i x σ H1 D.nx) ok sl (hg X.s_0 H 0 [] []).ix hix (lc_new (W := ⟨ρ, S, H, B⟩) (ps_toE ok sl h))
end
end HL
end
section
set_option Elab.async false
set_option linter.all false
set_option maxRecDepth 100000
set_option maxHeartbeats 1000000
namespace HL
open PySem PySem.Spec L2

/-! ### an object of the store written -/
section
variable {K : Frag} {W : Wd} {n : Nat} {u : HO} {o : Ob}
theorem wr_live {ρ : Nat → Addr} {S : Store} {H H' : Hp} {B B' : Addr → Prop} {a : Addr} : Live ⟨ρ, S.set n o, H', B'⟩ a ↔ Live ⟨ρ, S, H, B⟩ a := by
  constructor
  · rintro ⟨i, hi, q⟩
    exact ⟨i, by simpa using hi, q⟩
  · rintro ⟨i, hi, q⟩
    exact ⟨i, by simpa using hi, q⟩
theorem wr_ok (ok : Ok K W) (hn : n < W.S.length) (r : ∀ W' : Wd, W'.H (W.ρ n) = some u → Ext W W' → RepO K W' o (W.ρ n)) :
    Ext W ⟨W.ρ, W.S.set n o, upd W.H (W.ρ n) u, W.B⟩ ∧ Ok K ⟨W.ρ, W.S.set n o, upd W.H (W.ρ n) u, W.B⟩ := by
  have e : Ext W ⟨W.ρ, W.S.set n o, upd W.H (W.ρ n) u, W.B⟩ := by
    refine ⟨rfl, by simp, fun _ _ => rfl, fun a v h nl => ⟨?_, fun q => nl (wr_live.mp q)⟩⟩
    exact (upd_ne fun e => nl ⟨n, hn, e.symm⟩).trans h
  refine ⟨e, fun a b => ?_, fun a b q => ok.nb a b (wr_live.mp q), fun i j hi hj q => ok.inj i j (by simpa using hi) (by simpa using hj) q, fun i o' h => ?_⟩
  · obtain ⟨xs, e'⟩ := ok.bl a b
    exact ⟨xs, (upd_ne fun z => ok.nb a b ⟨n, hn, z.symm⟩).trans e'⟩
  · have h : (W.S.set n o)[i]? = some o' := h
    by_cases z : n = i
    · subst z
      rw [List.getElem?_set_self hn] at h
      cases h
      exact r _ upd_same e
    · rw [List.getElem?_set_ne z] at h
      have hi : i < W.S.length := (List.getElem?_eq_some_iff.mp h).1
      have ne : W.ρ i ≠ W.ρ n := fun q => z (ok.inj _ _ hi hn q).symm
      have q := ok.obj i o' h
      cases o' with
      | lst xs =>
        obtain ⟨vs, e1, q1⟩ := q
        exact ⟨vs, (upd_ne ne).trans e1, Reps.ext e ok q1⟩
      | ins C ks xs =>
        obtain ⟨dx, vs, e1, hl, q1⟩ := q
        exact ⟨dx, vs, (upd_ne ne).trans e1, hl, Reps.ext e ok q1⟩
      | tab x =>
        obtain ⟨v, e', z⟩ := ok.live ⟨n, hn, rfl⟩
        refine ⟨q.1, tabS_upd ne (fun c y => ?_) q.2⟩
        rw [e'] at y
        rcases z with ⟨xs, rfl⟩ | ⟨C, dx, fs, rfl⟩ | ⟨ps, rfl⟩ | ⟨hs, b, xs, rfl⟩
        · cases y
        · cases y
        · cases y
        · exact code_ne (Option.some.inj y).symm
      | dct hs kvs =>
        obtain ⟨xs, e1, hk, q1, q2⟩ := q
        exact ⟨xs, (upd_ne ne).trans e1, hk, Reps.ext e ok q1, Reps.ext e ok q2⟩
end

/-! ### targets of all forms -/
abbrev TgtH := D → L → Store → Option (L × Store)
def tH (K : Frag) (b : TgtH) : TG := fun v σ H Q => ∃ ρ S B l d l' S', Ok K ⟨ρ, S, H, B⟩ ∧ Sl K ⟨ρ, S, H, B⟩ σ l ∧ Rep K ⟨ρ, S, H, B⟩ d v ∧ b d l S = some (l', S') ∧ ∀ ρ' H' σ', Ext ⟨ρ, S, H, B⟩ ⟨ρ', S', H', B⟩ → Ok K ⟨ρ', S', H', B⟩ → Sl K ⟨ρ', S', H', B⟩ σ' l' → Q σ' H'
def tHs (K : Frag) (b : List D → L → Store → Option (L × Store)) : TGs := fun us σ H Q => ∃ ρ S B l ds l' S', Ok K ⟨ρ, S, H, B⟩ ∧ Sl K ⟨ρ, S, H, B⟩ σ l ∧ Reps K ⟨ρ, S, H, B⟩ ds us ∧ b ds l S = some (l', S') ∧ ∀ ρ' H' σ', Ext ⟨ρ, S, H, B⟩ ⟨ρ', S', H', B⟩ → Ok K ⟨ρ', S', H', B⟩ → Sl K ⟨ρ', S', H', B⟩ σ' l' → Q σ' H'
abbrev FH (X : Cx) (e : Expr) (b : TgtH) : Prop := PG X e (tH X.K b)
abbrev FHs (X : Cx) (es : List Expr) (b : List D → L → Store → Option (L × Store)) : Prop := PGs X es (tHs X.K b)
def hNm (i : Nat) : TgtH := fun d l S => some (l.set i (some d), S)
def hsNil : List D → L → Store → Option (L × Store) := fun ds l S => match ds with
  | [] => some (l, S)
  | _ => none
def hsCons (b : TgtH) (c : List D → L → Store → Option (L × Store)) : List D → L → Store → Option (L × Store) := fun ds l S => match ds with
  | d :: ds => match b d l S with
    | some (l1, S1) => c ds l1 S1
    | none => none
  | [] => none
def hT (n : Nat) (c : List D → L → Store → Option (L × Store)) : TgtH := fun d l S => match seqD d S with
  | some ds => if ds.length = n then c ds l S else none
  | none => none
/-- o[i] = d of a list in the store -/
def setIx (o i d : D) (S : Store) : Option Store := match o, i with
  | .loc n, .int k => match S[n]? with
    | some (.lst xs) => match ixN xs.length k with
      | some j => some (S.set n (.lst (xs.set j d)))
      | none => none
    | _ => none
  | _, _ => none
def hIx (fo fi : L → Store → R D) : TgtH := fun d l S => match fo l S with
  | .ok o S1 => match fi l S1 with
    | .ok i S2 => match setIx o i d S2 with
      | some S3 => some (l, S3)
      | none => none
    | _ => none
  | _ => none
section
variable {X : Cx} {pos : Pos} {e o i : Expr} {es : List Expr} {b : TgtH} {c : List D → L → Store → Option (L × Store)} {fo fi : L → Store → R D}
theorem fh_name (i : Nat) {x : Str} (hN : X.N.Nodup) (hi : X.N[i]? = some x := by rfl) (hx : Loc X.env.scope x := by first | exact Or.inl rfl | exact Or.inr rfl) (hf : X.fn x = true ∨ X.env.scope.names.lookup x = some .local := by first | exact .inl rfl | exact .inr rfl) : FH X (.Name x pos) (hNm i) :=
  (pg_name hN hi hx hf).imp fun v σ H Q ⟨ρ, S, B, l, d, l', S', ok, sl, r, e, q⟩ => by
    cases e
    exact q ρ H _ (Ext.refl _) ok (sl.set r i)
theorem fhs_nil : FHs X [] hsNil :=
  pgs_nil.imp fun v σ H Q ⟨ρ, S, B, l, ds, l', S', ok, sl, r, e, q⟩ => by
    cases r with
    | nil =>
      cases e
      exact ⟨rfl, q ρ H σ (Ext.refl _) ok sl⟩
    | cons _ _ => exact (nomatch e)
theorem fhs_cons (h : FH X e b) (r : FHs X es c) (hs : (assignEach (e :: es) X.env).map (·.2) = assign e X.env :: (assignEach es X.env).map (·.2) := by rfl) : FHs X (e :: es) (hsCons b c) :=
  (pgs_cons h r hs).imp fun us σ H Q ⟨ρ, S, B, l, ds, l', S', ok, sl, rr, e, q⟩ => by
    cases rr with
    | nil => cases e
    | @cons d v ds vs rd rs =>
      unfold hsCons at e
      dsimp only at e
      cases h1 : b d l S with
      | none => rw [h1] at e; cases e
      | some p =>
        obtain ⟨l1, S1⟩ := p
        rw [h1] at e
        exact ⟨v, vs, rfl, ρ, S, B, l, d, l1, S1, ok, sl, rd, h1, fun ρ1 H1 σ1 e1 o1 s1 => ⟨ρ1, S1, B, l1, ds, l', S', o1, s1, rs.ext e1 ok, e, fun ρ2 H2 σ2 e2 o2 s2 => q ρ2 H2 σ2 (e1.trans e2) o2 s2⟩⟩
theorem fh_tup {k n : Nat} (hc : X.calm = true) (h : FHs X es c) (hn : (assignEach es X.env).length = n := by rfl) (hst : (assignEach es X.env).findIdx? (·.1) = none := by rfl) : FH X (.Tuple es k pos) (hT n c) :=
  ((pg_tup hc h hn hst).or (pg_lst hc h hn hst)).imp fun v σ H Q ⟨ρ, S, B, l, d, l', S', ok, sl, r, e, q⟩ => by
    unfold hT at e
    cases h1 : seqD d S with
    | none => rw [h1] at e; cases e
    | some ds =>
      rw [h1] at e
      dsimp only at e
      by_cases hl : ds.length = n
      · rw [if_pos hl] at e
        obtain ⟨a, vs, rfl, h2, q2⟩ := seqD_ok ok r h1
        rcases h2 with h2 | h2
        · exact .inr ⟨a, vs, rfl, h2, by rw [← q2.length]; exact hl, ρ, S, B, l, ds, l', S', ok, sl, q2, e, q⟩
        · exact .inl ⟨a, vs, rfl, h2, by rw [← q2.length]; exact hl, ρ, S, B, l, ds, l', S', ok, sl, q2, e, q⟩
      · rw [if_neg hl] at e
        cases e
theorem setIx_ok {K : Frag} {W : Wd} {o i d : D} {x y v : V} {S' : Store} {Q : Hp → Prop} (ok : Ok K W) (ro : Rep K W o x) (ri : Rep K W i y) (rd : Rep K W d v) (e : setIx o i d W.S = some S')
    (k : ∀ ρ' H', Ext W ⟨ρ', S', H', W.B⟩ → Ok K ⟨ρ', S', H', W.B⟩ → Q H') : rSetL x y v W.H Q := by
  unfold setIx at e
  split at e
  · rename_i n j
    split at e
    · rename_i xs hx
      split at e
      · rename_i m hm
        cases e
        obtain ⟨vs, h1, q⟩ := ok.obj n _ hx
        cases ri
        cases ro with
        | loc hn =>
          obtain ⟨e2, o2⟩ := wr_ok (u := .lst (vs.set m v)) (o := .lst (xs.set m d)) ok hn fun W' eh ex => ⟨_, eh, Reps.set (rd.ext ex ok) m (q.ext ex ok)⟩
          exact ⟨_, vs, j, m, rfl, rfl, h1, by rw [← q.length]; exact hm, k _ _ e2 o2⟩
      · cases e
    · cases e
  · cases e
theorem fh_ix (ho : FE X wx0 o fo) (hi : FE X wx0 i fi)
    (ha : ∀ v, assign (.Subscript o i pos) X.env v = (do
      let ov ← holding [v] (eval o X.env)
      let iv ← holding [v, ov] (eval i X.env)
      standAt pos
      holding [v, ov, iv] (setItem ov iv v)
      release [v, ov, iv] []) := by intro _; rfl) : FH X (.Subscript o i pos) (hIx fo fi) :=
  (pg_sub ho hi set_list ha).imp fun v σ H Q ⟨ρ, S, B, l, d, l', S', ok, sl, r, e, q⟩ => by
    unfold hIx at e
    refine ⟨ρ, S, B, l, ok, sl, ?_⟩
    cases h1 : fo l S with
    | bad => rw [h1] at e; cases e
    | exc x S1 => rw [h1] at e; cases e
    | ok od S1 =>
      rw [h1] at e
      dsimp only at e
      intro ρ1 H1 e1 o1 x rx
      refine ⟨ρ1, S1, B, l, o1, sl.ext e1 ok, ?_⟩
      cases h2 : fi l S1 with
      | bad => rw [h2] at e; cases e
      | exc x S1 => rw [h2] at e; cases e
      | ok id S2 =>
        rw [h2] at e
        dsimp only at e
        intro ρ2 H2 e2 o2 y ry
        cases h3 : setIx od id d S2 with
        | none => rw [h3] at e; cases e
        | some S3 =>
          rw [h3] at e
          cases e
          refine setIx_ok (W := ⟨ρ2, S2, H2, B⟩) o2 (rx.ext e2 o1) ry ((r.ext e1 ok).ext e2 o1) h3 fun ρ' H' e3 o3 => q ρ' H' σ ((e1.trans e2).trans e3) o3 (((sl.ext e1 ok).ext e2 o1).ext e3 o2)
end

/-! ### assignments -/
def sAsg (fe : L → Store → R D) (b : TgtH) : L → Store → Fl := fun l S => (fe l S).toS l fun d S1 => match b d l S1 with
  | some (l2, S2) => .nx l2 S2
  | none => .bad
def sPar (i j : Nat) (fa : L → Store → R (List D)) : L → Store → Fl := fun l S => (fa l S).toS l fun ds S1 => match ds with
  | [d, e] => .nx ((l.set i (some d)).set j (some e)) S1
  | _ => .bad
def sPar3 (i j k : Nat) (fa : L → Store → R (List D)) : L → Store → Fl := fun l S => (fa l S).toS l fun ds S1 => match ds with
  | [d, e, f] => .nx (((l.set i (some d)).set j (some e)).set k (some f)) S1
  | _ => .bad
def sAug (i : Nat) (p : D → D → Store → Option D) (fe : L → Store → R D) : L → Store → Fl := fun l S => match l[i]? with
  | some (some x) => (fe l S).toS l fun y S1 => match p x y S1 with
    | some z => .nx (l.set i (some z)) S1
    | none => .bad
  | _ => .bad
def pAddI (d e : D) (_ : Store) : Option D := match d, e with
  | .int i, .int j => some (.int (i + j))
  | _, _ => none
def pSubI (d e : D) (_ : Store) : Option D := match d, e with
  | .int i, .int j => some (.int (i - j))
  | _, _ => none
section
variable {X : Cx} {Wx : WX} {pos : Pos} {e tg : Expr} {fe : L → Store → R D} {b : TgtH} {fa : L → Store → R (List D)}
theorem fs_asg (he : FE X Wx e fe) (hg : FH X tg b) (hs : swapsWithSole [tg] e pos.line X.env = pure false := by rfl) (hw : swappedStores [tg] e X.env = pure none := by rfl)
    (h1 : (assignEach [tg] X.env).map (·.2) = [assign tg X.env] := by rfl) : FS X Wx (.Assign [tg] e pos) (sAsg fe b) :=
  (ps_asg he hg hs hw h1).imp fun D σ H ⟨ρ, S, B, l, ok, sl, h⟩ => ⟨ρ, S, B, l, ok, sl, (h.toS sl ok).mono fun W1 d e1 o1 ⟨_, _, h1⟩ v rv => by
    cases q : b d l W1.S with
    | none => rw [q] at h1; exact h1.elim
    | some p =>
      rw [q] at h1
      exact ⟨W1.ρ, W1.S, W1.B, l, d, p.1, p.2, o1, sl.ext e1 ok, rv, q, h1⟩⟩
theorem Reps.three {K : Frag} {W : Wd} {d e f : D} {vs : List V} (r : Reps K W [d, e, f] vs) : ∃ v u w, vs = [v, u, w] ∧ Rep K W d v ∧ Rep K W e u ∧ Rep K W f w := by
  cases r with
  | cons h r => cases r with
    | cons h' r => cases r with
      | cons h'' r => cases r; exact ⟨_, _, _, rfl, h, h', h''⟩
theorem fs_par (i j : Nat) {x y : Str} {a b : Expr} {px py pt : Pos} {kt k2 pt2} (hc : X.calm = true) (hN : X.N.Nodup) (ha : FA X Wx [a, b] fa) (hi : X.N[i]? = some x := by rfl) (hj : X.N[j]? = some y := by rfl) (hij : i ≠ j := by decide)
    (hx : X.env.scope.names.lookup x = some .local := by rfl) (hy : X.env.scope.names.lookup y = some .local := by rfl)
    (hw : swappedStores [.Tuple [.Name x px, .Name y py] kt pt] (.Tuple [a, b] k2 pt2) X.env = pure (some [x, y]) := by rfl)
    (hs : swapsWithSole [.Tuple [.Name x px, .Name y py] kt pt] (.Tuple [a, b] k2 pt2) pos.line X.env = pure false := by rfl) :
    FS X Wx (.Assign [.Tuple [.Name x px, .Name y py] kt pt] (.Tuple [a, b] k2 pt2) pos) (sPar i j fa) :=
  (ps_par hc hN hi hj hij hx hy ha hw hs).imp fun D σ H ⟨ρ, S, B, l, ok, sl, h⟩ => ⟨ρ, S, B, l, ok, sl, (h.toS sl ok).mono fun W1 ds e1 o1 ⟨_, _, h1⟩ vs rvs => by
    split at h1
    · obtain ⟨v, u, rfl, r1, r2⟩ := rvs.two
      exact ⟨v, u, rfl, h1 W1.ρ W1.H _ (Ext.refl _) o1 (((sl.ext e1 ok).set r1 i).set r2 j)⟩
    · exact h1.elim⟩
theorem fs_par3 (i j k : Nat) {x y z : Str} {a b c : Expr} {px py pz pt : Pos} {kt k2 pt2} (hc : X.calm = true) (hN : X.N.Nodup) (ha : FA X Wx [a, b, c] fa) (hi : X.N[i]? = some x := by rfl) (hj : X.N[j]? = some y := by rfl) (hk : X.N[k]? = some z := by rfl) (hij : i ≠ j := by decide) (hik : i ≠ k := by decide) (hjk : j ≠ k := by decide)
    (hx : X.env.scope.names.lookup x = some .local := by rfl) (hy : X.env.scope.names.lookup y = some .local := by rfl) (hz : X.env.scope.names.lookup z = some .local := by rfl)
    (hw : swappedStores [.Tuple [.Name x px, .Name y py, .Name z pz] kt pt] (.Tuple [a, b, c] k2 pt2) X.env = pure (some [x, y, z]) := by rfl)
    (hs : swapsWithSole [.Tuple [.Name x px, .Name y py, .Name z pz] kt pt] (.Tuple [a, b, c] k2 pt2) pos.line X.env = pure false := by rfl) :
    FS X Wx (.Assign [.Tuple [.Name x px, .Name y py, .Name z pz] kt pt] (.Tuple [a, b, c] k2 pt2) pos) (sPar3 i j k fa) :=
  (ps_par3 hc hN hi hj hk hij hik hjk hx hy hz ha hw hs).imp fun D σ H ⟨ρ, S, B, l, ok, sl, h⟩ => ⟨ρ, S, B, l, ok, sl, (h.toS sl ok).mono fun W1 ds e1 o1 ⟨_, _, h1⟩ vs rvs => by
    split at h1
    · obtain ⟨v, u, w, rfl, r1, r2, r3⟩ := rvs.three
      exact ⟨v, u, w, rfl, h1 W1.ρ W1.H _ (Ext.refl _) o1 ((((sl.ext e1 ok).set r1 i).set r2 j).set r3 k)⟩
    · exact h1.elim⟩
abbrev IpD (X : Cx) (op : Operator) (p : D → D → Store → Option D) : Prop := PIp X op (rP2 X.K p)
theorem ip_pAdd : IpD X .Add pAddI := by
  intro pins s σ H x y v u Q I rx ry ⟨ρ, S, B, d, e, r, ok, rd, re, hp, k⟩
  unfold pAddI at hp
  split at hp
  · cases hp; cases rd; cases re
    exact ip_add pins s σ H _ _ v u Q I rx ry ⟨_, _, rfl, rfl, k _ _ (Same.refl H) (.int _)⟩
  · cases hp
theorem ip_pSub : IpD X .Sub pSubI := by
  intro pins s σ H x y v u Q I rx ry ⟨ρ, S, B, d, e, r, ok, rd, re, hp, k⟩
  unfold pSubI at hp
  split at hp
  · cases hp; cases rd; cases re
    exact ip_sub pins s σ H _ _ v u Q I rx ry ⟨_, _, rfl, rfl, k _ _ (Same.refl H) (.int _)⟩
  · cases hp
theorem fs_aug (i : Nat) {x : Str} {op : Operator} {p : D → D → Store → Option D} {pos' : Pos} (ho : IpD X op p) (hN : X.N.Nodup) (he : FE X Wx e fe) (hi : X.N[i]? = some x := by rfl) (hx : Loc X.env.scope x := by first | exact Or.inl rfl | exact Or.inr rfl) (hf : X.fn x = true ∨ X.env.scope.names.lookup x = some .local := by first | exact .inl rfl | exact .inr rfl) :
    FS X Wx (.AugAssign (.Name x pos') op e pos) (sAug i p fe) :=
  (ps_aug hN hi hx he ho hf).imp fun D σ H ⟨ρ, S, B, l, ok, sl, h⟩ => by
    unfold sAug at h
    split at h
    · rename_i x0 hx0
      obtain ⟨v, e1, r1⟩ := sl.get i _ hx0
      refine ⟨v, e1, ρ, S, B, l, ok, sl, (h.toS sl ok).mono fun W1 y e1 o1 ⟨_, _, h1⟩ u ru => ?_⟩
      cases q : p x0 y W1.S with
      | none => rw [q] at h1; exact h1.elim
      | some z =>
        rw [q] at h1
        refine ⟨W1.ρ, W1.S, W1.B, x0, y, z, o1, r1.ext e1 ok, ru, q, fun H' w sm rw' => h1 W1.ρ H' _ (Ext.same sm) (o1.same sm) (Sl.set (sl.ext (e1.trans (Ext.same sm)) ok) rw' i)⟩
    · exact h.elim
end

/-! ### methods of built-in types -/
def tyD (d : D) (S : Store) : String := match d with
  | .str _ => "str"
  | .int _ => "int"
  | .tpn _ => "tuple"
  | .lst _ => "list"
  | .scr _ => "list"
  | .loc n => match S[n]? with
    | some (.lst _) => "list"
    | some (.dct _ _) => "dict"
    | _ => ""
  | _ => ""
theorem ty_of {X : Cx} {pins : List (Addr × Obj)} {σ : L2.St} {s : Shared} {W : Wd} {d : D} {v : V} {u : Value} {T : String} (I : Inv X pins σ W.H s) (ok : Ok X.K W) (r : Rep X.K W d v) (ru : RelV v u) (h : tyD d W.S = T) (hT : T ≠ "") :
    s.TypeIs u T ∧ ∀ a, u = .ref a → ∃ ob, s.heap.get? a = some ob ∧ ob.dict = none := by
  have lst : ∀ {a : Addr} {vs : List V}, SqL X.K W.H a vs → s.TypeIs (.ref a) "list" ∧ ∀ b, (.ref a : Value) = .ref b → ∃ ob, s.heap.get? b = some ob ∧ ob.dict = none := fun {a vs} hq => by
    obtain ⟨its, _, pl, _⟩ := I.list hq
    refine ⟨pl.isList.typeIs, fun a e => ?_⟩
    cases e
    obtain ⟨o, n, e, c, hd, _⟩ := pl
    exact ⟨o, e, hd⟩
  cases r with
  | str z =>
    obtain ⟨t, rfl⟩ := ru
    cases h
    exact ⟨typeIs_str s z t, fun _ e => nomatch e⟩
  | int i =>
    obtain ⟨t, rfl⟩ := ru
    cases h
    exact ⟨typeIs_int s i t, fun _ e => nomatch e⟩
  | tpn h1 q =>
    obtain ⟨o, h1, hd⟩ := h1
    cases ru
    cases h
    obtain ⟨h2, h3⟩ := I.hok _ _ h1
    obtain ⟨_, its, _, o', ho', hc', _⟩ := h3
    refine ⟨⟨o', ho', hc'⟩, fun a e => ?_⟩
    cases e
    exact ⟨o, h2, hd⟩
  | lst h1 q =>
    cases ru
    cases h
    exact lst h1.sql
  | scr h1 q =>
    cases ru
    cases h
    exact lst h1.sql
  | @loc n hn =>
    cases ru
    unfold tyD at h
    dsimp only at h
    split at h
    · rename_i xs hx
      cases h
      obtain ⟨vs, h1, _⟩ := ok.obj n _ hx
      exact lst (.inl (.inl h1))
    · rename_i hs kvs hx
      cases h
      obtain ⟨xs, e1, _⟩ := ok.obj n _ hx
      obtain ⟨⟨_, _, _, _, vals, o, es, ep, _, ho, hc, _⟩, _, _⟩ := I.hok _ _ e1
      refine ⟨⟨o, ho, hc.1⟩, fun a e => ?_⟩
      cases e
      exact ⟨o, ho, hc.2.1⟩
    · exact absurd h.symm hT
  | _ => exact absurd h.symm hT
/-- a method: of a thing and its arguments; what is behind in the store -/
def rM (K : Frag) (pm : D → List D → Store → Option (D × Store)) : V → List V → Hp → VK → Prop := fun x xs H Q => ∃ ρ S B d ds r S', Ok K ⟨ρ, S, H, B⟩ ∧ Rep K ⟨ρ, S, H, B⟩ d x ∧ Reps K ⟨ρ, S, H, B⟩ ds xs ∧ pm d ds S = some (r, S') ∧
  ∀ ρ' H' v, Ext ⟨ρ, S, H, B⟩ ⟨ρ', S', H', B⟩ → Ok K ⟨ρ', S', H', B⟩ → Rep K ⟨ρ', S', H', B⟩ r v → Q v H'
abbrev MtD (X : Cx) (id : String) (pm : D → List D → Store → Option (D × Store)) : Prop := MtR X id (rM X.K pm)
def mMeth (T : String) (pm : D → List D → Store → Option (D × Store)) (fo : L → Store → R D) (fa : L → Store → R (List D)) : L → Store → R D := fun l S => (fo l S).bind fun d S1 => if tyD d S1 = T then (fa l S1).bind fun ds S2 => match pm d ds S2 with
    | some (r, S3) => .ok r S3
    | none => .bad
  else .bad
section
variable {X : Cx} {Wx : WX} {o e : Expr} {es : List Expr} {name : Str} {apos cpos : Pos} {T id : String} {pm : D → List D → Store → Option (D × Store)} {fo : L → Store → R D} {fa : L → Store → R (List D)}
theorem fe_meth (pa : PlainAttrs T) (slot : Slot T name id) (hty : typeOf (.builtin id) = pure (.type "method_descriptor")) (hm : MtD X id pm) (hT : T ≠ "") (ho : FE X Wx o fo) (ha : FA X Wx (e :: es) fa)
    (hbase : attributeBase o name X.env (eval o X.env) = eval o X.env := by rfl)
    (hfew : ((backTo cpos (starEach (e :: es) X.env)).all (fun x => !x.1) && (backToKw cpos (keywordEach [] X.env)).all (fun x => x.1.isSome)
      && decide ((e :: es).length + ([] : List Keyword).length + (if ([] : List Keyword).isEmpty then 0 else 1) < 30)) = true := by rfl)
    (hline : (apos.endLine == cpos.line) = true := by rfl) (hs : starEach (e :: es) X.env = (false, eval e X.env) :: starEach es X.env := by rfl) (hplain : (backTo cpos (starEach es X.env)).any (·.1) = false := by rfl) :
    FE X Wx (.Call (.Attribute o name apos) (e :: es) [] cpos) (mMeth T pm fo fa) := by
  refine ⟨fun pins s σ H Q I ⟨ρ, S, B, l, ok, sl, h⟩ => ?_⟩
  refine wpAny_Call_method_late hbase hfew hline rfl (thn (ho.run pins s σ H (fun x H1 => ∃ ρ1 S1 d, Ok X.K ⟨ρ1, S1, H1, B⟩ ∧ Rep X.K ⟨ρ1, S1, H1, B⟩ d x ∧ tyD d S1 = T ∧ tL X.K Wx fa σ H1 fun xs H2 => rM X.K pm x xs H2 Q) I
    ⟨ρ, S, B, l, ok, sl, h.bind.mono fun W1 d e1 o1 ⟨_, _, h1⟩ x rx => ?_⟩) fun v s1 ⟨x, H1, I1, r1, ρ1, S1, d, o1, rd, ty, q1⟩ => ?_)
  · obtain ⟨hc, h1⟩ := Post.iff_ok h1
    have eB : W1.B = B := e1.B
    obtain ⟨ρ1, S1, H1, B1⟩ := W1
    cases eB
    refine ⟨ρ1, S1, d, o1, rx, hc, ρ1, S1, B1, l, o1, sl.ext e1 ok, h1.bind.mono fun W2 ds e2 o2 ⟨_, _, h2⟩ xs rxs => ?_⟩
    cases q : pm d ds W2.S with
    | none => rw [q] at h2; exact h2.elim
    | some p =>
      rw [q] at h2
      exact ⟨W2.ρ, W2.S, W2.B, d, ds, p.1, p.2, o2, rx.ext e2 o1, rxs, q, fun ρ' H' v e3 o3 rv => h2 ρ' H' e3 o3 v rv⟩
  · obtain ⟨t1, t2⟩ := ty_of I1 o1 rd r1 ty hT
    refine ⟨T, id, pa, slot, hty, t1, t2, ?_⟩
    have hA := ha.run cpos pins s1 σ H1 _ I1 q1
    rw [hs] at hA ⊢
    refine Calls.callWith_builtin (by show (false || (backTo cpos (starEach es X.env)).any (·.1)) = false; rw [hplain] <;> rfl) (Calls.evalArgs_plain ?_)
    exact thn hA fun us s2 ⟨vs, H2, I2, r2, q2⟩ => hm pins s2 σ H2 x vs v us Q I2 r1 r2 q2
theorem fe_meth0 (pa : PlainAttrs T) (slot : Slot T name id) (hty : typeOf (.builtin id) = pure (.type "method_descriptor")) (hm : MtD X id pm) (hT : T ≠ "") (ho : FE X Wx o fo)
    (hbase : attributeBase o name X.env (eval o X.env) = eval o X.env := by rfl) (hline : (apos.endLine == cpos.line) = true := by rfl) :
    FE X Wx (.Call (.Attribute o name apos) [] [] cpos) (mMeth T pm fo aNil) := by
  refine ⟨fun pins s σ H Q I ⟨ρ, S, B, l, ok, sl, h⟩ => ?_⟩
  refine wpAny_Call_method0_late hbase hline (thn (ho.run pins s σ H (fun x H1 => ∃ ρ1 S1 d, Ok X.K ⟨ρ1, S1, H1, B⟩ ∧ Rep X.K ⟨ρ1, S1, H1, B⟩ d x ∧ tyD d S1 = T ∧ rM X.K pm x [] H1 Q) I
    ⟨ρ, S, B, l, ok, sl, h.bind.mono fun W1 d e1 o1 ⟨_, _, h1⟩ x rx => ?_⟩) fun v s1 ⟨x, H1, I1, r1, ρ1, S1, d, o1, rd, ty, q1⟩ => ?_)
  · obtain ⟨hc, h1⟩ := Post.iff_ok h1
    have eB : W1.B = B := e1.B
    obtain ⟨ρ1, S1, H1, B1⟩ := W1
    cases eB
    refine ⟨ρ1, S1, d, o1, rx, hc, ?_⟩
    have h2 := Post.ok_of (W := ⟨ρ1, S1, H1, B1⟩) o1 h1.bind
    obtain ⟨_, _, h2⟩ := h2
    cases q : pm d [] S1 with
    | none => rw [q] at h2; exact h2.elim
    | some p =>
      rw [q] at h2
      exact ⟨ρ1, S1, B1, d, [], p.1, p.2, o1, rx, .nil, q, fun ρ' H' v e3 o3 rv => h2 ρ' H' e3 o3 v rv⟩
  · obtain ⟨t1, t2⟩ := ty_of I1 o1 rd r1 ty hT
    exact ⟨T, id, pa, slot, hty, t1, t2, Calls.callWith_builtin rfl (PySem.evalArgs_none (hm pins s1 σ H1 x [] v [] Q I1 r1 .nil q1))⟩
end
/-- what stays as it is -/
def same1 (p : D → List D → Store → Option D) : D → List D → Store → Option (D × Store) := fun d ds S => (p d ds S).map fun r => (r, S)
def qAppend (d : D) (ds : List D) (S : Store) : Option (D × Store) := match d, ds with
  | .loc n, [e] => match S[n]? with
    | some (.lst xs) => if xs.length < sizeLine then some (.non, S.set n (.lst (xs ++ [e]))) else none
    | _ => none
  | _, _ => none
def qExtend (d : D) (ds : List D) (S : Store) : Option (D × Store) := match d, ds with
  | .loc n, [.lst ys] => match S[n]? with
    | some (.lst xs) => if xs.length + ys.length ≤ sizeLine then some (.non, S.set n (.lst (xs ++ ys))) else none
    | _ => none
  | _, _ => none
def qPop (d : D) (ds : List D) (S : Store) : Option (D × Store) := match d, ds with
  | .loc n, [] => match S[n]? with
    | some (.lst xs) => match xs.getLast? with
      | some e => some (e, S.set n (.lst xs.dropLast))
      | none => none
    | _ => none
  | _, _ => none
/-- the place of the first equal one -/
def pIndexL (d : D) (ds : List D) (S : Store) : Option D := match ds with
  | [e] => match toPyS d S, toPyS e S with
    | some (.list ps), some p => if SeqAt.shaped (.list ps) = true ∧ SeqAt.shaped p = true then (ps.findIdx? fun z => PyData.eqv z p).map fun (j : Nat) => D.int (j : Int) else none
    | _, _ => none
  | _ => none
def strsD : List D → Option (List Str)
  | [] => some []
  | .str i :: ds => (strsD ds).map (i :: ·)
  | _ => none
def pIndexT (d : D) (ds : List D) (_ : Store) : Option D := match d, ds with
  | .tpn xs, [.str z] => (strsD xs).bind fun ys => (ys.findIdx? fun y => y == z).map fun (j : Nat) => D.int (j : Int)
  | _, _ => none
def pJoin (d : D) (ds : List D) (S : Store) : Option D := match d, ds with
  | .str a, [e] => ((seqD e S).bind strsD).bind fun ys => if (ys.map (·.length)).sum + ys.length * a.length ≤ 16777216 then some (.str (Txt.join a ys)) else none
  | _, _ => none
def pUpper (d : D) (ds : List D) (_ : Store) : Option D := match d, ds with
  | .str a, [] => if a.length ≤ 5592405 then some (.str (Txt.upper a)) else none
  | _, _ => none
def pSplit (d : D) (ds : List D) (_ : Store) : Option D := match d, ds with
  | .str a, [.str b] => if (b.length == 0) = false ∧ a.length + 2 ≤ sizeLine then some (.lst ((Txt.split a b).map .str)) else none
  | _, _ => none
def pEndsw (d : D) (ds : List D) (_ : Store) : Option D := match d, ds with
  | .str a, [.str b] => some (.bl (Txt.endswith a b))
  | _, _ => none
section
variable {X : Cx}
theorem findIdx?_some {α : Type} {p : α → Bool} : ∀ {xs : List α} {j : Nat}, xs.findIdx? p = some j → ∃ z, xs[j]? = some z ∧ p z = true ∧ ∀ m z', m < j → xs[m]? = some z' → p z' = false
  | [], j, h => by simp at h
  | x :: xs, j, h => by
    rw [List.findIdx?_cons] at h
    by_cases hp : p x = true
    · rw [if_pos hp] at h
      cases h
      exact ⟨x, rfl, hp, fun m z' hm => absurd hm (Nat.not_lt_zero _)⟩
    · rw [if_neg hp] at h
      obtain ⟨i, h1, rfl⟩ := Option.map_eq_some_iff.mp h
      obtain ⟨z, h2, h3, h4⟩ := findIdx?_some h1
      refine ⟨z, by simpa using h2, h3, fun m z' hm hz => ?_⟩
      cases m with
      | zero =>
        have e : x = z' := by simpa using hz
        rw [← e]
        simpa using hp
      | succ m => exact h4 m z' (by omega) (by simpa using hz)
theorem strs_ok {K : Frag} {W : Wd} : ∀ {ds : List D} {vs : List V} {ns : List Str}, Reps K W ds vs → strsD ds = some ns → vs = ns.map V.str
  | _, _, _, .nil, e => by cases e; rfl
  | _, _, _, .cons (d := d) h r, e => by
    cases h with
    | str i =>
      obtain ⟨ns, h1, rfl⟩ := Option.map_eq_some_iff.mp (show (strsD _).map (i :: ·) = some _ from e)
      rw [strs_ok r h1]
      rfl
    | _ => cases e
theorem mt_qAppend : MtD X "list.append" qAppend := fun pins s σ H x xs v us Q I rx rxs ⟨ρ, S, B, d, ds, r, S', ok, rd, rds, hp, k⟩ => by
  unfold qAppend at hp
  split at hp
  · rename_i n e
    split at hp
    · rename_i ys hy
      split at hp
      · rename_i hz
        cases hp
        obtain ⟨vs, h1, q⟩ := ok.obj n _ hy
        obtain ⟨w, rfl, rw'⟩ := rds.one
        cases rd with
        | loc hn =>
          obtain ⟨e2, o2⟩ := wr_ok (W := ⟨ρ, S, H, B⟩) (n := n) (u := .lst (vs ++ [w])) (o := .lst (ys ++ [e])) ok hn fun W' eh ex => ⟨_, eh, Reps.append (q.ext ex ok) (.cons (rw'.ext ex ok) .nil)⟩
          exact mt_append pins s σ H _ _ v us Q I rx rxs ⟨_, vs, w, rfl, rfl, h1, by rw [← q.length]; exact hz, k _ _ _ e2 o2 .non⟩
      · cases hp
    · cases hp
  · cases hp
theorem mt_qExtend : MtD X "list.extend" qExtend := fun pins s σ H x xs v us Q I rx rxs ⟨ρ, S, B, d, ds, r, S', ok, rd, rds, hp, k⟩ => by
  unfold qExtend at hp
  split at hp
  · rename_i n zs
    split at hp
    · rename_i ys hy
      split at hp
      · rename_i hz
        cases hp
        obtain ⟨vs, h1, q⟩ := ok.obj n _ hy
        obtain ⟨w, rfl, rw'⟩ := rds.one
        cases rd with
        | loc hn =>
          cases rw' with
          | @lst _ ws a h2 q2 =>
            obtain ⟨e2, o2⟩ := wr_ok (W := ⟨ρ, S, H, B⟩) (n := n) (u := .lst (vs ++ ws)) (o := .lst (ys ++ zs)) ok hn fun W' eh ex => ⟨_, eh, Reps.append (q.ext ex ok) (q2.ext ex ok)⟩
            exact mt_extend pins s σ H _ _ v us Q I rx rxs ⟨_, a, vs, ws, rfl, rfl, h1, h2.1, by rw [← q.length, ← q2.length]; exact hz, k _ _ _ e2 o2 .non⟩
      · cases hp
    · cases hp
  · cases hp
theorem Reps.dropLast {K : Frag} {W : Wd} {ds : List D} {vs : List V} (q : Reps K W ds vs) : Reps K W ds.dropLast vs.dropLast := by
  rw [List.dropLast_eq_take, List.dropLast_eq_take, ← q.length]
  exact q.take _
theorem mt_qPop : MtD X "list.pop" qPop := fun pins s σ H x xs v us Q I rx rxs ⟨ρ, S, B, d, ds, r, S', ok, rd, rds, hp, k⟩ => by
  unfold qPop at hp
  split at hp
  · rename_i n
    split at hp
    · rename_i ys hy
      split at hp
      · rename_i e hz
        cases hp
        obtain ⟨vs, h1, q⟩ := ok.obj n _ hy
        cases rds
        rw [List.getLast?_eq_getElem?] at hz
        obtain ⟨w, hw, rw'⟩ := q.get hz
        cases rd with
        | loc hn =>
          obtain ⟨e2, o2⟩ := wr_ok (W := ⟨ρ, S, H, B⟩) (n := n) (u := .lst vs.dropLast) (o := .lst ys.dropLast) ok hn fun W' eh ex => ⟨_, eh, (q.ext ex ok).dropLast⟩
          exact mt_pop pins s σ H _ _ v us Q I rx rxs ⟨_, vs, w, rfl, rfl, h1, by rw [← q.length]; exact hw, k _ _ _ e2 o2 (rw'.ext e2 ok)⟩
      · cases hp
    · cases hp
  · cases hp
/-- a method that changes nothing -/
theorem mt_same {id : String} {p : D → List D → Store → Option D} (h : ∀ (pins : List (Addr × Obj)) (s : Shared) (σ : L2.St) (H : Hp) (x : V) (xs : List V) (v : Value) (us : List Value) (Q : VK), Inv X pins σ H s → RelV x v → Vals xs us →
    (∃ ρ S B d ds r, Ok X.K ⟨ρ, S, H, B⟩ ∧ Rep X.K ⟨ρ, S, H, B⟩ d x ∧ Reps X.K ⟨ρ, S, H, B⟩ ds xs ∧ p d ds S = some r ∧ ∀ H' v, Same H H' → Rep X.K ⟨ρ, S, H', B⟩ r v → Q v H') → wpAny (model X.prog X.w) X.A (call (.builtin id) (v :: us)) (EP X pins σ Q) X.xe s) : MtD X id (same1 p) :=
  fun pins s σ H x xs v us Q I rx rxs ⟨ρ, S, B, d, ds, r, S', ok, rd, rds, hp, k⟩ => by
    obtain ⟨r', h1, h2⟩ := Option.map_eq_some_iff.mp hp
    cases h2
    exact h pins s σ H x xs v us Q I rx rxs ⟨ρ, S, B, d, ds, r, ok, rd, rds, h1, fun H' v' sm rv => k ρ H' v' (Ext.same sm) (ok.same sm) rv⟩
theorem mt_pIndexL (hu : X.A.units + 65 < cLine) : MtD X "list.index" (same1 pIndexL) := mt_same fun pins s σ H x xs v us Q I rx rxs ⟨ρ, S, B, d, ds, r, ok, rd, rds, hp, k⟩ => by
  unfold pIndexL at hp
  split at hp
  · split at hp
    · rename_i e ps p h1 h2
      split at hp
      · rename_i hs
        obtain ⟨j, hj, rfl⟩ := Option.map_eq_some_iff.mp hp
        obtain ⟨z, a1, a2, a3⟩ := findIdx?_some hj
        obtain ⟨w, rfl, rw'⟩ := rds.one
        have dp := rd.dpS ok h1
        cases dp with
        | lst hl hr => exact mt_indexD hu pins s σ H _ _ v us Q I rx rxs ⟨_, w, p, ps, j, z, rfl, rfl, Dp.lst hl hr, rw'.dpS ok h2, hs.1, hs.2, a1, a2, a3, k _ _ (Same.refl H) (.int _)⟩
      · cases hp
    · cases hp
  · cases hp
theorem mt_pIndexT : MtD X "tuple.index" (same1 pIndexT) := mt_same fun pins s σ H x xs v us Q I rx rxs ⟨ρ, S, B, d, ds, r, ok, rd, rds, hp, k⟩ => by
  unfold pIndexT at hp
  split at hp
  · obtain ⟨ys, h1, h2⟩ := Option.bind_eq_some_iff.mp hp
    obtain ⟨j, hj, rfl⟩ := Option.map_eq_some_iff.mp h2
    obtain ⟨z, a1, a2, a3⟩ := findIdx?_some hj
    obtain ⟨w, rfl, rw'⟩ := rds.one
    cases rw'
    cases rd with
    | tpn h3 q =>
      obtain ⟨o, h3, _⟩ := h3
      rw [strs_ok q h1] at h3
      have e : z = _ := beq_iff_eq.mp a2
      subst e
      exact mt_tup_index pins s σ H _ _ v us Q I rx rxs ⟨_, ys, _, j, rfl, rfl, .inl (.inr ⟨o, h3⟩), a1, fun m hm he => by
        have := a3 m _ hm he
        simp at this, k _ _ (Same.refl H) (.int _)⟩
  · cases hp
theorem mt_pJoin : MtD X "str.join" (same1 pJoin) := mt_same fun pins s σ H x xs v us Q I rx rxs ⟨ρ, S, B, d, ds, r, ok, rd, rds, hp, k⟩ => by
  unfold pJoin at hp
  split at hp
  · obtain ⟨ys, h1, h2⟩ := Option.bind_eq_some_iff.mp hp
    obtain ⟨zs, h3, h4⟩ := Option.bind_eq_some_iff.mp h1
    split at h2
    · rename_i hz
      cases h2
      obtain ⟨w, rfl, rw'⟩ := rds.one
      cases rd
      obtain ⟨a, vs, rfl, h5, q⟩ := seqD_ok ok rw' h3
      rw [strs_ok q h4] at h5
      exact mt_join pins s σ H _ _ v us Q I rx rxs ⟨_, a, ys, rfl, rfl, h5, hz, k _ _ (Same.refl H) (.str _)⟩
    · cases h2
  · cases hp
theorem mt_pUpper : MtD X "str.upper" (same1 pUpper) := mt_same fun pins s σ H x xs v us Q I rx rxs ⟨ρ, S, B, d, ds, r, ok, rd, rds, hp, k⟩ => by
  unfold pUpper at hp
  split at hp
  · split at hp
    · rename_i hz
      cases hp
      cases rds
      cases rd
      exact mt_upper pins s σ H _ _ v us Q I rx rxs ⟨_, rfl, rfl, hz, k _ _ (Same.refl H) (.str _)⟩
    · cases hp
  · cases hp
theorem mt_pEndsw : MtD X "str.endswith" (same1 pEndsw) := mt_same fun pins s σ H x xs v us Q I rx rxs ⟨ρ, S, B, d, ds, r, ok, rd, rds, hp, k⟩ => by
  unfold pEndsw at hp
  split at hp
  · cases hp
    obtain ⟨w, rfl, rw'⟩ := rds.one
    cases rd
    cases rw'
    exact mt_endswith pins s σ H _ _ v us Q I rx rxs ⟨_, _, rfl, rfl, k _ _ (Same.refl H) (.bl _)⟩
  · cases hp
theorem Reps.strs {K : Frag} {W : Wd} : ∀ ys : List Str, Reps K W (ys.map .str) (ys.map V.str)
  | [] => .nil
  | y :: ys => .cons (.str y) (Reps.strs ys)
theorem mt_pSplit : MtD X "str.split" (same1 pSplit) := mt_same fun pins s σ H x xs v us Q I rx rxs ⟨ρ, S, B, d, ds, r, ok, rd, rds, hp, k⟩ => by
  unfold pSplit at hp
  split at hp
  · split at hp
    · rename_i hz
      cases hp
      obtain ⟨w, rfl, rw'⟩ := rds.one
      cases rd
      cases rw'
      refine mt_split pins s σ H _ _ v us Q I rx rxs ⟨_, _, rfl, rfl, hz.1, hz.2, fun p hp => ?_⟩
      obtain ⟨sm, z⟩ := new_lst ok hp (Reps.strs _)
      exact k _ _ sm z
    · cases hp
  · cases hp
end
end HL
end
section
set_option Elab.async false
set_option linter.all false
set_option maxRecDepth 100000
set_option maxHeartbeats 1000000
namespace HL
open PySem PySem.Spec L2

/-! ### isinstance -/
def tyName (d : D) (S : Store) : Option String := match d with
  | .non => some "NoneType"
  | .bl _ => some "bool"
  | .int _ => some "int"
  | .str _ => some "str"
  | .tup _ => some "tuple"
  | .tpn _ => some "tuple"
  | .lst _ => some "list"
  | .scr _ => some "list"
  | .iset _ => some "set"
  | .loc n => match S[n]? with
    | some (.lst _) => some "list"
    | _ => none
  | .ins _ _ _ => none
  | .err _ _ _ => none
  | .cls _ => none
  | .dic => some "dict"
/-- is a thing of that type one of the type T -/
def subT (a T : String) : Bool := a == T || (a == "bool" && T == "int")
theorem kit_subT {K : Frag} {a T : String} (ha : a ∈ ["NoneType", "bool", "int", "str", "tuple", "list", "set", "dict"]) (hT : T ∈ ["bool", "int", "str", "tuple", "list"]) : PySem.W.kitOne K (.type a) (.type T) = some (subT a T) := by
  refine kit_ty ?_
  have h : ∀ a ∈ ["NoneType", "bool", "int", "str", "tuple", "list", "set", "dict"], ∀ T ∈ ["bool", "int", "str", "tuple", "list"], kitB a T = some (subT a T) := by decide +kernel
  exact h a ha T hT
def isiT (T : String) (d : D) (S : Store) : Option D := (tyName d S).map fun a => .bl (subT a T)
theorem tyName_ok {K : Frag} {W : Wd} {d : D} {v : V} {a : String} (ok : Ok K W) (r : Rep K W d v) (h : tyName d W.S = some a) : TyX K W.H v (.type a) ∧ a ∈ ["NoneType", "bool", "int", "str", "tuple", "list", "set", "dict"] := by
  have tup : ∀ {p : Addr} {vs : List V}, SqT K W.H p vs → TyX K W.H (.ref p) (.type "tuple") := fun {p vs} h => by
    rcases h with (h | ⟨o, h⟩) | ⟨o, its, n, h1, h2, _⟩
    · exact .base (.tup h)
    · exact .fTuple h
    · exact .kTuple h1 h2
  cases r with
  | non => cases h; exact ⟨.base .non, by simp⟩
  | bl b => cases h; exact ⟨.base (.bl b), by simp⟩
  | int i => cases h; exact ⟨.base (.int i), by simp⟩
  | str x => cases h; exact ⟨.base (.str x), by simp⟩
  | tup h1 q => cases h; exact ⟨tup h1, by simp⟩
  | tpn h1 q => cases h; obtain ⟨o, h1, _⟩ := h1; exact ⟨.fTuple h1, by simp⟩
  | lst h1 q => cases h; exact ⟨.base (.lst h1.1), by simp⟩
  | scr h1 q =>
    cases h
    rcases h1 with ⟨o, h1⟩ | ⟨o, its, n, h1, h2, _⟩
    · exact ⟨.base (.frz h1), by simp⟩
    · exact ⟨.kList h1 h2, by simp⟩
  | iset h1 n => cases h; obtain ⟨M, h1⟩ := h1; exact ⟨.set h1, by simp⟩
  | ins h1 n hl q => cases h
  | err h1 hd hl q => cases h
  | cls C => cases h
  | dic h1 => cases h; exact ⟨.base (.dK h1), by simp⟩
  | @loc n hn =>
    unfold tyName at h
    dsimp only at h
    split at h
    · rename_i xs hx
      cases h
      obtain ⟨vs, h1, _⟩ := ok.obj n _ hx
      exact ⟨.base (.lst h1), by simp⟩
    · cases h
def mIsi (p : D → Store → Option D) (f : L → Store → R D) : L → Store → R D := fun l S => (f l S).bind fun d S1 => ofO (p d S1) S1
/-- what must hold of a class of the text, for isinstance(x, C) -/
structure IsiC (X : Cx) (C : Str) : Prop where
  no : ∀ a ∈ ["NoneType", "bool", "int", "str", "tuple", "list", "set", "dict"], PySem.W.kitOne X.K (.type a) (.ref (He.ga X.K C)) = some false
  cl : Cls X.K (He.ga X.K C)
  ha : PySem.W.findIn X.K (.ref (He.ga X.K C)) "__class__" = some (some (.builtin "object.__class__"))
  hn : PySem.W.specialIn X.K (.builtin "object.__class__") "__get__" = some (some (.builtin "getset_descriptor.__get__"))
  htk : PySem.W.takesIn X.K (.builtin "object.__class__") = some true
  mro : PySem.W.mroIn X.K (He.ga X.K C) (Value.type "object") = some true
def isiC (C : Str) (d : D) (S : Store) : Option D := match d with
  | .ins C' _ _ => if C' = C then some (.bl true) else none
  | .loc n => match S[n]? with
    | some (.ins C' _ _) => if C' = C then some (.bl true) else none
    | some (.lst _) => some (.bl false)
    | _ => none
  | d => (tyName d S).map fun _ => .bl false
section
variable {X : Cx} {Wx : WX} {e : Expr} {f : L → Store → R D} {x : Str} {p p2 pos : Pos}
theorem fe_isiT {T : String} (hT : T ∈ ["bool", "int", "str", "tuple", "list"]) (hm : X.mg "isinstance" = none) (hg : Gl X "isinstance") (hmT : X.mg x = none) (hgT : Gl X x) (he : FE X Wx e f) (hv : bootBuiltins x = some (.type T)) (hn : x ≠ "__name__" := by decide) (hdb : (x == ("__debug__" : Str)) = false := by decide)
    (hs : starEach [e, .Name x p2] X.env = [(false, eval e X.env), (false, eval (.Name x p2) X.env)] := by rfl) (hs2 : starEach [.Name x p2] X.env = [(false, eval (.Name x p2) X.env)] := by rfl) (hpl : (backTo pos (starEach [.Name x p2] X.env)).any (·.1) = false := by rfl) :
    FE X Wx (.Call (.Name "isinstance" p) [e, .Name x p2] [] pos) (mIsi (isiT T) f) :=
  (pe_callB call_isi hg hm (by decide +kernel) (pa_cons he (pa_cons (pe_bltn (v := V.ty T) hgT hmT hv rfl hn hdb) pa_nil hs2) hs) (he := hs) (hpl := hpl)).imp fun σ H Q ⟨ρ, S, B, l, ok, sl, h⟩ => ⟨ρ, S, B, l, ok, sl, h.bind.mono fun W1 d e1 o1 ⟨_, _, h1⟩ v rv => by
    obtain ⟨r, er, q⟩ := h1.ofO
    obtain ⟨a, h2, rfl⟩ := Option.map_eq_some_iff.mp er
    obtain ⟨ty, ha⟩ := tyName_ok o1 rv h2
    exact ⟨v, V.ty T, .type a, .type T, subT a T, rfl, .ty T, ty, kit_subT ha hT, q W1.H (Same.refl _) o1 _ (.bl _)⟩⟩
theorem ins_ty {C : Str} (c : IsiC X C) {W : Wd} {d : D} {v : V} {b : D} (ok : Ok X.K W) (r : Rep X.K W d v) (h : isiC C d W.S = some b) : ∃ t k, b = .bl k ∧ TyX X.K W.H v t ∧ PySem.W.kitOne X.K t (.ref (He.ga X.K C)) = some k := by
  have base : ∀ {a : String}, tyName d W.S = some a → b = .bl false → ∃ t k, b = .bl k ∧ TyX X.K W.H v t ∧ PySem.W.kitOne X.K t (.ref (He.ga X.K C)) = some k := fun {a} ha hb => by
    obtain ⟨ty, hm⟩ := tyName_ok ok r ha
    exact ⟨_, false, hb, ty, c.no a hm⟩
  have self : PySem.W.kitOne X.K (.ref (He.ga X.K C)) (.ref (He.ga X.K C)) = some true := by
    unfold PySem.W.kitOne
    rw [if_pos (beq_self_eq_true _)]
  unfold isiC at h
  split at h
  · rename_i C' ks vs
    split at h
    · rename_i hC
      subst hC
      cases h
      cases r with
      | ins h1 n hl q => exact ⟨_, true, rfl, .base (.ins h1 c.cl c.ha c.hn c.htk c.mro), self⟩
    · cases h
  · rename_i n
    split at h
    · rename_i C' ks vs hx
      split at h
      · rename_i hC
        subst hC
        cases h
        obtain ⟨dx, vs, h1, _⟩ := ok.obj n _ hx
        cases r with
        | loc hn => exact ⟨_, true, rfl, .base (.ins h1 c.cl c.ha c.hn c.htk c.mro), self⟩
      · cases h
    · rename_i xs hx
      cases h
      exact base (a := "list") (by unfold tyName; dsimp only; rw [hx]) rfl
    · cases h
  · obtain ⟨a, h1, rfl⟩ := Option.map_eq_some_iff.mp h
    exact base h1 rfl
theorem fe_isiC {C : Str} (c : IsiC X C) (hm : X.mg "isinstance" = none) (hg : Gl X "isinstance") (hmT : X.mg x = some (.ref (He.ga X.K C))) (hgT : Gl X x) (he : FE X Wx e f) (hdb : (x == ("__debug__" : Str)) = false := by decide)
    (hs : starEach [e, .Name x p2] X.env = [(false, eval e X.env), (false, eval (.Name x p2) X.env)] := by rfl) (hs2 : starEach [.Name x p2] X.env = [(false, eval (.Name x p2) X.env)] := by rfl) (hpl : (backTo pos (starEach [.Name x p2] X.env)).any (·.1) = false := by rfl) :
    FE X Wx (.Call (.Name "isinstance" p) [e, .Name x p2] [] pos) (mIsi (isiC C) f) :=
  (pe_callB call_isi hg hm (by decide +kernel) (pa_cons he (pa_cons (pe_glob (v := V.ref (He.ga X.K C)) hgT hmT rfl hdb) pa_nil hs2) hs) (he := hs) (hpl := hpl)).imp fun σ H Q ⟨ρ, S, B, l, ok, sl, h⟩ => ⟨ρ, S, B, l, ok, sl, h.bind.mono fun W1 d e1 o1 ⟨_, _, h1⟩ v rv => by
    obtain ⟨r, er, q⟩ := h1.ofO
    obtain ⟨t, k, rfl, ty, hk⟩ := ins_ty c o1 rv er
    exact ⟨v, V.ref (He.ga X.K C), t, .ref (He.ga X.K C), k, rfl, .own _, ty, hk, q W1.H (Same.refl _) o1 _ (.bl _)⟩⟩
end

/-! ### is, of truth values; divmod -/
def pIsB (d e : D) (_ : Store) : Option D := match d, e with
  | .bl a, .bl b => some (.bl (decide (a = b)))
  | _, _ => none
def pNotB (d e : D) (_ : Store) : Option D := match d, e with
  | .bl a, .bl b => some (.bl (!decide (a = b)))
  | _, _ => none
def pDivmod (ds : List D) (_ : Store) : Option D := match ds with
  | [.int i, .int j] => if CDiv i j then some (.tup [.int (i / j), .int (i % j)]) else none
  | _ => none
section
variable {X : Cx}
theorem op_pIsB : OpD X (compareOp .Is) pIsB := by
  intro pins s σ H x y v u Q I rx ry ⟨ρ, S, B, d, e, r, ok, rd, re, hp, k⟩
  unfold pIsB at hp
  split at hp
  · cases hp; cases rd; cases re
    exact op_isBl pins s σ H _ _ v u Q I rx ry ⟨_, _, rfl, rfl, k _ _ (Same.refl H) (.bl _)⟩
  · cases hp
theorem op_pNotB : OpD X (compareOp .IsNot) pNotB := by
  intro pins s σ H x y v u Q I rx ry ⟨ρ, S, B, d, e, r, ok, rd, re, hp, k⟩
  unfold pNotB at hp
  split at hp
  · cases hp; cases rd; cases re
    exact op_notBl pins s σ H _ _ v u Q I rx ry ⟨_, _, rfl, rfl, k _ _ (Same.refl H) (.bl _)⟩
  · cases hp
theorem call_pDivmod : CallD X (.builtin "divmod") pDivmod := by
  intro pins s σ H xs us Q I r ⟨ρ, S, B, ds, e, ok, rd, hp, k⟩
  unfold pDivmod at hp
  split at hp
  · split at hp
    · rename_i hc
      cases hp
      obtain ⟨v, u, rfl, h, h'⟩ := rd.two
      cases h; cases h'
      refine call_divmod pins s σ H _ us Q I r ⟨_, _, rfl, hc, fun p hp => ?_⟩
      obtain ⟨sm, z⟩ := new_tup (B := B) ok hp (.cons (.int _) (.cons (.int _) .nil))
      exact k _ _ sm z
    · cases hp
  · cases hp
end

/-! ### sets of ints -/
/-- the distinct ones, in the order of their first place -/
def dd (ns : List Int) : List Int := ns.foldl (fun acc x => if acc.any (· == x) then acc else acc ++ [x]) []
def pSet (ds : List D) (S : Store) : Option D := match ds with
  | [d] => ((seqL d S).bind intsD).bind fun ns => if ns.length + 1 < 4096 then some (.iset (dd ns).length) else none
  | _ => none
def pLenS (ds : List D) (S : Store) : Option D := match ds with
  | [.iset n] => if n < 4096 then some (.int n) else none
  | ds => pLen ds S
theorem firstMet_dd (ns : List Int) : PyProof.Rows.firstMet (fun i => ns.getD i 0) ns.length = dd ns := by
  unfold PyProof.Rows.firstMet dd
  have e : (List.range ns.length).map (fun i => ns.getD i 0) = ns := by
    refine List.ext_getElem? fun j => ?_
    rw [List.getElem?_map]
    by_cases hj : j < ns.length
    · rw [List.getElem?_range hj, List.getElem?_eq_getElem hj]
      simp [List.getD_eq_getElem?_getD, hj]
    · rw [List.getElem?_eq_none (by simpa using hj), List.getElem?_eq_none (by omega)]
      rfl
  rw [e]
  rfl
section
variable {X : Cx}
theorem call_pSet (hc : X.calm = true) : CallD X (.type "set") pSet := by
  intro pins s σ H xs us Q I r ⟨ρ, S, B, ds, e, ok, rd, hp, k⟩
  unfold pSet at hp
  split at hp
  · obtain ⟨ns, h1, hp⟩ := Option.bind_eq_some_iff.mp hp
    obtain ⟨ys, h2, h4⟩ := Option.bind_eq_some_iff.mp h1
    split at hp
    · rename_i hz
      cases hp
      obtain ⟨v, rfl, h⟩ := rd.one
      obtain ⟨a, vs, rfl, h3, q⟩ := seqL_ok ok h h2
      rw [ints_ok q h4] at h3
      obtain ⟨u, rfl, rx⟩ := vals1 r
      cases rx
      obtain ⟨its, rv, pl, _⟩ := I.list h3
      have hl : its.toArray.size = ns.length := by rw [List.size_toArray, ← rv.length, List.length_map]
      refine call_set_list (I.ok.hd hc) pl.isList (ns := ns) (by simpa using rv.ints) (by rw [hl]; unfold scanBound; omega) fun h' tk hS hk => ?_
      rw [hl, firstMet_dd] at hS
      have hn : H s.heap.objs.size = none := I.hok.fresh (Nat.le_refl _)
      have hS' : ObjOk X.prog X.w (upd H s.heap.objs.size (.set (fun k' => (dd ns).any (· == k')) (dd ns).length)) h' s.heap.objs.size (.set (fun k' => (dd ns).any (· == k')) (dd ns).length) := hS
      refine ⟨.ref s.heap.objs.size, upd H s.heap.objs.size (.set (fun k' => (dd ns).any (· == k')) (dd ns).length), I.laid (t' := tk) (fun b o e => hk b o (Heap.lt_size e) e) (Nat.le_refl _) hS', rfl, k _ _ (Same.upd hn) (.iset ⟨_, upd_same⟩ fun l => ok.nlive0 hn l)⟩
    · cases hp
  · cases hp
theorem call_pLenS : CallD X (.builtin "len") pLenS := by
  intro pins s σ H xs us Q I r ⟨ρ, S, B, ds, e, ok, rd, hp, k⟩
  unfold pLenS at hp
  split at hp
  · split at hp
    · rename_i n hz
      cases hp
      obtain ⟨v, rfl, h⟩ := rd.one
      cases h with
      | @iset _ a h nl =>
        obtain ⟨M, h⟩ := h
        obtain ⟨u, rfl, rx⟩ := vals1 r
        cases rx
        obtain ⟨o, es, ep, t, ho, hex, hd, _, _, _, hf, hn⟩ := (show ObjOk X.prog X.w H s.heap a (.set M n) from I.hok a _ h)
        refine call_len_set ho hex hd hf (by rw [hn]; omega) ⟨.int n, H, I.tok _, ⟨_, by rw [hn]⟩, k _ _ (Same.refl H) (.int _)⟩
    · cases hp
  · exact call_pLen pins s σ H xs us Q I r ⟨ρ, S, B, ds, e, ok, rd, hp, k⟩
end

/-! ### sorted -/
def encD (d : D) : PyData := (toPy d).getD .none
noncomputable def sortD (rev : Bool) (xs : List D) : List D := xs.mergeSort (PySem.W.dataLe rev encD)
structure CanSort (xs : List D) : Prop where
  py : ∀ d ∈ xs, ∃ p, toPy d = some p
  al : PySem.W.AllAlike (xs.map encD)
  so : PySem.W.Sortable (xs.map encD)
  le : xs.length ≤ sizeLine
  dp : ∀ d ∈ xs, (encD d).depth ≤ 60
open Classical in
noncomputable def pSorted (rev : Bool) (ds : List D) (S : Store) : Option D := match ds with
  | [d] => (seqL d S).bind fun xs => if CanSort xs then some (.lst (sortD rev xs)) else none
  | _ => none
section
variable {X : Cx}
theorem reps_each {K : Frag} {W : Wd} : ∀ {ds : List D} {vs : List V} {us : List Value}, Reps K W ds vs → Vals vs us → PySem.W.EachIs (fun u d => ∃ v, Rep K W d v ∧ RelV v u) us ds
  | _, _, _, .nil, .nil => .nil
  | _, _, _, .cons h r, .cons q t => .cons ⟨_, h, q⟩ (reps_each r t)
theorem each_reps {K : Frag} {W : Wd} : ∀ {ds : List D} {us : List Value}, PySem.W.EachIs (fun u d => ∃ v, Rep K W d v ∧ RelV v u) us ds → ∃ vs, Reps K W ds vs ∧ Vals vs us
  | _, _, .nil => ⟨[], .nil, .nil⟩
  | _, _, .cons ⟨v, h, q⟩ t => by
    obtain ⟨vs, a, b⟩ := each_reps t
    exact ⟨v :: vs, .cons h a, .cons q b⟩
theorem reps_reads {pins : List (Addr × Obj)} {σ : L2.St} {s : Shared} {W : Wd} (I : Inv X pins σ W.H s) (ok : Ok X.K W) : ∀ {ds : List D} {vs : List V} {us : List Value}, (∀ d ∈ ds, ∃ p, toPy d = some p) → Reps X.K W ds vs → Vals vs us → PySem.W.EachIs (fun u d => ∃ as, Reads s.heap u (encD d) as) us ds
  | _, _, _, _, .nil, .nil => .nil
  | d :: ds, _, _, hp, .cons h r, .cons q t => by
    obtain ⟨p, hd⟩ := hp d List.mem_cons_self
    have e : encD d = p := by unfold encD; rw [hd]; rfl
    refine .cons ?_ (reps_reads I ok (fun d hd => hp d (List.mem_cons_of_mem _ hd)) r t)
    rw [e]
    exact Dp.reads I p _ _ (h.dp ok hd) q
theorem sorted_end {pins : List (Addr × Obj)} {σ : L2.St} {s : Shared} {H : Hp} {ρ : Nat → Addr} {S : Store} {B : Addr → Prop} {Q : VK} {ys : List D} {h' : Heap} {tk c : Nat} {out : List Value} (I : Inv X pins σ H s) (ok : Ok X.K ⟨ρ, S, H, B⟩) (hk : ∀ b o, s.heap.get? b = some o → h'.get? b = some o)
    (hL : ys.length ≤ sizeLine) (ho : h'.get? (s.heap.objs.size + 1) = some (PyProof.Rows.seqObj "list" out.toArray c)) (e : PySem.W.EachIs (fun u d => ∃ v, Rep X.K ⟨ρ, S, H, B⟩ d v ∧ RelV v u) out ys)
    (k : ∀ H' v, Same H H' → Rep X.K ⟨ρ, S, H', B⟩ (.lst ys) v → Q v H') : EP X pins σ Q (.ref (s.heap.objs.size + 1)) { s with heap := h', toks := tk } := by
  obtain ⟨vs, r, t⟩ := each_reps e
  have hn : H (s.heap.objs.size + 1) = none := I.hok.fresh (Nat.le_succ _)
  obtain ⟨sm, z⟩ := new_lst (p := s.heap.objs.size + 1) ok hn r
  exact ⟨.ref _, upd H (s.heap.objs.size + 1) (.lst vs), I.laid (t' := tk) hk (Nat.le_succ _) ⟨by rw [← r.length]; exact hL, out, c, t, ho⟩, rfl, k _ _ sm z⟩
theorem call_pSorted (hu : X.A.units + 64 < cLine) : CallD X (.builtin "sorted") (pSorted false) := by
  intro pins s σ H xs us Q I r ⟨ρ, S, B, ds, e, ok, rd, hp, k⟩
  unfold pSorted at hp
  split at hp
  · obtain ⟨ys, h1, h2⟩ := Option.bind_eq_some_iff.mp hp
    split at h2
    · rename_i cs
      cases h2
      obtain ⟨v, rfl, h⟩ := rd.one
      obtain ⟨a, vs, rfl, h3, q⟩ := seqL_ok ok h h1
      obtain ⟨u, rfl, rx⟩ := vals1 r
      cases rx
      obtain ⟨its, rv, pl, _⟩ := I.list h3
      refine PySem.W.sorted_data pl.isList (reps_each q rv) (reps_reads I ok cs.py q rv) cs.al cs.so cs.le (fun d hd => ?_) fun out hl ho => ?_
      · have := cs.dp d hd
        omega
      · obtain ⟨c, hc⟩ := PyProof.Rows.sortedAll_at s.heap its out.toArray
        exact sorted_end I ok (fun _ _ => PyProof.Rows.sortedAll_old) (by rw [List.length_mergeSort]; exact cs.le) hc ho k
    · cases h2
  · cases hp
/-- sorted(xs, reverse=b) -/
theorem callK_pSorted {b : Bool} (hu : X.A.units + 64 < cLine) : CallRK X (.builtin "sorted") [Str.ofString "reverse"] (fun xs zs H Q => zs = [.bl b] ∧ rPl X.K (pSorted b) xs H Q) := by
  intro pins s σ H xs zs us ws Q I r rz ⟨hz, ρ, S, B, ds, e, ok, rd, hp, k⟩
  subst hz
  obtain ⟨w1, rfl, e1⟩ := vals1 rz
  obtain rfl : w1 = Value.bool b := e1
  unfold pSorted at hp
  split at hp
  · obtain ⟨ys, h1, h2⟩ := Option.bind_eq_some_iff.mp hp
    split at h2
    · rename_i cs
      cases h2
      obtain ⟨v, rfl, h⟩ := rd.one
      obtain ⟨a, vs, rfl, h3, q⟩ := seqL_ok ok h h1
      obtain ⟨u, rfl, rx⟩ := vals1 r
      cases rx
      obtain ⟨its, rv, pl, _⟩ := I.list h3
      refine PySem.W.sorted_rev_data pl.isList (reps_each q rv) (reps_reads I ok cs.py q rv) cs.al cs.so cs.le (fun d hd => ?_) fun out hl ho => ?_
      · have := cs.dp d hd
        omega
      · obtain ⟨c, hc⟩ := PyProof.Rows.sortedAll_at s.heap its out.toArray
        exact sorted_end I ok (fun _ _ => PyProof.Rows.sortedAll_old) (by rw [List.length_mergeSort]; exact cs.le) hc ho k
    · cases h2
  · cases hp
variable {Wx : WX} {x : Str} {p pos kpos : Pos} {e : Expr} {fa : L → Store → R (List D)}
theorem fe_sortedRev {b : Bool} {i j : Pos} {k} (hu : X.A.units + 64 < cLine) (hm : X.mg "sorted" = none) (hg : Gl X "sorted") (ha : FA X Wx [e] fa)
    (he : backTo pos (starEach [e] X.env) = (false, eval e X.env) :: backTo pos (starEach [] X.env) := by rfl) (hpl : (backTo pos (starEach [e] X.env)).any (·.1) = false := by rfl)
    (hall : (backToKw pos (keywordEach [⟨some "reverse", .Constant (.bool b) k i, j⟩] X.env)).all (·.1.isSome) = true := by rfl) (hnone : (backToKw pos (keywordEach [⟨some "reverse", .Constant (.bool b) k i, j⟩] X.env)).any (·.1.isNone) = false := by rfl) (hks : (backToKw pos (keywordEach [⟨some "reverse", .Constant (.bool b) k i, j⟩] X.env)).filterMap (·.1) = [Str.ofString "reverse"] := by rfl) :
    FE X Wx (.Call (.Name "sorted" p) [e] [⟨some "reverse", .Constant (.bool b) k i, j⟩] pos) (mCall (pSorted b) fa) :=
  (pe_callBK (callK_pSorted (b := b) hu) hg hm (by decide +kernel) ha (pk_cons pe_bl pk_nil) (he := he) (hpl := hpl) (hall := hall) (hnone := hnone) (hks := hks)).imp fun σ H Q h => by
    obtain ⟨ρ, S, B, l, ok, sl, h⟩ := h
    refine ⟨ρ, S, B, l, ok, sl, h.bind.mono fun W1 ds e1 o1 ⟨_, _, h1⟩ vs rvs => ?_⟩
    obtain ⟨r, er, q⟩ := h1.ofO
    exact ⟨rfl, W1.ρ, W1.S, W1.B, ds, r, o1, rvs, er, fun H' v' s rv' => q H' s o1 v' rv'⟩
end

/-! ### star -/
def aStar (f : L → Store → R D) (g : L → Store → R (List D)) : L → Store → R (List D) := fun l S => (f l S).bind fun d S1 => (ofO (seqD d S1) S1).bind fun xs S2 => (g l S2).bind fun ds S3 => .ok (xs ++ ds) S3
section
variable {X : Cx} {Wx : WX} {e : Expr} {es : List Expr} {f : L → Store → R D} {g : L → Store → R (List D)} {p : Pos}
theorem fa_star (he : FE X Wx e f) (hr : FA X Wx es g) (hs : starEach (.Starred e p :: es) X.env = (true, eval e X.env) :: starEach es X.env := by rfl) : FA X Wx (.Starred e p :: es) (aStar f g) :=
  (StX.pa_star he hr hs).imp fun σ H Q ⟨ρ, S, B, l, ok, sl, h⟩ => ⟨ρ, S, B, l, ok, sl, h.bind.mono fun W1 d e1 o1 ⟨_, _, h1⟩ v rv => by
    cases q : seqD d W1.S with
    | none => rw [q] at h1; exact h1.elim
    | some xs =>
      rw [q] at h1
      have h1 : Post X.K Wx σ W1 ((g l W1.S).bind fun ds S3 => .ok (xs ++ ds) S3) _ := h1
      obtain ⟨a, vs, rfl, h3, rs⟩ := seqD_ok o1 rv q
      exact ⟨a, vs, rfl, h3.symm, W1.ρ, W1.S, W1.B, l, o1, sl.ext e1 ok, h1.bind.mono fun W2 ds e2 o2 ⟨_, _, h2⟩ ws rws => Post.ok_of o2 h2 _ ((rs.ext e2 o1).append rws)⟩⟩
end

/-! ### f-strings -/
def eFmt (f : L → Store → R D) : L → Store → R D := fun l S => (f l S).bind fun d S1 => match d with
  | .str y => if y.length ≤ sizeLine then .ok (.str y) S1 else .bad
  | .int i => if i.natAbs.log2 < 1920 then .ok (.str (toString i)) S1 else .bad
  | _ => .bad
def jGo : List (L → Store → R D) → Str → L → Store → R D
  | [], acc, _, S => .ok (.str acc) S
  | f :: fs, acc, l, S => (f l S).bind fun d S1 => match d with
    | .str y => if (acc ++ y).length ≤ sizeLine then jGo fs (acc ++ y) l S1 else .bad
    | _ => .bad
def eJoin (fs : List (L → Store → R D)) : L → Store → R D := jGo fs Str.empty
inductive FJ (X : Cx) (Wx : WX) : List Expr → List (L → Store → R D) → Prop
  | nil : FJ X Wx [] []
  | cons {e : Expr} {es : List Expr} {f : L → Store → R D} {fs : List (L → Store → R D)} : FE X Wx e f → FJ X Wx es fs → FJ X Wx (e :: es) (f :: fs)
section
variable {X : Cx} {Wx : WX} {e v1 v2 : Expr} {es rest : List Expr} {f : L → Store → R D} {fs : List (L → Store → R D)} {pos : Pos}
theorem fe_fmt (he : FE X Wx e f) : FE X Wx (.FormattedValue e (-1) none pos) (eFmt f) :=
  (pe_fmt he).imp fun σ H Q ⟨ρ, S, B, l, ok, sl, h⟩ => ⟨ρ, S, B, l, ok, sl, h.bind.mono fun W1 d e1 o1 ⟨_, _, h1⟩ v rv => by
    split at h1
    · obtain ⟨hc, h1⟩ := Post.iff_ok h1
      cases rv
      exact .inl ⟨_, rfl, hc, Post.ok_of o1 h1 _ (.str _)⟩
    · obtain ⟨hc, h1⟩ := Post.iff_ok h1
      cases rv
      exact .inr ⟨_, rfl, hc, Post.ok_of o1 h1 _ (.str _)⟩
    · exact h1.elim⟩
theorem FJ.pj : ∀ {es : List Expr} {fs : List (L → Store → R D)}, FJ X Wx es fs → PJ X es (fs.map (tE X.K Wx))
  | _, _, .nil => .nil
  | _, _, .cons h r => .cons h (FJ.pj r)
theorem jGo_ok {K : Frag} {σ : L2.St} {Q : VK} {l : L} : ∀ {fs : List (L → Store → R D)} {acc : Str} {ρ : Nat → Addr} {S : Store} {H : Hp} {B : Addr → Prop}, Ok K ⟨ρ, S, H, B⟩ → Sl K ⟨ρ, S, H, B⟩ σ l → Post K Wx σ ⟨ρ, S, H, B⟩ (jGo fs acc l S) (fun W d => ∀ v, Rep K W d v → Q v W.H) →
    tJs (fs.map (tE K Wx)) acc σ H fun out H1 => Q (.str out) H1
  | [], acc, ρ, S, H, B, ok, sl, h => Post.ok_of (W := ⟨ρ, S, H, B⟩) ok h _ (.str _)
  | f :: fs, acc, ρ, S, H, B, ok, sl, h => ⟨ρ, S, B, l, ok, sl, h.bind.mono fun W1 d e1 o1 ⟨_, _, h1⟩ v rv => by
    split at h1
    · obtain ⟨hc, h1⟩ := Post.iff_ok h1
      cases rv
      exact ⟨_, rfl, hc, jGo_ok (ρ := W1.ρ) (S := W1.S) (B := W1.B) o1 (sl.ext e1 ok) h1⟩
    · exact h1.elim⟩
theorem fe_joined (h : FJ X Wx (v1 :: v2 :: rest) fs) : FE X Wx (.JoinedStr (v1 :: v2 :: rest) pos) (eJoin fs) :=
  (pe_joined h.pj).imp fun σ H Q ⟨ρ, S, B, l, ok, sl, h⟩ => jGo_ok ok sl h
theorem fe_joined1 (he : FE X Wx e f) : FE X Wx (.JoinedStr [e] pos) f := pe_joined1 he
end

/-! ### repr -/
def pRepr (ds : List D) (S : Store) : Option D := match ds with
  | [d] => (toPyS d S).bind fun p => if p.showable = true ∧ p.shown.length ≤ sizeLine ∧ p.depth ≤ 60 ∧ p.hasDict = false then some (.str p.shown) else none
  | _ => none
theorem call_pRepr {X : Cx} (hg : X.A.guards = some []) (hu : X.A.units + 64 < cLine) : CallD X (.builtin "repr") pRepr := by
  intro pins s σ H xs us Q I r ⟨ρ, S, B, ds, e, ok, rd, hp, k⟩
  unfold pRepr at hp
  split at hp
  · obtain ⟨p, h1, h2⟩ := Option.bind_eq_some_iff.mp hp
    split at h2
    · rename_i hs
      obtain ⟨hs1, hs2, hs3, hs4⟩ := hs
      cases h2
      obtain ⟨v, rfl, h⟩ := rd.one
      obtain ⟨u, rfl, rx⟩ := vals1 r
      have dp := h.dpS (W := ⟨ρ, S, H, B⟩) ok h1
      have fin : ∀ t : PySem.Tok, ∀ h' tk, (∀ b o, s.heap.get? b = some o → h'.get? b = some o) → EP X pins σ Q (.str p.shown t) { s with heap := h', toks := tk } := fun t h' tk hk =>
        ⟨.str p.shown, H, I.kept (t' := tk) hk, ⟨t, rfl⟩, k _ _ (Same.refl H) (.str _)⟩
      have rf : ∀ a, v = .ref a → wpAny (model X.prog X.w) X.A (call (.builtin "repr") [u]) (EP X pins σ Q) X.xe s := fun a ea => by
        subst ea
        obtain ⟨as, rr⟩ := Dp.reads I p _ _ dp rx
        cases rx
        exact PySem.repr_of_reads' rr hs1 (fun z => by rw [hs4] at z; cases z) hg (by omega) (fun _ _ e => e) (fun h' u tk hk => fin _ h' tk hk) hs2
      cases dp with
      | non =>
        cases rx
        exact PySem.P.repr_of_none (fin _ s.heap (s.toks + 1) fun _ _ e => e)
      | bl b =>
        cases rx
        exact PySem.P.repr_of_bool (fin _ s.heap (s.toks + 1) fun _ _ e => e)
      | int i =>
        obtain ⟨t, rfl⟩ := rx
        exact PySem.P.repr_of_int (by simpa [PyData.showable] using hs1) (fin _ s.heap (s.toks + 1) fun _ _ e => e)
      | str x =>
        obtain ⟨t, rfl⟩ := rx
        exact PySem.P.repr_of_str (fin _ s.heap (s.toks + 1) fun _ _ e => e) (hsz := hs2)
      | lst _ _ => exact rf _ rfl
      | tup _ _ => exact rf _ rfl
    · cases h2
  · cases hp
end HL
end
section
set_option Elab.async false
set_option linter.all false
set_option maxRecDepth 100000
set_option maxHeartbeats 1000000
namespace HL
open PySem PySem.Spec L2

/-! ### a list or a tuple -/
def Sq2 (K : Frag) (t : Bool) (H : Hp) (a : Addr) (vs : List V) : Prop := match t with
  | true => SqT K H a vs
  | false => SqL K H a vs
def itr (t : Bool) (h : Heap) (it a : Addr) (i : Nat) : Prop := match t with
  | true => h.IsTupleIter it a i
  | false => h.IsListIter it a i
def isq (t : Bool) (h : Heap) (a : Addr) (its : Array Value) : Prop := match t with
  | true => h.IsTuple a its
  | false => h.IsList a its
def itO (t : Bool) (a : Addr) : Obj := { cls := .type (if t then "tuple_iterator" else "list_iterator"), data := .fields #[.ref a, .int 0 0] }
theorem itr_start {t : Bool} {h : Heap} {it a : Addr} (e : h.get? it = some (itO t a)) : itr t h it a 0 := by
  cases t with
  | true => exact ⟨_, e, rfl, rfl⟩
  | false => exact ⟨_, e, rfl, rfl⟩
theorem itr_obj {t : Bool} {h : Heap} {it a : Addr} {i : Nat} (x : itr t h it a i) : ∃ o, h.get? it = some o ∧ ∀ v, o.data ≠ .cell v := by
  cases t with
  | true => obtain ⟨o, e, _, d⟩ := x; exact ⟨o, e, fun v q => by rw [d] at q; cases q⟩
  | false => obtain ⟨o, e, _, d⟩ := x; exact ⟨o, e, fun v q => by rw [d] at q; cases q⟩
theorem itr_at {t : Bool} {h h' : Heap} {it a : Addr} {i : Nat} (x : itr t h it a i) (k : ∀ o, h.get? it = some o → h'.get? it = some o) : itr t h' it a i := by
  cases t with
  | true => exact Heap.IsTupleIter.at x k
  | false => exact Heap.IsListIter.at x k
theorem itr_lt {t : Bool} {h : Heap} {it a : Addr} {i : Nat} (x : itr t h it a i) : it < h.objs.size := by
  obtain ⟨o, e, _⟩ := itr_obj x
  exact Heap.lt_size e
theorem begins2 (t : Bool) (a : Addr) (its : Array Value) : Begins (.ref a) (itO t a) fun h => isq t h a its := by
  cases t with
  | true => exact begins_tuple a its
  | false => exact begins_list a its
theorem draws2 {prog : Program} {w : World} {A : Around} (hh : A.handled = none) (t : Bool) (it a : Addr) (hne : a ≠ it) (its : Array Value) :
    Draws prog w A it [it, a] its.size (fun i v => its[i]? = some v) (fun i h => itr t h it a i ∧ isq t h a its) := by
  cases t with
  | true => exact Draws.tuple hh it a hne its
  | false => exact Draws.list hh it a hne its
section
variable {X : Cx} {pins : List (Addr × Obj)} {σ : L2.St} {H : Hp} {s : Shared} {t : Bool} {a : Addr} {vs ws : List V}
theorem sq2_at (I : Inv X pins σ H s) (h : Sq2 X.K t H a vs) : ∃ its : List Value, Vals vs its ∧ isq t s.heap a its.toArray ∧ vs.length ≤ sizeLine ∧ a < s.heap.objs.size := by
  cases t with
  | true =>
    obtain ⟨its, r, p, z⟩ := I.tuple h
    obtain ⟨o, ho, hc, n, hd⟩ := p
    exact ⟨its, r, ⟨o, ho, hc, n, hd⟩, z, Heap.lt_size ho⟩
  | false =>
    obtain ⟨its, r, p, z⟩ := I.list h
    exact ⟨its, r, p.isList, z, p.lt⟩
theorem sq2_inj (I : Inv X pins σ H s) (h : Sq2 X.K t H a vs) (h' : Sq2 X.K t H a ws) : vs = ws := by
  cases t with
  | true => exact I.tuple_inj h h'
  | false => exact I.list_inj h h'
end

/-! ### zip of two -/
def Itz2 (K : Frag) (t1 t2 : Bool) (a b : Addr) : It :=
  ⟨fun i H => ∃ (xs ys : List V) (x y : V), Sq2 K t1 H a xs ∧ Sq2 K t2 H b ys ∧ xs[i]? = some x ∧ ys[i]? = some y,
    fun i H v H' => ∃ T x y, v = .ref T ∧ H T = none ∧ H' = upd H T (.tup [x, y]) ∧ (∀ xs, Sq2 K t1 H a xs → xs[i]? = some x) ∧ ∀ ys, Sq2 K t2 H b ys → ys[i]? = some y,
    fun i H => ∃ xs ys : List V, Sq2 K t1 H a xs ∧ Sq2 K t2 H b ys ∧ min xs.length ys.length = i⟩
/-- the state of a zip over two -/
def tnz2 (t1 t2 : Bool) (a b z TI TO i1 i2 : Addr) (i : Nat) (h : Heap) : Prop := IsZip h z TI TO .none ∧ IsTupOf2 h TI (.ref i1) (.ref i2) ∧ (∃ x y, IsTupOf2 h TO x y) ∧ itr t1 h i1 a i ∧ itr t2 h i2 b i
theorem vals_gets {vs : List V} {its : List Value} (r : Vals vs its) {i : Nat} {x : V} (h : vs[i]? = some x) : ∃ u, its.toArray[i]? = some u ∧ RelV x u := by
  obtain ⟨u, hu, ru⟩ := r.get h
  exact ⟨u, by simpa using hu, ru⟩
theorem min_lt_get {α β : Type} {xs : List α} {ys : List β} {i : Nat} {x : α} {y : β} (hx : xs[i]? = some x) (hy : ys[i]? = some y) : i < min xs.length ys.length := by
  obtain ⟨h1, _⟩ := List.getElem?_eq_some_iff.mp hx
  obtain ⟨h2, _⟩ := List.getElem?_eq_some_iff.mp hy
  omega
theorem turn_z2 {P : Program} {w : World} {K : Frag} {elts : List Expr} {kk : Nat} {tpos : Pos} {t1 t2 : Bool} {a b z TI TO i1 i2 : Addr} (D : ZipSep2 z TI TO i1 i2 [i1, a] [i2, b]) (na : a ≠ i1) (nb : b ≠ i2) :
    Turn P w K (.Tuple elts kk tpos) (Itz2 K t1 t2 a b) [z, TI, TO, i1, i2] z (tnz2 t1 t2 a b z TI TO i1 i2) where
  mem := by simp
  obj := fun i h st c hc => by
    obtain ⟨hz, hTI, ⟨x, y, hTO⟩, h1, h2⟩ := st
    have e' : c = z ∨ c = TI ∨ c = TO ∨ c = i1 ∨ c = i2 := by simpa using hc
    rcases e' with rfl | rfl | rfl | rfl | rfl
    · exact ⟨_, hz, fun v q => nomatch q⟩
    · exact ⟨_, hTI, fun v q => nomatch q⟩
    · exact ⟨_, hTO, fun v q => nomatch q⟩
    · exact itr_obj h1
    · exact itr_obj h2
  keep := fun i h h' st k => by
    obtain ⟨hz, hTI, ⟨x, y, hTO⟩, h1, h2⟩ := st
    exact ⟨k z (by simp) _ hz, k TI (by simp) _ hTI, ⟨x, y, k TO (by simp) _ hTO⟩, itr_at h1 fun o q => k i1 (by simp) o q, itr_at h2 fun o q => k i2 (by simp) o q⟩
  item := by
    intro X hP hw hK hc i pins s σ H E I hf st hg
    subst hP hw hK
    have lt : ∀ c ∈ [z, TI, TO, i1, i2], c < s.heap.objs.size := fun c hcm => by
      obtain ⟨hz, hTI, ⟨x, y, hTO⟩, h1, h2⟩ := st
      have e' : c = z ∨ c = TI ∨ c = TO ∨ c = i1 ∨ c = i2 := by simpa using hcm
      rcases e' with rfl | rfl | rfl | rfl | rfl
      · exact Heap.lt_size hz
      · exact Heap.lt_size hTI
      · exact Heap.lt_size hTO
      · exact itr_lt h1
      · exact itr_lt h2
    obtain ⟨hz, hTI, hTO, h1, h2⟩ := st
    obtain ⟨xs, ys, x, y, hqx, hqy, hx, hy⟩ := hg
    obtain ⟨its1, r1, p1, _, l1⟩ := sq2_at I hqx
    obtain ⟨its2, r2, p2, _, l2⟩ := sq2_at I hqy
    obtain ⟨u1, hu1, ru1⟩ := vals_gets r1 hx
    obtain ⟨u2, hu2, ru2⟩ := vals_gets r2 hy
    have hh : X.A.in1.handled = none := I.ok.hd hc
    have hlt := min_lt_get hx hy
    have W := GoesN.zip2 (elts := elts) (x1 := kk) (pos := tpos) D (draws2 (prog := X.prog) (w := X.w) hh t1 i1 a na its1.toArray) (draws2 (prog := X.prog) (w := X.w) hh t2 i2 b nb its2.toArray)
    refine W.goes i s (fun u s2 => ∃ v H', Inv X pins σ H' s2 ∧ RelV v u ∧ (Itz2 X.K t1 t2 a b).yld i H v H' ∧ tnz2 t1 t2 a b z TI TO i1 i2 (i + 1) s2.heap ∧ ∀ c ∈ [z, TI, TO, i1, i2], H' c = none) E
      (by rw [List.size_toArray, List.size_toArray, ← r1.length, ← r2.length]; exact hlt) ⟨hz, hTI, hTO, ⟨h1, p1⟩, ⟨h2, p2⟩⟩ fun v h' tk hY st' keep _ => ?_
    obtain ⟨T, w1, w2, rfl, hT, e1, e2, ht⟩ := hY
    rw [hu1] at e1
    cases e1
    rw [hu2] at e2
    cases e2
    have new : ObjOk X.prog X.w (upd H T (.tup [x, y])) h' T (.tup [x, y]) := ⟨by show 2 ≤ sizeLine; decide, [u1, u2], .cons ru1 (.cons ru2 .nil), ht⟩
    have I1 : Inv X pins σ (upd H T (.tup [x, y])) { s with heap := h', toks := tk } := I.turnedNew (ch := [z, TI, TO, i1, i2]) (fun c o hb q => keep c o (fun q' => hb (by
      have e' : c = z ∨ c = TO ∨ c = i1 ∨ c = i2 := by simpa using q'
      rcases e' with rfl | rfl | rfl | rfl <;> simp)) q) hf hT new
    refine ⟨.ref T, _, I1, rfl, ⟨T, x, y, rfl, I.hok.fresh hT, rfl, fun l hl => by rw [sq2_inj I hl hqx]; exact hx, fun l hl => by rw [sq2_inj I hl hqy]; exact hy⟩, ⟨st'.1, st'.2.1, st'.2.2.1, st'.2.2.2.1.1, st'.2.2.2.2.1⟩, fun c hcm => ?_⟩
    rw [upd_ne (Nat.ne_of_lt (Nat.lt_of_lt_of_le (lt c hcm) hT))]
    exact (hf c hcm).1
  done := by
    intro X hP hw hK hc i pins s σ H E I hf st hg
    subst hP hw hK
    obtain ⟨hz, hTI, hTO, h1, h2⟩ := st
    obtain ⟨xs, ys, hqx, hqy, hend⟩ := hg
    obtain ⟨its1, r1, p1, _, l1⟩ := sq2_at I hqx
    obtain ⟨its2, r2, p2, _, l2⟩ := sq2_at I hqy
    have hh : X.A.in1.handled = none := I.ok.hd hc
    have W := GoesN.zip2 (elts := elts) (x1 := kk) (pos := tpos) D (draws2 (prog := X.prog) (w := X.w) hh t1 i1 a na its1.toArray) (draws2 (prog := X.prog) (w := X.w) hh t2 i2 b nb its2.toArray)
    have en : min its1.toArray.size its2.toArray.size = i := by rw [List.size_toArray, List.size_toArray, ← r1.length, ← r2.length]; exact hend
    refine W.stops s (fun s1 => Inv X pins σ H s1) E (by rw [en]; exact ⟨hz, hTI, hTO, ⟨h1, p1⟩, ⟨h2, p2⟩⟩) fun h' tk keep _ => ?_
    exact I.turnedL (ch := [z, TI, TO, i1, i2]) (fun c o hb q => keep c o (fun q' => hb (by
      have e' : c = z ∨ c = TO ∨ c = i1 ∨ c = i2 := by simpa using q'
      rcases e' with rfl | rfl | rfl | rfl <;> simp)) q) hf
  self := fun A i s Q E st h => wpAny_pyIter_zip st.1 h

/-! ### zip of three -/
def Itz3 (K : Frag) (t1 t2 t3 : Bool) (a b c : Addr) : It :=
  ⟨fun i H => ∃ (xs ys zs : List V) (x y u : V), Sq2 K t1 H a xs ∧ Sq2 K t2 H b ys ∧ Sq2 K t3 H c zs ∧ xs[i]? = some x ∧ ys[i]? = some y ∧ zs[i]? = some u,
    fun i H v H' => ∃ T x y u, v = .ref T ∧ H T = none ∧ H' = upd H T (.tup [x, y, u]) ∧ (∀ xs, Sq2 K t1 H a xs → xs[i]? = some x) ∧ (∀ ys, Sq2 K t2 H b ys → ys[i]? = some y) ∧ ∀ zs, Sq2 K t3 H c zs → zs[i]? = some u,
    fun i H => ∃ xs ys zs : List V, Sq2 K t1 H a xs ∧ Sq2 K t2 H b ys ∧ Sq2 K t3 H c zs ∧ min (min xs.length ys.length) zs.length = i⟩
def tnz3 (t1 t2 t3 : Bool) (a b c z TI TO i1 i2 i3 : Addr) (i : Nat) (h : Heap) : Prop := IsZip h z TI TO .none ∧ IsTupOf3 h TI (.ref i1) (.ref i2) (.ref i3) ∧ (∃ x y u, IsTupOf3 h TO x y u) ∧ itr t1 h i1 a i ∧ itr t2 h i2 b i ∧ itr t3 h i3 c i
theorem turn_z3 {P : Program} {w : World} {K : Frag} {elts : List Expr} {kk : Nat} {tpos : Pos} {t1 t2 t3 : Bool} {a b c z TI TO i1 i2 i3 : Addr} (D : ZipSep3 z TI TO i1 i2 i3 [i1, a] [i2, b] [i3, c]) (na : a ≠ i1) (nb : b ≠ i2) (nc : c ≠ i3) :
    Turn P w K (.Tuple elts kk tpos) (Itz3 K t1 t2 t3 a b c) [z, TI, TO, i1, i2, i3] z (tnz3 t1 t2 t3 a b c z TI TO i1 i2 i3) where
  mem := by simp
  obj := fun i h st d hd => by
    obtain ⟨hz, hTI, ⟨x, y, u, hTO⟩, h1, h2, h3⟩ := st
    have e' : d = z ∨ d = TI ∨ d = TO ∨ d = i1 ∨ d = i2 ∨ d = i3 := by simpa using hd
    rcases e' with rfl | rfl | rfl | rfl | rfl | rfl
    · exact ⟨_, hz, fun v q => nomatch q⟩
    · exact ⟨_, hTI, fun v q => nomatch q⟩
    · exact ⟨_, hTO, fun v q => nomatch q⟩
    · exact itr_obj h1
    · exact itr_obj h2
    · exact itr_obj h3
  keep := fun i h h' st k => by
    obtain ⟨hz, hTI, ⟨x, y, u, hTO⟩, h1, h2, h3⟩ := st
    exact ⟨k z (by simp) _ hz, k TI (by simp) _ hTI, ⟨x, y, u, k TO (by simp) _ hTO⟩, itr_at h1 fun o q => k i1 (by simp) o q, itr_at h2 fun o q => k i2 (by simp) o q, itr_at h3 fun o q => k i3 (by simp) o q⟩
  item := by
    intro X hP hw hK hc i pins s σ H E I hf st hg
    subst hP hw hK
    have lt : ∀ d ∈ [z, TI, TO, i1, i2, i3], d < s.heap.objs.size := fun d hcm => by
      obtain ⟨hz, hTI, ⟨x, y, u, hTO⟩, h1, h2, h3⟩ := st
      have e' : d = z ∨ d = TI ∨ d = TO ∨ d = i1 ∨ d = i2 ∨ d = i3 := by simpa using hcm
      rcases e' with rfl | rfl | rfl | rfl | rfl | rfl
      · exact Heap.lt_size hz
      · exact Heap.lt_size hTI
      · exact Heap.lt_size hTO
      · exact itr_lt h1
      · exact itr_lt h2
      · exact itr_lt h3
    obtain ⟨hz, hTI, hTO, h1, h2, h3⟩ := st
    obtain ⟨xs, ys, zs, x, y, u, hqx, hqy, hqz, hx, hy, hu⟩ := hg
    obtain ⟨its1, r1, p1, _, l1⟩ := sq2_at I hqx
    obtain ⟨its2, r2, p2, _, l2⟩ := sq2_at I hqy
    obtain ⟨its3, r3, p3, _, l3⟩ := sq2_at I hqz
    obtain ⟨u1, hu1, ru1⟩ := vals_gets r1 hx
    obtain ⟨u2, hu2, ru2⟩ := vals_gets r2 hy
    obtain ⟨u3, hu3, ru3⟩ := vals_gets r3 hu
    have hh : X.A.in1.handled = none := I.ok.hd hc
    have hlt := min_lt_get hx hy
    have hlt3 := (List.getElem?_eq_some_iff.mp hu).1
    have W := GoesN.zip3 (elts := elts) (x1 := kk) (pos := tpos) D (draws2 (prog := X.prog) (w := X.w) hh t1 i1 a na its1.toArray) (draws2 (prog := X.prog) (w := X.w) hh t2 i2 b nb its2.toArray) (draws2 (prog := X.prog) (w := X.w) hh t3 i3 c nc its3.toArray)
    refine W.goes i s (fun u s2 => ∃ v H', Inv X pins σ H' s2 ∧ RelV v u ∧ (Itz3 X.K t1 t2 t3 a b c).yld i H v H' ∧ tnz3 t1 t2 t3 a b c z TI TO i1 i2 i3 (i + 1) s2.heap ∧ ∀ d ∈ [z, TI, TO, i1, i2, i3], H' d = none) E
      (by rw [List.size_toArray, List.size_toArray, List.size_toArray, ← r1.length, ← r2.length, ← r3.length]; omega) ⟨hz, hTI, hTO, ⟨h1, p1⟩, ⟨h2, p2⟩, ⟨h3, p3⟩⟩ fun v h' tk hY st' keep _ => ?_
    obtain ⟨T, w1, w2, w3, rfl, hT, e1, e2, e3, ht⟩ := hY
    rw [hu1] at e1
    cases e1
    rw [hu2] at e2
    cases e2
    rw [hu3] at e3
    cases e3
    have new : ObjOk X.prog X.w (upd H T (.tup [x, y, u])) h' T (.tup [x, y, u]) := ⟨by show 3 ≤ sizeLine; decide, [u1, u2, u3], .cons ru1 (.cons ru2 (.cons ru3 .nil)), ht⟩
    have I1 : Inv X pins σ (upd H T (.tup [x, y, u])) { s with heap := h', toks := tk } := I.turnedNew (ch := [z, TI, TO, i1, i2, i3]) (fun d o hb q => keep d o (fun q' => hb (by
      have e' : d = z ∨ d = TO ∨ d = i1 ∨ d = i2 ∨ d = i3 := by simpa using q'
      rcases e' with rfl | rfl | rfl | rfl | rfl <;> simp)) q) hf hT new
    refine ⟨.ref T, _, I1, rfl, ⟨T, x, y, u, rfl, I.hok.fresh hT, rfl, fun l hl => by rw [sq2_inj I hl hqx]; exact hx, fun l hl => by rw [sq2_inj I hl hqy]; exact hy, fun l hl => by rw [sq2_inj I hl hqz]; exact hu⟩, ⟨st'.1, st'.2.1, st'.2.2.1, st'.2.2.2.1.1, st'.2.2.2.2.1.1, st'.2.2.2.2.2.1⟩, fun d hcm => ?_⟩
    rw [upd_ne (Nat.ne_of_lt (Nat.lt_of_lt_of_le (lt d hcm) hT))]
    exact (hf d hcm).1
  done := by
    intro X hP hw hK hc i pins s σ H E I hf st hg
    subst hP hw hK
    obtain ⟨hz, hTI, hTO, h1, h2, h3⟩ := st
    obtain ⟨xs, ys, zs, hqx, hqy, hqz, hend⟩ := hg
    obtain ⟨its1, r1, p1, _, l1⟩ := sq2_at I hqx
    obtain ⟨its2, r2, p2, _, l2⟩ := sq2_at I hqy
    obtain ⟨its3, r3, p3, _, l3⟩ := sq2_at I hqz
    have hh : X.A.in1.handled = none := I.ok.hd hc
    have W := GoesN.zip3 (elts := elts) (x1 := kk) (pos := tpos) D (draws2 (prog := X.prog) (w := X.w) hh t1 i1 a na its1.toArray) (draws2 (prog := X.prog) (w := X.w) hh t2 i2 b nb its2.toArray) (draws2 (prog := X.prog) (w := X.w) hh t3 i3 c nc its3.toArray)
    have en : min (min its1.toArray.size its2.toArray.size) its3.toArray.size = i := by rw [List.size_toArray, List.size_toArray, List.size_toArray, ← r1.length, ← r2.length, ← r3.length]; exact hend
    refine W.stops s (fun s1 => Inv X pins σ H s1) E (by rw [en]; exact ⟨hz, hTI, hTO, ⟨h1, p1⟩, ⟨h2, p2⟩, ⟨h3, p3⟩⟩) fun h' tk keep _ => ?_
    exact I.turnedL (ch := [z, TI, TO, i1, i2, i3]) (fun d o hb q => keep d o (fun q' => hb (by
      have e' : d = z ∨ d = TO ∨ d = i1 ∨ d = i2 ∨ d = i3 := by simpa using q'
      rcases e' with rfl | rfl | rfl | rfl | rfl <;> simp)) q) hf
  self := fun A i s Q E st h => wpAny_pyIter_zip st.1 h

/-! ### enumerate -/
def Ite2 (K : Frag) (t : Bool) (a : Addr) : It :=
  ⟨fun i H => ∃ (xs : List V) (x : V), Sq2 K t H a xs ∧ xs[i]? = some x, fun i H v H' => ∃ T x, v = .ref T ∧ H T = none ∧ H' = upd H T (.tup [.int (i : Nat), x]) ∧ ∀ xs, Sq2 K t H a xs → xs[i]? = some x, fun i H => ∃ xs : List V, Sq2 K t H a xs ∧ xs.length = i⟩
def tne2 (t : Bool) (a e it : Addr) (i : Nat) (h : Heap) : Prop := (∃ old, IsEnum h e it (0 + ((i : Nat) : Int)) old) ∧ itr t h it a i
theorem turn_e2 {P : Program} {w : World} {K : Frag} {elts : List Expr} {kk : Nat} {tpos : Pos} {t : Bool} {a e it : Addr} (na : a ≠ it) (ne : e ≠ it) (nea : e ≠ a) :
    Turn P w K (.Tuple elts kk tpos) (Ite2 K t a) [e, it] e (tne2 t a e it) where
  mem := by simp
  obj := fun i h st d hd => by
    obtain ⟨⟨old, he⟩, h1⟩ := st
    have e' : d = e ∨ d = it := by simpa using hd
    rcases e' with rfl | rfl
    · exact ⟨_, he, fun v q => nomatch q⟩
    · exact itr_obj h1
  keep := fun i h h' st k => by
    obtain ⟨⟨old, he⟩, h1⟩ := st
    exact ⟨⟨old, k e (by simp) _ he⟩, itr_at h1 fun o q => k it (by simp) o q⟩
  item := by
    intro X hP hw hK hc i pins s σ H E I hf st hg
    subst hP hw hK
    have lt : ∀ d ∈ [e, it], d < s.heap.objs.size := fun d hcm => by
      obtain ⟨⟨old, he⟩, h1⟩ := st
      have e' : d = e ∨ d = it := by simpa using hcm
      rcases e' with rfl | rfl
      · exact Heap.lt_size he
      · exact itr_lt h1
    obtain ⟨he, h1⟩ := st
    obtain ⟨xs, x, hqx, hx⟩ := hg
    obtain ⟨its1, r1, p1, _, l1⟩ := sq2_at I hqx
    obtain ⟨u1, hu1, ru1⟩ := vals_gets r1 hx
    have hh : X.A.in1.handled = none := I.ok.hd hc
    have W := GoesN.enumFrom (elts := elts) (x1 := kk) (pos := tpos) 0 (draws2 (prog := X.prog) (w := X.w) hh t it a na its1.toArray) e ne (by simp [ne, nea]) (by simp)
    refine W.goes i s (fun u s2 => ∃ v H', Inv X pins σ H' s2 ∧ RelV v u ∧ (Ite2 X.K t a).yld i H v H' ∧ tne2 t a e it (i + 1) s2.heap ∧ ∀ d ∈ [e, it], H' d = none) E
      (by rw [List.size_toArray, ← r1.length]; exact (List.getElem?_eq_some_iff.mp hx).1) ⟨he, ⟨h1, p1⟩⟩ fun v h' tk hY st' keep _ => ?_
    obtain ⟨T, tt, w1, rfl, hT, e1, ht⟩ := hY
    rw [hu1] at e1
    cases e1
    have z0 : (0 : Int) + ((i : Nat) : Int) = (i : Nat) := by omega
    rw [z0] at ht
    have new : ObjOk X.prog X.w (upd H T (.tup [.int (i : Nat), x])) h' T (.tup [.int (i : Nat), x]) := ⟨by show 2 ≤ sizeLine; decide, [.int (i : Nat) tt, u1], .cons ⟨_, rfl⟩ (.cons ru1 .nil), ht⟩
    have I1 : Inv X pins σ (upd H T (.tup [.int (i : Nat), x])) { s with heap := h', toks := tk } := I.turnedNew (ch := [e, it]) (fun d o hb q => keep d o hb q) hf hT new
    refine ⟨.ref T, _, I1, rfl, ⟨T, x, rfl, I.hok.fresh hT, rfl, fun l hl => by rw [sq2_inj I hl hqx]; exact hx⟩, ⟨st'.1, st'.2.1⟩, fun d hcm => ?_⟩
    rw [upd_ne (Nat.ne_of_lt (Nat.lt_of_lt_of_le (lt d hcm) hT))]
    exact (hf d hcm).1
  done := by
    intro X hP hw hK hc i pins s σ H E I hf st hg
    subst hP hw hK
    obtain ⟨he, h1⟩ := st
    obtain ⟨xs, hqx, hend⟩ := hg
    obtain ⟨its1, r1, p1, _, l1⟩ := sq2_at I hqx
    have hh : X.A.in1.handled = none := I.ok.hd hc
    have W := GoesN.enumFrom (elts := elts) (x1 := kk) (pos := tpos) 0 (draws2 (prog := X.prog) (w := X.w) hh t it a na its1.toArray) e ne (by simp [ne, nea]) (by simp)
    have en : its1.toArray.size = i := by rw [List.size_toArray, ← r1.length]; exact hend
    refine W.stops s (fun s1 => Inv X pins σ H s1) E (by rw [en]; exact ⟨he, ⟨h1, p1⟩⟩) fun h' tk keep _ => ?_
    exact I.turnedL (ch := [e, it]) (fun d o hb q => keep d o hb q) hf
  self := fun A i s Q E st h => let ⟨⟨_, he⟩, _⟩ := st; wpAny_pyIter_enum he h

/-! enumerate(v) begins -/
set_option maxHeartbeats 1000000 in
theorem meets_enum1 {v : Value} {ob : Obj} {Hv : Heap → Prop} (B : Begins v ob Hv) :
    Meets (Builtin.«enumerate.__new__» ⟨[.type "enumerate", v], []⟩) (fun _ R s => Hv s.heap ∧
      R (.ok (.ret (.ref (s.heap.push ob).objs.size))) { s with heap := (s.heap.push ob).push { cls := .type "enumerate", data := .fields #[.none, .bool false, .ref s.heap.objs.size, rawInt 0, .none, .none] } }) :=
  .of_wp fun prog w A R s hs => by
    obtain ⟨hq, gg, dr, tks, oss⟩ := s
    obtain ⟨hb, hs⟩ := hs
    have hsub := sub_enumerate
    have q1 : ∀ {A' : Around} {E : Value → Shared → Prop} {Q : Value → Shared → Prop}, Q (.ref hq.objs.size) ⟨hq.push ob, gg, dr, tks, oss⟩ → wpAny (model prog w) A' (pyIter v) Q E ⟨hq, gg, dr, tks, oss⟩ :=
      fun q => B.iter prog w _ _ ⟨hq, gg, dr, tks, oss⟩ _ hb q
    wp_walk using q1
    refine wpAny_stack_any fun stk => wpAny_pure ?_
    split
    · rename_i cc _ _ _ _ _
      cases (cc == Value.type "enumerate")
      · wp_walk using q1
        exact ⟨_, rfl, hs⟩
      · wp_walk using q1
        exact ⟨_, rfl, hs⟩
    · wp_walk using q1
      exact ⟨_, rfl, hs⟩
theorem enum_call1 {prog : Program} {w : World} {A : Around} {E : Value → Shared → Prop} {s : Shared} {v : Value} {ob : Obj} {Hv : Heap → Prop} {Q : Value → Shared → Prop} (B : Begins v ob Hv) (hv : Hv s.heap)
    (h : ∀ h', IsEnum h' (s.heap.objs.size + 1) s.heap.objs.size 0 .none → h'.get? s.heap.objs.size = some ob → (∀ b o, s.heap.get? b = some o → h'.get? b = some o) → Q (.ref (s.heap.objs.size + 1)) { s with heap := h' }) :
    wpAny (model prog w) A (call (.type "enumerate") [v]) Q E s := by
  refine callType_new F.called_enumerate (by decide) (F.typeCall_enumerate_1 _) (F.newCall_enumerate_1 _) (fun obj => F.args_object_init_2 obj _) F.entry_enumerate_new (meets_enum1 B) ⟨hv, ?_⟩
  have hz : (s.heap.push ob).objs.size = s.heap.objs.size + 1 := Heap.size_push ..
  show _ ∧ _
  rw [hz]
  have he : IsEnum ((s.heap.push ob).push { cls := .type "enumerate", data := .fields #[.none, .bool false, .ref s.heap.objs.size, rawInt 0, .none, .none] }) (s.heap.objs.size + 1) s.heap.objs.size 0 .none := by
    have := Heap.get?_push_size (s.heap.push ob) (o := { cls := .type "enumerate", data := .fields #[.none, .bool false, .ref s.heap.objs.size, rawInt 0, .none, .none] }) rfl
    rw [hz] at this
    exact this
  exact ⟨⟨_, he, rfl⟩, h _ he (Heap.get?_push_of_some _ (Heap.get?_push_size _ B.free)) fun b o x => Heap.get?_push_of_some _ (Heap.get?_push_of_some _ x)⟩

/-! ### what is walked -/
/-- a list or a tuple, and what of the store must stay -/
def sq1 (d : D) (S : Store) : Option Src := match d with
  | .str _ => none
  | d => itemsV d S
/-- it stands somewhere, and stays there -/
def Stands (K : Frag) (W : Wd) (x : Src) (v : V) (t : Bool) (a : Addr) : Prop := v = .ref a ∧ (∃ vs, Sq2 K t W.H a vs) ∧ ∀ W', Exw W W' → Ok K W' → held x.2 W'.S → ∃ vs, Sq2 K t W'.H a vs ∧ Reps K W' x.1 vs
theorem sq1_ok {K : Frag} {W : Wd} {d : D} {v : V} {x : Src} (ok : Ok K W) (r : Rep K W d v) (h : sq1 d W.S = some x) : ∃ t a, Stands K W x v t a := by
  cases r with
  | non => cases h
  | bl => cases h
  | int => cases h
  | str => cases h
  | iset => cases h
  | ins => cases h
  | err => cases h
  | cls => cases h
  | dic => cases h
  | tup h1 q =>
    cases h
    exact ⟨true, _, rfl, ⟨_, h1⟩, fun W' e o _ => ⟨_, SqT.ext e ok h1, Reps.exw e ok q⟩⟩
  | tpn h1 q =>
    cases h
    obtain ⟨o, h1, _⟩ := h1
    exact ⟨true, _, rfl, ⟨_, .inl (.inr ⟨o, h1⟩)⟩, fun W' e o' _ => ⟨_, SqT.ext e ok (.inl (.inr ⟨o, h1⟩)), Reps.exw e ok q⟩⟩
  | lst h1 q =>
    cases h
    exact ⟨false, _, rfl, ⟨_, h1.sql⟩, fun W' e o _ => ⟨_, (h1.ext e).sql, Reps.exw e ok q⟩⟩
  | scr h1 q =>
    cases h
    exact ⟨false, _, rfl, ⟨_, h1.sql⟩, fun W' e o' _ => ⟨_, (SqF.ext e ok h1).sql, Reps.exw e ok q⟩⟩
  | @loc n hn =>
    unfold sq1 itemsV at h
    dsimp only at h
    split at h
    · rename_i xs hx
      cases h
      obtain ⟨vs, ha, _⟩ := ok.obj n _ hx
      refine ⟨false, _, rfl, ⟨vs, .inl (.inl ha)⟩, fun W' e o hh => ?_⟩
      obtain ⟨vs, ha, q⟩ := o.obj n _ hh.1
      rw [e.rho n hn] at ha
      exact ⟨vs, .inl (.inl ha), q⟩
    · cases h
theorem Stands.mono {K : Frag} {W W' : Wd} {x : Src} {v : V} {t : Bool} {a : Addr} (h : Stands K W x v t a) (e : Exw W W') (ok : Ok K W') (hh : held x.2 W'.S) : Stands K W' x v t a :=
  ⟨h.1, let ⟨vs, q, _⟩ := h.2.2 W' e ok hh; ⟨vs, q⟩, fun W'' e' o' h' => h.2.2 W'' (e.trans e') o' h'⟩
theorem held_app {w1 w2 : Hld} {S : Store} : held (w1 ++ w2) S ↔ held w1 S ∧ held w2 S := by
  induction w1 with
  | nil => simp
  | cons p w1 ih =>
    obtain ⟨n, ds⟩ := p
    rw [List.cons_append]
    simp only [held_some, ih, and_assoc]
def pairD (x y : D) : D := .tup [x, y]
def zipD (xs ys : List D) : List D := List.zipWith pairD xs ys
def zip3D : List D → List D → List D → List D
  | x :: xs, y :: ys, z :: zs => .tup [x, y, z] :: zip3D xs ys zs
  | _, _, _ => []
def enuD (xs : List D) : List D := List.zipWith (fun (i : Nat) x => .tup [.int (i : Nat), x]) (List.range xs.length) xs
theorem zipD_length (xs ys : List D) : (zipD xs ys).length = min xs.length ys.length := by unfold zipD; rw [List.length_zipWith]
theorem zip3D_length : ∀ (xs ys zs : List D), (zip3D xs ys zs).length = min (min xs.length ys.length) zs.length
  | x :: xs, y :: ys, z :: zs => by
    unfold zip3D
    rw [List.length_cons, zip3D_length xs ys zs]
    simp only [List.length_cons]
    omega
  | [], _, _ => by simp [zip3D]
  | _ :: _, [], _ => by simp [zip3D]
  | _ :: _, _ :: _, [] => by simp [zip3D]
theorem zip3D_get : ∀ {xs ys zs : List D} {i : Nat} {x y z : D}, xs[i]? = some x → ys[i]? = some y → zs[i]? = some z → (zip3D xs ys zs)[i]? = some (.tup [x, y, z])
  | x' :: xs, y' :: ys, z' :: zs, 0, x, y, z, hx, hy, hz => by
    simp at hx hy hz
    subst hx hy hz
    rfl
  | x' :: xs, y' :: ys, z' :: zs, i + 1, x, y, z, hx, hy, hz => by
    unfold zip3D
    rw [List.getElem?_cons_succ]
    exact zip3D_get (by simpa using hx) (by simpa using hy) (by simpa using hz)
  | [], _, _, i, x, y, z, hx, hy, hz => by simp at hx
  | _ :: _, [], _, i, x, y, z, hx, hy, hz => by simp at hy
  | _ :: _, _ :: _, [], i, x, y, z, hx, hy, hz => by simp at hz
theorem enuD_length (xs : List D) : (enuD xs).length = xs.length := by unfold enuD; rw [List.length_zipWith, List.length_range, Nat.min_self]
theorem zipD_get {xs ys : List D} {i : Nat} {x y : D} (hx : xs[i]? = some x) (hy : ys[i]? = some y) : (zipD xs ys)[i]? = some (.tup [x, y]) := by
  unfold zipD
  rw [List.getElem?_zipWith, hx, hy]
  rfl
theorem enuD_get {xs : List D} {i : Nat} {x : D} (hx : xs[i]? = some x) : (enuD xs)[i]? = some (.tup [.int (i : Nat), x]) := by
  unfold enuD
  rw [List.getElem?_zipWith, hx, List.getElem?_range (List.getElem?_eq_some_iff.mp hx).1]
/-- a new tuple of what was there -/
theorem tup_new {K : Frag} {W : Wd} {T : Addr} {vs : List V} {ds : List D} (ok : Ok K W) (hT : W.H T = none) (r : Reps K W ds vs) : Same W.H (upd W.H T (.tup vs)) ∧ Rep K ⟨W.ρ, W.S, upd W.H T (.tup vs), W.B⟩ (.tup ds) (.ref T) :=
  ⟨Same.upd hT, .tup (.inl (.inl upd_same)) (r.ext (Ext.same (Same.upd hT)) ok)⟩
section
variable {K : Frag} {W : Wd} {x y u : Src} {vx vy vu : V} {t1 t2 t3 : Bool} {a b c : Addr}
theorem itd_z2 (h1 : Stands K W x vx t1 a) (h2 : Stands K W y vy t2 b) : ItD K W (x.2 ++ y.2) (zipD x.1 y.1) (Itz2 K t1 t2 a b) where
  go := fun W' i e o hh hi => by
    rw [zipD_length] at hi
    obtain ⟨g1, g2⟩ := held_app.mp hh
    obtain ⟨vs, q1, r1⟩ := h1.2.2 W' e o g1
    obtain ⟨ws, q2, r2⟩ := h2.2.2 W' e o g2
    obtain ⟨v, hv, _⟩ := r1.get (List.getElem?_eq_getElem (Nat.lt_of_lt_of_le hi (Nat.min_le_left _ _)))
    obtain ⟨w, hw, _⟩ := r2.get (List.getElem?_eq_getElem (Nat.lt_of_lt_of_le hi (Nat.min_le_right _ _)))
    exact ⟨vs, ws, v, w, q1, q2, hv, hw⟩
  yld := fun W' i z H' e o hh hi ⟨T, v, w, ez, hT, eH, y1, y2⟩ => by
    subst ez eH
    obtain ⟨g1, g2⟩ := held_app.mp hh
    obtain ⟨vs, q1, r1⟩ := h1.2.2 W' e o g1
    obtain ⟨ws, q2, r2⟩ := h2.2.2 W' e o g2
    obtain ⟨d1, e1, k1⟩ := r1.got (y1 _ q1)
    obtain ⟨d2, e2, k2⟩ := r2.got (y2 _ q2)
    obtain ⟨sm, rp⟩ := tup_new o hT (.cons k1 (.cons k2 .nil))
    exact ⟨sm, _, zipD_get e1 e2, rp⟩
  stop := fun W' i e o hh hi => by
    rw [zipD_length] at hi
    obtain ⟨g1, g2⟩ := held_app.mp hh
    obtain ⟨vs, q1, r1⟩ := h1.2.2 W' e o g1
    obtain ⟨ws, q2, r2⟩ := h2.2.2 W' e o g2
    exact ⟨vs, ws, q1, q2, by rw [← r1.length, ← r2.length]; exact hi⟩
theorem itd_z3 (h1 : Stands K W x vx t1 a) (h2 : Stands K W y vy t2 b) (h3 : Stands K W u vu t3 c) : ItD K W (x.2 ++ (y.2 ++ u.2)) (zip3D x.1 y.1 u.1) (Itz3 K t1 t2 t3 a b c) where
  go := fun W' i e o hh hi => by
    rw [zip3D_length] at hi
    obtain ⟨g1, g2⟩ := held_app.mp hh
    obtain ⟨g2, g3⟩ := held_app.mp g2
    obtain ⟨vs, q1, r1⟩ := h1.2.2 W' e o g1
    obtain ⟨ws, q2, r2⟩ := h2.2.2 W' e o g2
    obtain ⟨us, q3, r3⟩ := h3.2.2 W' e o g3
    obtain ⟨v, hv, _⟩ := r1.get (List.getElem?_eq_getElem (show i < x.1.length by omega))
    obtain ⟨w, hw, _⟩ := r2.get (List.getElem?_eq_getElem (show i < y.1.length by omega))
    obtain ⟨z, hz, _⟩ := r3.get (List.getElem?_eq_getElem (show i < u.1.length by omega))
    exact ⟨vs, ws, us, v, w, z, q1, q2, q3, hv, hw, hz⟩
  yld := fun W' i z H' e o hh hi ⟨T, v, w, w3, ez, hT, eH, y1, y2, y3⟩ => by
    subst ez eH
    obtain ⟨g1, g2⟩ := held_app.mp hh
    obtain ⟨g2, g3⟩ := held_app.mp g2
    obtain ⟨vs, q1, r1⟩ := h1.2.2 W' e o g1
    obtain ⟨ws, q2, r2⟩ := h2.2.2 W' e o g2
    obtain ⟨us, q3, r3⟩ := h3.2.2 W' e o g3
    obtain ⟨d1, e1, k1⟩ := r1.got (y1 _ q1)
    obtain ⟨d2, e2, k2⟩ := r2.got (y2 _ q2)
    obtain ⟨d3, e3, k3⟩ := r3.got (y3 _ q3)
    obtain ⟨sm, rp⟩ := tup_new o hT (.cons k1 (.cons k2 (.cons k3 .nil)))
    exact ⟨sm, _, zip3D_get e1 e2 e3, rp⟩
  stop := fun W' i e o hh hi => by
    rw [zip3D_length] at hi
    obtain ⟨g1, g2⟩ := held_app.mp hh
    obtain ⟨g2, g3⟩ := held_app.mp g2
    obtain ⟨vs, q1, r1⟩ := h1.2.2 W' e o g1
    obtain ⟨ws, q2, r2⟩ := h2.2.2 W' e o g2
    obtain ⟨us, q3, r3⟩ := h3.2.2 W' e o g3
    exact ⟨vs, ws, us, q1, q2, q3, by rw [← r1.length, ← r2.length, ← r3.length]; exact hi⟩
theorem itd_e2 (h1 : Stands K W x vx t1 a) : ItD K W x.2 (enuD x.1) (Ite2 K t1 a) where
  go := fun W' i e o hh hi => by
    rw [enuD_length] at hi
    obtain ⟨vs, q1, r1⟩ := h1.2.2 W' e o hh
    obtain ⟨v, hv, _⟩ := r1.get (List.getElem?_eq_getElem hi)
    exact ⟨vs, v, q1, hv⟩
  yld := fun W' i z H' e o hh hi ⟨T, v, ez, hT, eH, y1⟩ => by
    subst ez eH
    obtain ⟨vs, q1, r1⟩ := h1.2.2 W' e o hh
    obtain ⟨d1, e1, k1⟩ := r1.got (y1 _ q1)
    obtain ⟨sm, rp⟩ := tup_new o hT (.cons (.int _) (.cons k1 .nil))
    exact ⟨sm, _, enuD_get e1, rp⟩
  stop := fun W' i e o hh hi => by
    rw [enuD_length] at hi
    obtain ⟨vs, q1, r1⟩ := h1.2.2 W' e o hh
    exact ⟨vs, q1, by rw [← r1.length]; exact hi⟩
end
def iZip2 (fa : L → Store → R (List D)) : L → Store → R Src := fun l S => (fa l S).bind fun ds S1 => match ds with
  | [d, e] => match sq1 d S1, sq1 e S1 with
    | some x, some y => .ok (zipD x.1 y.1, x.2 ++ y.2) S1
    | _, _ => .bad
  | _ => .bad
def iZip3 (fa : L → Store → R (List D)) : L → Store → R Src := fun l S => (fa l S).bind fun ds S1 => match ds with
  | [d, e, f] => match sq1 d S1, sq1 e S1, sq1 f S1 with
    | some x, some y, some z => .ok (zip3D x.1 y.1 z.1, x.2 ++ (y.2 ++ z.2)) S1
    | _, _, _ => .bad
  | _ => .bad
def iEnu (fa : L → Store → R (List D)) : L → Store → R Src := fun l S => (fa l S).bind fun ds S1 => match ds with
  | [d] => match sq1 d S1 with
    | some x => .ok (enuD x.1, x.2) S1
    | none => .bad
  | _ => .bad
section
variable {X : Cx} {Wx : WX} {e1 e2 e3 : Expr} {fa : L → Store → R (List D)} {p pos tpos : Pos} {elts : List Expr} {kk : Nat}
theorem fi_enum (hm : X.mg "enumerate" = none) (hg : Gl X "enumerate") (ha : FA X Wx [e1] fa) (hs : starEach [e1] X.env = [(false, eval e1 X.env)] := by rfl) : FI X Wx (.Tuple elts kk tpos) (.Call (.Name "enumerate" p) [e1] [] pos) (iEnu fa) := by
  refine ⟨fun pins s σ H Q I ⟨ρ, S, B, l, ok, sl, h⟩ => ?_⟩
  refine PyProof.Rows.Call_ (ld_blt I hg hm PyProof.Rows.boot_enumerate (PyProof.Rows.callWith_type1 (thn (ha.run pos pins s σ H (fun vs H1 => ∃ v t a, vs = [v] ∧ v = .ref a ∧ (∃ ws, Sq2 X.K t H1 a ws) ∧ Q (Ite2 X.K t a) H1) I ⟨ρ, S, B, l, ok, sl, h.bind.mono fun W1 ds e1 o1 ⟨_, _, h1⟩ vs rvs => ?_⟩)
    fun us s1 ⟨vs, H1, I1, r1, v, t, a, ev, ea, hq, q⟩ => ?_) hs rfl))
  · split at h1
    · rename_i d _
      obtain ⟨v, rfl, rv⟩ := rvs.one
      cases hx : sq1 d W1.S with
      | none => rw [hx] at h1; exact h1.elim
      | some x =>
        rw [hx] at h1
        obtain ⟨t, a, st⟩ := sq1_ok o1 rv hx
        exact ⟨v, t, a, rfl, st.1, st.2.1, Post.ok_of o1 h1 _ (itd_e2 st)⟩
    · exact h1.elim
  · subst ev ea
    obtain ⟨ws, hq⟩ := hq
    obtain ⟨u, rfl, ru⟩ := vals1 r1
    cases ru
    obtain ⟨its, rv, p1, _, la⟩ := sq2_at I1 hq
    refine enum_call1 (begins2 t a its.toArray) p1 fun h' he hit hk => wpAny_pyIter_enum he ?_
    have I2 : Inv X pins σ H1 { s1 with heap := h' } := I1.kept (t' := s1.toks) hk
    have ne1 : a ≠ s1.heap.objs.size := Nat.ne_of_lt la
    have ne2 : s1.heap.objs.size + 1 ≠ a := Nat.ne_of_gt (Nat.lt_succ_of_lt la)
    refine ⟨s1.heap.objs.size + 1, [s1.heap.objs.size + 1, s1.heap.objs.size], _, _, H1, rfl, I2, turn_e2 (t := t) ne1 (Nat.succ_ne_self _) ne2, ⟨⟨.none, by simpa using he⟩, itr_start hit⟩, fun b hb => ?_, q⟩
    have e' : b = s1.heap.objs.size + 1 ∨ b = s1.heap.objs.size := by simpa using hb
    have hle : s1.heap.objs.size ≤ b := by
      rcases e' with z | z
      · rw [z]; exact Nat.le_add_right _ _
      · rw [z]; exact Nat.le_refl _
    exact I1.fpOk hle (I1.hok.fresh hle)
theorem fi_zip2 (hm : X.mg "zip" = none) (hg : Gl X "zip") (ha : FA X Wx [e1, e2] fa) (hs : starEach [e1, e2] X.env = (false, eval e1 X.env) :: starEach [e2] X.env := by rfl) (hpl : (backTo pos (starEach [e2] X.env)).any (·.1) = false := by rfl) :
    FI X Wx (.Tuple elts kk tpos) (.Call (.Name "zip" p) [e1, e2] [] pos) (iZip2 fa) := by
  refine ⟨fun pins s σ H Q I ⟨ρ, S, B, l, ok, sl, h⟩ => ?_⟩
  refine PyProof.Rows.Call_ (ld_blt I hg hm PyProof.Rows.boot_zip (PyProof.Rows.callWith_type1 (thn (ha.run pos pins s σ H (fun vs H1 => ∃ v w t a t2 b, vs = [v, w] ∧ v = .ref a ∧ w = .ref b ∧ (∃ ws, Sq2 X.K t H1 a ws) ∧ (∃ ws, Sq2 X.K t2 H1 b ws) ∧ Q (Itz2 X.K t t2 a b) H1) I ⟨ρ, S, B, l, ok, sl, h.bind.mono fun W1 ds e1 o1 ⟨_, _, h1⟩ vs rvs => ?_⟩)
    fun us s1 ⟨vs, H1, I1, r1, v, w, t, a, t2, b, ev, ea, eb, hq, hq2, q⟩ => ?_) hs hpl))
  · split at h1
    · rename_i d e _
      obtain ⟨v, w, rfl, rv, rw'⟩ := rvs.two
      cases hx : sq1 d W1.S with
      | none => rw [hx] at h1; exact h1.elim
      | some x => cases hy : sq1 e W1.S with
        | none => rw [hx, hy] at h1; exact h1.elim
        | some y =>
          rw [hx, hy] at h1
          obtain ⟨t, a, st⟩ := sq1_ok o1 rv hx
          obtain ⟨t2, b, st2⟩ := sq1_ok o1 rw' hy
          exact ⟨v, w, t, a, t2, b, rfl, st.1, st2.1, st.2.1, st2.2.1, Post.ok_of o1 h1 _ (itd_z2 st st2)⟩
    · exact h1.elim
  · subst ev ea eb
    obtain ⟨ws, hq⟩ := hq
    obtain ⟨ws2, hq2⟩ := hq2
    obtain ⟨u, u2, rfl, ru, ru2⟩ := vals2 r1
    cases ru
    cases ru2
    obtain ⟨its, rv, p1, _, la⟩ := sq2_at I1 hq
    obtain ⟨its2, rv2, p2, _, lb⟩ := sq2_at I1 hq2
    refine zip_begins2 (begins2 t a its.toArray) (begins2 t2 b its2.toArray) p1 p2 fun h' hz hTI hTO g1 g2 _ hk => wpAny_pyIter_zip hz ?_
    have I2 : Inv X pins σ H1 { s1 with heap := h' } := I1.kept (t' := s1.toks) hk
    have D := zip_sep2 (N := s1.heap.objs.size) (fp1 := [a]) (fp2 := [b]) (fun x hx => by cases List.mem_singleton.mp hx; exact la) (fun x hx => by cases List.mem_singleton.mp hx; exact lb)
    refine ⟨s1.heap.objs.size + 4, [s1.heap.objs.size + 4, s1.heap.objs.size + 2, s1.heap.objs.size + 3, s1.heap.objs.size, s1.heap.objs.size + 1], _, _, H1, rfl, I2, turn_z2 (t1 := t) (t2 := t2) D (Nat.ne_of_lt la) (Nat.ne_of_lt (Nat.lt_succ_of_lt lb)), ⟨hz, hTI, ⟨_, _, hTO⟩, itr_start g1, itr_start g2⟩, fun c hcm => ?_, q⟩
    have e' : c = s1.heap.objs.size + 4 ∨ c = s1.heap.objs.size + 2 ∨ c = s1.heap.objs.size + 3 ∨ c = s1.heap.objs.size ∨ c = s1.heap.objs.size + 1 := by simpa using hcm
    have hle : s1.heap.objs.size ≤ c := by
      rcases e' with z | z | z | z | z <;> (rw [z]; first | exact Nat.le_add_right _ _ | exact Nat.le_refl _)
    exact I1.fpOk hle (I1.hok.fresh hle)
theorem fi_zip3 (hm : X.mg "zip" = none) (hg : Gl X "zip") (ha : FA X Wx [e1, e2, e3] fa) (hs : starEach [e1, e2, e3] X.env = (false, eval e1 X.env) :: starEach [e2, e3] X.env := by rfl) (hpl : (backTo pos (starEach [e2, e3] X.env)).any (·.1) = false := by rfl) :
    FI X Wx (.Tuple elts kk tpos) (.Call (.Name "zip" p) [e1, e2, e3] [] pos) (iZip3 fa) := by
  refine ⟨fun pins s σ H Q I ⟨ρ, S, B, l, ok, sl, h⟩ => ?_⟩
  refine PyProof.Rows.Call_ (ld_blt I hg hm PyProof.Rows.boot_zip (PyProof.Rows.callWith_type1 (thn (ha.run pos pins s σ H (fun vs H1 => ∃ t a t2 b t3 c, vs = [.ref a, .ref b, .ref c] ∧ (∃ ws, Sq2 X.K t H1 a ws) ∧ (∃ ws, Sq2 X.K t2 H1 b ws) ∧ (∃ ws, Sq2 X.K t3 H1 c ws) ∧ Q (Itz3 X.K t t2 t3 a b c) H1) I ⟨ρ, S, B, l, ok, sl, h.bind.mono fun W1 ds e1 o1 ⟨_, _, h1⟩ vs rvs => ?_⟩)
    fun us s1 ⟨vs, H1, I1, r1, t, a, t2, b, t3, c, ev, hq, hq2, hq3, q⟩ => ?_) hs hpl))
  · split at h1
    · rename_i d e f _
      cases rvs with
      | cons rv rvs => cases rvs with
        | cons rw' rvs => cases rvs with
          | cons ru rvs =>
            cases rvs
            cases hx : sq1 d W1.S with
            | none => rw [hx] at h1; exact h1.elim
            | some x => cases hy : sq1 e W1.S with
              | none => rw [hx, hy] at h1; exact h1.elim
              | some y => cases hz : sq1 f W1.S with
                | none => rw [hx, hy, hz] at h1; exact h1.elim
                | some z =>
                  rw [hx, hy, hz] at h1
                  obtain ⟨t, a, st⟩ := sq1_ok o1 rv hx
                  obtain ⟨t2, b, st2⟩ := sq1_ok o1 rw' hy
                  obtain ⟨t3, c, st3⟩ := sq1_ok o1 ru hz
                  exact ⟨t, a, t2, b, t3, c, by rw [st.1, st2.1, st3.1], st.2.1, st2.2.1, st3.2.1, Post.ok_of o1 h1 _ (itd_z3 st st2 st3)⟩
    · exact h1.elim
  · subst ev
    obtain ⟨ws, hq⟩ := hq
    obtain ⟨ws2, hq2⟩ := hq2
    obtain ⟨ws3, hq3⟩ := hq3
    cases r1 with
    | cons ru r1 => cases r1 with
      | cons ru2 r1 => cases r1 with
        | cons ru3 r1 =>
          cases r1
          cases ru
          cases ru2
          cases ru3
          obtain ⟨its, rv, p1, _, la⟩ := sq2_at I1 hq
          obtain ⟨its2, rv2, p2, _, lb⟩ := sq2_at I1 hq2
          obtain ⟨its3, rv3, p3, _, lc⟩ := sq2_at I1 hq3
          refine zip_begins3 (begins2 t a its.toArray) (begins2 t2 b its2.toArray) (begins2 t3 c its3.toArray) p1 p2 p3 fun h' hz hTI hTO g1 g2 g3 _ hk => wpAny_pyIter_zip hz ?_
          have I2 : Inv X pins σ H1 { s1 with heap := h' } := I1.kept (t' := s1.toks) hk
          have D := zip_sep3 (N := s1.heap.objs.size) (fp1 := [a]) (fp2 := [b]) (fp3 := [c]) (fun x hx => by cases List.mem_singleton.mp hx; exact la) (fun x hx => by cases List.mem_singleton.mp hx; exact lb) (fun x hx => by cases List.mem_singleton.mp hx; exact lc)
          have lc' : c < s1.heap.objs.size + 2 := Nat.lt_succ_of_lt (Nat.lt_succ_of_lt lc)
          refine ⟨s1.heap.objs.size + 5, [s1.heap.objs.size + 5, s1.heap.objs.size + 3, s1.heap.objs.size + 4, s1.heap.objs.size, s1.heap.objs.size + 1, s1.heap.objs.size + 2], _, _, H1, rfl, I2, turn_z3 (t1 := t) (t2 := t2) (t3 := t3) D (Nat.ne_of_lt la) (Nat.ne_of_lt (Nat.lt_succ_of_lt lb)) (Nat.ne_of_lt lc'), ⟨hz, hTI, ⟨_, _, _, hTO⟩, itr_start g1, itr_start g2, itr_start g3⟩, fun d hcm => ?_, q⟩
          have e' : d = s1.heap.objs.size + 5 ∨ d = s1.heap.objs.size + 3 ∨ d = s1.heap.objs.size + 4 ∨ d = s1.heap.objs.size ∨ d = s1.heap.objs.size + 1 ∨ d = s1.heap.objs.size + 2 := by simpa using hcm
          have hle : s1.heap.objs.size ≤ d := by
            rcases e' with z | z | z | z | z | z <;> (rw [z]; first | exact Nat.le_add_right _ _ | exact Nat.le_refl _)
          exact I1.fpOk hle (I1.hok.fresh hle)
end
end HL
end
section
set_option Elab.async false
set_option linter.all false
set_option maxRecDepth 100000
set_option maxHeartbeats 1000000
namespace HL
open PySem PySem.Spec L2

/-! ### what a context grants -/
structure Fit (X : Cx) (Wx : WX) (k : Nat) : Prop where
  tk : Takes X Wx
  hp : PassesOwn (model X.prog X.w) X.A X.env X.xe
  rm : RoomG k X.A
  cm : X.calm = true
  nd : X.N.Nodup
section
variable {X : Cx} {Wx : WX} {k : Nat}
theorem Fit.hu (c : Fit X Wx k) : X.A.units + 65 < cLine := by
  have := c.rm.r.un
  omega
theorem Fit.hu4 (c : Fit X Wx k) : X.A.units + 64 < cLine := by
  have := c.rm.r.un
  omega
theorem Fit.blk (c : Fit X Wx k) (s : Shared) (H : Hp) (scope : Scope) (cenv : Env) (fp : List Addr) : Fit (X.blk s H scope cenv fp) wx0 k :=
  ⟨fun u s' ⟨_, _, _, _, _, _, _, _, _, _, _, _, _, _, _, _, w⟩ => w.elim, PassesOwn.never, c.rm, c.cm, c.nd⟩
end

/-! ### a def by its body -/
def Kn (P : Program) (w : World) (K : Frag) (mg : Str → Option Value) (base : Heap) (qual x : Str) (st : Stmt) (f : Addr) (ps : List Str) (k n : Nat) (g : List D → Store → R D) : Prop :=
  ∃ fd, FunD K x qual (defArgs st) (defBody st) (defScope st) [] [] f fd ∧ FnG P w K mg base k f fd ps (spOf K n g) ∧ Bd K fd ps [] gPos
section
variable {P : Program} {w : World} {K : Frag} {mg : Str → Option Value} {base : Heap} {x qual : Str} {f : Addr} {fd : FuncData} {N ps : List Str} {k n : Nat} {sp : Sp} {params : Arguments} {body : List Stmt} {scope : Scope}
/-- cdv is the code object of the def at f -/
def CodeAt (K : Frag) (f : Addr) (cdv : Value) : Prop := ∃ oc od fd osl c, K.lookup f = some ⟨oc, od, .func fd, osl⟩ ∧ fd.code = .ref c ∧ cdv = .ref c
theorem fnG_of {dvs : List V} (F : FunD K x qual params body scope dvs [] f fd) (S : FnScope N ps scope) (len : ∀ vs H Q E, sp vs H Q E → vs.length = ps.length)
    (hbody : ∀ (cdv : Value) (_ : CodeAt K f cdv) (A : Around) (outer : List Env) (s : Shared) (H : Hp) (vs : List V) (Q : VK) (E : XK), RoomG k (A.deeper (PyProof.Rows.envOfC qual scope s.heap.objs.size f cdv)) → sp vs H Q E →
      ∃ t, PSs (cxOf (L2.CX P w) P w K mg base N qual scope f cdv A outer s H E) body t ∧ t { nx := fun _ H' => Q .non H', rt := Q } (L2.start N vs) H) : FnG P w K mg base (k + 1) f fd ps sp := by
  obtain ⟨oc, od, dV, kV, doc, pm, an, cdv, ct, osl, rfl, lk, hcd, _, _⟩ := F.ex
  refine ⟨len, fun A outer s H args us vs Q E hr e0 hb r hsp => ?_⟩
  have hl := len _ _ _ _ hsp
  have KX : K.In s.heap := e0.mod.kin.keeps fun b o e => (e0.bs b o e).1
  have lim : s.heap.NoLimit := e0.mod.nolimit.keeps fun b o e => (e0.bs b o e).1
  have hkind : ∀ y ∈ ps.zip us, scope.names.lookup y.1 = some .local ∨ (scope.names.lookup y.1 = some .cell ∧ ((cellsFrom (s.heap.objs.size + 1) scope.names []).lookup y.1).isSome = true) := fun ⟨z, v⟩ hy => by
    rcases S.par z (List.of_mem_zip hy).1 with q | q
    · exact .inl q
    · exact .inr ⟨q, PySem.W.cellsFrom_some _ _ _ (.inl q)⟩
  refine PySem.codeAny_call_function hr.r.depth (KX _ _ lk) rfl S.co S.gen rfl (PySem.W.codeRec_of KX hcd) (hb _ _ _ _ ?_)
  refine wpAny_newFunctionEnv_cells S.kind hkind fun env he s1 xx => ?_
  subst he
  refine ⟨lim.keeps xx.toInCall.keep, PySem.codeAny_func ?_⟩
  obtain ⟨c0, ec⟩ := He.codeIn_ref hcd
  obtain ⟨t, ht, hq⟩ := hbody cdv ⟨_, _, _, _, c0, lk, ec, ec⟩ A outer s H vs Q E (hr.deeper _) hsp
  have I : Inv (cxOf (L2.CX P w) P w K mg base N qual scope f cdv A outer s H E) [] (L2.start N vs) H s1 := inv_start S hr.r.hd e0 hl r xx
  refine wpAny_mono (ht.run [] s1 (L2.start N vs) H _ I hq) (fun fl s' hs => ?_) fun e s' hs => hs
  have fin : ∀ {σ' : L2.St} {H' : Hp} {v : V} {u : Value}, Inv (cxOf (L2.CX P w) P w K mg base N qual scope f cdv A outer s H E) [] σ' H' s' → RelV v u → Q v H' → CE outer P w H s Q u s' :=
    fun {σ' H' v u} J rv q => ⟨v, H', J.os, J.bare, J.base, J.hok, rv, q⟩
  cases fl with
  | ret u =>
    obtain ⟨v, σ', H', J, rv, q⟩ := hs
    exact fin J rv q
  | next =>
    obtain ⟨σ', H', J, q⟩ := hs
    exact fin (v := V.non) (u := Value.none) J rfl q
  | brk =>
    obtain ⟨_, _, _, q⟩ := hs
    exact False.elim q
  | cont =>
    obtain ⟨_, _, _, q⟩ := hs
    exact False.elim q
theorem start_sl {W : Wd} {ds : List D} {vs : List V} (r : Reps K W ds vs) : Sl K W (L2.start N vs) (ds.map some ++ List.replicate (N.length - ds.length) none) := by
  have hl := r.length
  refine ⟨by unfold L2.start; rw [List.length_append, List.length_append, List.length_map, List.length_map, List.length_replicate, List.length_replicate, hl], fun i d h => ?_⟩
  by_cases hi : i < ds.length
  · rw [List.getElem?_append_left (by simpa using hi), List.getElem?_map] at h
    obtain ⟨d', h1, h2⟩ := Option.map_eq_some_iff.mp h
    cases h2
    obtain ⟨v, hv, rv⟩ := r.get h1
    refine ⟨v, ?_, rv⟩
    unfold L2.start
    rw [List.getElem?_append_left (by rw [List.length_map, ← hl]; exact hi), List.getElem?_map, hv]
    rfl
  · rw [List.getElem?_append_right (by simpa using hi), List.getElem?_replicate] at h
    split at h <;> cases h
theorem spOf_body {Wx : XK → WX} (hW : Wx = fun E c d _ H => E c d H) {tr : Bool} {bf : L → Store → Fl} {vs : List V} {H : Hp} {Q : VK} {E : XK} (h : spOf K n (run tr N.length bf) vs H Q E) :
    tS K (Wx E) bf { nx := fun _ H' => Q .non H', rt := Q } (L2.start N vs) H := by
  subst hW
  obtain ⟨ρ, S, B, ds, ok, r, hl, h⟩ := h
  unfold run at h
  refine ⟨ρ, S, B, _, ok, start_sl (N := N) r, ?_⟩
  generalize hq : bf (ds.map some ++ List.replicate (N.length - ds.length) none) S = fl at h
  cases fl with
  | nx l' S' => exact fun ρ' H' σ' e o s => fin_ok ok h e o .non
  | rt d S' => exact fun ρ' H' v e o rv => fin_ok ok h e o rv
  | exc x l' S' => exact fun ρ' H' σ' cls d e o s rx => h ρ' H' cls d e o rx
  | bk l' S' => exact h.elim
  | ct l' S' => exact h.elim
  | bad => exact h.elim
theorem Kn.of {st : Stmt} {tr : Bool} {bf : L → Store → Fl} (F : ∃ fd, FunD K x qual (defArgs st) (defBody st) (defScope st) [] [] f fd) (S : FnScope N ps (defScope st)) (hn : ps.length = n)
    (hb : ∀ (kV doc pm : Value) (an : Option Addr) (cdv ct : Value) (us : List Value), us.length = ps.length → bindArgs (PySem.W.fnOf x qual (defArgs st) (defBody st) (defScope st) .none kV doc pm an cdv ct) ⟨us, []⟩ = pure (ps.zip us))
    (body : ∀ (X : Cx) (E : XK), (∃ cdv A outer s H, X = cxOf (L2.CX P w) P w K mg base N qual (defScope st) f cdv A outer s H E) → Fit X (fun c d _ H => E c d H) k → FB X (fun c d _ H => E c d H) (defBody st) bf) :
    Kn P w K mg base qual x st f ps (k + 1) n (run tr N.length bf) := by
  obtain ⟨fd, F⟩ := F
  refine ⟨fd, F, fnG_of F S (spOf.len hn) fun cdv _ A outer s H vs Q E hr h => ⟨_, body _ E ⟨cdv, A, outer, s, H, rfl⟩ ⟨takes_of rfl rfl rfl rfl, passes_of rfl, hr, rfl, S.nd⟩, spOf_body (Wx := fun E c d _ H => E c d H) rfl h⟩, ?_⟩
  obtain ⟨oc, od, dV, kV, doc, pm, an, cdv, ct, osl, rfl, lk, hcd, hD, hK⟩ := F.ex
  rcases hD with ⟨_, rfl⟩ | ⟨e, _⟩
  · exact Bd.pos (hb kV doc pm an cdv ct)
  · exact absurd rfl e
end

/-! ### calls of defs -/
/-- the items at these places -/
def gIx {α : Type} (ix : List Nat) (us : List α) : List α := ix.filterMap fun i => us[i]?
theorem gIx_vals {vs : List V} {us : List Value} (r : Vals vs us) : ∀ ix : List Nat, Vals (gIx ix vs) (gIx ix us)
  | [] => .nil
  | i :: ix => by
    unfold gIx
    rw [List.filterMap_cons, List.filterMap_cons]
    by_cases hi : i < vs.length
    · obtain ⟨u, hu, ru⟩ := r.get (List.getElem?_eq_getElem hi)
      rw [List.getElem?_eq_getElem hi, hu]
      exact .cons ru (gIx_vals r ix)
    · rw [List.getElem?_eq_none (by omega), List.getElem?_eq_none (by rw [← r.length]; omega)]
      exact gIx_vals r ix
theorem gIx_reps {K : Frag} {W : Wd} {ds : List D} {vs : List V} (r : Reps K W ds vs) : ∀ ix : List Nat, Reps K W (gIx ix ds) (gIx ix vs)
  | [] => .nil
  | i :: ix => by
    unfold gIx
    rw [List.filterMap_cons, List.filterMap_cons]
    by_cases hi : i < ds.length
    · obtain ⟨u, hu, ru⟩ := r.get (List.getElem?_eq_getElem hi)
      rw [List.getElem?_eq_getElem hi, hu]
      exact .cons ru (gIx_reps r ix)
    · rw [List.getElem?_eq_none (by omega), List.getElem?_eq_none (by rw [← r.length]; omega)]
      exact gIx_reps r ix
/-- a positional, b by name, put in order -/
def eCallK (n a b : Nat) (ix : List Nat) (g : List D → Store → R D) (fa fk : L → Store → R (List D)) : L → Store → R D := fun l S => (fa l S).bind fun ds S1 => (fk l S1).bind fun es S2 => if ds.length = a ∧ es.length = b ∧ (gIx ix (ds ++ es)).length = n then g (gIx ix (ds ++ es)) S2 else .bad
abbrev FK (X : Cx) (Wx : WX) (kws : List Keyword) (f : L → Store → R (List D)) : Prop := PK X kws (tL X.K Wx f)
theorem _root_.L2.PK.imp {X : Cx} {e : List Keyword} {t t' : TA} (h : PK X e t) (i : ∀ σ H Q, t' σ H Q → t σ H Q) : PK X e t' := ⟨fun pos p s σ H Q I q => h.run pos p s σ H Q I (i σ H Q q)⟩
section
variable {X : Cx} {Wx : WX} {j k n : Nat} {f : Addr} {ps : List Str} {g : List D → Store → R D} {qual x : Str} {st : Stmt} {p pos kpos : Pos} {e : Expr} {es : List Expr} {fa fk : L → Store → R (List D)} {fe : L → Store → R D} {kws : List Keyword} {nm : Option Str}
theorem fk_nil : FK X Wx [] aNil := pk_nil.imp fun σ H Q ⟨ρ, S, B, l, ok, sl, h⟩ => Post.ok_of (W := ⟨ρ, S, H, B⟩) ok h [] .nil
theorem fk_cons (ha : FE X Wx e fe) (hr : FK X Wx kws fk) : FK X Wx (⟨nm, e, kpos⟩ :: kws) (aCons fe fk) :=
  (pk_cons ha hr).imp fun σ H Q ⟨ρ, S, B, l, ok, sl, h⟩ =>
    ⟨ρ, S, B, l, ok, sl, h.bind.mono fun W1 d e1 o1 ⟨_, _, h1⟩ v rv => ⟨W1.ρ, W1.S, W1.B, l, o1, sl.ext e1 ok, h1.bind.mono fun W2 ds e2 o2 ⟨_, _, h2⟩ vs rvs =>
      Post.ok_of o2 h2 (v :: vs) (.cons (rv.ext e2 o1) rvs)⟩⟩
theorem fe_kn (h : Kn X.prog X.w X.K X.mg X.base qual x st f ps j n g) (c : Fit X Wx k) (hm : X.mg x = some (.ref f)) (hg : Gl X x) (ha : FA X Wx (e :: es) fa) (hj : j ≤ k := by decide) (hdb : (x == ("__debug__" : Str)) = false := by decide)
    (he : starEach (e :: es) X.env = (false, eval e X.env) :: starEach es X.env := by rfl) (hpl : (backTo pos (starEach es X.env)).any (·.1) = false := by rfl) : FE X Wx (.Call (.Name x p) (e :: es) [] pos) (eCalln n g fa) := by
  obtain ⟨fd, F, G, b⟩ := h
  exact fe_call (G.mono hj) c.rm c.tk hm F.kp b hg ha hdb he hpl
theorem fe_kn0 (h : Kn X.prog X.w X.K X.mg X.base qual x st f ps j n g) (c : Fit X Wx k) (hm : X.mg x = some (.ref f)) (hg : Gl X x) (hj : j ≤ k := by decide) (hdb : (x == ("__debug__" : Str)) = false := by decide) : FE X Wx (.Call (.Name x p) [] [] pos) (eCalln n g aNil) := by
  obtain ⟨fd, F, G, b⟩ := h
  exact fe_call0 (G.mono hj) c.rm c.tk hm F.kp b hg hdb
/-- the callee's promise -/
theorem kn_sp {K : Frag} {W : Wd} {σ : L2.St} {ds : List D} {vs : List V} {Q : VK} (ok : Ok K W) (r : Reps K W ds vs) (hl : ds.length = n) (h : Post K Wx σ W (g ds W.S) fun W d => ∀ v, Rep K W d v → Q v W.H) : spOf K n g vs W.H Q (WE Wx σ) :=
  ⟨W.ρ, W.S, W.B, ds, ok, r, hl, h.at⟩
theorem run_kn {pins : List (Addr × Obj)} {σ : L2.St} {s : Shared} {W : Wd} {Q : VK} {fd : FuncData} {args : Args} {us : List Value} {vs : List V} {ds : List D} (G : FnG X.prog X.w X.K X.mg X.base j f fd ps (spOf X.K n g)) (hr : RoomG j X.A) (tk : Takes X Wx)
    (hb : BindsTo s fd args (ps.zip us)) (I : Inv X pins σ W.H s) (r : Vals vs us) (ok : Ok X.K W) (rd : Reps X.K W ds vs) (hl : ds.length = n) (h : Post X.K Wx σ W (g ds W.S) fun W d => ∀ v, Rep X.K W d v → Q v W.H) :
    codeAny (model X.prog X.w) X.A (.call (.ref f) args) (fun r s' => match r with
      | .ok (.ret u) => EP X pins σ Q u s'
      | .ok _ => False
      | .error e => X.xe e s') s := by
  refine codeAny_mono (G.go X.A X.stack s W.H args us vs Q (WE Wx σ) hr I.env0 hb r (kn_sp ok rd hl h)) fun r s' hq => ?_
  have z := out_g (passAt tk σ) I hq
  cases r with
  | error e => exact z
  | ok fl => cases fl <;> exact z
theorem fe_knK (a b : Nat) (ix : List Nat) {ks : List Str} (h : Kn X.prog X.w X.K X.mg X.base qual x st f ps j n g) (c : Fit X Wx k) (hm : X.mg x = some (.ref f)) (hg : Gl X x) (ha : FA X Wx (e :: es) fa) (hk : FK X Wx kws fk)
    (hbk : ∀ (kV doc pm : Value) (an : Option Addr) (cdv ct : Value) (us ws : List Value), us.length = a → ws.length = b → bindArgs (PySem.W.fnOf x qual (defArgs st) (defBody st) (defScope st) .none kV doc pm an cdv ct) ⟨us, ks.zip ws⟩ = pure (ps.zip (gIx ix (us ++ ws))))
    (hj : j ≤ k := by decide) (hall : (backToKw pos (keywordEach kws X.env)).all (·.1.isSome) = true := by rfl) (hks : (backToKw pos (keywordEach kws X.env)).filterMap (·.1) = ks := by rfl)
    (hdb : (x == ("__debug__" : Str)) = false := by decide) (he : starEach (e :: es) X.env = (false, eval e X.env) :: starEach es X.env := by rfl)
    (hpl : ((backTo pos (starEach (e :: es) X.env)).any (·.1) || (backToKw pos (keywordEach kws X.env)).any (·.1.isNone)) = false := by rfl) : FE X Wx (.Call (.Name x p) (e :: es) kws pos) (eCallK n a b ix g fa fk) := by
  obtain ⟨fd, F, G, _⟩ := h
  refine ⟨fun pins s σ H Q I ⟨ρ, S, B, l, ok, sl, h⟩ => ?_⟩
  refine wpAny_Call_Name_kw (ld_glob I hg hm ?_ hdb)
  refine PySem.W.callWith_KW (h₀ := X.base) I.ok.mod.kin F.kp hall (thn (ha.run pos pins s σ H (fun vs H1 => tL X.K Wx fk σ H1 fun zs H2 => ∃ ρ2 S2 ds es, Ok X.K ⟨ρ2, S2, H2, B⟩ ∧ Reps X.K ⟨ρ2, S2, H2, B⟩ (ds ++ es) (vs ++ zs) ∧ vs.length = a ∧ zs.length = b ∧ (gIx ix (ds ++ es)).length = n ∧ Post X.K Wx σ ⟨ρ2, S2, H2, B⟩ (g (gIx ix (ds ++ es)) S2) fun W d => ∀ v, Rep X.K W d v → Q v W.H) I
    ⟨ρ, S, B, l, ok, sl, h.bind.mono fun W1 ds e1 o1 ⟨_, _, h1⟩ vs rvs => ?_⟩) fun us s1 ⟨vs, H1, I1, r, q⟩ => ?_) hpl he
  · have eB : W1.B = B := e1.B
    obtain ⟨ρ1, S1, H1, B1⟩ := W1
    cases eB
    refine ⟨ρ1, S1, B1, l, o1, sl.ext e1 ok, h1.bind.mono fun W2 es e2 o2 ⟨_, _, h2⟩ zs rzs => ?_⟩
    have eB : W2.B = B1 := e2.B
    obtain ⟨ρ2, S2, H2, B2⟩ := W2
    cases eB
    obtain ⟨hc, h2⟩ := Post.iff_ok h2
    exact ⟨ρ2, S2, ds, es, o2, (rvs.ext e2 o1).append rzs, by rw [← rvs.length]; exact hc.1, by rw [← rzs.length]; exact hc.2.1, hc.2.2, h2⟩
  · refine thn (hk.run pos pins s1 σ H1 _ I1 q) fun ws s2 ⟨zs, H2, I2, rz, ρ2, S2, ds, es, o2, rr, l1, l2, l3, q2⟩ => ⟨I2.kIn, ?_⟩
    rw [hks]
    have r2 := gIx_vals (r.append rz) ix
    have hbt : BindsTo s2 fd ⟨us, ks.zip ws⟩ (ps.zip (gIx ix (us ++ ws))) := by
      obtain ⟨oc, od, dV, kV, doc, pm, an, cdv, ct, osl, rfl, lk, hcd, hD, hK⟩ := F.ex
      rcases hD with ⟨_, rfl⟩ | ⟨e, _⟩
      · exact .of_eq (hbk kV doc pm an cdv ct us ws (by rw [← r.length]; exact l1) (by rw [← rz.length]; exact l2))
      · exact absurd rfl e
    refine wpAny_call (codeAny_mono (run_kn (W := ⟨ρ2, S2, H2, B⟩) G (c.rm.mono hj) c.tk hbt I2 r2 o2 (gIx_reps rr ix) l3 q2) fun r s' hq => ?_)
    cases r with
    | error e => exact hq
    | ok fl => cases fl with
      | ret u => exact hq
      | next => exact hq.elim
      | brk => exact hq.elim
      | cont => exact hq.elim
end
end HL
end
section
set_option Elab.async false
set_option linter.all false
set_option maxRecDepth 100000
set_option maxHeartbeats 1000000
namespace HL
open PySem PySem.Spec L2

/-! ### an instance, by value or in the store -/
def insOf (C : Str) (d : D) (S : Store) : Option (List Str × List D) := match d with
  | .ins C' ks vs => if C' = C then some (ks, vs) else none
  | .loc n => match S[n]? with
    | some (.ins C' ks vs) => if C' = C then some (ks, vs) else none
    | _ => none
  | _ => none
theorem insOf_ok {K : Frag} {W : Wd} {C : Str} {d : D} {v : V} {ks : List Str} {xs : List D} (ok : Ok K W) (r : Rep K W d v) (h : insOf C d W.S = some (ks, xs)) :
    ∃ a dx vs, v = .ref a ∧ W.H a = some (.ins (He.ga K C) dx (ks.zip vs)) ∧ ks.length = vs.length ∧ Reps K W xs vs := by
  unfold insOf at h
  split at h
  · split at h
    · rename_i hC
      subst hC
      cases h
      cases r with
      | ins h1 n hl q => exact ⟨_, _, _, rfl, h1, hl, q⟩
    · cases h
  · split at h
    · rename_i hx
      split at h
      · rename_i hC
        subst hC
        cases h
        obtain ⟨dx, vs, h1, hl, q⟩ := ok.obj _ _ hx
        cases r with
        | loc hn => exact ⟨_, dx, vs, rfl, h1, hl, q⟩
      · cases h
    · cases h
  · cases h
theorem lookup_rep {K : Frag} {W : Wd} {f : Str} : ∀ {ks : List Str} {xs : List D} {vs : List V} {d : D}, Reps K W xs vs → (ks.zip xs).lookup f = some d → ∃ v, (ks.zip vs).lookup f = some v ∧ Rep K W d v
  | [], xs, vs, d, r, h => by rw [List.zip_nil_left] at h; cases h
  | k :: ks, [], vs, d, r, h => by rw [List.zip_nil_right] at h; cases h
  | k :: ks, x :: xs, _, d, .cons (v := v) (vs := vs) r rs, h => by
    rw [List.zip_cons_cons, List.lookup_cons] at h ⊢
    cases e : f == k with
    | true => rw [e] at h; cases h; exact ⟨v, rfl, r⟩
    | false => rw [e] at h; exact lookup_rep rs h
theorem lookup_not {α : Type} {f : Str} : ∀ {ks : List Str} {vs : List α}, f ∉ ks → (ks.zip vs).lookup f = none
  | [], vs, h => by rw [List.zip_nil_left]; rfl
  | k :: ks, [], h => by rw [List.zip_nil_right]; rfl
  | k :: ks, v :: vs, h => by
    rw [List.zip_cons_cons, List.lookup_cons]
    have e : (f == k) = false := by
      rw [beq_eq_false_iff_ne]
      exact fun e => h (e ▸ List.mem_cons_self)
    rw [e]
    exact lookup_not fun z => h (List.mem_cons_of_mem _ z)
/-- e.f -/
def pFld (C f : Str) (d : D) (S : Store) : Option D := (insOf C d S).bind fun x => (x.1.zip x.2).lookup f
def eFld (C f : Str) (fo : L → Store → R D) : L → Store → R D := fun l S => (fo l S).bind fun d S1 => ofO (pFld C f d S1) S1
/-- nothing is raised -/
def R.noX {α : Type} (r : R α) : R α := match r with
  | .exc _ _ => .bad
  | r => r
@[simp] theorem R.noX_ok {α : Type} (a : α) (S : Store) : (R.ok a S).noX = .ok a S := rfl
@[simp] theorem R.noX_bad {α : Type} : (R.bad : R α).noX = .bad := rfl
/-- e.f, a property -/
def eProp (C : Str) (g : List D → Store → R D) (fo : L → Store → R D) : L → Store → R D := fun l S => (fo l S).bind fun d S1 => match insOf C d S1 with
  | some _ => (g [d] S1).noX
  | none => .bad
/-- e.m(..), a def of the class -/
def eUm (C m : Str) (n : Nat) (g : List D → Store → R D) (fo : L → Store → R D) (fa : L → Store → R (List D)) : L → Store → R D := fun l S => (fo l S).bind fun d S1 => match insOf C d S1 with
  | some x => if m ∈ x.1 then .bad else (fa l S1).bind fun ds S2 => if ds.length + 1 = n then g (d :: ds) S2 else .bad
  | none => .bad
def eUmK (C m : Str) (n a b : Nat) (ix : List Nat) (g : List D → Store → R D) (fo : L → Store → R D) (fa fk : L → Store → R (List D)) : L → Store → R D := fun l S => (fo l S).bind fun d S1 => match insOf C d S1 with
  | some x => if m ∈ x.1 then .bad else (fa l S1).bind fun ds S2 => (fk l S2).bind fun es S3 => if ds.length = a ∧ es.length = b ∧ (gIx ix (d :: ds ++ es)).length = n then g (gIx ix (d :: ds ++ es)) S3 else .bad
  | none => .bad
/-- C(..) -/
noncomputable def eMake (tr : Bool) (C : Str) (n : Nat) (g : List D → Store → R D) (fa : L → Store → R (List D)) : L → Store → R D := fun l S => (fa l S).bind fun ds S1 => if ds.length + 1 = n then (g (.loc S1.length :: ds) (S1 ++ [.ins C [] []])).bind fun r S2 => match r with
    | .non => fin tr S1 (.loc S1.length) S2
    | _ => .bad
  else .bad
noncomputable def eMakeK (tr : Bool) (C : Str) (n a b : Nat) (ix : List Nat) (g : List D → Store → R D) (fa fk : L → Store → R (List D)) : L → Store → R D := fun l S => (fa l S).bind fun ds S1 => (fk l S1).bind fun es S1 => if ds.length = a ∧ es.length = b ∧ (gIx ix (.loc S1.length :: ds ++ es)).length = n then (g (gIx ix (.loc S1.length :: ds ++ es)) (S1 ++ [.ins C [] []])).bind fun r S2 => match r with
    | .non => fin tr S1 (.loc S1.length) S2
    | _ => .bad
  else .bad
section
variable {X : Cx} {Wx : WX} {C : Str} {j k n : Nat} {ps : List Str} {g : List D → Store → R D} {qual x m : Str} {st : Stmt} {p pos apos : Pos} {o e : Expr} {es : List Expr} {fo : L → Store → R D} {fa fk : L → Store → R (List D)} {f : Str} {kws : List Keyword}
theorem fe_fld (ho : FE X Wx o fo) (c : Cls X.K (He.ga X.K C)) (n : NoAttr X.K (He.ga X.K C) f) (hb : attributeBase o f X.env (eval o X.env) = eval o X.env := by rfl) : FE X Wx (.Attribute o f pos) (eFld C f fo) :=
  (pe_fld ho hb).imp fun σ H Q ⟨ρ, S, B, l, ok, sl, h⟩ => ⟨ρ, S, B, l, ok, sl, h.bind.mono fun W1 d e1 o1 ⟨_, _, h1⟩ v rv => by
    obtain ⟨r, er, q⟩ := h1.ofO
    obtain ⟨⟨ks, xs⟩, h2, h3⟩ := Option.bind_eq_some_iff.mp er
    obtain ⟨a, dx, vs, rfl, ha, hl, rs⟩ := insOf_ok o1 rv h2
    obtain ⟨w, hw, rw'⟩ := lookup_rep rs h3
    exact ⟨a, _, dx, _, w, rfl, ha, c, n, hw, q W1.H (Same.refl _) o1 w rw'⟩⟩
/-- nothing comes out of a callee that wants nothing of exceptions -/
theorem no_exc {P : Program} {w : World} {outer : List Env} {H : Hp} {s : Shared} {u : Value} {s' : Shared} (h : L2.CX P w outer H s (fun _ _ _ => False) u s') : False := by
  obtain ⟨_, _, _, _, _, _, _, _, _, _, _, _, z⟩ := h
  exact z
theorem noX_post {α : Type} {K : Frag} {W : Wd} {σ : L2.St} {r : R α} {q : Wd → α → Prop} (h : Post K Wx σ W r.noX q) : Post K (fun _ _ _ _ => False) [] W r q := by
  cases r with
  | ok a S => exact h
  | exc e S => exact h.elim
  | bad => exact h.elim
theorem fe_prop {pa ga' : Addr} (h : Kn X.prog X.w X.K X.mg X.base qual x st ga' ps j 1 g) (c : Fit X Wx k) (cl : Cls X.K (He.ga X.K C)) (hp : PropOf X.K (He.ga X.K C) f pa ga') (ho : FE X Wx o fo) (hj : j + 1 ≤ k := by decide) (hb : attributeBase o f X.env (eval o X.env) = eval o X.env := by rfl) : FE X Wx (.Attribute o f pos) (eProp C g fo) := by
  obtain ⟨fd, F, G, b⟩ := h
  refine ⟨fun pins s σ H Q I ⟨ρ, S, B, l, ok, sl, h⟩ => ?_⟩
  refine attr_of hb (thn (ho.run pins s σ H (fun v H1 => ∃ ρ1 S1 d a dx fs, Ok X.K ⟨ρ1, S1, H1, B⟩ ∧ Rep X.K ⟨ρ1, S1, H1, B⟩ d v ∧ v = .ref a ∧ H1 a = some (.ins (He.ga X.K C) dx fs) ∧ Post X.K (fun _ _ _ _ => False) [] ⟨ρ1, S1, H1, B⟩ (g [d] S1) fun W d => ∀ v, Rep X.K W d v → Q v W.H) I
    ⟨ρ, S, B, l, ok, sl, h.bind.mono fun W1 d e1 o1 ⟨_, _, h1⟩ v rv => ?_⟩) fun u s1 ⟨v, H1, I1, rx, ρ1, S1, d, a, dx, fs, o1, rd, ev, ea, q⟩ => ?_)
  · have eB : W1.B = B := e1.B
    obtain ⟨ρ1, S1, H1, B1⟩ := W1
    cases eB
    cases hi : insOf C d S1 with
    | none => rw [hi] at h1; exact h1.elim
    | some y =>
      rw [hi] at h1
      obtain ⟨ks, xs⟩ := y
      obtain ⟨a, dx, vs, rfl, ha, hl, rs⟩ := insOf_ok (W := ⟨ρ1, S1, H1, B1⟩) o1 rv hi
      exact ⟨ρ1, S1, d, a, dx, _, o1, rv, rfl, ha, noX_post h1⟩
  · subst ev
    obtain rfl : u = Value.ref a := rx
    obtain ⟨mA, O, _, _, _, _⟩ := ins_get I1.hok ea
    obtain ⟨od, J, _⟩ := O.look
    obtain ⟨rest, hrec⟩ := hp.rec_
    have I2 := I1.tok (s1.toks + 1)
    have hc : (PySem.W.clsIn X.K (He.ga X.K C)).isSome = true := by
      obtain ⟨cd, hc, _⟩ := PySem.W.any_some cl.hd
      rw [hc]
      rfl
    have rr : RoomG (j + 1) X.A := c.rm.mono hj
    have hlen : ps.length = 1 := by
      have := G.len [.ref a] H1 Q (fun _ _ _ => False) ⟨ρ1, S1, B, [d], o1, .cons rd .nil, rfl, q⟩
      simpa using this.symm
    refine PySem.W.get_bind I1.kIn J (PySem.W.plainGet_of (cl.get f)).1 (PySem.W.findObj_data hc hp.at_ hp.get hp.tak) (PySem.W.plainGet_of (cl.get f)).2 (wpAny_call (PySem.W.prop_get (s := { s1 with toks := s1.toks + 1 }) I1.kIn hrec ?_))
    refine codeAny_mono (G.go X.A.in1 X.stack { s1 with toks := s1.toks + 1 } H1 ⟨[.ref a], []⟩ [.ref a] [.ref a] Q (fun _ _ _ => False) rr.in1 I2.env0.in1 (b.to _ [.ref a] [] I2.kIn hlen.symm) (.cons rfl .nil) ⟨ρ1, S1, B, [d], o1, .cons rd .nil, rfl, q⟩) fun r s' hq => ?_
    cases r with
    | error er => exact (no_exc hq).elim
    | ok fl =>
      cases fl with
      | ret u =>
        obtain ⟨v, H', I3, rv, q3⟩ := I2.after hq
        show wpAny _ _ (handedOut u) _ _ _
        rw [PySem.W.handedOut_of (handed_of rv)]
        exact wpAny_pure ⟨v, H', I3, rv, q3⟩
      | next => exact hq.elim
      | brk => exact hq.elim
      | cont => exact hq.elim
/-- what a method's call needs, in the context of the object -/
theorem um_obj {K : Frag} {W : Wd} {d : D} {v : V} {ks : List Str} {xs : List D} (ok : Ok K W) (rv : Rep K W d v) (hi : insOf C d W.S = some (ks, xs)) (hm : m ∉ ks) : ∃ a dx fs, v = .ref a ∧ W.H a = some (.ins (He.ga K C) dx fs) ∧ fs.lookup m = none := by
  obtain ⟨a, dx, vs, rfl, ha, hl, rs⟩ := insOf_ok ok rv hi
  exact ⟨a, dx, _, rfl, ha, lookup_not hm⟩
theorem fe_um {pl : Sem Bool} {fA : Addr} (h : Kn X.prog X.w X.K X.mg X.base qual x st fA ps j n g) (c : Fit X Wx k) (cl : Cls X.K (He.ga X.K C)) (hm : Meth X.K (He.ga X.K C) m fA) (ho : FE X Wx o fo) (ha : FA X Wx (e :: es) fa) (hj : j ≤ k := by decide)
    (hst : starEach (e :: es) X.env = (false, eval e X.env) :: starEach es X.env := by rfl) (hpl : (backTo pos (starEach es X.env)).any (·.1) = false := by rfl)
    (ht : eval (.Call (.Attribute o m apos) (e :: es) [] pos) X.env = (do
      let ov ← eval o X.env
      standAt apos.atName
      let (f, first) ← holding [ov] (getMethod ov m pl)
      callWith pos f first (backTo pos (starEach (e :: es) X.env)) (backToKw pos (keywordEach [] X.env))) := by rfl) : FE X Wx (.Call (.Attribute o m apos) (e :: es) [] pos) (eUm C m n g fo fa) := by
  obtain ⟨fd, F, G, b⟩ := h
  refine ⟨fun pins s σ H Q I ⟨ρ, S, B, l, ok, sl, h⟩ => ?_⟩
  refine PySem.W.methodCall_KW (pl := pl) (thn (ho.run pins s σ H (fun v H1 => ∃ a dx fs, v = .ref a ∧ H1 a = some (.ins (He.ga X.K C) dx fs) ∧ fs.lookup m = none ∧ tL X.K Wx fa σ H1 fun vs H2 => spOf X.K n g (.ref a :: vs) H2 Q (WE Wx σ)) I
    ⟨ρ, S, B, l, ok, sl, h.bind.mono fun W1 d e1 o1 ⟨_, _, h1⟩ v rv => ?_⟩) fun u s1 ⟨v, H1, I1, rx, a, dx, fs, ev, ea, hl, q⟩ => ?_) ht
  · have eB : W1.B = B := e1.B
    obtain ⟨ρ1, S1, H1, B1⟩ := W1
    cases eB
    cases hi : insOf C d S1 with
    | none => rw [hi] at h1; exact h1.elim
    | some y =>
      rw [hi] at h1
      obtain ⟨ks, xs⟩ := y
      dsimp only at h1
      by_cases hmk : m ∈ ks
      · rw [if_pos hmk] at h1; exact h1.elim
      · rw [if_neg hmk] at h1
        obtain ⟨a, dx, fs, rfl, hA, hn⟩ := um_obj (W := ⟨ρ1, S1, H1, B1⟩) o1 rv hi hmk
        refine ⟨a, dx, fs, rfl, hA, hn, ρ1, S1, B1, l, o1, sl.ext e1 ok, h1.bind.mono fun W2 ds e2 o2 ⟨_, _, h2⟩ vs rvs => ?_⟩
        obtain ⟨hc, h2⟩ := Post.iff_ok h2
        exact kn_sp o2 (.cons (rv.ext e2 o1) rvs) hc h2
  · subst ev
    obtain rfl : u = Value.ref a := rx
    refine getmeth_ok I1 ea cl hm hl ?_
    refine PySem.W.callWith_K (first := [.ref a]) (h₀ := X.base) I1.ok.mod.kin hm.kp (thn (ha.run pos pins s1 σ H1 _ I1 q) fun us s2 ⟨vs, H2, I2, r, q2⟩ => ⟨I2.kIn, ?_⟩) hst hpl
    exact run_g0 (us := .ref a :: us) (vs := .ref a :: vs) (G.mono hj) c.rm b (passAt c.tk σ) I2 (.cons rfl r) q2
theorem fe_um0 {pl : Sem Bool} {fA : Addr} (h : Kn X.prog X.w X.K X.mg X.base qual x st fA ps j n g) (c : Fit X Wx k) (cl : Cls X.K (He.ga X.K C)) (hm : Meth X.K (He.ga X.K C) m fA) (ho : FE X Wx o fo) (hj : j ≤ k := by decide)
    (ht : eval (.Call (.Attribute o m apos) [] [] pos) X.env = (do
      let ov ← eval o X.env
      standAt apos.atName
      let (f, first) ← holding [ov] (getMethod ov m pl)
      callWith pos f first (backTo pos (starEach [] X.env)) (backToKw pos (keywordEach [] X.env))) := by rfl) : FE X Wx (.Call (.Attribute o m apos) [] [] pos) (eUm C m n g fo aNil) := by
  obtain ⟨fd, F, G, b⟩ := h
  refine ⟨fun pins s σ H Q I ⟨ρ, S, B, l, ok, sl, h⟩ => ?_⟩
  refine PySem.W.methodCall_KW (pl := pl) (thn (ho.run pins s σ H (fun v H1 => ∃ a dx fs, v = .ref a ∧ H1 a = some (.ins (He.ga X.K C) dx fs) ∧ fs.lookup m = none ∧ spOf X.K n g [.ref a] H1 Q (WE Wx σ)) I
    ⟨ρ, S, B, l, ok, sl, h.bind.mono fun W1 d e1 o1 ⟨_, _, h1⟩ v rv => ?_⟩) fun u s1 ⟨v, H1, I1, rx, a, dx, fs, ev, ea, hl, q⟩ => ?_) ht
  · have eB : W1.B = B := e1.B
    obtain ⟨ρ1, S1, H1, B1⟩ := W1
    cases eB
    cases hi : insOf C d S1 with
    | none => rw [hi] at h1; exact h1.elim
    | some y =>
      rw [hi] at h1
      obtain ⟨ks, xs⟩ := y
      dsimp only at h1
      by_cases hmk : m ∈ ks
      · rw [if_pos hmk] at h1; exact h1.elim
      · rw [if_neg hmk] at h1
        obtain ⟨a, dx, fs, rfl, hA, hn⟩ := um_obj (W := ⟨ρ1, S1, H1, B1⟩) o1 rv hi hmk
        obtain ⟨_, _, h2⟩ := Post.ok_of (W := ⟨ρ1, S1, H1, B1⟩) o1 h1.bind
        obtain ⟨hc, h2⟩ := Post.iff_ok h2
        exact ⟨a, dx, fs, rfl, hA, hn, kn_sp (W := ⟨ρ1, S1, H1, B1⟩) o1 (.cons rv .nil) hc h2⟩
  · subst ev
    obtain rfl : u = Value.ref a := rx
    refine getmeth_ok I1 ea cl hm hl ?_
    exact PySem.W.callWith_K0 (first := [.ref a]) I1.kIn hm.kp (run_g0 (us := [.ref a]) (vs := [.ref a]) (G.mono hj) c.rm b (passAt c.tk σ) I1 (.cons rfl .nil) q)

/-! ### making -/
/-- the new instance joins the store -/
theorem made_ok {K : Frag} {W : Wd} {C : Str} {a dx : Addr} (ok : Ok K W) (ha : W.H a = none) (hdx : W.H dx = none) (ne : dx ≠ a) :
    Ext W ⟨fun i => if i = W.S.length then a else W.ρ i, W.S ++ [.ins C [] []], upd (upd W.H dx (.own a)) a (.ins (He.ga K C) dx []), W.B⟩ ∧ Ok K ⟨fun i => if i = W.S.length then a else W.ρ i, W.S ++ [.ins C [] []], upd (upd W.H dx (.own a)) a (.ins (He.ga K C) dx []), W.B⟩ := by
  have s1 : Same W.H (upd W.H dx (.own a)) := Same.upd hdx
  have e1 : Ext W ⟨W.ρ, W.S, upd W.H dx (.own a), W.B⟩ := Ext.same s1
  have o1 : Ok K ⟨W.ρ, W.S, upd W.H dx (.own a), W.B⟩ := ok.same s1
  have ha' : upd W.H dx (.own a) a = none := (upd_ne (Ne.symm ne)).trans ha
  obtain ⟨e2, o2⟩ := alloc_ok (W := ⟨W.ρ, W.S, upd W.H dx (.own a), W.B⟩) (p := a) (u := .ins (He.ga K C) dx []) (o := .ins C [] []) o1 ha' fun W' eh ex => ⟨dx, [], eh, rfl, .nil⟩
  exact ⟨e1.trans e2, o2⟩
theorem fe_make {tr : Bool} (h : Kn X.prog X.w X.K X.mg X.base qual x st (He.ma X.K (He.ga X.K C) "__init__") ps j n g) (c : Fit X Wx k) (M : Mk X.K (He.ga X.K C) (He.ma X.K (He.ga X.K C) "__init__")) (hm : X.mg C = some (.ref (He.ga X.K C))) (hg : Gl X C) (ha : FA X Wx (e :: es) fa) (hj : j + 1 ≤ k := by decide)
    (hdb : (C == ("__debug__" : Str)) = false := by decide) (he : starEach (e :: es) X.env = (false, eval e X.env) :: starEach es X.env := by rfl) (hpl : (backTo pos (starEach es X.env)).any (·.1) = false := by rfl) : FE X Wx (.Call (.Name C p) (e :: es) [] pos) (eMake tr C n g fa) := by
  obtain ⟨fd, F, G, b⟩ := h
  refine ⟨fun pins s σ H Q I ⟨ρ, S, B, l, ok, sl, h⟩ => ?_⟩
  refine wpAny_Call_Name_kw (ld_glob I hg hm ?_ hdb)
  refine PySem.W.callWith_K (h₀ := X.base) I.ok.mod.kin M.kp (thn (ha.run pos pins s σ H (fun vs H1 => ∀ a dx, H1 a = none → H1 dx = none → dx ≠ a → spOf X.K n g (.ref a :: vs) (upd (upd H1 dx (.own a)) a (.ins (He.ga X.K C) dx [])) (fun v H2 => v = .non ∧ Q (.ref a) H2) (WE Wx σ)) I
    ⟨ρ, S, B, l, ok, sl, h.bind.mono fun W1 ds e1 o1 ⟨_, _, h1⟩ vs rvs a dx ha hdx hne => ?_⟩) fun us s1 ⟨vs, H1, I1, r, q⟩ => ⟨I1.kIn, ?_⟩) he hpl
  · obtain ⟨hc, h1⟩ := Post.iff_ok h1
    obtain ⟨e2, o2⟩ := made_ok (C := C) o1 ha hdx hne
    refine ⟨_, _, _, .loc W1.S.length :: ds, o2, .cons ?_ (rvs.ext e2 o1), hc, ?_⟩
    · have q : Rep X.K ⟨fun i => if i = W1.S.length then a else W1.ρ i, W1.S ++ [.ins C [] []], upd (upd W1.H dx (.own a)) a (.ins (He.ga X.K C) dx []), W1.B⟩ (.loc W1.S.length) (.ref ((⟨fun i => if i = W1.S.length then a else W1.ρ i, W1.S ++ [.ins C [] []], upd (upd W1.H dx (.own a)) a (.ins (He.ga X.K C) dx []), W1.B⟩ : Wd).ρ W1.S.length)) :=
        Rep.loc (K := X.K) (W := ⟨fun i => if i = W1.S.length then a else W1.ρ i, W1.S ++ [.ins C [] []], upd (upd W1.H dx (.own a)) a (.ins (He.ga X.K C) dx []), W1.B⟩) (n := W1.S.length) (by simp)
      simpa using q
    · cases hq : g (.loc W1.S.length :: ds) (W1.S ++ [.ins C [] []]) with
      | bad => rw [hq] at h1; exact h1.elim
      | exc x S2 =>
        rw [hq] at h1
        exact fun ρ' H' cls d e3 o3 rx => h1 ρ' H' cls d (e2.trans e3) o3 rx
      | ok r S2 =>
        rw [hq] at h1
        intro ρ' H' e3 o3 v rv
        cases rv with
        | non =>
          refine ⟨rfl, fin_ok (E := WE Wx σ) o1 h1.at (e2.trans e3) o3 ?_⟩
          have hlt : W1.S.length < S2.length := by
            have := e3.len
            simp at this
            omega
          have hr : ρ' W1.S.length = a := by
            have := e3.rho W1.S.length (by simp)
            simpa using this
          rw [← hr]
          exact Rep.loc (K := X.K) (W := ⟨ρ', S2, H', W1.B⟩) hlt
        | _ => exact h1.elim
  · have I2 := Inv.made (C := He.ga X.K C) I1
    have hq := q (s1.heap.objs.size + 1) s1.heap.objs.size (I1.hok.fresh (Nat.le_succ _)) (I1.hok.fresh (Nat.le_refl _)) (Nat.ne_of_lt (Nat.lt_succ_self _))
    have r2 : Vals (V.ref (s1.heap.objs.size + 1) :: vs) (Value.ref (s1.heap.objs.size + 1) :: us) := .cons rfl r
    have hl : (Value.ref (s1.heap.objs.size + 1) :: us).length = ps.length := by rw [← r2.length]; exact G.len _ _ _ _ hq
    refine wpAny_call (make_map (f := He.ma X.K (He.ga X.K C) "__init__") I1.kIn M.makes M.init (beq_iff_eq.mp M.fn) (codeAny_mono (G.go _ X.stack _ _ ⟨Value.ref (s1.heap.objs.size + 1) :: us, []⟩ (Value.ref (s1.heap.objs.size + 1) :: us) _ _ (WE Wx σ) ((c.rm.mono hj).make (He.ga X.K C) us [])
      (I2.env0.make (He.ga X.K C) us []) (b.to _ (Value.ref (s1.heap.objs.size + 1) :: us) [] I2.kIn hl) r2 hq) fun r s' hq' => ?_))
    cases r with
    | error er => exact passAt c.tk σ pins _ _ er s' I2 hq'
    | ok fl =>
      cases fl with
      | ret u =>
        obtain ⟨v, H', I3, rv, ev, q3⟩ := I2.after hq'
        subst ev
        exact ⟨rv, ⟨V.ref (s1.heap.objs.size + 1), H', I3, rfl, q3⟩⟩
      | next => exact hq'.elim
      | brk => exact hq'.elim
      | cont => exact hq'.elim
end

/-! ### e.f = v -/
def putK (f : Str) : List Str → List Str
  | [] => [f]
  | g :: ks => if g = f then g :: ks else g :: putK f ks
def putV {α : Type} (f : Str) (d : α) : List Str → List α → List α
  | [], _ => [d]
  | g :: ks, v :: vs => if g = f then d :: vs else v :: putV f d ks vs
  | _ :: _, [] => []
theorem putF_zip {f : Str} {y : V} : ∀ {ks : List Str} {vs : List V}, ks.length = vs.length → putF f y (ks.zip vs) = (putK f ks).zip (putV f y ks vs)
  | [], [], _ => rfl
  | g :: ks, v :: vs, h => by
    rw [List.zip_cons_cons]
    unfold putF putK putV
    by_cases e : g = f
    · rw [if_pos e, if_pos e, if_pos e, List.zip_cons_cons]
    · rw [if_neg e, if_neg e, if_neg e, List.zip_cons_cons, putF_zip (by simpa using h)]
theorem put_length {f : Str} {y : V} : ∀ {ks : List Str} {vs : List V}, ks.length = vs.length → (putK f ks).length = (putV f y ks vs).length
  | [], [], _ => rfl
  | g :: ks, v :: vs, h => by
    unfold putK putV
    by_cases e : g = f
    · rw [if_pos e, if_pos e]; simpa using h
    · rw [if_neg e, if_neg e, List.length_cons, List.length_cons, put_length (by simpa using h)]
theorem put_reps {K : Frag} {W : Wd} {f : Str} {d : D} {y : V} (r : Rep K W d y) : ∀ {ks : List Str} {xs : List D} {vs : List V}, Reps K W xs vs → Reps K W (putV f d ks xs) (putV f y ks vs)
  | [], _, _, _ => .cons r .nil
  | g :: ks, _, _, .nil => .nil
  | g :: ks, _, _, .cons h rs => by
    unfold putV
    by_cases e : g = f
    · rw [if_pos e, if_pos e]; exact .cons r rs
    · rw [if_neg e, if_neg e]; exact .cons h (put_reps r rs)
def setFl (C f : Str) (o d : D) (S : Store) : Option Store := match o with
  | .loc n => match S[n]? with
    | some (.ins C' ks vs) => if C' = C ∧ ks.length < 1000 then some (S.set n (.ins C (putK f ks) (putV f d ks vs))) else none
    | _ => none
  | _ => none
def sSetF (C f : Str) (fo fv : L → Store → R D) : L → Store → Fl := fun l S => (fv l S).toS l fun d S1 => (fo l S1).toS l fun o S2 => match setFl C f o d S2 with
  | some S3 => .nx l S3
  | none => .bad
section
variable {X : Cx} {Wx : WX} {C f : Str} {o value : Expr} {fo fv : L → Store → R D} {pos pos' : Pos}
theorem fs_setF (ho : FE X Wx o fo) (hv : FE X Wx value fv) (c : Cls X.K (He.ga X.K C)) (n : NoAttr X.K (He.ga X.K C) f) (hs : swapsWith value (some (.Attribute o f pos')) pos.line X.env = pure false := by rfl) : FS X Wx (.Assign [.Attribute o f pos'] value pos) (sSetF C f fo fv) :=
  (ps_fld ho hv hs).imp fun D σ H ⟨ρ, S, B, l, ok, sl, h⟩ => ⟨ρ, S, B, l, ok, sl, (h.toS sl ok).mono fun W1 d e1 o1 ⟨_, _, h1⟩ y ry => ⟨W1.ρ, W1.S, W1.B, l, o1, sl.ext e1 ok, (h1.toS (sl.ext e1 ok) o1).mono fun W2 ob e2 o2 ⟨_, _, h2⟩ v rv => by
    unfold setFl at h2
    cases ob with
    | loc m =>
      dsimp only at h2
      cases hx : W2.S[m]? with
      | none => rw [hx] at h2; exact h2.elim
      | some oo => cases oo with
        | lst xs => rw [hx] at h2; exact h2.elim
        | tab x => rw [hx] at h2; exact h2.elim
        | dct hs kvs => rw [hx] at h2; exact h2.elim
        | ins C' ks xs =>
          rw [hx] at h2
          dsimp only at h2
          by_cases hc : C' = C ∧ ks.length < 1000
          · rw [if_pos hc] at h2
            obtain ⟨hC, hk⟩ := hc
            subst hC
            obtain ⟨dx, vs, hA, hl, rs⟩ := o2.obj m _ hx
            cases rv with
            | loc hn =>
              refine ⟨_, _, dx, ks.zip vs, rfl, hA, c, n, by rw [List.length_zip, ← hl, Nat.min_self]; exact hk, ?_⟩
              rw [putF_zip hl]
              obtain ⟨e3, o3⟩ := wr_ok (W := W2) (n := m) (u := .ins (He.ga X.K C') dx ((putK f ks).zip (putV f y ks vs))) (o := .ins C' (putK f ks) (putV f d ks xs)) o2 hn fun W' eh ex => ⟨dx, _, eh, put_length hl, put_reps ((ry.ext e2 o1).ext ex o2) (rs.ext ex o2)⟩
              exact h2 _ _ σ e3 o3 (((sl.ext e1 ok).ext e2 o1).ext e3 o2)
          · rw [if_neg hc] at h2; exact h2.elim
    | _ => exact h2.elim⟩⟩
end
end HL
end
section
set_option Elab.async false
set_option linter.all false
set_option maxRecDepth 100000
set_option maxHeartbeats 1000000
namespace HL
open PySem PySem.Spec L2

/-! ### constants of the module -/
section
variable {X : Cx} {Wx : WX} {x : Str} {p pos : Pos}
theorem fe_gint {i : Int} (hg : Gl X x) (h : ∃ t, X.mg x = some (.int i t)) (hdb : (x == ("__debug__" : Str)) = false := by decide) : FE X Wx (.Name x p) (eCon (.int i)) := by
  obtain ⟨t, h⟩ := h
  exact fe_of (pe_glob (v := V.int i) hg h ⟨t, rfl⟩ hdb) fun _ => .int i
theorem fe_gstr {z : Str} (hg : Gl X x) (h : ∃ t, X.mg x = some (.str z t)) (hdb : (x == ("__debug__" : Str)) = false := by decide) : FE X Wx (.Name x p) (eCon (.str z)) := by
  obtain ⟨t, h⟩ := h
  exact fe_of (pe_glob (v := V.str z) hg h ⟨t, rfl⟩ hdb) fun _ => .str z
theorem fe_gtup {z : Str} (hg : Gl X x) {a : Addr} (h : X.mg x = some (.ref a) ∧ ∃ (o : Obj) (n : Nat) (t : Tok), X.K.lookup a = some o ∧ o.cls = .type "tuple" ∧ o.data = .seq #[.str z t] n) (hdb : (x == ("__debug__" : Str)) = false := by decide) : FE X Wx (.Name x p) (eCon (.tup [.str z])) := by
  obtain ⟨h, o, n, t, h1, h2, h3⟩ := h
  exact fe_of (pe_glob (v := V.ref a) hg h rfl hdb) fun W => .tup (vs := [.str z]) (.inr ⟨o, _, n, h1, h2, h3, (show 1 ≤ sizeLine by rw [sizeLine_eq]; decide), .cons (show RelV (.str z) (.str z t) from ⟨t, rfl⟩) .nil⟩) (.cons (.str z) .nil)
end

/-! ### sorted(xs, key=f), f of the form (len(x), x), xs tuples without lists -/
mutual
def noL : PyData → Bool
  | .list _ => false
  | .dict _ => false
  | .tuple xs => noLs xs
  | _ => true
def noLs : List PyData → Bool
  | [] => true
  | d :: ds => noL d && noLs ds
end
mutual
theorem reads_noL {h : Heap} : ∀ {d : PyData} {v : Value} {as : List Addr}, noL d = true → Reads h v d as → as = []
  | .none, _, _, _, r => by cases r; rfl
  | .bool _, _, _, _, r => by cases r; rfl
  | .int _, _, _, _, r => by cases r; rfl
  | .str _, _, _, _, r => by cases r; rfl
  | .list _, _, _, z, _ => by cases z
  | .dict _, _, _, z, _ => by cases z
  | .tuple xs, _, _, z, r => by
    cases r with
    | tuple h1 h2 h3 h4 => exact readsAll_noL z h4
theorem readsAll_noL {h : Heap} : ∀ {ds : List PyData} {vs : List Value} {as : List Addr}, noLs ds = true → ReadsAll h vs ds as → as = []
  | [], _, _, _, r => by cases r; rfl
  | d :: ds, _, _, z, r => by
    unfold noLs at z
    obtain ⟨z1, z2⟩ := Bool.and_eq_true_iff.mp z
    cases r with
    | cons h1 h2 => rw [reads_noL z1 h1, readsAll_noL z2 h2]; rfl
end
def tupOf (d : D) : List D := match nt d with
  | .tup xs => xs
  | _ => []
/-- (len(x), x) -/
def keyLot (d : D) : PyData := .tuple [.int (tupOf d).length, encD d]
structure CanSortK (xs : List D) : Prop where
  py : ∀ d ∈ xs, (∃ ys, nt d = .tup ys) ∧ ∃ p, toPy d = some p ∧ noL p = true
  al : PySem.W.AllAlike (xs.map keyLot)
  le : xs.length ≤ sizeLine
  dp : ∀ d ∈ xs, (encD d).depth ≤ 60
open Classical in
noncomputable def pSortLot (ds : List D) (S : Store) : Option D := match ds with
  | [d] => (seqL d S).bind fun xs => if CanSortK xs then some (.lst (xs.mergeSort (PySem.W.dataLe false keyLot))) else none
  | _ => none
/-- the def at f gives (len(x), x) -/
structure IsLotKey (K : Frag) (f : Addr) : Prop where
  ex : ∃ (x qual : Str) (params : Arguments) (body : List Stmt) (scope : Scope) (fd : FuncData) (y : Str) (p1 p2 p3 p4 p5 p6 : Pos) (kk : Nat), FunD K x qual params body scope [] [] f fd ∧ body = [.Return (some (.Tuple [.Call (.Name "len" p1) [.Name y p2] [] p3, .Name y p4] kk p5)) p6] ∧ FnScope [y] [y] scope ∧
    scope.names.lookup y = some .local ∧ scope.names.lookup (Str.ofString "len") = some NameKind.globalImplicit ∧ (y == ("__debug__" : Str)) = false ∧ (∀ (kV doc pm : Value) (an : Option Addr) (cdv ct : Value) (u : Value), bindArgs (PySem.W.fnOf x qual params body scope .none kV doc pm an cdv ct) ⟨[u], []⟩ = pure ([y].zip [u]))
theorem key_pure {X : Cx} {s : Shared} {H : Hp} {f a : Addr} {vs : List V} {p : PyData} {A : Around} (Fk : IsLotKey X.K f) (hA : RoomG 1 A) (e0 : Env0 X.prog X.w X.K X.mg X.base A X.stack s H) (hlen : X.mg "len" = none) (h : SqT X.K H a vs) (hr : Reads s.heap (.ref a) p []) :
    wpAny (model X.prog X.w) A (call (.ref f) [.ref a]) (PySem.W.KeyPure (.tuple [.int vs.length, p]) s) (fun _ _ => False) s := by
  obtain ⟨x, qual, params, body, scope, fd, y, p1, p2, p3, p4, p5, p6, kk, F, hbody, S, hy, hl, hdb, hb⟩ := Fk.ex
  obtain ⟨oc, od, dV, kV, doc, pm, an, cdv, ct, osl, rfl, lk, hcd, hD, _⟩ := F.ex
  have KX : X.K.In s.heap := e0.mod.kin.keeps fun b o e => (e0.bs b o e).1
  have lim : s.heap.NoLimit := e0.mod.nolimit.keeps fun b o e => (e0.bs b o e).1
  obtain rfl : dV = .none := by
    rcases hD with ⟨_, h⟩ | ⟨h, _⟩
    · exact h
    · exact absurd rfl h
  have hkind : ∀ z ∈ [y].zip [Value.ref a], scope.names.lookup z.1 = some .local ∨ (scope.names.lookup z.1 = some .cell ∧ ((cellsFrom (s.heap.objs.size + 1) scope.names []).lookup z.1).isSome = true) := fun z hz => by
    obtain ⟨n, v⟩ := z
    have := (List.of_mem_zip hz).1
    have e : n = y := by simpa using this
    exact .inl (by rw [e]; exact hy)
  have hB : BindsTo s (PySem.W.fnOf x qual params body scope .none kV doc pm an cdv ct) ⟨[.ref a], []⟩ ([y].zip [.ref a]) := BindsTo.of_eq (hb kV doc pm an cdv ct (.ref a))
  have main : codeAny (model X.prog X.w) A (.call (.ref f) ⟨[.ref a], []⟩) (fun r s' => match r with
    | .ok (.ret u) => PySem.W.KeyPure (.tuple [.int vs.length, p]) s u s'
    | _ => False) s := by
    refine PySem.codeAny_call_function hA.r.depth (KX _ _ lk) rfl S.co S.gen rfl (PySem.W.codeRec_of KX hcd) (hB _ _ _ _ ?_)
    refine wpAny_newFunctionEnv_cells S.kind hkind fun env he s1 xx => ?_
    subst he
    refine ⟨lim.keeps xx.toInCall.keep, PySem.codeAny_func ?_⟩
    have I : Inv (cxOf (L2.CX X.prog X.w) X.prog X.w X.K X.mg X.base [y] qual scope f cdv A X.stack s H (fun _ _ _ => False)) [] (L2.start [y] [V.ref a]) H s1 := inv_start S hA.r.hd e0 rfl (.cons rfl .nil) xx
    obtain ⟨h1, tk, rfl, hk⟩ := xx.done
    obtain ⟨m, hn, hl2⟩ := I.loc
    obtain ⟨u, ru, look⟩ := hl2 0 y (.ref a) rfl rfl (.inl hy)
    obtain rfl : u = .ref a := ru
    have hm : m y = some (.ref a) := by
      rcases look with ⟨_, hm⟩ | ⟨hk', _⟩
      · exact hm
      · have z : scope.names.lookup y = some .cell ∨ scope.names.lookup y = some .free := hk'
        rcases z with z | z <;> (rw [hy] at z; cases z)
    have ld : ∀ {Q : Value → Shared → Prop} {E : Value → Shared → Prop} {q : Pos} {t : Nat}, Q (.ref a) ⟨h1, s.gens, s.drawn, t, s.os⟩ → wpAny (model X.prog X.w) (A.deeper (PyProof.Rows.envOfC qual scope s.heap.objs.size f cdv)) (eval (.Name y q) (PyProof.Rows.envOfC qual scope s.heap.objs.size f cdv)) Q E ⟨h1, s.gens, s.drawn, t, s.os⟩ :=
      fun {Q E q t} hq => wpAny_Name (wpAny_loadName_local S.kind hy hn hm hq) hdb
    obtain ⟨its, rv, pl, hz⟩ := I.tuple h
    have hlen' := rv.length
    have hn2 := line63
    subst hbody
    refine wpAny_execs_cons (wpAny_Return_some (wpAny_Tuple_spliced ?_))
    refine Calls.spliced_cons (wpAny_Call_Name_kw (ld_blt I (show scope.names.lookup (Str.ofString "len") = some NameKind.globalImplicit from hl) hlen boot_len ?_))
    refine PyProof.Rows.callWith_builtin1 (Calls.spliced_cons (ld (Calls.spliced_nil ?_))) rfl rfl
    refine PyProof.Rows.len_tuple pl (by simp only [List.size_toArray] <;> omega) ?_
    refine Calls.spliced_cons (ld (Calls.spliced_nil ⟨by show 2 ≤ sizeLine; decide, ?_⟩))
    refine ⟨_, _, rfl, fun b o e => Heap.get?_push_of_some _ (hk b o e), ?_⟩
    have e2 : ((its.toArray.size : Nat) : Int) = (vs.length : Nat) := by rw [List.size_toArray, hlen']
    have rr : Reads (h1.push { cls := .type "tuple", data := .seq [Value.int (its.toArray.size : Nat) (tk + 1), .ref a].toArray }) (.ref a) p [] := PyProof.Rows.Reads.keeps (fun b o e => Heap.get?_push_of_some _ (hk b o e)) hr
    refine Reads.tuple (Heap.get?_push_size _ rfl) rfl rfl ?_
    rw [← e2]
    exact .cons (as := []) (.int _ _) (.cons (as := []) rr .nil)
  refine wpAny_call (codeAny_mono main fun r s' hq => ?_)
  cases r with
  | error e => exact hq.elim
  | ok fl => cases fl with
    | ret u => exact hq
    | next => exact hq.elim
    | brk => exact hq.elim
    | cont => exact hq.elim
theorem sortable_keys (xs : List D) : PySem.W.Sortable (xs.map keyLot) := .inl fun d hd => by
  obtain ⟨b, _, rfl⟩ := List.mem_map.mp hd
  exact ⟨_, _, rfl⟩
section
variable {X : Cx} {Wx : WX} {k : Nat} {f : Addr} {x : Str} {p pos p2 kpos : Pos} {e : Expr} {fa : L → Store → R (List D)}
theorem callK_lot (Fk : IsLotKey X.K f) (c : Fit X Wx k) (hk3 : 3 ≤ k) (hlen : X.mg "len" = none) : CallRK X (.builtin "sorted") [Str.ofString "key"] (fun xs zs H Q => zs = [.ref f] ∧ rPl X.K pSortLot xs H Q) := by
  intro pins s σ H xs zs us ws Q I r rz ⟨hz, ρ, S, B, ds, e, ok, rd, hp, k'⟩
  subst hz
  obtain ⟨w1, rfl, e1⟩ := vals1 rz
  obtain rfl : w1 = Value.ref f := e1
  unfold pSortLot at hp
  split at hp
  · obtain ⟨ys, h1, h2⟩ := Option.bind_eq_some_iff.mp hp
    split at h2
    · rename_i cs
      cases h2
      obtain ⟨v, rfl, h⟩ := rd.one
      obtain ⟨a, vs, rfl, h3, q⟩ := seqL_ok ok h h1
      obtain ⟨u, rfl, rx⟩ := vals1 r
      cases rx
      obtain ⟨its, rv, pl, _⟩ := I.list h3
      have rA : RoomG 1 X.A.in1.in1 := ((c.rm.mono hk3).in1).in1
      refine PySem.W.sorted_key_data (b := false) keyLot pl.isList (reps_each q rv) cs.al (sortable_keys ys) cs.le (fun d hd => ?_) (PyProof.Rows.ksk_s1 _ _) (fun _ => PyProof.Rows.ksk_l1 _ _) (fun _ => PyProof.Rows.ksk_t1 _ _) (fun v d hv hd h tk hk => ?_) fun out c' h' tk hk _ ho hl hE => ?_
      · have := cs.dp d hd
        have hu := c.rm.r.un
        have : (keyLot d).depth ≤ 61 := by
          show max 0 (max (encD d).depth 0) + 1 ≤ 61
          omega
        omega
      · obtain ⟨w, rw', ru⟩ := hv
        obtain ⟨⟨zs, hz⟩, pp, hpp, hnl⟩ := cs.py d hd
        have ed : encD d = pp := by unfold encD; rw [hpp]; rfl
        have I2 : Inv X pins σ H { s with heap := h, toks := tk } := I.kept (t' := tk) hk
        have rn := rw'.nt
        rw [hz] at rn
        cases rn with
        | @tup _ ws2 b h4 q4 =>
          cases ru
          obtain ⟨as, rr⟩ := Dp.reads I2 pp _ _ (rw'.dp ok hpp) rfl
          have z := reads_noL hnl rr
          subst z
          have hl4 : ws2.length = (tupOf d).length := by
            unfold tupOf
            rw [hz]
            exact q4.length.symm
          have kp := key_pure (A := X.A.in1.in1) (s := { s with heap := h, toks := tk }) Fk rA I2.env0.in1.in1 hlen h4 rr
          rw [hl4] at kp
          unfold keyLot
          rw [ed]
          exact kp
      · exact sorted_end I ok hk (by rw [List.length_mergeSort]; exact cs.le) ho hE k'
    · cases h2
  · cases hp
theorem fe_sortLot {x2 : Str} (Fk : IsLotKey X.K f) (c : Fit X Wx k) (hm : X.mg "sorted" = none) (hg : Gl X "sorted") (hmx : X.mg x2 = some (.ref f)) (hgx : Gl X x2) (hlen : X.mg "len" = none) (ha : FA X Wx [e] fa) (hk3 : 3 ≤ k := by decide) (hdb : (x2 == ("__debug__" : Str)) = false := by decide)
    (he : backTo pos (starEach [e] X.env) = (false, eval e X.env) :: backTo pos (starEach [] X.env) := by rfl) (hpl : (backTo pos (starEach [e] X.env)).any (·.1) = false := by rfl)
    (hall : (backToKw pos (keywordEach [⟨some "key", .Name x2 p2, kpos⟩] X.env)).all (·.1.isSome) = true := by rfl) (hnone : (backToKw pos (keywordEach [⟨some "key", .Name x2 p2, kpos⟩] X.env)).any (·.1.isNone) = false := by rfl) (hks : (backToKw pos (keywordEach [⟨some "key", .Name x2 p2, kpos⟩] X.env)).filterMap (·.1) = [Str.ofString "key"] := by rfl) :
    FE X Wx (.Call (.Name "sorted" p) [e] [⟨some "key", .Name x2 p2, kpos⟩] pos) (mCall pSortLot fa) :=
  (pe_callBK (callK_lot Fk c hk3 hlen) hg hm (by decide +kernel) ha (pk_cons (pe_glob (v := V.ref f) hgx hmx rfl hdb) pk_nil) (he := he) (hpl := hpl) (hall := hall) (hnone := hnone) (hks := hks)).imp fun σ H Q h => by
    obtain ⟨ρ, S, B, l, ok, sl, h⟩ := h
    refine ⟨ρ, S, B, l, ok, sl, h.bind.mono fun W1 ds e1 o1 ⟨_, _, h1⟩ vs rvs => ?_⟩
    obtain ⟨r, er, q⟩ := h1.ofO
    exact ⟨rfl, W1.ρ, W1.S, W1.B, ds, r, o1, rvs, er, fun H' v' s rv' => q H' s o1 v' rv'⟩
end

/-! ### what the head must tell -/
/-- a def as it stands at an address -/
structure DefA where
  at_ : Frag → Addr
  name : Str
  qual : Str
  params : Arguments
  body : List Stmt
  scope : Scope
  dv : List Int
def fnA (K : Frag) (a : Addr) : He.FnW := match K.lookup a with
  | some ⟨_, _, .func fd, _⟩ => some (fd.name, fd.qualname, fd.params, fd.body, fd.scope, fd.globals, fd.closure, fd.builtins)
  | _ => none
def DefA.val (d : DefA) : He.FnW := some (d.name, d.qual, d.params, .stmts d.body, d.scope, mainGlobals, [], builtinsNs)
def DefA.ok (K : Frag) (d : DefA) : Bool := PySem.W.keepIn K (.ref (d.at_ K)) && (match K.lookup (d.at_ K) with
  | some ⟨_, _, .func fd, _⟩ => PySem.W.codeIn K fd.code d.qual && (He.dflB K fd.defaults (d.dv.map V.int) && He.kwdB K fd.kwdefaults [])
  | _ => false)
theorem DefA.funD {K : Frag} {d : DefA} (e : fnA K (d.at_ K) = d.val) (c : d.ok K = true) : ∃ fd, FunD K d.name d.qual d.params d.body d.scope (d.dv.map V.int) [] (d.at_ K) fd := by
  obtain ⟨kp, c2⟩ := He.ba c
  unfold fnA at e
  cases q : K.lookup (d.at_ K) with
  | none =>
    rw [q] at c2
    cases c2
  | some o =>
    obtain ⟨oc, od, dt, osl⟩ := o
    rw [q] at c2 e
    cases dt with
    | func fd =>
      obtain ⟨n1, n2, n3, n4, n5, n6, n7, n8, n9, n10, n11, n12, n13, n14, n15⟩ := fd
      have e2 : (some (n1, n2, n3, n4, n5, n6, n7, n15) : He.FnW) = some (d.name, d.qual, d.params, .stmts d.body, d.scope, mainGlobals, [], builtinsNs) := e
      simp only [Option.some.injEq, Prod.mk.injEq] at e2
      obtain ⟨h1, h2, h3, h4, h5, h6, h7, h8⟩ := e2
      subst h1 h2 h3 h4 h5 h6 h7 h8
      have c3 : (PySem.W.codeIn K n13 d.qual && (He.dflB K n8 (d.dv.map V.int) && He.kwdB K n9 [])) = true := c2
      obtain ⟨k1, k2⟩ := He.ba c3
      obtain ⟨k3, k4⟩ := He.ba k2
      exact ⟨_, ⟨oc, od, n8, n9, n10, n11, n12, n13, n14, osl, rfl, q, k1, He.dflB_ok k3, He.kwdB_ok k4⟩, kp⟩
    | _ => cases c2
/-- a property: the class, the name -/
def prP (K : Frag) (C a : Str) : Addr := He.ma K (He.ga K C) a
def prGet (C a : Str) (K : Frag) : Addr := match PySem.W.recIn K (prP K C a) "property" with
  | some (.ref g :: _) => g
  | _ => 0
def prB (K : Frag) (x : Str × Str) : Bool := He.eqO (PySem.W.findIn K (.ref (He.ga K x.1)) x.2) (some (some (.ref (prP K x.1 x.2)))) && (He.eqO (PySem.W.specialIn K (.ref (prP K x.1 x.2)) "__get__") (some (some (.builtin "property.__get__"))) &&
  (decide (PySem.W.takesIn K (.ref (prP K x.1 x.2)) = some true) && (match PySem.W.recIn K (prP K x.1 x.2) "property" with
    | some (.ref _ :: _) => true
    | _ => false)))
theorem prB_ok {K : Frag} {x : Str × Str} (h : prB K x = true) : PropOf K (He.ga K x.1) x.2 (prP K x.1 x.2) (prGet x.1 x.2 K) := by
  obtain ⟨h1, h⟩ := He.ba h
  obtain ⟨h2, h⟩ := He.ba h
  obtain ⟨h3, h4⟩ := He.ba h
  refine ⟨He.eqO_ok h1, He.eqO_ok h2, of_decide_eq_true h3, ?_⟩
  unfold prGet
  split at h4
  · rename_i g r e
    rw [e]
    exact ⟨r, rfl⟩
  · cases h4
/-- a class for isinstance -/
def isB (K : Frag) (C : Str) : Bool := (["NoneType", "bool", "int", "str", "tuple", "list", "set", "dict"].all fun a => decide (PySem.W.kitOne K (.type a) (.ref (He.ga K C)) = some false)) && ((He.Fa.cls C).ok K && (He.eqO (PySem.W.findIn K (.ref (He.ga K C)) "__class__") (some (some (.builtin "object.__class__"))) &&
  (He.eqO (PySem.W.specialIn K (.builtin "object.__class__") "__get__") (some (some (.builtin "getset_descriptor.__get__"))) && (decide (PySem.W.takesIn K (.builtin "object.__class__") = some true) && decide (PySem.W.mroIn K (He.ga K C) (Value.type "object") = some true)))))
theorem isB_ok {X : Cx} {C : Str} (h : isB X.K C = true) : IsiC X C := by
  obtain ⟨h1, h⟩ := He.ba h
  obtain ⟨h2, h⟩ := He.ba h
  obtain ⟨h3, h⟩ := He.ba h
  obtain ⟨h4, h⟩ := He.ba h
  obtain ⟨h5, h6⟩ := He.ba h
  exact ⟨fun a ha => of_decide_eq_true (List.all_eq_true.mp h1 a ha), He.cls_ok h2, He.eqO_ok h3, He.eqO_ok h4, of_decide_eq_true h5, of_decide_eq_true h6⟩
abbrev AlA : Type := Bool × List He.FnW
def obsA (fa : List He.Fa) (fn : List DefA) (pr : List (Str × Str)) (is : List Str) (K : Frag) : AlA := ((fa.all fun f => f.ok K) && ((fn.all fun d => d.ok K) && ((pr.all fun x => prB K x) && is.all fun x => isB K x)), fn.map fun d => fnA K (d.at_ K))
def valA (fn : List DefA) : AlA := (true, fn.map DefA.val)
/-- what the head has told -/
structure TxOf (fa : List He.Fa) (fn : List DefA) (pr : List (Str × Str)) (is : List Str) (K : Frag) (mg : Str → Option Value) : Prop where
  heap : ∃ h : Heap, K.In h ∧ h.Ns mainGlobals mg
  says : obsA fa fn pr is K = valA fn
section
variable {fa : List He.Fa} {fn : List DefA} {pr : List (Str × Str)} {is : List Str} {K : Frag} {mg : Str → Option Value}
theorem TxOf.parts (T : TxOf fa fn pr is K mg) : (fa.all fun f => f.ok K) = true ∧ (fn.all fun d => d.ok K) = true ∧ (pr.all fun x => prB K x) = true ∧ (is.all fun x => isB K x) = true ∧ (fn.map fun d => fnA K (d.at_ K)) = fn.map DefA.val := by
  have h := T.says
  have h1 : ((fa.all fun f => f.ok K) && ((fn.all fun d => d.ok K) && ((pr.all fun x => prB K x) && is.all fun x => isB K x))) = true := congrArg (fun z : AlA => z.1) h
  obtain ⟨a, h1⟩ := He.ba h1
  obtain ⟨b, h1⟩ := He.ba h1
  obtain ⟨c, d⟩ := He.ba h1
  exact ⟨a, b, c, d, congrArg (fun z : AlA => z.2) h⟩
theorem TxOf.fact (T : TxOf fa fn pr is K mg) (i : Nat) {f : He.Fa} (h : fa[i]? = some f) : f.ok K = true := List.all_eq_true.mp T.parts.1 f (List.mem_of_getElem? h)
theorem TxOf.fr (T : TxOf fa fn pr is K mg) (i : Nat) {x : Str} (h : fa[i]? = some (.free x)) : mg x = none := let ⟨_, k, g⟩ := T.heap; He.free_ok k g (T.fact i h)
theorem TxOf.gl (T : TxOf fa fn pr is K mg) (i : Nat) {x : Str} (h : fa[i]? = some (.glo x)) : mg x = some (.ref (He.ga K x)) := let ⟨_, k, g⟩ := T.heap; He.glo_ok k g (T.fact i h)
theorem TxOf.it (T : TxOf fa fn pr is K mg) (i : Nat) {x : Str} {n : Int} (h : fa[i]? = some (.int x n)) : ∃ t, mg x = some (.int n t) := let ⟨_, k, g⟩ := T.heap; He.int_ok k g (T.fact i h)
theorem TxOf.st (T : TxOf fa fn pr is K mg) (i : Nat) {x z : Str} (h : fa[i]? = some (.str x z)) : ∃ t, mg x = some (.str z t) := let ⟨_, k, g⟩ := T.heap; He.str_ok k g (T.fact i h)
theorem TxOf.cl (T : TxOf fa fn pr is K mg) (i : Nat) {x : Str} (h : fa[i]? = some (.cls x)) : Cls K (He.ga K x) := He.cls_ok (T.fact i h)
theorem TxOf.na (T : TxOf fa fn pr is K mg) (i : Nat) {x f : Str} (h : fa[i]? = some (.noat x f)) : NoAttr K (He.ga K x) f := He.noat_ok (T.fact i h)
theorem TxOf.mr (T : TxOf fa fn pr is K mg) (i : Nat) {x : Str} (h : fa[i]? = some (.mkr x)) : Mk K (He.ga K x) (He.ma K (He.ga K x) "__init__") := He.mkr_ok (T.fact i h)
theorem TxOf.me (T : TxOf fa fn pr is K mg) (i : Nat) {x m : Str} (h : fa[i]? = some (.meth x m)) : Meth K (He.ga K x) m (He.ma K (He.ga K x) m) := He.meth_ok (T.fact i h)
theorem TxOf.dn (T : TxOf fa fn pr is K mg) (i : Nat) {d : DefA} (h : fn[i]? = some d) : ∃ fd, FunD K d.name d.qual d.params d.body d.scope (d.dv.map V.int) [] (d.at_ K) fd := by
  obtain ⟨_, b, _, _, e⟩ := T.parts
  have e2 : (fn.map fun d => fnA K (d.at_ K))[i]? = (fn.map DefA.val)[i]? := by rw [e]
  rw [List.getElem?_map, List.getElem?_map, h] at e2
  exact DefA.funD (Option.some.inj e2) (List.all_eq_true.mp b d (List.mem_of_getElem? h))
theorem TxOf.pp (T : TxOf fa fn pr is K mg) (i : Nat) {x : Str × Str} (h : pr[i]? = some x) : PropOf K (He.ga K x.1) x.2 (prP K x.1 x.2) (prGet x.1 x.2 K) := prB_ok (List.all_eq_true.mp T.parts.2.2.1 x (List.mem_of_getElem? h))
theorem TxOf.is_ {X : Cx} (T : TxOf fa fn pr is X.K mg) (i : Nat) {x : Str} (h : is[i]? = some x) : IsiC X x := isB_ok (List.all_eq_true.mp T.parts.2.2.2.1 x (List.mem_of_getElem? h))
end

/-! ### comprehensions, by contexts that fit -/
section
variable {X : Cx} {Wx : WX} {k : Nat} {elt tg iter : Expr} {ifs : List Expr} {scope : Scope} {own : List (Str × Nat)} {pos : Pos} {fi : L → Store → R Src} {g : Tgt} {ix : List Nat} {t : L → Store → R Bool} {e : L → Store → R D}
theorem fe_lcF (c : Fit X Wx k) (hi : FI X Wx tg iter fi) (okB : BlkOk X.N X.env.scope scope own) (hg : ∀ (s : Shared) (H : Hp) (C : Addr) (cl : List (Str × Addr)) (fp : List Addr), Fit (X.blk s H scope (compEnvC scope cl C X.env) fp) wx0 k → FG (X.blk s H scope (compEnvC scope cl C X.env) fp) tg g ix) (hix : ∀ i ∈ ix, i ∈ own.map (·.2)) (ht : ∀ (s : Shared) (H : Hp) (C : Addr) (cl : List (Str × Addr)) (fp : List Addr), Fit (X.blk s H scope (compEnvC scope cl C X.env) fp) wx0 k → FTs (X.blk s H scope (compEnvC scope cl C X.env) fp) ifs t) (he : ∀ (s : Shared) (H : Hp) (C : Addr) (cl : List (Str × Addr)) (fp : List Addr), Fit (X.blk s H scope (compEnvC scope cl C X.env) fp) wx0 k → FE (X.blk s H scope (compEnvC scope cl C X.env) fp) wx0 elt e) (hs : ∀ x, foldedSetIterable iter X.env x = pure x := by intro _; rfl) : FE X Wx (.ListComp elt [⟨tg, iter, ifs, 0⟩] scope pos) (eLc fi g t e (own.map (·.2))) :=
  fe_lc c.cm c.nd hi okB (fun s H C cl fp => hg s H C cl fp (c.blk s H _ _ fp)) hix (fun s H C cl fp => ht s H C cl fp (c.blk s H _ _ fp)) (fun s H C cl fp => he s H C cl fp (c.blk s H _ _ fp)) hs
theorem fe_lcNF (c : Fit X Wx k) (hi : FI X Wx tg iter fi) (okB : BlkOk X.N X.env.scope scope own) (hg : ∀ (s : Shared) (H : Hp) (C : Addr) (cl : List (Str × Addr)) (fp : List Addr), Fit (X.blk s H scope (compEnvC scope cl C X.env) fp) wx0 k → FG (X.blk s H scope (compEnvC scope cl C X.env) fp) tg g ix) (hix : ∀ i ∈ ix, i ∈ own.map (·.2)) (ht : ∀ (s : Shared) (H : Hp) (C : Addr) (cl : List (Str × Addr)) (fp : List Addr), Fit (X.blk s H scope (compEnvC scope cl C X.env) fp) wx0 k → FTs (X.blk s H scope (compEnvC scope cl C X.env) fp) ifs t) (he : ∀ (s : Shared) (H : Hp) (C : Addr) (cl : List (Str × Addr)) (fp : List Addr), Fit (X.blk s H scope (compEnvC scope cl C X.env) fp) wx0 k → FE (X.blk s H scope (compEnvC scope cl C X.env) fp) wx0 elt e) (hs : ∀ x, foldedSetIterable iter X.env x = pure x := by intro _; rfl) : FE X Wx (.ListComp elt [⟨tg, iter, ifs, 0⟩] scope pos) (eLcN fi g t e (own.map (·.2))) :=
  fe_lcN c.cm c.nd hi okB (fun s H C cl fp => hg s H C cl fp (c.blk s H _ _ fp)) hix (fun s H C cl fp => ht s H C cl fp (c.blk s H _ _ fp)) (fun s H C cl fp => he s H C cl fp (c.blk s H _ _ fp)) hs
theorem fs_setLcF (i : Nat) {y : Str} {py spos : Pos} (c : Fit X Wx k) (hi : FI X Wx tg iter fi) (okB : BlkOk X.N X.env.scope scope own) (hg : ∀ (s : Shared) (H : Hp) (C : Addr) (cl : List (Str × Addr)) (fp : List Addr), Fit (X.blk s H scope (compEnvC scope cl C X.env) fp) wx0 k → FG (X.blk s H scope (compEnvC scope cl C X.env) fp) tg g ix) (hix : ∀ i ∈ ix, i ∈ own.map (·.2)) (ht : ∀ (s : Shared) (H : Hp) (C : Addr) (cl : List (Str × Addr)) (fp : List Addr), Fit (X.blk s H scope (compEnvC scope cl C X.env) fp) wx0 k → FTs (X.blk s H scope (compEnvC scope cl C X.env) fp) ifs t) (he : ∀ (s : Shared) (H : Hp) (C : Addr) (cl : List (Str × Addr)) (fp : List Addr), Fit (X.blk s H scope (compEnvC scope cl C X.env) fp) wx0 k → FE (X.blk s H scope (compEnvC scope cl C X.env) fp) wx0 elt e) (hy : X.N[i]? = some y := by rfl) (hyl : X.env.scope.names.lookup y = some .local := by rfl) (hk : X.env.scope.kind = .function := by rfl) (hl : (py.line == pos.line) = true := by rfl) (ha : (scope.names.any fun (n, k) => n == y && (k == .local || k == .cell)) = false := by rfl) (hs : ∀ x, foldedSetIterable iter X.env x = pure x := by intro _; rfl) : FS X Wx (.Assign [.Name y py] (.ListComp elt [⟨tg, iter, ifs, 0⟩] scope pos) spos) (sSet i (eLc fi g t e (own.map (·.2)))) :=
  fs_setLc c.cm c.nd hi okB (fun s H C cl fp => hg s H C cl fp (c.blk s H _ _ fp)) hix (fun s H C cl fp => ht s H C cl fp (c.blk s H _ _ fp)) (fun s H C cl fp => he s H C cl fp (c.blk s H _ _ fp)) hy hyl hk hl ha hs
theorem fs_setLcNF (i : Nat) {y : Str} {py spos : Pos} (c : Fit X Wx k) (hi : FI X Wx tg iter fi) (okB : BlkOk X.N X.env.scope scope own) (hg : ∀ (s : Shared) (H : Hp) (C : Addr) (cl : List (Str × Addr)) (fp : List Addr), Fit (X.blk s H scope (compEnvC scope cl C X.env) fp) wx0 k → FG (X.blk s H scope (compEnvC scope cl C X.env) fp) tg g ix) (hix : ∀ i ∈ ix, i ∈ own.map (·.2)) (ht : ∀ (s : Shared) (H : Hp) (C : Addr) (cl : List (Str × Addr)) (fp : List Addr), Fit (X.blk s H scope (compEnvC scope cl C X.env) fp) wx0 k → FTs (X.blk s H scope (compEnvC scope cl C X.env) fp) ifs t) (he : ∀ (s : Shared) (H : Hp) (C : Addr) (cl : List (Str × Addr)) (fp : List Addr), Fit (X.blk s H scope (compEnvC scope cl C X.env) fp) wx0 k → FE (X.blk s H scope (compEnvC scope cl C X.env) fp) wx0 elt e) (hy : X.N[i]? = some y := by rfl) (hyl : X.env.scope.names.lookup y = some .local := by rfl) (hk : X.env.scope.kind = .function := by rfl) (hl : (py.line == pos.line) = true := by rfl) (ha : (scope.names.any fun (n, k) => n == y && (k == .local || k == .cell)) = false := by rfl) (hs : ∀ x, foldedSetIterable iter X.env x = pure x := by intro _; rfl) : FS X Wx (.Assign [.Name y py] (.ListComp elt [⟨tg, iter, ifs, 0⟩] scope pos) spos) (sSet i (eLcN fi g t e (own.map (·.2)))) :=
  fs_setLcN c.cm c.nd hi okB (fun s H C cl fp => hg s H C cl fp (c.blk s H _ _ fp)) hix (fun s H C cl fp => ht s H C cl fp (c.blk s H _ _ fp)) (fun s H C cl fp => he s H C cl fp (c.blk s H _ _ fp)) hy hyl hk hl ha hs
end
end HL
end
section
set_option Elab.async false
set_option linter.all false
set_option maxRecDepth 100000
set_option maxHeartbeats 1000000
namespace HL
open PySem PySem.Spec L2

/-! ### the Hook: all that stands in the heap -/
def frAll (g : Addr → Option Obj) : Frag := He.frG g (List.range 2000)
section
variable (fa : List He.Fa) (fn : List DefA) (pr : List (Str × Str)) (is : List Str)
def hookA : PySem.W.Hook where
  α := AlA
  obs := fun s => obsA fa fn pr is (frAll s.heap.get?)
  val := fun _ => valA fn
  says := fun _ h => ∃ K : Frag, K.In h ∧ obsA fa fn pr is K = valA fn
  of := fun _ _ e => ⟨_, He.frG_in, e⟩
  keeps := fun _ _ _ ⟨K, hK, c⟩ k => ⟨K, PySem.W.Frag.In.keeps hK k, c⟩
def obT (s : PySem.W.SharedT) : AlA := obsA fa fn pr is (frAll (HandSHeadRun.getT s))
theorem obT_eq (s : PySem.W.SharedT) : obT fa fn pr is s = (hookA fa fn pr is).obs s.abs := by
  have e : HandSHeadRun.getT s = s.abs.heap.get? := funext (HandSHeadRun.getT_eq s)
  show obsA fa fn pr is (frAll (HandSHeadRun.getT s)) = obsA fa fn pr is (frAll s.abs.heap.get?)
  rw [e]
end

/-! ### the law's call -/
/-- the script's numbers, as data -/
def cellsD (ns : List Int) : D := .scr (ns.map .int)
theorem reps_ints {K : Frag} {W : Wd} : ∀ ns : List Int, Reps K W (ns.map .int) (ns.map V.int)
  | [] => .nil
  | n :: ns => .cons (.int n) (reps_ints ns)
theorem law_callG {P : Program} {w : World} {K : Frag} {mg mb : Str → Option Value} {k : Nat} {fA cell : Addr} {fd : FuncData} {x : Str} {g : List D → Store → R D} {st : Shared} {us : List Value} {ns : List Int}
    (KX : K.In st.heap) (nsG : st.heap.Ns mainGlobals mg) (nsB : st.heap.Ns builtinsNs mb) (bB : ∀ y : Str, y ≠ "__name__" → mb y = bootBuiltins y) (nl : st.heap.NoLimit) (noG : st.gens = #[])
    (hcell : st.heap.get? cell = some { cls := .type "list", data := .seq us.toArray }) (hus : PyProof.Rows.IntsAre us ns) (hlen : ns.length ≤ sizeLine) (room : RoomG k callerA)
    (F : ∀ base : Heap, K.In base → base.Ns mainGlobals mg → FnG P w K mg base k fA fd [x] (spOf K 1 g)) (bind1 : ∀ (s : Shared) (u : Value), BindsTo s fd ⟨[u], []⟩ [(x, u)])
    (law : ∃ S, g [cellsD ns] [] = .ok (.bl true) S) :
    codeAny (model P w) callerA (.call (.ref fA) ⟨[.ref cell], []⟩) (fun r s' => r = .ok (.ret (.bool true)) ∧ OldK st.heap s'.heap ∧ s'.os = st.os ∧ PyProof.Rows.AllBare s'.gens) st := by
  have vu := vals_ints hus
  have lenU := hus.length
  obtain ⟨SF, law⟩ := law
  -- whatever of the script alone is tracked
  have go : ∀ H : Hp, Only H → SqF K H cell (ns.map V.int) → HOk P w H st.heap → (∀ b, H b ≠ none → b = cell) → (H cell ≠ none → K.lookup cell = none) →
      codeAny (model P w) callerA (.call (.ref fA) ⟨[.ref cell], []⟩) (fun r s' => r = .ok (.ret (.bool true)) ∧ OldK st.heap s'.heap ∧ s'.os = st.os ∧ PyProof.Rows.AllBare s'.gens) st := by
    intro H only hq hHOk own notK
    have toBase : ∀ {b : Addr} {ob : Obj}, st.heap.get? b = some ob → H b = none → (hidT st.heap H).get? b = some ob := fun e n => hidT_get e n
    have dictFree : ∀ {b : Addr} {ob : Obj} {es : Array DictEntry} {ep : Nat}, st.heap.get? b = some ob → ob.data = .dict es ep → H b = none := fun {b ob es ep} e d => by
      cases z : H b with
      | none => rfl
      | some u =>
        have eb : b = cell := own b (by rw [z]; simp)
        subst eb
        rw [hcell] at e
        cases e
        have d2 : Data.seq us.toArray _ = Data.dict es ep := d
        cases d2
    have nsBase : ∀ {b : Addr} {m : Str → Option Value}, st.heap.Ns b m → (hidT st.heap H).Ns b m := fun {b m} ⟨ob, es, ep, e, d, rr⟩ => ⟨ob, es, ep, toBase e (dictFree e d), d, rr⟩
    have KB : K.In (hidT st.heap H) := fun b ob e => toBase (KX b ob e) (by
      cases z : H b with
      | none => rfl
      | some u =>
        have eb : b = cell := own b (by rw [z]; simp)
        subst eb
        rw [notK (by rw [z]; simp)] at e
        cases e)
    have modB : L2.Mod K mg (hidT st.heap H) := ⟨KB, nsBase nsG, ⟨mb, nsBase nsB, bB⟩, let ⟨mc, n1, n2⟩ := nl; ⟨mc, nsBase n1, n2⟩⟩
    have env : Env0 P w K mg (hidT st.heap H) callerA [] st H := ⟨rfl, modB, fun b ob e => of_hidT e, Nat.le_of_eq (hidT_size _ _), trivial, fun b hb => absurd (show b ∈ ([] : List Addr) from hb) (by simp), hHOk, .of_eq noG⟩
    have ok : Ok K ⟨fun _ => 0, [], H, fun _ => False⟩ := ⟨fun _ z => z.elim, fun _ z => z.elim, fun i j hi => absurd hi (Nat.not_lt_zero _), fun i o hi => by simp at hi⟩
    have sp : spOf K 1 g [.ref cell] H (fun v _ => v = .bl true) (fun _ _ _ => False) := by
      refine ⟨fun _ => 0, [], fun _ => False, [cellsD ns], ok, .cons (.scr hq (reps_ints ns)) .nil, rfl, ?_⟩
      rw [law]
      intro ρ' H' _ _ v rv
      cases rv
      rfl
    refine codeAny_mono ((F _ KB (nsBase nsG)).go callerA [] st H ⟨[.ref cell], []⟩ [.ref cell] [.ref cell] _ _ room env (bind1 st (.ref cell)) (.cons rfl .nil) sp) fun r s' hres => ?_
    cases r with
    | error er => exact (no_exc hres).elim
    | ok fl =>
      cases fl with
      | next => exact hres.elim
      | brk => exact hres.elim
      | cont => exact hres.elim
      | ret u =>
        obtain ⟨v, H', osE, bareE, unE, hok', rv, hv⟩ := hres
        have hv' : v = .bl true := hv
        subst hv'
        obtain rfl : u = Value.bool true := rv
        refine ⟨rfl, OldK.of_keep fun b ob e => ?_, osE, bareE⟩
        cases z : H b with
        | none => exact unE.keep b ob e z (by intro hb; exact absurd (show b ∈ ([] : List Addr) from hb) (by simp)) (by simp)
        | some u =>
          rcases only b with hn | ⟨o2, ys, hf⟩
          · rw [z] at hn; cases hn
          · have hf2 := unE.frzs b o2 _ hf
            obtain ⟨g1, _⟩ := hHOk b _ hf
            obtain ⟨g2, _⟩ := hok' b _ hf2
            rw [e] at g1
            cases g1
            exact g2
  cases inK : K.lookup cell with
  | some ob =>
    have e := KX cell ob inK
    rw [hcell] at e
    cases e
    exact go (fun _ => none) (fun _ => .inl rfl) (.inr ⟨_, us.toArray, _, inK, rfl, rfl, rfl, by rw [List.size_toArray, lenU]; exact hlen, by simpa using vu⟩) (fun b u z => nomatch (show (none : Option HO) = some u from z)) (fun b z => absurd rfl z) fun z => absurd rfl z
  | none =>
    refine go (fun b => if b = cell then some (.frz { cls := .type "list", data := .seq us.toArray } (.lst (ns.map V.int))) else none) (fun b => ?_) (.inl ⟨{ cls := .type "list", data := .seq us.toArray }, if_pos rfl⟩) (fun b u z => ?_) (fun b z => ?_) fun _ => inK
    · by_cases eb : b = cell
      · exact .inr ⟨_, _, if_pos eb⟩
      · exact .inl (if_neg eb)
    · by_cases eb : b = cell
      · have z2 := (if_pos eb).symm.trans z
        cases z2
        subst eb
        exact ⟨hcell, by rw [List.length_map]; exact hlen, us, _, vu, hcell⟩
      · exact nomatch (if_neg eb).symm.trans z
    · by_cases eb : b = cell
      · exact eb
      · exact absurd (if_neg eb) z
/-- the goal that the head leaves -/
theorem walkG {l : PySem.W.OpenLaw} {n k : Nat} {q : Program} {loose : List Str} {XP : (Str → Option Value) → Heap → Prop} {YP : World → Heap → Prop} {d : DefRec} {x : Str} {g : List D → Store → R D}
    (hn : l.most = some n) (hn2 : n ≤ sizeLine) (hdf : d.params.defaults = []) (room : RoomG k callerA)
    (F : ∀ (w : World) (mg : Str → Option Value) (fA : Addr) (h : Heap), YP w h → h.Ns mainGlobals mg → mg d.name = some (.ref fA) →
      ∃ (K : Frag) (fd : FuncData), K.In h ∧ (∀ (s : Shared) (u : Value), BindsTo s fd ⟨[u], []⟩ [(x, u)]) ∧ ∀ base : Heap, K.In base → base.Ns mainGlobals mg → FnG l.prog w K mg base k fA fd [x] (spOf K 1 g))
    (law : ∀ ns : List Int, ns.length ≤ n → ∃ S, g [cellsD ns] [] = .ok (.bl true) S) : PySem.W.WalkO q loose XP YP l.row.toRowW d [] (fun f vs => PySem.call f vs) := by
  refine Att.attach_call hn hdf fun w s0 s1 mg mb fA o pm cd doc a vs ns G Y ho hd hcd hmg hobj hints hlen hg => ?_
  obtain ⟨K, fd, KX, hb, hF⟩ := F w mg fA _ Y G.T.g hmg
  exact law_callG KX G.T.g G.T.b G.T.builtins G.T.nolimit hg hobj hints (Nat.le_trans hlen hn2) room hF hb (law ns hlen)
end HL
end
section
set_option Elab.async false
set_option linter.all false
set_option maxRecDepth 100000
set_option maxHeartbeats 1000000
namespace HL
open PySem PySem.Spec L2

/-! ### a call by names alone -/
section
variable {X : Cx} {Wx : WX} {j k n : Nat} {f : Addr} {ps : List Str} {g : List D → Store → R D} {qual x : Str} {st : Stmt} {p pos kpos : Pos} {fk : L → Store → R (List D)} {kws : List Keyword}
def eCallK0 (n b : Nat) (ix : List Nat) (g : List D → Store → R D) (fk : L → Store → R (List D)) : L → Store → R D := fun l S => (fk l S).bind fun es S2 => if es.length = b ∧ (gIx ix es).length = n then g (gIx ix es) S2 else .bad
theorem fe_knK0 (b : Nat) (ix : List Nat) {ks : List Str} (h : Kn X.prog X.w X.K X.mg X.base qual x st f ps j n g) (c : Fit X Wx k) (hm : X.mg x = some (.ref f)) (hg : Gl X x) (hk : FK X Wx kws fk)
    (hbk : ∀ (kV doc pm : Value) (an : Option Addr) (cdv ct : Value) (ws : List Value), ws.length = b → bindArgs (PySem.W.fnOf x qual (defArgs st) (defBody st) (defScope st) .none kV doc pm an cdv ct) ⟨[], ks.zip ws⟩ = pure (ps.zip (gIx ix ws)))
    (hj : j ≤ k := by decide) (hall : (backToKw pos (keywordEach kws X.env)).all (·.1.isSome) = true := by rfl) (hks : (backToKw pos (keywordEach kws X.env)).filterMap (·.1) = ks := by rfl)
    (hdb : (x == ("__debug__" : Str)) = false := by decide)
    (hpl : ((backTo pos (starEach [] X.env)).any (·.1) || (backToKw pos (keywordEach kws X.env)).any (·.1.isNone)) = false := by rfl) : FE X Wx (.Call (.Name x p) [] kws pos) (eCallK0 n b ix g fk) := by
  obtain ⟨fd, F, G, _⟩ := h
  refine ⟨fun pins s σ H Q I ⟨ρ, S, B, l, ok, sl, h⟩ => ?_⟩
  refine wpAny_Call_Name_kw (ld_glob I hg hm ?_ hdb)
  refine PySem.W.callWith_KW0 (h₀ := X.base) I.ok.mod.kin F.kp hall (thn (hk.run pos pins s σ H (fun zs H2 => ∃ ρ2 S2 es, Ok X.K ⟨ρ2, S2, H2, B⟩ ∧ Reps X.K ⟨ρ2, S2, H2, B⟩ es zs ∧ zs.length = b ∧ (gIx ix es).length = n ∧ Post X.K Wx σ ⟨ρ2, S2, H2, B⟩ (g (gIx ix es) S2) fun W d => ∀ v, Rep X.K W d v → Q v W.H) I
    ⟨ρ, S, B, l, ok, sl, h.bind.mono fun W2 es e2 o2 ⟨_, _, h2⟩ zs rzs => ?_⟩) fun ws s2 ⟨zs, H2, I2, rz, ρ2, S2, es, o2, rr, l2, l3, q2⟩ => ⟨I2.kIn, ?_⟩) hpl
  · have eB : W2.B = B := e2.B
    obtain ⟨ρ2, S2, H2, B2⟩ := W2
    cases eB
    obtain ⟨hc, h2⟩ := Post.iff_ok h2
    exact ⟨ρ2, S2, es, o2, rzs, by rw [← rzs.length]; exact hc.1, hc.2, h2⟩
  · rw [hks]
    have r2 := gIx_vals rz ix
    have hbt : BindsTo s2 fd ⟨[], ks.zip ws⟩ (ps.zip (gIx ix ws)) := by
      obtain ⟨oc, od, dV, kV, doc, pm, an, cdv, ct, osl, rfl, lk, hcd, hD, hK⟩ := F.ex
      rcases hD with ⟨_, rfl⟩ | ⟨e, _⟩
      · exact .of_eq (hbk kV doc pm an cdv ct ws (by rw [← rz.length]; exact l2))
      · exact absurd rfl e
    refine wpAny_call (codeAny_mono (run_kn (W := ⟨ρ2, S2, H2, B⟩) G (c.rm.mono hj) c.tk hbt I2 r2 o2 (gIx_reps rr ix) l3 q2) fun r s' hq => ?_)
    cases r with
    | error e => exact hq
    | ok fl => cases fl with
      | ret u => exact hq
      | next => exact hq.elim
      | brk => exact hq.elim
      | cont => exact hq.elim
end

/-! ### min(xs), max(xs) of a list of whole numbers -/
def minI : List Int → Int
  | [] => 0
  | x :: xs => xs.foldl min x
def maxI : List Int → Int
  | [] => 0
  | x :: xs => xs.foldl max x
theorem minI_fold : ∀ (xs : List Int) (x : Int), (xs.foldl min x = x ∨ xs.foldl min x ∈ xs) ∧ xs.foldl min x ≤ x ∧ ∀ y ∈ xs, xs.foldl min x ≤ y
  | [], x => ⟨.inl rfl, Int.le_refl _, fun _ h => nomatch h⟩
  | z :: xs, x => by
    obtain ⟨a, b, c⟩ := minI_fold xs (min x z)
    rw [List.foldl_cons]
    refine ⟨?_, by omega, fun y hy => ?_⟩
    · rcases a with a | a
      · rw [a]
        by_cases h : x ≤ z
        · exact .inl (by omega)
        · exact .inr (by rw [show min x z = z by omega]; exact .head _)
      · exact .inr (.tail _ a)
    · rcases List.mem_cons.mp hy with rfl | hy
      · omega
      · exact c y hy
theorem minI_spec {xs : List Int} (h : 0 < xs.length) : minI xs ∈ xs ∧ ∀ y ∈ xs, minI xs ≤ y := by
  cases xs with
  | nil => simp at h
  | cons x xs =>
    obtain ⟨a, b, c⟩ := minI_fold xs x
    refine ⟨?_, fun y hy => ?_⟩
    · show xs.foldl min x ∈ x :: xs
      rcases a with a | a
      · rw [a]; exact .head _
      · exact .tail _ a
    · rcases List.mem_cons.mp hy with rfl | hy
      · exact b
      · exact c y hy
theorem maxI_fold : ∀ (xs : List Int) (x : Int), (xs.foldl max x = x ∨ xs.foldl max x ∈ xs) ∧ x ≤ xs.foldl max x ∧ ∀ y ∈ xs, y ≤ xs.foldl max x
  | [], x => ⟨.inl rfl, Int.le_refl _, fun _ h => nomatch h⟩
  | z :: xs, x => by
    obtain ⟨a, b, c⟩ := maxI_fold xs (max x z)
    rw [List.foldl_cons]
    refine ⟨?_, by omega, fun y hy => ?_⟩
    · rcases a with a | a
      · rw [a]
        by_cases h : z ≤ x
        · exact .inl (by omega)
        · exact .inr (by rw [show max x z = z by omega]; exact .head _)
      · exact .inr (.tail _ a)
    · rcases List.mem_cons.mp hy with rfl | hy
      · omega
      · exact c y hy
theorem maxI_spec {xs : List Int} (h : 0 < xs.length) : maxI xs ∈ xs ∧ ∀ y ∈ xs, y ≤ maxI xs := by
  cases xs with
  | nil => simp at h
  | cons x xs =>
    obtain ⟨a, b, c⟩ := maxI_fold xs x
    refine ⟨?_, fun y hy => ?_⟩
    · show xs.foldl max x ∈ x :: xs
      rcases a with a | a
      · rw [a]; exact .head _
      · exact .tail _ a
    · rcases List.mem_cons.mp hy with rfl | hy
      · exact b
      · exact c y hy
def pMinL (ds : List D) (S : Store) : Option D := match ds with
  | [d] => ((seqL d S).bind intsD).bind fun ns => if 0 < ns.length then some (.int (minI ns)) else none
  | _ => none
def pMaxL (ds : List D) (S : Store) : Option D := match ds with
  | [d] => ((seqL d S).bind intsD).bind fun ns => if 0 < ns.length then some (.int (maxI ns)) else none
  | _ => none
section
variable {X : Cx}
theorem call_pMinL (hc : X.calm = true) : CallD X (.builtin "min") pMinL := by
  intro pins s σ H xs us Q I r ⟨ρ, S, B, ds, e, ok, rd, hp, k⟩
  unfold pMinL at hp
  split at hp
  · obtain ⟨ns, h1, hp⟩ := Option.bind_eq_some_iff.mp hp
    obtain ⟨ys, h2, h4⟩ := Option.bind_eq_some_iff.mp h1
    split at hp
    · rename_i hn
      cases hp
      obtain ⟨v, rfl, h⟩ := rd.one
      obtain ⟨a, vs, rfl, h3, q⟩ := seqL_ok ok h h2
      rw [ints_ok q h4] at h3
      obtain ⟨m1, m2⟩ := minI_spec hn
      refine cr_min hc pins s σ H _ us Q I r ⟨a, ns, rfl, h3, hn, fun m a1 a2 => ?_⟩
      have := m2 m a1
      have := a2 _ m1
      rw [show m = minI ns by omega]
      exact k _ _ (Same.refl H) (.int _)
    · cases hp
  · cases hp
theorem call_pMaxL (hc : X.calm = true) : CallD X (.builtin "max") pMaxL := by
  intro pins s σ H xs us Q I r ⟨ρ, S, B, ds, e, ok, rd, hp, k⟩
  unfold pMaxL at hp
  split at hp
  · obtain ⟨ns, h1, hp⟩ := Option.bind_eq_some_iff.mp hp
    obtain ⟨ys, h2, h4⟩ := Option.bind_eq_some_iff.mp h1
    split at hp
    · rename_i hn
      cases hp
      obtain ⟨v, rfl, h⟩ := rd.one
      obtain ⟨a, vs, rfl, h3, q⟩ := seqL_ok ok h h2
      rw [ints_ok q h4] at h3
      obtain ⟨m1, m2⟩ := maxI_spec hn
      refine cr_max hc pins s σ H _ us Q I r ⟨a, ns, rfl, h3, hn, fun m a1 a2 => ?_⟩
      have := m2 m a1
      have := a2 _ m1
      rw [show m = maxI ns by omega]
      exact k _ _ (Same.refl H) (.int _)
    · cases hp
  · cases hp
end

/-! ### xs[::-1] of a list -/
def mRev (f : L → Store → R D) : L → Store → R D := fun l S => (f l S).bind fun d S1 => ofO ((seqL d S1).map fun xs => D.lst xs.reverse) S1
theorem Reps.reverse {K : Frag} {W : Wd} : ∀ {ds : List D} {vs : List V}, Reps K W ds vs → Reps K W ds.reverse vs.reverse
  | _, _, .nil => .nil
  | _, _, .cons h r => by
    rw [List.reverse_cons, List.reverse_cons]
    exact (Reps.reverse r).append (.cons h .nil)
theorem fe_rev {X : Cx} {Wx : WX} {e : Expr} {f : L → Store → R D} {k : Nat} {p1 p2 p3 pos : Pos} (he : FE X Wx e f) : FE X Wx (.Subscript e (.Slice none none (some (.UnaryOp .USub (.Constant (.int 1) k p1) p2)) p3) pos) (mRev f) :=
  (pe_revL he).imp fun σ H Q ⟨ρ, S, B, l, ok, sl, h⟩ => ⟨ρ, S, B, l, ok, sl, h.bind.mono fun W1 d e1 o1 ⟨_, _, h1⟩ v rv => by
    cases q : seqL d W1.S with
    | none => rw [q] at h1; exact h1.elim
    | some xs =>
      rw [q] at h1
      obtain ⟨a, vs, rfl, h3, rs⟩ := seqL_ok o1 rv q
      refine ⟨a, vs, rfl, h3, fun p hp => ?_⟩
      have h1 : Post X.K Wx σ W1 (.ok (D.lst xs.reverse) W1.S) _ := h1
      exact Post.new o1 hp h1 fun W' e n nb x => .lst ⟨by rw [e]; exact upd_same, n, nb⟩ (rs.reverse.ext x o1)⟩

/-! ### list(xs) that may change -/
def eListN (f : L → Store → R D) : L → Store → R D := fun l S => (f l S).bind fun d S1 => match seqD d S1 with
  | some ys => R.ok (D.loc S1.length) (S1 ++ [Ob.lst ys])
  | none => .bad
theorem fe_listN {X : Cx} {Wx : WX} {e : Expr} {f : L → Store → R D} {p pos : Pos} (hm : X.mg "list" = none) (hg : Gl X "list") (he : FE X Wx e f)
    (hs : starEach [e] X.env = (false, eval e X.env) :: starEach [] X.env := by rfl) (hpl : (backTo pos (starEach [] X.env)).any (·.1) = false := by rfl) : FE X Wx (.Call (.Name "list" p) [e] [] pos) (eListN f) := by
  refine (pe_callTy call_list_of hg hm (by decide +kernel) (fa_cons he fa_nil hs) (by decide) (by decide) hs hpl).imp fun σ H Q ⟨ρ, S, B, l, ok, sl, h⟩ => ?_
  have h' : Post X.K Wx σ ⟨ρ, S, H, B⟩ ((f l S).bind fun d S1 => match seqD d S1 with
    | some ys => R.ok (D.loc S1.length) (S1 ++ [Ob.lst ys])
    | none => .bad) _ := h
  refine ⟨ρ, S, B, l, ok, sl, ?_⟩
  have ha : aCons f aNil l S = (f l S).bind fun d S1 => .ok [d] S1 := rfl
  rw [ha]
  cases hf : f l S with
  | bad => rw [hf] at h'; exact h'
  | exc x S1 => rw [hf] at h'; exact h'
  | ok d S1 =>
    rw [hf] at h'
    intro ρ1 H1 e1 o1 us rus
    have h1 : Post X.K Wx σ ⟨ρ, S, H, B⟩ (match seqD d S1 with
      | some ys => R.ok (D.loc S1.length) (S1 ++ [Ob.lst ys])
      | none => .bad) _ := h'
    obtain ⟨v, rfl, rv⟩ := rus.one
    cases q : seqD d S1 with
    | none => rw [q] at h1; exact h1.elim
    | some ys =>
      rw [q] at h1
      obtain ⟨a, vs, rfl, h3, rs⟩ := seqD_ok (W := ⟨ρ1, S1, H1, B⟩) o1 rv q
      refine ⟨a, vs, rfl, h3, fun p hp => ?_⟩
      obtain ⟨x, o2⟩ := alloc_ok (W := ⟨ρ1, S1, H1, B⟩) (p := p) (u := .lst vs) (o := .lst ys) o1 hp fun W' e x => ⟨vs, e, rs.ext x o1⟩
      refine h1 _ _ (e1.trans x) o2 _ ?_
      have q : Rep X.K _ (.loc S1.length) (.ref ((⟨fun i => if i = S1.length then p else ρ1 i, S1 ++ [.lst ys], upd H1 p (.lst vs), B⟩ : Wd).ρ S1.length)) := Rep.loc (K := X.K) (W := ⟨fun i => if i = S1.length then p else ρ1 i, S1 ++ [.lst ys], upd H1 p (.lst vs), B⟩) (n := S1.length) (by simp)
      simpa using q
/-! ### -1 -/
theorem fe_neg {X : Cx} {Wx : WX} {i : Int} {k : Nat} {p1 pos : Pos} : FE X Wx (.UnaryOp .USub (.Constant (.int i) k p1) pos) (eCon (.int (-i))) :=
  (pe_un un_neg pe_int).imp fun σ H Q ⟨ρ, S, B, l, ok, sl, h⟩ => ⟨i, rfl, Post.ok_of (W := ⟨ρ, S, H, B⟩) ok h _ (.int _)⟩
end HL
end
section
set_option Elab.async false
set_option linter.all false
set_option maxRecDepth 100000
set_option maxHeartbeats 1000000
namespace HL
open PySem PySem.Spec L2
section
variable {X : Cx} {Wx : WX} {es : List Expr} {t : TA} {pos : Pos}
def tTupN (t : TA) : TE := fun σ H Q => t σ H fun xs H1 => xs.length ≤ sizeLine ∧ ∀ p o, H1 p = none → o.dict = none → Q (.ref p) (upd H1 p (.frz o (.tup xs)))
theorem pe_tupN {x1} (h : PA X es t) : PE X (.Tuple es x1 pos) (tTupN t) := by
  refine ⟨fun pins s σ H Q I hq => ?_⟩
  refine wpAny_Tuple_spliced (thn (h.run pos pins s σ H _ I hq) fun us s1 ⟨xs, H1, I1, r, z, q⟩ => ⟨by rw [← r.length]; exact z, ?_⟩)
  have hf : H1 s1.heap.objs.size = none := I1.hok.fresh (Nat.le_refl _)
  refine ⟨.ref s1.heap.objs.size, upd H1 s1.heap.objs.size (.frz { cls := .type "tuple", data := .seq us.toArray } (.tup xs)), I1.laid (t' := s1.toks) (fun b u e => Heap.get?_push_of_some _ e) (Nat.le_refl _) ?_, rfl, q _ _ hf rfl⟩
  exact ⟨Heap.get?_push_size _ rfl, show ObjOk X.prog X.w _ _ _ (.tup xs) from ⟨z, us, r, PyProof.Rows.IsTup.new _ _⟩⟩
def eTupN (g : L → Store → R (List D)) : L → Store → R D := fun l S => (g l S).bind fun ds S1 => if ds.length ≤ sizeLine then .ok (.tpn ds) S1 else .bad
theorem fe_tupN {g : L → Store → R (List D)} {x1} (h : FA X Wx es g) : FE X Wx (.Tuple es x1 pos) (eTupN g) :=
  (pe_tupN h).imp fun σ H Q ⟨ρ, S, B, l, ok, sl, h⟩ => ⟨ρ, S, B, l, ok, sl, h.bind.mono fun W1 ds e1 o1 ⟨_, _, h1⟩ vs rvs => by
    obtain ⟨hc, h1⟩ := Post.iff_ok h1
    exact ⟨by rw [← rvs.length]; exact hc, fun p o hp hd => Post.new o1 hp h1 fun W' e n nb x => .tpn ⟨o, by rw [e]; exact upd_same, hd⟩ (rvs.ext x o1)⟩⟩
end
end HL
end
section
set_option Elab.async false
set_option linter.all false
set_option maxRecDepth 100000
set_option maxHeartbeats 1000000
namespace HL
open PySem PySem.Spec L2
section
open PyProof.Rows
variable {prog : Program} {w : World} {A : Around} {E : Value → Shared → Prop} {s : Shared}
theorem sliceApplied_back {sl : Addr} {vs : Value} {n : Nat} {Q : Int × Int × Nat → Shared → Prop} (hs : s.heap.IsSliceOf sl .none .none vs) (ps : IsPart vs (some (-1)))
    (h : Q ((n : Int) - 1, -1, n) s) : wpAny (model prog w) A (Builtin.Slice.sliceApplied (.ref sl) (pure (n : Int))) Q E s := by
  obtain ⟨os, hos, hcs, hds⟩ := id hs
  unfold Builtin.Slice.sliceApplied Builtin.Slice.sliceFields
  refine wpAny_bind (wpAny_bind (wpAny_field hos hds (x := .none) rfl (wpAny_bind (wpAny_field hos hds (x := .none) rfl (wpAny_bind (wpAny_field hos hds (x := vs) rfl (wpAny_pure ?_)))))))
  refine wpAny_bind (HT.slicePart_ ps ?_)
  show wpAny _ _ (if ((-1 : Int) == 0) = true then _ else _) _ _ s
  rw [if_neg (by decide)]
  refine wpAny_bind (slicePart_none (wpAny_bind (slicePart_none (wpAny_bind (wpAny_pure ?_)))))
  show wpAny _ _ (match Builtin.Slice.sliceAdjust none none (-1) (n : Int) with | (lo, hi) => pure (lo, (-1 : Int), Builtin.Slice.slicePlaces lo hi (-1))) _ _ s
  have e : Builtin.Slice.sliceAdjust none none (-1) (n : Int) = ((n : Int) - 1, -1) := rfl
  rw [e]
  show wpAny _ _ (pure (((n : Int) - 1), (-1 : Int), Builtin.Slice.slicePlaces ((n : Int) - 1) (-1) (-1))) _ _ s
  have e2 : Builtin.Slice.slicePlaces ((n : Int) - 1) (-1) (-1) = n := by
    unfold Builtin.Slice.slicePlaces
    rw [if_neg (by omega)]
    have e3 : ((n : Int) - 1 - -1 - 1) / - -1 = (n : Int) - 1 := by
      show ((n : Int) - 1 - -1 - 1) / 1 = _
      rw [Int.ediv_one]
      omega
    rw [e3]
    split <;> omega
  rw [e2]
  exact wpAny_pure h
theorem pick_back (xs : Array Value) : ((List.range xs.size).filterMap fun (m : Nat) => xs[((xs.size : Int) - 1 + (m : Int) * (-1)).toNat]?).toArray = xs.toList.reverse.toArray := by
  have := PySem.W.krv_pick xs
  rw [← this]
  unfold slicePick
  rw [PySem.W.krv_bounds]
  dsimp only
  rw [PySem.W.krv_sliceRange, List.filterMap_map]
  congr 2
  funext m
  have : ((xs.size : Int) - 1 + (m : Int) * (-1)).toNat = xs.size - 1 - m := by omega
  rw [this]
  rfl
theorem getItem_tuple_back {t sl : Addr} {items : Array Value} {vs : Value} {Q : Value → Shared → Prop} (ht : IsTup s.heap t items) (hs : s.heap.IsSliceOf sl .none .none vs) (ps : IsPart vs (some (-1)))
    (h : Q (.ref s.heap.objs.size) { s with heap := s.heap.push { cls := .type "tuple", data := .seq items.toList.reverse.toArray } })
    (hsz : items.size ≤ sizeLine) : wpAny (model prog w) A (getItem (.ref t) (.ref sl)) Q E s := by
  have htake : sizeOk (.seq items.toList.reverse.toArray) := by
    show items.toList.reverse.toArray.size ≤ sizeLine
    rw [List.size_toArray, List.length_reverse, Array.length_toList]
    exact hsz
  obtain ⟨os, hos, hcs, hds⟩ := id hs
  have hTs : s.TypeIs (.ref sl) "slice" := ⟨os, hos, hcs⟩
  unfold getItem
  try with_reducible refine wpAny_holding ?_
  first | refine wpAny_bind (wpAny_pure ?_) | skip
  refine wpAny_bind (wpAny_sequenceKey ht.typeIs (by decide) ?_)
  refine wpAny_bind (wpAny_callSpecial?_slot (name := Str.ofString "__getitem__") ht.typeIs PyProof.Rows.slot_tuple_getitem
    (wpAny_call_entry PyProof.Rows.slot_tuple_getitem ht.typeIs entry_tuple_getitem ?_ (args_tuple_getitem _ _)))
  show wpAny _ _ (Builtin.Tuple.tupleItemsOf (.ref t) >>= _) _ _ s
  refine wpAny_bind (tupleItemsOf_ ht ?_)
  refine wpAny_bind (wpAny_typeOf hTs ?_)
  rw [if_pos (by decide)]
  refine wpAny_bind (sliceApplied_back hs ps ?_)
  have hno : ¬ ((((items.size : Int) - 1) == 0 && (-1 : Int) == 1 && items.size == items.size) = true) := by
    intro q
    rw [Bool.and_eq_true, Bool.and_eq_true] at q
    have q1 : (-1 : Int) = 1 := eq_of_beq q.1.2
    omega
  show wpAny _ _ (if (((items.size : Int) - 1) == 0 && (-1 : Int) == 1 && items.size == items.size) = true then _ else _) _ _ s
  rw [if_neg hno, pick_back]
  first
    | exact wpAny_bind (m := Builtin.Tuple.tupleExact _) (wpAny_newObj_type (wpAny_pure ⟨_, rfl, wpAny_pure h⟩) htake)
    | exact wpAny_bind (m := Builtin.Tuple.tupleExact _) (wpAny_newObj_type (wpAny_bind (wpAny_pure (wpAny_pure ⟨_, rfl, wpAny_pure h⟩))) htake)
    | exact wpAny_bind (wpAny_bind (m := Builtin.Tuple.tupleExact _) (wpAny_newObj_type (wpAny_pure (wpAny_pure ⟨_, rfl, wpAny_pure h⟩)) htake))
    | exact wpAny_bind (wpAny_bind (m := Builtin.Tuple.tupleExact _) (wpAny_newObj_type (wpAny_pure ⟨_, rfl, wpAny_pure h⟩) htake))
end
section
variable {X : Cx} {Wx : WX}
def tRevT (K : PySem.W.Frag) (te : TE) : TE := fun σ H Q => te σ H fun x H1 => ∃ a xs, x = .ref a ∧ SqT K H1 a xs ∧ ∀ p o, H1 p = none → o.dict = none → Q (.ref p) (upd H1 p (.frz o (.tup xs.reverse)))
open PyProof.Rows in
theorem pe_revT {e : Expr} {te : TE} {k : Nat} {p1 p2 p3 pos : Pos} (he : PE X e te) : PE X (.Subscript e (.Slice none none (some (.UnaryOp .USub (.Constant (.int 1) k p1) p2)) p3) pos) (tRevT X.K te) := by
  refine ⟨fun pins s σ H Q I h => ?_⟩
  refine Subscript_ (thn (he.run pins s σ H _ I h) fun v s1 ⟨x, H1, I1, r1, q1⟩ => ?_)
  obtain ⟨a, xs, ex, hx, q⟩ := q1
  subst ex
  cases r1
  have hst : PO X (some (.UnaryOp .USub (.Constant (.int 1) k p1) p2)) (tPart (tUn (rU fun i => .int (-i)) (tC (.int 1)))) := po_some (pe_un un_neg pe_int)
  refine wpAny_Slice (thn (po_none.run pins s1 σ H1 (fun o H2 => o = none ∧ H2 = H1) I1 ⟨rfl, rfl⟩) fun vl s2 ⟨l, H2, I2, pl, el, e2⟩ => ?_)
  subst el e2
  refine thn (po_none.run pins s2 σ H2 (fun o H3 => o = none ∧ H3 = H2) I2 ⟨rfl, rfl⟩) fun vu s3 ⟨u, H3, I3, pu, eu, e3⟩ => ?_
  subst eu e3
  refine thn (hst.run pins s3 σ H3 (fun o H4 => o = some (-1) ∧ H4 = H3) I3 ⟨1, rfl, -1, rfl, rfl, rfl⟩) fun vs s4 ⟨o, H4, I4, ps, eo, e4⟩ => ?_
  subst eo e4
  cases pl
  cases pu
  have I5 : Inv X pins σ H4 { s4 with heap := s4.heap.push { cls := .type "slice", data := .fields #[.none, .none, vs] } } := I4.kept (t' := s4.toks) fun b ob q => Heap.get?_push_of_some _ q
  obtain ⟨its, r, ht, hz⟩ := I5.tuple hx
  have hlen := r.length
  show wpAny (model X.prog X.w) X.A (subscriptTail e (.Slice none none (some (.UnaryOp .USub (.Constant (.int 1) k p1) p2)) p3) (.ref a) (.ref s4.heap.objs.size)) (EP X pins σ Q) X.xe { s4 with heap := s4.heap.push { cls := .type "slice", data := .fields #[.none, .none, vs] } }
  refine tail_any (ops := [.ref a, .ref s4.heap.objs.size]) ht.typeIs (PyProof.Rows.slot_tuple_getitem.lookup) ?_ (by with_unfolding_all rfl)
  refine getItem_tuple_back ht (Heap.IsSliceOf.new _ .none .none vs) ps ?_ (by rw [List.size_toArray]; omega)
  have hf : H4 s4.heap.objs.size = none := I4.hok.fresh (Nat.le_refl _)
  have hf5 : H4 (s4.heap.push { cls := .type "slice", data := .fields #[.none, .none, vs] }).objs.size = none := I5.hok.fresh (Nat.le_refl _)
  rw [List.toList_toArray]
  refine ⟨.ref _, upd H4 _ (.frz { cls := .type "tuple", data := .seq its.reverse.toArray } (.tup xs.reverse)), I5.laid (t' := s4.toks) (fun b ob q => Heap.get?_push_of_some _ q) (Nat.le_refl _) ?_, rfl, q _ _ hf5 rfl⟩
  exact ⟨Heap.get?_push_size _ rfl, show ObjOk X.prog X.w _ _ _ (.tup xs.reverse) from ⟨by rw [List.length_reverse]; exact hz, its.reverse, r.reverse, PyProof.Rows.IsTup.new _ _⟩⟩
/-- t[::-1] -/
def mRevT (f : L → Store → R D) : L → Store → R D := fun l S => (f l S).bind fun d S1 => match nt d with
  | .tup xs => .ok (.tpn xs.reverse) S1
  | _ => .bad
theorem fe_revT {e : Expr} {f : L → Store → R D} {k : Nat} {p1 p2 p3 pos : Pos} (he : FE X Wx e f) : FE X Wx (.Subscript e (.Slice none none (some (.UnaryOp .USub (.Constant (.int 1) k p1) p2)) p3) pos) (mRevT f) :=
  (pe_revT he).imp fun σ H Q ⟨ρ, S, B, l, ok, sl, h⟩ => ⟨ρ, S, B, l, ok, sl, h.bind.mono fun W1 d e1 o1 ⟨_, _, h1⟩ v rv => by
    replace rv := rv.nt
    generalize nt d = d at rv h1
    cases rv with
    | tup h3 q =>
      refine ⟨_, _, rfl, h3, fun p o hp hd => ?_⟩
      exact Post.new o1 hp h1 fun W' e n nb x => .tpn ⟨o, by rw [e]; exact upd_same, hd⟩ (q.reverse.ext x o1)
    | _ => exact h1.elim⟩
/-! ### x *= e -/
def pMulI (d e : D) (_ : Store) : Option D := match d, e with
  | .int i, .int j => if CMul i j then some (.int (i * j)) else none
  | _, _ => none
theorem ip_pMul : IpD X .Mult pMulI := by
  intro pins s σ H x y v u Q I rx ry ⟨ρ, S, B, d, e, r, ok, rd, re, hp, k⟩
  unfold pMulI at hp
  split at hp
  · split at hp
    · rename_i hz
      cases hp; cases rd; cases re
      exact iop_mul pins s σ H _ _ v u Q I rx ry ⟨_, _, rfl, rfl, hz, k _ _ (Same.refl H) (.int _)⟩
    · cases hp
  · cases hp
end

/-! ### divmod by a great number -/
def pDivmodW (ds : List D) (_ : Store) : Option D := match ds with
  | [.int i, .int j] => if 0 < j ∧ j.natAbs.log2 < 9000 then some (.tup [.int (i / j), .int (i % j)]) else none
  | _ => none
theorem call_pDivmodW {X : Cx} : CallD X (.builtin "divmod") pDivmodW := by
  intro pins s σ H xs us Q I r ⟨ρ, S, B, ds, e, ok, rd, hp, k⟩
  unfold pDivmodW at hp
  split at hp
  · split at hp
    · rename_i hc
      cases hp
      obtain ⟨v, u, rfl, h, h'⟩ := rd.two
      cases h; cases h'
      refine call_divmodW pins s σ H _ us Q I r ⟨_, _, rfl, ⟨hc.1, PyProof.noPylong_of_log2 hc.2⟩, fun p hp => ?_⟩
      obtain ⟨sm, z⟩ := new_tup (B := B) ok hp (.cons (.int _) (.cons (.int _) .nil))
      exact k _ _ sm z
    · cases hp
  · cases hp

/-! ### a block, behind which what it made is frozen -/
/-- by value; what is older stays -/
def frzS (n0 : Nat) (S : Store) (d : D) : Option D := match d with
  | .loc n => if n < n0 then some (.loc n) else frz n0 S 9 (.loc n)
  | d => frz n0 S 9 d
def fzL (n0 : Nat) (S : Store) : L → Option L
  | [] => some []
  | none :: l => (fzL n0 S l).map (none :: ·)
  | some d :: l => (frzS n0 S d).bind fun d' => (fzL n0 S l).map (some d' :: ·)
open Classical in
noncomputable def bFz (f g : L → Store → Fl) : L → Store → Fl := fun l S => match f l S with
  | .nx l1 S1 => if Pres S S1 then match fzL S.length S1 l1 with
    | some l2 => g l2 (S1.take S.length)
    | none => .bad
    else .bad
  | .rt d S1 => .rt d S1
  | .bk l1 S1 => .bk l1 S1
  | .ct l1 S1 => .ct l1 S1
  | .exc e l1 S1 => .exc e l1 S1
  | .bad => .bad
section
variable {K : Frag}
theorem cut_ok {S0 S : Store} {ρ0 ρ : Nat → Addr} {H0 H : Hp} {B : Addr → Prop} (ok0 : Ok K ⟨ρ0, S0, H0, B⟩) (hp : Pres S0 S) (e : Ext ⟨ρ0, S0, H0, B⟩ ⟨ρ, S, H, B⟩) (ok : Ok K ⟨ρ, S, H, B⟩) :
    Ext ⟨ρ0, S0, H0, B⟩ ⟨ρ, S.take S0.length, H, B⟩ ∧ Ok K ⟨ρ, S.take S0.length, H, B⟩ := by
  have hlen : (S.take S0.length).length = S0.length := by rw [List.length_take]; exact Nat.min_eq_left hp.1
  have hle : ∀ {i : Nat}, i < (S.take S0.length).length → i < S.length := fun hi => Nat.lt_of_lt_of_le hi (by rw [List.length_take]; exact Nat.min_le_right _ _)
  refine ⟨⟨rfl, Nat.le_of_eq hlen.symm, e.rho, fun a u z n => ⟨(e.keep a u z n).1, fun q => (e.keep a u z n).2 (live_cut q)⟩⟩, ?_⟩
  refine ⟨ok.bl, fun a b q => ok.nb a b (live_cut q), fun i j hi hj q => ok.inj i j (hle hi) (hle hj) q, fun i o z => ?_⟩
  have hi : i < S0.length := by
    have q : i < (S.take S0.length).length := (List.getElem?_eq_some_iff.mp z).1
    rw [hlen] at q
    exact q
  have z' : S[i]? = some o := by
    have q : (S.take S0.length)[i]? = some o := z
    rw [List.getElem?_take_of_lt hi] at q
    exact q
  have w := ok.obj i o z'
  rcases hp.2 i o hi z' with same | flat
  · have w0 := ok0.obj i o same
    cases o with
    | lst xs =>
      obtain ⟨vs, e1, q1⟩ := w
      obtain ⟨ws, _, q0⟩ := w0
      exact ⟨vs, e1, Reps.back hlen q0 q1⟩
    | ins C ks xs =>
      obtain ⟨dx, vs, e1, hl, q1⟩ := w
      obtain ⟨_, ws, _, _, q0⟩ := w0
      exact ⟨dx, vs, e1, hl, Reps.back hlen q0 q1⟩
    | tab x => exact w
    | dct hs kvs =>
      obtain ⟨xs, e1, hk, q1, q2⟩ := w
      obtain ⟨ys, _, _, q3, q4⟩ := w0
      exact ⟨xs, e1, hk, Reps.back hlen q3 q1, Reps.back hlen q4 q2⟩
  · cases o with
    | lst xs =>
      obtain ⟨vs, e1, q1⟩ := w
      exact ⟨vs, e1, Reps.cut _ flat q1⟩
    | ins C ks xs =>
      obtain ⟨dx, vs, e1, hl, q1⟩ := w
      exact ⟨dx, vs, e1, hl, Reps.cut _ flat q1⟩
    | tab x => exact w
    | dct hs kvs =>
      obtain ⟨xs, e1, hk, q1, q2⟩ := w
      exact ⟨xs, e1, hk, Reps.cut _ (noLocs_keys kvs) q1, Reps.cut _ flat q2⟩
theorem frzS_ok {ρ : Nat → Addr} {S : Store} {H : Hp} {B : Addr → Prop} {n0 : Nat} (hn : n0 ≤ S.length) (ok : Ok K ⟨ρ, S, H, B⟩) {d d' : D} {v : V} (h : frzS n0 S d = some d') (r : Rep K ⟨ρ, S, H, B⟩ d v) : Rep K ⟨ρ, S.take n0, H, B⟩ d' v := by
  unfold frzS at h
  split at h
  · rename_i n
    split at h
    · rename_i hlt
      cases h
      cases r with
      | loc z => exact Rep.loc (K := K) (W := ⟨ρ, S.take n0, H, B⟩) (n := n) (by show n < (S.take n0).length; rw [List.length_take]; omega)
    · exact Rep.frz ok h r
  · exact Rep.frz ok h r
theorem fzL_ok {ρ : Nat → Addr} {S : Store} {H : Hp} {B : Addr → Prop} {n0 : Nat} (hn : n0 ≤ S.length) (ok : Ok K ⟨ρ, S, H, B⟩) : ∀ {l l' : L} {σ : L2.St}, fzL n0 S l = some l' → Sl K ⟨ρ, S, H, B⟩ σ l → Sl K ⟨ρ, S.take n0, H, B⟩ σ l'
  | [], l', σ, h, s => by
    cases h
    exact ⟨s.len, fun i d h => by simp at h⟩
  | none :: l, l', σ, h, s => by
    unfold fzL at h
    obtain ⟨l2, h2, rfl⟩ := Option.map_eq_some_iff.mp h
    cases σ with
    | nil => have := s.len; simp at this
    | cons x σ =>
      have ih := fzL_ok hn ok h2 (σ := σ) ⟨by have := s.len; simpa using this, fun i d h => s.get (i + 1) d (by simpa using h)⟩
      refine ⟨by simp [ih.len], fun i d h => ?_⟩
      cases i with
      | zero => simp at h
      | succ i => exact ih.get i d (by simpa using h)
  | some d0 :: l, l', σ, h, s => by
    unfold fzL at h
    obtain ⟨d1, h1, h⟩ := Option.bind_eq_some_iff.mp h
    obtain ⟨l2, h2, rfl⟩ := Option.map_eq_some_iff.mp h
    cases σ with
    | nil => have := s.len; simp at this
    | cons x σ =>
      have ih := fzL_ok hn ok h2 (σ := σ) ⟨by have := s.len; simpa using this, fun i d h => s.get (i + 1) d (by simpa using h)⟩
      refine ⟨by simp [ih.len], fun i d h => ?_⟩
      cases i with
      | zero =>
        simp at h
        subst h
        obtain ⟨v, a, b⟩ := s.get 0 d0 rfl
        exact ⟨v, a, frzS_ok hn ok h1 b⟩
      | succ i => exact ih.get i d (by simpa using h)
end
section
variable {X : Cx} {Wx : WX} {s1 s2 : Stmt} {rest : List Stmt} {f1 f2 g : L → Store → Fl}
open Classical in
theorem fb_fz2 (h1 : FS X Wx s1 f1) (h2 : FS X Wx s2 f2) (h3 : FB X Wx rest g) : FB X Wx (s1 :: s2 :: rest) (bFz (bSeq f1 f2) g) :=
  (pss_cons h1 (pss_cons h2 h3)).imp fun D σ H ⟨ρ, S, B, l, ok, sl, h⟩ => by
    refine ⟨ρ, S, B, l, ok, sl, ?_⟩
    unfold bFz bSeq at h
    cases q : f1 l S with
    | nx l1 S1 =>
      rw [q] at h
      refine fun ρ1 H1 σ1 e1 o1 t1 => ⟨ρ1, S1, B, l1, o1, t1, ?_⟩
      rw [Fl.andThen_nx] at h
      cases q2 : f2 l1 S1 with
      | nx l2 S2 =>
        rw [q2] at h
        dsimp only at h
        refine fun ρ2 H2 σ2 e2 o2 t2 => ?_
        obtain ⟨hp, h⟩ := PostS.iff_ok h
        cases q3 : fzL S.length S2 l2 with
        | none => rw [q3] at h; exact h.elim
        | some l3 =>
          rw [q3] at h
          have e : Ext ⟨ρ, S, H, B⟩ ⟨ρ2, S2, H2, B⟩ := e1.trans e2
          obtain ⟨e3, o3⟩ := cut_ok ok hp e o2
          exact ⟨ρ2, _, B, l3, o3, fzL_ok hp.1 o2 q3 t2, PostS.weak h e3⟩
      | rt d S' => rw [q2] at h; exact PostS.weak (r := .rt d S') h e1
      | bk l' S' => rw [q2] at h; exact PostS.weak (r := .bk l' S') h e1
      | ct l' S' => rw [q2] at h; exact PostS.weak (r := .ct l' S') h e1
      | exc x l' S' => rw [q2] at h; exact PostS.weak (r := .exc x l' S') h e1
      | bad => rw [q2] at h; exact h
    | rt d S' => rw [q] at h; exact h
    | bk l' S' => rw [q] at h; exact h
    | ct l' S' => rw [q] at h; exact h
    | exc x l' S' => rw [q] at h; exact h
    | bad => rw [q] at h; exact h
end
end HL
end
section
set_option Elab.async false
set_option linter.all false
set_option maxRecDepth 100000
set_option maxHeartbeats 1000000
namespace HL
open PySem PySem.Spec L2
def isNo : PyData → Bool
  | .none => true
  | _ => false
/-- < by what the data hold -/
def pLtD (d e : D) (_ : Store) : Option D := match toPy d, toPy e with
  | some p, some q => if PySem.W.alike p q = true ∧ isNo p = false ∧ p.depth ≤ 60 then some (.bl (PySem.W.dataLt p q)) else none
  | _, _ => none
section
variable {X : Cx}
theorem op_pLtD (hu : X.A.units + 64 < cLine) : OpD X (compareOp .Lt) pLtD := by
  intro pins s σ H x y v u Q I rx ry ⟨ρ, S, B, d, e, r, ok, rd, re, hp, k⟩
  unfold pLtD at hp
  split at hp
  · rename_i p q h1 h2
    split at hp
    · rename_i hs
      cases hp
      obtain ⟨as, ra⟩ := Dp.reads I p _ _ (rd.dp ok h1) rx
      obtain ⟨bs, rb⟩ := Dp.reads I q _ _ (re.dp ok h2) ry
      refine PySem.W.lt_data ra rb hs.1 (fun z => by have q := hs.2.1; rw [z] at q; cases q) (by have := hs.2.2; omega) ?_
      exact ⟨.bl _, _, I, rfl, k _ _ (Same.refl H) (.bl _)⟩
    · cases hp
  · cases hp
end
end HL
end
section
set_option Elab.async false
set_option linter.all false
set_option maxRecDepth 100000
set_option maxHeartbeats 1000000
namespace HL
open PySem PySem.Spec L2
section
variable {X : Cx} {Wx : WX} {k j n : Nat} {x qual : Str} {st : Stmt} {f : Addr} {ps : List Str} {g : List D → Store → R D} {C : Str} {pins : List (Addr × Obj)} {σ : L2.St} {H : Hp} {s : Shared} {Q : VK}
/-- a def called from anywhere within the expression -/
theorem call_at {A : Around} (h : Kn X.prog X.w X.K X.mg X.base qual x st f ps j n g) (rr : RoomG j A) (e0 : Env0 X.prog X.w X.K X.mg X.base A X.stack s H) (I : Inv X pins σ H s) {us : List Value} {vs : List V} (r : Vals vs us) (hsp : spOf X.K n g vs H Q (fun _ _ _ => False)) :
    wpAny (model X.prog X.w) A (call (.ref f) us) (EP X pins σ Q) X.xe s := by
  obtain ⟨fd, F, G, b⟩ := h
  have hl : us.length = ps.length := by rw [← r.length]; exact G.len _ _ _ _ hsp
  refine wpAny_call (codeAny_mono (G.go A X.stack s H ⟨us, []⟩ us vs Q (fun _ _ _ => False) rr e0 (b.to s us [] I.kIn hl) r hsp) fun r s' hq => ?_)
  cases r with
  | error er => exact (no_exc hq).elim
  | ok fl =>
    cases fl with
    | ret u => exact I.after hq
    | next => exact hq.elim
    | brk => exact hq.elim
    | cont => exact hq.elim
/-- what str(..), repr(..) of an own thing ask -/
def rOwn (K : Frag) (C : Str) (g : List D → Store → R D) : List V → Hp → VK → Prop := fun xs H Q => ∃ ρ S B d a dx fs, Ok K ⟨ρ, S, H, B⟩ ∧ xs = [.ref a] ∧ H a = some (.ins (He.ga K C) dx fs) ∧ Rep K ⟨ρ, S, H, B⟩ d (.ref a) ∧
  Post K (fun _ _ _ _ => False) [] ⟨ρ, S, H, B⟩ (g [d] S) fun W d' => ∀ v, Rep K W d' v → (∃ z, v = .str z) ∧ Q v W.H
theorem call_strO (h : Kn X.prog X.w X.K X.mg X.base qual x st f ps j 1 g) (c : RoomG (j + 2) X.A) (m : Meth X.K (He.ga X.K C) "__str__" f) : CallR X (.type "str") (rOwn X.K C g) := by
  intro pins s σ H xs us Q I r ⟨ρ, S, B, d, a, dx, fs, ok, ex, ea, rd, q⟩
  subst ex
  cases r with
  | cons r1 rn =>
    cases rn
    rename_i u
    obtain rfl : u = Value.ref a := r1
    obtain ⟨mA, O, _, _, _, _⟩ := ins_get I.hok ea
    obtain ⟨od, J, _⟩ := O.look
    refine PySem.W.kso_call (c.in1.in1.r.units0) I.kIn J m.at_ m.fn (wpAny_mono (call_at (Q := fun v H' => (∃ z, v = .str z) ∧ Q v H') h c.in1.in1 I.env0.in1.in1 I (.cons (show RelV (.ref a) (.ref a) from rfl) .nil) ⟨ρ, S, B, [d], ok, .cons rd .nil, rfl, q⟩) (fun u s' hu => ?_) fun _ _ z => z)
    obtain ⟨v, H', I', rv, ⟨z, rfl⟩, q'⟩ := hu
    obtain ⟨t, rfl⟩ := rv
    exact ⟨.str z, H', I', ⟨t, rfl⟩, q'⟩
theorem call_reprO (h : Kn X.prog X.w X.K X.mg X.base qual x st f ps j 1 g) (c : RoomG (j + 1) X.A) (m : Meth X.K (He.ga X.K C) "__repr__" f) : CallR X (.builtin "repr") (rOwn X.K C g) := by
  intro pins s σ H xs us Q I r ⟨ρ, S, B, d, a, dx, fs, ok, ex, ea, rd, q⟩
  subst ex
  cases r with
  | cons r1 rn =>
    cases rn
    rename_i u
    obtain rfl : u = Value.ref a := r1
    obtain ⟨mA, O, _, _, _, _⟩ := ins_get I.hok ea
    obtain ⟨od, J, _⟩ := O.look
    obtain ⟨mF, hF⟩ := I.fr
    refine PySem.W.repr_K (c.in1.r.units0) hF I.ok.mod.kin J m.at_ m.fn (wpAny_mono (call_at (Q := fun v H' => (∃ z, v = .str z) ∧ Q v H') h c.in1 I.env0.in1 I (.cons (show RelV (.ref a) (.ref a) from rfl) .nil) ⟨ρ, S, B, [d], ok, .cons rd .nil, rfl, q⟩) (fun u s' hu => ?_) fun _ _ z => z)
    obtain ⟨v, H', I', rv, ⟨z, rfl⟩, q'⟩ := hu
    obtain ⟨t, rfl⟩ := rv
    exact ⟨.str z, H', I', ⟨t, rfl⟩, q'⟩
/-- str(e), repr(e): e a thing of the class C with an own def g -/
def eShow (C : Str) (g : List D → Store → R D) (fo : L → Store → R D) : L → Store → R D := fun l S => (fo l S).bind fun d S1 => match insOf C d S1 with
  | some _ => (g [d] S1).noX.bind fun r S2 => match r with
    | .str z => .ok (.str z) S2
    | _ => .bad
  | none => .bad
theorem show_ok {K : Frag} {σ : L2.St} {H : Hp} {fo : L → Store → R D} {Q : VK} (h : tE K Wx (eShow C g fo) σ H Q) : tCB (rOwn K C g) (tL K Wx (aCons fo aNil)) σ H Q := by
  obtain ⟨ρ, S, B, l, ok, sl, h⟩ := h
  refine ⟨ρ, S, B, l, ok, sl, ?_⟩
  show Post _ _ _ _ ((fo l S).bind fun d S1 => (R.ok [] S1).bind fun ds S2 => .ok (d :: ds) S2) _
  have h0 : Post K Wx σ ⟨ρ, S, H, B⟩ ((fo l S).bind fun d S1 => match insOf C d S1 with
    | some _ => (g [d] S1).noX.bind fun r S2 => match r with
      | .str z => .ok (.str z) S2
      | _ => .bad
    | none => .bad) fun W d => ∀ v, Rep K W d v → Q v W.H := h
  have h2 := h0.bind
  cases q : fo l S with
  | bad => rw [q] at h2; exact h2.elim
  | exc x S1 => rw [q] at h2; exact h2
  | ok d S1 =>
    rw [q] at h2
    intro ρ1 H1 e1 o1 vs rv
    obtain ⟨_, _, h3⟩ := h2 ρ1 H1 e1 o1
    cases rv with
    | cons rd rn =>
      cases rn
      dsimp only at h3
      cases hi : insOf C d S1 with
      | none => rw [hi] at h3; exact h3.elim
      | some y =>
        rw [hi] at h3
        obtain ⟨ks, xs⟩ := y
        obtain ⟨a, dx, vs, rfl, ha, hl, rs⟩ := insOf_ok (W := ⟨ρ1, S1, H1, B⟩) o1 rd hi
        refine ⟨ρ1, S1, B, d, a, dx, _, o1, rfl, ha, rd, ?_⟩
        have h4 := Post.bind h3
        have h5 : Post K Wx σ ⟨ρ1, S1, H1, B⟩ (g [d] S1).noX fun W d' => ∀ v, Rep K W d' v → (∃ z, v = .str z) ∧ Q v W.H := h4.mono fun W2 r e2 o2 ⟨_, _, h6⟩ v rv => by
          cases r with
          | str z =>
            cases rv
            exact ⟨⟨z, rfl⟩, Post.ok_of o2 h6 _ (.str z)⟩
          | _ => exact h6.elim
        cases hg : g [d] S1 with
        | ok d' S2 => rw [hg] at h5; exact h5
        | exc x S2 => rw [hg] at h5; exact h5.elim
        | bad => rw [hg] at h5; exact h5.elim
variable {e : Expr} {fe : L → Store → R D} {p pos : Pos}
theorem fe_strO (h : Kn X.prog X.w X.K X.mg X.base qual x st f ps j 1 g) (c : Fit X Wx k) (m : Meth X.K (He.ga X.K C) "__str__" f) (hm : X.mg "str" = none) (hg : Gl X "str") (he : FA X Wx [e] (aCons fe aNil)) (hj : j + 2 ≤ k := by decide)
    (hs : starEach (e :: []) X.env = (false, eval e X.env) :: starEach [] X.env := by rfl) (hpl : (backTo pos (starEach [] X.env)).any (·.1) = false := by rfl) : FE X Wx (.Call (.Name "str" p) [e] [] pos) (eShow C g fe) :=
  (pe_callTy (call_strO h (c.rm.mono hj) m) hg hm (by decide +kernel) he (by decide) (by decide) hs hpl).imp fun σ H Q h => show_ok h
theorem fe_reprO (h : Kn X.prog X.w X.K X.mg X.base qual x st f ps j 1 g) (c : Fit X Wx k) (m : Meth X.K (He.ga X.K C) "__repr__" f) (hm : X.mg "repr" = none) (hg : Gl X "repr") (he : FA X Wx [e] (aCons fe aNil)) (hj : j + 1 ≤ k := by decide)
    (hs : starEach (e :: []) X.env = (false, eval e X.env) :: starEach [] X.env := by rfl) (hpl : (backTo pos (starEach [] X.env)).any (·.1) = false := by rfl) : FE X Wx (.Call (.Name "repr" p) [e] [] pos) (eShow C g fe) :=
  (pe_callB (call_reprO h (c.rm.mono hj) m) hg hm (by decide +kernel) he (by decide) (by decide) hs hpl).imp fun σ H Q h => show_ok h
end
end HL
end
section
set_option Elab.async false
set_option linter.all false
set_option maxRecDepth 100000
set_option maxHeartbeats 1000000
namespace PySem
namespace W
open PySem PySem.Calls PyProof.Rows Builtin
section
variable {prog : Program} {w : World} {A : Around} {E : Value → Shared → Prop} {s : Shared} {K : Frag} {x C f : Addr} {ox : Obj} {od : Option Obj} {b tb : Value}
theorem cmpNe_own {Q : Value → Shared → Prop} (hu : A.units < cLine) (hu1 : A.in1.units < cLine) (X : K.In s.heap) (I : InstAt s.heap x ox C od) (hb : Looks (model prog w) s.heap (typeOf b) tb) (hn : notFirst K C tb = true)
    (hne : findIn K (.ref C) "__ne__" = some (some (.builtin "object.__ne__"))) (hob : mroIn K C (.type "object") = some true) (hs : findIn K (.ref C) "__eq__" = some (some (.ref f))) (hf : isFn K (.ref f) = true)
    (h : wpAny (model prog w) A.in1 (call (.ref f) [.ref x, b]) (fun v s' => ∃ r, v = .bool r ∧ Q (.bool (!r)) s') E s) : wpAny (model prog w) A (richCompare .NotEq (.ref x) b) Q E s := by
  have sub : Looks (model prog w) s.heap (isInstance (.ref x) (.type "object")) true := I.type.andThen (looks_mroIn X hob)
  have body : wpAny (model prog w) A.in1 (Builtin.«object.__ne__» ⟨[.ref x, b], []⟩) (fun fin s' => ∃ r, fin = .done (.ret (.bool (!r))) ∧ Q (.bool (!r)) s') E s := by
    unfold Builtin.«object.__ne__»
    repeat (first
      | with_reducible refine wpAny_cRoomFor hu1 ?_
      | (refine wpAny_bind (m := callSpecialIfBound? (.ref x) (Str.ofString "__eq__") [b])
          (ifBound_K X I hs hf (wpAny_mono h (fun r s' hr => by
            obtain ⟨b, rfl, hq⟩ := hr
            repeat (first | exact ⟨_, rfl, hq⟩ | exact wpAny_pure ⟨_, rfl, hq⟩ | exact wpAny_truthy_bool ⟨_, rfl, hq⟩ | (refine wpAny_bind (m := truthy (.bool _)) (wpAny_truthy_bool ?_)) | wp_step)) fun _ _ e => e)))
      | wp_step)
  have one : wpAny (model prog w) A (tryCompare (.ref x) (cmpInfo .NotEq).2.1 b) (fun r s' => ∃ v, r = some v ∧ Q v s') E s := by
    unfold tryCompare
    have hc : wpAny (model prog w) A (call (.builtin "object.__ne__") [.ref x, b]) (fun v s' => ∃ r, v = .bool r ∧ Q (.bool r) s') E s :=
      wpAny_call (codeAny_call_builtin F.cmp_object.ne.plain F.cmpEntry_ne (@check_slot (model prog w) _ _ s "object.__ne__" "object" "__ne__" (.ref x) [b] [] _ F.cmpKind_ne F.cmpSplit_ne sub (F.cmpArgs_ne _ _) (wpAny_mono body (fun fin s' hq => by
        obtain ⟨r, rfl, hq⟩ := hq
        exact ⟨_, rfl, hq⟩) fun _ _ z => z)))
    have mid : wpAny (model prog w) A (callSpecialIfBound? (.ref x) "__ne__" [b]) (fun v s' => ∃ r, v = some (.bool r) ∧ Q (.bool r) s') E s := by
      simp only [callSpecialIfBound?, bindSpecialIfBound?]
      refine wpAny_holding (wpAny_bind (wpAny_bind (wpAny_bind (I.type.here ((looks_findIn X hne).here ?_)))))
      simp only [F.cmp_object.ne.bind]
      refine wpAny_bind (wpAny_askSetting (wpAny_ite ?_))
      have fin : wpAny (model prog w) A (call (.builtin "object.__ne__") ([.ref x] ++ [b]) >>= fun v => pure (some v)) (fun v s' => ∃ r, v = some (.bool r) ∧ Q (.bool r) s') E s :=
        wpAny_bind (wpAny_mono hc (fun v s' ⟨r, e, q⟩ => wpAny_pure ⟨r, by rw [e], q⟩) fun _ _ h' => h')
      split
      · exact wpAny_bind (wpAny_pure (wpAny_pure fin))
      · exact wpAny_tryCatch (wpAny_bind (wpAny_pure (wpAny_pure fin)))
    refine wpAny_bind (wpAny_mono mid (fun v s' hv => ?_) fun _ _ e => e)
    obtain ⟨r, rfl, q⟩ := hv
    exact wpAny_pure ⟨_, rfl, q⟩
  unfold richCompare
  simp only [oneThing_ref]
  refine wpAny_holding (wpAny_bind (wpAny_cRoomFor hu ?_))
  refine wpAny_bind (I.type.here (wpAny_bind (hb.here ?_)))
  split
  · rename_i q
    have e : subIn K tb (.ref C) = some false := by
      rcases Bool.or_eq_true_iff.mp hn with e | e
      · rw [beq_iff_eq.mp e] at q; simp at q
      · exact beq_iff_eq.mp e
    refine wpAny_bind ((looks_subIn X e).here ?_)
    simp only [Bool.false_eq_true, if_false]
    refine wpAny_bind (wpAny_mono one (fun r s' z => ?_) fun _ _ e => e)
    obtain ⟨v, rfl, hq⟩ := z
    exact wpAny_pure hq
  · refine wpAny_bind (wpAny_pure ?_)
    simp only [Bool.false_eq_true, if_false]
    refine wpAny_bind (wpAny_mono one (fun r s' z => ?_) fun _ _ e => e)
    obtain ⟨v, rfl, hq⟩ := z
    exact wpAny_pure hq
end
end W
end PySem
end
section
set_option Elab.async false
set_option linter.all false
set_option maxRecDepth 100000
set_option maxHeartbeats 1000000
namespace HL
open PySem PySem.Spec L2
section
variable {X : Cx} {Wx : WX} {k j n : Nat} {x qual : Str} {st : Stmt} {f : Addr} {ps : List Str} {g : List D → Store → R D} {C : Str}
/-- the other side: a thing of the same class, or of a built-in type -/
def othOk (C : Str) (e : D) (S : Store) : Bool := (tyName e S).isSome || (insOf C e S).isSome
def TyO (K : Frag) (C : Str) (H : Hp) (y : V) : Prop := (∃ T : String, TyX K H y (.type T) ∧ T ∈ ["NoneType", "bool", "int", "str", "tuple", "list", "set", "dict"]) ∨ ∃ b dy gs, y = .ref b ∧ H b = some (.ins (He.ga K C) dy gs)
theorem othOk_ok {K : Frag} {W : Wd} {e : D} {y : V} (ok : Ok K W) (r : Rep K W e y) (h : othOk C e W.S = true) : TyO K C W.H y := by
  unfold othOk at h
  cases q : tyName e W.S with
  | some T => exact .inl ⟨T, tyName_ok ok r q⟩
  | none =>
    rw [q] at h
    cases q2 : insOf C e W.S with
    | none => rw [q2] at h; cases h
    | some z =>
      obtain ⟨ks, xs⟩ := z
      obtain ⟨a, dx, vs, rfl, ha, _, _⟩ := insOf_ok ok r q2
      exact .inr ⟨a, dx, _, rfl, ha⟩
def rEqO (K : Frag) (C : Str) (g : List D → Store → R D) (neg : Bool) : R2 := fun x y H Q => ∃ ρ S B d e a dx fs, Ok K ⟨ρ, S, H, B⟩ ∧ x = .ref a ∧ H a = some (.ins (He.ga K C) dx fs) ∧ Rep K ⟨ρ, S, H, B⟩ d (.ref a) ∧ Rep K ⟨ρ, S, H, B⟩ e y ∧ TyO K C H y ∧
  Post K (fun _ _ _ _ => False) [] ⟨ρ, S, H, B⟩ (g [d, e] S) fun W r => ∀ v, Rep K W r v → ∃ b : Bool, v = .bl b ∧ Q (.bl (if neg then !b else b)) W.H
theorem sub_ty (K : Frag) (C : Addr) : ∀ T ∈ (["NoneType", "bool", "int", "str", "tuple", "list", "set", "dict"] : List String), PySem.W.subIn K (.type T) (.ref C) = some false := by
  intro T hT
  simp only [List.mem_cons, List.not_mem_nil, or_false] at hT
  rcases hT with rfl | rfl | rfl | rfl | rfl | rfl | rfl | rfl <;> rfl
theorem oth_looks {pins : List (Addr × Obj)} {σ : L2.St} {H : Hp} {s : Shared} {y : V} {u : Value} (I : Inv X pins σ H s) (ry : RelV y u) (t : TyO X.K C H y) : ∃ tb, PySem.W.Looks (model X.prog X.w) s.heap (typeOf u) tb ∧ PySem.W.notFirst X.K (He.ga X.K C) tb = true := by
  rcases t with ⟨T, h, hT⟩ | ⟨b, dy, gs, rfl, hb⟩
  · obtain ⟨P, kx, hp, _⟩ := kit_of I ry h
    refine ⟨_, kx.ty _ _ I.kIn hp, ?_⟩
    unfold PySem.W.notFirst
    rw [sub_ty X.K _ T hT]
    simp
  · obtain rfl : u = Value.ref b := ry
    obtain ⟨mA, O, _, _, _, _⟩ := ins_get I.hok hb
    obtain ⟨od, J, _⟩ := O.look
    exact ⟨_, J.type, by unfold PySem.W.notFirst; simp⟩
theorem op_eqO (h : Kn X.prog X.w X.K X.mg X.base qual x st f ps j 2 g) (c : RoomG j X.A) (m : Meth X.K (He.ga X.K C) "__eq__" f) : OpR X (compareOp .Eq) (rEqO X.K C g false) := by
  intro pins s σ H x y v u Q I rx ry ⟨ρ, S, B, d, e, a, dx, fs, ok, ex, ea, rd, re, ty, q⟩
  subst ex
  obtain rfl : v = Value.ref a := rx
  obtain ⟨mA, O, _, _, _, _⟩ := ins_get I.hok ea
  obtain ⟨od, J, _⟩ := O.look
  obtain ⟨mF, hF⟩ := I.fr
  obtain ⟨tb, hb, hn⟩ := oth_looks I ry ty
  refine PySem.W.cmp_ofEq (PySem.W.cmp_K (op := .Eq) (c.r.units0) hF I.ok.mod.kin J hb hn m.at_ m.fn (wpAny_mono (call_at (Q := fun v H' => ∃ b : Bool, v = .bl b ∧ Q (.bl b) H') h c I.env0 I (.cons (show RelV (.ref a) (.ref a) from rfl) (.cons ry .nil)) ⟨ρ, S, B, [d, e], ok, .cons rd (.cons re .nil), rfl, q⟩) (fun u s' hu => ?_) fun _ _ z => z))
  obtain ⟨v, H', I', rv, b, rfl, q'⟩ := hu
  obtain rfl : u = Value.bool b := rv
  exact ⟨.bl b, H', I', rfl, q'⟩
theorem op_neO (h : Kn X.prog X.w X.K X.mg X.base qual x st f ps j 2 g) (c : RoomG (j + 1) X.A) (m : Meth X.K (He.ga X.K C) "__eq__" f) (hne : PySem.W.findIn X.K (.ref (He.ga X.K C)) "__ne__" = some (some (.builtin "object.__ne__"))) (hob : PySem.W.mroIn X.K (He.ga X.K C) (.type "object") = some true) : OpR X (compareOp .NotEq) (rEqO X.K C g true) := by
  intro pins s σ H x y v u Q I rx ry ⟨ρ, S, B, d, e, a, dx, fs, ok, ex, ea, rd, re, ty, q⟩
  subst ex
  obtain rfl : v = Value.ref a := rx
  obtain ⟨mA, O, _, _, _, _⟩ := ins_get I.hok ea
  obtain ⟨od, J, _⟩ := O.look
  obtain ⟨tb, hb, hn⟩ := oth_looks I ry ty
  refine PySem.W.cmp_ofNotEq (PySem.W.cmpNe_own (c.r.units0) (c.in1.r.units0) I.kIn J hb hn hne hob m.at_ m.fn (wpAny_mono (call_at (Q := fun v H' => ∃ b : Bool, v = .bl b ∧ Q (.bl (!b)) H') h c.in1 I.env0.in1 I (.cons (show RelV (.ref a) (.ref a) from rfl) (.cons ry .nil)) ⟨ρ, S, B, [d, e], ok, .cons rd (.cons re .nil), rfl, q⟩) (fun u s' hu => ?_) fun _ _ z => z))
  obtain ⟨v, H', I', rv, b, rfl, q'⟩ := hu
  obtain rfl : u = Value.bool b := rv
  exact ⟨b, rfl, .bl (!b), H', I', rfl, q'⟩
def eEqO (neg : Bool) (C : Str) (g : List D → Store → R D) (f1 f2 : L → Store → R D) : L → Store → R D := fun l S => (f1 l S).bind fun d S1 => (f2 l S1).bind fun e S2 => match insOf C d S2, othOk C e S2 with
  | some _, true => (g [d, e] S2).noX.bind fun r S3 => match r with
    | .bl b => .ok (.bl (if neg then !b else b)) S3
    | _ => .bad
  | _, _ => .bad
theorem eqO_ok {neg : Bool} {σ : L2.St} {H : Hp} {f1 f2 : L → Store → R D} {Q : VK} (K : Frag) (h : tE K Wx (eEqO neg C g f1 f2) σ H Q) : tE K Wx f1 σ H fun x H1 => tE K Wx f2 σ H1 fun y H2 => rEqO K C g neg x y H2 Q := by
  obtain ⟨ρ, S, B, l, ok, sl, h⟩ := h
  refine ⟨ρ, S, B, l, ok, sl, (Post.bind h).mono fun W1 d e1 o1 ⟨_, _, h1⟩ v rv => ⟨W1.ρ, W1.S, W1.B, l, o1, sl.ext e1 ok, (Post.bind h1).mono fun W2 e e2 o2 ⟨_, _, h2⟩ u ru => ?_⟩⟩
  have rd := rv.ext e2 o1
  cases hi : insOf C d W2.S with
  | none => rw [hi] at h2; exact h2.elim
  | some y =>
    cases ho : othOk C e W2.S with
    | false => rw [hi, ho] at h2; exact h2.elim
    | true =>
      rw [hi, ho] at h2
      obtain ⟨ks, xs⟩ := y
      obtain ⟨a, dx, vs, rfl, ha, hl, rs⟩ := insOf_ok o2 rd hi
      refine ⟨W2.ρ, W2.S, W2.B, d, e, a, dx, _, o2, rfl, ha, rd, ru, othOk_ok o2 ru ho, ?_⟩
      have h5 : Post K Wx σ W2 (g [d, e] W2.S).noX fun W r => ∀ v, Rep K W r v → ∃ b : Bool, v = .bl b ∧ Q (.bl (if neg then !b else b)) W.H := (Post.bind h2).mono fun W3 r e3 o3 ⟨_, _, h6⟩ v rv => by
        cases r with
        | bl b =>
          cases rv
          exact ⟨b, rfl, Post.ok_of o3 h6 _ (.bl _)⟩
        | _ => exact h6.elim
      cases hg : g [d, e] W2.S with
      | ok d' S2 => rw [hg] at h5; exact h5
      | exc x S2 => rw [hg] at h5; exact h5.elim
      | bad => rw [hg] at h5; exact h5.elim
variable {a b : Expr} {f1 f2 : L → Store → R D} {pos : Pos}
theorem fe_eqO (h : Kn X.prog X.w X.K X.mg X.base qual x st f ps j 2 g) (c : Fit X Wx k) (m : Meth X.K (He.ga X.K C) "__eq__" f) (ha : FE X Wx a f1) (hb : FE X Wx b f2) (hj : j ≤ k := by decide) (hm : behindInMarks .Eq b = false := by rfl) : FE X Wx (.Compare a [.Eq] [b] pos) (eEqO false C g f1 f2) :=
  (pe_cmpR (op_eqO h (c.rm.mono hj) m) ha hb hm).imp fun σ H Q h => eqO_ok X.K h
theorem fe_neO (h : Kn X.prog X.w X.K X.mg X.base qual x st f ps j 2 g) (c : Fit X Wx k) (m : Meth X.K (He.ga X.K C) "__eq__" f) (hne : PySem.W.findIn X.K (.ref (He.ga X.K C)) "__ne__" = some (some (.builtin "object.__ne__")) ∧ PySem.W.mroIn X.K (He.ga X.K C) (.type "object") = some true) (ha : FE X Wx a f1) (hb : FE X Wx b f2) (hj : j + 1 ≤ k := by decide) (hm : behindInMarks .NotEq b = false := by rfl) : FE X Wx (.Compare a [.NotEq] [b] pos) (eEqO true C g f1 f2) :=
  (pe_cmpR (op_neO h (c.rm.mono hj) m hne.1 hne.2) ha hb hm).imp fun σ H Q h => eqO_ok X.K h
theorem ft_eqO (h : Kn X.prog X.w X.K X.mg X.base qual x st f ps j 2 g) (c : Fit X Wx k) (m : Meth X.K (He.ga X.K C) "__eq__" f) (ha : FE X Wx a f1) (hb : FE X Wx b f2) (hj : j ≤ k := by decide) (hm : behindInMarks .Eq b = false := by rfl) : FT X Wx (.Compare a [.Eq] [b] pos) (asB (eEqO false C g f1 f2)) :=
  (pt_cmpR (op_eqO h (c.rm.mono hj) m) ha hb hm).imp fun σ H Q h => eqO_ok X.K (asB_ok h)
theorem ft_neO (h : Kn X.prog X.w X.K X.mg X.base qual x st f ps j 2 g) (c : Fit X Wx k) (m : Meth X.K (He.ga X.K C) "__eq__" f) (hne : PySem.W.findIn X.K (.ref (He.ga X.K C)) "__ne__" = some (some (.builtin "object.__ne__")) ∧ PySem.W.mroIn X.K (He.ga X.K C) (.type "object") = some true) (ha : FE X Wx a f1) (hb : FE X Wx b f2) (hj : j + 1 ≤ k := by decide) (hm : behindInMarks .NotEq b = false := by rfl) : FT X Wx (.Compare a [.NotEq] [b] pos) (asB (eEqO true C g f1 f2)) :=
  (pt_cmpR (op_neO h (c.rm.mono hj) m hne.1 hne.2) ha hb hm).imp fun σ H Q h => eqO_ok X.K (asB_ok h)
end
end HL
end
section
set_option Elab.async false
set_option linter.all false
set_option maxRecDepth 100000
set_option maxHeartbeats 1000000
namespace PySem
namespace W
open PySem PySem.Calls PyProof.Rows Builtin PySem.Spec
section
variable {K : Frag} {C : Addr}
theorem truthy_own {prog : Program} {w : World} {A : Around} {E : Value → Shared → Prop} {s : Shared} {x : Addr} {ox : Obj} {od : Option Obj} {Q : Bool → Shared → Prop} (X : K.In s.heap) (I : InstAt s.heap x ox C od) (hs : findIn K (.ref C) "__bool__" = some none) (hl : findIn K (.ref C) "__len__" = some none)
    (h : Q true s) : wpAny (model prog w) A (truthy (.ref x)) Q E s := by
  unfold truthy
  refine wpAny_bind (m := callSpecial? (.ref x) (Str.ofString "__bool__")) (wpAny_bind (wpAny_bind (I.type.here ((looks_findIn X hs).here (wpAny_pure ?_)))))
  refine wpAny_bind (wpAny_bind (I.type.here ((looks_findIn X hl).here ?_)))
  exact wpAny_pure h
theorem meets_bool_own (hs : findIn K (.ref C) "__bool__" = some none) (hl : findIn K (.ref C) "__len__" = some none) (x : Addr) (ox : Obj) (od : Option Obj) :
    Meets (Builtin.«bool.__new__» ⟨[.type "bool", .ref x], []⟩) (fun _ R s => (K.In s.heap ∧ InstAt s.heap x ox C od) ∧ R (.ok (.ret (.bool true))) s) :=
  Meets.of_wp fun prog w A R s hh => by
    obtain ⟨⟨X, I⟩, hq⟩ := hh
    have f1 := F.conv_sub_bool
    repeat (any_goals (first | assumption | (with_reducible refine truthy_own X I hs hl ?_) | wp_step))
    all_goals first | exact ⟨_, rfl, hq⟩ | exact hq | skip
end
end W
end PySem
namespace HL
open PySem PySem.Spec L2
section
variable {X : Cx} {Wx : WX} {k j n : Nat} {x qual : Str} {st : Stmt} {f : Addr} {ps : List Str} {g : List D → Store → R D} {C : Str}
def pBoolO (C : Str) (ds : List D) (S : Store) : Option D := match ds with
  | [d] => (insOf C d S).map fun _ => .bl true
  | _ => none
theorem call_pBoolO (h : PySem.W.findIn X.K (.ref (He.ga X.K C)) "__bool__" = some none ∧ PySem.W.findIn X.K (.ref (He.ga X.K C)) "__len__" = some none) : CallD X (.type "bool") (pBoolO C) := by
  intro pins s σ H xs us Q I r ⟨ρ, S, B, ds, e, ok, rd, hp, k⟩
  unfold pBoolO at hp
  split at hp
  · rename_i d
    obtain ⟨⟨ks, zs⟩, hi, he⟩ := Option.map_eq_some_iff.mp hp
    cases he
    obtain ⟨v, rfl, hr⟩ := rd.one
    obtain ⟨a, dx, vs, rfl, ha, _, _⟩ := insOf_ok ok hr hi
    obtain ⟨u, rfl, rx⟩ := vals1 r
    obtain rfl : u = Value.ref a := rx
    obtain ⟨mA, O, _, _, _, _⟩ := ins_get I.hok ha
    obtain ⟨od, J, _⟩ := O.look
    exact call_bool_1 (PySem.W.meets_bool_own h.1 h.2 a _ _) ⟨⟨I.kIn, J⟩, rfl, ⟨.bl true, H, I, rfl, k _ _ (Same.refl H) (.bl true)⟩⟩
  · cases hp
noncomputable def eMakeK0 (tr : Bool) (C : Str) (n nb : Nat) (ix : List Nat) (g : List D → Store → R D) (fk : L → Store → R (List D)) : L → Store → R D := fun l S => (fk l S).bind fun es S1 => if es.length = nb then (if (gIx ix es).length + 1 = n then (g (.loc S1.length :: gIx ix es) (S1 ++ [.ins C [] []])).bind fun r S2 => (match r with
    | .non => fin tr S1 (.loc S1.length) S2
    | _ => .bad)
  else .bad) else .bad
variable {p pos : Pos}
theorem fe_makeK0 {tr : Bool} (nb : Nat) (ix : List Nat) {ks : List Str} {kws : List Keyword} {fk : L → Store → R (List D)} (h : Kn X.prog X.w X.K X.mg X.base qual x st (He.ma X.K (He.ga X.K C) "__init__") ps j n g) (c : Fit X Wx k) (M : Mk X.K (He.ga X.K C) (He.ma X.K (He.ga X.K C) "__init__")) (hm : X.mg C = some (.ref (He.ga X.K C))) (hg : Gl X C) (hk : FK X Wx kws fk)
    (hbk : ∀ (kV doc pm : Value) (an : Option Addr) (cdv ct : Value) (self : Value) (ws : List Value), ws.length = nb → bindArgs (PySem.W.fnOf x qual (defArgs st) (defBody st) (defScope st) .none kV doc pm an cdv ct) ⟨[self], ks.zip ws⟩ = pure (ps.zip (self :: gIx ix ws)))
    (hj : j + 1 ≤ k := by decide) (hall : (backToKw pos (keywordEach kws X.env)).all (·.1.isSome) = true := by rfl) (hks : (backToKw pos (keywordEach kws X.env)).filterMap (·.1) = ks := by rfl)
    (hdb : (C == ("__debug__" : Str)) = false := by decide)
    (hpl : ((backTo pos (starEach [] X.env)).any (·.1) || (backToKw pos (keywordEach kws X.env)).any (·.1.isNone)) = false := by rfl) : FE X Wx (.Call (.Name C p) [] kws pos) (eMakeK0 tr C n nb ix g fk) := by
  obtain ⟨fd, F, G, b⟩ := h
  refine ⟨fun pins s σ H Q I ⟨ρ, S, B, l, ok, sl, h⟩ => ?_⟩
  refine wpAny_Call_Name_kw (ld_glob I hg hm ?_ hdb)
  refine PySem.W.callWith_KW0 (h₀ := X.base) I.ok.mod.kin M.kp hall (thn (hk.run pos pins s σ H (fun zs H1 => zs.length = nb ∧ ∀ a dx, H1 a = none → H1 dx = none → dx ≠ a → spOf X.K n g (.ref a :: gIx ix zs) (upd (upd H1 dx (.own a)) a (.ins (He.ga X.K C) dx [])) (fun v H2 => v = .non ∧ Q (.ref a) H2) (WE Wx σ)) I
    ⟨ρ, S, B, l, ok, sl, h.bind.mono fun W1 ds e1 o1 ⟨_, _, h1⟩ vs rvs => ?_⟩) fun us s1 ⟨vs, H1, I1, r, lb, q⟩ => ⟨I1.kIn, ?_⟩) hpl
  · obtain ⟨hb0, h1⟩ := Post.iff_ok h1
    refine ⟨by rw [← rvs.length]; exact hb0, fun a dx ha hdx hne => ?_⟩
    obtain ⟨hc, h1⟩ := Post.iff_ok h1
    replace rvs := gIx_reps rvs ix
    obtain ⟨e2, o2⟩ := made_ok (C := C) o1 ha hdx hne
    refine ⟨_, _, _, .loc W1.S.length :: gIx ix ds, o2, .cons ?_ (rvs.ext e2 o1), hc, ?_⟩
    · have q : Rep X.K ⟨fun i => if i = W1.S.length then a else W1.ρ i, W1.S ++ [.ins C [] []], upd (upd W1.H dx (.own a)) a (.ins (He.ga X.K C) dx []), W1.B⟩ (.loc W1.S.length) (.ref ((⟨fun i => if i = W1.S.length then a else W1.ρ i, W1.S ++ [.ins C [] []], upd (upd W1.H dx (.own a)) a (.ins (He.ga X.K C) dx []), W1.B⟩ : Wd).ρ W1.S.length)) :=
        Rep.loc (K := X.K) (W := ⟨fun i => if i = W1.S.length then a else W1.ρ i, W1.S ++ [.ins C [] []], upd (upd W1.H dx (.own a)) a (.ins (He.ga X.K C) dx []), W1.B⟩) (n := W1.S.length) (by simp)
      simpa using q
    · cases hq : g (.loc W1.S.length :: gIx ix ds) (W1.S ++ [.ins C [] []]) with
      | bad => rw [hq] at h1; exact h1.elim
      | exc x S2 =>
        rw [hq] at h1
        exact fun ρ' H' cls d e3 o3 rx => h1 ρ' H' cls d (e2.trans e3) o3 rx
      | ok r S2 =>
        rw [hq] at h1
        intro ρ' H' e3 o3 v rv
        cases rv with
        | non =>
          refine ⟨rfl, fin_ok (E := WE Wx σ) o1 h1.at (e2.trans e3) o3 ?_⟩
          have hlt : W1.S.length < S2.length := by
            have := e3.len
            simp at this
            omega
          have hr : ρ' W1.S.length = a := by
            have := e3.rho W1.S.length (by simp)
            simpa using this
          rw [← hr]
          exact Rep.loc (K := X.K) (W := ⟨ρ', S2, H', W1.B⟩) hlt
        | _ => exact h1.elim
  · have I2 := Inv.made (C := He.ga X.K C) I1
    have hq := q (s1.heap.objs.size + 1) s1.heap.objs.size (I1.hok.fresh (Nat.le_succ _)) (I1.hok.fresh (Nat.le_refl _)) (Nat.ne_of_lt (Nat.lt_succ_self _))
    have r2 : Vals (V.ref (s1.heap.objs.size + 1) :: gIx ix vs) (Value.ref (s1.heap.objs.size + 1) :: gIx ix us) := .cons rfl (gIx_vals r ix)
    have hbt : BindsTo { s1 with heap := (s1.heap.push PySem.W.emptyDict).push (PySem.W.instObj (He.ga X.K C) s1.heap.objs.size) } fd ⟨[Value.ref (s1.heap.objs.size + 1)], ks.zip us⟩ (ps.zip (Value.ref (s1.heap.objs.size + 1) :: gIx ix us)) := by
      obtain ⟨oc, od, dV, kV, doc, pm, an, cdv, ct, osl, rfl, lk, hcd, hD, hK⟩ := F.ex
      rcases hD with ⟨_, rfl⟩ | ⟨e, _⟩
      · exact .of_eq (hbk kV doc pm an cdv ct _ us (by rw [← r.length]; exact lb))
      · exact absurd rfl e
    rw [hks]
    refine wpAny_call (make_map (f := He.ma X.K (He.ga X.K C) "__init__") I1.kIn M.makes M.init (beq_iff_eq.mp M.fn) (codeAny_mono (G.go _ X.stack _ _ ⟨[Value.ref (s1.heap.objs.size + 1)], ks.zip us⟩ (Value.ref (s1.heap.objs.size + 1) :: gIx ix us) _ _ (WE Wx σ) ((c.rm.mono hj).make (He.ga X.K C) [] (ks.zip us))
      (I2.env0.make (He.ga X.K C) [] (ks.zip us)) hbt r2 hq) fun r s' hq' => ?_))
    cases r with
    | error er => exact passAt c.tk σ pins _ _ er s' I2 hq'
    | ok fl =>
      cases fl with
      | ret u =>
        obtain ⟨v, H', I3, rv, ev, q3⟩ := I2.after hq'
        subst ev
        exact ⟨rv, ⟨V.ref (s1.heap.objs.size + 1), H', I3, rfl, q3⟩⟩
      | next => exact hq'.elim
      | brk => exact hq'.elim
      | cont => exact hq'.elim
end
end HL
end
section
set_option Elab.async false
set_option linter.all false
set_option maxRecDepth 100000
set_option maxHeartbeats 1000000
namespace HL
open PySem PySem.Spec L2
def repS (x : Str) (n : Nat) : Str := ⟨(List.replicate n x.cps).foldl (· ++ ·) #[]⟩
def pMulS (d e : D) (_ : Store) : Option D := match d, e with
  | .str x, .int n => if 0 ≤ n ∧ n < 1000 ∧ x.length ≤ 1000 then some (.str (repS x n.toNat)) else none
  | _, _ => none
theorem rep_one (x : Str) : repS x 1 = x := by
  unfold repS
  simp
theorem rep_len0 {x : Str} (h : x.length = 0) : ∀ n, repS x n = x := by
  intro n
  have e : x.cps = #[] := by
    have : x.cps.size = 0 := h
    exact Array.eq_empty_of_size_eq_zero this
  unfold repS
  rw [e]
  have : ∀ n, (List.replicate n (#[] : Array Nat)).foldl (· ++ ·) #[] = #[] := by
    intro n
    induction n with
    | zero => rfl
    | succ n ih => rw [List.replicate_succ, List.foldl_cons]; simpa using ih
  rw [this, ← e]
section
variable {X : Cx}
theorem op_pMulS : OpD X (binaryOp .Mult) pMulS := by
  intro pins s σ H x y v u Q I rx ry ⟨ρ, S, B, d, e, r, ok, rd, re, hp, k⟩
  unfold pMulS at hp
  split at hp
  · rename_i z n
    split at hp
    · rename_i hz
      cases hp
      cases rd
      cases re
      obtain ⟨t, rfl⟩ : ∃ t, v = .str z t := rx
      obtain ⟨w, rfl⟩ : ∃ w, u = .int n w := ry
      have hmul : z.length * n.toNat ≤ 1000 * 1000 := Nat.mul_le_mul hz.2.2 (by omega)
      have fin : ∀ (tk : Tok) (s' : Shared), (∃ tk', s' = { s with toks := tk' }) → EP X pins σ Q (.str (repS z n.toNat) tk) s' := fun tk s' ⟨tk', e⟩ => by
        subst e
        exact ⟨.str (repS z n.toNat), H, I.tok tk', ⟨tk, rfl⟩, k _ _ (Same.refl H) (.str _)⟩
      refine PySem.P.mul_str (by rw [decide_eq_false (by omega), decide_eq_false (by omega)]; rfl) (fun h1 _ => ?_) (fun _ _ => ?_) ?_
      · have : (z.length : Int) ≤ (2 ^ 63 - 1) / n := by
          rw [Int.le_ediv_iff_mul_le (by omega)]
          have h3 : (z.length : Int) * n ≤ 1000 * n := Int.mul_le_mul_of_nonneg_right (by omega) hz.1
          omega
        omega
      · show decide (z.length * n.toNat > sizeLine) = false
        rw [decide_eq_false (by rw [sizeLine_eq]; omega)]
      · by_cases c : n < 1
        · rw [if_pos c]
          have e0 : n.toNat = 0 := by omega
          refine ⟨by decide, ?_⟩
          have := fin s.toks { s with toks := s.toks + 1 } ⟨_, rfl⟩
          rw [e0] at this
          exact this
        · rw [if_neg c]
          by_cases c2 : (n == 1 || z.length == 0) = true
          · rw [if_pos c2]
            have e1 : repS z n.toNat = z := by
              rcases Bool.or_eq_true_iff.mp c2 with c3 | c3
              · have : n = 1 := beq_iff_eq.mp c3
                subst this
                exact rep_one z
              · exact rep_len0 (beq_iff_eq.mp c3) _
            have := fin t s ⟨s.toks, rfl⟩
            rw [e1] at this
            exact this
          · rw [if_neg c2]
            exact ⟨PySem.fits_reps (by show decide (z.length * n.toNat > sizeLine) = false; rw [decide_eq_false (by rw [sizeLine_eq]; omega)]), fin s.toks { s with toks := s.toks + 1 } ⟨_, rfl⟩⟩
    · cases hp
  · cases hp
end
end HL
end
section
set_option Elab.async false
set_option linter.all false
set_option maxRecDepth 100000
set_option maxHeartbeats 1000000
namespace HL
open PySem PySem.Spec L2
def lstR (d : D) (S : Store) : Option (List D) := match d with
  | .lst xs => some xs
  | .loc n => match S[n]? with
    | some (.lst xs) => some xs
    | _ => none
  | _ => none
theorem lstR_ok {K : Frag} {W : Wd} (ok : Ok K W) {d : D} {v : V} {xs : List D} (r : Rep K W d v) (e : lstR d W.S = some xs) : ∃ a vs, v = .ref a ∧ W.H a = some (HO.lst vs) ∧ Reps K W xs vs := by
  cases r with
  | lst h q =>
    cases (show some _ = some xs from e)
    exact ⟨_, _, rfl, h.1, q⟩
  | @loc n hn =>
    have e' : (match W.S[n]? with
      | some (.lst xs) => some xs
      | _ => none) = some xs := e
    cases z : W.S[n]? with
    | none => rw [z] at e'; cases e'
    | some o => cases o with
      | lst ys =>
        rw [z] at e'
        cases e'
        obtain ⟨vs, h1, h2⟩ := ok.obj n _ z
        exact ⟨_, vs, rfl, h1, h2⟩
      | ins C ks zs => rw [z] at e'; cases e'
      | tab x => rw [z] at e'; cases e'
      | dct hs kvs => rw [z] at e'; cases e'
  | _ => cases e
def pAddS (d e : D) (S : Store) : Option D := (lstR d S).bind fun xs => (lstR e S).bind fun ys => if xs.length + ys.length ≤ sizeLine then some (.lst (xs ++ ys)) else none
section
variable {X : Cx}
theorem op_pAddS : OpD X (binaryOp .Add) pAddS := by
  intro pins s σ H x y v u Q I rx ry ⟨ρ, S, B, d, e, r, ok, rd, re, hp, k⟩
  unfold pAddS at hp
  obtain ⟨xs, hx, hp⟩ := Option.bind_eq_some_iff.mp hp
  obtain ⟨ys, hy, hp⟩ := Option.bind_eq_some_iff.mp hp
  split at hp
  · rename_i hz
    cases hp
    obtain ⟨a, vs, rfl, h1, q1⟩ := lstR_ok ok rd hx
    obtain ⟨b, us, rfl, h2, q2⟩ := lstR_ok ok re hy
    refine op_cat pins s σ H _ _ _ _ Q I rx ry ⟨a, b, vs, us, rfl, rfl, h1, h2, by rw [← q1.length, ← q2.length]; exact hz, fun p hp => ?_⟩
    obtain ⟨sm, z⟩ := new_lst ok hp (q1.append q2)
    exact k _ _ sm z
  · cases hp
end
end HL
end
section
set_option Elab.async false
set_option linter.all false
set_option maxRecDepth 100000
set_option maxHeartbeats 1000000
namespace HL
open PySem PySem.Spec L2
def eUmK0 (C m : Str) (n b : Nat) (ix : List Nat) (g : List D → Store → R D) (fo : L → Store → R D) (fk : L → Store → R (List D)) : L → Store → R D := fun l S => (fo l S).bind fun d S1 => match insOf C d S1 with
  | some x => if m ∈ x.1 then .bad else (fk l S1).bind fun es S2 => if es.length = b ∧ (gIx ix es).length + 1 = n then g (d :: gIx ix es) S2 else .bad
  | none => .bad
section
variable {X : Cx} {Wx : WX} {C : Str} {j k n : Nat} {ps : List Str} {g : List D → Store → R D} {qual x m : Str} {st : Stmt} {p pos apos : Pos} {o : Expr} {fo : L → Store → R D} {fk : L → Store → R (List D)} {kws : List Keyword}
theorem fe_umK0 {pl : Sem Bool} {fA : Addr} (b : Nat) (ix : List Nat) {ks : List Str} (h : Kn X.prog X.w X.K X.mg X.base qual x st fA ps j n g) (c : Fit X Wx k) (cl : Cls X.K (He.ga X.K C)) (hm : Meth X.K (He.ga X.K C) m fA) (ho : FE X Wx o fo) (hk : FK X Wx kws fk)
    (hbk : ∀ (kV doc pm : Value) (an : Option Addr) (cdv ct : Value) (self : Value) (ws : List Value), ws.length = b → bindArgs (PySem.W.fnOf x qual (defArgs st) (defBody st) (defScope st) .none kV doc pm an cdv ct) ⟨[self], ks.zip ws⟩ = pure (ps.zip (self :: gIx ix ws)))
    (hj : j ≤ k := by decide) (hall : (backToKw pos (keywordEach kws X.env)).all (·.1.isSome) = true := by rfl) (hks : (backToKw pos (keywordEach kws X.env)).filterMap (·.1) = ks := by rfl)
    (hpl : ((backTo pos (starEach [] X.env)).any (·.1) || (backToKw pos (keywordEach kws X.env)).any (·.1.isNone)) = false := by rfl)
    (ht : eval (.Call (.Attribute o m apos) [] kws pos) X.env = (do
      let ov ← eval o X.env
      standAt apos.atName
      let (f, first) ← holding [ov] (getMethod ov m pl)
      callWith pos f first (backTo pos (starEach [] X.env)) (backToKw pos (keywordEach kws X.env))) := by rfl) : FE X Wx (.Call (.Attribute o m apos) [] kws pos) (eUmK0 C m n b ix g fo fk) := by
  obtain ⟨fd, F, G, hbb⟩ := h
  refine ⟨fun pins s σ H Q I ⟨ρ, S, B, l, ok, sl, h⟩ => ?_⟩
  refine PySem.W.methodCall_KW (pl := pl) (thn (ho.run pins s σ H (fun v H1 => ∃ a dx fs, v = .ref a ∧ H1 a = some (.ins (He.ga X.K C) dx fs) ∧ fs.lookup m = none ∧ tL X.K Wx fk σ H1 fun zs H2 => ∃ ρ2 S2 ds, Ok X.K ⟨ρ2, S2, H2, B⟩ ∧ Reps X.K ⟨ρ2, S2, H2, B⟩ ds (.ref a :: gIx ix zs) ∧ zs.length = b ∧ ds.length = n ∧ Post X.K Wx σ ⟨ρ2, S2, H2, B⟩ (g ds S2) fun W d => ∀ v, Rep X.K W d v → Q v W.H) I
    ⟨ρ, S, B, l, ok, sl, h.bind.mono fun W1 d e1 o1 ⟨_, _, h1⟩ v rv => ?_⟩) fun u s1 ⟨v, H1, I1, rx, a, dx, fs, ev, ea, hl, q⟩ => ?_) ht
  · have eB : W1.B = B := e1.B
    obtain ⟨ρ1, S1, H1, B1⟩ := W1
    cases eB
    cases hi : insOf C d S1 with
    | none => rw [hi] at h1; exact h1.elim
    | some y =>
      rw [hi] at h1
      obtain ⟨ks', xs⟩ := y
      dsimp only at h1
      by_cases hmk : m ∈ ks'
      · rw [if_pos hmk] at h1; exact h1.elim
      · rw [if_neg hmk] at h1
        obtain ⟨a, dx, fs, rfl, hA, hn⟩ := um_obj (W := ⟨ρ1, S1, H1, B1⟩) o1 rv hi hmk
        refine ⟨a, dx, fs, rfl, hA, hn, ρ1, S1, B1, l, o1, sl.ext e1 ok, h1.bind.mono fun W2 es e2 o2 ⟨_, _, h2⟩ zs rzs => ?_⟩
        have eB2 : W2.B = B1 := e2.B
        obtain ⟨ρ2, S2, H2, B2⟩ := W2
        cases eB2
        obtain ⟨hc, h2⟩ := Post.iff_ok h2
        exact ⟨ρ2, S2, d :: gIx ix es, o2, .cons (rv.ext e2 o1) (gIx_reps rzs ix), by rw [← rzs.length]; exact hc.1, hc.2, h2⟩
  · subst ev
    obtain rfl : u = Value.ref a := rx
    refine getmeth_ok I1 ea cl hm hl ?_
    refine PySem.W.callWith_KW0 (first := [.ref a]) (h₀ := X.base) I1.ok.mod.kin hm.kp hall (thn (hk.run pos pins s1 σ H1 _ I1 q) fun ws s2 ⟨zs, H2, I2, rz, ρ2, S2, ds, o2, rr, l2, l3, q2⟩ => ⟨I2.kIn, ?_⟩) hpl
    rw [hks]
    have r2 : Vals (V.ref a :: gIx ix zs) (Value.ref a :: gIx ix ws) := .cons rfl (gIx_vals rz ix)
    have hbt : BindsTo s2 fd ⟨[Value.ref a], ks.zip ws⟩ (ps.zip (Value.ref a :: gIx ix ws)) := by
      obtain ⟨oc, od, dV, kV, doc, pm, an, cdv, ct, osl, rfl, lk, hcd, hD, hK⟩ := F.ex
      rcases hD with ⟨_, rfl⟩ | ⟨e, _⟩
      · exact .of_eq (hbk kV doc pm an cdv ct _ ws (by rw [← rz.length]; exact l2))
      · exact absurd rfl e
    refine wpAny_call (codeAny_mono (run_kn (W := ⟨ρ2, S2, H2, B⟩) G (c.rm.mono hj) c.tk hbt I2 r2 o2 rr l3 q2) fun r s' hq => ?_)
    cases r with
    | error e => exact hq
    | ok fl => cases fl with
      | ret u => exact hq
      | next => exact hq.elim
      | brk => exact hq.elim
      | cont => exact hq.elim
end
/-- x.split(y), a list that may change -/
def qSplitN (d : D) (ds : List D) (S : Store) : Option (D × Store) := match d, ds with
  | .str a, [.str b] => if (b.length == 0) = false ∧ a.length + 2 ≤ sizeLine then some (.loc S.length, S ++ [.lst ((Txt.split a b).map .str)]) else none
  | _, _ => none
theorem qSplitN_some {d : D} {ds : List D} {S S' : Store} {r : D} (h : qSplitN d ds S = some (r, S')) : ∃ a b : Str, d = .str a ∧ ds = [.str b] ∧ (b.length == 0) = false ∧ a.length + 2 ≤ sizeLine ∧ r = .loc S.length ∧ S' = S ++ [.lst ((Txt.split a b).map .str)] := by
  unfold qSplitN at h
  split at h
  · split at h
    · rename_i hz
      cases h
      exact ⟨_, _, rfl, rfl, hz.1, hz.2, rfl, rfl⟩
    · cases h
  · cases h
theorem mt_qSplitN {X : Cx} : MtD X "str.split" qSplitN := fun pins s σ H x xs v us Q I rx rxs ⟨ρ, S, B, d, ds, r, S', ok, rd, rds, hp, k⟩ => by
  obtain ⟨a, b, rfl, rfl, h1, h2, rfl, rfl⟩ := qSplitN_some hp
  obtain ⟨w, rfl, rw'⟩ := rds.one
  cases rd
  cases rw'
  refine mt_split pins s σ H _ _ v us Q I rx rxs ⟨_, _, rfl, rfl, h1, h2, fun p hp => ?_⟩
  obtain ⟨x, o2⟩ := alloc_ok (W := ⟨ρ, S, H, B⟩) (p := p) (u := .lst ((Txt.split a b).map V.str)) (o := .lst ((Txt.split a b).map D.str)) ok hp fun W' e x => ⟨_, e, Reps.strs _⟩
  refine k _ _ _ x o2 ?_
  have q : Rep X.K _ (.loc S.length) (.ref ((⟨fun i => if i = S.length then p else ρ i, S ++ [.lst ((Txt.split a b).map D.str)], upd H p (.lst ((Txt.split a b).map V.str)), B⟩ : Wd).ρ S.length)) := Rep.loc (K := X.K) (W := ⟨fun i => if i = S.length then p else ρ i, S ++ [.lst ((Txt.split a b).map D.str)], upd H p (.lst ((Txt.split a b).map V.str)), B⟩) (n := S.length) (by simp)
  simpa using q
end HL
end
section
set_option Elab.async false
set_option linter.all false
set_option maxRecDepth 100000
set_option maxHeartbeats 1000000
namespace HL
open PySem PySem.Spec L2
/-- C.m(..), a classmethod -/
def eCm (C : Str) (n : Nat) (g : List D → Store → R D) (fa : L → Store → R (List D)) : L → Store → R D := fun l S => (fa l S).bind fun ds S1 => if ds.length + 1 = n then g (.cls C :: ds) S1 else .bad
def eCmK0 (C : Str) (n b : Nat) (ix : List Nat) (g : List D → Store → R D) (fk : L → Store → R (List D)) : L → Store → R D := fun l S => (fk l S).bind fun es S1 => if es.length = b ∧ (gIx ix es).length + 1 = n then g (.cls C :: gIx ix es) S1 else .bad
/-- cls(..), the class in a slot -/
noncomputable def eMakeL (i : Nat) (tr : Bool) (C : Str) (n : Nat) (g : List D → Store → R D) (fa : L → Store → R (List D)) : L → Store → R D := fun l S => match l[i]? with
  | some (some (.cls C')) => if C' = C then eMake tr C n g fa l S else .bad
  | _ => .bad
section
variable {X : Cx} {Wx : WX} {C : Str} {j k n : Nat} {ps : List Str} {g : List D → Store → R D} {qual x m : Str} {st : Stmt} {p pos apos : Pos} {e : Expr} {es : List Expr} {fa fk : L → Store → R (List D)} {kws : List Keyword}
/-- the call of a classmethod's record -/
theorem run_kcm {pins : List (Addr × Obj)} {σ : L2.St} {s : Shared} {W : Wd} {Q : VK} {fd : FuncData} {fA q Ca : Addr} {us : List Value} {kw : List (Str × Value)} {ws : List Value} {vs : List V} {ds : List D} (G : FnG X.prog X.w X.K X.mg X.base j fA fd ps (spOf X.K n g)) (hr : RoomG j X.A) (tk : Takes X Wx)
    (hb : BindsTo s fd ⟨.ref Ca :: us, kw⟩ (ps.zip ws)) (I : Inv X ((q, PySem.W.methodObj (.ref fA) (.ref Ca)) :: pins) σ W.H s) (r : Vals vs ws) (ok : Ok X.K W) (rd : Reps X.K W ds vs) (hl : ds.length = n) (h : Post X.K Wx σ W (g ds W.S) fun W d => ∀ v, Rep X.K W d v → Q v W.H) :
    wpAny (model X.prog X.w) X.A (call (.ref q) us kw) (EP X pins σ Q) X.xe s := by
  have z : wpAny (model X.prog X.w) X.A (call (.ref q) us kw) (EP X ((q, PySem.W.methodObj (.ref fA) (.ref Ca)) :: pins) σ Q) X.xe s := by
    refine wpAny_call (PySem.W.method_call (ClX.pin_at I) (codeAny_mono (run_kn (W := W) G hr tk hb I r ok rd hl h) fun r s' hq => ?_))
    cases r with
    | error e => exact hq
    | ok fl => cases fl with
      | ret u => exact hq
      | next => exact hq.elim
      | brk => exact hq.elim
      | cont => exact hq.elim
  exact thn z fun _ _ y => ClX.unpinE y
theorem fe_cm {mc : Value} {pl : Sem Bool} {fA pA : Addr} (h : Kn X.prog X.w X.K X.mg X.base qual x st fA ps j n g) (c : Fit X Wx k) (r : ClX.CRead X.K (He.ga X.K C) mc) (cm : ClX.CMet X.K (He.ga X.K C) mc m pA fA) (hm : X.mg C = some (.ref (He.ga X.K C))) (hg : Gl X C) (ha : FA X Wx (e :: es) fa) (hj : j ≤ k := by decide)
    (hdb : (C == ("__debug__" : Str)) = false := by decide) (hst : starEach (e :: es) X.env = (false, eval e X.env) :: starEach es X.env := by rfl) (hpl : (backTo pos (starEach es X.env)).any (·.1) = false := by rfl)
    (ht : eval (.Call (.Attribute (.Name C p) m apos) (e :: es) [] pos) X.env = (do
      let ov ← eval (.Name C p) X.env
      standAt apos.atName
      let (f, first) ← holding [ov] (getMethod ov m pl)
      callWith pos f first (backTo pos (starEach (e :: es) X.env)) (backToKw pos (keywordEach [] X.env))) := by rfl) : FE X Wx (.Call (.Attribute (.Name C p) m apos) (e :: es) [] pos) (eCm C n g fa) := by
  obtain ⟨fd, F, G, hb⟩ := h
  refine ⟨fun pins s σ H Q I ⟨ρ, S, B, l, ok, sl, h⟩ => ?_⟩
  refine PySem.W.methodCall_KW (pl := pl) (thn ((pe_glob (pos := p) (v := V.ref (He.ga X.K C)) hg hm rfl hdb).run pins s σ H (fun v H1 => v = .ref (He.ga X.K C) ∧ H1 = H) I ⟨rfl, rfl⟩) fun u s1 ⟨v, H1, I1, rx, ev, eH⟩ => ?_) ht
  subst ev eH
  obtain rfl : u = Value.ref (He.ga X.K C) := rx
  refine ClX.getmethcm_ok I1 r cm fun s2 I2 => ?_
  refine ClX.callwith_cm I2 (ClX.base_none I1 (Nat.le_refl _)) cm.fi (thn (ha.run pos _ s2 σ _ (fun vs H2 => ∃ ρ2 S2 ds, Ok X.K ⟨ρ2, S2, H2, B⟩ ∧ Reps X.K ⟨ρ2, S2, H2, B⟩ ds (.ref (He.ga X.K C) :: vs) ∧ ds.length = n ∧ vs.length + 1 = ps.length ∧ Post X.K Wx σ ⟨ρ2, S2, H2, B⟩ (g ds S2) fun W d => ∀ v, Rep X.K W d v → Q v W.H) I2
    ⟨ρ, S, B, l, ok, sl, h.bind.mono fun W2 es2 e2 o2 ⟨_, _, h2⟩ vs rvs => ?_⟩) fun us s3 ⟨vs, H2, I3, rv, ρ2, S2, ds, o2, rr, l3, l4, q2⟩ => ⟨⟨ClX.pin_at I3, I3.kIn⟩, ?_⟩) hst hpl
  · have eB2 : W2.B = B := e2.B
    obtain ⟨ρ2, S2, H2, B2⟩ := W2
    cases eB2
    obtain ⟨hc, h2⟩ := Post.iff_ok h2
    have rr : Reps X.K ⟨ρ2, S2, H2, B2⟩ (.cls C :: es2) (.ref (He.ga X.K C) :: vs) := .cons (.cls C) rvs
    refine ⟨ρ2, S2, .cls C :: es2, o2, rr, hc, ?_, h2⟩
    have := G.len _ _ _ _ (kn_sp (W := ⟨ρ2, S2, H2, B2⟩) o2 rr hc h2)
    simpa using this
  · have r2 : Vals (V.ref (He.ga X.K C) :: vs) (Value.ref (He.ga X.K C) :: us) := .cons rfl rv
    exact run_kcm (W := ⟨ρ2, S2, H2, B⟩) (G.mono hj) c.rm c.tk (hb.to _ (Value.ref (He.ga X.K C) :: us) [] I3.kIn (by rw [← r2.length]; exact l4)) I3 r2 o2 rr l3 q2
theorem fe_cmK0 {mc : Value} {pl : Sem Bool} {fA pA : Addr} (b : Nat) (ix : List Nat) {ks : List Str} (h : Kn X.prog X.w X.K X.mg X.base qual x st fA ps j n g) (c : Fit X Wx k) (r : ClX.CRead X.K (He.ga X.K C) mc) (cm : ClX.CMet X.K (He.ga X.K C) mc m pA fA) (hm : X.mg C = some (.ref (He.ga X.K C))) (hg : Gl X C) (hk : FK X Wx kws fk)
    (hbk : ∀ (kV doc pm : Value) (an : Option Addr) (cdv ct : Value) (self : Value) (ws : List Value), ws.length = b → bindArgs (PySem.W.fnOf x qual (defArgs st) (defBody st) (defScope st) .none kV doc pm an cdv ct) ⟨[self], ks.zip ws⟩ = pure (ps.zip (self :: gIx ix ws)))
    (hj : j ≤ k := by decide) (hdb : (C == ("__debug__" : Str)) = false := by decide) (hall : (backToKw pos (keywordEach kws X.env)).all (·.1.isSome) = true := by rfl) (hks : (backToKw pos (keywordEach kws X.env)).filterMap (·.1) = ks := by rfl)
    (hpl : ((backTo pos (starEach [] X.env)).any (·.1) || (backToKw pos (keywordEach kws X.env)).any (·.1.isNone)) = false := by rfl)
    (ht : eval (.Call (.Attribute (.Name C p) m apos) [] kws pos) X.env = (do
      let ov ← eval (.Name C p) X.env
      standAt apos.atName
      let (f, first) ← holding [ov] (getMethod ov m pl)
      callWith pos f first (backTo pos (starEach [] X.env)) (backToKw pos (keywordEach kws X.env))) := by rfl) : FE X Wx (.Call (.Attribute (.Name C p) m apos) [] kws pos) (eCmK0 C n b ix g fk) := by
  obtain ⟨fd, F, G, hbb⟩ := h
  refine ⟨fun pins s σ H Q I ⟨ρ, S, B, l, ok, sl, h⟩ => ?_⟩
  refine PySem.W.methodCall_KW (pl := pl) (thn ((pe_glob (pos := p) (v := V.ref (He.ga X.K C)) hg hm rfl hdb).run pins s σ H (fun v H1 => v = .ref (He.ga X.K C) ∧ H1 = H) I ⟨rfl, rfl⟩) fun u s1 ⟨v, H1, I1, rx, ev, eH⟩ => ?_) ht
  subst ev eH
  obtain rfl : u = Value.ref (He.ga X.K C) := rx
  refine ClX.getmethcm_ok I1 r cm fun s2 I2 => ?_
  refine PySem.W.callWith_of (P := PySem.W.MethP X.K s1.heap.objs.size fA (.ref (He.ga X.K C))) hpl (PySem.W.keeps_M cm.fi) (PyProof.Rows.evalArgs_kw2_nil hall (thn (hk.run pos _ s2 σ _ (fun zs H2 => ∃ ρ2 S2 ds, Ok X.K ⟨ρ2, S2, H2, B⟩ ∧ Reps X.K ⟨ρ2, S2, H2, B⟩ ds (.ref (He.ga X.K C) :: gIx ix zs) ∧ zs.length = b ∧ ds.length = n ∧ Post X.K Wx σ ⟨ρ2, S2, H2, B⟩ (g ds S2) fun W d => ∀ v, Rep X.K W d v → Q v W.H) I2
    ⟨ρ, S, B, l, ok, sl, h.bind.mono fun W2 es2 e2 o2 ⟨_, _, h2⟩ zs rzs => ?_⟩) fun ws s3 ⟨zs, H2, I3, rz, ρ2, S2, ds, o2, rr, l2, l3, q2⟩ => ⟨⟨ClX.pin_at I3, I3.kIn⟩, ?_⟩))
  · have eB2 : W2.B = B := e2.B
    obtain ⟨ρ2, S2, H2, B2⟩ := W2
    cases eB2
    obtain ⟨hc, h2⟩ := Post.iff_ok h2
    exact ⟨ρ2, S2, .cls C :: gIx ix es2, o2, .cons (.cls C) (gIx_reps rzs ix), by rw [← rzs.length]; exact hc.1, hc.2, h2⟩
  · have r2 : Vals (V.ref (He.ga X.K C) :: gIx ix zs) (Value.ref (He.ga X.K C) :: gIx ix ws) := .cons rfl (gIx_vals rz ix)
    have hbt : BindsTo s3 fd ⟨[Value.ref (He.ga X.K C)], ks.zip ws⟩ (ps.zip (Value.ref (He.ga X.K C) :: gIx ix ws)) := by
      obtain ⟨oc, od, dV, kV, doc, pm, an, cdv, ct, osl, rfl, lk, hcd, hD, hK⟩ := F.ex
      rcases hD with ⟨_, rfl⟩ | ⟨e, _⟩
      · exact .of_eq (hbk kV doc pm an cdv ct _ ws (by rw [← rz.length]; exact l2))
      · exact absurd rfl e
    rw [hks]
    exact run_kcm (us := []) (W := ⟨ρ2, S2, H2, B⟩) (G.mono hj) c.rm c.tk hbt I3 r2 o2 rr l3 q2
theorem fe_makeL {tr : Bool} (i : Nat) (h : Kn X.prog X.w X.K X.mg X.base qual x st (He.ma X.K (He.ga X.K C) "__init__") ps j n g) (c : Fit X Wx k) (M : Mk X.K (He.ga X.K C) (He.ma X.K (He.ga X.K C) "__init__")) (ha : FA X Wx (e :: es) fa) {y : Str} (hj : j + 1 ≤ k := by decide)
    (hN : X.N[i]? = some y := by rfl) (hv : Vis X.env.scope y := by first | exact Or.inl rfl | exact Or.inr (Or.inl rfl) | exact Or.inr (Or.inr rfl)) (hdb : (y == ("__debug__" : Str)) = false := by decide) (hcd : (y == ("__classdict__" : Str)) = false := by decide)
    (he : starEach (e :: es) X.env = (false, eval e X.env) :: starEach es X.env := by rfl) (hpl : (backTo pos (starEach es X.env)).any (·.1) = false := by rfl) : FE X Wx (.Call (.Name y p) (e :: es) [] pos) (eMakeL i tr C n g fa) := by
  obtain ⟨fd, F, G, b⟩ := h
  refine ⟨fun pins s0 σ H Q I0 ⟨ρ, S, B, l, ok, sl, h⟩ => ?_⟩
  obtain ⟨hli, h⟩ : l[i]? = some (some (.cls C)) ∧ Post X.K Wx σ ⟨ρ, S, H, B⟩ (eMake tr C n g fa l S) fun W d => ∀ v, Rep X.K W d v → Q v W.H := by
    unfold eMakeL at h
    split at h
    · rename_i C' hl
      split at h
      · rename_i e
        subst e
        exact ⟨hl, h⟩
      · exact h.elim
    · exact h.elim
  obtain ⟨v0, hs0, rv0⟩ := sl.get i _ hli
  obtain rfl : v0 = V.ref (He.ga X.K C) := by cases rv0; rfl
  refine wpAny_Call_Name_kw (thn ((pe_var (pos := p) hN hv hdb hcd).run pins s0 σ H (fun v H1 => v = .ref (He.ga X.K C) ∧ H1 = H) I0 ⟨_, hs0, rfl, rfl⟩) fun u0 s ⟨v1, H0, I, r0, q0⟩ => ?_)
  obtain ⟨e0, e1⟩ := q0
  subst e0 e1
  obtain rfl : u0 = Value.ref (He.ga X.K C) := r0
  refine PySem.W.callWith_K (h₀ := X.base) I.ok.mod.kin M.kp (thn (ha.run pos pins s σ _ (fun vs H1 => ∀ a dx, H1 a = none → H1 dx = none → dx ≠ a → spOf X.K n g (.ref a :: vs) (upd (upd H1 dx (.own a)) a (.ins (He.ga X.K C) dx [])) (fun v H2 => v = .non ∧ Q (.ref a) H2) (WE Wx σ)) I
    ⟨ρ, S, B, l, ok, sl, h.bind.mono fun W1 ds e1 o1 ⟨_, _, h1⟩ vs rvs a dx ha hdx hne => ?_⟩) fun us s1 ⟨vs, H1, I1, r, q⟩ => ⟨I1.kIn, ?_⟩) he hpl
  · obtain ⟨hc, h1⟩ := Post.iff_ok h1
    obtain ⟨e2, o2⟩ := made_ok (C := C) o1 ha hdx hne
    refine ⟨_, _, _, .loc W1.S.length :: ds, o2, .cons ?_ (rvs.ext e2 o1), hc, ?_⟩
    · have q : Rep X.K ⟨fun i => if i = W1.S.length then a else W1.ρ i, W1.S ++ [.ins C [] []], upd (upd W1.H dx (.own a)) a (.ins (He.ga X.K C) dx []), W1.B⟩ (.loc W1.S.length) (.ref ((⟨fun i => if i = W1.S.length then a else W1.ρ i, W1.S ++ [.ins C [] []], upd (upd W1.H dx (.own a)) a (.ins (He.ga X.K C) dx []), W1.B⟩ : Wd).ρ W1.S.length)) :=
        Rep.loc (K := X.K) (W := ⟨fun i => if i = W1.S.length then a else W1.ρ i, W1.S ++ [.ins C [] []], upd (upd W1.H dx (.own a)) a (.ins (He.ga X.K C) dx []), W1.B⟩) (n := W1.S.length) (by simp)
      simpa using q
    · cases hq : g (.loc W1.S.length :: ds) (W1.S ++ [.ins C [] []]) with
      | bad => rw [hq] at h1; exact h1.elim
      | exc x S2 =>
        rw [hq] at h1
        exact fun ρ' H' cls d e3 o3 rx => h1 ρ' H' cls d (e2.trans e3) o3 rx
      | ok r S2 =>
        rw [hq] at h1
        intro ρ' H' e3 o3 v rv
        cases rv with
        | non =>
          refine ⟨rfl, fin_ok (E := WE Wx σ) o1 h1.at (e2.trans e3) o3 ?_⟩
          have hlt : W1.S.length < S2.length := by
            have := e3.len
            simp at this
            omega
          have hr : ρ' W1.S.length = a := by
            have := e3.rho W1.S.length (by simp)
            simpa using this
          rw [← hr]
          exact Rep.loc (K := X.K) (W := ⟨ρ', S2, H', W1.B⟩) hlt
        | _ => exact h1.elim
  · have I2 := Inv.made (C := He.ga X.K C) I1
    have hq := q (s1.heap.objs.size + 1) s1.heap.objs.size (I1.hok.fresh (Nat.le_succ _)) (I1.hok.fresh (Nat.le_refl _)) (Nat.ne_of_lt (Nat.lt_succ_self _))
    have r2 : Vals (V.ref (s1.heap.objs.size + 1) :: vs) (Value.ref (s1.heap.objs.size + 1) :: us) := .cons rfl r
    have hl : (Value.ref (s1.heap.objs.size + 1) :: us).length = ps.length := by rw [← r2.length]; exact G.len _ _ _ _ hq
    refine wpAny_call (make_map (f := He.ma X.K (He.ga X.K C) "__init__") I1.kIn M.makes M.init (beq_iff_eq.mp M.fn) (codeAny_mono (G.go _ X.stack _ _ ⟨Value.ref (s1.heap.objs.size + 1) :: us, []⟩ (Value.ref (s1.heap.objs.size + 1) :: us) _ _ (WE Wx σ) ((c.rm.mono hj).make (He.ga X.K C) us [])
      (I2.env0.make (He.ga X.K C) us []) (b.to _ (Value.ref (s1.heap.objs.size + 1) :: us) [] I2.kIn hl) r2 hq) fun r s' hq' => ?_))
    cases r with
    | error er => exact passAt c.tk σ pins _ _ er s' I2 hq'
    | ok fl =>
      cases fl with
      | ret u =>
        obtain ⟨v, H', I3, rv, ev, q3⟩ := I2.after hq'
        subst ev
        exact ⟨rv, ⟨V.ref (s1.heap.objs.size + 1), H', I3, rfl, q3⟩⟩
      | next => exact hq'.elim
      | brk => exact hq'.elim
      | cont => exact hq'.elim
end
end HL
end
section
set_option Elab.async false
set_option linter.all false
set_option maxRecDepth 100000
set_option maxHeartbeats 1000000
namespace HL
open PySem PySem.Spec L2
open Classical in
noncomputable def cGo2 (g : Tgt) (t : L → Store → R Bool) (fi1 : L → Store → R Src) (g1 : Tgt) (t1 : L → Store → R Bool) (e : L → Store → R D) (vs1 : List Nat) (w : Hld) (l : L) : List D → Nat → Store → Option (List D × Store)
  | [], n, S => if held w S then some ([], S) else none
  | d :: ds, n, S => if held w S then match g d S with
    | none => none
    | some as => match t (setA l as) S with
      | .ok true S1 => match fi1 (setA l as) S1 with
        | .ok x S2 => match cGo g1 t1 e x.2 (wp (setA l as) vs1) x.1 n S2 with
          | some (ys, S3) => match cGo2 g t fi1 g1 t1 e vs1 w l ds (n + ys.length) S3 with
            | some (zs, S4) => some (ys ++ zs, S4)
            | none => none
          | none => none
        | _ => none
      | .ok false S1 => cGo2 g t fi1 g1 t1 e vs1 w l ds n S1
      | _ => none
    else none
noncomputable def eLc2 (fi : L → Store → R Src) (g : Tgt) (t : L → Store → R Bool) (fi1 : L → Store → R Src) (g1 : Tgt) (t1 : L → Store → R Bool) (e : L → Store → R D) (vs vs1 : List Nat) : L → Store → R D := fun l S => (fi l S).bind fun x S1 => match cGo2 g t fi1 g1 t1 e vs1 x.2 (wp l vs) x.1 0 S1 with
  | some (ds, S2) => .ok (.lst ds) S2
  | none => .bad
open Classical in
/-- the inner loop's steps -/
theorem lc_in {K : Frag} {g1 : Tgt} {ix1 vs1 : List Nat} {t1 : L → Store → R Bool} {e : L → Store → R D} {A : Addr} {W1 W5 : Wd} {ds : List D} {w : Hld} {J : It} {l1 : L} {σ2 : L2.St} {acc0 dI : List D} {SI : Store} {us0 : List V} {Nx : Hp → Prop}
    (hA : W1.H A = none) (hB5 : W5.B = plusB W1.B A) (it : ItD K W5 w ds J) (o5 : Ok K W5) (e15 : Exs W1 W5) (nl5 : ¬ Live W5 A) (hu5 : W5.H A = some (.lst us0)) (r5 : Reps K W5 acc0 us0)
    (sl : Sl K W5 (wipe σ2 vs1) l1) (hix1 : ∀ d S as, g1 d S = some as → as.map (·.1) = ix1) (hv1 : ∀ i ∈ ix1, i ∈ vs1)
    (hc : cGo g1 t1 e w l1 ds acc0.length W5.S = some (dI, SI))
    (hN : ∀ ρ H us, Exs W1 ⟨ρ, SI, H, plusB W1.B A⟩ → Ok K ⟨ρ, SI, H, plusB W1.B A⟩ → ¬ Live ⟨ρ, SI, H, plusB W1.B A⟩ A → H A = some (.lst us) → Reps K ⟨ρ, SI, H, plusB W1.B A⟩ (acc0 ++ dI) us → Nx H) :
    ∃ Wf : Nat → Nat → Hp → Prop, (∃ m, Wf 0 m W5.H) ∧ ∀ j k H, Wf j k H →
      (J.stop j H ∧ Nx H) ∨ (J.go j H ∧ ∃ Nx1 : Hp → Prop, (∀ H', Nx1 H' → ∃ k', k' < k ∧ Wf (j + 1) k' H') ∧ ∀ x H', J.yld j H x H' → tG K g1 x (wipe σ2 vs1) H' fun σ3 H5 => wipe σ3 vs1 = wipe σ2 vs1 ∧ tT K wx0 t1 σ3 H5 fun b H6 =>
        if b = true then tE K wx0 e σ3 H6 fun y H7 => ∃ acc, H7 A = some (.lst acc) ∧ acc.length < sizeLine ∧ Nx1 (upd H7 A (.lst (acc ++ [y]))) else Nx1 H6) := by
  obtain ⟨ρ5, S5, H5, B5⟩ := W5
  cases hB5
  have hwl : ∀ as : List (Nat × V), as.map (·.1) = ix1 → wipe (setA (wipe σ2 vs1) as) vs1 = wipe σ2 vs1 := fun as ha => by
    rw [wipe_wp, wipe_wp]
    exact wp_setA fun i hi => hv1 i (by rw [← ha]; exact hi)
  -- what is kept but for A
  have away : ∀ {W' : Wd}, Exw ⟨ρ5, S5, H5, plusB W1.B A⟩ W' → ∀ us ρ S H, W' = ⟨ρ, S, H, plusB W1.B A⟩ → Exw ⟨ρ5, S5, H5, plusB W1.B A⟩ ⟨ρ, S, upd H A (.lst us), plusB W1.B A⟩ := fun {W'} x us ρ S H e => by
    subst e
    exact ⟨x.len, x.rho, fun a u h n m => by
      obtain ⟨z1, z2, z3⟩ := x.keep a u h n m
      exact ⟨(upd_ne fun e => m (.inr e)).trans z1, z2, z3⟩⟩
  refine ⟨fun j m H => m = ds.length - j ∧ j ≤ ds.length ∧ ∃ ρ S acc us tl, Exs W1 ⟨ρ, S, H, plusB W1.B A⟩ ∧ Exw ⟨ρ5, S5, H5, plusB W1.B A⟩ ⟨ρ, S, H, plusB W1.B A⟩ ∧ Ok K ⟨ρ, S, H, plusB W1.B A⟩ ∧ ¬ Live ⟨ρ, S, H, plusB W1.B A⟩ A ∧ H A = some (.lst us) ∧ Reps K ⟨ρ, S, H, plusB W1.B A⟩ acc us ∧ cGo g1 t1 e w l1 (ds.drop j) acc.length S = some (tl, SI) ∧ acc ++ tl = acc0 ++ dI,
    ⟨ds.length, by simp, Nat.zero_le _, ρ5, S5, acc0, us0, dI, e15, (Ext.refl _).w.v, o5, nl5, hu5, r5, by simpa using hc, rfl⟩, ?_⟩
  rintro i m H ⟨rfl, hi, ρ, S, acc, us, tl, e1, e2, ok2, nl, hu, ra, hc, hd⟩
  have sl2 := sl.exw e2 o5
  by_cases hlt : i < ds.length
  · rw [List.drop_eq_getElem_cons hlt, cGo] at hc
    obtain ⟨hh, hc⟩ := if_same hc (by simp)
    refine .inr ⟨it.go ⟨ρ, S, H, _⟩ i e2 ok2 hh hlt, fun H => ∃ ρ S acc us tl, Exs W1 ⟨ρ, S, H, plusB W1.B A⟩ ∧ Exw ⟨ρ5, S5, H5, plusB W1.B A⟩ ⟨ρ, S, H, plusB W1.B A⟩ ∧ Ok K ⟨ρ, S, H, plusB W1.B A⟩ ∧ ¬ Live ⟨ρ, S, H, plusB W1.B A⟩ A ∧ H A = some (.lst us) ∧ Reps K ⟨ρ, S, H, plusB W1.B A⟩ acc us ∧ cGo g1 t1 e w l1 (ds.drop (i + 1)) acc.length S = some (tl, SI) ∧ acc ++ tl = acc0 ++ dI,
      fun H' n => ⟨ds.length - (i + 1), by omega, rfl, hlt, n⟩, fun x H' y => ?_⟩
    obtain ⟨sm, d, hd', rd⟩ := it.yld ⟨ρ, S, H, _⟩ i x H' e2 ok2 hh hlt y
    rw [List.getElem?_eq_getElem hlt] at hd'
    cases hd'
    cases q : g1 ds[i] S with
    | none => rw [q] at hc; cases hc
    | some as =>
      rw [q] at hc
      dsimp only at hc
      have e3 : Ext ⟨ρ, S, H, plusB W1.B A⟩ ⟨ρ, S, H', plusB W1.B A⟩ := Ext.same sm
      have ok3 : Ok K ⟨ρ, S, H', plusB W1.B A⟩ := ok2.same sm
      have hu3 : H' A = some (.lst us) := sm _ _ hu
      refine ⟨ρ, S, _, ds[i], as, ok3, rd, q, fun vv rvv => ⟨hwl vv (by rw [← rvv.ix]; exact hix1 _ _ _ q), ?_⟩⟩
      have sl3 := (sl2.ext e3 ok2).setA rvv
      refine ⟨ρ, S, _, _, ok3, sl3, ?_⟩
      cases q2 : t1 (setA l1 as) S with
      | bad => rw [q2] at hc; cases hc
      | exc x S1 => rw [q2] at hc; cases hc
      | ok b S1 =>
        rw [q2] at hc
        intro ρ4 H4 e4 ok4
        have hu4 := e4.keep _ _ hu3 nl
        cases b with
        | false =>
          dsimp only at hc
          refine (if_neg Bool.false_ne_true).mpr ?_
          exact ⟨ρ4, S1, acc, us, tl, (e1.trans e3.w).trans e4.w, (e2.trans e3.w.v).trans e4.w.v, ok4, hu4.2, hu4.1, (ra.ext e3 ok2).ext e4 ok3, hc, hd⟩
        | true =>
          dsimp only at hc
          refine (if_pos rfl).mpr ?_
          refine ⟨ρ4, S1, _, _, ok4, sl3.ext e4 ok3, ?_⟩
          cases q3 : e (setA l1 as) S1 with
          | bad => rw [q3] at hc; cases hc
          | exc x S2 => rw [q3] at hc; cases hc
          | ok y S2 =>
            rw [q3] at hc
            dsimp only at hc
            obtain ⟨hn, hc⟩ := if_same hc (by simp)
            intro ρ6 H6 e6 ok6 v rv
            have hu6 := e6.keep _ _ hu4.1 hu4.2
            cases q4 : cGo g1 t1 e w l1 (ds.drop (i + 1)) (acc.length + 1) S2 with
            | none => rw [q4] at hc; cases hc
            | some pr =>
              obtain ⟨ys, S3⟩ := pr
              rw [q4] at hc
              cases hc
              have ra6 := ((ra.ext e3 ok2).ext e4 ok3).ext e6 ok4
              have ex6 : Exs W1 ⟨ρ6, S2, H6, plusB W1.B A⟩ := ((e1.trans e3.w).trans e4.w).trans e6.w
              have ew6 : Exw ⟨ρ5, S5, H5, plusB W1.B A⟩ ⟨ρ6, S2, H6, plusB W1.B A⟩ := ((e2.trans e3.w.v).trans e4.w.v).trans e6.w.v
              refine ⟨us, hu6.1, by rw [← ra.length]; exact hn, ρ6, S2, acc ++ [y], us ++ [v], ys, ⟨ex6.len, ex6.rho, fun a u z n => ?_, ex6.fresh⟩, away ew6 _ _ _ _ rfl, ok6.poke hu6.1 hu6.2, hu6.2, upd_same, ?_, by simpa using q4, by rw [← hd]; simp⟩
              · obtain ⟨z1, z2⟩ := ex6.keep a u z n
                exact ⟨(upd_ne fun e => by rw [e, hA] at z; cases z).trans z1, z2⟩
              · exact Reps.append (Reps.poke hu6.1 ra6) (.cons (Rep.poke hu6.1 rv) .nil)
  · have ei : ds.drop i = [] := List.drop_eq_nil_of_le (by omega)
    rw [ei, cGo] at hc
    obtain ⟨hh, hc⟩ := if_same hc (by simp)
    cases hc
    rw [List.append_nil] at hd
    subst hd
    exact .inl ⟨it.stop ⟨ρ, SI, H, _⟩ i e2 ok2 hh (by omega), hN ρ H us e1 ok2 nl hu ra⟩
open Classical in
theorem lc_go2 {K : Frag} {Wx : WX} {fi fi1 : L → Store → R Src} {g g1 : Tgt} {ix ix1 vs vs1 : List Nat} {t t1 : L → Store → R Bool} {e : L → Store → R D} {σ : L2.St} {Q : VK} {H : Hp} {ρ : Nat → Addr} {S : Store} {B : Addr → Prop} {l : L}
    (ok : Ok K ⟨ρ, S, H, B⟩) (sl : Sl K ⟨ρ, S, H, B⟩ σ l) (hix : ∀ d S as, g d S = some as → as.map (·.1) = ix) (hv : ∀ i ∈ ix, i ∈ vs) (hix1 : ∀ d S as, g1 d S = some as → as.map (·.1) = ix1) (hv1 : ∀ i ∈ ix1, i ∈ vs1)
    (h : Post K Wx σ ⟨ρ, S, H, B⟩ (fi l S) fun W1 x => ∃ dF SF, cGo2 g t fi1 g1 t1 e vs1 x.2 (wp l vs) x.1 0 W1.S = some (dF, SF) ∧ ∀ ρ' H' A us, Exs W1 ⟨ρ', SF, H', plusB W1.B A⟩ → Ok K ⟨ρ', SF, H', plusB W1.B A⟩ → H' A = some (.lst us) → ¬ Live ⟨ρ', SF, H', plusB W1.B A⟩ A → ¬ W1.B A → W1.H A = none → Reps K ⟨ρ', SF, H', plusB W1.B A⟩ dF us → Q (.ref A) H') :
    tLc2 (tI K Wx fi) (tG K g) (tT K wx0 t) (tI K wx0 fi1) (tG K g1) (tT K wx0 t1) (tE K wx0 e) vs vs1 σ H Q := by
  refine ⟨ρ, S, B, l, ok, sl, h.mono fun W1 x e1 o1 ⟨dF, SF, hc, hq⟩ J it A hA => ?_⟩
  obtain ⟨ds, w⟩ := x
  dsimp only at hc it
  have sl1 := (sl.ext e1 ok).wp vs
  generalize hl0 : wp l vs = l0 at hc sl1
  have hwl : ∀ as : List (Nat × V), as.map (·.1) = ix → wipe (setA (wipe σ vs) as) vs = wipe σ vs := fun as ha => by
    rw [wipe_wp, wipe_wp]
    exact wp_setA fun i hi => hv i (by rw [← ha]; exact hi)
  obtain ⟨b1, b2, b3⟩ := busy_ok (xs := []) o1 hA
  refine ⟨fun i m H => m = ds.length - i ∧ i ≤ ds.length ∧ ∃ ρ S acc us tl, Exs W1 ⟨ρ, S, H, plusB W1.B A⟩ ∧ Ok K ⟨ρ, S, H, plusB W1.B A⟩ ∧ ¬ Live ⟨ρ, S, H, plusB W1.B A⟩ A ∧ H A = some (.lst us) ∧ Reps K ⟨ρ, S, H, plusB W1.B A⟩ acc us ∧ cGo2 g t fi1 g1 t1 e vs1 w l0 (ds.drop i) acc.length S = some (tl, SF) ∧ acc ++ tl = dF,
    ⟨ds.length, by simp, Nat.zero_le _, W1.ρ, W1.S, [], [], dF, b1, b2, b3, upd_same, .nil, by simpa using hc, rfl⟩, ?_⟩
  rintro i m H ⟨rfl, hi, ρ, S, acc, us, tl, e2, ok2, nl, hu, ra, hc, hd⟩
  have sl2 := sl1.exw e2.v o1
  by_cases hlt : i < ds.length
  · rw [List.drop_eq_getElem_cons hlt, cGo2] at hc
    obtain ⟨hh, hc⟩ := if_same hc (by simp)
    refine .inr ⟨it.go ⟨ρ, S, H, _⟩ i e2.v ok2 hh hlt, fun H => ∃ ρ S acc us tl, Exs W1 ⟨ρ, S, H, plusB W1.B A⟩ ∧ Ok K ⟨ρ, S, H, plusB W1.B A⟩ ∧ ¬ Live ⟨ρ, S, H, plusB W1.B A⟩ A ∧ H A = some (.lst us) ∧ Reps K ⟨ρ, S, H, plusB W1.B A⟩ acc us ∧ cGo2 g t fi1 g1 t1 e vs1 w l0 (ds.drop (i + 1)) acc.length S = some (tl, SF) ∧ acc ++ tl = dF,
      fun H' n => ⟨ds.length - (i + 1), by omega, rfl, hlt, n⟩, fun x H' y => ?_⟩
    obtain ⟨sm, d, hd', rd⟩ := it.yld ⟨ρ, S, H, _⟩ i x H' e2.v ok2 hh hlt y
    rw [List.getElem?_eq_getElem hlt] at hd'
    cases hd'
    cases q : g ds[i] S with
    | none => rw [q] at hc; cases hc
    | some as =>
      rw [q] at hc
      dsimp only at hc
      have e3 : Ext ⟨ρ, S, H, plusB W1.B A⟩ ⟨ρ, S, H', plusB W1.B A⟩ := Ext.same sm
      have ok3 : Ok K ⟨ρ, S, H', plusB W1.B A⟩ := ok2.same sm
      have hu3 : H' A = some (.lst us) := sm _ _ hu
      refine ⟨ρ, S, _, ds[i], as, ok3, rd, q, fun vv rvv => ⟨hwl vv (by rw [← rvv.ix]; exact hix _ _ _ q), ?_⟩⟩
      have sl3 := (sl2.ext e3 ok2).setA rvv
      refine ⟨ρ, S, _, _, ok3, sl3, ?_⟩
      cases q2 : t (setA l0 as) S with
      | bad => rw [q2] at hc; cases hc
      | exc x S1 => rw [q2] at hc; cases hc
      | ok b S1 =>
        rw [q2] at hc
        intro ρ4 H4 e4 ok4
        have hu4 := e4.keep _ _ hu3 nl
        cases b with
        | false =>
          dsimp only at hc
          refine (if_neg Bool.false_ne_true).mpr ?_
          exact ⟨ρ4, S1, acc, us, tl, (e2.trans e3.w).trans e4.w, ok4, hu4.2, hu4.1, (ra.ext e3 ok2).ext e4 ok3, hc, hd⟩
        | true =>
          dsimp only at hc
          refine (if_pos rfl).mpr ?_
          refine ⟨ρ4, S1, _, _, ok4, sl3.ext e4 ok3, ?_⟩
          cases q3 : fi1 (setA l0 as) S1 with
          | bad => rw [q3] at hc; cases hc
          | exc x S2 => rw [q3] at hc; cases hc
          | ok y S2 =>
            rw [q3] at hc
            dsimp only at hc
            cases q4 : cGo g1 t1 e y.2 (wp (setA l0 as) vs1) y.1 acc.length S2 with
            | none => rw [q4] at hc; cases hc
            | some pr =>
              obtain ⟨ys, S3⟩ := pr
              rw [q4] at hc
              dsimp only at hc
              cases q5 : cGo2 g t fi1 g1 t1 e vs1 w l0 (ds.drop (i + 1)) (acc.length + ys.length) S3 with
              | none => rw [q5] at hc; cases hc
              | some pr2 =>
                obtain ⟨zs, S4⟩ := pr2
                rw [q5] at hc
                cases hc
                intro ρ6 H6 e6 ok6 J1 it1
                have hu6 := e6.keep _ _ hu4.1 hu4.2
                have ra6 := ((ra.ext e3 ok2).ext e4 ok3).ext e6 ok4
                have ex6 : Exs W1 ⟨ρ6, S2, H6, plusB W1.B A⟩ := ((e2.trans e3.w).trans e4.w).trans e6.w
                have sl6 := ((sl3.ext e4 ok3).ext e6 ok4).wp vs1
                refine lc_in (W1 := W1) (W5 := ⟨ρ6, S2, H6, plusB W1.B A⟩) hA rfl it1 ok6 ex6 hu6.2 hu6.1 ra6 sl6 hix1 hv1 q4 fun ρ7 H7 us7 x1 x2 x3 x4 x5 => ?_
                exact ⟨ρ7, S3, acc ++ ys, us7, zs, x1, x2, x3, x4, x5, by rw [List.length_append]; exact q5, by rw [← hd, List.append_assoc]⟩
  · have ei : ds.drop i = [] := List.drop_eq_nil_of_le (by omega)
    rw [ei, cGo2] at hc
    obtain ⟨hh, hc⟩ := if_same hc (by simp)
    cases hc
    rw [List.append_nil] at hd
    subst hd
    exact .inl ⟨it.stop ⟨ρ, SF, H, _⟩ i e2.v ok2 hh (by omega), hq ρ H A us e2 ok2 hu nl (fun z => o1.busy _ z hA) hA ra⟩
theorem lc_val2 {K : Frag} {Wx : WX} {fi fi1 : L → Store → R Src} {g g1 : Tgt} {t t1 : L → Store → R Bool} {e : L → Store → R D} {σ : L2.St} {W : Wd} {Q : VK} {vs vs1 : List Nat} {l : L} (h : Post K Wx σ W (eLc2 fi g t fi1 g1 t1 e vs vs1 l W.S) fun W d => ∀ v, Rep K W d v → Q v W.H) :
    Post K Wx σ W (fi l W.S) fun W1 x => ∃ dF SF, cGo2 g t fi1 g1 t1 e vs1 x.2 (wp l vs) x.1 0 W1.S = some (dF, SF) ∧ ∀ ρ' H' A us, Exs W1 ⟨ρ', SF, H', plusB W1.B A⟩ → Ok K ⟨ρ', SF, H', plusB W1.B A⟩ → H' A = some (.lst us) → ¬ Live ⟨ρ', SF, H', plusB W1.B A⟩ A → ¬ W1.B A → W1.H A = none → Reps K ⟨ρ', SF, H', plusB W1.B A⟩ dF us → Q (.ref A) H' :=
  h.bind.mono fun W1 x e1 o1 ⟨_, _, h1⟩ => by
    cases q : cGo2 g t fi1 g1 t1 e vs1 x.2 (wp l vs) x.1 0 W1.S with
    | none => rw [q] at h1; exact h1.elim
    | some pr =>
      rw [q] at h1
      exact ⟨pr.1, pr.2, rfl, fun ρ' H' A us e' o' hu nl nb hA r => h1 ρ' H' ⟨rfl, e'.len, e'.rho, e'.keep⟩ (o'.less fun a h => .inl h) _ (.lst ⟨hu, nl, nb⟩ (r.less fun a h => .inl h))⟩
section
variable {X : Cx} {Wx : WX} {k : Nat} {elt tg iter tg1 iter1 : Expr} {ifs ifs1 : List Expr} {scope : Scope} {own : List (Str × Nat)} {pos : Pos} {fi fi1 : L → Store → R Src} {g g1 : Tgt} {ix ix1 vs1 : List Nat} {t t1 : L → Store → R Bool} {e : L → Store → R D}
theorem fe_lc2F (c : Fit X Wx k) (hi : FI X Wx tg iter fi) (okB : BlkOk X.N X.env.scope scope own) (hvs : ∀ i ∈ vs1, i ∈ own.map (·.2))
    (hg : ∀ (s : Shared) (H : Hp) (C : Addr) (cl : List (Str × Addr)) (fp : List Addr), Fit (X.blk s H scope (compEnvC scope cl C X.env) fp) wx0 k → FG (X.blk s H scope (compEnvC scope cl C X.env) fp) tg g ix) (hix : ∀ i ∈ ix, i ∈ own.map (·.2))
    (ht : ∀ (s : Shared) (H : Hp) (C : Addr) (cl : List (Str × Addr)) (fp : List Addr), Fit (X.blk s H scope (compEnvC scope cl C X.env) fp) wx0 k → FTs (X.blk s H scope (compEnvC scope cl C X.env) fp) ifs t)
    (hi1 : ∀ (s : Shared) (H : Hp) (C : Addr) (cl : List (Str × Addr)) (fp : List Addr), Fit (X.blk s H scope (compEnvC scope cl C X.env) fp) wx0 k → FI (X.blk s H scope (compEnvC scope cl C X.env) fp) wx0 tg1 iter1 fi1)
    (hg1 : ∀ (s : Shared) (H : Hp) (C : Addr) (cl : List (Str × Addr)) (fp : List Addr), Fit (X.blk s H scope (compEnvC scope cl C X.env) fp) wx0 k → FG (X.blk s H scope (compEnvC scope cl C X.env) fp) tg1 g1 ix1) (hix1 : ∀ i ∈ ix1, i ∈ vs1)
    (ht1 : ∀ (s : Shared) (H : Hp) (C : Addr) (cl : List (Str × Addr)) (fp : List Addr), Fit (X.blk s H scope (compEnvC scope cl C X.env) fp) wx0 k → FTs (X.blk s H scope (compEnvC scope cl C X.env) fp) ifs1 t1)
    (he : ∀ (s : Shared) (H : Hp) (C : Addr) (cl : List (Str × Addr)) (fp : List Addr), Fit (X.blk s H scope (compEnvC scope cl C X.env) fp) wx0 k → FE (X.blk s H scope (compEnvC scope cl C X.env) fp) wx0 elt e) (hs : ∀ x, foldedSetIterable iter X.env x = pure x := by intro _; rfl) (hs1 : ∀ env x, foldedSetIterable iter1 env x = pure x := by intro _ _; rfl) :
    FE X Wx (.ListComp elt [⟨tg, iter, ifs, 0⟩, ⟨tg1, iter1, ifs1, 0⟩] scope pos) (eLc2 fi g t fi1 g1 t1 e (own.map (·.2)) vs1) :=
  (pe_lc2 c.cm c.nd hi okB hvs (fun s H C cl fp => (hg s H C cl fp (c.blk s H _ _ fp)).g) (fun s H C cl fp => ht s H C cl fp (c.blk s H _ _ fp)) (fun s H C cl fp => hi1 s H C cl fp (c.blk s H _ _ fp)) (fun s H C cl fp => (hg1 s H C cl fp (c.blk s H _ _ fp)).g) (fun s H C cl fp => ht1 s H C cl fp (c.blk s H _ _ fp)) (fun s H C cl fp => he s H C cl fp (c.blk s H _ _ fp)) hs hs1).imp fun σ H Q ⟨ρ, S, B, l, ok, sl, h⟩ =>
    lc_go2 ok sl (hg X.s_0 H 0 [] [] (c.blk X.s_0 H _ _ [])).ix hix (hg1 X.s_0 H 0 [] [] (c.blk X.s_0 H _ _ [])).ix hix1 (lc_val2 (W := ⟨ρ, S, H, B⟩) h)
theorem fs_setLc2F (i : Nat) {y : Str} {py spos : Pos} (c : Fit X Wx k) (hi : FI X Wx tg iter fi) (okB : BlkOk X.N X.env.scope scope own) (hvs : ∀ i ∈ vs1, i ∈ own.map (·.2))
    (hg : ∀ (s : Shared) (H : Hp) (C : Addr) (cl : List (Str × Addr)) (fp : List Addr), Fit (X.blk s H scope (compEnvC scope cl C X.env) fp) wx0 k → FG (X.blk s H scope (compEnvC scope cl C X.env) fp) tg g ix) (hix : ∀ i ∈ ix, i ∈ own.map (·.2))
    (ht : ∀ (s : Shared) (H : Hp) (C : Addr) (cl : List (Str × Addr)) (fp : List Addr), Fit (X.blk s H scope (compEnvC scope cl C X.env) fp) wx0 k → FTs (X.blk s H scope (compEnvC scope cl C X.env) fp) ifs t)
    (hi1 : ∀ (s : Shared) (H : Hp) (C : Addr) (cl : List (Str × Addr)) (fp : List Addr), Fit (X.blk s H scope (compEnvC scope cl C X.env) fp) wx0 k → FI (X.blk s H scope (compEnvC scope cl C X.env) fp) wx0 tg1 iter1 fi1)
    (hg1 : ∀ (s : Shared) (H : Hp) (C : Addr) (cl : List (Str × Addr)) (fp : List Addr), Fit (X.blk s H scope (compEnvC scope cl C X.env) fp) wx0 k → FG (X.blk s H scope (compEnvC scope cl C X.env) fp) tg1 g1 ix1) (hix1 : ∀ i ∈ ix1, i ∈ vs1)
    (ht1 : ∀ (s : Shared) (H : Hp) (C : Addr) (cl : List (Str × Addr)) (fp : List Addr), Fit (X.blk s H scope (compEnvC scope cl C X.env) fp) wx0 k → FTs (X.blk s H scope (compEnvC scope cl C X.env) fp) ifs1 t1)
    (he : ∀ (s : Shared) (H : Hp) (C : Addr) (cl : List (Str × Addr)) (fp : List Addr), Fit (X.blk s H scope (compEnvC scope cl C X.env) fp) wx0 k → FE (X.blk s H scope (compEnvC scope cl C X.env) fp) wx0 elt e)
    (hy : X.N[i]? = some y := by rfl) (hyl : X.env.scope.names.lookup y = some .local := by rfl) (hk : X.env.scope.kind = .function := by rfl) (hl : (py.line == pos.line) = true := by rfl) (ha : (scope.names.any fun (n, k) => n == y && (k == .local || k == .cell)) = false := by rfl) (hs : ∀ x, foldedSetIterable iter X.env x = pure x := by intro _; rfl) (hs1 : ∀ env x, foldedSetIterable iter1 env x = pure x := by intro _ _; rfl) :
    FS X Wx (.Assign [.Name y py] (.ListComp elt [⟨tg, iter, ifs, 0⟩, ⟨tg1, iter1, ifs1, 0⟩] scope pos) spos) (sSet i (eLc2 fi g t fi1 g1 t1 e (own.map (·.2)) vs1)) :=
  (ps_setLc2 c.cm c.nd hy hyl (sw_true hk hyl hl ha) hi okB hvs (fun s H C cl fp => (hg s H C cl fp (c.blk s H _ _ fp)).g) (fun s H C cl fp => ht s H C cl fp (c.blk s H _ _ fp)) (fun s H C cl fp => hi1 s H C cl fp (c.blk s H _ _ fp)) (fun s H C cl fp => (hg1 s H C cl fp (c.blk s H _ _ fp)).g) (fun s H C cl fp => ht1 s H C cl fp (c.blk s H _ _ fp)) (fun s H C cl fp => he s H C cl fp (c.blk s H _ _ fp)) hs hs1).imp fun D σ H ⟨ρ, S, B, l, ok, sl, h⟩ =>
    lc_go2 (Q := fun x H1 => gName i x σ H1 D.nx) ok sl (hg X.s_0 H 0 [] [] (c.blk X.s_0 H _ _ [])).ix hix (hg1 X.s_0 H 0 [] [] (c.blk X.s_0 H _ _ [])).ix hix1 (lc_val2 (W := ⟨ρ, S, H, B⟩) (ps_toE ok sl h))
end
end HL
end
section
set_option Elab.async false
set_option linter.all false
set_option maxRecDepth 100000
set_option maxHeartbeats 1000000
namespace HL
open PySem PySem.Spec L2
def numsT (d : D) : List Int := (intsD (tupOf d)).getD []
/-- (sum(x), x) -/
def keySum (d : D) : PyData := .tuple [.int (numsT d).sum, encD d]
structure CanSortS (xs : List D) : Prop where
  py : ∀ d ∈ xs, (∃ ys ns, nt d = .tup ys ∧ intsD ys = some ns) ∧ ∃ p, toPy d = some p ∧ noL p = true
  al : PySem.W.AllAlike (xs.map keySum)
  le : xs.length ≤ sizeLine
  dp : ∀ d ∈ xs, (encD d).depth ≤ 60
open Classical in
noncomputable def pSortSum (ds : List D) (S : Store) : Option D := match ds with
  | [d] => (seqL d S).bind fun xs => if CanSortS xs then some (.lst (xs.mergeSort (PySem.W.dataLe false keySum))) else none
  | _ => none
/-- the def at f gives (sum(x), x) -/
structure IsSumKey (K : Frag) (f : Addr) : Prop where
  ex : ∃ (x qual : Str) (params : Arguments) (body : List Stmt) (scope : Scope) (fd : FuncData) (y : Str) (p1 p2 p3 p4 p5 p6 : Pos) (kk : Nat), FunD K x qual params body scope [] [] f fd ∧ body = [.Return (some (.Tuple [.Call (.Name "sum" p1) [.Name y p2] [] p3, .Name y p4] kk p5)) p6] ∧ FnScope [y] [y] scope ∧
    scope.names.lookup y = some .local ∧ scope.names.lookup (Str.ofString "sum") = some NameKind.globalImplicit ∧ (y == ("__debug__" : Str)) = false ∧ (∀ (kV doc pm : Value) (an : Option Addr) (cdv ct : Value) (u : Value), bindArgs (PySem.W.fnOf x qual params body scope .none kV doc pm an cdv ct) ⟨[u], []⟩ = pure ([y].zip [u]))
theorem key_pureS {X : Cx} {s : Shared} {H : Hp} {f a : Addr} {ns : List Int} {p : PyData} {A : Around} (Fk : IsSumKey X.K f) (hA : RoomG 1 A) (e0 : Env0 X.prog X.w X.K X.mg X.base A X.stack s H) (hlen : X.mg "sum" = none) (h : SqT X.K H a (ns.map V.int)) (hr : Reads s.heap (.ref a) p []) :
    wpAny (model X.prog X.w) A (call (.ref f) [.ref a]) (PySem.W.KeyPure (.tuple [.int ns.sum, p]) s) (fun _ _ => False) s := by
  obtain ⟨x, qual, params, body, scope, fd, y, p1, p2, p3, p4, p5, p6, kk, F, hbody, S, hy, hl, hdb, hb⟩ := Fk.ex
  obtain ⟨oc, od, dV, kV, doc, pm, an, cdv, ct, osl, rfl, lk, hcd, hD, _⟩ := F.ex
  have KX : X.K.In s.heap := e0.mod.kin.keeps fun b o e => (e0.bs b o e).1
  have lim : s.heap.NoLimit := e0.mod.nolimit.keeps fun b o e => (e0.bs b o e).1
  obtain rfl : dV = .none := by
    rcases hD with ⟨_, h⟩ | ⟨h, _⟩
    · exact h
    · exact absurd rfl h
  have hkind : ∀ z ∈ [y].zip [Value.ref a], scope.names.lookup z.1 = some .local ∨ (scope.names.lookup z.1 = some .cell ∧ ((cellsFrom (s.heap.objs.size + 1) scope.names []).lookup z.1).isSome = true) := fun z hz => by
    obtain ⟨n, v⟩ := z
    have := (List.of_mem_zip hz).1
    have e : n = y := by simpa using this
    exact .inl (by rw [e]; exact hy)
  have hB : BindsTo s (PySem.W.fnOf x qual params body scope .none kV doc pm an cdv ct) ⟨[.ref a], []⟩ ([y].zip [.ref a]) := BindsTo.of_eq (hb kV doc pm an cdv ct (.ref a))
  have main : codeAny (model X.prog X.w) A (.call (.ref f) ⟨[.ref a], []⟩) (fun r s' => match r with
    | .ok (.ret u) => PySem.W.KeyPure (.tuple [.int ns.sum, p]) s u s'
    | _ => False) s := by
    refine PySem.codeAny_call_function hA.r.depth (KX _ _ lk) rfl S.co S.gen rfl (PySem.W.codeRec_of KX hcd) (hB _ _ _ _ ?_)
    refine wpAny_newFunctionEnv_cells S.kind hkind fun env he s1 xx => ?_
    subst he
    refine ⟨lim.keeps xx.toInCall.keep, PySem.codeAny_func ?_⟩
    have I : Inv (cxOf (L2.CX X.prog X.w) X.prog X.w X.K X.mg X.base [y] qual scope f cdv A X.stack s H (fun _ _ _ => False)) [] (L2.start [y] [V.ref a]) H s1 := inv_start S hA.r.hd e0 rfl (.cons rfl .nil) xx
    obtain ⟨h1, tk, rfl, hk⟩ := xx.done
    have ld : ∀ {s2 : Shared}, Inv (cxOf (L2.CX X.prog X.w) X.prog X.w X.K X.mg X.base [y] qual scope f cdv A X.stack s H (fun _ _ _ => False)) [] (L2.start [y] [V.ref a]) H s2 → ∀ {Q : Value → Shared → Prop} {E : Value → Shared → Prop} {q : Pos}, Q (.ref a) s2 → wpAny (model X.prog X.w) (A.deeper (PyProof.Rows.envOfC qual scope s.heap.objs.size f cdv)) (eval (.Name y q) (PyProof.Rows.envOfC qual scope s.heap.objs.size f cdv)) Q E s2 := fun {s2} I2 {Q E q} hq => by
      obtain ⟨m, hn, hl2⟩ := I2.loc
      obtain ⟨u, ru, look⟩ := hl2 0 y (.ref a) rfl rfl (.inl hy)
      obtain rfl : u = .ref a := ru
      have hm : m y = some (.ref a) := by
        rcases look with ⟨_, hm⟩ | ⟨hk', _⟩
        · exact hm
        · have z : scope.names.lookup y = some .cell ∨ scope.names.lookup y = some .free := hk'
          rcases z with z | z <;> (rw [hy] at z; cases z)
      exact wpAny_Name (wpAny_loadName_local S.kind hy hn hm hq) hdb
    obtain ⟨its, rv, pl, hz⟩ := I.tuple h
    have hn2 := line63
    subst hbody
    have hi := rv.ints
    obtain ⟨xs, hx⟩ := hi.allInts.items
    have hnum : PySem.numsOf (PySem.intItems xs).toList = ns := by rw [← hx]; exact hi.numsOf
    rw [PySem.nums_intItems] at hnum
    have hlt : h1.IsTuple a (PySem.intItems xs) := by rw [← hx]; exact pl
    refine wpAny_execs_cons (wpAny_Return_some (wpAny_Tuple_spliced ?_))
    refine Calls.spliced_cons (wpAny_Call_Name_kw (ld_blt I (show scope.names.lookup (Str.ofString "sum") = some NameKind.globalImplicit from hl) hlen PyProof.Rows.boot_sum ?_))
    refine PyProof.Rows.callWith_builtin1 (Calls.spliced_cons (ld (I.tok _) (Calls.spliced_nil ?_))) rfl rfl
    refine PySem.W.ktm_sumG (s := ⟨h1, s.gens, s.drawn, _, s.os⟩) (xs := xs) hA.r.hd hlt fun h2 tk2 t2 hk2 => ?_
    rw [PySem.preSum_eq, List.take_of_length_le (by simp), hnum]
    have I2 := I.kept (t' := tk2) hk2
    refine Calls.spliced_cons (ld I2 (Calls.spliced_nil ⟨by show 2 ≤ sizeLine; decide, ?_⟩))
    have hk3 : ∀ b o, s.heap.get? b = some o → h2.get? b = some o := fun b o e => hk2 b o (hk b o e)
    refine ⟨_, _, rfl, fun b o e => Heap.get?_push_of_some _ (hk3 b o e), ?_⟩
    refine Reads.tuple (Heap.get?_push_size _ rfl) rfl rfl ?_
    exact .cons (as := []) (.int _ _) (.cons (as := []) (PyProof.Rows.Reads.keeps (fun b o e => Heap.get?_push_of_some _ (hk3 b o e)) hr) .nil)
  refine wpAny_call (codeAny_mono main fun r s' hq => ?_)
  cases r with
  | error e => exact hq.elim
  | ok fl => cases fl with
    | ret u => exact hq
    | next => exact hq.elim
    | brk => exact hq.elim
    | cont => exact hq.elim
theorem sortable_keysS (xs : List D) : PySem.W.Sortable (xs.map keySum) := .inl fun d hd => by
  obtain ⟨b, _, rfl⟩ := List.mem_map.mp hd
  exact ⟨_, _, rfl⟩
section
variable {X : Cx} {Wx : WX} {k : Nat} {f : Addr} {x : Str} {p pos p2 kpos : Pos} {e : Expr} {fa : L → Store → R (List D)}
theorem callK_sum (Fk : IsSumKey X.K f) (c : Fit X Wx k) (hk3 : 3 ≤ k) (hlen : X.mg "sum" = none) : CallRK X (.builtin "sorted") [Str.ofString "key"] (fun xs zs H Q => zs = [.ref f] ∧ rPl X.K pSortSum xs H Q) := by
  intro pins s σ H xs zs us ws Q I r rz ⟨hz, ρ, S, B, ds, e, ok, rd, hp, k'⟩
  subst hz
  obtain ⟨w1, rfl, e1⟩ := vals1 rz
  obtain rfl : w1 = Value.ref f := e1
  unfold pSortSum at hp
  split at hp
  · obtain ⟨ys, h1, h2⟩ := Option.bind_eq_some_iff.mp hp
    split at h2
    · rename_i cs
      cases h2
      obtain ⟨v, rfl, h⟩ := rd.one
      obtain ⟨a, vs, rfl, h3, q⟩ := seqL_ok ok h h1
      obtain ⟨u, rfl, rx⟩ := vals1 r
      cases rx
      obtain ⟨its, rv, pl, _⟩ := I.list h3
      have rA : RoomG 1 X.A.in1.in1 := ((c.rm.mono hk3).in1).in1
      refine PySem.W.sorted_key_data (b := false) keySum pl.isList (reps_each q rv) cs.al (sortable_keysS ys) cs.le (fun d hd => ?_) (PyProof.Rows.ksk_s1 _ _) (fun _ => PyProof.Rows.ksk_l1 _ _) (fun _ => PyProof.Rows.ksk_t1 _ _) (fun v d hv hd h tk hk => ?_) fun out c' h' tk hk _ ho hl hE => ?_
      · have := cs.dp d hd
        have hu := c.rm.r.un
        have : (keySum d).depth ≤ 61 := by
          show max 0 (max (encD d).depth 0) + 1 ≤ 61
          omega
        omega
      · obtain ⟨w, rw', ru⟩ := hv
        obtain ⟨⟨zs, ns, hz, hns⟩, pp, hpp, hnl⟩ := cs.py d hd
        have ed : encD d = pp := by unfold encD; rw [hpp]; rfl
        have I2 : Inv X pins σ H { s with heap := h, toks := tk } := I.kept (t' := tk) hk
        have rn := rw'.nt
        rw [hz] at rn
        cases rn with
        | @tup _ ws2 b h4 q4 =>
          cases ru
          obtain ⟨as, rr⟩ := Dp.reads I2 pp _ _ (rw'.dp ok hpp) rfl
          have z := reads_noL hnl rr
          subst z
          rw [ints_ok q4 hns] at h4
          have kp := key_pureS (A := X.A.in1.in1) (s := { s with heap := h, toks := tk }) Fk rA I2.env0.in1.in1 hlen h4 rr
          have en : numsT d = ns := by
            unfold numsT tupOf
            rw [hz]
            show (intsD zs).getD [] = ns
            rw [hns]
            rfl
          unfold keySum
          rw [ed, en]
          exact kp
      · exact sorted_end I ok hk (by rw [List.length_mergeSort]; exact cs.le) ho hE k'
    · cases h2
  · cases hp
theorem fe_sortSum {x2 : Str} (Fk : IsSumKey X.K f) (c : Fit X Wx k) (hm : X.mg "sorted" = none) (hg : Gl X "sorted") (hmx : X.mg x2 = some (.ref f)) (hgx : Gl X x2) (hlen : X.mg "sum" = none) (ha : FA X Wx [e] fa) (hk3 : 3 ≤ k := by decide) (hdb : (x2 == ("__debug__" : Str)) = false := by decide)
    (he : backTo pos (starEach [e] X.env) = (false, eval e X.env) :: backTo pos (starEach [] X.env) := by rfl) (hpl : (backTo pos (starEach [e] X.env)).any (·.1) = false := by rfl)
    (hall : (backToKw pos (keywordEach [⟨some "key", .Name x2 p2, kpos⟩] X.env)).all (·.1.isSome) = true := by rfl) (hnone : (backToKw pos (keywordEach [⟨some "key", .Name x2 p2, kpos⟩] X.env)).any (·.1.isNone) = false := by rfl) (hks : (backToKw pos (keywordEach [⟨some "key", .Name x2 p2, kpos⟩] X.env)).filterMap (·.1) = [Str.ofString "key"] := by rfl) :
    FE X Wx (.Call (.Name "sorted" p) [e] [⟨some "key", .Name x2 p2, kpos⟩] pos) (mCall pSortSum fa) :=
  (pe_callBK (callK_sum Fk c hk3 hlen) hg hm (by decide +kernel) ha (pk_cons (pe_glob (v := V.ref f) hgx hmx rfl hdb) pk_nil) (he := he) (hpl := hpl) (hall := hall) (hnone := hnone) (hks := hks)).imp fun σ H Q h => by
    obtain ⟨ρ, S, B, l, ok, sl, h⟩ := h
    refine ⟨ρ, S, B, l, ok, sl, h.bind.mono fun W1 ds e1 o1 ⟨_, _, h1⟩ vs rvs => ?_⟩
    obtain ⟨r, er, q⟩ := h1.ofO
    exact ⟨rfl, W1.ρ, W1.S, W1.B, ds, r, o1, rvs, er, fun H' v' s rv' => q H' s o1 v' rv'⟩
end

end HL
end
section
set_option Elab.async false
set_option linter.all false
set_option maxRecDepth 100000
set_option maxHeartbeats 2000000
namespace HL
open PySem PySem.Spec L2 PyProof.Rows
def eDic : L → Store → R D := fun _ S => .ok .dic S
section
variable {X : Cx} {Wx : WX} {pos : Pos}
theorem fe_dic : FE X Wx (.Dict [] [] pos) eDic :=
  pe_dnewK.imp fun σ H Q ⟨ρ, S, B, l, ok, sl, h⟩ => fun p hp => Post.new (W := ⟨ρ, S, H, B⟩) ok hp h fun W' e n nb x => .dic (by rw [e]; exact upd_same)
end
/-! ### a dict of the module -/
def numV : Value → Option Int
  | .int i _ => some i
  | _ => none
def entOf (e : DictEntry) : Option (Str × Int) × Option Int := (He.keyOf e, numV e.val)
def entsIn (P : Params) (kvs : List (Str × Int)) : List (Option (Str × Int) × Option Int) := kvs.map fun p => (some (p.1, PyData.keyHash P p.1), some p.2)
def tabW (K : Frag) (a : Addr) : Option (List (Option (Str × Int) × Option Int)) := match K.lookup a with
  | some ⟨.type c, none, .dict es _, sl⟩ => (match decide (c = "dict") && (sl.isEmpty && !(a == sysModules)) with
    | true => some (es.toList.map entOf)
    | false => none)
  | _ => none
theorem dicW_tabW {K : Frag} {a : Addr} : He.dicW K a = (tabW K a).map fun l => l.map Prod.fst := by
  unfold He.dicW tabW
  cases K.lookup a with
  | none => rfl
  | some o =>
    obtain ⟨oc, od, dt, osl⟩ := o
    cases oc <;> cases od <;> cases dt <;> try rfl
    dsimp only
    split
    · rename_i h
      rw [h]
      show some _ = some (List.map Prod.fst (List.map entOf _))
      rw [List.map_map]
      rfl
    · rename_i h
      rw [h]
      rfl
/-- x names such a dict -/
structure TabX (X : Cx) (x : Str) (kvs : List (Str × Int)) : Prop where
  ex : ∃ (a : Addr) (es : Array DictEntry) (n : Nat), X.mg x = some (.ref a) ∧ KDict X.K X.w a es n ∧ es.toList.map entOf = entsIn X.w.params kvs
theorem find_tab {P : Params} : ∀ {l : List DictEntry} {kvs : List (Str × Int)} (z : Str), l.map entOf = entsIn P kvs → (kvs.lookup z = none ∧ (l.find? fun e => Value.isStrOf z e.key) = none) ∨ ∃ e i t, kvs.lookup z = some i ∧ (l.find? fun e => Value.isStrOf z e.key) = some e ∧ e.val = .int i t
  | [], [], z, _ => .inl ⟨rfl, rfl⟩
  | [], _ :: _, z, h => by cases h
  | _ :: _, [], z, h => by cases h
  | e :: l, (k, i) :: kvs, z, h => by
    have h1 : entOf e :: l.map entOf = (some (k, PyData.keyHash P k), some i) :: entsIn P kvs := h
    injection h1 with h2 h3
    unfold entOf at h2
    obtain ⟨h4, h5⟩ := Prod.mk.inj h2
    have hk : ∃ t, e.key = .str k t := by
      unfold He.keyOf at h4
      split at h4
      · rename_i x t q
        have := (Prod.mk.inj (Option.some.inj h4)).1
        exact ⟨t, by rw [q, this]⟩
      · cases h4
    obtain ⟨t, hk⟩ := hk
    have hv : ∃ t, e.val = .int i t := by
      unfold numV at h5
      split at h5
      · rename_i j t q
        exact ⟨t, by rw [q, Option.some.inj h5]⟩
      · cases h5
    obtain ⟨u, hv⟩ := hv
    by_cases c : z = k
    · subst c
      right
      refine ⟨e, i, u, by simp [List.lookup_cons], ?_, hv⟩
      rw [List.find?_cons, hk]
      have : Value.isStrOf z (.str z t) = true := by simp [Value.isStrOf]
      rw [this]
    · have c1 : Value.isStrOf z e.key = false := by
        rw [hk]
        simp [Value.isStrOf, c, Ne.symm c]
        try exact fun q => c q.symm
      have c2 : ((k, i) :: kvs).lookup z = kvs.lookup z := by
        rw [List.lookup_cons]
        have : (z == k) = false := by simpa using c
        rw [this]
      rw [c2, List.find?_cons, c1]
      exact find_tab z h3
def tabD (kvs : List (Str × Int)) (z : Str) : D := match kvs.lookup z with
  | some i => .int i
  | none => .non
def tabV (kvs : List (Str × Int)) (z : Str) : V := match kvs.lookup z with
  | some i => .int i
  | none => .non
def pTab (kvs : List (Str × Int)) (d : D) : Option D := match d with
  | .str z => some (tabD kvs z)
  | _ => none
def eDget (kvs : List (Str × Int)) (f : L → Store → R D) : L → Store → R D := fun l S => (f l S).bind fun d S1 => ofO (pTab kvs d) S1
section
variable {X : Cx} {Wx : WX} {e : Expr} {f : L → Store → R D} {x : Str} {p apos pos : Pos} {kvs : List (Str × Int)}
theorem pe_tab {ty : TE} (T : TabX X x kvs) (hg : Gl X x) (he : PE X e ty) (m : M1 X (.Name x p) "get" apos e pos) (hd : (x == ("__debug__" : Str)) = false := by decide) :
    PE X (.Call (.Attribute (.Name x p) "get" apos) [e] [] pos) (fun σ H Q => ty σ H fun y H1 => ∃ z, y = .str z ∧ Q (tabV kvs z) H1) := by
  obtain ⟨a, es, n, hm, D, hes⟩ := T.ex
  refine ⟨fun pins s σ H Q I h => ?_⟩
  refine wpAny_Call_method m.base m.few m.line PySem.F.plainAttrs_dict PySem.F.slot_dict_get PySem.F.type_dict_get (thn ((pe_glob (v := V.ref a) hg hm rfl hd).run pins s σ H (fun x H1 => x = .ref a ∧ H1 = H) I ⟨rfl, rfl⟩) fun u s1 ⟨x, H1, I1, rx, ex, eh⟩ => ?_)
  subst ex eh
  obtain rfl : u = Value.ref a := rx
  refine ⟨kd_type D I1, fun b q => ?_, ?_⟩
  · cases q
    exact ⟨_, I1.kIn _ _ D.at_, rfl⟩
  · rw [m.trees]
    refine Calls.callWith_builtin rfl (Calls.evalArgs_plain (Calls.spliced_cons (thn (he.run pins s1 σ H1 _ I1 h) fun iv s2 ⟨y, H2, I2, ry, z, ey, q2⟩ => Calls.spliced_nil ?_)))
    subst ey
    obtain ⟨t, rfl⟩ := ry
    refine call_meetsIn PySem.F.slot_dict_get (kd_type D I2) PySem.F.entry_dict_get (PySem.F.args_dict_get_2 _ _) (meets_dict_get (PySem.strKind X.prog X.w) a (PySem.strKind_is X.prog X.w z t) D.low) ⟨_, PySem.W.mapOf_K (prog := X.prog) I2.kIn D.at_ D.lit, ?_⟩
    refine ⟨tabV kvs z, _, I2.tok _, ?_, q2⟩
    unfold findBy tabV
    obtain ⟨l⟩ := es
    rw [List.find?_toArray]
    rcases find_tab z hes with ⟨h1, h2⟩ | ⟨e, i, t, h1, h2, h3⟩
    · rw [h1]
      have h2 : (l.find? fun e => Value.isStrOf z e.key) = none := h2
      rw [h2]
      rfl
    · rw [h1]
      have h2 : (l.find? fun e => Value.isStrOf z e.key) = some e := h2
      rw [h2]
      show RelV (V.int i) e.val
      rw [h3]
      exact ⟨t, rfl⟩
theorem fe_tab (T : TabX X x kvs) (hg : Gl X x) (he : FE X Wx e f) (hd : (x == ("__debug__" : Str)) = false := by decide)
    (hbase : attributeBase (.Name x p) "get" X.env (eval (.Name x p) X.env) = eval (.Name x p) X.env := by rfl)
    (hfew : ((backTo pos (starEach [e] X.env)).all (fun x => !x.1) && (backToKw pos (keywordEach [] X.env)).all (fun x => x.1.isSome)
      && decide (([e] : List Expr).length + ([] : List Keyword).length + (if ([] : List Keyword).isEmpty then 0 else 1) < 30)) = true := by rfl)
    (hline : (apos.endLine == pos.line) = true := by rfl) (ht : backTo pos (starEach [e] X.env) = [(false, eval e X.env)] := by rfl) :
    FE X Wx (.Call (.Attribute (.Name x p) "get" apos) [e] [] pos) (eDget kvs f) :=
  (pe_tab T hg he ⟨hbase, hfew, hline, ht⟩ hd).imp fun σ H Q ⟨ρ, S, B, l, ok, sl, h⟩ => ⟨ρ, S, B, l, ok, sl, h.bind.mono fun W1 d e1 o1 ⟨_, _, h1⟩ v rv => by
    obtain ⟨r, er, q⟩ := h1.ofO
    obtain ⟨z, rfl⟩ : ∃ z, d = D.str z := by
      unfold pTab at er
      split at er
      · exact ⟨_, rfl⟩
      · cases er
    cases er
    cases rv
    refine ⟨z, rfl, q W1.H (Same.refl _) o1 _ ?_⟩
    unfold tabD tabV
    cases kvs.lookup z with
    | some i => exact .int _
    | none => exact .non⟩
end
end HL
end
section
set_option Elab.async false
set_option linter.all false
set_option maxRecDepth 100000
set_option maxHeartbeats 2000000
namespace HL
open PySem PySem.Spec L2 PyProof.Rows
def KnD (P : Program) (w : World) (K : Frag) (mg : Str → Option Value) (base : Heap) (qual x : Str) (st : Stmt) (f : Addr) (ps : List Str) (k n : Nat) (i : Int) (g : List D → Store → R D) : Prop :=
  ∃ (fd : FuncData) (u : Value), FnG P w K mg base k f fd ps (spOf K n g) ∧ Bd K fd ps [] gPos ∧ L2.RelV (.int i) u ∧ L2.Binds K fd ps [u] ∧ FunD K x qual (defArgs st) (defBody st) (defScope st) [V.int i] [] f fd
section
variable {P : Program} {w : World} {K : Frag} {mg : Str → Option Value} {base : Heap} {x qual : Str} {f : Addr} {N ps : List Str} {k n : Nat} {i : Int}
theorem KnD.of {st : Stmt} {tr : Bool} {bf : L → Store → Fl} (F : ∃ fd, FunD K x qual (defArgs st) (defBody st) (defScope st) [V.int i] [] f fd) (S : FnScope N ps (defScope st)) (hn : ps.length = n + 1)
    (hb : ∀ (T : Addr) (kV doc pm : Value) (an : Option Addr) (cdv ct : Value) (us its : List Value), us.length = n + 1 → its.length = 1 → ∃ k, bindArgs (PySem.W.fnOf x qual (defArgs st) (defBody st) (defScope st) (.ref T) kV doc pm an cdv ct) ⟨us, []⟩ = seqItems? (.ref T) >>= k ∧ k (some its.toArray) = pure (ps.zip us))
    (hb1 : ∀ (T : Addr) (kV doc pm : Value) (an : Option Addr) (cdv ct : Value) (us its : List Value), us.length = n → its.length = 1 → ∃ k, bindArgs (PySem.W.fnOf x qual (defArgs st) (defBody st) (defScope st) (.ref T) kV doc pm an cdv ct) ⟨us, []⟩ = seqItems? (.ref T) >>= k ∧ k (some its.toArray) = pure (ps.zip (us ++ its)))
    (body : ∀ (X : Cx) (E : XK), (∃ cdv A outer s H, X = cxOf (L2.CX P w) P w K mg base N qual (defScope st) f cdv A outer s H E) → Fit X (fun c d _ H => E c d H) k → FB X (fun c d _ H => E c d H) (defBody st) bf) :
    KnD P w K mg base qual x st f ps (k + 1) (n + 1) i (run tr N.length bf) := by
  obtain ⟨fd, F⟩ := F
  obtain ⟨ds, rd, B0⟩ := F.binds1 (n + 1) 1 (by simp) (by rw [hn]; rfl) (fun T kV doc pm an cdv ct us its h1 h2 => by
    obtain ⟨k, e1, e2⟩ := hb T kV doc pm an cdv ct us its h1 h2
    have e : its.drop 1 = [] := List.drop_eq_nil_of_le (by rw [h2]; exact Nat.le_refl 1)
    exact ⟨k, e1, by rw [e, List.append_nil]; exact e2⟩)
  obtain ⟨ds1, rd1, B1⟩ := F.binds1 n 0 (by simp) (by rw [hn]; rfl) (fun T kV doc pm an cdv ct us its h1 h2 => by
    obtain ⟨k, e1, e2⟩ := hb1 T kV doc pm an cdv ct us its h1 h2
    exact ⟨k, e1, by rw [List.drop_zero]; exact e2⟩)
  have hd : ds = [] := by
    have := rd.length
    simpa using this.symm
  subst hd
  cases rd1 with
  | @cons _ u _ us ru r0 =>
    cases r0
    refine ⟨fd, u, fnG_of F S (spOf.len hn) fun cdv _ A outer s H vs Q E hr h => ⟨_, body _ E ⟨cdv, A, outer, s, H, rfl⟩ ⟨takes_of rfl rfl rfl rfl, passes_of rfl, hr, rfl, S.nd⟩, spOf_body (Wx := fun E c d _ H => E c d H) rfl h⟩, ⟨fun s us ws KI hl => ?_, fun r _ => r⟩, ru, B1, F⟩
    have := B0 s us KI (by simpa using hl)
    simpa using this
end
section
variable {X : Cx} {Wx : WX} {o e : Expr} {es : List Expr} {m C qual x : Str} {st : Stmt} {ps : List Str} {j k n : Nat} {i : Int} {g : List D → Store → R D} {fo : L → Store → R D} {fa : L → Store → R (List D)} {apos pos : Pos}
theorem fe_umD {pl : Sem Bool} {fA : Addr} (h : KnD X.prog X.w X.K X.mg X.base qual x st fA ps j n i g) (c : Fit X Wx k) (cl : Cls X.K (He.ga X.K C)) (hm : Meth X.K (He.ga X.K C) m fA) (ho : FE X Wx o fo) (ha : FA X Wx (e :: es) fa) (hj : j ≤ k := by decide)
    (hst : starEach (e :: es) X.env = (false, eval e X.env) :: starEach es X.env := by rfl) (hpl : (backTo pos (starEach es X.env)).any (·.1) = false := by rfl)
    (ht : eval (.Call (.Attribute o m apos) (e :: es) [] pos) X.env = (do
      let ov ← eval o X.env
      standAt apos.atName
      let (f, first) ← holding [ov] (getMethod ov m pl)
      callWith pos f first (backTo pos (starEach (e :: es) X.env)) (backToKw pos (keywordEach [] X.env))) := by rfl) : FE X Wx (.Call (.Attribute o m apos) (e :: es) [] pos) (eUm C m n g fo fa) := by
  obtain ⟨fd, u0, G, b, _, _⟩ := h
  refine ⟨fun pins s σ H Q I ⟨ρ, S, B, l, ok, sl, h⟩ => ?_⟩
  refine PySem.W.methodCall_KW (pl := pl) (thn (ho.run pins s σ H (fun v H1 => ∃ a dx fs, v = .ref a ∧ H1 a = some (.ins (He.ga X.K C) dx fs) ∧ fs.lookup m = none ∧ tL X.K Wx fa σ H1 fun vs H2 => spOf X.K n g (.ref a :: vs) H2 Q (WE Wx σ)) I
    ⟨ρ, S, B, l, ok, sl, h.bind.mono fun W1 d e1 o1 ⟨_, _, h1⟩ v rv => ?_⟩) fun u s1 ⟨v, H1, I1, rx, a, dx, fs, ev, ea, hl, q⟩ => ?_) ht
  · have eB : W1.B = B := e1.B
    obtain ⟨ρ1, S1, H1, B1⟩ := W1
    cases eB
    cases hi : insOf C d S1 with
    | none => rw [hi] at h1; exact h1.elim
    | some y =>
      rw [hi] at h1
      obtain ⟨ks, xs⟩ := y
      dsimp only at h1
      by_cases hmk : m ∈ ks
      · rw [if_pos hmk] at h1; exact h1.elim
      · rw [if_neg hmk] at h1
        obtain ⟨a, dx, fs, rfl, hA, hn⟩ := um_obj (W := ⟨ρ1, S1, H1, B1⟩) o1 rv hi hmk
        refine ⟨a, dx, fs, rfl, hA, hn, ρ1, S1, B1, l, o1, sl.ext e1 ok, h1.bind.mono fun W2 ds e2 o2 ⟨_, _, h2⟩ vs rvs => ?_⟩
        obtain ⟨hc, h2⟩ := Post.iff_ok h2
        exact kn_sp o2 (.cons (rv.ext e2 o1) rvs) hc h2
  · subst ev
    obtain rfl : u = Value.ref a := rx
    refine getmeth_ok I1 ea cl hm hl ?_
    refine PySem.W.callWith_K (first := [.ref a]) (h₀ := X.base) I1.ok.mod.kin hm.kp (thn (ha.run pos pins s1 σ H1 _ I1 q) fun us s2 ⟨vs, H2, I2, r, q2⟩ => ⟨I2.kIn, ?_⟩) hst hpl
    exact run_g0 (us := .ref a :: us) (vs := .ref a :: vs) (G.mono hj) c.rm b (passAt c.tk σ) I2 (.cons rfl r) q2
/-- .. the last argument left out -/
theorem fe_umD1 {pl : Sem Bool} {fA : Addr} (h : KnD X.prog X.w X.K X.mg X.base qual x st fA ps j (n + 1) i g) (c : Fit X Wx k) (cl : Cls X.K (He.ga X.K C)) (hm : Meth X.K (He.ga X.K C) m fA) (ho : FE X Wx o fo) (ha : FA X Wx (e :: es) fa) (hj : j ≤ k := by decide)
    (hst : starEach (e :: es) X.env = (false, eval e X.env) :: starEach es X.env := by rfl) (hpl : (backTo pos (starEach es X.env)).any (·.1) = false := by rfl)
    (ht : eval (.Call (.Attribute o m apos) (e :: es) [] pos) X.env = (do
      let ov ← eval o X.env
      standAt apos.atName
      let (f, first) ← holding [ov] (getMethod ov m pl)
      callWith pos f first (backTo pos (starEach (e :: es) X.env)) (backToKw pos (keywordEach [] X.env))) := by rfl) : FE X Wx (.Call (.Attribute o m apos) (e :: es) [] pos) (eUm C m n (fun ds => g (ds ++ [.int i])) fo fa) := by
  obtain ⟨fd, u0, G, _, ru, b, _⟩ := h
  refine ⟨fun pins s σ H Q I ⟨ρ, S, B, l, ok, sl, h⟩ => ?_⟩
  refine PySem.W.methodCall_KW (pl := pl) (thn (ho.run pins s σ H (fun v H1 => ∃ a dx fs, v = .ref a ∧ H1 a = some (.ins (He.ga X.K C) dx fs) ∧ fs.lookup m = none ∧ tL X.K Wx fa σ H1 fun vs H2 => spOf X.K (n + 1) g (.ref a :: vs ++ [.int i]) H2 Q (WE Wx σ)) I
    ⟨ρ, S, B, l, ok, sl, h.bind.mono fun W1 d e1 o1 ⟨_, _, h1⟩ v rv => ?_⟩) fun u s1 ⟨v, H1, I1, rx, a, dx, fs, ev, ea, hl, q⟩ => ?_) ht
  · have eB : W1.B = B := e1.B
    obtain ⟨ρ1, S1, H1, B1⟩ := W1
    cases eB
    cases hi : insOf C d S1 with
    | none => rw [hi] at h1; exact h1.elim
    | some y =>
      rw [hi] at h1
      obtain ⟨ks, xs⟩ := y
      dsimp only at h1
      by_cases hmk : m ∈ ks
      · rw [if_pos hmk] at h1; exact h1.elim
      · rw [if_neg hmk] at h1
        obtain ⟨a, dx, fs, rfl, hA, hn⟩ := um_obj (W := ⟨ρ1, S1, H1, B1⟩) o1 rv hi hmk
        refine ⟨a, dx, fs, rfl, hA, hn, ρ1, S1, B1, l, o1, sl.ext e1 ok, h1.bind.mono fun W2 ds e2 o2 ⟨_, _, h2⟩ vs rvs => ?_⟩
        obtain ⟨hc, h2⟩ := Post.iff_ok h2
        exact kn_sp o2 ((Reps.cons (rv.ext e2 o1) rvs).append (.cons (.int i) .nil)) (by simp; omega) h2
  · subst ev
    obtain rfl : u = Value.ref a := rx
    refine getmeth_ok I1 ea cl hm hl ?_
    refine PySem.W.callWith_K (first := [.ref a]) (h₀ := X.base) I1.ok.mod.kin hm.kp (thn (ha.run pos pins s1 σ H1 _ I1 q) fun us s2 ⟨vs, H2, I2, r, q2⟩ => ⟨I2.kIn, ?_⟩) hst hpl
    have r2 : Vals (.ref a :: vs ++ [V.int i]) (.ref a :: us ++ [u0]) := Vals.append (.cons rfl r) (.cons ru .nil)
    have hlen : (Value.ref a :: us ++ [u0]).length = ps.length := by rw [← r2.length]; exact G.len _ _ _ _ q2
    refine wpAny_call (codeAny_mono ((G.mono hj).go X.A X.stack s2 H2 _ _ _ Q (WE Wx σ) c.rm I2.env0 (b s2 (.ref a :: us) I2.kIn hlen) r2 q2) fun r s' hq => ?_)
    have z := out_g (passAt c.tk σ) I2 hq
    cases r with
    | error e => exact z
    | ok fl => cases fl with
      | ret u => exact z
      | next => exact z.elim
      | brk => exact z.elim
      | cont => exact z.elim
/-- .. by names alone; le: what is left out -/
theorem fe_umKD {pl : Sem Bool} {fA : Addr} {kws : List Keyword} {fk : L → Store → R (List D)} (lf : Bool) (b : Nat) (ix : List Nat) {ks : List Str} (h : KnD X.prog X.w X.K X.mg X.base qual x st fA ps j (n + if lf then 1 else 0) i g) (c : Fit X Wx k) (cl : Cls X.K (He.ga X.K C)) (hm : Meth X.K (He.ga X.K C) m fA) (ho : FE X Wx o fo) (hk : FK X Wx kws fk)
    (hbk : ∀ (T : Addr) (kV doc pm : Value) (an : Option Addr) (cdv ct : Value) (self : Value) (ws its : List Value), ws.length = b → its.length = 1 → ∃ k, bindArgs (PySem.W.fnOf x qual (defArgs st) (defBody st) (defScope st) (.ref T) kV doc pm an cdv ct) ⟨[self], ks.zip ws⟩ = seqItems? (.ref T) >>= k ∧ k (some its.toArray) = pure (ps.zip (self :: gIx ix ws ++ if lf then its else [])))
    (hj : j ≤ k := by decide) (hall : (backToKw pos (keywordEach kws X.env)).all (·.1.isSome) = true := by rfl) (hks : (backToKw pos (keywordEach kws X.env)).filterMap (·.1) = ks := by rfl)
    (hpl : ((backTo pos (starEach [] X.env)).any (·.1) || (backToKw pos (keywordEach kws X.env)).any (·.1.isNone)) = false := by rfl)
    (ht : eval (.Call (.Attribute o m apos) [] kws pos) X.env = (do
      let ov ← eval o X.env
      standAt apos.atName
      let (f, first) ← holding [ov] (getMethod ov m pl)
      callWith pos f first (backTo pos (starEach [] X.env)) (backToKw pos (keywordEach kws X.env))) := by rfl) : FE X Wx (.Call (.Attribute o m apos) [] kws pos) (eUmK0 C m n b ix (fun ds => g (ds ++ if lf then [.int i] else [])) fo fk) := by
  obtain ⟨fd, u0, G, _, _, _, F⟩ := h
  refine ⟨fun pins s σ H Q I ⟨ρ, S, B, l, ok, sl, h⟩ => ?_⟩
  refine PySem.W.methodCall_KW (pl := pl) (thn (ho.run pins s σ H (fun v H1 => ∃ a dx fs, v = .ref a ∧ H1 a = some (.ins (He.ga X.K C) dx fs) ∧ fs.lookup m = none ∧ tL X.K Wx fk σ H1 fun zs H2 => ∃ ρ2 S2 ds, Ok X.K ⟨ρ2, S2, H2, B⟩ ∧ Reps X.K ⟨ρ2, S2, H2, B⟩ ds (.ref a :: gIx ix zs ++ if lf then [.int i] else []) ∧ zs.length = b ∧ ds.length = n + (if lf then 1 else 0) ∧ Post X.K Wx σ ⟨ρ2, S2, H2, B⟩ (g ds S2) fun W d => ∀ v, Rep X.K W d v → Q v W.H) I
    ⟨ρ, S, B, l, ok, sl, h.bind.mono fun W1 d e1 o1 ⟨_, _, h1⟩ v rv => ?_⟩) fun u s1 ⟨v, H1, I1, rx, a, dx, fs, ev, ea, hl, q⟩ => ?_) ht
  · have eB : W1.B = B := e1.B
    obtain ⟨ρ1, S1, H1, B1⟩ := W1
    cases eB
    cases hi : insOf C d S1 with
    | none => rw [hi] at h1; exact h1.elim
    | some y =>
      rw [hi] at h1
      obtain ⟨ks', xs⟩ := y
      dsimp only at h1
      by_cases hmk : m ∈ ks'
      · rw [if_pos hmk] at h1; exact h1.elim
      · rw [if_neg hmk] at h1
        obtain ⟨a, dx, fs, rfl, hA, hn⟩ := um_obj (W := ⟨ρ1, S1, H1, B1⟩) o1 rv hi hmk
        refine ⟨a, dx, fs, rfl, hA, hn, ρ1, S1, B1, l, o1, sl.ext e1 ok, h1.bind.mono fun W2 es e2 o2 ⟨_, _, h2⟩ zs rzs => ?_⟩
        have eB2 : W2.B = B1 := e2.B
        obtain ⟨ρ2, S2, H2, B2⟩ := W2
        cases eB2
        obtain ⟨hc, h2⟩ := Post.iff_ok h2
        refine ⟨ρ2, S2, d :: gIx ix es ++ (if lf then [.int i] else []), o2, Reps.append (.cons (rv.ext e2 o1) (gIx_reps rzs ix)) ?_, by rw [← rzs.length]; exact hc.1, ?_, h2⟩
        · cases lf
          · exact .nil
          · exact .cons (.int i) .nil
        · have h3 := hc.2
          cases lf <;> simp <;> omega
  · subst ev
    obtain rfl : u = Value.ref a := rx
    refine getmeth_ok I1 ea cl hm hl ?_
    refine PySem.W.callWith_KW0 (first := [.ref a]) (h₀ := X.base) I1.ok.mod.kin hm.kp hall (thn (hk.run pos pins s1 σ H1 _ I1 q) fun ws s2 ⟨zs, H2, I2, rz, ρ2, S2, ds, o2, rr, l2, l3, q2⟩ => ⟨I2.kIn, ?_⟩) hpl
    rw [hks]
    obtain ⟨its, ri, hbt⟩ : ∃ its, Vals [V.int i] its ∧ BindsTo s2 fd ⟨[Value.ref a], ks.zip ws⟩ (ps.zip (Value.ref a :: gIx ix ws ++ if lf then its else [])) := by
      obtain ⟨oc, od, dV, kV, doc, pm, an, cdv, ct, osl, rfl, lk, hcd, hD, hK⟩ := F.ex
      rcases hD with ⟨e, _⟩ | ⟨_, T, oT, its, mT, rfl, lT, oT, rT⟩
      · cases e
      · refine ⟨its, rT, ?_⟩
        obtain ⟨k, e1, e2⟩ := hbk T kV doc pm an cdv ct (.ref a) ws its (by rw [← rz.length]; exact l2) rT.length.symm
        refine BindsTo.of_looks fun M => ?_
        rw [e1]
        exact looks_items I2.kIn lT oT (.of_pure e2)
    have r2 : Vals (V.ref a :: gIx ix zs ++ if lf then [.int i] else []) (Value.ref a :: gIx ix ws ++ if lf then its else []) := by
      refine Vals.append (.cons rfl (gIx_vals rz ix)) ?_
      cases lf
      · exact .nil
      · exact ri
    refine wpAny_call (codeAny_mono (run_kn (W := ⟨ρ2, S2, H2, B⟩) G (c.rm.mono hj) c.tk hbt I2 r2 o2 rr l3 q2) fun r s' hq => ?_)
    cases r with
    | error e => exact hq
    | ok fl => cases fl with
      | ret u => exact hq
      | next => exact hq.elim
      | brk => exact hq.elim
      | cont => exact hq.elim
end
end HL
end
section
set_option Elab.async false
set_option linter.all false
set_option maxRecDepth 100000
set_option maxHeartbeats 2000000
/-! HX1: a class of errors with one field whose __init__ calls super().__init__() and sets it: making one (raw); its base is a built-in's or a class of the program over it. -/
namespace PySem
namespace ExX
open PySem.W PySem.Calls PyProof.Rows PySem.HandSPX Builtin Builtin.ObjectAttr
def iA (f : Str) (q : Nat → Pos) : Arguments := { posonlyargs := [], args := [{ arg := "self", annotation := none, pos := q 0 }, { arg := f, annotation := none, pos := q 1 }], vararg := none, kwonlyargs := [], kw_defaults := [], kwarg := none, defaults := [] }
def iB (f : Str) (q : Nat → Pos) : List Stmt := [.Expr (.Call (.Attribute (.Call (.Name "super" (q 0)) [] [] (q 1)) "__init__" (q 2)) [] [] (q 3)) (q 4), .Assign [.Attribute (.Name "self" (q 5)) f (q 6)] (.Name f (q 7)) (q 8)]
def iS (f : Str) : Scope := { kind := .function, names := [(PySem.Str.ofString "self", .local), (f, .local), (PySem.Str.ofString "__class__", .free), (PySem.Str.ofString "super", .globalImplicit)], isGenerator := false, isCoroutine := false, more := [] }
/-- what is asked of the program -/
structure TopX (P : Program) (mg : Str → Option Value) : Prop where
  top : (P.main.scope.names.lookup ("super" : Str)).isSome = false
  free : mg "super" = none
/-- what the head says of a class x at C of errors with the field f, and of its __init__ at fI -/
structure XTxt (P : Program) (K : Frag) (mg : Str → Option Value) (nm f : Str) (C fI : Addr) : Prop where
  nf : f = "given" ∨ f = "index" ∨ f = "most"
  gC : mg nm = some (.ref C)
  cls : ∃ B newId initId bmB n q N bs bm sn sub ab col dd k0 k1 k2 k3 k5, K.lookup C = some (excClassObj n q C N bs bm true sn sub ab col dd k0 k1 k2 k3 k5 newId) ∧ ExcBaseFacts B newId initId bmB ∧ KxsFacts B initId ∧
    (∀ X : String, bm.contains (.type X) = bmB.contains (.type X)) ∧ (∀ self, refuseLoop self "__setattr__" bm = pure ()) ∧ bm.contains (.type "object") = true ∧ alongIn K "__init__" bm = some (some (.builtin initId)) ∧ subIn K (.ref C) (.type B) = some true ∧ mroIn K C (.ref C) = some true
  sa : findIn K (.ref C) "__setattr__" = some (some (.builtin "object.__setattr__"))
  ga : findIn K (.ref C) "__getattribute__" = some (some (.builtin "BaseException.__getattribute__"))
  gg : findIn K (.ref C) "__getattr__" = some none
  noN : findIn K (.ref C) f = some none
  iC : findIn K (.ref C) "__init__" = some (some (.ref fI))
  tC : typeIn K (.ref fI) = some (.type "function")
  kC : keepIn K (.ref C) = true
  exC : subIn K (.ref C) (.type "BaseException") = some true
  tyC : typeIn K (.ref C) = some (.type "type")
  hdC : hasDictIn K C = true
  op : nsIn K cStatics "thirdparty.any" = some none
  fn : ∃ (oc : Value) (od : Option Addr) (qual : Str) (doc pm : Value) (an : Option Addr) (cda cc : Addr) (ct : Value) (osl : Array (Option Value)) (q p : Nat → Pos) (ccl : Value) (cdd : Option Addr) (vs : Array Value) (ccs : Array (Option Value)) (file : Str) (tf : Tok) (cl : Value) (cld : Option Addr) (csl : Array (Option Value)),
    K.lookup fI = some ⟨oc, od, .func (ksFn "__init__" qual (iA f q) (iB f p) (iS f) .none .none doc pm an (.ref cda) ct cc), osl⟩ ∧ codeIn K (.ref cda) qual = true ∧
    K.lookup cda = some ⟨ccl, cdd, .fields vs, ccs⟩ ∧ vs[2]? = some (.str file tf) ∧ ((P.main.file : Str) == file) = true ∧ K.lookup cc = some ⟨cl, cld, .cell (some (.ref C)), csl⟩ ∧ ((p 2).endLine == (p 3).line) = true
theorem one_size (v : Value) : [v].length ≤ sizeLine := by
  rw [sizeLine_eq]
  exact (by decide : 1 ≤ 16777216)
theorem ldC {M : Model} {A : Around} {s : Shared} {env : Env} {L : Addr} {m : Str → Option Value} {x : Str} {pos : Pos} {v : Value} {Q : Value → Shared → Prop} {E : Value → Shared → Prop} (hL : env.locals = L) (hn : s.heap.Ns L m) (hv : m x = some v) (h : Q v s)
    (hk : env.scope.kind = .function) (hl : env.kindOf x = some .local) (hd : (x == ("__debug__" : Str)) = false) :
    wpAny M A (eval (.Name x pos) env) Q E s := by
  subst hL
  exact wpAny_Name (wpAny_loadName_local hk hl hn hv h) hd
theorem call_eq {o : Expr} {name : Str} {apos pos : Pos} {env : Env} (hline : (apos.endLine == pos.line) = true) : eval (.Call (.Attribute o name apos) [] [] pos) env = (do
      let ov ← attributeBase o name env (eval o env)
      standAt apos.atName
      let (f, first) ← holding [ov] (getMethod ov name (do return (← importBound o env).getD true))
      callWith pos f first (backTo pos (starEach [] env)) []) := by
  have hpos : methodCallPos true o env apos pos = pure pos := by unfold methodCallPos; simp [hline]
  rw [arm_eval_Call]
  have hform : methodCallForm (([] : List Expr).length + ([] : List Keyword).length) (backTo pos (starEach [] env)) (backToKw pos (keywordEach [] env)) = true := rfl
  unfold methodCall
  rw [hform]
  simp only [hpos, pure_bind, calleeOf, if_true]
  rfl
/-- what __init__ leaves of a fresh exception at x -/
structure InitEnd (h h' : Heap) (f : Str) (x C dx t1 : Addr) (v : Value) : Prop where
  keep : ∀ b o, b ≠ x → h.get? b = some o → h'.get? b = some o
  obj : h'.get? x = some { cls := .ref C, dict := some dx, data := .fields #[.ref t1, .none, .none, .none, .bool false, .none] }
  dbig : h.objs.size ≤ dx
  dne : dx ≠ x
  ns : h'.Ns1 dx (fun y => if y = f then some v else none)
/-- a made error -/
structure OwnMade (h h' : Heap) (f : Str) (e C d : Addr) (v : Value) : Prop where
  keep : ∀ b o, h.get? b = some o → h'.get? b = some o
  new : h.objs.size ≤ e
  obj : ∃ oe vs, h'.get? e = some oe ∧ oe.cls = .ref C ∧ oe.dict = some d ∧ oe.data = .fields vs ∧ vs[1]? = some .none
  dbig : h.objs.size ≤ d
  dne : d ≠ e
  ns : h'.Ns1 d (fun y => if y = f then some v else none)
section
variable {prog : Program} {w : World} {A : Around} {E : Value → Shared → Prop} {R : Result → Shared → Prop} {hp : Heap} {g : Array GenState} {d : Drawn} {t : Nat} {os : OsState}
/-- exc_osa over any built-in base that lets __setattr__ pass -/
theorem exc_osaB {K : W.Frag} {name : Str} {tk : Tok} {v : Value} {x C : Addr} {fv : Array Value} {cd : ClassData}
    (X : K.In hp) (hx : hp.get? x = some { cls := .ref C, data := .fields fv }) (hcd : W.clsIn K C = some cd) (hps : ∀ self, refuseLoop self "__setattr__" cd.mro = pure ()) (ne : cd.mro.isEmpty = false) (hob : cd.mro.contains (.type "object") = true) (hh : cd.hasDict = true) (ha : W.findIn K (.ref C) name = some none)
    (hq : ∀ h' tk' dx, (∀ b o, b ≠ x → hp.get? b = some o → h'.get? b = some o) → hp.objs.size ≤ dx → dx ≠ x → h'.get? x = some { cls := .ref C, dict := some dx, data := .fields fv } →
      h'.Ns1 dx (fun y => if y = name then some v else none) → R (.ok (.ret .none)) ⟨h', g, d, tk', os⟩) :
    codeAny (model prog w) A (.call (.builtin "object.__setattr__") ⟨[.ref x, .str name tk, v], []⟩) R ⟨hp, g, d, t, os⟩ := by
  have I : W.InstAt hp x { cls := .ref C, data := .fields fv } C none := ⟨hx, rfl, rfl, trivial⟩
  have SF := F.store_object
  have hxs : x ≠ hp.objs.size := Nat.ne_of_lt (Heap.lt_size hx)
  have sub : W.Looks (model prog w) hp (isInstance (.ref x) (.type "object")) true := I.type.andThen (W.looks_mroIn X (by unfold W.mroIn; rw [hcd, Option.bind_some, if_neg (by rw [ne]; decide), hob]))
  refine codeAny_call_builtin SF.slot.plain SF.entry (@W.check_slot (model prog w) _ _ ⟨hp, g, d, t, os⟩ "object.__setattr__" "object" "__setattr__" (.ref x) [.str name tk, v] [] _ SF.kind SF.split sub (SF.args (.ref x) (.str name tk) v) ?_)
  have hmr : W.Looks (model prog w) hp (mroOf (.ref C)) cd.mro := (W.looks_clsIn X hcd).andThen .now
  have L3 : W.Looks (model prog w) hp (storeTaker? none) none := .now
  have hcls : W.Looks (model prog w) hp (classData C) cd := W.looks_clsIn X hcd
  rw [W.osa_eq, refuse_eq]
  refine wpAny_bind (wpAny_bind (I.type.at (wpAny_bind (hmr.at ?_))))
  rw [hps]
  refine wpAny_pure (wpAny_bind (I.type.at (wpAny_bind ((W.looks_findIn X ha).at (wpAny_bind (L3.at ?_))))))
  show wpAny _ _ (storeInOwnDict (.ref x) (.ref C) (.str name tk) name v false) _ _ _
  obtain ⟨nm, bs, mro, ns, qn, hd, sn, sb, ab, col, del⟩ := cd
  dsimp only at hh
  subst hh
  unfold storeInOwnDict ownDictForStores
  repeat (first | with_reducible refine store_in_new ?_ ?_ | with_reducible refine wpAny_loadPart_at hx ?_ | with_reducible refine hcls.at ?_ | wp_step)
  · exact ⟨_, #[], _, (Heap.get?_update_ne _ _ _ _ hxs.symm).trans (Heap.get?_push_at rfl rfl), rfl, fun e he => absurd he (by simp), fun _ => rfl⟩
  · intro h' tk' hn' hs
    have hx₁ : (hp.push { cls := .type "dict", data := .dict #[] }).get? x = some { cls := .ref C, data := .fields fv } := Heap.get?_push_of_some _ hx
    refine hq h' tk' hp.objs.size (fun b o hb ho => ?_) (Nat.le_refl _) hxs.symm ?_ hn'
    · exact (hs.2 b (Nat.ne_of_lt (Heap.lt_size ho))).trans ((Heap.get?_update_ne _ _ _ _ hb).trans (Heap.get?_push_of_some _ ho))
    · exact (hs.2 x hxs).trans (Heap.get?_update_self _ hx₁ rfl)
end
section
variable {prog : Program} {w : World} {A : Around} {E : Value → Shared → Prop} {R : Result → Shared → Prop} {s : Shared} {K : Frag} {mg mb : Str → Option Value} {nm f : Str} {C fI : Addr}
theorem x_init (T : XTxt prog K mg nm f C fI) (TP : TopX prog mg) {x t0 : Addr} {v : Value} {args : Args} (ha : args = ⟨[.ref x, v], []⟩ ∨ args = ⟨[.ref x], [(f, v)]⟩) (X : K.In s.heap) (hg : s.heap.Ns mainGlobals mg) (hb : s.heap.Ns builtinsNs mb) (hbs : mb "super" = some (.type "super")) (hlim : s.heap.NoLimit) (hx : s.heap.get? x = some (excO C t0)) (hnx : K.lookup x = none) (hroom : A.depth < recursionLimit)
    (hq : ∀ h' tk dx t1, InitEnd s.heap h' f x C dx t1 v → R (.ok (.ret .none)) { s with heap := h', toks := tk }) :
    codeAny (model prog w) A (.call (.ref fI) args) R s := by
  obtain ⟨oc, od, qual, doc, pm, an, cda, cc, ct, osl, q, p, ccl, cdd, vs, ccs, file, tf, cl, cld, csl, ho, hcd, hcode, hvs, hfile, hcell, hline⟩ := T.fn
  obtain ⟨B, newId, initId, bmB, n, cq, N, bs, bm, sn, sub, ab, col, dd, k0, k1, k2, k3, k5, hC, FB, KF, hT, hps, hobj, hal, hsB, hsC⟩ := T.cls
  have hcl : clsIn K C = some { name := n, bases := bs, mro := .ref C :: bm, ns := N, qualname := cq, hasDict := true, slotNames := sn, subclasses := sub, abstract := ab, collection := col, hasDel := false } := by unfold clsIn; rw [hC] <;> rfl
  have fnot : (f == ("self" : Str)) = false ∧ (f == ("__debug__" : Str)) = false ∧ (("self" : Str) == f) = false ∧ (("__class__" : Str) == f) = false ∧ (("super" : Str) == f) = false := by
    rcases T.nf with rfl | rfl | rfl <;> decide
  refine ks_codeAny_call_defAt (fd := ksFn "__init__" qual (iA f q) (iB f p) (iS f) .none .none doc pm an (.ref cda) ct cc) (body := iB f p) (binds := [("self", .ref x), (f, v)]) hroom (X _ _ ho) rfl hlim (codeRec_of X hcd) rfl ?_ ?_ ?_ (fun h₁ hns k => ?_) rfl rfl rfl
  · rcases ha with rfl | rfl <;> rcases T.nf with rfl | rfl | rfl <;> exact BindsTo.of_eq (by first | rfl | with_unfolding_all rfl)
  · show ∀ y ∈ (iS f).names, y.2 ≠ .cell
    rcases T.nf with rfl | rfl | rfl <;> decide
  · intro y hy
    show (iS f).names.lookup y.1 = some .local
    have hy2 : y = ((PySem.Str.ofString "self", Value.ref x) : Str × Value) ∨ y = (f, v) := by
      rcases List.mem_cons.mp hy with e | hy
      · exact .inl e
      · exact .inr (List.mem_singleton.mp hy)
    rcases hy2 with rfl | rfl
    · rfl
    · show (iS f).names.lookup f = some .local
      rcases T.nf with rfl | rfl | rfl <;> rfl
  have kl : (iS f).names.lookup f = some .local := by rcases T.nf with rfl | rfl | rfl <;> rfl
  have X₁ : K.In h₁ := X.keeps k
  have hx₁ := k _ _ hx
  have hC₁ := X₁ _ _ hC
  have hlt : s.heap.objs.size < h₁.objs.size := hns.lt
  have hxL : x < s.heap.objs.size := Heap.lt_size hx
  obtain ⟨hh, g, d, tk, os⟩ := s
  refine ks_wpAt_execs_cons ?_
  refine ks_wpAt_Expr_any ?_
  refine ks_wpAt_MethodCall ?_ (call_eq hline)
  have ks : (iS f).names.lookup ("super" : Str) = some .globalImplicit := by rcases T.nf with rfl | rfl | rfl <;> rfl
  have kc : (iS f).names.lookup ("__class__" : Str) = some .free := by rcases T.nf with rfl | rfl | rfl <;> rfl
  have kself : (iS f).names.lookup ("self" : Str) = some .local := by rcases T.nf with rfl | rfl | rfl <;> rfl
  refine ks_wpAt_super_base (env := ksEnv qual (iS f) hh.objs.size fI (.ref cda) cc) ks kc rfl rfl (X₁ _ _ ho) rfl rfl rfl (X₁ _ _ hcode) rfl hvs hfile TP.top ?_
  refine ks_loadName_global rfl ks (loadGlobal_builtin (env := ksEnv qual (iS f) hh.objs.size fI (.ref cda) cc) (hg.keeps k) TP.free (hb.keeps k) hbs ⟨rfl, ?_⟩)
  refine wpAny_loadName_free rfl kc rfl ⟨_, X₁ _ _ hcell, rfl⟩ ?_
  have mself : List.lookup ("self" : Str) [((f, v) : Str × Value), ("self", .ref x)] = some (.ref x) := by simp [List.lookup, fnot]
  have mf : List.lookup f [((f, v) : Str × Value), ("self", .ref x)] = some v := by simp [List.lookup]
  refine wpAny_loadName_local rfl kself hns mself ?_
  refine ks_wpAny_isType_cls hC₁ rfl ⟨rfl, ?_⟩
  refine ks_wpAny_call_super hC₁ rfl hx₁ rfl (fun c e => by cases e) (looks_mroIn X₁ hsC) (fun h₂ e2 k2 => ?_)
  have X₂ : K.In h₂ := X₁.keeps k2
  have hx₂ := k2 _ _ hx₁
  have hC₂ := X₂ _ _ hC
  have hxC : x ≠ C := fun z => by
    rw [z] at hx₁
    rw [hC₁] at hx₁
    cases hx₁
  have I₂ : InstAt h₂ x (excO C t0) C none := ⟨hx₂, rfl, rfl, trivial⟩
  refine kxs_getMethod (K := K) KF e2 (looks_opaque X₂ T.op) (l₀ := .ref C :: bm) (l := bm) ?_ ?_ X₂ hal (I₂.type.andThen (looks_subIn X₂ hsB)) hxC rfl ?_
  · exact fun A Q E s k q => wpAny_bind ((looks_clsIn X₂ hcl) A _ E s k (wpAny_pure q))
  · simp
  have kk : (h₂.push (kxs_mw initId x)).get? h₂.objs.size = some (kxs_mw initId x) := Heap.get?_push_size h₂ rfl
  refine kxs_callWith (i := initId) (x := x) rfl (evalArgs_empty ⟨kk, ?_⟩)
  have hx₃ : (h₂.push (kxs_mw initId x)).get? x = some (excO C t0) := Heap.get?_push_of_some _ hx₂
  have hC₃ : (h₂.push (kxs_mw initId x)).get? C = _ := Heap.get?_push_of_some _ hC₂
  refine wpAny_call (codeAny_of_tree ?_)
  show wpAny _ _ (callAny (.ref h₂.objs.size) ⟨[], []⟩) _ _ _
  simp only [callAny]
  refine wpAny_bind (wpAny_load kk ?_)
  simp only [kxs_mw, show (Value.type "method-wrapper" == Value.type "method" || Value.type "method-wrapper" == Value.type "builtin_function_or_method" || Value.type "method-wrapper" == Value.type "method-wrapper") = true by decide, if_true]
  refine KFB.if_so (by decide) ?_
  refine wpAny_bind (check_bound_init FB.toExcCallFacts hC₃ hx₃ rfl ?_)
  refine wpAny_bind (wpAny_pure (wpAny_pure ?_))
  refine ⟨plainId_quiet FB.init.plain _, codeAny_builtin FB.initEntry ?_⟩
  refine exc_init_tree (cls := .ref C) (t0 := t0) (dv := none) (c2 := .none) (c3 := .none) (b4 := .bool false) hx₃ (by rw [sizeLine_eq]; decide) fun h₄ k4 hx4 ht4 => ?_
  -- self.f = f
  have k04 : ∀ b o, b ≠ x → hh.get? b = some o → h₄.get? b = some o := fun b o hb e => k4 b o hb (Heap.get?_push_of_some _ (k2 _ _ (k _ _ e)))
  have X₄ : K.In h₄ := fun a o e => k4 a o (fun z => by rw [z, hnx] at e; cases e) (Heap.get?_push_of_some _ (X₂ _ _ e))
  have hns4 : h₄.Ns hh.objs.size (fun y => List.lookup y [((f, v) : Str × Value), ("self", .ref x)]) := by
    obtain ⟨oL, es, ep, hL, r⟩ := hns
    exact ⟨oL, es, ep, k4 _ _ (Nat.ne_of_gt hxL) (Heap.get?_push_of_some _ (k2 _ _ hL)), r⟩
  have zz : hh.objs.size < h₄.objs.size := hns4.lt
  show PySem.wpAt _ _ _ (execs [.Assign [.Attribute (.Name "self" (p 5)) f (p 6)] (.Name f (p 7)) (p 8)] _) _ _ _
  refine wpAt_of_wpAny (wpAny_execs_cons (plainObj_wpAny_Assign_Attribute ?_ ?_))
  · refine ldC (v := v) rfl hns4 mf (ldC (v := .ref x) rfl hns4 mself ?_ rfl kself (by decide)) rfl kl fnot.2.1
    refine set_plain X₄ (ox := excO C (h₂.push (kxs_mw initId x)).objs.size) (od := none) ⟨hx4, rfl, rfl, trivial⟩ T.sa ?_
    refine exc_osaB X₄ hx4 hcl ?_ ?_ ?_ rfl T.noN (fun h₅ tk₅ dx k₅ dn dne hx₅ hn₅ => ?_)
    · intro self
      show refuseLoop self "__setattr__" (.ref C :: bm) = _
      rw [refuseLoop_ref]
      exact hps self
    · rfl
    · show List.contains (.ref C :: bm) _ = true
      rw [List.contains_cons, hobj, Bool.or_true]
    · show wpAny _ _ (execs _ _) _ _ _
      exact wpAny_execs_nil (hq h₅ tk₅ dx _ ⟨fun b o hb e => k₅ b o hb (k04 b o hb e), hx₅, Nat.le_of_lt (Nat.lt_of_lt_of_le zz dn), dne, hn₅⟩)
  · rcases T.nf with rfl | rfl | rfl <;> rfl
theorem x_made (T : XTxt prog K mg nm f C fI) (TP : TopX prog mg) {v : Value} (X : K.In s.heap) (hg : s.heap.Ns mainGlobals mg) (hb : s.heap.Ns builtinsNs mb) (hbs : mb "super" = some (.type "super")) (hlim : s.heap.NoLimit) (hroom : A.depth + 1 < recursionLimit)
    (hq : ∀ h' tk e d, OwnMade s.heap h' f e C d v → R (.ok (.ret (.ref e))) { s with heap := h', toks := tk }) :
    codeAny (model prog w) A (.call (.ref C) ⟨[v], []⟩) R s := by
  obtain ⟨B, newId, initId, bmB, n, cq, N, bs, bm, sn, sub, ab, col, dd, k0, k1, k2, k3, k5, hC, FB, KF, hT, hps, hobj, hal, hsB, hsC⟩ := T.cls
  obtain ⟨hp, g, dr, tk, os⟩ := s
  have k : ∀ b o, hp.get? b = some o → ((hp.push (kdv_tup [v])).push (excO C hp.objs.size)).get? b = some o := fun b o e => Heap.get?_push_of_some _ (Heap.get?_push_of_some _ e)
  have hget : ((hp.push (kdv_tup [v])).push (excO C hp.objs.size)).get? (hp.objs.size + 1) = some (excO C hp.objs.size) := by heap_get
  have hnx : K.lookup (hp.objs.size + 1) = none := by
    cases e : K.lookup (hp.objs.size + 1) with
    | none => rfl
    | some o =>
      have z : hp.get? (hp.objs.size + 1) = some o := X _ _ e
      exact absurd (Nat.lt_of_succ_lt (Heap.lt_size z)) (Nat.lt_irrefl _)
  refine call_own FB hT (X _ _ hC) (looks_findIn X T.iC) (fun self => bind_fn X self T.tC) (one_size v) ?_
  refine x_init (s := ⟨(hp.push (kdv_tup [v])).push (excO C hp.objs.size), g, dr, tk, os⟩) T TP (.inl rfl) (X.keeps k) (hg.keeps k) (hb.keeps k) hbs (hlim.keeps k) hget hnx ?_ fun h' tk' dx t1 ⟨k', hx, dn, dne, hns⟩ => ?_
  · show A.depth + 1 < recursionLimit
    exact hroom
  · have old : ∀ b o, hp.get? b = some o → h'.get? b = some o := fun b o e => k' b o (Nat.ne_of_lt (Nat.lt_succ_of_lt (Heap.lt_size e))) (k b o e)
    have z : hp.objs.size + 1 + 1 ≤ dx := by
      first
        | (simpa only [Heap.size_push] using dn)
        | exact dn
        | (have q := dn; rw [Heap.size_push, Heap.size_push] at q; exact q)
    exact ⟨rfl, hq h' tk' (hp.objs.size + 1) dx ⟨old, Nat.le_succ _, ⟨_, _, hx, rfl, rfl, rfl, rfl⟩, Nat.le_trans (Nat.le_trans (Nat.le_succ _) (Nat.le_succ _)) z, dne, hns⟩⟩
end
end ExX
end PySem
end
section
set_option Elab.async false
set_option linter.all false
set_option maxRecDepth 100000
set_option maxHeartbeats 2000000
/-! HX2: try with clauses, where the caught error is a thing like others (tracked). -/
namespace L2
open PySem PySem.Spec PyProof.Rows
open HL (exq)
section
variable {X : Cx} {pins : List (Addr × Obj)} {σ : St} {H : Hp} {s : Shared}
theorem exq_ok {P : Program} {w : World} {H : Hp} {h : Heap} {a : Addr} {cls : Value} {d : Option Addr} {oe : Obj} {vs : Array Value} (e : h.get? a = some oe) (z : Zc cls d oe) (hd : oe.data = .fields vs) : ObjOk P w H h a (exq a cls d) :=
  ⟨⟨oe, vs, e, z, hd⟩, ⟨oe, e⟩, fun h1 h2 ⟨oe, vs, e, z, hd⟩ k => ⟨oe, vs, k _ e, z, hd⟩⟩
theorem exq_at {P : Program} {w : World} {H : Hp} {h : Heap} {a : Addr} {cls : Value} {d : Option Addr} (hok : HOk P w H h) (e : H a = some (exq a cls d)) : ∃ (oe : Obj) (vs : Array Value), h.get? a = some oe ∧ Zc cls d oe ∧ oe.data = .fields vs := (hok a _ e).1
/-- an object that is not of the entry becomes known -/
theorem Inv.track {a : Addr} {cls : Value} {d : Option Addr} {oe : Obj} {vs : Array Value} (I : Inv X pins σ H s) (hn : H a = none) (h0 : X.s_0.heap.get? a = none) (he : s.heap.get? a = some oe) (hz : Zc cls d oe) (hd : oe.data = .fields vs) (nL : a ≠ X.env.locals)
    (nP : ∀ p ∈ X.pn ++ pins, p.1 ≠ a) : Inv X pins σ (upd H a (exq a cls d)) s :=
  { ok := I.ok, os := I.os, bare := I.bare
    base := {
      keep := I.base.keep, slot := I.base.slot
      free := fun b o e n hx => by
        rw [upd_ne (fun z => by rw [z, h0] at e; cases e)]
        exact I.base.free b o e n hx
      there := I.base.there
      tups := fun b xs q => by
        have z := I.base.tups b xs q
        rw [upd_ne (ne_of_none z hn)]
        exact z
      frzs := fun b o u q => by
        have z := I.base.frzs b o u q
        rw [upd_ne (ne_of_none z hn)]
        exact z
      tbls := fun b ps q => by
        obtain ⟨more, z⟩ := I.base.tbls b ps q
        exact ⟨more, by rw [upd_ne (ne_of_none z hn)]; exact z⟩ }
    loc := I.loc, cell := I.cell
    free := by rw [upd_ne (Ne.symm nL)]; exact I.free
    freeC := fun x c e => by
      rw [upd_ne (fun z => ?_)]
      · exact I.freeC x c e
      · obtain ⟨v, o, e1, e2⟩ := I.cell x c e
        rw [z, he] at e1
        cases e1
        rw [hd] at e2
        cases e2
    pin := fun p hp => by
      obtain ⟨e1, e2, e3⟩ := I.pin p hp
      exact ⟨e1, by rw [upd_ne (nP p hp)]; exact e2, e3⟩
    hok := HOk.laidN I.hok (fun b u e => e) hn (exq_ok he hz hd), len := I.len }
theorem Inv.suiteT (I : Inv X pins σ H s) (a : Addr) : Inv (X.suite a (X.pn ++ pins)) [] σ H s :=
  ⟨I.ok.suite _ _, I.os, I.bare, I.base, I.loc, I.cell, I.free, I.freeC, fun p hp => by
    have hp' : p ∈ X.pn ++ pins := by rw [List.append_nil] at hp; exact hp
    exact I.pin p hp', I.hok, I.len⟩
theorem Inv.unsuiteT {a : Addr} {pn' : List (Addr × Obj)} (I : Inv (X.suite a (X.pn ++ pins)) pn' σ H s) (ok : X.Ok) : Inv X pins σ H s :=
  ⟨ok, I.os, I.bare, I.base, I.loc, I.cell, I.free, I.freeC, fun p hp => I.pin p (List.mem_append_left _ hp), I.hok, I.len⟩
end
/-- the ends behind a clause with a name (slot i) -/
def endsAt (D : Ends) : Option Nat → Ends
  | some i => { nx := fun σ' H' => D.nx (σ'.set i none) H', rt := D.rt, bk := fun σ' H' => D.bk (σ'.set i none) H', ct := fun σ' H' => D.ct (σ'.set i none) H' }
  | none => D
def slotX (σ : St) (a : Addr) : Option Nat → St
  | some i => σ.set i (some (.ref a))
  | none => σ
/-- what the clauses wish of an exception of the body, one after the other -/
def wManyT (K : PySem.W.Frag) (Wout : WX) (D : Ends) : List (Value × Option Nat × TS) → WX
  | [] => Wout
  | (c, oi, ts) :: r => fun cls d σ H => ∃ b, PySem.W.exmOne K cls c = some b ∧ (b = true → ∀ a, H a = none → ts (endsAt D oi) (slotX σ a oi) (upd H a (exq a cls d))) ∧ (b = false → wManyT K Wout D r cls d σ H)
inductive HdsT (X : Cx) : List ExceptHandler → List (Value × Option Nat × TS) → Prop
  | nil : HdsT X [] []
  | as_ {x n : Str} {i : Nat} {c : Value} {ts : TS} {b₀ : Stmt} {suite : List Stmt} {np pos' : Pos} {hds : List ExceptHandler} {l : List (Value × Option Nat × TS)} (hc : Names X x c) (hi : X.N[i]? = some n) (hln : X.env.kindOf n = some .local)
      (hsu : ∀ (a : Addr) (pn : List (Addr × Obj)), PSs (X.suite a pn) (b₀ :: suite) ts) (r : HdsT X hds l) :
      HdsT X (.ExceptHandler (some (.Name x np)) (some n) (b₀ :: suite) pos' :: hds) ((c, some i, ts) :: l)
  | no {x : Str} {c : Value} {ts : TS} {b₀ : Stmt} {suite : List Stmt} {np pos' : Pos} {hds : List ExceptHandler} {l : List (Value × Option Nat × TS)} (hc : Names X x c)
      (hsu : ∀ (a : Addr) (pn : List (Addr × Obj)), PSs (X.suite a pn) (b₀ :: suite) ts) (r : HdsT X hds l) :
      HdsT X (.ExceptHandler (some (.Name x np)) none (b₀ :: suite) pos' :: hds) ((c, none, ts) :: l)
section
variable {X : Cx} {body : List Stmt} {h₀ : ExceptHandler} {hds : List ExceptHandler} {l : List (Value × Option Nat × TS)} {pos : Pos} {tb : WX → TS} {Wout : WX}
theorem ps_try_T (hs : X.stack = X.env :: X.outer) (hf : X.env.frame = some X.env.locals) (hex : X.ex = []) (hN : X.N.Nodup) (tk : Takes X Wout)
    (hb : ∀ (W : WX) (pn : List (Addr × Obj)) (xe : Value → Shared → Prop), Takes (X.tr pn xe) W → PassesOwn (model X.prog X.w) X.A X.env xe → PSs (X.tr pn xe) body (tb W))
    (hh : HdsT X (h₀ :: hds) l) : PS X (.Try body (h₀ :: hds) [] [] pos) (fun D σ H => tb (wManyT X.K Wout D l) D σ H) := by
  refine ⟨fun pins s σ H D I h => ?_⟩
  have ok := I.ok
  have hfr : X.A.frames = some (X.env :: X.outer) := by rw [ok.frames, hs]
  refine wpAny_Try_except ?_
  refine wpAny_mono ((hb (wManyT X.K Wout D l) (X.pn ++ pins) (fun e s₁ => wpAny (model X.prog X.w) X.A (noteFrame e X.env) (fun _ s₂ => wpAny (model X.prog X.w) X.A (setFlight e none) (fun _ s₃ =>
    wpAny (model X.prog X.w) X.A (handleBy e X.env (h₀ :: hds)) (SP X pins D) X.xe s₃) X.xe s₂) X.xe s₁) (fun u s' xx => ?_) PassesOwn.looking).run [] s σ H D (I.toTry _) h) (fun f s1 hsp => ?_) (fun e s1 he => he)
  · -- the catch
    obtain ⟨a, B, sI, pins', σ', H', cls, d, rfl, J', nb, up, sky, na, os, ag, w⟩ := xx
    have J : Inv X pins σ' H' sI := J'.ofTry ok
    have sky' : Sky B (X.env :: X.outer) a (Zc cls d) X.env.locals s'.heap := by rw [← hs]; exact sky
    have Ba : B.get? a = none := by
      rcases sky with h | h | h
      · exact h.2.1
      · exact h.2.1
      · exact h.2.1
    show wpAny (model X.prog X.w) X.A (noteFrame (.ref a) X.env) _ _ _
    refine Sky.land Zc.steady hfr hf sky' fun h3 fl3 up3 => ?_
    have J3 : Inv X pins σ' H' { s' with heap := h3 } := J.landed nb fl3.1 (up.trans up3) os ag
    obtain ⟨oe3, vs3, he3, hz3, hd3⟩ := fl3.there
    have notFr : ∀ {h : Heap} {o : Obj} {vs : Array Value}, h.FunFrames B (X.env :: X.outer) → h.get? a = some o → o.data = .fields vs → a ∉ frs (X.env :: X.outer) := fun {h o vs} ff e dd hm => by
      obtain ⟨_, o', e', hnf⟩ := ff.mem hm
      rw [e] at e'; cases e'
      exact hnf _ dd
    have nfr := notFr fl3.2.2.1 he3 hd3
    have nL : a ≠ X.env.locals := fun z => nfr (List.mem_filterMap.mpr ⟨X.env, List.mem_cons_self, by rw [hf, z]⟩)
    have nF : a ∉ X.fs := fun hm => by
      obtain ⟨e, he, q⟩ := List.mem_filterMap.mp hm
      exact nfr (List.mem_filterMap.mpr ⟨e, List.mem_cons_of_mem _ he, q⟩)
    have nI : ∀ b o, sI.heap.get? b = some o → b ∉ frs X.stack → b ≠ a := fun b o e hb z => by
      have q := nb b o e hb
      rw [z, Ba] at q
      cases q
    have h0 : X.s_0.heap.get? a = none := by
      cases e : X.s_0.heap.get? a with
      | none => rfl
      | some o =>
        obtain ⟨o', e'⟩ := J.base.there a o e (by rw [hex]; exact fun z => nomatch z)
        exact absurd rfl (nI a o' e' (by rw [hs]; exact nfr))
    have nP : ∀ p ∈ X.pn ++ pins, p.1 ≠ a := fun p hp => by
      obtain ⟨e1, _, e3, e4, _⟩ := J.pin p hp
      refine nI _ _ e1 fun hm => ?_
      rw [hs] at hm
      obtain ⟨e, he, q⟩ := List.mem_filterMap.mp hm
      rcases List.mem_cons.mp he with rfl | he
      · rw [hf] at q
        exact e3 (Option.some.inj q).symm
      · exact e4 (List.mem_filterMap.mpr ⟨e, he, q⟩)
    have S3 := J3.suite he3 hd3 na nL nF
    have go : ∀ {hds' : List ExceptHandler} {l' : List (Value × Option Nat × TS)}, HdsT X hds' l' → wManyT X.K Wout D l' cls d σ' H' →
        wpAny (model X.prog X.w) X.A (handleBy (.ref a) X.env hds') (SP X pins D) X.xe { s' with heap := h3 } := by
      have LT : PySem.W.Looks (model X.prog X.w) h3 (typeOf (.ref a)) cls := fun A Q E s k q => wpAny_typeOf_ref (k _ _ he3) (by rw [hz3.1]; exact q)
      have test : ∀ {x : Str} {c : Value} {np : Pos} {Q : Value → Shared → Prop} {E : Value → Shared → Prop}, Names X x c → Q c { s' with heap := h3 } → wpAny (model X.prog X.w) (X.A.mark (some (.ref a))) (eval (.Name x np) X.env) Q E { s' with heap := h3 } := fun {x c np Q E} hc q => by
        obtain ⟨hg, hdbg, hm | ⟨hm, hv, hnn⟩⟩ := hc
        · exact ld_glob (X := X.suite a ((a, oe3) :: (X.pn ++ pins))) S3 hg hm q hdbg
        · exact ld_blt (X := X.suite a ((a, oe3) :: (X.pn ++ pins))) S3 hg hm hv q hnn hdbg
      intro hds' l' hk
      induction hk with
      | nil =>
        intro w
        refine wpAny_handleBy_nil ?_
        obtain ⟨k1, k2, k3, oe, vs, T, oT, ts', he, hz, hd, h1, hr⟩ := id fl3
        unfold PySem.passOn
        refine wpAny_bind (wpAny_field he hd h1 ?_)
        rw [if_neg (show ¬ ((Value.ref T == Value.none) = true) from by simp)]
        have fin : wpAny (model X.prog X.w) X.A (setFlight (.ref a) X.env.frame) (fun _ s4 => wpAny (model X.prog X.w) X.A (throw (.ref a) : Sem Flow) (SP X pins D) X.xe s4) X.xe { s' with heap := h3 } := by
          rw [hf]
          refine HandSPX.setFlight_upZ fl3 fun h4 hh4 up4 => wpAny_throw (tk _ _ ?_)
          exact ⟨a, B, sI, pins, σ', H', cls, d, rfl, J, nb, (up.trans up3).trans up4, .inr (.inr (by rw [hs]; exact hh4)), na, os, ag, w⟩
        first
          | exact wpAny_bind (wpAny_pure (wpAny_bind fin))
          | exact wpAny_bind fin
      | @as_ x n i c ts b₀ suite np pos' hds2 l2 hc hi hln hsu r ih =>
        intro w
        obtain ⟨b, hb1, hyes, hno⟩ := w
        refine wpAny_handleBy_cons (codeAny_handlers_test ?_) (by intro q; cases q)
        have LM := PySem.W.exm_one (M := model X.prog X.w) (J3.kIn) LT hb1
        refine test hc (LM.here ?_)
        cases b with
        | true =>
          refine codeAny_handlers_suite_as ?_
          refine HandSPX.lands_againZ fl3 fun h4 fl4 up4 => ?_
          have J4 : Inv X pins σ' H' { s' with heap := h4 } := J.landed nb fl4.1 ((up.trans up3).trans up4) os ag
          obtain ⟨oe4, vs4, he4, hz4, hd4⟩ := fl4.there
          have S4 := (J4.track na h0 he4 hz4 hd4 nL nP).suiteT a
          refine store_ok (X := X.suite a (X.pn ++ pins)) (v := .ref a) S4 hN hi (.inl hln) rfl (fun s5 S5 => ?_) (.inr hln)
          refine wpAny_mono ((hsu a (X.pn ++ pins)).run [] s5 _ _ _ S5 (hyes rfl a na)) (fun f s6 hsp => ?_) (fun _ _ z => False.elim z)
          have end_ : ∀ {σ6 : St} {H6 : Hp} {Q : Shared → Prop}, Inv (X.suite a (X.pn ++ pins)) [] σ6 H6 s6 → (∀ s7, Inv X pins (σ6.set i none) H6 s7 → Q s7) →
              wpAny (model X.prog X.w) X.A (do bindName X.env n .none; unbindBehindTheSuite X.env n pos') (fun _ s7 => Q s7) X.xe s6 := fun {σ6 H6 Q} S6 hq => gone_ok (S6.unsuiteT ok) hN hi hln hq
          cases f with
          | next =>
            obtain ⟨σ6, H6, S6, q6⟩ := hsp
            exact end_ S6 fun s7 J7 => ⟨_, _, J7, q6⟩
          | brk =>
            obtain ⟨σ6, H6, S6, q6⟩ := hsp
            exact end_ S6 fun s7 J7 => ⟨_, _, J7, q6⟩
          | cont =>
            obtain ⟨σ6, H6, S6, q6⟩ := hsp
            exact end_ S6 fun s7 J7 => ⟨_, _, J7, q6⟩
          | ret u =>
            obtain ⟨v6, σ6, H6, S6, r6, q6⟩ := hsp
            exact end_ S6 fun s7 J7 => ⟨_, _, _, J7, r6, q6⟩
        | false =>
          show wpAny _ X.A (handleBy (.ref a) X.env hds2) _ _ _
          exact ih (hno rfl)
      | @no x c ts b₀ suite np pos' hds2 l2 hc hsu r ih =>
        intro w
        obtain ⟨b, hb1, hyes, hno⟩ := w
        refine wpAny_handleBy_cons (codeAny_handlers_test ?_) (by intro q; cases q)
        have LM := PySem.W.exm_one (M := model X.prog X.w) (J3.kIn) LT hb1
        refine test hc (LM.here ?_)
        cases b with
        | true =>
          refine codeAny_handlers_suite ?_
          refine HandSPX.lands_againZ fl3 fun h4 fl4 up4 => ?_
          have J4 : Inv X pins σ' H' { s' with heap := h4 } := J.landed nb fl4.1 ((up.trans up3).trans up4) os ag
          obtain ⟨oe4, vs4, he4, hz4, hd4⟩ := fl4.there
          have S4 := (J4.track na h0 he4 hz4 hd4 nL nP).suiteT a
          refine wpAny_mono ((hsu a (X.pn ++ pins)).run [] _ _ _ _ S4 (hyes rfl a na)) (fun f s6 hsp => ?_) (fun _ _ z => False.elim z)
          cases f with
          | next =>
            obtain ⟨σ6, H6, S6, q6⟩ := hsp
            exact ⟨_, _, S6.unsuiteT ok, q6⟩
          | brk =>
            obtain ⟨σ6, H6, S6, q6⟩ := hsp
            exact ⟨_, _, S6.unsuiteT ok, q6⟩
          | cont =>
            obtain ⟨σ6, H6, S6, q6⟩ := hsp
            exact ⟨_, _, S6.unsuiteT ok, q6⟩
          | ret u =>
            obtain ⟨v6, σ6, H6, S6, r6, q6⟩ := hsp
            exact ⟨_, _, _, S6.unsuiteT ok, r6, q6⟩
        | false =>
          show wpAny _ X.A (handleBy (.ref a) X.env hds2) _ _ _
          exact ih (hno rfl)
    exact go hh w
  · cases f with
    | next =>
      obtain ⟨σ', H', J', q⟩ := hsp
      exact wpAny_execs_nil ⟨σ', H', J'.ofTry ok, q⟩
    | brk =>
      obtain ⟨σ', H', J', q⟩ := hsp
      exact ⟨σ', H', J'.ofTry ok, q⟩
    | cont =>
      obtain ⟨σ', H', J', q⟩ := hsp
      exact ⟨σ', H', J'.ofTry ok, q⟩
    | ret u =>
      obtain ⟨v, σ', H', J', r, q⟩ := hsp
      exact ⟨v, σ', H', J'.ofTry ok, r, q⟩
end
end L2
end
section
set_option Elab.async false
set_option linter.all false
set_option maxRecDepth 100000
set_option maxHeartbeats 2000000
/-! HX3: raise C(e), try, e.f as readings over data. -/
namespace L2
open PySem PySem.Spec PyProof.Rows
section
variable {X : Cx} {C fI : Addr} {nm f : Str}
/-- C(e) -/
def tMkX (C : Addr) (f : Str) (ta : TA) : St → Hp → XK → Prop := fun σ H Q => ta σ H fun vs H1 => ∃ v, vs = [v] ∧ ∀ d, H1 d = none → Q (.ref C) (some d) (upd H1 d (.xd [(f, v)]))
theorem relO_one {v : V} {v' : Value} (r : RelV v v') (f g : Str) : RelO (List.lookup g [(f, v)]) (if g = f then some v' else none) := by
  by_cases hw : g = f
  · subst hw
    rw [if_pos rfl]
    have q : List.lookup g [(g, v)] = some v := by simp [List.lookup]
    rw [q]
    exact r
  · rw [if_neg hw]
    have qw : (g == f) = false := by simpa using hw
    have q2 : List.lookup g [(f, v)] = none := by simp [List.lookup, qw]
    rw [q2]
    trivial
theorem pmk_x {a : Expr} {ta : TA} {p pos : Pos} {k : Nat} (T : PySem.ExX.XTxt X.prog X.K X.mg nm f C fI) (TP : PySem.ExX.TopX X.prog X.mg) (hr : Room (k + 1) X.A) (ha : PA X [a] ta) (hg : Gl X nm) (hdb : (nm == ("__debug__" : Str)) = false)
    (he : starEach (a :: []) X.env = (false, eval a X.env) :: starEach [] X.env := by rfl) (hpl : (backTo pos (starEach [] X.env)).any (·.1) = false := by rfl) :
    PMk X (.Call (.Name nm p) [a] [] pos) (tMkX C f ta) := by
  intro pins s σ H Q I h
  refine wpAny_Call_Name_kw (ld_glob I hg T.gC ?_ hdb)
  refine PySem.W.callWith_K (h₀ := X.base) I.ok.mod.kin T.kC (thn (ha.run pos pins s σ H _ I h) fun us s1 hh => ?_) he hpl
  obtain ⟨vs, H1, I1, r1, v, ev, q1⟩ := hh
  subst ev
  refine ⟨I1.kIn, ?_⟩
  cases r1 with
  | cons rv rn =>
    rename_i v' us'
    cases rn
    show wpAny _ _ (call (.ref C) [v']) _ _ _
    have hlim := I1.nolimit
    have hglob := I1.ok.mod.glob.keeps I1.bk
    obtain ⟨mb, hb0, hbs⟩ := I1.ok.mod.blt
    have hb1 := hb0.keeps I1.bk
    obtain ⟨hp, g, dr, tk, os⟩ := s1
    refine wpAny_call (PySem.ExX.x_made T TP I1.kIn hglob hb1 ((hbs _ (by decide)).trans PyProof.Rows.Boot.«super») hlim (by have := hr.dp; omega) fun h' tk' e d M => ?_)
    show MkP X pins σ Q (.ref e) ⟨h', g, dr, tk', os⟩
    obtain ⟨oe, fv, hoe, hc, hd, hdat, h1⟩ := M.obj
    have hns := M.ns
    obtain ⟨G', g1, g2⟩ := restrict h' fun b => decide (b ≠ e)
    have gk : ∀ b, b ≠ e → G'.get? b = h'.get? b := fun b hb => g1 b (decide_eq_true hb)
    have ge : G'.get? e = none := g2 e (by simp)
    have old : ∀ b o, hp.get? b = some o → G'.get? b = some o := fun b o q => (gk b (Nat.ne_of_lt (Nat.lt_of_lt_of_le (Heap.lt_size q) M.new))).trans (M.keep b o q)
    have ob : ObjOk X.prog X.w (upd H1 d (.xd [(f, v)])) G' d (.xd [(f, v)]) :=
      ⟨_, hns.at (fun o q => (gk d M.dne).trans q), fun g => relO_one rv f g⟩
    have J : Inv X pins σ (upd H1 d (.xd [(f, v)])) ⟨G', g, dr, tk', os⟩ := I1.laid (t' := tk') old M.dbig ob
    refine ⟨e, oe, fv, ⟨G', g, dr, tk', os⟩, _, .ref C, some d, rfl, J, fun b o q => ?_, ge, hoe, ⟨hc, hd⟩, hdat, h1, ?_, rfl, I1.bare, raises_own T.exC T.tyC, q1 d (I1.hok.fresh M.dbig)⟩
    · by_cases hb : b = e
      · have q' : G'.get? b = some o := q
        rw [hb, ge] at q'; cases q'
      · exact (gk b hb).symm.trans q
    · rw [upd_ne (Ne.symm M.dne)]
      exact I1.hok.fresh M.new
end
end L2
namespace HL
open PySem PySem.Spec L2
section
variable {X : Cx} {Wx : WX} {k : Nat} {C : Str} {f : Str} {fI : Addr} {fe : L → Store → R D} {e : Expr}
/-- raise C(e): C's one field is f -/
def sRaise (C f : Str) (fe : L → Store → R D) : L → Store → Fl := fun l S => (fe l S).toS l fun d S1 => .exc ⟨C, [f], [d]⟩ l S1
theorem fs_raise {p pos pos2 : Pos} (hc : X.calm = true) (T : PySem.ExX.XTxt X.prog X.K X.mg C f (He.ga X.K C) fI) (TP : PySem.ExX.TopX X.prog X.mg) (hr : Room (k + 1) X.A) (tk : Takes X Wx) (ha : FA X Wx [e] (aCons fe aNil)) (hg : Gl X C) (hdb : (C == ("__debug__" : Str)) = false := by decide)
    (he : starEach (e :: []) X.env = (false, eval e X.env) :: starEach [] X.env := by rfl) (hpl : (backTo pos (starEach [] X.env)).any (·.1) = false := by rfl) :
    FS X Wx (.Raise (some (.Call (.Name C p) [e] [] pos)) none pos2) (sRaise C f fe) := by
  refine PS.imp (ps_raise hc tk (pmk_x T TP hr ha hg hdb he hpl)) fun D σ H h => ?_
  obtain ⟨ρ, S, B, l, ok, sl, h⟩ := h
  refine ⟨ρ, S, B, l, ok, sl, ?_⟩
  have h2 := PostS.toS sl ok h
  show Post _ _ _ _ ((fe l S).bind fun d S1 => (R.ok [] S1).bind fun ds S2 => .ok (d :: ds) S2) _
  cases q : fe l S with
  | bad => rw [q] at h2; exact h2.elim
  | exc x S1 => rw [q] at h2; exact h2
  | ok d S1 =>
    rw [q] at h2
    intro ρ1 H1 e1 o1 vs rv
    obtain ⟨_, _, h3⟩ := h2 ρ1 H1 e1 o1
    cases rv with
    | cons rd rn =>
      cases rn
      rename_i v
      refine ⟨v, rfl, fun dd hn => ?_⟩
      have sm := Same.upd (o := .xd [(f, v)]) hn
      refine h3 ρ1 _ σ (.ref (He.ga X.K C)) (some dd) (Ext.same sm) (o1.same sm) ((sl.ext e1 ok).ext (Ext.same sm) o1) ⟨rfl, .inr ⟨dd, [v], rfl, upd_same, rfl, ?_⟩⟩
      exact Reps.ext (Ext.same sm) o1 (.cons rd .nil)
end

/-! ### try -/
/-- where an error is handled: what is known of it -/
structure GdS (A : Around) : Prop where
  g : A.guards = some []
structure FitS (X : Cx) : Prop where
  rm : GdS X.A
  un : X.A.units + 100 < cLine
  nd : X.N.Nodup
section
variable {X : Cx}
theorem FitS.hu (c : FitS X) : X.A.units + 65 < cLine := by
  have := c.un
  omega
theorem FitS.hu4 (c : FitS X) : X.A.units + 64 < cLine := by
  have := c.un
  omega
theorem Fit.suite {Wx : WX} {k : Nat} (c : Fit X Wx k) (a : Addr) (pn : List (Addr × Obj)) : FitS (X.suite a pn) :=
  ⟨⟨c.rm.g⟩, by
    have := c.rm.r.un
    show X.A.units + 100 < cLine
    omega, c.nd⟩
theorem Fit.tr {Wx W : WX} {k : Nat} (c : Fit X Wx k) {pn : List (Addr × Obj)} {xe : Value → Shared → Prop} (tk : Takes (X.tr pn xe) W) (pass : PassesOwn (model X.prog X.w) X.A X.env xe) : Fit (X.tr pn xe) W k := ⟨tk, pass, c.rm, c.cm, c.nd⟩
end
/-- an except clause: the classes that it takes, those that it does not, its slot, its suite -/
structure Hn where
  yes : List Str
  no : List Str
  at_ : Option Nat
  f : L → Store → Fl
def Fl.out (r : Fl) (oi : Option Nat) : Fl := match r with
  | .nx l S => .nx (match oi with
    | some i => l.set i none
    | none => l) S
  | .rt d S => .rt d S
  | .bk l S => .bk (match oi with
    | some i => l.set i none
    | none => l) S
  | .ct l S => .ct (match oi with
    | some i => l.set i none
    | none => l) S
  | _ => .bad
def hRun : List Hn → Exc → L → Store → Fl
  | [], e, l, S => .exc e l S
  | h :: r, e, l, S => if h.yes.contains e.cls = true then (h.f (match h.at_ with
      | some i => l.set i (some (.err e.cls e.ks e.vs))
      | none => l) S).out h.at_ else if h.no.contains e.cls = true then hRun r e l S else .bad
def sTry (f : L → Store → Fl) (hs : List Hn) : L → Store → Fl := fun l S => match f l S with
  | .exc e l1 S1 => hRun hs e l1 S1
  | r => r
/-- which classes the class x takes -/
def TakesB (K : Frag) (x : Str) (yes no : List Str) : Prop := (∀ D ∈ yes, PySem.W.exmOne K (.ref (He.ga K D)) (.ref (He.ga K x)) = some true) ∧ ∀ D ∈ no, PySem.W.exmOne K (.ref (He.ga K D)) (.ref (He.ga K x)) = some false
inductive HdsF (X : Cx) : List ExceptHandler → List Hn → Prop
  | nil : HdsF X [] []
  | as_ {x n : Str} {i : Nat} {g : L → Store → Fl} {yes no : List Str} {b₀ : Stmt} {suite : List Stmt} {np pos' : Pos} {hds : List ExceptHandler} {l : List Hn} (hc : Names X x (.ref (He.ga X.K x))) (tb : TakesB X.K x yes no) (hi : X.N[i]? = some n) (hln : X.env.kindOf n = some .local)
      (hsu : ∀ (a : Addr) (pn : List (Addr × Obj)), FitS (X.suite a pn) → FB (X.suite a pn) wx0 (b₀ :: suite) g) (r : HdsF X hds l) :
      HdsF X (.ExceptHandler (some (.Name x np)) (some n) (b₀ :: suite) pos' :: hds) (⟨yes, no, some i, g⟩ :: l)
  | no {x : Str} {g : L → Store → Fl} {yes no : List Str} {b₀ : Stmt} {suite : List Stmt} {np pos' : Pos} {hds : List ExceptHandler} {l : List Hn} (hc : Names X x (.ref (He.ga X.K x))) (tb : TakesB X.K x yes no)
      (hsu : ∀ (a : Addr) (pn : List (Addr × Obj)), FitS (X.suite a pn) → FB (X.suite a pn) wx0 (b₀ :: suite) g) (r : HdsF X hds l) :
      HdsF X (.ExceptHandler (some (.Name x np)) none (b₀ :: suite) pos' :: hds) (⟨yes, no, none, g⟩ :: l)
section
variable {K : Frag} {Wx : WX} {W : Wd} {σ : L2.St} {l : L} {D : Ends}
theorem Sl.clr (s : Sl K W σ l) (i : Nat) : Sl K W (σ.set i none) (l.set i none) := by
  refine ⟨by rw [List.length_set, List.length_set]; exact s.len, fun j d h => ?_⟩
  by_cases e : i = j
  · subst e
    by_cases hi : i < l.length
    · rw [List.getElem?_set_self hi] at h
      cases h
    · rw [List.getElem?_eq_none (by rw [List.length_set]; omega)] at h
      cases h
  · rw [List.getElem?_set_ne e] at h
    obtain ⟨w, a, b⟩ := s.get j d h
    exact ⟨w, by rw [List.getElem?_set_ne e]; exact a, b⟩
theorem out_post {r : Fl} {oi : Option Nat} (h : PostS K Wx W (r.out oi) D) : PostS K wx0 W r (endsAt D oi) := by
  cases r with
  | nx l S =>
    intro ρ H σ e o s
    cases oi with
    | some i => exact h ρ H _ e o (s.clr i)
    | none => exact h ρ H _ e o s
  | bk l S =>
    intro ρ H σ e o s
    cases oi with
    | some i => exact h ρ H _ e o (s.clr i)
    | none => exact h ρ H _ e o s
  | ct l S =>
    intro ρ H σ e o s
    cases oi with
    | some i => exact h ρ H _ e o (s.clr i)
    | none => exact h ρ H _ e o s
  | rt d S =>
    intro ρ H v e o q
    cases oi with
    | some i => exact h ρ H v e o q
    | none => exact h ρ H v e o q
  | exc e l S => exact h.elim
  | bad => exact h.elim
end
section
variable {X : Cx} {Wx : WX} {k : Nat} {hds : List ExceptHandler} {hl : List Hn}
theorem hds_of (c : Fit X Wx k) (hh : HdsF X hds hl) : ∃ l', HdsT X hds l' ∧ ∀ (e : Exc) (l : L) (S : Store) (W : Wd) (D : Ends), PostS X.K Wx W (hRun hl e l S) D → ∀ ρ H σ cls d, Ext W ⟨ρ, S, H, W.B⟩ → Ok X.K ⟨ρ, S, H, W.B⟩ → Sl X.K ⟨ρ, S, H, W.B⟩ σ l → RepX X.K ⟨ρ, S, H, W.B⟩ e cls d →
    wManyT X.K Wx D l' cls d σ H := by
  have step : ∀ {x : Str} {g : L → Store → Fl} {yes no : List Str} {oi : Option Nat} {hl2 : List Hn} {l2 : List (Value × Option Nat × TS)}, TakesB X.K x yes no →
      (∀ (e : Exc) (l : L) (S : Store) (W : Wd) (D : Ends), PostS X.K Wx W (hRun hl2 e l S) D → ∀ ρ H σ cls d, Ext W ⟨ρ, S, H, W.B⟩ → Ok X.K ⟨ρ, S, H, W.B⟩ → Sl X.K ⟨ρ, S, H, W.B⟩ σ l → RepX X.K ⟨ρ, S, H, W.B⟩ e cls d → wManyT X.K Wx D l2 cls d σ H) →
      ∀ (e : Exc) (l : L) (S : Store) (W : Wd) (D : Ends), PostS X.K Wx W (hRun (⟨yes, no, oi, g⟩ :: hl2) e l S) D → ∀ ρ H σ cls d, Ext W ⟨ρ, S, H, W.B⟩ → Ok X.K ⟨ρ, S, H, W.B⟩ → Sl X.K ⟨ρ, S, H, W.B⟩ σ l → RepX X.K ⟨ρ, S, H, W.B⟩ e cls d →
        wManyT X.K Wx D ((.ref (He.ga X.K x), oi, tS X.K wx0 g) :: l2) cls d σ H := by
    intro x g yes no oi hl2 l2 tb ih e l S W D h ρ H σ cls d ext ok sl rx
    obtain ⟨rfl, rx2⟩ := id rx
    unfold hRun at h
    by_cases hy : yes.contains e.cls = true
    · refine ⟨true, tb.1 _ (by simpa using hy), fun _ a na => ?_, fun q => Bool.noConfusion q⟩
      rw [if_pos hy] at h
      have sm : Same H (upd H a (exq a (.ref (He.ga X.K e.cls)) d)) := Same.upd na
      have h2 := (out_post h).weak (ext.trans (Ext.same sm))
      cases oi with
      | none => exact ⟨ρ, S, W.B, _, ok.same sm, sl.ext (Ext.same sm) ok, h2⟩
      | some i =>
        have rr : Rep X.K ⟨ρ, S, upd H a (exq a (.ref (He.ga X.K e.cls)) d), W.B⟩ (.err e.cls e.ks e.vs) (.ref a) := by
          rcases rx2 with ⟨e1, e2, e0⟩ | ⟨dd, vs, e1, e2, e3, e4⟩
          · rw [e1, e2]
            exact .err (d := d) (vs := []) upd_same (.inl ⟨rfl, e0⟩) rfl .nil
          · exact .err (d := d) (vs := vs) upd_same (.inr ⟨dd, e1, sm _ _ e2⟩) e3 (Reps.ext (Ext.same sm) ok e4)
        exact ⟨ρ, S, W.B, _, ok.same sm, (sl.ext (Ext.same sm) ok).set rr i, h2⟩
    · rw [if_neg hy] at h
      by_cases hn : no.contains e.cls = true
      · rw [if_pos hn] at h
        exact ⟨false, tb.2 _ (by simpa using hn), fun q => Bool.noConfusion q, fun _ => ih e l S W D h ρ H σ _ d ext ok sl rx⟩
      · rw [if_neg hn] at h
        exact h.elim
  induction hh with
  | nil => exact ⟨[], .nil, fun e l S W D h ρ H σ cls d ext ok sl rx => h ρ H σ cls d ext ok sl rx⟩
  | as_ hc tb hi hln hsu r ih =>
    obtain ⟨l2, t2, ih⟩ := ih
    exact ⟨_, .as_ hc hi hln (fun a pn => hsu a pn (c.suite a pn)) t2, step tb ih⟩
  | no hc tb hsu r ih =>
    obtain ⟨l2, t2, ih⟩ := ih
    exact ⟨_, .no hc (fun a pn => hsu a pn (c.suite a pn)) t2, step tb ih⟩
theorem fs_try {body : List Stmt} {h₀ : ExceptHandler} {f : L → Store → Fl} {pos : Pos} (hs : X.stack = X.env :: X.outer) (hf : X.env.frame = some X.env.locals) (hex : X.ex = []) (c : Fit X Wx k)
    (hb : ∀ (W : WX) (pn : List (Addr × Obj)) (xe : Value → Shared → Prop), Fit (X.tr pn xe) W k → FB (X.tr pn xe) W body f) (hh : HdsF X (h₀ :: hds) hl) : FS X Wx (.Try body (h₀ :: hds) [] [] pos) (sTry f hl) := by
  obtain ⟨l', T, post⟩ := hds_of c hh
  refine PS.imp (ps_try_T (tb := fun W => tS X.K W f) hs hf hex c.nd c.tk (fun W pn xe tk pass => hb W pn xe (c.tr tk pass)) T) fun D σ H h => ?_
  obtain ⟨ρ, S, B, l, ok, sl, h⟩ := h
  refine ⟨ρ, S, B, l, ok, sl, ?_⟩
  unfold sTry at h
  cases q : f l S with
  | nx l1 S1 => rw [q] at h; exact h
  | rt d S1 => rw [q] at h; exact h
  | bk l1 S1 => rw [q] at h; exact h
  | ct l1 S1 => rw [q] at h; exact h
  | bad => rw [q] at h; exact h
  | exc e l1 S1 =>
    rw [q] at h
    exact fun ρ H σ cls d ext o s rx => post e l1 S1 _ D h ρ H σ cls d ext o s rx
end

/-! ### e.f, e an error -/
section
variable {X : Cx} {Wx : WX} {f : Str} {e : Expr} {g : L → Store → R D} {pos : Pos}
def pErr (cs : List Str) (f : Str) : D → Store → Option D := fun d _ => match d with
  | .err C ks vs => if cs.contains C = true then (ks.zip vs).lookup f else none
  | _ => none
/-- the field f of errors of the class at C can be read -/
def ErrC (K : Frag) (C f : Str) : Prop := XfC K (He.ga K C) ∧ PySem.W.findIn K (.ref (He.ga K C)) f = some none
/-- x.f, x a known error -/
def tErr (K : Frag) (f : Str) (te : TE) : TE := fun σ H Q => te σ H fun x H1 => ∃ (a C dd : Addr) (fs : List (Str × V)) (v : V), x = .ref a ∧ XfC K C ∧ PySem.W.findIn K (.ref C) f = some none ∧ H1 a = some (exq a (.ref C) (some dd)) ∧ H1 dd = some (.xd fs) ∧ fs.lookup f = some v ∧ Q v H1
theorem pe_err {te : TE} (he : PE X e te) (hb : attributeBase e f X.env (eval e X.env) = eval e X.env := by rfl) : PE X (.Attribute e f pos) (tErr X.K f te) := by
  refine ⟨fun pins s σ H Q I h => ?_⟩
  refine attr_of hb (thn (he.run pins s σ H _ I h) fun u s1 hh => ?_)
  obtain ⟨x, H1, I1, rx, a, C, dd, fs, v, ex, T, hno, e1, ea, l, q⟩ := hh
  subst ex
  obtain rfl : u = Value.ref a := rx
  obtain ⟨oe, vs, ha, hz, hd⟩ := exq_at I1.hok e1
  have hx : ObjOk X.prog X.w H1 s1.heap dd (.xd fs) := I1.hok dd _ ea
  obtain ⟨mA, hns, hr⟩ := hx
  obtain ⟨od, ho, hl⟩ := lookIn_ns hns
  obtain ⟨u, hu, ru⟩ := RelO.some_of (v := v) (o := mA f) (by rw [← l]; exact hr f)
  have J : PySem.W.InstAt s1.heap a oe C (some od) := ⟨ha, hz.1, by unfold PySem.W.notCls; rw [hd] <;> rfl, by rw [hz.2]; exact ho⟩
  exact HandSPX.exc_get I1.kIn J T.ga T.gg T.exC (PySem.W.findObj_own T.hdC hno rfl (by rw [hl, hu])) (handed_of ru) ⟨v, H1, I1.tok _, ru, q⟩
theorem fe_err {cs : List Str} (he : FE X Wx e g) (hc : ∀ C ∈ cs, ErrC X.K C f) (hb : attributeBase e f X.env (eval e X.env) = eval e X.env := by rfl) : FE X Wx (.Attribute e f pos) (mUn (pErr cs f) g) :=
  (pe_err he hb).imp fun σ H Q ⟨ρ, S, B, l, ok, sl, h⟩ => ⟨ρ, S, B, l, ok, sl, h.bind.mono fun W1 d e1 o1 ⟨_, _, h1⟩ v rv => by
    obtain ⟨r, er, q⟩ := h1.ofO
    unfold pErr at er
    cases rv with
    | @err C ks xs vs a dd h1 hd hl rs =>
      dsimp only at er
      by_cases hm : cs.contains C = true
      · rw [if_pos hm] at er
        rcases hd with ⟨rfl, _⟩ | ⟨d2, rfl, h2⟩
        · cases er
        · obtain ⟨w, hw, rw'⟩ := lookup_rep rs er
          obtain ⟨t1, t2⟩ := hc C (by simpa using hm)
          exact ⟨a, _, d2, _, w, rfl, t1, t2, h1, h2, hw, q W1.H (Same.refl _) o1 w rw'⟩
      · rw [if_neg hm] at er
        cases er
    | _ => cases er⟩
end
end HL
end
section
set_option Elab.async false
set_option linter.all false
set_option maxRecDepth 100000
set_option maxHeartbeats 2000000
/-! HX24: a class of errors with two fields, index and shown: making one (raw). -/
namespace PySem
namespace ExX
open PySem.W PySem.Calls PyProof.Rows PySem.HandSPX Builtin Builtin.ObjectAttr
def iA2 (q : Nat → Pos) : Arguments := { posonlyargs := [], args := [{ arg := "self", annotation := none, pos := q 0 }, { arg := "index", annotation := none, pos := q 1 }, { arg := "shown", annotation := none, pos := q 2 }], vararg := none, kwonlyargs := [], kw_defaults := [], kwarg := none, defaults := [] }
def iB2 (q : Nat → Pos) : List Stmt := [.Expr (.Call (.Attribute (.Call (.Name "super" (q 0)) [] [] (q 1)) "__init__" (q 2)) [] [] (q 3)) (q 4), .Assign [.Attribute (.Name "self" (q 5)) "index" (q 6)] (.Name "index" (q 7)) (q 8), .Assign [.Attribute (.Name "self" (q 9)) "shown" (q 10)] (.Name "shown" (q 11)) (q 12)]
def iS2 : Scope := { kind := .function, names := [(PySem.Str.ofString "self", .local), (PySem.Str.ofString "index", .local), (PySem.Str.ofString "shown", .local), (PySem.Str.ofString "__class__", .free), (PySem.Str.ofString "super", .globalImplicit)], isGenerator := false, isCoroutine := false, more := [] }
/-- what the head says of a class x at C of errors with the fields index, shown, and of its __init__ at fI -/
structure XTxt2 (P : Program) (K : Frag) (mg : Str → Option Value) (nm : Str) (C fI : Addr) : Prop where
  gC : mg nm = some (.ref C)
  cls : ∃ B newId initId bmB n q N bs bm sn sub ab col dd k0 k1 k2 k3 k5, K.lookup C = some (excClassObj n q C N bs bm true sn sub ab col dd k0 k1 k2 k3 k5 newId) ∧ ExcBaseFacts B newId initId bmB ∧ KxsFacts B initId ∧
    (∀ X : String, bm.contains (.type X) = bmB.contains (.type X)) ∧ (∀ self, refuseLoop self "__setattr__" bm = pure ()) ∧ bm.contains (.type "object") = true ∧ alongIn K "__init__" bm = some (some (.builtin initId)) ∧ subIn K (.ref C) (.type B) = some true ∧ mroIn K C (.ref C) = some true
  sa : findIn K (.ref C) "__setattr__" = some (some (.builtin "object.__setattr__"))
  ga : findIn K (.ref C) "__getattribute__" = some (some (.builtin "BaseException.__getattribute__"))
  gg : findIn K (.ref C) "__getattr__" = some none
  noN : findIn K (.ref C) "index" = some none
  noM : findIn K (.ref C) "shown" = some none
  iC : findIn K (.ref C) "__init__" = some (some (.ref fI))
  tC : typeIn K (.ref fI) = some (.type "function")
  kC : keepIn K (.ref C) = true
  exC : subIn K (.ref C) (.type "BaseException") = some true
  tyC : typeIn K (.ref C) = some (.type "type")
  hdC : hasDictIn K C = true
  op : nsIn K cStatics "thirdparty.any" = some none
  fn : ∃ (oc : Value) (od : Option Addr) (qual : Str) (doc pm : Value) (an : Option Addr) (cda cc : Addr) (ct : Value) (osl : Array (Option Value)) (q p : Nat → Pos) (ccl : Value) (cdd : Option Addr) (vs : Array Value) (ccs : Array (Option Value)) (file : Str) (tf : Tok) (cl : Value) (cld : Option Addr) (csl : Array (Option Value)),
    K.lookup fI = some ⟨oc, od, .func (ksFn "__init__" qual (iA2 q) (iB2 p) iS2 .none .none doc pm an (.ref cda) ct cc), osl⟩ ∧ codeIn K (.ref cda) qual = true ∧
    K.lookup cda = some ⟨ccl, cdd, .fields vs, ccs⟩ ∧ vs[2]? = some (.str file tf) ∧ ((P.main.file : Str) == file) = true ∧ K.lookup cc = some ⟨cl, cld, .cell (some (.ref C)), csl⟩ ∧ ((p 2).endLine == (p 3).line) = true
theorem two_size (u v : Value) : [u, v].length ≤ sizeLine := by
  rw [sizeLine_eq]
  exact (by decide : 2 ≤ 16777216)
/-- what __init__ leaves of a fresh exception at x -/
structure InitEnd2 (h h' : Heap) (x C dx t1 : Addr) (u v : Value) : Prop where
  keep : ∀ b o, b ≠ x → h.get? b = some o → h'.get? b = some o
  obj : h'.get? x = some { cls := .ref C, dict := some dx, data := .fields #[.ref t1, .none, .none, .none, .bool false, .none] }
  dbig : h.objs.size ≤ dx
  dne : dx ≠ x
  ns : h'.Ns1 dx (fun y => if y = "shown" then some v else if y = "index" then some u else none)
/-- a made error -/
structure OwnMade2 (h h' : Heap) (e C d : Addr) (u v : Value) : Prop where
  keep : ∀ b o, h.get? b = some o → h'.get? b = some o
  new : h.objs.size ≤ e
  obj : ∃ oe vs, h'.get? e = some oe ∧ oe.cls = .ref C ∧ oe.dict = some d ∧ oe.data = .fields vs ∧ vs[1]? = some .none
  dbig : h.objs.size ≤ d
  dne : d ≠ e
  ns : h'.Ns1 d (fun y => if y = "shown" then some v else if y = "index" then some u else none)
section
variable {prog : Program} {w : World} {A : Around} {E : Value → Shared → Prop} {R : Result → Shared → Prop} {hp : Heap} {g : Array GenState} {d : Drawn} {t : Nat} {os : OsState}
/-- a further field, over any built-in base that lets __setattr__ pass -/
theorem osa_oldB {K : W.Frag} {name : Str} {tk : Tok} {v : Value} {x C dx : Addr} {fv : Array Value} {cd : ClassData} {m0 : Str → Option Value} {nl : List Str}
    (X : K.In hp) (hx : hp.get? x = some { cls := .ref C, dict := some dx, data := .fields fv }) (hns : hp.Ns1 dx m0) (hw : Within m0 nl) (hz : nl.length ≤ 1000) (hcd : W.clsIn K C = some cd) (hps : ∀ self, refuseLoop self "__setattr__" cd.mro = pure ()) (ne : cd.mro.isEmpty = false) (hob : cd.mro.contains (.type "object") = true) (hh : cd.hasDict = true)
    (ha : W.findIn K (.ref C) name = some none)
    (hq : ∀ h' tk', (∀ b o, b ≠ dx → hp.get? b = some o → h'.get? b = some o) → h'.Ns1 dx (fun y => if y = name then some v else m0 y) → R (.ok (.ret .none)) ⟨h', g, d, tk', os⟩) :
    codeAny (model prog w) A (.call (.builtin "object.__setattr__") ⟨[.ref x, .str name tk, v], []⟩) R ⟨hp, g, d, t, os⟩ := by
  obtain ⟨oD, esD, epD, hoD, hdD, _⟩ := hns.count hw
  have I : W.InstAt hp x { cls := .ref C, dict := some dx, data := .fields fv } C (some oD) := ⟨hx, rfl, rfl, hoD⟩
  have SF := F.store_object
  have sub : W.Looks (model prog w) hp (isInstance (.ref x) (.type "object")) true := I.type.andThen (W.looks_mroIn X (by unfold W.mroIn; rw [hcd, Option.bind_some, if_neg (by rw [ne]; decide), hob]))
  refine codeAny_call_builtin SF.slot.plain SF.entry (@W.check_slot (model prog w) _ _ ⟨hp, g, d, t, os⟩ "object.__setattr__" "object" "__setattr__" (.ref x) [.str name tk, v] [] _ SF.kind SF.split sub (SF.args (.ref x) (.str name tk) v) ?_)
  have hmr : W.Looks (model prog w) hp (mroOf (.ref C)) cd.mro := (W.looks_clsIn X hcd).andThen .now
  have L3 : W.Looks (model prog w) hp (storeTaker? none) none := .now
  have hcls : W.Looks (model prog w) hp (classData C) cd := W.looks_clsIn X hcd
  rw [W.osa_eq, refuse_eq]
  refine wpAny_bind (wpAny_bind (I.type.at (wpAny_bind (hmr.at ?_))))
  rw [hps]
  refine wpAny_pure (wpAny_bind (I.type.at (wpAny_bind ((W.looks_findIn X ha).at (wpAny_bind (L3.at ?_))))))
  show wpAny _ _ (storeInOwnDict (.ref x) (.ref C) (.str name tk) name v false) _ _ _
  obtain ⟨nm, bs, mro, ns, qn, hd, sn, sb, ab, col, del⟩ := cd
  dsimp only at hh
  subst hh
  unfold storeInOwnDict ownDictForStores
  repeat (first | with_reducible refine PySem.OEX.store_in_old hns hw hz ?_ | with_reducible refine wpAny_loadPart_at hx ?_ | with_reducible refine hcls.at ?_ | wp_step)
  intro h' tk' hn' hs
  exact hq h' tk' (fun b o hb ho => (hs.2 b hb).trans ho) hn'
end
section
variable {prog : Program} {w : World} {A : Around} {E : Value → Shared → Prop} {R : Result → Shared → Prop} {s : Shared} {K : Frag} {mg mb : Str → Option Value} {nm : Str} {C fI : Addr}
theorem x_init2 (T : XTxt2 prog K mg nm C fI) (TP : TopX prog mg) {x t0 : Addr} {v v2 : Value} {args : Args} (ha : args = ⟨[.ref x, v, v2], []⟩ ∨ args = ⟨[.ref x], [("shown", v2), ("index", v)]⟩) (X : K.In s.heap) (hg : s.heap.Ns mainGlobals mg) (hb : s.heap.Ns builtinsNs mb) (hbs : mb "super" = some (.type "super")) (hlim : s.heap.NoLimit) (hx : s.heap.get? x = some (excO C t0)) (hnx : K.lookup x = none) (hroom : A.depth < recursionLimit)
    (hq : ∀ h' tk dx t1, InitEnd2 s.heap h' x C dx t1 v v2 → R (.ok (.ret .none)) { s with heap := h', toks := tk }) :
    codeAny (model prog w) A (.call (.ref fI) args) R s := by
  obtain ⟨oc, od, qual, doc, pm, an, cda, cc, ct, osl, q, p, ccl, cdd, vs, ccs, file, tf, cl, cld, csl, ho, hcd, hcode, hvs, hfile, hcell, hline⟩ := T.fn
  obtain ⟨B, newId, initId, bmB, n, cq, N, bs, bm, sn, sub, ab, col, dd, k0, k1, k2, k3, k5, hC, FB, KF, hT, hps, hobj, hal, hsB, hsC⟩ := T.cls
  have hcl : clsIn K C = some { name := n, bases := bs, mro := .ref C :: bm, ns := N, qualname := cq, hasDict := true, slotNames := sn, subclasses := sub, abstract := ab, collection := col, hasDel := false } := by unfold clsIn; rw [hC] <;> rfl
  refine ks_codeAny_call_defAt (fd := ksFn "__init__" qual (iA2 q) (iB2 p) iS2 .none .none doc pm an (.ref cda) ct cc) (body := iB2 p) (binds := [("self", .ref x), ("index", v), ("shown", v2)]) hroom (X _ _ ho) rfl hlim (codeRec_of X hcd) rfl ?_ ?_ ?_ (fun h₁ hns k => ?_) rfl rfl rfl
  · rcases ha with rfl | rfl <;> exact BindsTo.of_eq (by first | rfl | with_unfolding_all rfl)
  · show ∀ y ∈ iS2.names, y.2 ≠ .cell
    decide
  · intro y hy
    show iS2.names.lookup y.1 = some .local
    have hy2 : y = ((PySem.Str.ofString "self", Value.ref x) : Str × Value) ∨ y = ((PySem.Str.ofString "index", v) : Str × Value) ∨ y = ((PySem.Str.ofString "shown", v2) : Str × Value) := by
      rcases List.mem_cons.mp hy with e | hy
      · exact .inl e
      · rcases List.mem_cons.mp hy with e | hy
        · exact .inr (.inl e)
        · exact .inr (.inr (List.mem_singleton.mp hy))
    rcases hy2 with rfl | rfl | rfl <;> rfl
  have kl : iS2.names.lookup ("index" : Str) = some .local := rfl
  have kl2 : iS2.names.lookup ("shown" : Str) = some .local := rfl
  have X₁ : K.In h₁ := X.keeps k
  have hx₁ := k _ _ hx
  have hC₁ := X₁ _ _ hC
  have hlt : s.heap.objs.size < h₁.objs.size := hns.lt
  have hxL : x < s.heap.objs.size := Heap.lt_size hx
  obtain ⟨hh, g, d, tk, os⟩ := s
  refine ks_wpAt_execs_cons ?_
  refine ks_wpAt_Expr_any ?_
  refine ks_wpAt_MethodCall ?_ (call_eq hline)
  have ks : iS2.names.lookup ("super" : Str) = some .globalImplicit := rfl
  have kc : iS2.names.lookup ("__class__" : Str) = some .free := rfl
  have kself : iS2.names.lookup ("self" : Str) = some .local := rfl
  refine ks_wpAt_super_base (env := ksEnv qual iS2 hh.objs.size fI (.ref cda) cc) ks kc rfl rfl (X₁ _ _ ho) rfl rfl rfl (X₁ _ _ hcode) rfl hvs hfile TP.top ?_
  refine ks_loadName_global rfl ks (loadGlobal_builtin (env := ksEnv qual iS2 hh.objs.size fI (.ref cda) cc) (hg.keeps k) TP.free (hb.keeps k) hbs ⟨rfl, ?_⟩)
  refine wpAny_loadName_free rfl kc rfl ⟨_, X₁ _ _ hcell, rfl⟩ ?_
  have mself : List.lookup ("self" : Str) [(("shown", v2) : Str × Value), ("index", v), ("self", .ref x)] = some (.ref x) := rfl
  have mf : List.lookup ("index" : Str) [(("shown", v2) : Str × Value), ("index", v), ("self", .ref x)] = some v := rfl
  have mf2 : List.lookup ("shown" : Str) [(("shown", v2) : Str × Value), ("index", v), ("self", .ref x)] = some v2 := rfl
  refine wpAny_loadName_local rfl kself hns mself ?_
  refine ks_wpAny_isType_cls hC₁ rfl ⟨rfl, ?_⟩
  refine ks_wpAny_call_super hC₁ rfl hx₁ rfl (fun c e => by cases e) (looks_mroIn X₁ hsC) (fun h₂ e2 k2 => ?_)
  have X₂ : K.In h₂ := X₁.keeps k2
  have hx₂ := k2 _ _ hx₁
  have hC₂ := X₂ _ _ hC
  have hxC : x ≠ C := fun z => by
    rw [z] at hx₁
    rw [hC₁] at hx₁
    cases hx₁
  have I₂ : InstAt h₂ x (excO C t0) C none := ⟨hx₂, rfl, rfl, trivial⟩
  refine kxs_getMethod (K := K) KF e2 (looks_opaque X₂ T.op) (l₀ := .ref C :: bm) (l := bm) ?_ ?_ X₂ hal (I₂.type.andThen (looks_subIn X₂ hsB)) hxC rfl ?_
  · exact fun A Q E s k q => wpAny_bind ((looks_clsIn X₂ hcl) A _ E s k (wpAny_pure q))
  · simp
  have kk : (h₂.push (kxs_mw initId x)).get? h₂.objs.size = some (kxs_mw initId x) := Heap.get?_push_size h₂ rfl
  refine kxs_callWith (i := initId) (x := x) rfl (evalArgs_empty ⟨kk, ?_⟩)
  have hx₃ : (h₂.push (kxs_mw initId x)).get? x = some (excO C t0) := Heap.get?_push_of_some _ hx₂
  have hC₃ : (h₂.push (kxs_mw initId x)).get? C = _ := Heap.get?_push_of_some _ hC₂
  refine wpAny_call (codeAny_of_tree ?_)
  show wpAny _ _ (callAny (.ref h₂.objs.size) ⟨[], []⟩) _ _ _
  simp only [callAny]
  refine wpAny_bind (wpAny_load kk ?_)
  simp only [kxs_mw, show (Value.type "method-wrapper" == Value.type "method" || Value.type "method-wrapper" == Value.type "builtin_function_or_method" || Value.type "method-wrapper" == Value.type "method-wrapper") = true by decide, if_true]
  refine KFB.if_so (by decide) ?_
  refine wpAny_bind (check_bound_init FB.toExcCallFacts hC₃ hx₃ rfl ?_)
  refine wpAny_bind (wpAny_pure (wpAny_pure ?_))
  refine ⟨plainId_quiet FB.init.plain _, codeAny_builtin FB.initEntry ?_⟩
  refine exc_init_tree (cls := .ref C) (t0 := t0) (dv := none) (c2 := .none) (c3 := .none) (b4 := .bool false) hx₃ (by rw [sizeLine_eq]; decide) fun h₄ k4 hx4 ht4 => ?_
  -- self.f = f
  have k04 : ∀ b o, b ≠ x → hh.get? b = some o → h₄.get? b = some o := fun b o hb e => k4 b o hb (Heap.get?_push_of_some _ (k2 _ _ (k _ _ e)))
  have X₄ : K.In h₄ := fun a o e => k4 a o (fun z => by rw [z, hnx] at e; cases e) (Heap.get?_push_of_some _ (X₂ _ _ e))
  have hns4 : h₄.Ns hh.objs.size (fun y => List.lookup y [(("shown", v2) : Str × Value), ("index", v), ("self", .ref x)]) := by
    obtain ⟨oL, es, ep, hL, r⟩ := hns
    exact ⟨oL, es, ep, k4 _ _ (Nat.ne_of_gt hxL) (Heap.get?_push_of_some _ (k2 _ _ hL)), r⟩
  have zz : hh.objs.size < h₄.objs.size := hns4.lt
  show PySem.wpAt _ _ _ (execs [.Assign [.Attribute (.Name "self" (p 5)) "index" (p 6)] (.Name "index" (p 7)) (p 8), .Assign [.Attribute (.Name "self" (p 9)) "shown" (p 10)] (.Name "shown" (p 11)) (p 12)] _) _ _ _
  have npass : ∀ self, refuseLoop self "__setattr__" (.ref C :: bm) = pure () := fun self => by
    rw [refuseLoop_ref]
    exact hps self
  have nob : List.contains (.ref C :: bm) (.type "object") = true := by rw [List.contains_cons, hobj, Bool.or_true]
  refine wpAt_of_wpAny (wpAny_execs_cons (plainObj_wpAny_Assign_Attribute ?_ rfl))
  refine ldC (v := v) rfl hns4 mf (ldC (v := .ref x) rfl hns4 mself ?_ rfl kself (by decide)) rfl kl (by decide)
  refine set_plain X₄ (ox := excO C (h₂.push (kxs_mw initId x)).objs.size) (od := none) ⟨hx4, rfl, rfl, trivial⟩ T.sa ?_
  refine exc_osaB X₄ hx4 hcl npass rfl nob rfl T.noN (fun h₅ tk₅ dx k₅ dn dne hx₅ hn₅ => ?_)
  have X₅ : K.In h₅ := fun a o e => k₅ a o (fun z => by rw [z, hnx] at e; cases e) (X₄ _ _ e)
  have hL5 : h₅.Ns hh.objs.size (fun y => List.lookup y [(("shown", v2) : Str × Value), ("index", v), ("self", .ref x)]) := by
    obtain ⟨oL, es, ep, hL, r⟩ := hns4
    exact ⟨oL, es, ep, k₅ _ _ (Nat.ne_of_gt hxL) hL, r⟩
  obtain ⟨oD, esD, epD, hoD, hdD, _⟩ := hn₅.count (ns := ["index"]) (fun y hy => by
    by_cases e : y = "index"
    · rw [e]; exact List.mem_singleton.mpr rfl
    · rw [if_neg e] at hy; exact absurd rfl hy)
  show wpAny _ _ (execs [.Assign [.Attribute (.Name "self" (p 9)) "shown" (p 10)] (.Name "shown" (p 11)) (p 12)] _) _ _ _
  refine wpAny_execs_cons (plainObj_wpAny_Assign_Attribute ?_ rfl)
  refine ldC (v := v2) rfl hL5 mf2 (ldC (v := .ref x) rfl hL5 mself ?_ rfl kself (by decide)) rfl kl2 (by decide)
  refine set_plain X₅ (ox := { cls := .ref C, dict := some dx, data := .fields #[.ref (h₂.push (kxs_mw initId x)).objs.size, .none, .none, .none, .bool false, .none] }) (od := some oD) ⟨hx₅, rfl, rfl, hoD⟩ T.sa ?_
  refine osa_oldB X₅ hx₅ hn₅ (nl := ["index"]) (fun y hy => by
    by_cases e : y = "index"
    · rw [e]; exact List.mem_singleton.mpr rfl
    · rw [if_neg e] at hy; exact absurd rfl hy) (by decide) hcl npass rfl nob rfl T.noM (fun h₆ tk₆ k₆ hn₆ => ?_)
  show wpAny _ _ (execs _ _) _ _ _
  have hlt4 : hh.objs.size ≤ dx := Nat.le_of_lt (Nat.lt_of_lt_of_le zz dn)
  exact wpAny_execs_nil (hq h₆ tk₆ dx _ ⟨fun b o hb e => k₆ b o (Nat.ne_of_lt (Nat.lt_of_lt_of_le (Heap.lt_size e) hlt4)) (k₅ b o hb (k04 b o hb e)), k₆ _ _ (Ne.symm dne) hx₅, hlt4, dne, hn₆⟩)
theorem x_made2 (T : XTxt2 prog K mg nm C fI) (TP : TopX prog mg) {v v2 : Value} (X : K.In s.heap) (hg : s.heap.Ns mainGlobals mg) (hb : s.heap.Ns builtinsNs mb) (hbs : mb "super" = some (.type "super")) (hlim : s.heap.NoLimit) (hroom : A.depth + 1 < recursionLimit)
    (hq : ∀ h' tk e d, OwnMade2 s.heap h' e C d v v2 → R (.ok (.ret (.ref e))) { s with heap := h', toks := tk }) :
    codeAny (model prog w) A (.call (.ref C) ⟨[v, v2], []⟩) R s := by
  obtain ⟨B, newId, initId, bmB, n, cq, N, bs, bm, sn, sub, ab, col, dd, k0, k1, k2, k3, k5, hC, FB, KF, hT, hps, hobj, hal, hsB, hsC⟩ := T.cls
  obtain ⟨hp, g, dr, tk, os⟩ := s
  have k : ∀ b o, hp.get? b = some o → ((hp.push (kdv_tup [v, v2])).push (excO C hp.objs.size)).get? b = some o := fun b o e => Heap.get?_push_of_some _ (Heap.get?_push_of_some _ e)
  have hget : ((hp.push (kdv_tup [v, v2])).push (excO C hp.objs.size)).get? (hp.objs.size + 1) = some (excO C hp.objs.size) := by heap_get
  have hnx : K.lookup (hp.objs.size + 1) = none := by
    cases e : K.lookup (hp.objs.size + 1) with
    | none => rfl
    | some o =>
      have z : hp.get? (hp.objs.size + 1) = some o := X _ _ e
      exact absurd (Nat.lt_of_succ_lt (Heap.lt_size z)) (Nat.lt_irrefl _)
  refine call_own FB hT (X _ _ hC) (looks_findIn X T.iC) (fun self => bind_fn X self T.tC) (two_size v v2) ?_
  refine x_init2 (s := ⟨(hp.push (kdv_tup [v, v2])).push (excO C hp.objs.size), g, dr, tk, os⟩) T TP (.inl rfl) (X.keeps k) (hg.keeps k) (hb.keeps k) hbs (hlim.keeps k) hget hnx ?_ fun h' tk' dx t1 ⟨k', hx, dn, dne, hns⟩ => ?_
  · show A.depth + 1 < recursionLimit
    exact hroom
  · have old : ∀ b o, hp.get? b = some o → h'.get? b = some o := fun b o e => k' b o (Nat.ne_of_lt (Nat.lt_succ_of_lt (Heap.lt_size e))) (k b o e)
    have z : hp.objs.size + 1 + 1 ≤ dx := by
      first
        | (simpa only [Heap.size_push] using dn)
        | exact dn
        | (have q := dn; rw [Heap.size_push, Heap.size_push] at q; exact q)
    exact ⟨rfl, hq h' tk' (hp.objs.size + 1) dx ⟨old, Nat.le_succ _, ⟨_, _, hx, rfl, rfl, rfl, rfl⟩, Nat.le_trans (Nat.le_trans (Nat.le_succ _) (Nat.le_succ _)) z, dne, hns⟩⟩
end
end ExX
end PySem
end
section
set_option Elab.async false
set_option linter.all false
set_option maxRecDepth 100000
set_option maxHeartbeats 2000000
/-! HX4: what the head tells of classes of errors. -/
namespace HL
open PySem PySem.Spec L2 PySem.Builtin PySem.Builtin.ObjectAttr
/-- a class of errors with one field: its name, the field, its built-in base, the def of its __init__ -/
structure XcD where
  nm : Str
  f : Str
  base : String
  ar : Arguments
  bd : List Stmt
def tailOf (B : String) : List Value := [.type B, .type "Exception", .type "BaseException", .type "object"]
def qA (a : Arguments) (i : Nat) : Pos := ((a.args[i]?).map (·.pos)).getD ⟨0, 0, 0, 0⟩
def qB (b : List Stmt) (i : Nat) : Pos := match b with
  | [.Expr (.Call (.Attribute (.Call (.Name _ p0) _ _ p1) _ p2) _ _ p3) p4, .Assign [.Attribute (.Name _ p5) _ p6] (.Name _ p7) p8] => [p0, p1, p2, p3, p4, p5, p6, p7, p8].getD i p0
  | _ => ⟨0, 0, 0, 0⟩
/-- the same of a def that sets two fields -/
def qB2 (b : List Stmt) (i : Nat) : Pos := match b with
  | [.Expr (.Call (.Attribute (.Call (.Name _ p0) _ _ p1) _ p2) _ _ p3) p4, .Assign [.Attribute (.Name _ p5) _ p6] (.Name _ p7) p8, .Assign [.Attribute (.Name _ p9) _ p10] (.Name _ p11) p12] => [p0, p1, p2, p3, p4, p5, p6, p7, p8, p9, p10, p11, p12].getD i p0
  | _ => ⟨0, 0, 0, 0⟩
def XcD.init (d : XcD) (K : Frag) : Addr := He.ma K (He.ga K d.nm) "__init__"
def fnX (K : Frag) (a : Addr) : He.FnW := match K.lookup a with
  | some ⟨_, _, .func fd, _⟩ => some (fd.name, fd.qualname, fd.params, fd.body, fd.scope, fd.globals, fd.closure.map fun p => (p.1, 0), fd.builtins)
  | _ => none
def XcD.qual (d : XcD) : Str := d.nm ++ ".__init__"
/-- a class with the two fields index and shown bears the field "2" -/
def XcD.val (d : XcD) : He.FnW := if d.f = "2" then some ("__init__", d.qual, ExX.iA2 (qA d.ar), .stmts (ExX.iB2 (qB2 d.bd)), ExX.iS2, mainGlobals, [("__class__", 0)], builtinsNs) else some ("__init__", d.qual, ExX.iA d.f (qA d.ar), .stmts (ExX.iB d.f (qB d.bd)), ExX.iS d.f, mainGlobals, [("__class__", 0)], builtinsNs)
/-- the class's own shape -/
def clsX (K : Frag) (C : Addr) (B newId initId : String) : Bool := PySem.W.excInitIn K C (tailOf B) newId && (PySem.W.hasDictIn K C && (match PySem.W.clsIn K C with
  | some cd => He.eqO (PySem.W.alongIn K "__init__" (cd.mro.drop 1) |>.map id) (some (some (.builtin initId)))
  | none => false) && (decide (PySem.W.subIn K (.ref C) (.type B) = some true) && decide (PySem.W.mroIn K C (.ref C) = some true)))
def fnB (K : Frag) (C fI : Addr) (qual file : Str) : Bool := match K.lookup fI with
  | some ⟨_, _, .func fd, _⟩ => decide (fd.defaults = .none) && (decide (fd.kwdefaults = .none) && ((match fd.code with
    | .ref cda => PySem.W.codeIn K (.ref cda) qual && (match K.lookup cda with
      | some ⟨_, _, .fields vs, _⟩ => (match (vs[2]? : Option Value) with
        | some (.str z _) => file == z
        | _ => false)
      | _ => false)
    | _ => false) && (match fd.closure with
    | [(_, cc)] => (match K.lookup cc with
      | some ⟨_, _, .cell (some (.ref C')), _⟩ => decide (C' = C)
      | _ => false)
    | _ => false)))
  | _ => false
def XcD.ok (file : Str) (K : Frag) (d : XcD) : Bool := decide (d.f = "2" ∨ d.f = "given" ∨ d.f = "index" ∨ d.f = "most") && ((He.Fa.glo d.nm).ok K && ((match d.base with
  | "ValueError" => clsX K (He.ga K d.nm) "ValueError" "ValueError.__new__" "ValueError.__init__"
  | "LookupError" => clsX K (He.ga K d.nm) "LookupError" "LookupError.__new__" "LookupError.__init__"
  | "ArithmeticError" => clsX K (He.ga K d.nm) "ArithmeticError" "ArithmeticError.__new__" "ArithmeticError.__init__"
  | _ => false) && (He.eqO (PySem.W.findIn K (.ref (He.ga K d.nm)) "__setattr__") (some (some (.builtin "object.__setattr__"))) && (xfB K (He.ga K d.nm) && ((if d.f = "2" then He.eqO (PySem.W.findIn K (.ref (He.ga K d.nm)) "index") (some none) && He.eqO (PySem.W.findIn K (.ref (He.ga K d.nm)) "shown") (some none) else He.eqO (PySem.W.findIn K (.ref (He.ga K d.nm)) d.f) (some none)) && (He.eqO (PySem.W.findIn K (.ref (He.ga K d.nm)) "__init__") (some (some (.ref (d.init K)))) &&
  (decide (PySem.W.typeIn K (.ref (d.init K)) = some (.type "function")) && (PySem.W.keepIn K (.ref (He.ga K d.nm)) && (decide (PySem.W.typeIn K (.ref (He.ga K d.nm)) = some (.type "type")) && (He.eqO (PySem.W.nsIn K PySem.cStatics "thirdparty.any") (some none) && (fnB K (He.ga K d.nm) (d.init K) d.qual file && (if d.f = "2" then (qB2 d.bd 2).endLine == (qB2 d.bd 3).line else (qB d.bd 2).endLine == (qB d.bd 3).line))))))))))))
theorem pass_of {B : String} (hB : ∀ self, refuseLoop self "__setattr__" (tailOf B) = pure ()) (self : Value) : ∀ l : List Value, PySem.W.excTail (tailOf B) l = true → refuseLoop self "__setattr__" l = pure () := by
  intro l
  induction l with
  | nil => intro e; exact absurd (beq_iff_eq.mp e) (by simp [tailOf])
  | cons a r ih =>
    intro e
    rcases PySem.W.excTail_cases (a :: r) e with ⟨c, r', q, h⟩ | q
    · obtain ⟨rfl, rfl⟩ := List.cons.inj q
      rw [refuseLoop_ref]
      exact ih h
    · rw [q]
      exact hB self
theorem clsX_ok {K : Frag} {C : Addr} {B newId initId : String} (FB : ExcBaseFacts B newId initId (tailOf B)) (KF : PySem.W.KxsFacts B initId) (hB : ∀ self, refuseLoop self "__setattr__" (tailOf B) = pure ()) (h : clsX K C B newId initId = true) :
    ∃ B newId initId bmB n q N bs bm sn sub ab col dd k0 k1 k2 k3 k5, K.lookup C = some (excClassObj n q C N bs bm true sn sub ab col dd k0 k1 k2 k3 k5 newId) ∧ ExcBaseFacts B newId initId bmB ∧ PySem.W.KxsFacts B initId ∧
    (∀ X : String, bm.contains (.type X) = bmB.contains (.type X)) ∧ (∀ self, refuseLoop self "__setattr__" bm = pure ()) ∧ bm.contains (.type "object") = true ∧ PySem.W.alongIn K "__init__" bm = some (some (.builtin initId)) ∧ PySem.W.subIn K (.ref C) (.type B) = some true ∧ PySem.W.mroIn K C (.ref C) = some true := by
  obtain ⟨q, h⟩ := He.ba h
  obtain ⟨h1, h2⟩ := He.ba h
  obtain ⟨hd, ha⟩ := He.ba h1
  obtain ⟨hs, hm⟩ := He.ba h2
  unfold PySem.W.excInitIn at q
  split at q
  · rename_i dd cd sl ho
    split at q
    · rename_i C' bm k0 k1 k2 k3 n k5 hmr hsl
      simp only [Bool.and_eq_true, beq_iff_eq, Bool.not_eq_true'] at q
      obtain ⟨⟨⟨rfl, rfl⟩, hdel⟩, ht⟩ := q
      obtain ⟨nm, bs, mro, ns, qn, hdd, sn, sub, ab, col, del⟩ := cd
      dsimp only at hmr hdel
      subst hmr hdel
      have hsl : sl = #[k0, k1, k2, k3, some (.builtin n), k5] := by
        obtain ⟨l⟩ := sl
        simp only at hsl
        rw [hsl]
      subst hsl
      have hc : PySem.W.clsIn K C' = some { name := nm, bases := bs, mro := .ref C' :: bm, ns := ns, qualname := qn, hasDict := hdd, slotNames := sn, subclasses := sub, abstract := ab, collection := col, hasDel := false } := by unfold PySem.W.clsIn; rw [ho] <;> rfl
      have e : hdd = true := by
        unfold PySem.W.hasDictIn at hd
        rw [hc] at hd
        simpa using hd
      subst e
      rw [hc] at ha
      have ha2 := He.eqO_ok ha
      refine ⟨B, n, initId, tailOf B, nm, qn, ns, bs, bm, sn, sub, ab, col, dd, k0, k1, k2, k3, k5, ho, FB, KF, fun T => PySem.W.excTail_contains T _ ht, fun self => pass_of hB self _ ht, ?_, ?_, of_decide_eq_true hs, of_decide_eq_true hm⟩
      · rw [PySem.W.excTail_contains "object" _ ht]
        simp [tailOf]
      · simpa using ha2
    · cases q
  · cases q
theorem XcD.txt {P : Program} {K : Frag} {mg : Str → Option Value} {h : Heap} {d : XcD} {file : Str} (X : K.In h) (G : h.Ns mainGlobals mg) (hf : P.main.file = file) (e : fnX K (d.init K) = d.val) (c : d.ok file K = true) (hn : ¬ d.f = "2") : ExX.XTxt P K mg d.nm d.f (He.ga K d.nm) (d.init K) := by
  obtain ⟨c1, c⟩ := He.ba c
  obtain ⟨c2, c⟩ := He.ba c
  obtain ⟨c3, c⟩ := He.ba c
  obtain ⟨c4, c⟩ := He.ba c
  obtain ⟨c5, c⟩ := He.ba c
  obtain ⟨c6, c⟩ := He.ba c
  obtain ⟨c7, c⟩ := He.ba c
  obtain ⟨c8, c⟩ := He.ba c
  obtain ⟨c9, c⟩ := He.ba c
  obtain ⟨c10, c⟩ := He.ba c
  obtain ⟨c11, c⟩ := He.ba c
  obtain ⟨c12, c13⟩ := He.ba c
  have xf := xfB_ok c5
  rw [if_neg hn] at c6 c13
  refine { nf := (of_decide_eq_true c1).resolve_left hn, gC := He.glo_ok X G c2, cls := ?_, sa := He.eqO_ok c4, ga := xf.ga, gg := xf.gg, noN := He.eqO_ok c6, iC := He.eqO_ok c7, tC := of_decide_eq_true c8, kC := c9, exC := xf.exC, tyC := of_decide_eq_true c10, hdC := xf.hdC, op := He.eqO_ok c11, fn := ?_ }
  · split at c3
    · exact clsX_ok F.excBase_ValueError PySem.W.kxs_ValueError F.store_ValueError.passes c3
    · exact clsX_ok F.excBase_LookupError PySem.W.kxs_LookupError F.store_LookupError.passes c3
    · exact clsX_ok F.excBase_ArithmeticError PySem.W.kxs_ArithmeticError F.store_ArithmeticError.passes c3
    · cases c3
  · unfold fnB at c12
    unfold fnX at e
    split at c12
    · rename_i oc od fd osl lk
      rw [lk] at e
      obtain ⟨n1, n2, n3, n4, n5, n6, n7, n8, n9, n10, n11, n12, n13, n14, n15⟩ := fd
      dsimp only at c12 e
      obtain ⟨d1, c12⟩ := He.ba c12
      obtain ⟨d2, c12⟩ := He.ba c12
      obtain ⟨d3, d4⟩ := He.ba c12
      obtain rfl : n8 = .none := of_decide_eq_true d1
      obtain rfl : n9 = .none := of_decide_eq_true d2
      unfold XcD.val at e
      rw [if_neg hn] at e
      simp only [Option.some.injEq, Prod.mk.injEq] at e
      obtain ⟨h1, h2, h3, h4, h5, h6, h7, h8⟩ := e
      subst h1 h2 h3 h4 h5 h6 h8
      rcases n7 with _ | ⟨⟨nn, cc⟩, _ | ⟨x, y⟩⟩
      · cases d4
      · obtain rfl : nn = ("__class__" : Str) := by simpa using h7
        cases n13 with
        | ref cda =>
          obtain ⟨d5, d6⟩ := He.ba d3
          cases lk2 : K.lookup cda with
          | none => rw [lk2] at d6; cases d6
          | some o2 =>
            obtain ⟨ccl, cdd, dt2, ccs⟩ := o2
            rw [lk2] at d6
            cases dt2 with
            | fields vs =>
              dsimp only at d6
              cases hz : vs[2]? with
              | none => rw [hz] at d6; cases d6
              | some zv =>
                rw [hz] at d6
                cases zv with
                | str z tf =>
                  cases lk3 : K.lookup cc with
                  | none => dsimp only at d4; rw [lk3] at d4; cases d4
                  | some o3 =>
                    obtain ⟨cl, cld, dt3, csl⟩ := o3
                    dsimp only at d4
                    rw [lk3] at d4
                    cases dt3 with
                    | cell v =>
                      rcases v with _ | v
                      · cases d4
                      · cases v with
                        | ref C' =>
                          obtain rfl : C' = _ := of_decide_eq_true d4
                          exact ⟨oc, od, d.qual, n10, n11, n12, cda, cc, n14, osl, qA d.ar, qB d.bd, ccl, cdd, vs, ccs, z, tf, cl, cld, csl, lk, d5, lk2, hz, by rw [hf]; exact d6, lk3, c13⟩
                        | _ => cases d4
                    | _ => cases d4
                | _ => cases d6
            | _ => cases d6
        | _ => cases d3
      · cases d4
    · cases c12
theorem XcD.txt2 {P : Program} {K : Frag} {mg : Str → Option Value} {h : Heap} {d : XcD} {file : Str} (X : K.In h) (G : h.Ns mainGlobals mg) (hf : P.main.file = file) (e : fnX K (d.init K) = d.val) (c : d.ok file K = true) (hn : d.f = "2") : ExX.XTxt2 P K mg d.nm (He.ga K d.nm) (d.init K) := by
  obtain ⟨c1, c⟩ := He.ba c
  obtain ⟨c2, c⟩ := He.ba c
  obtain ⟨c3, c⟩ := He.ba c
  obtain ⟨c4, c⟩ := He.ba c
  obtain ⟨c5, c⟩ := He.ba c
  obtain ⟨c6, c⟩ := He.ba c
  obtain ⟨c7, c⟩ := He.ba c
  obtain ⟨c8, c⟩ := He.ba c
  obtain ⟨c9, c⟩ := He.ba c
  obtain ⟨c10, c⟩ := He.ba c
  obtain ⟨c11, c⟩ := He.ba c
  obtain ⟨c12, c13⟩ := He.ba c
  have xf := xfB_ok c5
  rw [if_pos hn] at c6 c13
  refine { gC := He.glo_ok X G c2, cls := ?_, sa := He.eqO_ok c4, ga := xf.ga, gg := xf.gg, noN := He.eqO_ok (He.ba c6).1, noM := He.eqO_ok (He.ba c6).2, iC := He.eqO_ok c7, tC := of_decide_eq_true c8, kC := c9, exC := xf.exC, tyC := of_decide_eq_true c10, hdC := xf.hdC, op := He.eqO_ok c11, fn := ?_ }
  · split at c3
    · exact clsX_ok F.excBase_ValueError PySem.W.kxs_ValueError F.store_ValueError.passes c3
    · exact clsX_ok F.excBase_LookupError PySem.W.kxs_LookupError F.store_LookupError.passes c3
    · exact clsX_ok F.excBase_ArithmeticError PySem.W.kxs_ArithmeticError F.store_ArithmeticError.passes c3
    · cases c3
  · unfold fnB at c12
    unfold fnX at e
    split at c12
    · rename_i oc od fd osl lk
      rw [lk] at e
      obtain ⟨n1, n2, n3, n4, n5, n6, n7, n8, n9, n10, n11, n12, n13, n14, n15⟩ := fd
      dsimp only at c12 e
      obtain ⟨d1, c12⟩ := He.ba c12
      obtain ⟨d2, c12⟩ := He.ba c12
      obtain ⟨d3, d4⟩ := He.ba c12
      obtain rfl : n8 = .none := of_decide_eq_true d1
      obtain rfl : n9 = .none := of_decide_eq_true d2
      unfold XcD.val at e
      rw [if_pos hn] at e
      simp only [Option.some.injEq, Prod.mk.injEq] at e
      obtain ⟨h1, h2, h3, h4, h5, h6, h7, h8⟩ := e
      subst h1 h2 h3 h4 h5 h6 h8
      rcases n7 with _ | ⟨⟨nn, cc⟩, _ | ⟨x, y⟩⟩
      · cases d4
      · obtain rfl : nn = ("__class__" : Str) := by simpa using h7
        cases n13 with
        | ref cda =>
          obtain ⟨d5, d6⟩ := He.ba d3
          cases lk2 : K.lookup cda with
          | none => rw [lk2] at d6; cases d6
          | some o2 =>
            obtain ⟨ccl, cdd, dt2, ccs⟩ := o2
            rw [lk2] at d6
            cases dt2 with
            | fields vs =>
              dsimp only at d6
              cases hz : vs[2]? with
              | none => rw [hz] at d6; cases d6
              | some zv =>
                rw [hz] at d6
                cases zv with
                | str z tf =>
                  cases lk3 : K.lookup cc with
                  | none => dsimp only at d4; rw [lk3] at d4; cases d4
                  | some o3 =>
                    obtain ⟨cl, cld, dt3, csl⟩ := o3
                    dsimp only at d4
                    rw [lk3] at d4
                    cases dt3 with
                    | cell v =>
                      rcases v with _ | v
                      · cases d4
                      · cases v with
                        | ref C' =>
                          obtain rfl : C' = _ := of_decide_eq_true d4
                          exact ⟨oc, od, d.qual, n10, n11, n12, cda, cc, n14, osl, qA d.ar, qB2 d.bd, ccl, cdd, vs, ccs, z, tf, cl, cld, csl, lk, d5, lk2, hz, by rw [hf]; exact d6, lk3, c13⟩
                        | _ => cases d4
                    | _ => cases d4
                | _ => cases d6
            | _ => cases d6
        | _ => cases d3
      · cases d4
    · cases c12
/-! ### the facts of a law -/
def tkB (K : Frag) (t : Str × List Str × List Str) : Bool := (He.Fa.glo t.1).ok K && ((t.2.1.all fun D => (He.Fa.exm D t.1 true).ok K) && t.2.2.all fun D => (He.Fa.exm D t.1 false).ok K)
def erB (K : Frag) (t : Str × Str) : Bool := xfB K (He.ga K t.1) && He.eqO (PySem.W.findIn K (.ref (He.ga K t.1)) t.2) (some none)
def neB (K : Frag) (C : Str) : Bool := He.eqO (PySem.W.findIn K (.ref (He.ga K C)) "__ne__") (some (some (.builtin "object.__ne__"))) && decide (PySem.W.mroIn K (He.ga K C) (.type "object") = some true)
/-- a class whose things are equal only to themselves -/
def idB (K : Frag) (C : Str) : Bool := decide (PySem.W.mroIn K (He.ga K C) (.type "object") = some true) && (He.eqO (PySem.W.findIn K (.ref (He.ga K C)) "__eq__") (some (some (.builtin "object.__eq__"))) && He.eqO (PySem.W.findIn K (.ref (He.ga K C)) "__ne__") (some (some (.builtin "object.__ne__"))))
/-- a tuple of one text -/
def tupB (K : Frag) (x z : Str) : Bool := (He.Fa.glo x).ok K && match K.lookup (He.ga K x) with
  | some ⟨.type T, _, .seq its _, _⟩ => decide (T = "tuple") && match its.toList with
    | [.str y _] => decide (y = z)
    | _ => false
  | _ => false
def cmB (K : Frag) (x : Str × Str) : Bool := if x.2 = "=root" then tupB K x.1 "root" else if x.2 = "__eq__" then idB K x.1 else He5.wrapB K (He.ga K x.1) "classmethod" "classmethod.__get__" x.2 && (PySem.W.fnIn K (He5.wf K (He.ga K x.1) "classmethod" x.2) && (PySem.W.readsIn K (He.ga K x.1) (.type "type") && He.eqO (PySem.W.specialIn K (.ref (He.ga K x.1)) "__getattribute__") (some (some (.builtin "type.__getattribute__")))))
def obsX (xc : List XcD) (tk : List (Str × List Str × List Str)) (er : List (Str × Str)) (ne : List Str) (cm : List (Str × Str)) (file : Str) (K : Frag) : AlA := ((He.Fa.free "super").ok K && ((xc.all fun d => d.ok file K) && ((tk.all fun t => tkB K t) && ((er.all fun t => erB K t) && ((ne.all fun C => neB K C) && cm.all fun x => cmB K x)))), xc.map fun d => fnX K (d.init K))
def valX (xc : List XcD) : AlA := (true, xc.map XcD.val)
structure TxX (fa : List He.Fa) (fn : List DefA) (pr : List (Str × Str)) (is : List Str) (xc : List XcD) (tk : List (Str × List Str × List Str)) (er : List (Str × Str)) (ne : List Str) (cm : List (Str × Str)) (file : Str) (P : Program) (K : Frag) (mg : Str → Option Value) : Prop extends TxOf fa fn pr is K mg where
  prog : P.main.file = file ∧ (P.main.scope.names.lookup ("super" : Str)).isSome = false
  saysX : obsX xc tk er ne cm file K = valX xc
section
variable {fa : List He.Fa} {fn : List DefA} {pr : List (Str × Str)} {is : List Str} {xcs : List XcD} {tks : List (Str × List Str × List Str)} {ers : List (Str × Str)} {nes : List Str} {cms : List (Str × Str)} {file : Str} {P : Program} {K : Frag} {mg : Str → Option Value}
theorem TxX.parts (T : TxX fa fn pr is xcs tks ers nes cms file P K mg) : (He.Fa.free "super").ok K = true ∧ (xcs.all fun d => d.ok file K) = true ∧ (tks.all fun t => tkB K t) = true ∧ (ers.all fun t => erB K t) = true ∧ (nes.all fun C => neB K C) = true ∧ (cms.all fun x => cmB K x) = true ∧ (xcs.map fun d => fnX K (d.init K)) = xcs.map XcD.val := by
  have h := T.saysX
  have h1 : ((He.Fa.free "super").ok K && ((xcs.all fun d => d.ok file K) && ((tks.all fun t => tkB K t) && ((ers.all fun t => erB K t) && ((nes.all fun C => neB K C) && cms.all fun x => cmB K x))))) = true := congrArg (fun z : AlA => z.1) h
  obtain ⟨a, h1⟩ := He.ba h1
  obtain ⟨b, h1⟩ := He.ba h1
  obtain ⟨c, h1⟩ := He.ba h1
  obtain ⟨d, h1⟩ := He.ba h1
  obtain ⟨e, f⟩ := He.ba h1
  exact ⟨a, b, c, d, e, f, congrArg (fun z : AlA => z.2) h⟩
theorem TxX.ne (T : TxX fa fn pr is xcs tks ers nes cms file P K mg) (i : Nat) {C : Str} (h : nes[i]? = some C) : PySem.W.findIn K (.ref (He.ga K C)) "__ne__" = some (some (.builtin "object.__ne__")) ∧ PySem.W.mroIn K (He.ga K C) (.type "object") = some true := by
  have q : neB K C = true := List.all_eq_true.mp T.parts.2.2.2.2.1 _ (List.mem_of_getElem? h)
  obtain ⟨a, b⟩ := He.ba q
  exact ⟨He.eqO_ok a, of_decide_eq_true b⟩
theorem TxX.cm (T : TxX fa fn pr is xcs tks ers nes cms file P K mg) (i : Nat) {x : Str × Str} (h : cms[i]? = some x) (hne : ¬ x.2 = "__eq__" := by decide +kernel) (hnr : ¬ x.2 = "=root" := by decide +kernel) : ClX.CRead K (He.ga K x.1) (.type "type") ∧ ClX.CMet K (He.ga K x.1) (.type "type") x.2 (He.ma K (He.ga K x.1) x.2) (He5.wf K (He.ga K x.1) "classmethod" x.2) := by
  have q : cmB K x = true := List.all_eq_true.mp T.parts.2.2.2.2.2.1 _ (List.mem_of_getElem? h)
  unfold cmB at q
  rw [if_neg hnr, if_neg hne] at q
  obtain ⟨a, q⟩ := He.ba q
  obtain ⟨b, q⟩ := He.ba q
  obtain ⟨c, d⟩ := He.ba q
  exact ⟨⟨c, He.eqO_ok d⟩, He5.cmet_of a b⟩
theorem TxX.idq (T : TxX fa fn pr is xcs tks ers nes cms file P K mg) (i : Nat) {C : Str} (h : cms[i]? = some ((C, "__eq__") : Str × Str)) : idB K C = true := by
  have q : cmB K ((C, "__eq__") : Str × Str) = true := List.all_eq_true.mp T.parts.2.2.2.2.2.1 _ (List.mem_of_getElem? h)
  unfold cmB at q
  rw [if_neg (show ¬ ("__eq__" : Str) = "=root" by decide +kernel)] at q
  rwa [if_pos rfl] at q
/-- the module's tuple of one text -/
theorem TxX.rt (T : TxX fa fn pr is xcs tks ers nes cms file P K mg) (i : Nat) {x : Str} (h : cms[i]? = some ((x, "=root") : Str × Str)) : mg x = some (.ref (He.ga K x)) ∧ ∃ (o : Obj) (n : Nat) (t : Tok), K.lookup (He.ga K x) = some o ∧ o.cls = .type "tuple" ∧ o.data = .seq #[.str "root" t] n := by
  have q : cmB K ((x, "=root") : Str × Str) = true := List.all_eq_true.mp T.parts.2.2.2.2.2.1 _ (List.mem_of_getElem? h)
  unfold cmB at q
  rw [if_pos rfl] at q
  obtain ⟨a, b⟩ := He.ba q
  obtain ⟨_, k, g⟩ := T.heap
  refine ⟨He.glo_ok k g a, ?_⟩
  have b : (match K.lookup (He.ga K x) with
    | some ⟨.type T, _, .seq its _, _⟩ => decide (T = "tuple") && match its.toList with
      | [.str y _] => decide (y = ("root" : Str))
      | _ => false
    | _ => false) = true := b
  split at b
  · rename_i T' dd its n sl e
    obtain ⟨b1, b2⟩ := He.ba b
    split at b2
    · rename_i y t e2
      refine ⟨_, n, t, e, by rw [of_decide_eq_true b1], ?_⟩
      have e3 : y = ("root" : Str) := of_decide_eq_true b2
      show Data.seq its n = _
      rw [← e3, ← e2]
    · cases b2
  · cases b
theorem TxX.tp (T : TxX fa fn pr is xcs tks ers nes cms file P K mg) : ExX.TopX P mg := let ⟨_, k, g⟩ := T.heap; ⟨T.prog.2, He.free_ok k g T.parts.1⟩
theorem TxX.xc (T : TxX fa fn pr is xcs tks ers nes cms file P K mg) (i : Nat) {d : XcD} (h : xcs[i]? = some d) (hn : ¬ d.f = "2" := by decide +kernel) : ExX.XTxt P K mg d.nm d.f (He.ga K d.nm) (d.init K) := by
  obtain ⟨_, b, _, _, _, _, e⟩ := T.parts
  have e2 : (xcs.map fun d => fnX K (d.init K))[i]? = (xcs.map XcD.val)[i]? := by rw [e]
  rw [List.getElem?_map, List.getElem?_map, h] at e2
  obtain ⟨_, k, g⟩ := T.heap
  exact XcD.txt k g T.prog.1 (Option.some.inj e2) (List.all_eq_true.mp b d (List.mem_of_getElem? h)) hn
theorem TxX.xc2 (T : TxX fa fn pr is xcs tks ers nes cms file P K mg) (i : Nat) {d : XcD} (h : xcs[i]? = some d) (hn : d.f = "2" := by decide +kernel) : ExX.XTxt2 P K mg d.nm (He.ga K d.nm) (d.init K) := by
  obtain ⟨_, b, _, _, _, _, e⟩ := T.parts
  have e2 : (xcs.map fun d => fnX K (d.init K))[i]? = (xcs.map XcD.val)[i]? := by rw [e]
  rw [List.getElem?_map, List.getElem?_map, h] at e2
  obtain ⟨_, k, g⟩ := T.heap
  exact XcD.txt2 k g T.prog.1 (Option.some.inj e2) (List.all_eq_true.mp b d (List.mem_of_getElem? h)) hn
theorem TxX.tk (T : TxX fa fn pr is xcs tks ers nes cms file P K mg) (i : Nat) {x : Str} {yes no : List Str} (h : tks[i]? = some (x, yes, no)) : TakesB K x yes no := by
  have q : tkB K (x, yes, no) = true := List.all_eq_true.mp T.parts.2.2.1 _ (List.mem_of_getElem? h)
  obtain ⟨_, q⟩ := He.ba q
  obtain ⟨a, b⟩ := He.ba q
  exact ⟨fun D hD => He.exm_ok (List.all_eq_true.mp a D hD), fun D hD => He.exm_ok (List.all_eq_true.mp b D hD)⟩
theorem TxX.nm (T : TxX fa fn pr is xcs tks ers nes cms file P K mg) (i : Nat) {x : Str} {yes no : List Str} (h : tks[i]? = some (x, yes, no)) : mg x = some (.ref (He.ga K x)) := by
  have q : tkB K (x, yes, no) = true := List.all_eq_true.mp T.parts.2.2.1 _ (List.mem_of_getElem? h)
  obtain ⟨_, k, g⟩ := T.heap
  exact He.glo_ok k g (He.ba q).1
/-- the classes whose field f may be read -/
theorem TxX.er (T : TxX fa fn pr is xcs tks ers nes cms file P K mg) {f : Str} {cs : List Str} (h : (cs.all fun C => ers.contains (C, f)) = true) : ∀ C ∈ cs, ErrC K C f := by
  intro C hC
  have m : (C, f) ∈ ers := by simpa using List.all_eq_true.mp h C hC
  have q := List.all_eq_true.mp T.parts.2.2.2.1 _ m
  obtain ⟨a, b⟩ := He.ba q
  exact ⟨xfB_ok a, He.eqO_ok b⟩
end
section
variable (fa : List He.Fa) (fn : List DefA) (pr : List (Str × Str)) (is : List Str) (xc : List XcD) (tk : List (Str × List Str × List Str)) (er : List (Str × Str)) (ne : List Str) (cm : List (Str × Str)) (file : Str)
def hookX : PySem.W.Hook where
  α := AlA × AlA
  obs := fun s => (obsA fa fn pr is (frAll s.heap.get?), obsX xc tk er ne cm file (frAll s.heap.get?))
  val := fun _ => (valA fn, valX xc)
  says := fun _ h => ∃ K : Frag, K.In h ∧ (obsA fa fn pr is K, obsX xc tk er ne cm file K) = (valA fn, valX xc)
  of := fun _ _ e => ⟨_, He.frG_in, e⟩
  keeps := fun _ _ _ ⟨K, hK, c⟩ k => ⟨K, PySem.W.Frag.In.keeps hK k, c⟩
def obTX (s : PySem.W.SharedT) : AlA × AlA := (obsA fa fn pr is (frAll (HandSHeadRun.getT s)), obsX xc tk er ne cm file (frAll (HandSHeadRun.getT s)))
theorem obTX_eq (s : PySem.W.SharedT) : obTX fa fn pr is xc tk er ne cm file s = (hookX fa fn pr is xc tk er ne cm file).obs s.abs := by
  have e : HandSHeadRun.getT s = s.abs.heap.get? := funext (HandSHeadRun.getT_eq s)
  show (obsA fa fn pr is (frAll (HandSHeadRun.getT s)), obsX xc tk er ne cm file (frAll (HandSHeadRun.getT s))) = (obsA fa fn pr is (frAll s.abs.heap.get?), obsX xc tk er ne cm file (frAll s.abs.heap.get?))
  rw [e]
end
end HL
end
section
set_option Elab.async false
set_option linter.all false
set_option maxRecDepth 100000
set_option maxHeartbeats 2000000
/-! HX6: except (A, B, C) as n; defs called where an error is handled; isinstance of errors. -/
namespace L2
open PySem PySem.Spec PyProof.Rows
open HL (exq)
section
variable {X : Cx} {body suite : List Stmt} {b₀ : Stmt} {pos pos' : Pos} {tb : WX → TS} {ts : TS} {Wout : WX} {n x1 x2 x3 : Str} {c1 c2 c3 : Value} {i kk : Nat} {p1 p2 p3 tpos : Pos}
/-- what the one clause wishes of an exception of the body -/
def wTup (K : PySem.W.Frag) (cs : List Value) (i : Nat) (D : Ends) (ts : TS) : WX := fun cls d σ H => PySem.W.exmAny K cls cs = some true ∧ ∀ a, H a = none → ts (endsAt D (some i)) (slotX σ a (some i)) (upd H a (exq a cls d))
theorem fly_push {B : Heap} {l : List Env} {a : Addr} {Z : Obj → Prop} {hp : Heap} (o : Obj) (f : HandSPX.FlyingZ B l a Z hp) : HandSPX.FlyingZ B l a Z (hp.push o) := by
  obtain ⟨y1, y2, y3, oe, vs, T, oT, ts, g1, g2, g3, g4, g5, g6, g7, g8⟩ := f
  exact ⟨fun b u e => Heap.get?_push_of_some _ (y1 b u e), y2, y3.of_keeps fun b u e _ => ⟨u, Heap.get?_push_of_some _ e, rfl⟩, oe, vs, T, oT, ts, Heap.get?_push_of_some _ g1, g2, g3, g4, g5, g6, Heap.get?_push_of_some _ g7, g8⟩
theorem ps_try_tup (hs : X.stack = X.env :: X.outer) (hf : X.env.frame = some X.env.locals) (hex : X.ex = []) (hN : X.N.Nodup) (hi : X.N[i]? = some n) (hln : X.env.kindOf n = some .local) (hc1 : Names X x1 c1) (hc2 : Names X x2 c2) (hc3 : Names X x3 c3)
    (hb : ∀ (W : WX) (pn : List (Addr × Obj)) (xe : Value → Shared → Prop), Takes (X.tr pn xe) W → PassesOwn (model X.prog X.w) X.A X.env xe → PSs (X.tr pn xe) body (tb W))
    (hsu : ∀ (a : Addr) (pn : List (Addr × Obj)), PSs (X.suite a pn) (b₀ :: suite) ts)
    (hE1 : ∀ A : Env, starEach [.Name x1 p1, .Name x2 p2, .Name x3 p3] A = (false, eval (.Name x1 p1) A) :: starEach [.Name x2 p2, .Name x3 p3] A := by intro A; rfl) (hE2 : ∀ A : Env, starEach [.Name x2 p2, .Name x3 p3] A = (false, eval (.Name x2 p2) A) :: starEach [.Name x3 p3] A := by intro A; rfl) (hE3 : ∀ A : Env, starEach [.Name x3 p3] A = (false, eval (.Name x3 p3) A) :: starEach [] A := by intro A; rfl) :
    PS X (.Try body [.ExceptHandler (some (.Tuple [.Name x1 p1, .Name x2 p2, .Name x3 p3] kk tpos)) (some n) (b₀ :: suite) pos'] [] [] pos) (fun D σ H => tb (wTup X.K [c1, c2, c3] i D ts) D σ H) := by
  refine ⟨fun pins s σ H D I h => ?_⟩
  have ok := I.ok
  have hfr : X.A.frames = some (X.env :: X.outer) := by rw [ok.frames, hs]
  refine wpAny_Try_except ?_
  refine wpAny_mono ((hb (wTup X.K [c1, c2, c3] i D ts) (X.pn ++ pins) (fun e s₁ => wpAny (model X.prog X.w) X.A (noteFrame e X.env) (fun _ s₂ => wpAny (model X.prog X.w) X.A (setFlight e none) (fun _ s₃ =>
    wpAny (model X.prog X.w) X.A (handleBy e X.env [.ExceptHandler (some (.Tuple [.Name x1 p1, .Name x2 p2, .Name x3 p3] kk tpos)) (some n) (b₀ :: suite) pos']) (SP X pins D) X.xe s₃) X.xe s₂) X.xe s₁) (fun u s' xx => ?_) PassesOwn.looking).run [] s σ H D (I.toTry _) h) (fun f s1 hsp => ?_) (fun e s1 he => he)
  · -- caught
    obtain ⟨a, B, sI, pins', σ', H', cls, d, rfl, J', nb, up, sky, na, os, ag, w⟩ := xx
    have J : Inv X pins σ' H' sI := J'.ofTry ok
    have sky' : Sky B (X.env :: X.outer) a (Zc cls d) X.env.locals s'.heap := by rw [← hs]; exact sky
    have Ba : B.get? a = none := by
      rcases sky with h | h | h
      · exact h.2.1
      · exact h.2.1
      · exact h.2.1
    show wpAny (model X.prog X.w) X.A (noteFrame (.ref a) X.env) _ _ _
    refine Sky.land Zc.steady hfr hf sky' fun h3 fl3 up3 => ?_
    have J3 : Inv X pins σ' H' { s' with heap := h3 } := J.landed nb fl3.1 (up.trans up3) os ag
    obtain ⟨oe3, vs3, he3, hz3, hd3⟩ := fl3.there
    have notFr : ∀ {hh : Heap} {oo : Obj} {us : Array Value}, hh.FunFrames B (X.env :: X.outer) → hh.get? a = some oo → oo.data = .fields us → a ∉ frs (X.env :: X.outer) := fun {hh oo us} ff e dd hm => by
      obtain ⟨_, o', e', hnf⟩ := ff.mem hm
      rw [e] at e'; cases e'
      exact hnf _ dd
    have nfr := notFr fl3.2.2.1 he3 hd3
    have nL : a ≠ X.env.locals := fun z => nfr (List.mem_filterMap.mpr ⟨X.env, List.mem_cons_self, by rw [hf, z]⟩)
    have nF : a ∉ X.fs := fun hm => by
      obtain ⟨e, he, q⟩ := List.mem_filterMap.mp hm
      exact nfr (List.mem_filterMap.mpr ⟨e, List.mem_cons_of_mem _ he, q⟩)
    have nI : ∀ b o, sI.heap.get? b = some o → b ∉ frs X.stack → b ≠ a := fun b o e hb z => by
      have q := nb b o e hb
      rw [z, Ba] at q
      cases q
    have h0 : X.s_0.heap.get? a = none := by
      cases e : X.s_0.heap.get? a with
      | none => rfl
      | some o =>
        obtain ⟨o', e'⟩ := J.base.there a o e (by rw [hex]; exact fun z => nomatch z)
        exact absurd rfl (nI a o' e' (by rw [hs]; exact nfr))
    have nP : ∀ p ∈ X.pn ++ pins, p.1 ≠ a := fun p hp => by
      obtain ⟨e1, _, e3, e4, _⟩ := J.pin p hp
      refine nI _ _ e1 fun hm => ?_
      rw [hs] at hm
      obtain ⟨e, he, q⟩ := List.mem_filterMap.mp hm
      rcases List.mem_cons.mp he with rfl | he
      · rw [hf] at q
        exact e3 (Option.some.inj q).symm
      · exact e4 (List.mem_filterMap.mpr ⟨e, he, q⟩)
    have S3 := J3.suite he3 hd3 na nL nF
    have test : ∀ {x : Str} {c : Value} {np : Pos} {tk : Nat} {Q : Value → Shared → Prop} {E : Value → Shared → Prop}, Names X x c → Q c { s' with heap := h3, toks := tk } → wpAny (model X.prog X.w) (X.A.mark (some (.ref a))) (eval (.Name x np) X.env) Q E { s' with heap := h3, toks := tk } := fun {x c np tk Q E} hc q => by
      have S3t := S3.kept (t' := tk) fun _ _ z => z
      obtain ⟨hg, hdbg, hm | ⟨hm, hv, hnn⟩⟩ := hc
      · exact ld_glob (X := X.suite a ((a, oe3) :: (X.pn ++ pins))) S3t hg hm q hdbg
      · exact ld_blt (X := X.suite a ((a, oe3) :: (X.pn ++ pins))) S3t hg hm hv q hnn hdbg
    refine wpAny_handleBy_cons (codeAny_handlers_test ?_) (by intro q; cases q)
    refine Tuple_ ?_
    show wpAny _ _ (spliced (backTo tpos (starEach [.Name x1 p1, .Name x2 p2, .Name x3 p3] X.env))) _ _ _
    refine spliced_more ?_ (hE1 _)
    refine test hc1 (spliced_more (test hc2 (spliced_more (test hc3 ?_) (hE3 _))) (hE2 _))
    refine Calls.spliced_nil ?_
    refine wpAny_newObj_type ?_ (by show 3 ≤ sizeLine; decide +kernel)
    have flP := fly_push { cls := .type "tuple", dict := none, data := .seq [c1, c2, c3].toArray } fl3
    have upP : h3.UpToSlots (h3.push { cls := .type "tuple", dict := none, data := .seq [c1, c2, c3].toArray }) := fun b o e _ => ⟨o.slots, Heap.get?_push_of_some _ e⟩
    have upA := up.trans up3
    have upB := Heap.UpToSlots.trans upA upP
    have J3p : Inv X pins σ' H' { s' with heap := h3.push { cls := .type "tuple", dict := none, data := .seq [c1, c2, c3].toArray } } := J.landed nb flP.1 upB os ag
    have LT : PySem.W.Looks (model X.prog X.w) (h3.push { cls := .type "tuple", dict := none, data := .seq [c1, c2, c3].toArray }) (typeOf (.ref a)) cls := fun A Q E s k q => wpAny_typeOf_ref (k _ _ (Heap.get?_push_of_some _ he3)) (by rw [hz3.1]; exact q)
    have LM := PySem.W.exm_tup3 (M := model X.prog X.w) (J3p.kIn) LT (Heap.get?_push_size _ rfl) w.1
    refine LM.here ?_
    refine codeAny_handlers_suite_as ?_
    refine HandSPX.lands_againZ flP fun h4 fl4 up4 => ?_
    have J4 : Inv X pins σ' H' { s' with heap := h4 } := J.landed nb fl4.1 (upB.trans up4) os ag
    obtain ⟨oe4, vs4, he4, hz4, hd4⟩ := fl4.there
    have S4 := (J4.track na h0 he4 hz4 hd4 nL nP).suiteT a
    refine store_ok (X := X.suite a (X.pn ++ pins)) (v := .ref a) S4 hN hi (.inl hln) rfl (fun s5 S5 => ?_) (.inr hln)
    refine wpAny_mono ((hsu a (X.pn ++ pins)).run [] s5 _ _ _ S5 (w.2 a na)) (fun f s6 hsp => ?_) (fun _ _ z => False.elim z)
    have end_ : ∀ {σ6 : St} {H6 : Hp} {Q : Shared → Prop}, Inv (X.suite a (X.pn ++ pins)) [] σ6 H6 s6 → (∀ s7, Inv X pins (σ6.set i none) H6 s7 → Q s7) →
        wpAny (model X.prog X.w) X.A (do bindName X.env n .none; unbindBehindTheSuite X.env n pos') (fun _ s7 => Q s7) X.xe s6 := fun {σ6 H6 Q} S6 hq => gone_ok (S6.unsuiteT ok) hN hi hln hq
    cases f with
    | next =>
      obtain ⟨σ6, H6, S6, q6⟩ := hsp
      exact end_ S6 fun s7 J7 => ⟨_, _, J7, q6⟩
    | brk =>
      obtain ⟨σ6, H6, S6, q6⟩ := hsp
      exact end_ S6 fun s7 J7 => ⟨_, _, J7, q6⟩
    | cont =>
      obtain ⟨σ6, H6, S6, q6⟩ := hsp
      exact end_ S6 fun s7 J7 => ⟨_, _, J7, q6⟩
    | ret u =>
      obtain ⟨v6, σ6, H6, S6, r6, q6⟩ := hsp
      exact end_ S6 fun s7 J7 => ⟨_, _, _, J7, r6, q6⟩
  · cases f with
    | next =>
      obtain ⟨σ', H', J', q⟩ := hsp
      exact wpAny_execs_nil ⟨σ', H', J'.ofTry ok, q⟩
    | brk =>
      obtain ⟨σ', H', J', q⟩ := hsp
      exact ⟨σ', H', J'.ofTry ok, q⟩
    | cont =>
      obtain ⟨σ', H', J', q⟩ := hsp
      exact ⟨σ', H', J'.ofTry ok, q⟩
    | ret u =>
      obtain ⟨v, σ', H', J', r, q⟩ := hsp
      exact ⟨v, σ', H', J'.ofTry ok, r, q⟩
end
end L2
namespace HL
open PySem PySem.Spec L2 PyProof.Rows
/-! ### room where an error is handled -/
structure RoomT (k : Nat) (A : Around) : Prop where
  r : L2H.RoomH k A
  g : A.guards = some []
theorem RoomT.mono {j k : Nat} {A : Around} (h : RoomT k A) (le : j ≤ k) : RoomT j A := ⟨h.r.mono le, h.g⟩
theorem RoomT.deeper {k : Nat} {A : Around} (h : RoomT (k + 1) A) (env : Env) : RoomT k (A.deeper env) := ⟨h.r.deeper env, h.g⟩
structure FitT (X : Cx) (k : Nat) : Prop where
  rm : RoomT k X.A
  nd : X.N.Nodup
section
variable {X : Cx} {k : Nat}
theorem FitT.hu (c : FitT X k) : X.A.units + 65 < cLine := by
  have := c.rm.r.un
  omega
theorem FitT.hu4 (c : FitT X k) : X.A.units + 64 < cLine := by
  have := c.rm.r.un
  omega
theorem Fit.suiteH {Wx : WX} (c : Fit X Wx k) (a : Addr) (pn : List (Addr × Obj)) : FitT (X.suite a pn) k := ⟨⟨⟨c.rm.r.dp, c.rm.r.un⟩, c.rm.g⟩, c.nd⟩
theorem takesN : Takes X wx0 := fun u s' ⟨_, _, _, _, _, _, _, _, _, _, _, _, _, _, _, _, w⟩ => w.elim
end
/-- the def at f keeps the promise sp, raising nothing, also where an error is handled -/
structure FnT (P : Program) (w : World) (K : Frag) (mg : Str → Option Value) (base : Heap) (k : Nat) (f : Addr) (fd : FuncData) (ps : List Str) (sp : Sp) : Prop where
  len : ∀ vs H Q E, sp vs H Q E → vs.length = ps.length
  go : ∀ (A : Around) (outer : List Env) (s : Shared) (H : Hp) (args : Args) (us : List Value) (vs : List V) (Q : VK),
    RoomT k A → Env0 P w K mg base A outer s H → BindsTo s fd args (ps.zip us) → Vals vs us → sp vs H Q (fun _ _ _ => False) → codeAny (model P w) A (.call (.ref f) args) (CR (L2.CX P w) outer P w H s Q (fun _ _ _ => False)) s
theorem FnT.mono {P : Program} {w : World} {K : Frag} {mg : Str → Option Value} {base : Heap} {j k : Nat} {f : Addr} {fd : FuncData} {ps : List Str} {sp : Sp} (F : FnT P w K mg base j f fd ps sp) (h : j ≤ k) : FnT P w K mg base k f fd ps sp :=
  ⟨F.len, fun A outer s H args us vs Q hr => F.go A outer s H args us vs Q (hr.mono h)⟩
/-- the context of such a def's body -/
def cxT (CX : CXT) (P : Program) (w : World) (K : Frag) (mg : Str → Option Value) (base : Heap) (N : List Str) (qual : Str) (scope : Scope) (f : Addr) (cd : Value) (A : Around) (outer : List Env) (s : Shared) (H : Hp) (E : XK) : Cx :=
  { cxOf CX P w K mg base N qual scope f cd A outer s H E with calm := false }
def calmA (A : Around) : Around := { A with handled := none }
section
variable {P : Program} {w : World} {K : Frag} {mg : Str → Option Value} {base : Heap} {x qual : Str} {f : Addr} {fd : FuncData} {N ps : List Str} {k n : Nat} {sp : Sp} {params : Arguments} {body : List Stmt} {scope : Scope}
theorem inv_T {CX : CXT} {cd : Value} {A : Around} {outer : List Env} {s s1 : Shared} {H : Hp} {E : XK} {σ : L2.St} (I : Inv (cxOf CX P w K mg base N qual scope f cd (calmA A) outer s H E) [] σ H s1) : Inv (cxT CX P w K mg base N qual scope f cd A outer s H E) [] σ H s1 :=
  ⟨⟨I.ok.mod, I.ok.kind, I.ok.glob, I.ok.blt, I.ok.above, I.ok.inj, I.ok.has, I.ok.cab, fun z => Bool.noConfusion (show false = true from z), I.ok.frames, I.ok.stk, I.ok.exf, I.ok.bs, I.ok.bsz, I.ok.noex, I.ok.exfs, I.ok.funs, I.ok.frf⟩,
    I.os, I.bare, I.base, I.loc, I.cell, I.free, I.freeC, I.pin, I.hok, I.len⟩
theorem fnT_of {dvs : List V} (F : FunD K x qual params body scope dvs [] f fd) (S : FnScope N ps scope) (len : ∀ vs H Q E, sp vs H Q E → vs.length = ps.length)
    (hbody : ∀ (cdv : Value) (A : Around) (outer : List Env) (s : Shared) (H : Hp) (vs : List V) (Q : VK), RoomT k (A.deeper (PyProof.Rows.envOfC qual scope s.heap.objs.size f cdv)) → sp vs H Q (fun _ _ _ => False) →
      ∃ t, PSs (cxT (L2.CX P w) P w K mg base N qual scope f cdv A outer s H (fun _ _ _ => False)) body t ∧ t { nx := fun _ H' => Q .non H', rt := Q } (L2.start N vs) H) : FnT P w K mg base (k + 1) f fd ps sp := by
  obtain ⟨oc, od, dV, kV, doc, pm, an, cdv, ct, osl, rfl, lk, hcd, _, _⟩ := F.ex
  refine ⟨len, fun A outer s H args us vs Q hr e0 hb r hsp => ?_⟩
  have hl := len _ _ _ _ hsp
  have kin : K.In s.heap := e0.mod.kin.keeps fun b o e => (e0.bs b o e).1
  have lim : s.heap.NoLimit := e0.mod.nolimit.keeps fun b o e => (e0.bs b o e).1
  have kinds : ∀ y ∈ ps.zip us, scope.names.lookup y.1 = some .local ∨ (scope.names.lookup y.1 = some .cell ∧ ((cellsFrom (s.heap.objs.size + 1) scope.names []).lookup y.1).isSome = true) := fun ⟨z, v⟩ hy => by
    rcases S.par z (List.of_mem_zip hy).1 with q | q
    · exact .inl q
    · exact .inr ⟨q, PySem.W.cellsFrom_some _ _ _ (.inl q)⟩
  refine PySem.codeAny_call_function hr.r.depth (kin _ _ lk) rfl S.co S.gen rfl (PySem.W.codeRec_of kin hcd) (hb _ _ _ _ ?_)
  refine wpAny_newFunctionEnv_cells S.kind kinds fun env he s1 xx => ?_
  subst he
  refine ⟨lim.keeps xx.toInCall.keep, PySem.codeAny_func ?_⟩
  obtain ⟨t, ht, hq⟩ := hbody cdv A outer s H vs Q (hr.deeper _) hsp
  have e1 : Env0 P w K mg base (calmA A) outer s H := ⟨e0.frames, e0.mod, e0.bs, e0.bsz, e0.funs, e0.frf, e0.hok, e0.bare⟩
  have I := inv_T (inv_start (CX := L2.CX P w) (E := fun _ _ _ => False) (A := calmA A) S rfl e1 hl r xx)
  refine wpAny_mono (ht.run [] s1 (L2.start N vs) H _ I hq) (fun fl s' hs => ?_) fun e s' hs => hs
  have fin : ∀ {σ' : L2.St} {H' : Hp} {v : V} {u : Value}, Inv (cxT (L2.CX P w) P w K mg base N qual scope f cdv A outer s H (fun _ _ _ => False)) [] σ' H' s' → L2.RelV v u → Q v H' → CE outer P w H s Q u s' :=
    fun {σ' H' v u} J rv q => ⟨v, H', J.os, J.bare, J.base, J.hok, rv, q⟩
  cases fl with
  | ret u =>
    obtain ⟨v, σ', H', J, rv, q⟩ := hs
    exact fin J rv q
  | next =>
    obtain ⟨σ', H', J, q⟩ := hs
    exact fin (v := V.non) (u := Value.none) J rfl q
  | brk =>
    obtain ⟨_, _, _, q⟩ := hs
    exact False.elim q
  | cont =>
    obtain ⟨_, _, _, q⟩ := hs
    exact False.elim q
def KnT (P : Program) (w : World) (K : Frag) (mg : Str → Option Value) (base : Heap) (qual x : Str) (st : Stmt) (f : Addr) (ps : List Str) (k n : Nat) (g : List D → Store → R D) : Prop :=
  ∃ fd, FunD K x qual (defArgs st) (defBody st) (defScope st) [] [] f fd ∧ FnT P w K mg base k f fd ps (spOf K n g) ∧ Bd K fd ps [] gPos
theorem KnT.of {st : Stmt} {tr : Bool} {bf : L → Store → Fl} (F : ∃ fd, FunD K x qual (defArgs st) (defBody st) (defScope st) [] [] f fd) (S : FnScope N ps (defScope st)) (hn : ps.length = n)
    (hb : ∀ (kV doc pm : Value) (an : Option Addr) (cdv ct : Value) (us : List Value), us.length = ps.length → bindArgs (PySem.W.fnOf x qual (defArgs st) (defBody st) (defScope st) .none kV doc pm an cdv ct) ⟨us, []⟩ = pure (ps.zip us))
    (body : ∀ (X : Cx), (∃ cdv A outer s H, X = cxT (L2.CX P w) P w K mg base N qual (defScope st) f cdv A outer s H (fun _ _ _ => False)) → FitT X k → FB X wx0 (defBody st) bf) :
    KnT P w K mg base qual x st f ps (k + 1) n (run tr N.length bf) := by
  obtain ⟨fd, F⟩ := F
  refine ⟨fd, F, fnT_of F S (spOf.len hn) fun cdv A outer s H vs Q hr h => ⟨_, body _ ⟨cdv, A, outer, s, H, rfl⟩ ⟨hr, S.nd⟩, spOf_body (Wx := fun E c d _ H => E c d H) rfl h⟩, ?_⟩
  obtain ⟨oc, od, dV, kV, doc, pm, an, cdv, ct, osl, rfl, lk, hcd, hD, hK⟩ := F.ex
  rcases hD with ⟨_, rfl⟩ | ⟨e, _⟩
  · exact Bd.pos (hb kV doc pm an cdv ct)
  · exact absurd rfl e
end
/-! ### a call of it, where an error is handled -/
section
variable {X : Cx} {j k n : Nat} {f : Addr} {ps : List Str} {g : List D → Store → R D} {qual x : Str} {st : Stmt} {p pos : Pos} {e : Expr} {es : List Expr} {fa : L → Store → R (List D)}
theorem fe_knT (h : KnT X.prog X.w X.K X.mg X.base qual x st f ps j n g) (c : FitT X k) (hm : X.mg x = some (.ref f)) (hg : Gl X x) (ha : FA X wx0 (e :: es) fa) (hj : j ≤ k := by decide) (hdb : (x == ("__debug__" : Str)) = false := by decide)
    (he : starEach (e :: es) X.env = (false, eval e X.env) :: starEach es X.env := by rfl) (hpl : (backTo pos (starEach es X.env)).any (·.1) = false := by rfl) : FE X wx0 (.Call (.Name x p) (e :: es) [] pos) (eCalln n g fa) := by
  obtain ⟨fd, F, G, b⟩ := h
  refine ⟨fun pins s σ H Q I ⟨ρ, S, B, l, ok, sl, h⟩ => ?_⟩
  refine wpAny_Call_Name_kw (ld_glob I hg hm ?_ hdb)
  have ha' := ha.run pos pins s σ H (fun vs H1 => spOf X.K n g vs H1 Q (WE wx0 σ)) I ⟨ρ, S, B, l, ok, sl, h.bind.mono fun W1 ds e1 o1 ⟨_, _, h1⟩ vs rvs => call_sp o1 rvs h1⟩
  refine PySem.W.callWith_K (h₀ := X.base) I.ok.mod.kin F.kp (thn ha' fun us s1 ⟨vs, H1, I1, r, q⟩ => ⟨I1.kIn, ?_⟩) he hpl
  have hl : (gPos us ([] : List Value)).length = ps.length := by
    show us.length = ps.length
    rw [← r.length]
    exact G.len _ _ _ _ q
  refine wpAny_call (codeAny_mono ((G.mono hj).go X.A X.stack s1 H1 _ us vs Q c.rm I1.env0 (b.to s1 us [] I1.kIn hl) r q) fun r s' hq => ?_)
  have z := out_g (E := WE wx0 σ) (passAt takesN σ) I1 hq
  cases r with
  | error e => exact z
  | ok fl => cases fl with
    | ret u => exact z
    | next => exact z.elim
    | brk => exact z.elim
    | cont => exact z.elim
end
end HL
end
section
set_option Elab.async false
set_option linter.all false
set_option maxRecDepth 100000
set_option maxHeartbeats 2000000
/-! HX7: a new list by a + b, xs.count(True), isinstance of errors. -/
namespace HL
open PySem PySem.Spec L2 PyProof.Rows
/-! ### a + b, a list that may change -/
def eAddN (fa fb : L → Store → R D) : L → Store → R D := fun l S => (fa l S).bind fun d S1 => (fb l S1).bind fun e S2 => match lstR d S2, lstR e S2 with
  | some xs, some ys => if xs.length + ys.length ≤ sizeLine then .ok (.loc S2.length) (S2 ++ [.lst (xs ++ ys)]) else .bad
  | _, _ => .bad
theorem fe_addN {X : Cx} {Wx : WX} {a b : Expr} {fa fb : L → Store → R D} {pos : Pos} (ha : FE X Wx a fa) (hb : FE X Wx b fb) : FE X Wx (.BinOp a .Add b pos) (eAddN fa fb) :=
  (pe_op op_cat ha hb).imp fun σ H Q ⟨ρ, S, B, l, ok, sl, h⟩ => ⟨ρ, S, B, l, ok, sl, h.bind.mono fun W1 d e1 o1 ⟨_, _, h1⟩ v rv => ⟨W1.ρ, W1.S, W1.B, l, o1, sl.ext e1 ok, h1.bind.mono fun W2 d2 e2 o2 ⟨_, _, h2⟩ u ru => by
    cases hx : lstR d W2.S with
    | none => rw [hx] at h2; exact h2.elim
    | some xs => cases hy : lstR d2 W2.S with
      | none => rw [hx, hy] at h2; exact h2.elim
      | some ys =>
        rw [hx, hy] at h2
        obtain ⟨hz, h2⟩ := Post.iff_ok h2
        obtain ⟨a1, vs, rfl, g1, q1⟩ := lstR_ok o2 (rv.ext e2 o1) hx
        obtain ⟨b1, us, rfl, g2, q2⟩ := lstR_ok o2 ru hy
        refine ⟨a1, b1, vs, us, rfl, rfl, g1, g2, by rw [← q1.length, ← q2.length]; exact hz, fun p hp => ?_⟩
        obtain ⟨x, o3⟩ := alloc_ok (p := p) (u := .lst (vs ++ us)) (o := .lst (xs ++ ys)) o2 hp fun W' e x => ⟨vs ++ us, e, (q1.ext x o2).append (q2.ext x o2)⟩
        refine h2 _ _ x o3 _ ?_
        have q : Rep X.K _ (.loc W2.S.length) (.ref ((⟨fun i => if i = W2.S.length then p else W2.ρ i, W2.S ++ [.lst (xs ++ ys)], upd W2.H p (.lst (vs ++ us)), W2.B⟩ : Wd).ρ W2.S.length)) := Rep.loc (K := X.K) (W := ⟨fun i => if i = W2.S.length then p else W2.ρ i, W2.S ++ [.lst (xs ++ ys)], upd W2.H p (.lst (vs ++ us)), W2.B⟩) (n := W2.S.length) (by simp)
        simpa using q⟩⟩
/-! ### xs.count(b), truth values -/
def boolsD : List D → Option (List Bool)
  | [] => some []
  | .bl b :: ds => (boolsD ds).map fun bs => b :: bs
  | _ => none
def pCountB (d : D) (ds : List D) (S : Store) : Option D := match ds with
  | [.bl b] => ((lstR d S).bind boolsD).map fun bs => .int (bs.count b : Nat)
  | _ => none
def eqB (k : Bool) (v : Value) : Bool := match v with
  | .bool b => b == k
  | _ => false
theorem boolsD_ok {K : Frag} {W : Wd} : ∀ {ds : List D} {vs : List V} {bs : List Bool}, Reps K W ds vs → boolsD ds = some bs → vs = bs.map V.bl
  | _, _, bs, .nil, h => by cases h; rfl
  | d :: ds, _, bs, .cons r rs, h => by
    cases d with
    | bl b =>
      obtain ⟨bs', h1, rfl⟩ := Option.map_eq_some_iff.mp h
      cases r
      rw [boolsD_ok rs h1]
      rfl
    | _ => cases h
theorem vals_bools : ∀ {bs : List Bool} {us : List Value}, Vals (bs.map V.bl) us → us = bs.map Value.bool
  | [], _, .nil => rfl
  | b :: bs, _, .cons r rs => by
    have e := vals_bools rs
    cases r
    rw [e]
    rfl
theorem mt_pCountB {X : Cx} : MtD X "list.count" (same1 pCountB) := mt_same fun pins s σ H x xs v us Q I rx rxs ⟨ρ, S, B, d, ds, r, ok, rd, rds, hp, k⟩ => by
  unfold pCountB at hp
  split at hp
  · rename_i b
    obtain ⟨bs, h1, rfl⟩ := Option.map_eq_some_iff.mp hp
    obtain ⟨ys, h2, h3⟩ := Option.bind_eq_some_iff.mp h1
    obtain ⟨a, vs, rfl, h4, q⟩ := lstR_ok ok rd h2
    have e := boolsD_ok q h3
    subst e
    obtain ⟨w, rfl, rw'⟩ := rds.one
    cases rw'
    cases rx
    obtain ⟨u, rfl, ru⟩ := rxs.one
    cases ru
    obtain ⟨its, rv, ⟨⟨cls, dd, data, sl⟩, n, ho, hc, hdn, hd⟩, hlen⟩ := I.list (.of h4)
    simp only at hc hd
    subst hc hd
    have hi := vals_bools rv
    subst hi
    refine call_meets PySem.F.slot_list_count ⟨_, ho, rfl⟩ PySem.F.entry_list_count (PySem.F.args_list_count_2 _ _)
      (SeqAt.list_countAt a (bs.map Value.bool).toArray n dd sl (.bool b) (eqB b)) ⟨ho, fun y hy => ?_, ?_⟩
    · obtain ⟨c, _, rfl⟩ := List.mem_map.mp (List.mem_toArray.mp hy)
      exact SeqAt.EqAt.bool_bool c b
    · have ec : (bs.map Value.bool).toArray.toList.countP (eqB b) = bs.count b := by
        show (bs.map Value.bool).countP (eqB b) = bs.countP (· == b)
        rw [List.countP_map]
        rfl
      refine ⟨.int (bs.count b : Nat), H, I.tok _, ⟨s.toks, ?_⟩, k _ _ (Same.refl H) (.int _)⟩
      show Value.int (((bs.map Value.bool).toArray.toList.countP (eqB b) : Nat) : Int) s.toks = Value.int ((bs.count b : Nat) : Int) s.toks
      rw [ec]
  · cases hp
/-! ### isinstance of an error -/
/-- what isinstance asks of the class C of an error -/
structure IsE (K : Frag) (C : Addr) : Prop where
  hcl : (PySem.W.clsIn K C).isSome = true
  hga : PySem.W.findIn K (.ref C) "__getattribute__" = some (some (.builtin "BaseException.__getattribute__"))
  hgt : PySem.W.findIn K (.ref C) "__getattr__" = some none
  hsub : PySem.W.subIn K (.ref C) (.type "BaseException") = some true
  ha : PySem.W.findIn K (.ref C) "__class__" = some (some (.builtin "object.__class__"))
  hn : PySem.W.specialIn K (.builtin "object.__class__") "__get__" = some (some (.builtin "getset_descriptor.__get__"))
  htk : PySem.W.takesIn K (.builtin "object.__class__") = some true
  hm : PySem.W.mroIn K C (.type "object") = some true
def isEB (K : Frag) (C : Addr) : Bool := (PySem.W.clsIn K C).isSome && (He.eqO (PySem.W.findIn K (.ref C) "__getattribute__") (some (some (.builtin "BaseException.__getattribute__"))) && (He.eqO (PySem.W.findIn K (.ref C) "__getattr__") (some none) && (decide (PySem.W.subIn K (.ref C) (.type "BaseException") = some true) &&
  (He.eqO (PySem.W.findIn K (.ref C) "__class__") (some (some (.builtin "object.__class__"))) && (He.eqO (PySem.W.specialIn K (.builtin "object.__class__") "__get__") (some (some (.builtin "getset_descriptor.__get__"))) && (decide (PySem.W.takesIn K (.builtin "object.__class__") = some true) && decide (PySem.W.mroIn K C (.type "object") = some true)))))))
theorem isEB_ok {K : Frag} {C : Addr} (h : isEB K C = true) : IsE K C := by
  obtain ⟨a, h⟩ := He.ba h
  obtain ⟨b, h⟩ := He.ba h
  obtain ⟨c, h⟩ := He.ba h
  obtain ⟨d, h⟩ := He.ba h
  obtain ⟨e, h⟩ := He.ba h
  obtain ⟨f, h⟩ := He.ba h
  obtain ⟨g, i⟩ := He.ba h
  exact ⟨a, He.eqO_ok b, He.eqO_ok c, of_decide_eq_true d, He.eqO_ok e, He.eqO_ok f, of_decide_eq_true g, of_decide_eq_true i⟩
/-- the class c takes the errors of the classes yes, not those of the classes no -/
structure IsX (K : Frag) (c : Value) (yes no : List Str) : Prop where
  yes : ∀ D ∈ yes, IsE K (He.ga K D) ∧ PySem.W.kitOne K (.ref (He.ga K D)) c = some true
  no : ∀ D ∈ no, IsE K (He.ga K D) ∧ PySem.W.kitOne K (.ref (He.ga K D)) c = some false
def isiX (yes no : List Str) (d : D) (_ : Store) : Option D := match d with
  | .err C _ _ => if yes.contains C = true then some (.bl true) else if no.contains C = true then some (.bl false) else none
  | _ => none
def rIsX (K : Frag) : List V → Hp → VK → Prop := fun xs H Q => ∃ (a C : Addr) (d : Option Addr) (c : V) (cv : Value) (b : Bool), xs = [.ref a, c] ∧ (∀ u, RelV c u → u = cv) ∧ H a = some (exq a (.ref C) d) ∧ (d = none ∨ ∃ dd fs, d = some dd ∧ H dd = some (.xd fs)) ∧ IsE K C ∧ PySem.W.kitOne K (.ref C) cv = some b ∧ Q (.bl b) H
theorem call_isX {X : Cx} : CallR X (.builtin "isinstance") (rIsX X.K) := by
  intro pins s σ H xs us Q I r h
  obtain ⟨a, C, d, c, cv, b, rfl, hcv, ha, hd, T, e, q⟩ := h
  cases r with
  | cons rx rr =>
    cases rr with
    | cons rt rr =>
      cases rr
      cases rx
      have ec := hcv _ rt
      subst ec
      obtain ⟨oe, vs, he, hz, hdat⟩ := exq_at I.hok ha
      rcases hd with rfl | ⟨dd, fs, rfl, hx⟩
      · have J : PySem.W.InstAt s.heap a oe C none := ⟨he, hz.1, by unfold PySem.W.notCls; rw [hdat] <;> rfl, by rw [hz.2]; trivial⟩
        exact PySem.W.kia_one (PySem.W.kitx_exc T.hcl T.hga T.hgt T.hsub T.ha T.hn T.htk T.hm) I.kIn J e (fun z => nomatch z) fun tk => ⟨.bl b, H, I.kept (t' := tk) fun _ _ z => z, rfl, q⟩
      · have hx2 : ObjOk X.prog X.w H s.heap dd (.xd fs) := I.hok dd _ hx
        obtain ⟨mA, hns, hr⟩ := hx2
        obtain ⟨od, ho, hl⟩ := lookIn_ns hns
        have J : PySem.W.InstAt s.heap a oe C (some od) := ⟨he, hz.1, by unfold PySem.W.notCls; rw [hdat] <;> rfl, by rw [hz.2]; exact ho⟩
        exact PySem.W.kia_one (PySem.W.kitx_exc T.hcl T.hga T.hgt T.hsub T.ha T.hn T.htk T.hm) I.kIn J e (fun z => nomatch z) fun tk => ⟨.bl b, H, I.kept (t' := tk) fun _ _ z => z, rfl, q⟩
section
variable {X : Cx} {Wx : WX} {e : Expr} {f : L → Store → R D} {C : Str} {p p2 pos : Pos} {yes no : List Str}
theorem isX_ok {K : Frag} {W : Wd} {cv : Value} {d : D} {v : V} {r : D} (hx : IsX K cv yes no) (rv : Rep K W d v) (h : isiX yes no d W.S = some r) : ∃ (a C : Addr) (dd : Option Addr) (b : Bool), v = .ref a ∧ r = .bl b ∧ W.H a = some (exq a (.ref C) dd) ∧ (dd = none ∨ ∃ d2 fs, dd = some d2 ∧ W.H d2 = some (.xd fs)) ∧ IsE K C ∧ PySem.W.kitOne K (.ref C) cv = some b := by
  cases rv with
  | @err C ks xs vs a dd h1 hd hl rs =>
    have h2 : (if yes.contains C = true then some (D.bl true) else if no.contains C = true then some (D.bl false) else none) = some r := h
    have hdd : dd = none ∨ ∃ d2 fs, dd = some d2 ∧ W.H d2 = some (.xd fs) := hd.imp (fun z => z.2) fun ⟨d2, z1, z2⟩ => ⟨d2, _, z1, z2⟩
    by_cases hy : yes.contains C = true
    · rw [if_pos hy] at h2
      cases h2
      obtain ⟨t1, t2⟩ := hx.yes C (by simpa using hy)
      exact ⟨a, _, dd, true, rfl, rfl, h1, hdd, t1, t2⟩
    · rw [if_neg hy] at h2
      by_cases hn : no.contains C = true
      · rw [if_pos hn] at h2
        cases h2
        obtain ⟨t1, t2⟩ := hx.no C (by simpa using hn)
        exact ⟨a, _, dd, false, rfl, rfl, h1, hdd, t1, t2⟩
      · rw [if_neg hn] at h2
        cases h2
  | _ => cases h
theorem fe_isiX (hx : IsX X.K (.ref (He.ga X.K C)) yes no) (hm : X.mg "isinstance" = none) (hg : Gl X "isinstance") (hmC : X.mg C = some (.ref (He.ga X.K C))) (hgC : Gl X C) (he : FE X Wx e f) (hdb : (C == ("__debug__" : Str)) = false := by decide)
    (hs : starEach [e, .Name C p2] X.env = [(false, eval e X.env), (false, eval (.Name C p2) X.env)] := by rfl) (hs2 : starEach [.Name C p2] X.env = [(false, eval (.Name C p2) X.env)] := by rfl) (hpl : (backTo pos (starEach [.Name C p2] X.env)).any (·.1) = false := by rfl) :
    FE X Wx (.Call (.Name "isinstance" p) [e, .Name C p2] [] pos) (mIsi (isiX yes no) f) :=
  (pe_callB call_isX hg hm (by decide +kernel) (pa_cons he (pa_cons (pe_glob (v := V.ref (He.ga X.K C)) hgC hmC rfl hdb) pa_nil hs2) hs) (he := hs) (hpl := hpl)).imp fun σ H Q ⟨ρ, S, B, l, ok, sl, h⟩ => ⟨ρ, S, B, l, ok, sl, h.bind.mono fun W1 d e1 o1 ⟨_, _, h1⟩ v rv => by
    obtain ⟨r, er, q⟩ := h1.ofO
    obtain ⟨a, C', dd, b, rfl, rfl, h2, h3, t1, t2⟩ := isX_ok hx rv er
    exact ⟨a, C', dd, .ref (He.ga X.K C), _, b, rfl, fun u z => z, h2, h3, t1, t2, q W1.H (Same.refl _) o1 _ (.bl _)⟩⟩
theorem fe_isiB {T : String} {x : Str} (hx : IsX X.K (.type T) yes no) (hm : X.mg "isinstance" = none) (hg : Gl X "isinstance") (hmT : X.mg x = none) (hgT : Gl X x) (he : FE X Wx e f) (hv : bootBuiltins x = some (.type T)) (hn : x ≠ "__name__" := by decide) (hdb : (x == ("__debug__" : Str)) = false := by decide)
    (hs : starEach [e, .Name x p2] X.env = [(false, eval e X.env), (false, eval (.Name x p2) X.env)] := by rfl) (hs2 : starEach [.Name x p2] X.env = [(false, eval (.Name x p2) X.env)] := by rfl) (hpl : (backTo pos (starEach [.Name x p2] X.env)).any (·.1) = false := by rfl) :
    FE X Wx (.Call (.Name "isinstance" p) [e, .Name x p2] [] pos) (mIsi (isiX yes no) f) :=
  (pe_callB call_isX hg hm (by decide +kernel) (pa_cons he (pa_cons (pe_bltn (v := V.ty T) hgT hmT hv rfl hn hdb) pa_nil hs2) hs) (he := hs) (hpl := hpl)).imp fun σ H Q ⟨ρ, S, B, l, ok, sl, h⟩ => ⟨ρ, S, B, l, ok, sl, h.bind.mono fun W1 d e1 o1 ⟨_, _, h1⟩ v rv => by
    obtain ⟨r, er, q⟩ := h1.ofO
    obtain ⟨a, C', dd, b, rfl, rfl, h2, h3, t1, t2⟩ := isX_ok hx rv er
    exact ⟨a, C', dd, .ty T, _, b, rfl, fun u z => z, h2, h3, t1, t2, q W1.H (Same.refl _) o1 _ (.bl _)⟩⟩
end
/-! ### -e -/
def pNegE (d : D) (_ : Store) : Option D := match d with
  | .int i => some (.int (-i))
  | _ => none
theorem fe_negE {X : Cx} {Wx : WX} {e : Expr} {f : L → Store → R D} {pos : Pos} (he : FE X Wx e f) : FE X Wx (.UnaryOp .USub e pos) (mUn pNegE f) :=
  (pe_un un_neg he).imp fun σ H Q ⟨ρ, S, B, l, ok, sl, h⟩ => ⟨ρ, S, B, l, ok, sl, h.bind.mono fun W1 d e1 o1 ⟨_, _, h1⟩ v rv => by
    obtain ⟨r, er, q⟩ := h1.ofO
    cases d with
    | int i =>
      cases er
      cases rv
      exact ⟨i, rfl, q W1.H (Same.refl _) o1 _ (.int _)⟩
    | _ => cases er⟩
/-! ### repr, where empty dicts may stand in what is shown -/
mutual
def toPyE : D → Option PyData
  | .non => some .none
  | .bl b => some (.bool b)
  | .int i => some (.int i)
  | .str x => some (.str x)
  | .tup xs => (toPyEs xs).map .tuple
  | .tpn xs => (toPyEs xs).map .tuple
  | .lst xs => (toPyEs xs).map .list
  | .scr xs => (toPyEs xs).map .list
  | .dic => some (.dict [])
  | _ => none
def toPyEs : List D → Option (List PyData)
  | [] => some []
  | d :: ds => match toPyE d, toPyEs ds with
    | some p, some ps => some (p :: ps)
    | _, _ => none
end
def toPyES (d : D) (S : Store) : Option PyData := match d with
  | .loc n => match S[n]? with
    | some (.lst xs) => (toPyEs xs).map .list
    | _ => none
  | d => toPyE d
def pReprE (ds : List D) (S : Store) : Option D := match ds with
  | [d] => (toPyES d S).bind fun p => if p.showable = true ∧ p.shown.length ≤ sizeLine ∧ p.depth ≤ 60 then some (.str p.shown) else none
  | _ => none
section
variable {X : Cx} {pins : List (Addr × Obj)} {σ : L2.St} {s : Shared} {ρ : Nat → Addr} {S : Store} {H : Hp} {B : Addr → Prop}
theorem no_sys (hK : He.dictB X.K sysModules = true) (I : Inv X pins σ H s) {a : Addr} {o : Obj} (h : s.heap.get? a = some o) (hc : o.cls = .type "list") : sysModules ≠ a := fun z => by
  obtain ⟨es, n, sl, e⟩ := He.dictB_ok hK
  have e2 := I.kIn _ _ e
  rw [z, h] at e2
  cases e2
  exact absurd hc (by simp)
mutual
theorem Rep.readsE (hK : He.dictB X.K sysModules = true) (ok : Ok X.K ⟨ρ, S, H, B⟩) (I : Inv X pins σ H s) : ∀ {d : D} {v : V} {p : PyData} {u : Value}, Rep X.K ⟨ρ, S, H, B⟩ d v → toPyE d = some p → RelV v u → ∃ as, Reads s.heap u p as ∧ sysModules ∉ as
  | _, _, _, _, .non, e, r => by cases e; cases r; exact ⟨_, Reads.none, by simp⟩
  | _, _, _, _, .bl b, e, r => by cases e; cases r; exact ⟨_, Reads.bool b, by simp⟩
  | _, _, _, _, .int i, e, r => by cases e; obtain ⟨t, rfl⟩ := r; exact ⟨_, Reads.int i t, by simp⟩
  | _, _, _, _, .str x, e, r => by cases e; obtain ⟨t, rfl⟩ := r; exact ⟨_, Reads.str x t, by simp⟩
  | _, _, _, _, .tup (xs := xs) h q, e, r => by
    have e' : (toPyEs xs).map PyData.tuple = some _ := e
    obtain ⟨ps, h1, rfl⟩ := Option.map_eq_some_iff.mp e'
    cases r
    obtain ⟨its, rv, ⟨o, ho, hc, n, hd⟩, _⟩ := I.tuple h
    obtain ⟨as, hr, hn⟩ := Reps.readsE hK ok I q h1 rv
    exact ⟨_, Reads.tuple ho hc hd hr, hn⟩
  | _, _, _, _, .tpn (xs := xs) h q, e, r => by
    have e' : (toPyEs xs).map PyData.tuple = some _ := e
    obtain ⟨ps, h1, rfl⟩ := Option.map_eq_some_iff.mp e'
    cases r
    obtain ⟨o1, h2, _⟩ := h
    obtain ⟨its, rv, ⟨o, ho, hc, n, hd⟩, _⟩ := I.tuple (.inl (.inr ⟨o1, h2⟩))
    obtain ⟨as, hr, hn⟩ := Reps.readsE hK ok I q h1 rv
    exact ⟨_, Reads.tuple ho hc hd hr, hn⟩
  | _, _, _, _, .lst (xs := xs) h q, e, r => by
    have e' : (toPyEs xs).map PyData.list = some _ := e
    obtain ⟨ps, h1, rfl⟩ := Option.map_eq_some_iff.mp e'
    cases r
    obtain ⟨its, rv, ⟨o, n, ho, hc, _, hd⟩, _⟩ := I.list h.sql
    obtain ⟨as, hr, hn⟩ := Reps.readsE hK ok I q h1 rv
    exact ⟨_, Reads.list ho hc hd hr, by simp [hn, no_sys hK I ho hc]⟩
  | _, _, _, _, .scr (xs := xs) h q, e, r => by
    have e' : (toPyEs xs).map PyData.list = some _ := e
    obtain ⟨ps, h1, rfl⟩ := Option.map_eq_some_iff.mp e'
    cases r
    obtain ⟨its, rv, ⟨o, n, ho, hc, _, hd⟩, _⟩ := I.list h.sql
    obtain ⟨as, hr, hn⟩ := Reps.readsE hK ok I q h1 rv
    exact ⟨_, Reads.list ho hc hd hr, by simp [hn, no_sys hK I ho hc]⟩
  | _, _, _, _, .dic h, e, r => by
    cases e
    cases r
    obtain ⟨_, hs, vs, rel, o, es, ep, ho, hx, hd, _, he, _⟩ := I.hok _ _ h
    cases rel
    obtain ⟨hc, _⟩ := hx
    have hes : es.toList = [] := by
      cases hq : es.toList with
      | nil => rfl
      | cons y ys => rw [hq] at he; cases he
    refine ⟨_, Reads.dict (kvs := []) ho hc hd (by rw [hes]; exact ReadsAll.nil) (by rw [hes]; exact ReadsAll.nil), ?_⟩
    have ne := beq_eq_false_iff_ne.mp hs
    simp [Ne.symm ne]
  | _, _, _, _, .iset _ _, e, _ => by cases e
  | _, _, _, _, .ins _ _ _ _, e, _ => by cases e
  | _, _, _, _, .err _ _ _ _, e, _ => by cases e
  | _, _, _, _, .cls _, e, _ => by cases e
  | _, _, _, _, .loc _, e, _ => by cases e
theorem Reps.readsE (hK : He.dictB X.K sysModules = true) (ok : Ok X.K ⟨ρ, S, H, B⟩) (I : Inv X pins σ H s) : ∀ {ds : List D} {vs : List V} {ps : List PyData} {us : List Value}, Reps X.K ⟨ρ, S, H, B⟩ ds vs → toPyEs ds = some ps → Vals vs us → ∃ as, ReadsAll s.heap us ps as ∧ sysModules ∉ as
  | _, _, _, _, .nil, e, r => by cases e; cases r; exact ⟨_, ReadsAll.nil, by simp⟩
  | d :: ds, _, _, _, .cons h q, e, r => by
    have e' : (match toPyE d, toPyEs ds with
      | some p, some ps => some (p :: ps)
      | _, _ => none) = some _ := e
    cases q1 : toPyE d with
    | none => rw [q1] at e'; cases e'
    | some p => cases q2 : toPyEs ds with
      | none => rw [q1, q2] at e'; cases e'
      | some ps =>
        rw [q1, q2] at e'
        cases e'
        cases r with
        | cons r1 r2 =>
          obtain ⟨as, z1, n1⟩ := Rep.readsE hK ok I h q1 r1
          obtain ⟨bs, z2, n2⟩ := Reps.readsE hK ok I q q2 r2
          exact ⟨_, ReadsAll.cons z1 z2, by simp [n1, n2]⟩
end
theorem Rep.readsES (hK : He.dictB X.K sysModules = true) (ok : Ok X.K ⟨ρ, S, H, B⟩) (I : Inv X pins σ H s) {d : D} {v : V} {p : PyData} {u : Value} (h : Rep X.K ⟨ρ, S, H, B⟩ d v) (e : toPyES d S = some p) (r : RelV v u) : ∃ as, Reads s.heap u p as ∧ sysModules ∉ as := by
  by_cases hl : ∃ n, d = .loc n
  · obtain ⟨n, rfl⟩ := hl
    cases h with
    | loc hn =>
      have e' : (match S[n]? with
        | some (.lst xs) => (toPyEs xs).map PyData.list
        | _ => none) = some p := e
      cases z : S[n]? with
      | none => rw [z] at e'; cases e'
      | some o => cases o with
        | lst xs =>
          rw [z] at e'
          obtain ⟨ps, h1, rfl⟩ := Option.map_eq_some_iff.mp e'
          obtain ⟨vs, h2, h3⟩ := ok.obj n _ z
          cases r
          obtain ⟨its, rv, ⟨o, m, ho, hc, _, hd⟩, _⟩ := I.list (.of h2)
          obtain ⟨as, hr, hn2⟩ := Reps.readsE hK ok I h3 h1 rv
          exact ⟨_, Reads.list ho hc hd hr, by simp [hn2, no_sys hK I ho hc]⟩
        | ins C ks xs => rw [z] at e'; cases e'
        | tab x => rw [z] at e'; cases e'
        | dct hs kvs => rw [z] at e'; cases e'
  · have e' : toPyE d = some p := by
      cases d with
      | loc n => exact absurd ⟨n, rfl⟩ hl
      | _ => exact e
    exact Rep.readsE hK ok I h e' r
theorem call_pReprE (hK : He.dictB X.K sysModules = true) (hg : X.A.guards = some []) (hu : X.A.units + 64 < cLine) : CallD X (.builtin "repr") pReprE := by
  intro pins s σ H xs us Q I r ⟨ρ, S, B, ds, e, ok, rd, hp, k⟩
  unfold pReprE at hp
  split at hp
  · obtain ⟨p, h1, h2⟩ := Option.bind_eq_some_iff.mp hp
    split at h2
    · rename_i hs
      obtain ⟨hs1, hs2, hs3⟩ := hs
      cases h2
      obtain ⟨v, rfl, h⟩ := rd.one
      obtain ⟨u, rfl, rx⟩ := vals1 r
      have fin : ∀ t : PySem.Tok, ∀ h' tk, (∀ b o, s.heap.get? b = some o → h'.get? b = some o) → EP X pins σ Q (.str p.shown t) { s with heap := h', toks := tk } := fun t h' tk hk =>
        ⟨.str p.shown, H, I.kept (t' := tk) hk, ⟨t, rfl⟩, k _ _ (Same.refl H) (.str _)⟩
      obtain ⟨as, rr, nn⟩ := Rep.readsES hK ok I h h1 rx
      cases u with
      | ref a => exact PySem.repr_of_reads' rr hs1 (fun _ => nn) hg (by omega) (fun _ _ e => e) (fun h' u tk hk => fin _ h' tk hk) hs2
      | none =>
        cases rr
        exact PySem.P.repr_of_none (fin _ s.heap (s.toks + 1) fun _ _ e => e)
      | bool b =>
        cases rr
        exact PySem.P.repr_of_bool (fin _ s.heap (s.toks + 1) fun _ _ e => e)
      | int i t =>
        cases rr
        exact PySem.P.repr_of_int (by simpa [PyData.showable] using hs1) (fin _ s.heap (s.toks + 1) fun _ _ e => e)
      | str x t =>
        cases rr
        exact PySem.P.repr_of_str (fin _ s.heap (s.toks + 1) fun _ _ e => e) (hsz := hs2)
      | _ => cases rr
    · cases h2
  · cases hp
end
end HL
end
section
set_option Elab.async false
set_option linter.all false
set_option maxRecDepth 100000
set_option maxHeartbeats 2000000
/-! HX8: x(lambda: e), where x tries what it got. -/
namespace HL
open PySem PySem.Spec L2 PyProof.Rows LamX
/-- the context of the def that got a lambda -/
abbrev gotCx (X : Cx) (Ng : List Str) (qg : Str) (sg : Scope) (g : Addr) (cdg : Value) (s0 : Shared) (G0 : Hp) : Cx := cxOf C8.CX0 X.prog X.w X.K X.mg X.base Ng qg sg g cdg X.A X.stack s0 G0 C8.E0
section
variable {X : Cx} {ps0 : List (Addr × Obj)} {τ : L2.St} {G0 : Hp} {s0 : Shared}
/-- what is known of the lambda's object -/
structure LamAt (X : Cx) (s0 : Shared) (G0 : Hp) (pm ctv : Value) (params : Arguments) (body : Expr) (scope : Scope) (f c' : Addr) : Prop where
  obj : s0.heap.get? f = some (PySem.W.kla_obj "<lambda>" (X.env.qual ++ "<lambda>") params body scope (cloFrom X.env.cells scope.names []) pm c' ctv)
  free : G0 f = none
  nofr : f ∉ frs X.stack
/-- a() in the def that got the lambda -/
theorem pe_actG {Ng : List Str} {qg : Str} {sg : Scope} {g f c' : Addr} {cdg pm ctv : Value} {params : Arguments} {body : Expr} {scope : Scope} {k i : Nat} {a : Str} {pn : List (Addr × Obj)} {xe : Value → Shared → Prop} {W : WX} {E : XK} {tb : TE} {q1 q2 : Pos}
    (J0 : Inv X ps0 τ G0 s0) (L : LamS X.env.scope scope) (hf : LamAt X s0 G0 pm ctv params body scope f c')
    (hbind : bindArgs (PySem.W.kla_fn "<lambda>" (X.env.qual ++ "<lambda>") params body scope (cloFrom X.env.cells scope.names []) pm (.ref c') ctv) ⟨[], []⟩ = pure [])
    (tk : Takes ((gotCx X Ng qg sg g cdg s0 G0).tr pn xe) W) (hW : ∀ cls d σ' H', E cls d H' → W cls d σ' H') (hr : RoomG (k + 1) (X.A.deeper (envOfC qg sg s0.heap.objs.size g cdg)))
    (hbody : ∀ (A : Around) (out : List Env) (z : Shared) (G : Hp), RoomG k (A.deeper (lamEnv X scope z.heap.objs.size f c')) → PE (lamCx X A out z G E scope f c') body tb)
    (hN : Ng[i]? = some a) (hv : Vis sg a) (hd : (a == ("__debug__" : Str)) = false := by decide) (hcd : (a == ("__classdict__" : Str)) = false := by decide) :
    PE ((gotCx X Ng qg sg g cdg s0 G0).tr pn xe) (.Call (.Name a q1) [] [] q2) (fun μ G Q => μ[i]? = some (some (.ref f)) ∧ G c' = some (CodeO c' (X.env.qual ++ "<lambda>")) ∧ tb τ G Q) := by
  refine ⟨fun pins z μ G Q Iz hz => ?_⟩
  obtain ⟨hs, hc, ht⟩ := hz
  refine wpAny_Call_Name_kw (thn ((pe_var (pos := q1) (i := i) hN hv hd hcd).run pins z μ G (fun v G1 => v = .ref f ∧ G1 = G) Iz ⟨.ref f, hs, rfl, rfl⟩) fun u z1 ⟨v, G1, I1, ru, ev, eG⟩ => ?_)
  subst ev
  rw [eG] at I1
  obtain rfl : u = Value.ref f := ru
  have at1 : z1.heap.get? f = some (PySem.W.kla_obj "<lambda>" (X.env.qual ++ "<lambda>") params body scope (cloFrom X.env.cells scope.names []) pm c' ctv) := I1.base.keep f _ hf.obj hf.free hf.nofr (fun y => nomatch (show f ∈ ([] : List Addr) from y))
  refine PySem.W.callWith_F0 ⟨_, _, _, _, at1⟩ ?_
  have und : Un (frs X.stack) [] G0 G s0.heap z1.heap := I1.base
  obtain ⟨⟨oc, vs, t, hoc, hdc, hvc⟩, _, _⟩ := I1.hok c' _ hc
  have run : codeAny (model X.prog X.w) (X.A.deeper (envOfC qg sg s0.heap.objs.size g cdg)) (.call (.ref f) ⟨[], []⟩) (CR (L2.CX X.prog X.w) (envOfC qg sg s0.heap.objs.size g cdg :: X.stack) X.prog X.w G z1 Q E) z1 := by
    refine PySem.W.kla_callFunE hr.r.depth at1 rfl L.co L.gen rfl ⟨c', oc, vs, t, rfl, hoc, hdc, hvc⟩ ?_
    rw [hbind]
    refine wpAny_pure (wpAny_newFunctionEnv (fun y hy => (L.own y hy).2) (fun y hy => absurd hy (by simp)) (fun h₁ hns hsb => ⟨I1.nolimit.fresh _ hsb, ?_⟩) L.kind)
    show codeAny _ _ (.expr body (lamEnv X scope z1.heap.objs.size f c')) _ _
    have stays : ∀ b o, z1.heap.get? b = some o → h₁.get? b = some o := fun b o e => hsb.extBut b o (Nat.ne_of_lt (Heap.lt_size e)) (Heap.get?_push_of_some _ e)
    have Jl : Inv (lamCx X (X.A.deeper (envOfC qg sg s0.heap.objs.size g cdg)) (envOfC qg sg s0.heap.objs.size g cdg :: X.stack) z1 G E scope f c') [] τ G { z1 with heap := h₁, toks := z1.toks + ([] : List (Str × Value)).length } :=
      lam_start2 J0 L I1.env0 hr.r.hd und hns stays
    refine PySem.W.kla_codeExpr (wpAny_mono ((hbody _ _ z1 G (hr.deeper _)).run [] _ _ G Q Jl ht) (fun v s' hq => ?_) fun e s' hq => hq)
    obtain ⟨w', G', J', rv, q⟩ := hq
    exact ⟨w', G', J'.os, J'.bare, J'.base, J'.hok, rv, q⟩
  have out : Passes (L2.CX X.prog X.w) ((gotCx X Ng qg sg g cdg s0 G0).tr pn xe) E := passes_call tk hW
  refine wpAny_call (codeAny_mono run fun r s' hq => ?_)
  cases r with
  | error e => exact out pins μ G z1 e s' I1 hq
  | ok fl =>
    cases fl with
    | ret u => exact I1.after hq
    | next => exact False.elim hq
    | brk => exact False.elim hq
    | cont => exact False.elim hq
end
section
variable {X : Cx} {pins : List (Addr × Obj)} {τ : L2.St} {H : Hp} {s : Shared}
/-- all that is tracked stays, but for the table at P -/
def Keep1 (P : Addr) (H H' : Hp) : Prop := ∀ b o, H b = some o → b ≠ P → H' b = some o
/-- a lambda is made: what is tracked stays but for the maker's table -/
theorem lam_make3 {c P : Addr} {params : Arguments} {body : Expr} {scope : Scope} {pos : Pos} {E : Value → Shared → Prop} {Q : Value → Shared → Prop} (I : Inv X pins τ H s) (TB : TabB X.base X.mg c P) (hcode : X.env.code = .ref c)
    (tab : TabS H P (X.env.qual ++ "<lambda>")) (hdef : defaultsOf params X.env = ([], [])) (hfree : ∀ y ∈ scope.names, y.2 = .free → ∃ c, X.env.cells.lookup y.1 = some c)
    (out : ∀ (f c' : Addr) (pm ctv : Value) (H1 : Hp) (z : Shared), Inv X pins τ H1 z → Keep1 P H H1 → TabS H1 P (X.env.qual ++ "<lambda>") →
      z.heap.get? f = some (PySem.W.kla_obj "<lambda>" (X.env.qual ++ "<lambda>") params body scope (cloFrom X.env.cells scope.names []) pm c' ctv) → H1 f = none → f ∉ frs X.stack → H1 c' = some (CodeO c' (X.env.qual ++ "<lambda>")) → Q (.ref f) z) :
    wpAny (model X.prog X.w) X.A (eval (.Lambda params body scope pos) X.env) Q E s := by
  obtain ⟨ps, hP, ht, ha⟩ := tab
  refine PySem.W.kla_eval hdef ?_
  have blt : s.heap.BuiltinsAt X.mg P := TB.bm.keeps I.bk
  have atP : s.heap.get? P = some { cls := .none, data := .fields ps } := I.hok P _ hP
  have nofr : ∀ f, s.heap.objs.size ≤ f → f ∉ frs X.stack := fun f hf z => by
    rcases List.mem_cons.mp (I.stkSub _ z) with e | e
    · have h1 := I.lt
      exact absurd (Nat.lt_of_lt_of_le (e ▸ h1) hf) (Nat.lt_irrefl _)
    · exact I.nofs hf e
  cases hc : codeAmong pos ps.toList with
  | some cv =>
    obtain ⟨c', e, hco⟩ := ha pos cv hc
    subst e
    refine PySem.W.kla_makeFunctionHit (mg := X.mg) (c := c) (P := P) (ps := ps) (closure_ok hfree) I.ok.glob (I.mod.glob.keeps I.bk) hcode (TB.code.keeps I.bk) atP ht hc blt fun ctv h' tk hx hsz => ?_
    have J : Inv X pins τ H { s with heap := h'.push (PySem.W.kla_obj "<lambda>" (X.env.qual ++ "<lambda>") params body scope (cloFrom X.env.cells scope.names []) ((X.mg "__name__").getD .none) c' ctv), toks := tk } := I.kept fun b o e => Heap.get?_push_of_some _ (hx b o e)
    exact out h'.objs.size c' ((X.mg "__name__").getD .none) ctv H _ J (fun _ _ e _ => e) ⟨ps, hP, ht, ha⟩ (Heap.get?_push_size _ rfl) (I.hok.fresh hsz) (nofr _ hsz) hco
  | none =>
    refine PySem.W.kla_makeFunction (mg := X.mg) (c := c) (P := P) (ps := ps) (closure_ok hfree) I.ok.glob (I.mod.glob.keeps I.bk) hcode (TB.code.keeps I.bk) atP ht hc TB.gP blt fun c' ctv h' tk hx hge hlt hrec htb => ?_
    obtain ⟨c2, oc, vs, t, e2, hoc, hd, hv⟩ := hrec
    cases e2
    have hsz : s.heap.objs.size ≤ h'.objs.size := Nat.le_trans hge (Nat.le_of_lt hlt)
    have nC : H c' = none := I.hok.fresh hge
    have J := inv_table (t' := tk) (more := #[rawInt pos.line, rawInt pos.col, .ref c']) (h' := h'.push (PySem.W.kla_obj "<lambda>" (X.env.qual ++ "<lambda>") params body scope (cloFrom X.env.cells scope.names []) ((X.mg "__name__").getD .none) c' ctv)) I hP
      (fun b o hb e => Heap.get?_push_of_some _ (hx b o hb e)) (Heap.get?_push_of_some _ htb) hge ⟨oc, vs, t, Heap.get?_push_of_some _ hoc, hd, hv⟩
    have kp : Keep1 P H (upd (upd H P (.tbl (ps ++ #[rawInt pos.line, rawInt pos.col, .ref c']))) c' (CodeO c' (X.env.qual ++ "<lambda>"))) := fun b o e n => by
      rw [upd_ne (ne_of_none e nC), upd_ne n]
      exact e
    have eL : (ps ++ #[rawInt pos.line, rawInt pos.col, .ref c']).toList = ps.toList ++ [rawInt pos.line, rawInt pos.col, .ref c'] := by simp
    refine out h'.objs.size c' ((X.mg "__name__").getD .none) ctv _ _ J kp ⟨_, by rw [upd_ne (ne_of_none hP nC), upd_same], by rw [eL]; exact PySem.TriplesOk_snoc _ _ _ _ ht, fun p' cv hcv => ?_⟩ (Heap.get?_push_size _ rfl) ?_ (nofr _ hsz) upd_same
    · rw [eL] at hcv
      rcases among_app _ ht hcv with z | z
      · obtain ⟨c0, e1, e2⟩ := ha p' cv z
        refine ⟨c0, e1, kp _ _ e2 fun y => ?_⟩
        rw [y, hP] at e2
        exact codeO_ne ps (Option.some.inj e2).symm
      · exact ⟨c', z, upd_same⟩
    · have n1 : h'.objs.size ≠ c' := Nat.ne_of_gt hlt
      have n2 : h'.objs.size ≠ P := Nat.ne_of_gt (Nat.lt_of_lt_of_le (Heap.lt_size atP) hsz)
      rw [upd_ne n1, upd_ne n2]
      exact I.hok.fresh hsz
end
/-- the reading of x(lambda: ..): P is the maker's table, q the lambdas' name -/
def tLam1 (P : Addr) (q : Str) (TT : (XK → Hp → VK → Prop) → Hp → VK → Prop) (t : XK → TE) : TE := fun σ H Q => TabS H P q ∧ ∀ H1, Keep1 P H H1 → TabS H1 P q → TT (fun E H' Q' => t E σ H' Q') H1 Q
/-- the def that calls what it got (its slot 0): TT is what it makes of the lambda's reading -/
def GetsTo (X : Cx) (Ng : List Str) (x : Str) (sg : Scope) (g : Addr) (cdg : Value) (bg : List Stmt) (a : Str) (q : Str) (TT : (XK → Hp → VK → Prop) → Hp → VK → Prop) : Prop :=
  ∀ (f c' : Addr) (s0 : Shared) (G0 : Hp) (Q : VK) (tl : XK → Hp → VK → Prop),
    (∀ (W : WX) (pn : List (Addr × Obj)) (xe : Value → Shared → Prop) (E : XK) (q1 q2 : Pos), Takes ((gotCx X Ng x sg g cdg s0 G0).tr pn xe) W → (∀ cls d σ' H', E cls d H' → W cls d σ' H') →
      PE ((gotCx X Ng x sg g cdg s0 G0).tr pn xe) (.Call (.Name a q1) [] [] q2) (fun μ G Q => μ[0]? = some (some (.ref f)) ∧ G c' = some (CodeO c' q) ∧ tl E G Q)) →
    G0 c' = some (CodeO c' q) → TT tl G0 Q →
    ∃ t, PSs (gotCx X Ng x sg g cdg s0 G0).nox bg t ∧ t { nx := fun _ H' => Q .non H', rt := Q } (L2.start Ng [.ref f]) G0
section
variable {X : Cx}
/-- x(lambda: body) -/
theorem pe_lamG {TT : (XK → Hp → VK → Prop) → Hp → VK → Prop} {x a : Str} {g c P : Addr} {k : Nat} {pg : Arguments} {bg : List Stmt} {sg : Scope} {dV kV doc pm cdv ct oc : Value} {an od : Option Addr} {osl : Array (Option Value)} {Ng : List Str}
    {params : Arguments} {body : Expr} {scope : Scope} {t : XK → TE} {p lpos pos : Pos} (hg : Gl X x) (hm : X.mg x = some (.ref g)) (hk : PySem.W.keepIn X.K (.ref g) = true)
    (lk : X.K.lookup g = some ⟨oc, od, .func (PySem.W.fnOf x x pg bg sg dV kV doc pm an cdv ct), osl⟩) (hcg : PySem.W.codeIn X.K cdv x = true) (hb : L2.Binds X.K (PySem.W.fnOf x x pg bg sg dV kV doc pm an cdv ct) [a] []) (Sg : FnScope Ng [a] sg) (hNg : Ng[0]? = some a) (hva : Vis sg a)
    (hG : GetsTo X Ng x sg g cdv bg a (X.env.qual ++ "<lambda>") TT)
    (TB : TabB X.base X.mg c P) (hcode : X.env.code = .ref c) (hr : RoomG (k + 2) X.A) (L : LamS X.env.scope scope) (hdef : defaultsOf params X.env = ([], []))
    (hbind : ∀ (q : Str) (cl : List (Str × Addr)) (pm cv ctv : Value), bindArgs (PySem.W.kla_fn "<lambda>" q params body scope cl pm cv ctv) ⟨[], []⟩ = pure [])
    (hbody : ∀ (A : Around) (out : List Env) (z : Shared) (G : Hp) (E : XK) (f c' : Addr), RoomG k (A.deeper (lamEnv X scope z.heap.objs.size f c')) → PE (lamCx X A out z G E scope f c') body (t E))
    (hdb : (x == ("__debug__" : Str)) = false := by decide) (hd : (a == ("__debug__" : Str)) = false := by decide) (hcd : (a == ("__classdict__" : Str)) = false := by decide) :
    PE X (.Call (.Name x p) [.Lambda params body scope lpos] [] pos) (tLam1 P (X.env.qual ++ "<lambda>") TT t) := by
  refine ⟨fun pins s τ H Q I hyp => ?_⟩
  obtain ⟨hT, hyp⟩ := hyp
  refine wpAny_Call_Name_kw (ld_glob I hg hm ?_ hdb)
  refine PySem.W.callWith_K (h₀ := X.base) I.ok.mod.kin hk ?_ (by rfl) (by rfl)
  show wpAny _ _ (spliced ((false, eval (.Lambda params body scope lpos) X.env) :: backTo pos (starEach [] X.env))) _ _ s
  refine Calls.spliced_cons (lam_make3 I TB hcode hT hdef (L.has I.ok) fun f c' pm' ctv H1 s0 I1 eN T1 hf hfn hfr hco => ?_)
  refine Calls.spliced_nil ⟨I1.kIn, ?_⟩
  have run : codeAny (model X.prog X.w) X.A (.call (.ref g) ⟨[.ref f], []⟩) (CR C8.CX0 X.stack X.prog X.w H1 s0 Q C8.E0) s0 := by
    refine run_ofS (k := k + 1) (N := Ng) (ps := [a]) (us := [.ref f]) (vs := [.ref f]) lk hcg Sg hr.r I1.env0 (hb s0 [.ref f] I1.kIn rfl) (.cons rfl .nil) rfl fun _ => ?_
    obtain ⟨t', ht', hq'⟩ := hG f c' s0 H1 Q (fun E H' Q' => t E τ H' Q') (fun W pn xe E q1 q2 tk hW => pe_actG (i := 0) (pm := pm') (ctv := ctv) I1 L ⟨hf, hfn, hfr⟩ (hbind _ _ _ _ _) tk hW (hr.deeper _) (fun A out z G h2 => hbody A out z G E f c' h2) hNg hva hd hcd) hco (hyp H1 eN T1)
    exact ⟨t', ht'.nox, hq'⟩
  refine wpAny_call (codeAny_mono run fun r s2 hq => ?_)
  cases r with
  | error e => exact (show False from hq).elim
  | ok fl =>
    cases fl with
    | ret u => exact I1.after hq
    | next => exact False.elim hq
    | brk => exact False.elim hq
    | cont => exact False.elim hq
end
/-! ### told = a(), tried; the suite of an error; the rest -/
def endsR (Q : VK) : Ends := { nx := fun _ H' => Q .non H', rt := Q }
/-- n names, told is slot i, the error's slot j -/
def TTc (K : Frag) (n i j : Nat) (cs : List Value) (tsS tsR : TS) : (XK → Hp → VK → Prop) → Hp → VK → Prop := fun tl H Q => ∀ σ0 : L2.St, σ0.length = n →
  tl (fun cls d H' => ∀ σ' : L2.St, σ'.length = n → wTup K cs j { endsR Q with nx := tsR (endsR Q) } tsS cls d σ' H') H fun v H' => tsR (endsR Q) (σ0.set i (some v)) H'
theorem takes_len {X : Cx} {W : WX} {E : XK} (tk : Takes X W) (h : ∀ cls d (σ : L2.St) H, σ.length = X.N.length → E cls d H → W cls d σ H) : Takes X (fun cls d _ H => E cls d H) := fun u s' ⟨a, B, sI, pins, σ, H, cls, d, e, I, nb, up, sky, na, os, ag, w⟩ => tk u s' ⟨a, B, sI, pins, σ, H, cls, d, e, I, nb, up, sky, na, os, ag, h _ _ _ _ I.len w⟩
theorem caught_gets {X : Cx} {Ng : List Str} {x a told n : Str} {x1 x2 x3 : Str} {c1 c2 c3 : Value} {q : Str} {sg : Scope} {g : Addr} {cdg : Value} {i j kk : Nat} {b₀ : Stmt} {suite rest : List Stmt} {tsS tsR : TS} {pa pb pc pd pe' pf p1 p2 p3 tpos : Pos} (hN : Ng.Nodup)
    (hi : Ng[i]? = some told) (hti : sg.names.lookup told = some .local) (hj : Ng[j]? = some n) (hnj : sg.names.lookup n = some .local)
    (hc : ∀ (f : Addr) (s0 : Shared) (G0 : Hp), Names (gotCx X Ng x sg g cdg s0 G0).nox x1 c1 ∧ Names (gotCx X Ng x sg g cdg s0 G0).nox x2 c2 ∧ Names (gotCx X Ng x sg g cdg s0 G0).nox x3 c3)
    (hS : ∀ (s0 : Shared) (G0 : Hp) (e : Addr) (pn : List (Addr × Obj)), PSs ((gotCx X Ng x sg g cdg s0 G0).nox.suite e pn) (b₀ :: suite) tsS) (hR : ∀ (s0 : Shared) (G0 : Hp), PSs (gotCx X Ng x sg g cdg s0 G0).nox rest tsR)
    (hsw : ∀ (s0 : Shared) (G0 : Hp) (pn : List (Addr × Obj)) (xe : Value → Shared → Prop), swapsWith (.Call (.Name a pa) [] [] pb) (some (.Name told pc)) pd.line ((gotCx X Ng x sg g cdg s0 G0).nox.tr pn xe).env = pure false) :
    GetsTo X Ng x sg g cdg (.Try [.Assign [.Name told pc] (.Call (.Name a pa) [] [] pb) pd] [.ExceptHandler (some (.Tuple [.Name x1 p1, .Name x2 p2, .Name x3 p3] kk tpos)) (some n) (b₀ :: suite) pe'] [] [] pf :: rest) a q (TTc X.K Ng.length i j [c1, c2, c3] tsS tsR) := by
  intro f c' s0 G0 Q tl act hco htt
  obtain ⟨hc1, hc2, hc3⟩ := hc f s0 G0
  let Y := (gotCx X Ng x sg g cdg s0 G0).nox
  have hbody : ∀ (W : WX) (pn : List (Addr × Obj)) (xe : Value → Shared → Prop), Takes (Y.tr pn xe) W → PassesOwn (model Y.prog Y.w) Y.A Y.env xe →
      PSs (Y.tr pn xe) [.Assign [.Name told pc] (.Call (.Name a pa) [] [] pb) pd] (fun D σ H => ∃ E : XK, (∀ cls d (σ' : L2.St) H', σ'.length = Ng.length → E cls d H' → W cls d σ' H') ∧ σ[0]? = some (some (.ref f)) ∧ H c' = some (CodeO c' q) ∧ tl E H fun v H' => D.nx (σ.set i (some v)) H') := by
    intro W pn xe tk _
    refine ⟨fun pins s σ H D I ⟨E, hE, h1, h2, h3⟩ => ?_⟩
    have hp := act (fun cls d _ H => E cls d H) pn xe E pa pb (takes_len (X := Y.tr pn xe) tk hE) (fun _ _ _ _ z => z)
    exact (pss_one (ps_set (X := Y.tr pn xe) (i := i) hN hi (.inl hti) hp (hsw s0 G0 pn xe) (.inr hti))).run pins s σ H D I ⟨h1, h2, h3⟩
  refine ⟨_, pss_cons (ps_try_tup (X := Y) (i := j) rfl rfl rfl hN hj hnj hc1 hc2 hc3 hbody (hS s0 G0)) (hR s0 G0), ?_⟩
  have l0 : (L2.start Ng [V.ref f]).length = Ng.length := by
    have : 0 < Ng.length := (List.getElem?_eq_some_iff.mp hi).1 |> Nat.lt_of_le_of_lt (Nat.zero_le _)
    unfold L2.start
    simp
    omega
  have s00 : (L2.start Ng [V.ref f])[0]? = some (some (.ref f)) := by
    unfold L2.start
    rfl
  exact ⟨_, fun cls d σ' H' hl w => w σ' hl, s00, hco, htt _ l0⟩

/-! ### over data -/
def hasTab (x : Str) (S : Store) : Bool := S.any fun o => match o with
  | .tab y => decide (y = x)
  | _ => false
def fin0 (r : Fl) : R D := match r with
  | .nx _ S => .ok .non S
  | .rt d S => .ok d S
  | _ => .bad
/-- told = a(), tried: r is what a() gives -/
def cgt (n i j : Nat) (yes : List Str) (fs fr : L → Store → Fl) (r : R D) : R D := match r with
  | .ok d S1 => fin0 (fr ((List.replicate n none).set i (some d)) S1)
  | .exc e S1 => if yes.contains e.cls = true then fin0 (((fs ((List.replicate n none).set j (some (.err e.cls e.ks e.vs))) S1).out (some j)).andThen fr) else .bad
  | .bad => .bad
/-- .. in the def x0, by a lambda -/
def eCgt (x0 : Str) (n i j : Nat) (yes : List Str) (fs fr : L → Store → Fl) (fb : L → Store → R D) : L → Store → R D := fun l S => if hasTab x0 S = true then cgt n i j yes fs fr (fb l S) else .bad
def TakesT (K : Frag) (cs : List Value) (yes : List Str) : Prop := ∀ D ∈ yes, PySem.W.exmAny K (.ref (He.ga K D)) cs = some true
section
variable {K : Frag} {Wx : WX} {W : Wd} {σ : L2.St} {Q : VK} {r : Fl} {fr : L → Store → Fl}
theorem fin0_post (h : Post K Wx σ W (fin0 r) fun W d => ∀ v, Rep K W d v → Q v W.H) : PostS K wx0 W r (endsR Q) := by
  cases r with
  | nx l S => exact fun ρ H σ' e o s => h ρ H e o .non .non
  | rt d S => exact fun ρ H v e o q => h ρ H e o v q
  | bk l S => exact h.elim
  | ct l S => exact h.elim
  | exc e l S => exact h.elim
  | bad => exact h.elim
theorem fin0_then (h : Post K Wx σ W (fin0 (r.andThen fr)) fun W d => ∀ v, Rep K W d v → Q v W.H) : PostS K wx0 W r { endsR Q with nx := tS K wx0 fr (endsR Q) } := by
  cases r with
  | nx l S => exact fun ρ H σ' e o s => ⟨ρ, S, W.B, l, o, s, (fin0_post (σ := σ) h).weak e⟩
  | rt d S => exact fun ρ H v e o q => h ρ H e o v q
  | bk l S => exact h.elim
  | ct l S => exact h.elim
  | exc e l S => exact h.elim
  | bad => exact h.elim
theorem Sl.none {n : Nat} (hl : σ.length = n) : Sl K W σ (List.replicate n none) := ⟨by rw [List.length_replicate, hl], fun i d h => by
  rw [List.getElem?_replicate] at h
  split at h <;> cases h⟩
theorem hasTab_at {x : Str} {S : Store} (h : hasTab x S = true) : ∃ i : Nat, S[i]? = some (Ob.tab x) := by
  obtain ⟨o, ho, h⟩ := List.any_eq_true.mp h
  cases o with
  | tab y =>
    have e : y = x := of_decide_eq_true h
    subst e
    exact List.mem_iff_getElem?.mp ho
  | _ => cases h
/-- the table of the def x has grown -/
theorem tab_grow {ρ : Nat → Addr} {S : Store} {H H1 : Hp} {B : Addr → Prop} {x : Str} (ok : Ok K ⟨ρ, S, H, B⟩) (hx : hasTab x S = true) (kp : Keep1 (tabP K x) H H1) (t1 : TabS H1 (tabP K x) (lamQ x)) :
    Ext ⟨ρ, S, H, B⟩ ⟨ρ, S, H1, B⟩ ∧ Ok K ⟨ρ, S, H1, B⟩ := by
  obtain ⟨j, hj⟩ := hasTab_at hx
  have oj : ρ j = tabP K x ∧ TabS H (ρ j) (lamQ x) := ok.obj j _ hj
  have jl : j < S.length := (List.getElem?_eq_some_iff.mp hj).1
  have live : Live ⟨ρ, S, H, B⟩ (tabP K x) := ⟨j, jl, oj.1⟩
  obtain ⟨ps, hps, _⟩ := oj.1 ▸ oj.2
  have e : Ext ⟨ρ, S, H, B⟩ ⟨ρ, S, H1, B⟩ := ⟨rfl, Nat.le_refl _, fun _ _ => rfl, fun a u h n => ⟨kp a u h fun z => n (z ▸ live), n⟩⟩
  have no : ∀ {a : Addr} {u : HO}, H a = some u → (∀ q, u ≠ .tbl q) → H1 a = some u := fun {a u} h n => kp a u h fun z => n ps (by rw [z, hps] at h; exact (Option.some.inj h).symm)
  refine ⟨e, ⟨fun a b => ?_, ok.nb, ok.inj, fun i o h => ?_⟩⟩
  · obtain ⟨xs, hh⟩ := ok.bl a b
    exact ⟨xs, no hh fun q z => by cases z⟩
  · have r := ok.obj i o h
    cases o with
    | lst xs =>
      obtain ⟨vs, hh, q⟩ := r
      exact ⟨vs, no hh (fun q z => by cases z), Reps.ext e ok q⟩
    | ins C ks xs =>
      obtain ⟨dx, vs, hh, hl, q⟩ := r
      exact ⟨dx, vs, no hh (fun q z => by cases z), hl, Reps.ext e ok q⟩
    | tab y =>
      obtain ⟨r1, qs, r2, r3, r4⟩ := r
      by_cases z : ρ i = tabP K x
      · have il : i < S.length := (List.getElem?_eq_some_iff.mp h).1
        have ij : i = j := ok.inj i j il jl (z.trans oj.1.symm)
        have h' : S[i]? = some (Ob.tab y) := h
        rw [ij, hj] at h'
        have exy : x = y := Ob.tab.inj (Option.some.inj h')
        have z2 : ρ i = tabP K y := r1
        have t2 : TabS H1 (ρ i) (lamQ y) := by
          rw [z2, ← exy]
          exact t1
        exact ⟨z2, t2⟩
      · refine ⟨r1, qs, kp _ _ r2 z, r3, fun pos cv hc => ?_⟩
        obtain ⟨c, e1, e2⟩ := r4 pos cv hc
        exact ⟨c, e1, no e2 codeO_ne⟩
    | dct hs kvs =>
      obtain ⟨xs, h1, hk, q1, q2⟩ := r
      exact ⟨xs, no h1 (fun q z => by cases z), hk, Reps.ext e ok q1, Reps.ext e ok q2⟩
end
section
variable {X : Cx} {Wx : WX}
theorem cgt_ok {x0 : Str} {n i j : Nat} {yes : List Str} {fs fr : L → Store → Fl} {fb : L → Store → R D} {cs : List Value} {σ : L2.St} {H : Hp} {Q : VK} (ht : TakesT X.K cs yes) (h : tE X.K Wx (eCgt x0 n i j yes fs fr fb) σ H Q) :
    tLam1 (tabP X.K x0) (lamQ x0) (TTc X.K n i j cs (tS X.K wx0 fs) (tS X.K wx0 fr)) (fun E => tE X.K (fun c d _ H => E c d H) fb) σ H Q := by
  obtain ⟨ρ, S, B, l, ok, sl, h⟩ := h
  obtain ⟨hx, h⟩ := Post.iff_ok h
  obtain ⟨k, hk⟩ := hasTab_at hx
  have ok1 : ρ k = tabP X.K x0 ∧ TabS H (ρ k) (lamQ x0) := ok.obj k _ hk
  refine ⟨by rw [← ok1.1]; exact ok1.2, fun H1 kp t1 σ0 hl0 => ?_⟩
  obtain ⟨e1, o1⟩ := tab_grow ok hx kp t1
  refine ⟨ρ, S, B, l, o1, sl.ext e1 ok, ?_⟩
  have h := h.weak e1
  cases hb : fb l S with
  | bad => rw [hb] at h; exact h.elim
  | ok d S1 =>
    rw [hb] at h
    intro ρ2 H2 e2 o2 v rv
    have h3 : Post X.K Wx σ _ (fin0 (fr ((List.replicate n none).set i (some d)) S1)) _ := h.weak e2
    exact ⟨ρ2, S1, B, _, o2, (Sl.none hl0).set rv i, fin0_post h3⟩
  | exc e S1 =>
    rw [hb] at h
    have h2 : Post X.K Wx σ _ (if yes.contains e.cls = true then fin0 (((fs ((List.replicate n none).set j (some (.err e.cls e.ks e.vs))) S1).out (some j)).andThen fr) else .bad) _ := h
    obtain ⟨hy, h2⟩ := Post.iff_ok h2
    intro ρ2 H2 cls d e2 o2 rx σ' hl'
    obtain ⟨rfl, rx2⟩ := id rx
    refine ⟨ht _ (by simpa using hy), fun a na => ?_⟩
    have sm : Same H2 (upd H2 a (exq a (.ref (He.ga X.K e.cls)) d)) := Same.upd na
    have rr : Rep X.K ⟨ρ2, S1, upd H2 a (exq a (.ref (He.ga X.K e.cls)) d), B⟩ (.err e.cls e.ks e.vs) (.ref a) := by
      rcases rx2 with ⟨y1, y2, y0⟩ | ⟨dd, vs, y1, y2, y3, y4⟩
      · rw [y1, y2]
        exact .err (d := d) (vs := []) upd_same (.inl ⟨rfl, y0⟩) rfl .nil
      · exact .err (d := d) (vs := vs) upd_same (.inr ⟨dd, y1, sm _ _ y2⟩) y3 (Reps.ext (Ext.same sm) o2 y4)
    have h3 := (h2.weak e2).weak (Ext.same sm)
    exact ⟨ρ2, S1, B, _, o2.same sm, (Sl.none hl').set rr j, out_post (fin0_then h3)⟩
end
end HL
end
section
set_option Elab.async false
set_option linter.all false
set_option maxRecDepth 100000
set_option maxHeartbeats 2000000
/-! HX9: a lambda handed to a def that tries it, as a reading; the head and the law's end, with tables of code objects. -/
namespace HL
open PySem PySem.Spec L2 PyProof.Rows LamX
section
variable {X : Cx} {Wx : WX} {k : Nat}
theorem fitT_got {Ng : List Str} {x : Str} {sg : Scope} {g : Addr} {cdg : Value} {s0 : Shared} {G0 : Hp} (c : RoomG (k + 1) X.A) (hN : Ng.Nodup) : FitT (gotCx X Ng x sg g cdg s0 G0).nox k :=
  ⟨⟨⟨(c.deeper (envOfC x sg s0.heap.objs.size g cdg)).r.dp, (c.deeper (envOfC x sg s0.heap.objs.size g cdg)).r.un⟩, c.g⟩, hN⟩
theorem fitT_gotS {Ng : List Str} {x : Str} {sg : Scope} {g : Addr} {cdg : Value} {s0 : Shared} {G0 : Hp} (c : RoomG (k + 1) X.A) (hN : Ng.Nodup) (e : Addr) (pn : List (Addr × Obj)) : FitT ((gotCx X Ng x sg g cdg s0 G0).nox.suite e pn) k :=
  ⟨⟨⟨(c.deeper (envOfC x sg s0.heap.objs.size g cdg)).r.dp, (c.deeper (envOfC x sg s0.heap.objs.size g cdg)).r.un⟩, c.g⟩, hN⟩
theorem fe_lam {x0 x a : Str} {st : Stmt} {Ng : List Str} {i j : Nat} {yes : List Str} {fs fr : L → Store → Fl} {cs : List Value} {fb : L → Store → R D} {params : Arguments} {body : Expr} {scope : Scope} {p lpos pos : Pos}
    (F : ∃ fd, FunD X.K x x (defArgs st) (defBody st) (defScope st) [] [] (He.ga X.K x) fd) (Sg : FnScope Ng [a] (defScope st))
    (hb : ∀ (kV doc pm : Value) (an : Option Addr) (cdv ct : Value) (us : List Value), us.length = 1 → bindArgs (PySem.W.fnOf x x (defArgs st) (defBody st) (defScope st) .none kV doc pm an cdv ct) ⟨us, []⟩ = pure ([a].zip us))
    (hm : X.mg x = some (.ref (He.ga X.K x))) (hg : Gl X x) (hva : Vis (defScope st) a) (hNg : Ng[0]? = some a)
    (hG : ∀ cdv, GetsTo X Ng x (defScope st) (He.ga X.K x) cdv (defBody st) a (X.env.qual ++ "<lambda>") (TTc X.K Ng.length i j cs (tS X.K wx0 fs) (tS X.K wx0 fr))) (ht : TakesT X.K cs yes)
    (TB : TabB X.base X.mg (He.codeOf X.K (x0, none)) (tabP X.K x0)) (hcode : X.env.code = .ref (He.codeOf X.K (x0, none))) (hq : X.env.qual ++ "<lambda>" = lamQ x0) (c : Fit X Wx (k + 2)) (L : LamS X.env.scope scope) (hdef : defaultsOf params X.env = ([], []))
    (hbind : ∀ (q : Str) (cl : List (Str × Addr)) (pm cv ctv : Value), bindArgs (PySem.W.kla_fn "<lambda>" q params body scope cl pm cv ctv) ⟨[], []⟩ = pure [])
    (hbody : ∀ (Y : Cx) (E : XK), (∃ A out z G f c', Y = lamCx X A out z G E scope f c') → Fit Y (fun c d _ H => E c d H) k → FE Y (fun c d _ H => E c d H) body fb)
    (hdb : (x == ("__debug__" : Str)) = false := by decide) (hd : (a == ("__debug__" : Str)) = false := by decide) (hcd : (a == ("__classdict__" : Str)) = false := by decide) :
    FE X Wx (.Call (.Name x p) [.Lambda params body scope lpos] [] pos) (eCgt x0 Ng.length i j yes fs fr fb) := by
  obtain ⟨fd, F⟩ := F
  obtain ⟨oc, od, dV, kV, doc, pm, an, cdv, ct, osl, rfl, lk, hcg, hD, _⟩ := F.ex
  have hdV : dV = .none := by
    rcases hD with ⟨_, e⟩ | ⟨e, _⟩
    · exact e
    · exact absurd rfl e
  subst hdV
  have bnd : L2.Binds X.K (PySem.W.fnOf x x (defArgs st) (defBody st) (defScope st) .none kV doc pm an cdv ct) [a] [] := L2.Binds.all fun us hl => hb kV doc pm an cdv ct us (by simpa using hl)
  have pe := pe_lamG (X := X) (p := p) (lpos := lpos) (pos := pos) (k := k) (t := fun E => tE X.K (fun c d _ H => E c d H) fb) hg hm F.kp lk hcg bnd Sg hNg hva (hG cdv) TB hcode c.rm L hdef hbind
    (fun A out z G E f c' hr => hbody _ E ⟨A, out, z, G, f, c', rfl⟩ ⟨takes_of rfl rfl rfl rfl, passes_of rfl, hr, rfl, c.nd⟩) hdb hd hcd
  rw [hq] at pe
  exact pe.imp fun σ H Q h => cgt_ok ht h
end
def trySuite (b : List Stmt) : List Stmt := match b with
  | .Try _ [.ExceptHandler _ _ s _] _ _ _ :: _ => s
  | _ => []
def tryRest (b : List Stmt) : List Stmt := match b with
  | _ :: r => r
  | _ => []
/-! ### a def that makes lambdas -/
section
variable {P : Program} {w : World} {K : Frag} {mg : Str → Option Value} {base : Heap} {x : Str} {N ps : List Str} {k n : Nat}
theorem Kn.ofL {st : Stmt} {tr : Bool} {bf : L → Store → Fl} (F : ∃ fd, FunD K x x (defArgs st) (defBody st) (defScope st) [] [] (He.ga K x) fd) (S : FnScope N ps (defScope st)) (hn : ps.length = n)
    (hb : ∀ (kV doc pm : Value) (an : Option Addr) (cdv ct : Value) (us : List Value), us.length = ps.length → bindArgs (PySem.W.fnOf x x (defArgs st) (defBody st) (defScope st) .none kV doc pm an cdv ct) ⟨us, []⟩ = pure (ps.zip us))
    (body : ∀ (X : Cx) (E : XK), (∃ A outer s H, X = cxOf (L2.CX P w) P w K mg base N x (defScope st) (He.ga K x) (.ref (He.codeOf K (x, none))) A outer s H E) → Fit X (fun c d _ H => E c d H) k → FB X (fun c d _ H => E c d H) (defBody st) bf) :
    Kn P w K mg base x x st (He.ga K x) ps (k + 1) n (run tr N.length bf) := by
  obtain ⟨fd, F⟩ := F
  refine ⟨fd, F, fnG_of F S (spOf.len hn) fun cdv ca A outer s H vs Q E hr h => ?_, ?_⟩
  · obtain ⟨oc, od, fd2, osl, c, lk, e1, e2⟩ := ca
    have e3 : He.codeOf K (x, none) = c := He.codeOf_eq (p := (x, none)) (show K.lookup (He.ga K x) = _ from lk) e1
    have e4 : cdv = .ref (He.codeOf K (x, none)) := by rw [e2, e3]
    subst e4
    exact ⟨_, body _ E ⟨A, outer, s, H, rfl⟩ ⟨takes_of rfl rfl rfl rfl, passes_of rfl, hr, rfl, S.nd⟩, spOf_body (Wx := fun E c d _ H => E c d H) rfl h⟩
  · obtain ⟨oc, od, dV, kV, doc, pm, an, cdv, ct, osl, rfl, lk, hcd, hD, hK⟩ := F.ex
    rcases hD with ⟨_, rfl⟩ | ⟨e, _⟩
    · exact Bd.pos (hb kV doc pm an cdv ct)
    · exact absurd rfl e
end
/-! ### what the head tells -/
abbrev BxD : Type := String × List Str × List Str
/-- a class of errors over ArithmeticError without an __init__ of its own -/
def bareB (K : Frag) (C : Str) : Bool := (He.Fa.glo C).ok K && (PySem.W.excIn K (He.ga K C) (tailOf "ArithmeticError") "ArithmeticError.__new__" && (PySem.W.keepIn K (.ref (He.ga K C)) && (decide (PySem.W.subIn K (.ref (He.ga K C)) (.type "BaseException") = some true) && decide (PySem.W.typeIn K (.ref (He.ga K C)) = some (.type "type")))))
/-- by a built-in class; with no name: classes that are bare -/
def bxB (K : Frag) (t : BxD) : Bool := if t.1 = "" then t.2.1.all fun C => bareB K C else (t.2.1.all fun D => decide (PySem.W.kitOne K (.ref (He.ga K D)) (.type t.1) = some true)) && t.2.2.all fun D => decide (PySem.W.kitOne K (.ref (He.ga K D)) (.type t.1) = some false)
def exC (ix : List Str) (bx : List BxD) (tbs : List Str) (K : Frag) : Bool := (ix.all fun C => isEB K (He.ga K C)) && ((bx.all fun t => bxB K t) && (decide ((tbs.map (tabP K)).Nodup) && He.dictB K sysModules))
structure TxC (fa : List He.Fa) (fn : List DefA) (pr : List (Str × Str)) (is : List Str) (xc : List XcD) (tk : List (Str × List Str × List Str)) (er : List (Str × Str)) (ne : List Str) (cm : List (Str × Str)) (file : Str) (ix : List Str) (bx : List BxD) (tbs : List Str) (P : Program) (w : World) (K : Frag) (mg : Str → Option Value) (base : Heap) : Prop extends TxX fa fn pr is xc tk er ne cm file P K mg where
  saysC : exC ix bx tbs K = true
  tabs : ∀ x ∈ tbs, TabB base mg (He.codeOf K (x, none)) (tabP K x)
theorem kit_exm {K : Frag} {C D : Str} {b : Bool} (h : PySem.W.exmOne K (.ref (He.ga K D)) (.ref (He.ga K C)) = some b) (hb : He.ga K D = He.ga K C → b = true) : PySem.W.kitOne K (.ref (He.ga K D)) (.ref (He.ga K C)) = some b := by
  unfold PySem.W.kitOne
  by_cases e : (Value.ref (He.ga K D) == Value.ref (He.ga K C)) = true
  · rw [if_pos e, hb (Value.ref.inj (beq_iff_eq.mp e))]
  · rw [if_neg e]
    unfold PySem.W.exmOne at h
    split at h
    · exact h
    · cases h
section
variable {fa : List He.Fa} {fn : List DefA} {pr : List (Str × Str)} {is : List Str} {xcs : List XcD} {tks : List (Str × List Str × List Str)} {ers : List (Str × Str)} {nes : List Str} {cms : List (Str × Str)} {file : Str} {ixs : List Str} {bxs : List BxD} {tbs : List Str} {P : Program} {w : World} {K : Frag} {mg : Str → Option Value} {base : Heap}
theorem TxC.ie (T : TxC fa fn pr is xcs tks ers nes cms file ixs bxs tbs P w K mg base) {C : Str} (h : C ∈ ixs) : IsE K (He.ga K C) := isEB_ok (List.all_eq_true.mp (He.ba T.saysC).1 C h)
theorem TxC.bx (T : TxC fa fn pr is xcs tks ers nes cms file ixs bxs tbs P w K mg base) (i : Nat) {t : String} {yes no : List Str} (h : bxs[i]? = some (t, yes, no)) (h1 : (yes.all fun C => ixs.contains C) = true) (h2 : (no.all fun C => ixs.contains C) = true) (h3 : ¬ t = "" := by decide) : IsX K (.type t) yes no := by
  have q : bxB K (t, yes, no) = true := List.all_eq_true.mp (He.ba (He.ba T.saysC).2).1 _ (List.mem_of_getElem? h)
  unfold bxB at q
  rw [if_neg h3] at q
  obtain ⟨a, b⟩ := He.ba q
  exact ⟨fun D hD => ⟨T.ie (by simpa using List.all_eq_true.mp h1 D hD), of_decide_eq_true (List.all_eq_true.mp a D hD)⟩, fun D hD => ⟨T.ie (by simpa using List.all_eq_true.mp h2 D hD), of_decide_eq_true (List.all_eq_true.mp b D hD)⟩⟩
theorem TxC.bare (T : TxC fa fn pr is xcs tks ers nes cms file ixs bxs tbs P w K mg base) (i : Nat) {yes : List Str} (h : bxs[i]? = some ("", yes, [])) {C : Str} (hC : C ∈ yes) : bareB K C = true := by
  have q : bxB K ("", yes, []) = true := List.all_eq_true.mp (He.ba (He.ba T.saysC).2).1 _ (List.mem_of_getElem? h)
  unfold bxB at q
  rw [if_pos rfl] at q
  exact List.all_eq_true.mp q C hC
theorem TxC.sm (T : TxC fa fn pr is xcs tks ers nes cms file ixs bxs tbs P w K mg base) : He.dictB K sysModules = true := (He.ba (He.ba (He.ba T.saysC).2).2).2
/-- of a class of the text: by what its except clause takes -/
theorem TxC.ix (T : TxC fa fn pr is xcs tks ers nes cms file ixs bxs tbs P w K mg base) (i : Nat) {C : Str} {yes no : List Str} (h : tks[i]? = some (C, yes, no)) (h1 : (yes.all fun C => ixs.contains C) = true) (h2 : (no.all fun C => ixs.contains C) = true) (hC : C ∈ yes) : IsX K (.ref (He.ga K C)) yes no := by
  have t := T.tk i h
  refine ⟨fun D hD => ⟨T.ie (by simpa using List.all_eq_true.mp h1 D hD), kit_exm (t.1 D hD) fun _ => rfl⟩, fun D hD => ⟨T.ie (by simpa using List.all_eq_true.mp h2 D hD), kit_exm (t.2 D hD) fun e => ?_⟩⟩
  have a := t.2 D hD
  rw [e, t.1 C hC] at a
  cases a
theorem TxC.tkT (T : TxC fa fn pr is xcs tks ers nes cms file ixs bxs tbs P w K mg base) {i1 i2 i3 : Nat} {C1 C2 C3 : Str} {y1 n1 y2 n2 y3 n3 yes : List Str} (h1 : tks[i1]? = some (C1, y1, n1)) (h2 : tks[i2]? = some (C2, y2, n2)) (h3 : tks[i3]? = some (C3, y3, n3))
    (hy : (yes.all fun D => (y1.contains D || n1.contains D) && ((y2.contains D || n2.contains D) && ((y3.contains D || n3.contains D) && (y1.contains D || (y2.contains D || y3.contains D))))) = true) : TakesT K [.ref (He.ga K C1), .ref (He.ga K C2), .ref (He.ga K C3)] yes := by
  intro D hD
  have q := List.all_eq_true.mp hy D hD
  have one : ∀ {i : Nat} {C : Str} {y n : List Str}, tks[i]? = some (C, y, n) → (y.contains D || n.contains D) = true → ∃ b, PySem.W.exmOne K (.ref (He.ga K D)) (.ref (He.ga K C)) = some b ∧ (y.contains D = true → b = true) := by
    intro i C y n h hc
    have t := T.tk i h
    rcases Bool.or_eq_true_iff.mp hc with z | z
    · exact ⟨true, t.1 D (by simpa using z), fun _ => rfl⟩
    · refine ⟨false, t.2 D (by simpa using z), fun z2 => ?_⟩
      have e1 := t.1 D (by simpa using z2)
      rw [t.2 D (by simpa using z)] at e1
      cases e1
  obtain ⟨q1, q⟩ := He.ba q
  obtain ⟨q2, q⟩ := He.ba q
  obtain ⟨q3, q4⟩ := He.ba q
  obtain ⟨b1, e1, f1⟩ := one h1 q1
  obtain ⟨b2, e2, f2⟩ := one h2 q2
  obtain ⟨b3, e3, f3⟩ := one h3 q3
  unfold PySem.W.exmAny PySem.W.exmAny PySem.W.exmAny PySem.W.exmAny
  rw [e1, e2, e3]
  show some (b1 || (b2 || (b3 || false))) = some true
  rcases Bool.or_eq_true_iff.mp q4 with z | z
  · rw [f1 z]; rfl
  · rcases Bool.or_eq_true_iff.mp z with z | z
    · rw [f2 z]; simp
    · rw [f3 z]; simp
end
end HL
end
section
set_option Elab.async false
set_option linter.all false
set_option maxRecDepth 100000
set_option maxHeartbeats 2000000
/-! HX10: the Hook and the law's end, where tables of code objects are tracked. -/
namespace HL
open PySem PySem.Spec L2 PyProof.Rows LamX
def frAllT (g : Addr → Option Obj) : Frag := He.frT g (List.range 2000)
def tfOf (tbs : List Str) : List He.Defn := tbs.map fun x => (x, none)
section
variable (fa : List He.Fa) (fn : List DefA) (pr : List (Str × Str)) (is : List Str) (xc : List XcD) (tk : List (Str × List Str × List Str)) (er : List (Str × Str)) (ne : List Str) (cm : List (Str × Str)) (file : Str) (ix : List Str) (bx : List BxD) (tbs : List Str)
abbrev AlC : Type := (AlA × AlA) × Bool
def obsC (g : Addr → Option Obj) : AlC := ((obsA fa fn pr is (frAllT g), obsX xc tk er ne cm file (frAllT g)), exC ix bx tbs (frAllT g) && He.tabsB g (tfOf tbs) (frAllT g))
/-- what is known of K and the heap -/
structure SaysC (h : Heap) (K : Frag) : Prop where
  o : (obsA fa fn pr is K, obsX xc tk er ne cm file K) = (valA fn, valX xc)
  ex : exC ix bx tbs K = true
  hd : ∀ x ∈ tbs, PySem.W.codeHdIn K (He.codeOf K (x, none)) (tabP K x) = true
  nK : ∀ x ∈ tbs, K.lookup (tabP K x) = none
  at0 : ∀ x ∈ tbs, h.get? (tabP K x) = some { cls := .none, data := .fields #[] }
theorem saysC_of {h : Heap} (e : obsC fa fn pr is xc tk er ne cm file ix bx tbs h.get? = ((valA fn, valX xc), true)) : SaysC fa fn pr is xc tk er ne cm file ix bx tbs h (frAllT h.get?) := by
  have y1 : (obsA fa fn pr is (frAllT h.get?), obsX xc tk er ne cm file (frAllT h.get?)) = (valA fn, valX xc) := congrArg (fun z : AlC => z.1) e
  have y2 : (exC ix bx tbs (frAllT h.get?) && He.tabsB h.get? (tfOf tbs) (frAllT h.get?)) = true := congrArg (fun z : AlC => z.2) e
  obtain ⟨y3, y4⟩ := He.ba y2
  have one : ∀ x ∈ tbs, PySem.W.codeHdIn (frAllT h.get?) (He.codeOf (frAllT h.get?) (x, none)) (tabP (frAllT h.get?) x) = true ∧ ∃ o, h.get? (tabP (frAllT h.get?) x) = some o ∧ He.emptyTab o = true := fun x hx => by
    obtain ⟨z1, z2⟩ := He.ba (List.all_eq_true.mp y4 (x, none) (List.mem_map.mpr ⟨x, hx, rfl⟩))
    refine ⟨z1, ?_⟩
    cases q : h.get? (He.cT (frAllT h.get?) (x, none)).2 with
    | none => rw [q] at z2; cases z2
    | some o =>
      rw [q] at z2
      exact ⟨o, q, z2⟩
  refine ⟨y1, y3, fun x hx => (one x hx).1, fun x hx => ?_, fun x hx => ?_⟩
  · obtain ⟨_, o, z1, z2⟩ := one x hx
    exact He.frT_none z1 z2
  · obtain ⟨_, o, z1, z2⟩ := one x hx
    rw [z1, He.emptyTab_eq z2]
def hookC : PySem.W.Hook where
  α := AlC
  obs := fun s => obsC fa fn pr is xc tk er ne cm file ix bx tbs s.heap.get?
  val := fun _ => ((valA fn, valX xc), true)
  says := fun _ h => ∃ K : Frag, K.In h ∧ SaysC fa fn pr is xc tk er ne cm file ix bx tbs h K
  of := fun _ _ e => ⟨_, He.frT_in, saysC_of fa fn pr is xc tk er ne cm file ix bx tbs e⟩
  keeps := fun _ _ _ ⟨K, hK, c⟩ k => ⟨K, PySem.W.Frag.In.keeps hK k, ⟨c.o, c.ex, c.hd, c.nK, fun x hx => k _ _ (c.at0 x hx)⟩⟩
def obTC (s : PySem.W.SharedT) : AlC := obsC fa fn pr is xc tk er ne cm file ix bx tbs (HandSHeadRun.getT s)
theorem obTC_eq (s : PySem.W.SharedT) : obTC fa fn pr is xc tk er ne cm file ix bx tbs s = (hookC fa fn pr is xc tk er ne cm file ix bx tbs).obs s.abs := by
  have e : HandSHeadRun.getT s = s.abs.heap.get? := funext (HandSHeadRun.getT_eq s)
  show obsC fa fn pr is xc tk er ne cm file ix bx tbs (HandSHeadRun.getT s) = obsC fa fn pr is xc tk er ne cm file ix bx tbs s.abs.heap.get?
  rw [e]
end
/-! ### the law's call -/
theorem law_callGT {P : Program} {w : World} {K : Frag} {mg mb : Str → Option Value} {k : Nat} {fA cell : Addr} {tbs : List Str} {fd : FuncData} {x : Str} {g : List D → Store → R D} {st : Shared} {us : List Value} {ns : List Int}
    (KX : K.In st.heap) (nsG : st.heap.Ns mainGlobals mg) (nsB : st.heap.Ns builtinsNs mb) (bB : ∀ y : Str, y ≠ "__name__" → mb y = bootBuiltins y) (nl : st.heap.NoLimit) (noG : st.gens = #[])
    (emp : ∀ t ∈ tbs, st.heap.get? (tabP K t) = some { cls := .none, data := .fields #[] }) (outK : ∀ t ∈ tbs, K.lookup (tabP K t) = none) (hds : ∀ t ∈ tbs, PySem.W.CodeHd st.heap (He.codeOf K (t, none)) (tabP K t)) (nd : (tbs.map (tabP K)).Nodup)
    (bmod : ∃ (bm : Addr) (ob : Obj), mg "__builtins__" = some (.ref bm) ∧ bm ≠ builtinsNs ∧ st.heap.get? bm = some ob ∧ ob.cls = .type "module" ∧ ob.dict = some builtinsNs ∧ ob.data = .plain)
    (hcell : st.heap.get? cell = some { cls := .type "list", data := .seq us.toArray }) (hus : IntsAre us ns) (hlen : ns.length ≤ sizeLine) (room : RoomG k callerA)
    (F : ∀ base : Heap, K.In base → base.Ns mainGlobals mg → (∀ t ∈ tbs, TabB base mg (He.codeOf K (t, none)) (tabP K t)) → FnG P w K mg base k fA fd [x] (spOf K 1 g)) (bind1 : ∀ (s : Shared) (u : Value), BindsTo s fd ⟨[u], []⟩ [(x, u)])
    (law : ∃ S, g [cellsD ns] (tbs.map Ob.tab) = .ok (.bl true) S) :
    codeAny (model P w) callerA (.call (.ref fA) ⟨[.ref cell], []⟩) (fun r s' => r = .ok (.ret (.bool true)) ∧ OldK st.heap s'.heap ∧ s'.os = st.os ∧ AllBare s'.gens) st := by
  have vu := vals_ints hus
  have lenU := hus.length
  obtain ⟨SF, law⟩ := law
  have isTab : ∀ b : Addr, b ∈ tbs.map (tabP K) → st.heap.get? b = some { cls := .none, data := .fields #[] } := fun b hb => by
    obtain ⟨t, ht, e⟩ := List.mem_map.mp hb
    rw [← e]
    exact emp t ht
  have cellT : cell ∉ tbs.map (tabP K) := fun z => by
    have q := isTab cell z
    rw [hcell] at q
    have z2 : Data.seq us.toArray _ = Data.fields #[] := congrArg Obj.data (Option.some.inj q)
    cases z2
  have inT : ∀ t ∈ tbs, tabP K t ∈ tbs.map (tabP K) := fun t ht => List.mem_map.mpr ⟨t, ht, rfl⟩
  -- whatever of the script and the tables alone is tracked
  have go : ∀ H : Hp, (∀ t ∈ tbs, H (tabP K t) = some (.tbl #[])) → (∀ b, H b = none ∨ b ∈ tbs.map (tabP K) ∨ ∃ o ys, H b = some (.frz o (.lst ys))) → SqF K H cell (ns.map V.int) → HOk P w H st.heap → (∀ b, H b ≠ none → b = cell ∨ b ∈ tbs.map (tabP K)) → (H cell ≠ none → K.lookup cell = none) →
      codeAny (model P w) callerA (.call (.ref fA) ⟨[.ref cell], []⟩) (fun r s' => r = .ok (.ret (.bool true)) ∧ OldK st.heap s'.heap ∧ s'.os = st.os ∧ AllBare s'.gens) st := by
    intro H hTab only hq hHOk own notK
    have toBase : ∀ {b : Addr} {ob : Obj}, st.heap.get? b = some ob → H b = none → (hidT st.heap H).get? b = some ob := fun e n => hidT_get e n
    have clear : ∀ {b : Addr} {ob : Obj}, st.heap.get? b = some ob → (∀ vs n, ob.data ≠ .seq vs n) → ob.data ≠ .fields #[] → H b = none := fun {b ob} e h1 h2 => by
      cases z : H b with
      | none => rfl
      | some u =>
        rcases own b (by rw [z]; simp) with eb | eb
        · subst eb
          rw [hcell] at e
          cases e
          exact (h1 _ _ rfl).elim
        · rw [isTab b eb] at e
          cases e
          exact (h2 rfl).elim
    have dictFree : ∀ {b : Addr} {ob : Obj} {es : Array DictEntry} {ep : Nat}, st.heap.get? b = some ob → ob.data = .dict es ep → H b = none := fun {b ob es ep} e d => clear e (fun vs n z => by rw [d] at z; cases z) fun z => by rw [d] at z; cases z
    have nsBase : ∀ {b : Addr} {m : Str → Option Value}, st.heap.Ns b m → (hidT st.heap H).Ns b m := fun {b m} ⟨ob, es, ep, e, d, rr⟩ => ⟨ob, es, ep, toBase e (dictFree e d), d, rr⟩
    have KB : K.In (hidT st.heap H) := fun b ob e => toBase (KX b ob e) (by
      cases z : H b with
      | none => rfl
      | some u =>
        rcases own b (by rw [z]; simp) with eb | eb
        · subst eb
          rw [notK (by rw [z]; simp)] at e
          cases e
        · obtain ⟨t, ht, et⟩ := List.mem_map.mp eb
          rw [← et, outK t ht] at e
          cases e)
    have modB : L2.Mod K mg (hidT st.heap H) := ⟨KB, nsBase nsG, ⟨mb, nsBase nsB, bB⟩, let ⟨mc, n1, n2⟩ := nl; ⟨mc, nsBase n1, n2⟩⟩
    have tbB : ∀ t ∈ tbs, TabB (hidT st.heap H) mg (He.codeOf K (t, none)) (tabP K t) := fun t ht => by
      have emT := emp t ht
      refine ⟨?_, ?_, fun z => ?_⟩
      · obtain ⟨o, fs, file, tf, flags, tg, inF, text, tt, g1, r1, r2, r3, r4, r5, r6, r7, r8, hne⟩ := hds t ht
        refine ⟨o, fs, file, tf, flags, tg, inF, text, tt, toBase g1 (clear g1 (fun vs n z => ?_) fun z => ?_), r1, r2, r3, r4, r5, r6, r7, r8, hne⟩
        · rw [r2] at z
          cases z
        · rw [r2] at z
          cases z
          simp at r3
      · obtain ⟨bm, ob, d1, d2, d3, d4, d5, d6⟩ := bmod
        have nG : bm ≠ mainGlobals := fun q => by
          obtain ⟨o, es, ep, e, hd, _⟩ := nsG
          rw [q, e] at d3
          cases d3
          rw [hd] at d6
          cases d6
        have nT : bm ≠ tabP K t := fun q => by
          rw [q, emT] at d3
          cases d3
          cases d6
        exact ⟨bm, ob, d1, d2, nG, nT, toBase d3 (clear d3 (fun vs n z => by rw [d6] at z; cases z) fun z => by rw [d6] at z; cases z), d4, d5, d6⟩
      · obtain ⟨o, es, ep, e, hd, _⟩ := nsG
        rw [z, emT] at e
        cases e
        cases hd
    have env : Env0 P w K mg (hidT st.heap H) callerA [] st H := ⟨rfl, modB, fun b ob e => of_hidT e, Nat.le_of_eq (hidT_size _ _), trivial, fun b hb => absurd (show b ∈ ([] : List Addr) from hb) (by simp), hHOk, .of_eq noG⟩
    have ok : Ok K ⟨fun i => tabP K (tbs.getD i ""), tbs.map Ob.tab, H, fun _ => False⟩ := by
      have lenS : (tbs.map Ob.tab).length = tbs.length := List.length_map ..
      have getDt : ∀ {i : Nat} (hi : i < tbs.length), tbs.getD i "" = tbs[i] := fun {i} hi => by
        rw [List.getD_eq_getElem?_getD, List.getElem?_eq_getElem hi]
        rfl
      refine ⟨fun _ z => z.elim, fun _ z => z.elim, fun i j hi hj e => ?_, fun i o hi => ?_⟩
      · have hi : i < (tbs.map Ob.tab).length := hi
        have hj : j < (tbs.map Ob.tab).length := hj
        rw [lenS] at hi hj
        have e : tabP K (tbs.getD i "") = tabP K (tbs.getD j "") := e
        rw [getDt hi, getDt hj] at e
        have e2 : (tbs.map (tabP K))[i]'(by simpa using hi) = (tbs.map (tabP K))[j]'(by simpa using hj) := by simpa using e
        exact (List.getElem_inj nd).mp e2
      · have hi : (tbs.map Ob.tab)[i]? = some o := hi
        rw [List.getElem?_map] at hi
        obtain ⟨t, h1, rfl⟩ := Option.map_eq_some_iff.mp hi
        have il : i < tbs.length := (List.getElem?_eq_some_iff.mp h1).1
        have et : tbs.getD i "" = t := by
          rw [List.getD_eq_getElem?_getD, h1]
          rfl
        show tabP K (tbs.getD i "") = tabP K t ∧ TabS H (tabP K (tbs.getD i "")) (lamQ t)
        rw [et]
        exact ⟨rfl, TabS.nil (hTab t (List.mem_of_getElem? h1))⟩
    have sp : spOf K 1 g [.ref cell] H (fun v _ => v = .bl true) (fun _ _ _ => False) := by
      refine ⟨_, tbs.map Ob.tab, fun _ => False, [cellsD ns], ok, .cons (.scr hq (reps_ints ns)) .nil, rfl, ?_⟩
      rw [law]
      intro ρ' H' _ _ v rv
      cases rv
      rfl
    refine codeAny_mono ((F _ KB (nsBase nsG) tbB).go callerA [] st H ⟨[.ref cell], []⟩ [.ref cell] [.ref cell] _ _ room env (bind1 st (.ref cell)) (.cons rfl .nil) sp) fun r s' hres => ?_
    cases r with
    | error er => exact (no_exc hres).elim
    | ok fl =>
      cases fl with
      | next => exact hres.elim
      | brk => exact hres.elim
      | cont => exact hres.elim
      | ret u =>
        obtain ⟨v, H', osE, bareE, unE, hok', rv, hv⟩ := hres
        have hv' : v = .bl true := hv
        subst hv'
        obtain rfl : u = Value.bool true := rv
        have stays : ∀ b ob, b ∉ tbs.map (tabP K) → st.heap.get? b = some ob → s'.heap.get? b = some ob := fun b ob nb e => by
          cases z : H b with
          | none => exact unE.keep b ob e z (by intro hb; exact absurd (show b ∈ ([] : List Addr) from hb) (by simp)) (by simp)
          | some u =>
            rcases only b with hn | hn | ⟨o2, ys, hf⟩
            · rw [z] at hn; cases hn
            · exact absurd hn nb
            · have hf2 := unE.frzs b o2 _ hf
              obtain ⟨g1, _⟩ := hHOk b _ hf
              obtain ⟨g2, _⟩ := hok' b _ hf2
              rw [e] at g1
              cases g1
              exact g2
        have grew : ∀ t ∈ tbs, ∃ more : Array Value, s'.heap.get? (tabP K t) = some { cls := .none, data := .fields more } := fun t ht => by
          obtain ⟨more, z⟩ := unE.tbls (tabP K t) #[] (hTab t ht)
          exact ⟨_, hok' (tabP K t) _ z⟩
        refine ⟨rfl, ⟨fun b ob e => ?_, fun b ob e => ?_⟩, osE, bareE⟩
        · by_cases hb : b ∈ tbs.map (tabP K)
          · obtain ⟨t, ht, et⟩ := List.mem_map.mp hb
            obtain ⟨more, hm⟩ := grew t ht
            rw [← et] at e ⊢
            rw [emp t ht] at e
            cases e
            exact .inr (.inl ⟨((hds t ht).tab (emp t ht)).isCodeTable, rfl, #[], more, rfl, by rw [Array.empty_append]; exact hm⟩)
          · exact .inl (stays b ob hb e)
        · by_cases hb : b ∈ tbs.map (tabP K)
          · obtain ⟨t, ht, et⟩ := List.mem_map.mp hb
            obtain ⟨more, hm⟩ := grew t ht
            rw [← et]
            exact ⟨_, hm⟩
          · exact ⟨ob, stays b ob hb e⟩
  cases inK : K.lookup cell with
  | some ob =>
    have e := KX cell ob inK
    rw [hcell] at e
    cases e
    refine go (fun b => if b ∈ tbs.map (tabP K) then some (.tbl #[]) else none) (fun t ht => if_pos (inT t ht)) (fun b => ?_) (.inr ⟨_, us.toArray, _, inK, rfl, rfl, rfl, by rw [List.size_toArray, lenU]; exact hlen, by simpa using vu⟩) (fun b u z => ?_) (fun b z => ?_) fun z => absurd (show (if cell ∈ tbs.map (tabP K) then some (HO.tbl #[]) else none) = none from if_neg cellT) z
    · by_cases hb : b ∈ tbs.map (tabP K)
      · exact .inr (.inl hb)
      · exact .inl (if_neg hb)
    · by_cases hb : b ∈ tbs.map (tabP K)
      · have z2 := (if_pos hb).symm.trans z
        cases z2
        exact isTab b hb
      · exact nomatch (if_neg hb).symm.trans z
    · by_cases hb : b ∈ tbs.map (tabP K)
      · exact .inr hb
      · exact absurd (if_neg hb) z
  | none =>
    refine go (fun b => if b = cell then some (.frz { cls := .type "list", data := .seq us.toArray } (.lst (ns.map V.int))) else if b ∈ tbs.map (tabP K) then some (.tbl #[]) else none) (fun t ht => (if_neg (show ¬ tabP K t = cell from fun z => cellT (by rw [← z]; exact inT t ht))).trans (if_pos (inT t ht))) (fun b => ?_)
      (.inl ⟨{ cls := .type "list", data := .seq us.toArray }, if_pos rfl⟩) (fun b u z => ?_) (fun b z => ?_) fun _ => inK
    · by_cases eb : b = cell
      · exact .inr (.inr ⟨_, _, if_pos eb⟩)
      · by_cases hb : b ∈ tbs.map (tabP K)
        · exact .inr (.inl hb)
        · exact .inl ((if_neg eb).trans (if_neg hb))
    · by_cases eb : b = cell
      · have z2 := (if_pos eb).symm.trans z
        cases z2
        subst eb
        exact ⟨hcell, by rw [List.length_map]; exact hlen, us, _, vu, hcell⟩
      · have z1 := (if_neg eb).symm.trans z
        by_cases hb : b ∈ tbs.map (tabP K)
        · have z2 := (if_pos hb).symm.trans z1
          cases z2
          exact isTab b hb
        · exact nomatch (if_neg hb).symm.trans z1
    · by_cases eb : b = cell
      · exact .inl eb
      · by_cases hb : b ∈ tbs.map (tabP K)
        · exact .inr hb
        · exact absurd ((if_neg eb).trans (if_neg hb)) z
/-- the goal that the head leaves -/
theorem walkGT {l : PySem.W.OpenLaw} {n k : Nat} {q : Program} {loose : List Str} {XP : (Str → Option Value) → Heap → Prop} {YP : World → Heap → Prop} {d : DefRec} {x : Str} {tbs : List Str} {g : List D → Store → R D}
    (hn : l.most = some n) (hn2 : n ≤ sizeLine) (hdf : d.params.defaults = []) (room : RoomG k callerA)
    (F : ∀ (w : World) (mg : Str → Option Value) (fA : Addr) (h : Heap), YP w h → h.Ns mainGlobals mg → mg d.name = some (.ref fA) →
      ∃ (K : Frag) (fd : FuncData), K.In h ∧ (∀ t ∈ tbs, h.get? (tabP K t) = some { cls := .none, data := .fields #[] }) ∧ (∀ t ∈ tbs, K.lookup (tabP K t) = none) ∧ (∀ t ∈ tbs, PySem.W.CodeHd h (He.codeOf K (t, none)) (tabP K t)) ∧ (tbs.map (tabP K)).Nodup ∧ (∀ (s : Shared) (u : Value), BindsTo s fd ⟨[u], []⟩ [(x, u)]) ∧
        ∀ base : Heap, K.In base → base.Ns mainGlobals mg → (∀ t ∈ tbs, TabB base mg (He.codeOf K (t, none)) (tabP K t)) → FnG l.prog w K mg base k fA fd [x] (spOf K 1 g))
    (law : ∀ ns : List Int, ns.length ≤ n → ∃ S, g [cellsD ns] (tbs.map Ob.tab) = .ok (.bl true) S) : PySem.W.WalkO q loose XP YP l.row.toRowW d [] (fun f vs => PySem.call f vs) := by
  refine Att.attach_call hn hdf fun w s0 s1 mg mb fA o pm cd doc a vs ns G Y ho hd hcd hmg hobj hints hlen hg => ?_
  obtain ⟨K, fd, KX, h1, h2, h3, h4, hb, hF⟩ := F w mg fA _ Y G.T.g hmg
  exact law_callGT KX G.T.g G.T.b G.T.builtins G.T.nolimit hg h1 h2 h3 h4 G.T.bmain hobj hints (Nat.le_trans hlen hn2) room hF hb (law ns hlen)
end HL
end
section
set_option Elab.async false
set_option linter.all false
set_option maxRecDepth 100000
set_option maxHeartbeats 2000000
/-! HX11: what the head looks at, part by part. -/
namespace HL
open PySem PySem.W PySem.Spec L2 HandSHeadRun
section
variable {r : OpenRow} {q : Program} {H : Hook} {ob : SharedT → H.α} {M : Nat} {loose : List PySem.Str} {w : World}
noncomputable abbrev endR (r : OpenRow) (M : Nat) (w : World) (os : OsState) : Option SharedT := endF (stepQ (denQ tabQ) r.prog w) M r.prog w os
noncomputable def look1 (r : OpenRow) (w : World) (s : SharedT) : Bool := looksF r.prog (boot_heap w.params) s.abs
noncomputable def look2 (r : OpenRow) (q : Program) (loose : List PySem.Str) (s : SharedT) := seenQ q loose (importedModules r.prog.main.body) (fun s => xlAt q [] s && recOk r.toRowW.records s) s.abs
abbrev good2 (q : Program) (loose : List PySem.Str) := openGood q loose
theorem run_split (h1 : ∀ os, (endR r M w os).map (look1 r w) = some true)
    (h2 : ∀ os, (endR r M w os).map (look2 r q loose) = some (good2 q loose)) (h3 : ∀ os, (endR r M w os).map ob = some (H.val w)) : RunEq r q H ob M loose w := by
  intro os
  have a := h1 os
  have b := h2 os
  have c := h3 os
  unfold endR at a b c
  cases e : endF (stepQ (denQ tabQ) r.prog w) M r.prog w os with
  | none => rw [e] at a; cases a
  | some s =>
    rw [e] at a b c
    have a' := Option.some.inj a
    have b' := Option.some.inj b
    have c' := Option.some.inj c
    exact congrArg some (Prod.ext a' (Prod.ext b' c'))
end
section
variable {fa : List He.Fa} {fn : List DefA} {pr : List (Str × Str)} {is : List Str} {xc : List XcD} {tk : List (Str × List Str × List Str)} {er : List (Str × Str)} {ne : List Str} {cm : List (Str × Str)} {file : Str} {ix : List Str} {bx : List BxD} {tbs : List Str} {r : OpenRow} {M : Nat} {w : World}
theorem ob_splitC (h1 : ∀ os, (endR r M w os).map (fun s => obsA fa fn pr is (frAllT (getT s))) = some (valA fn)) (h2 : ∀ os, (endR r M w os).map (fun s => obsX xc tk er ne cm file (frAllT (getT s))) = some (valX xc))
    (h3 : ∀ os, (endR r M w os).map (fun s => exC ix bx tbs (frAllT (getT s)) && He.tabsB (getT s) (tfOf tbs) (frAllT (getT s))) = some true) :
    ∀ os, (endR r M w os).map (obTC fa fn pr is xc tk er ne cm file ix bx tbs) = some ((hookC fa fn pr is xc tk er ne cm file ix bx tbs).val w) := by
  intro os
  have a := h1 os
  have b := h2 os
  have c := h3 os
  cases e : endR r M w os with
  | none => rw [e] at a; cases a
  | some s =>
    rw [e] at a b c
    have a' := Option.some.inj a
    have b' := Option.some.inj b
    have c' := Option.some.inj c
    exact congrArg some (Prod.ext (Prod.ext a' b') c')
theorem ob_split3 (n m : Nat) (h1 : ∀ os, (endR r M w os).map (fun s => (fa.take n).all fun f => f.ok (frAllT (getT s))) = some true) (h2 : ∀ os, (endR r M w os).map (fun s => (fa.drop n).all fun f => f.ok (frAllT (getT s))) = some true)
    (h3 : ∀ os, (endR r M w os).map (fun s => (fn.all fun d => d.ok (frAllT (getT s))) && ((pr.all fun x => prB (frAllT (getT s)) x) && is.all fun x => isB (frAllT (getT s)) x)) = some true)
    (h4 : ∀ os, (endR r M w os).map (fun s => (fn.take m).map fun d => fnA (frAllT (getT s)) (d.at_ (frAllT (getT s)))) = some ((fn.take m).map DefA.val)) (h5 : ∀ os, (endR r M w os).map (fun s => (fn.drop m).map fun d => fnA (frAllT (getT s)) (d.at_ (frAllT (getT s)))) = some ((fn.drop m).map DefA.val)) :
    ∀ os, (endR r M w os).map (fun s => obsA fa fn pr is (frAllT (getT s))) = some (valA fn) := by
  intro os
  have a := h1 os
  have b := h2 os
  have c := h3 os
  have d := h4 os
  have e := h5 os
  cases q : endR r M w os with
  | none => rw [q] at a; cases a
  | some s =>
    rw [q] at a b c d e
    have a' := Option.some.inj a
    have b' := Option.some.inj b
    have c' := Option.some.inj c
    have d' := Option.some.inj d
    have e' := Option.some.inj e
    dsimp only at a' b' c' d' e'
    have f1 : (fa.all fun f => f.ok (frAllT (getT s))) = true := by
      rw [← List.take_append_drop n fa, List.all_append, a', b']
      rfl
    have f2 : (fn.map fun d => fnA (frAllT (getT s)) (d.at_ (frAllT (getT s)))) = fn.map DefA.val := by
      rw [← List.take_append_drop m fn, List.map_append, List.map_append, d', e']
    refine congrArg some (Prod.ext ?_ f2)
    show ((fa.all fun f => f.ok (frAllT (getT s))) && ((fn.all fun d => d.ok (frAllT (getT s))) && ((pr.all fun x => prB (frAllT (getT s)) x) && is.all fun x => isB (frAllT (getT s)) x))) = true
    rw [f1, c']
    rfl
theorem ob_split2 (m : Nat) (h1 : ∀ os, (endR r M w os).map (fun s => (fn.take m).all fun d => d.ok (frAllT (getT s))) = some true) (h2 : ∀ os, (endR r M w os).map (fun s => (fn.drop m).all fun d => d.ok (frAllT (getT s))) = some true)
    (h3 : ∀ os, (endR r M w os).map (fun s => (pr.all fun x => prB (frAllT (getT s)) x) && is.all fun x => isB (frAllT (getT s)) x) = some true) :
    ∀ os, (endR r M w os).map (fun s => (fn.all fun d => d.ok (frAllT (getT s))) && ((pr.all fun x => prB (frAllT (getT s)) x) && is.all fun x => isB (frAllT (getT s)) x)) = some true := by
  intro os
  have a := h1 os
  have b := h2 os
  have c := h3 os
  cases q : endR r M w os with
  | none => rw [q] at a; cases a
  | some s =>
    rw [q] at a b c
    have a' := Option.some.inj a
    have b' := Option.some.inj b
    have c' := Option.some.inj c
    dsimp only at a' b' c'
    refine congrArg some ?_
    show ((fn.all fun d => d.ok (frAllT (getT s))) && ((pr.all fun x => prB (frAllT (getT s)) x) && is.all fun x => isB (frAllT (getT s)) x)) = true
    rw [← List.take_append_drop m fn, List.all_append, a', b', c']
    rfl
end
end HL
end
section
set_option Elab.async false
set_option linter.all false
set_option maxRecDepth 100000
set_option maxHeartbeats 2000000
/-! HX12: t * k, t a tuple. -/
namespace L2
open PySem PySem.Spec PyProof.Rows
theorem tuple_mul1 (l : Addr) (items : Array Value) (n : Nat) (dd : Option Addr) (sl : Array (Option Value)) (u : Tok) :
    Meets (Builtin.«tuple.__mul__» ⟨[.ref l, .int 1 u], []⟩) (fun _ R s => s.heap.get? l = some { cls := .type "tuple", dict := dd, data := .seq items n, slots := sl } ∧ R (.ok (.ret (Value.ref l))) s) :=
  .of_wp fun prog w A R s h => by
    obtain ⟨hp, g, d, tk, os⟩ := s
    obtain ⟨hl, h⟩ := h
    have f1 := AutoSeq1.idx_int
    wp_walk using wpAny_loadPart' hl
    exact ⟨_, rfl, h⟩
def rRepT1 (K : PySem.W.Frag) : R2 := fun x y H Q => ∃ l xs, x = .ref l ∧ y = .int 1 ∧ SqT K H l xs ∧ Q (.ref l) H
theorem op_repT1 {X : Cx} : OpR X (binaryOp .Mult) (rRepT1 X.K) := by
  intro pins s σ H x y v u Q I rx ry h
  obtain ⟨l, xs, rfl, rfl, hT, q⟩ := h
  cases rx
  obtain ⟨t, rfl⟩ := ry
  obtain ⟨its, r, ⟨⟨cls, dd, data, sl⟩, ho, hc, n, hd⟩, hs⟩ := I.tuple hT
  simp only at hc hd
  subst hc hd
  refine wpAny_binaryOp_repeat_ref (T := "tuple") (U := "int") (by decide) ⟨_, ho, rfl⟩ (fun s' => typeIs_int s' 1 t) noFill_tuple_mul F.fills_int_mul F.slot_int_rmul repeat_tuple F.slot_int_index.lookup
    (call_meets F.slot_int_rmul (typeIs_int s 1 t) F.entry_int_rmul (F.args_int_rmul_2 _ _) (int_rmul_tuple 1 t l its.toArray n dd sl)
      ⟨ho, rfl, ⟨_, ho, rfl⟩, call_meets F.slot_tuple_mul ⟨_, ho, rfl⟩ F.entry_tuple_mul (F.args_tuple_mul_2 _ _) (tuple_mul1 l its.toArray n dd sl t) ⟨ho, .ref l, H, I.tok _, rfl, q⟩⟩)
end L2
namespace HL
open PySem PySem.Spec L2
/-- t * k -/
def pMulT (d e : D) (_ : Store) : Option D := match d, e with
  | .tup xs, .int k => if k = 1 then some (.tup xs) else if xs ≠ [] ∧ 2 ≤ k ∧ k ≤ 1000 ∧ xs.length ≤ 1000 then some (.tup (List.replicate k.toNat xs).flatten) else none
  | _, _ => none
theorem op_pMulT {X : Cx} : OpD X (binaryOp .Mult) pMulT := by
  intro pins s σ H x y v u Q I rx ry ⟨ρ, S, B, d, e, r, ok, rd, re, hp, k⟩
  unfold pMulT at hp
  split at hp
  · rename_i xs j
    cases rd with
    | tup h1 q1 => cases re with
      | int _ =>
        by_cases c : j = 1
        · rw [if_pos c] at hp
          cases hp
          subst c
          exact op_repT1 pins s σ H _ _ v u Q I rx ry ⟨_, _, rfl, rfl, h1, k _ _ (Same.refl H) (.tup h1 q1)⟩
        · rw [if_neg c] at hp
          split at hp
          · rename_i hz
            cases hp
            refine op_repT pins s σ H _ _ v u Q I rx ry ⟨_, _, _, rfl, rfl, h1, ?_, hz.2.1, hz.2.2.1, by rw [← q1.length]; exact hz.2.2.2, fun p hp => ?_⟩
            · rintro rfl
              have := q1.length
              exact hz.1 (List.eq_nil_of_length_eq_zero (by simpa using this))
            · obtain ⟨sm, z⟩ := new_tup ok hp (q1.flat _)
              exact k _ _ sm z
          · cases hp
  · cases hp
end HL
end
section
set_option Elab.async false
set_option linter.all false
set_option maxRecDepth 100000
set_option maxHeartbeats 2000000
/-! HX13: xs == [] where xs holds things that are not compared. -/
namespace HL
open PySem PySem.Spec L2 PyProof.Rows
theorem isLp {h : Heap} {a : Addr} {its : Array Value} (p : PlainL h a its) : h.IsList a its :=
  let ⟨o, n, e, c, _, d⟩ := p; ⟨o, e, c, n, d⟩
/-- [..] == [] -/
def pEqL (d e : D) (S : Store) : Option D := match d, e with
  | .lst (x :: xs), .lst [] => some (.bl false)
  | d, e => pEq d e S
theorem pEqL_cons (x : D) (xs : List D) (S : Store) : pEqL (.lst (x :: xs)) (.lst []) S = some (.bl false) := id rfl
theorem pEqL_nil (S : Store) : pEqL (.lst []) (.lst []) S = some (.bl true) := id rfl
theorem op_pEqL {X : Cx} (hu : X.A.units + 64 < cLine) : OpD X (compareOp .Eq) pEqL := by
  intro pins s σ H x y v u Q I rx ry ⟨ρ, S, B, d, e, r, ok, rd, re, hp, k⟩
  unfold pEqL at hp
  split at hp
  · cases hp
    cases rd with
    | lst h1 q1 => cases re with
      | lst h2 q2 =>
        cases rx
        cases ry
        obtain ⟨its1, v1, p1, _⟩ := I.list (.inl (.inl h1.1))
        obtain ⟨its2, v2, p2, _⟩ := I.list (.inl (.inl h2.1))
        have l1 := q1.length
        have l2 := q2.length
        have m1 := v1.length
        have m2 := v2.length
        refine SeqAt.eq_list_lengthsAt (isLp p1) (isLp p2) ?_ (by omega) (fin_bl I (k _ _ (Same.refl H) (.bl _)) rfl)
        simp at l1 l2 ⊢
        omega
  · exact op_pEq hu pins s σ H x y v u Q I rx ry ⟨ρ, S, B, d, e, r, ok, rd, re, hp, k⟩
end HL
end
section
set_option Elab.async false
set_option linter.all false
set_option maxRecDepth 100000
set_option maxHeartbeats 2000000
/-! HX14: a class called by place and by names. -/
namespace HL
open PySem PySem.Spec L2
section
variable {X : Cx} {Wx : WX} {k j n : Nat} {x qual : Str} {st : Stmt} {f : Addr} {ps : List Str} {g : List D → Store → R D} {C : Str} {e : Expr} {es : List Expr} {fa : L → Store → R (List D)}
noncomputable def eMakeX (tr : Bool) (C : Str) (n a b : Nat) (ix : List Nat) (g : List D → Store → R D) (fa fk : L → Store → R (List D)) : L → Store → R D := fun l S => (fa l S).bind fun ds S0 => (fk l S0).bind fun es S1 => if ds.length = a ∧ es.length = b then (if (gIx ix (ds ++ es)).length + 1 = n then (g (.loc S1.length :: gIx ix (ds ++ es)) (S1 ++ [.ins C [] []])).bind fun r S2 => (match r with
    | .non => fin tr S1 (.loc S1.length) S2
    | _ => .bad)
  else .bad) else .bad
variable {p pos : Pos}
theorem fe_makeX {tr : Bool} (a b : Nat) (ix : List Nat) {ks : List Str} {kws : List Keyword} {fk : L → Store → R (List D)} (h : Kn X.prog X.w X.K X.mg X.base qual x st (He.ma X.K (He.ga X.K C) "__init__") ps j n g) (c : Fit X Wx k) (M : Mk X.K (He.ga X.K C) (He.ma X.K (He.ga X.K C) "__init__")) (hm : X.mg C = some (.ref (He.ga X.K C))) (hg : Gl X C) (ha : FA X Wx (e :: es) fa) (hk : FK X Wx kws fk)
    (hbk : ∀ (kV doc pm : Value) (an : Option Addr) (cdv ct : Value) (self : Value) (us ws : List Value), us.length = a → ws.length = b → bindArgs (PySem.W.fnOf x qual (defArgs st) (defBody st) (defScope st) .none kV doc pm an cdv ct) ⟨self :: us, ks.zip ws⟩ = pure (ps.zip (self :: gIx ix (us ++ ws))))
    (hj : j + 1 ≤ k := by decide) (hall : (backToKw pos (keywordEach kws X.env)).all (·.1.isSome) = true := by rfl) (hks : (backToKw pos (keywordEach kws X.env)).filterMap (·.1) = ks := by rfl)
    (hdb : (C == ("__debug__" : Str)) = false := by decide) (he : starEach (e :: es) X.env = (false, eval e X.env) :: starEach es X.env := by rfl)
    (hpl : ((backTo pos (starEach (e :: es) X.env)).any (·.1) || (backToKw pos (keywordEach kws X.env)).any (·.1.isNone)) = false := by rfl) : FE X Wx (.Call (.Name C p) (e :: es) kws pos) (eMakeX tr C n a b ix g fa fk) := by
  obtain ⟨fd, F, G, _⟩ := h
  refine ⟨fun pins s σ H Q I ⟨ρ, S, B, l, ok, sl, h⟩ => ?_⟩
  refine wpAny_Call_Name_kw (ld_glob I hg hm ?_ hdb)
  refine PySem.W.callWith_KW (h₀ := X.base) I.ok.mod.kin M.kp hall (thn (ha.run pos pins s σ H (fun vs H0 => tL X.K Wx fk σ H0 fun zs H1 => vs.length = a ∧ zs.length = b ∧ ∀ y dx, H1 y = none → H1 dx = none → dx ≠ y → spOf X.K n g (.ref y :: gIx ix (vs ++ zs)) (upd (upd H1 dx (.own y)) y (.ins (He.ga X.K C) dx [])) (fun v H2 => v = .non ∧ Q (.ref y) H2) (WE Wx σ)) I
    ⟨ρ, S, B, l, ok, sl, h.bind.mono fun W0 ds e0 o0 ⟨_, _, h0⟩ vs rv0 => ?_⟩) fun us s0 ⟨vs, H0, I0, r0, q0⟩ => ?_) hpl he
  · have eB : W0.B = B := e0.B
    obtain ⟨ρ0, S0, H0, B0⟩ := W0
    cases eB
    refine ⟨ρ0, S0, B0, l, o0, sl.ext e0 ok, h0.bind.mono fun W1 es e1 o1 ⟨_, _, h1⟩ zs rzs => ?_⟩
    obtain ⟨hb0, h1⟩ := Post.iff_ok h1
    refine ⟨by rw [← rv0.length]; exact hb0.1, by rw [← rzs.length]; exact hb0.2, fun a' dx ha hdx hne => ?_⟩
    obtain ⟨hc, h1⟩ := Post.iff_ok h1
    have rvs := gIx_reps ((rv0.ext e1 o0).append rzs) ix
    obtain ⟨e2, o2⟩ := made_ok (C := C) o1 ha hdx hne
    refine ⟨_, _, _, .loc W1.S.length :: gIx ix (ds ++ es), o2, .cons ?_ (rvs.ext e2 o1), hc, ?_⟩
    · have q : Rep X.K ⟨fun i => if i = W1.S.length then a' else W1.ρ i, W1.S ++ [.ins C [] []], upd (upd W1.H dx (.own a')) a' (.ins (He.ga X.K C) dx []), W1.B⟩ (.loc W1.S.length) (.ref ((⟨fun i => if i = W1.S.length then a' else W1.ρ i, W1.S ++ [.ins C [] []], upd (upd W1.H dx (.own a')) a' (.ins (He.ga X.K C) dx []), W1.B⟩ : Wd).ρ W1.S.length)) :=
        Rep.loc (K := X.K) (W := ⟨fun i => if i = W1.S.length then a' else W1.ρ i, W1.S ++ [.ins C [] []], upd (upd W1.H dx (.own a')) a' (.ins (He.ga X.K C) dx []), W1.B⟩) (n := W1.S.length) (by simp)
      simpa using q
    · cases hq : g (.loc W1.S.length :: gIx ix (ds ++ es)) (W1.S ++ [.ins C [] []]) with
      | bad => rw [hq] at h1; exact h1.elim
      | exc x S2 =>
        rw [hq] at h1
        exact fun ρ' H' cls d e3 o3 rx => h1 ρ' H' cls d (e2.trans e3) o3 rx
      | ok r S2 =>
        rw [hq] at h1
        intro ρ' H' e3 o3 v rv
        cases rv with
        | non =>
          refine ⟨rfl, fin_ok (E := WE Wx σ) o1 h1.at (e2.trans e3) o3 ?_⟩
          have hlt : W1.S.length < S2.length := by
            have := e3.len
            simp at this
            omega
          have hr : ρ' W1.S.length = a' := by
            have := e3.rho W1.S.length (by simp)
            simpa using this
          rw [← hr]
          exact Rep.loc (K := X.K) (W := ⟨ρ', S2, H', W1.B⟩) hlt
        | _ => exact h1.elim
  · refine thn (hk.run pos pins s0 σ H0 _ I0 q0) fun ws s1 ⟨zs, H1, I1, rz, la, lb, q⟩ => ⟨I1.kIn, ?_⟩
    have I2 := Inv.made (C := He.ga X.K C) I1
    have hq := q (s1.heap.objs.size + 1) s1.heap.objs.size (I1.hok.fresh (Nat.le_succ _)) (I1.hok.fresh (Nat.le_refl _)) (Nat.ne_of_lt (Nat.lt_succ_self _))
    have r2 : Vals (V.ref (s1.heap.objs.size + 1) :: gIx ix (vs ++ zs)) (Value.ref (s1.heap.objs.size + 1) :: gIx ix (us ++ ws)) := .cons rfl (gIx_vals (r0.append rz) ix)
    have hbt : BindsTo { s1 with heap := (s1.heap.push PySem.W.emptyDict).push (PySem.W.instObj (He.ga X.K C) s1.heap.objs.size) } fd ⟨Value.ref (s1.heap.objs.size + 1) :: us, ks.zip ws⟩ (ps.zip (Value.ref (s1.heap.objs.size + 1) :: gIx ix (us ++ ws))) := by
      obtain ⟨oc, od, dV, kV, doc, pm, an, cdv, ct, osl, rfl, lk, hcd, hD, hK⟩ := F.ex
      rcases hD with ⟨_, rfl⟩ | ⟨e, _⟩
      · exact .of_eq (hbk kV doc pm an cdv ct _ us ws (by rw [← r0.length]; exact la) (by rw [← rz.length]; exact lb))
      · exact absurd rfl e
    rw [hks]
    refine wpAny_call (make_map (f := He.ma X.K (He.ga X.K C) "__init__") I1.kIn M.makes M.init (beq_iff_eq.mp M.fn) (codeAny_mono (G.go _ X.stack _ _ ⟨Value.ref (s1.heap.objs.size + 1) :: us, ks.zip ws⟩ (Value.ref (s1.heap.objs.size + 1) :: gIx ix (us ++ ws)) _ _ (WE Wx σ) ((c.rm.mono hj).make (He.ga X.K C) us (ks.zip ws))
      (I2.env0.make (He.ga X.K C) us (ks.zip ws)) hbt r2 hq) fun r s' hq' => ?_))
    cases r with
    | error er => exact passAt c.tk σ pins _ _ er s' I2 hq'
    | ok fl =>
      cases fl with
      | ret u =>
        obtain ⟨v, H', I3, rv, ev, q3⟩ := I2.after hq'
        subst ev
        exact ⟨rv, ⟨V.ref (s1.heap.objs.size + 1), H', I3, rfl, q3⟩⟩
      | next => exact hq'.elim
      | brk => exact hq'.elim
      | cont => exact hq'.elim
end
end HL
end
section
set_option Elab.async false
set_option linter.all false
set_option maxRecDepth 100000
set_option maxHeartbeats 2000000
/-! HX15: raise C() of a class without an __init__ of its own. -/
namespace L2
open PySem PySem.Spec PyProof.Rows
section
variable {X : Cx} {C : Addr} {bmB : List Value} {B newId initId : String}
theorem pmk_own0 {x : Str} {p pos : Pos} (F : ExcBaseFacts B newId initId bmB) (q : PySem.W.excIn X.K C bmB newId = true) (gC : X.mg x = some (.ref C)) (kC : PySem.W.keepIn X.K (.ref C) = true) (r : Raises X (.ref C)) (hg : Gl X x)
    (hdb : (x == ("__debug__" : Str)) = false := by decide) : PMk X (.Call (.Name x p) [] [] pos) (fun _ H Q => Q (.ref C) none H) := by
  intro pins s σ H Q I h
  refine wpAny_Call_Name_kw (ld_glob I hg gC ?_ hdb)
  refine PySem.W.callWith_K0 I.kIn kC ?_
  show wpAny _ _ (call (.ref C) []) _ _ _
  obtain ⟨bm, N, nm, qn, bs, hdct, sn, sub, ab, col, dd, k0, k1, k2, k3, k5, mN, hC, hN, hni, T⟩ := exc_obj I.kIn q
  refine wpAny_call_exc_subT F T hC hN hni (fun h' e hm => ?_) (Nat.zero_le _)
  exact mk_of I hm r h (I.hok.gone hm.new)
end
end L2
namespace HL
open PySem PySem.Spec L2
/-- raise C() -/
def sRaise0 (C : Str) : L → Store → Fl := fun l S => .exc ⟨C, [], []⟩ l S
@[simp] theorem sRaise0_ap (C : Str) l S : sRaise0 C l S = .exc ⟨C, [], []⟩ l S := id rfl
section
variable {X : Cx} {Wx : WX} {C : Str}
theorem fs_raise0 {p pos pos2 : Pos} (hc : X.calm = true) (hb : bareB X.K C = true) (hm : X.mg C = some (.ref (He.ga X.K C))) (tk : Takes X Wx) (hg : Gl X C) (hdb : (C == ("__debug__" : Str)) = false := by decide) :
    FS X Wx (.Raise (some (.Call (.Name C p) [] [] pos)) none pos2) (sRaise0 C) := by
  obtain ⟨_, hb⟩ := He.ba hb
  obtain ⟨b1, hb⟩ := He.ba hb
  obtain ⟨b2, hb⟩ := He.ba hb
  obtain ⟨b3, b4⟩ := He.ba hb
  refine PS.imp (ps_raise hc tk (pmk_own0 F.excBase_ArithmeticError b1 hm b2 (raises_own (of_decide_eq_true b3) (of_decide_eq_true b4)) hg hdb)) fun D σ H h => ?_
  obtain ⟨ρ, S, B, l, ok, sl, h⟩ := h
  have h2 : ∀ ρ' H' σ' cls d, Ext ⟨ρ, S, H, B⟩ ⟨ρ', S, H', B⟩ → Ok X.K ⟨ρ', S, H', B⟩ → Sl X.K ⟨ρ', S, H', B⟩ σ' l → RepX X.K ⟨ρ', S, H', B⟩ ⟨C, [], []⟩ cls d → Wx cls d σ' H' := h
  exact h2 ρ H σ _ none (Ext.refl _) ok sl ⟨rfl, .inl ⟨rfl, rfl, rfl⟩⟩
end
end HL
end
section
set_option Elab.async false
set_option linter.all false
set_option maxRecDepth 100000
set_option maxHeartbeats 2000000
/-! HX25: an own class of errors called by names (raw). -/
namespace PySem
namespace ExX
open PySem.W PySem.Calls PyProof.Rows PySem.HandSPX Builtin Builtin.ObjectAttr
section
variable {M : Model} {prog : Program} {w : World} {A : Around} {E : Value → Shared → Prop} {R : Result → Shared → Prop} {h : Heap} {g : Array GenState} {d : Drawn} {t : Nat} {os : OsState}
variable {nm q : Str} {C N : Addr} {bs bm bmB : List Value} {hdct : Bool} {sn : List Str} {sub : List Value} {ab : Bool} {col : Option Bool} {dd : Option Addr} {k0 k1 k2 k3 k5 : Option Value} {B newId initId : String} {kw : List (Str × Value)}
theorem chk_newK (F : ExcBaseFacts B newId initId bmB) (hT : ∀ X : String, bm.contains (.type X) = bmB.contains (.type X)) {Q : Unit → Shared → Prop}
    (hC : h.get? C = some (excClassObj nm q C N bs bm hdct sn sub ab col dd k0 k1 k2 k3 k5 newId)) (hq : Q () ⟨h, g, d, t, os⟩) : wpAny M A (checkBuiltinCall newId ⟨[.ref C], kw⟩) Q E ⟨h, g, d, t, os⟩ := by
  have hB : (Value.ref C :: bm).contains (.type B) = true := by rw [List.contains_cons, hT, F.hasB, Bool.or_true]
  have hs := F.noStar
  simp only [checkBuiltinCall, F.newKind, F.newSplit, F.newRow]
  repeat (first | refine wpAny_loadPart_at hC ?_ | (refine wpAny_isSubtype_exc hC ?_; rw [hB]) | refine wpAny_staticBase_exc hC ?_ | refine wpAny_madeBy_exc hC ?_ | simp only [bne_self_eq_false, Bool.false_eq_true, if_false] | wp_step)
  exact hq
theorem own_newK (F : ExcBaseFacts B newId initId bmB) (hT : ∀ X : String, bm.contains (.type X) = bmB.contains (.type X))
    (hC : h.get? C = some (excClassObj nm q C N bs bm hdct sn sub ab col dd k0 k1 k2 k3 k5 newId))
    (hq : R (.ok (.ret (.ref (h.objs.size + 1)))) ⟨(h.push (W.kdv_tup [])).push (excO C h.objs.size), g, d, t, os⟩) :
    codeAny (model prog w) A (.builtin newId ⟨[.ref C], kw⟩) R ⟨h, g, d, t, os⟩ := by
  have hz := F.ends
  have h1 : (Value.ref C :: bm).contains (.type B) = true := by rw [List.contains_cons, hT, F.hasB, Bool.or_true]
  have h2 : (Value.ref C :: bm).contains (.type "AttributeError") = false := by rw [List.contains_cons, hT, F.noAttr]; rfl
  have h3 : (Value.ref C :: bm).contains (.type "NameError") = false := by rw [List.contains_cons, hT, F.noName]; rfl
  have hrest : ([] : List Value).length ≤ sizeLine := Nat.zero_le _
  refine codeAny_builtinAt F.entry ?_
  unfold Builtin.«BaseException.__new__»
  refine wpAt_bind ?_
  show wpAt _ _ _ (stack >>= _) _ _ _
  refine wpAt_bind (wpAt_stack fun p below => wpAt_of_wpAny ?_)
  wp_walk
  refine wpAt_of_wpAny ?_
  rw [F.owner]
  repeat (first | with_reducible refine wpAny_madeHere_exc F.canon hC ?_ | with_reducible refine wpAny_loadPart_at hC ?_ | (with_reducible refine wpAny_isSubtype_exc hC ?_; first | rw [h1] | rw [h2] | rw [h3]) | wp_step)
  show R _ _
  rw [Heap.size_push]
  exact hq
theorem type_callK (F : ExcBaseFacts B newId initId bmB) (hT : ∀ X : String, bm.contains (.type X) = bmB.contains (.type X)) {fI : Addr} {Q : Fin → Shared → Prop}
    (hC : h.get? C = some (excClassObj nm q C N bs bm hdct sn sub ab col dd k0 k1 k2 k3 k5 newId))
    (hi : W.Looks (model prog w) h (typeLookup (.ref C) "__init__") (some (.ref fI))) (hb : ∀ self, W.Looks (model prog w) h (bindSpecial (.ref fI) self) (.ref fI, [self]))
    (hq : codeAny (model prog w) A (.call (.ref fI) ⟨[.ref (h.objs.size + 1)], kw⟩)
      (fun r s' => match r with | .ok (.ret v) => v = .none ∧ Q (.done (.ret (.ref (h.objs.size + 1)))) s' | .ok _ => False | .error e => E e s')
      ⟨(h.push (W.kdv_tup [])).push (excO C h.objs.size), g, d, t, os⟩) :
    wpAny (model prog w) A (Builtin.«type.__call__» ⟨[.ref C], kw⟩) Q E ⟨h, g, d, t, os⟩ := by
  repeat (first | with_reducible refine wpAny_loadPart_at hC ?_ | with_reducible refine wpAny_madeBy_exc hC ?_ | wp_step)
  refine codeAny_call_builtin_code (Code.quiet_builtin _ F.quiet) (chk_newK F hT hC ?_)
  refine own_newK F hT hC ?_
  show wpAny _ _ _ _ _ _
  have k : ∀ b o, h.get? b = some o → ((h.push (W.kdv_tup [])).push (excO C h.objs.size)).get? b = some o := fun b o e => Heap.get?_push_of_some _ (Heap.get?_push_of_some _ e)
  have hC₁ := k _ _ hC
  have hg : ((h.push (W.kdv_tup [])).push (excO C h.objs.size)).get? (h.objs.size + 1) = some (excO C h.objs.size) := by heap_get
  have hc : (Value.ref C :: bm).contains (.ref C) = true := by simp
  have i1 := hi.keeps k
  have b1 := (hb (.ref (h.objs.size + 1))).keeps k
  unfold isInstance
  repeat (first | with_reducible refine wpAny_loadPart_at hg ?_ | (with_reducible refine wpAny_isSubtype_exc hC₁ ?_; rw [hc]) | wp_step)
  show wpAny _ _ (typeLookup (.ref C) _) _ _ _
  refine i1.at ?_
  refine wpAny_holding (wpAny_bind (b1.at ?_))
  refine wpAny_bind (wpAny_call (codeAny_mono hq fun r s' z => ?_))
  rcases r with e | (v | _ | _ | _) <;> first | exact z | exact z.elim | skip
  obtain ⟨rfl, z⟩ := z
  first
    | exact wpAny_pure (wpAny_pure z)
    | (wp_walk; exact z)
theorem call_ownK (F : ExcBaseFacts B newId initId bmB) (hT : ∀ X : String, bm.contains (.type X) = bmB.contains (.type X)) {fI : Addr}
    (hC : h.get? C = some (excClassObj nm q C N bs bm hdct sn sub ab col dd k0 k1 k2 k3 k5 newId))
    (hi : W.Looks (model prog w) h (typeLookup (.ref C) "__init__") (some (.ref fI))) (hb : ∀ self, W.Looks (model prog w) h (bindSpecial (.ref fI) self) (.ref fI, [self]))
    (hq : codeAny (model prog w) (A.under (.builtin "type.__call__" ⟨[.ref C], kw⟩)) (.call (.ref fI) ⟨[.ref (h.objs.size + 1)], kw⟩) (W.InitBack (h.objs.size + 1) R)
      ⟨(h.push (W.kdv_tup [])).push (excO C h.objs.size), g, d, t, os⟩) :
    codeAny (model prog w) A (.call (.ref C) ⟨[], kw⟩) R ⟨h, g, d, t, os⟩ := by
  have f1 := tc_lookup
  have f2 := tc_bind (.ref C)
  have hTy : (⟨h, g, d, t, os⟩ : Shared).TypeIs (.ref C) "type" := ⟨_, hC, rfl⟩
  refine codeAny_of_tree ?_
  show wpAny _ _ (callAny (.ref C) _) _ _ _
  repeat (any_goals (first | assumption | with_reducible refine wpAny_loadPart_at hC ?_ | wp_step))
  refine ⟨rfl, ?_⟩
  refine codeAny_call_builtin_at (Code.quiet_builtin _ (by decide +kernel)) entry_typeCall (wpAny_check_type_call_sub hC (type_callK F hT hC hi hb ?_))
  refine codeAny_mono hq fun r s' z => ?_
  rcases r with e | (v | _ | _ | _) <;> exact z
end
section
variable {prog : Program} {w : World} {A : Around} {E : Value → Shared → Prop} {R : Result → Shared → Prop} {s : Shared} {K : Frag} {mg mb : Str → Option Value} {nm f : Str} {C fI : Addr}
theorem x_madeK (T : XTxt prog K mg nm f C fI) (TP : TopX prog mg) {v : Value} (X : K.In s.heap) (hg : s.heap.Ns mainGlobals mg) (hb : s.heap.Ns builtinsNs mb) (hbs : mb "super" = some (.type "super")) (hlim : s.heap.NoLimit) (hroom : A.depth + 1 < recursionLimit)
    (hq : ∀ h' tk e d, OwnMade s.heap h' f e C d v → R (.ok (.ret (.ref e))) { s with heap := h', toks := tk }) :
    codeAny (model prog w) A (.call (.ref C) ⟨[], [(f, v)]⟩) R s := by
  obtain ⟨B, newId, initId, bmB, n, cq, N, bs, bm, sn, sub, ab, col, dd, k0, k1, k2, k3, k5, hC, FB, KF, hT, hps, hobj, hal, hsB, hsC⟩ := T.cls
  obtain ⟨hp, g, dr, tk, os⟩ := s
  have k : ∀ b o, hp.get? b = some o → ((hp.push (kdv_tup [])).push (excO C hp.objs.size)).get? b = some o := fun b o e => Heap.get?_push_of_some _ (Heap.get?_push_of_some _ e)
  have hget : ((hp.push (kdv_tup [])).push (excO C hp.objs.size)).get? (hp.objs.size + 1) = some (excO C hp.objs.size) := by heap_get
  have hnx : K.lookup (hp.objs.size + 1) = none := by
    cases e : K.lookup (hp.objs.size + 1) with
    | none => rfl
    | some o =>
      have z : hp.get? (hp.objs.size + 1) = some o := X _ _ e
      exact absurd (Nat.lt_of_succ_lt (Heap.lt_size z)) (Nat.lt_irrefl _)
  refine call_ownK FB hT (X _ _ hC) (looks_findIn X T.iC) (fun self => bind_fn X self T.tC) ?_
  refine x_init (s := ⟨(hp.push (kdv_tup [])).push (excO C hp.objs.size), g, dr, tk, os⟩) T TP (.inr rfl) (X.keeps k) (hg.keeps k) (hb.keeps k) hbs (hlim.keeps k) hget hnx ?_ fun h' tk' dx t1 ⟨k', hx, dn, dne, hns⟩ => ?_
  · show A.depth + 1 < recursionLimit
    exact hroom
  · have old : ∀ b o, hp.get? b = some o → h'.get? b = some o := fun b o e => k' b o (Nat.ne_of_lt (Nat.lt_succ_of_lt (Heap.lt_size e))) (k b o e)
    have z : hp.objs.size + 1 + 1 ≤ dx := by
      first
        | (simpa only [Heap.size_push] using dn)
        | exact dn
        | (have q := dn; rw [Heap.size_push, Heap.size_push] at q; exact q)
    exact ⟨rfl, hq h' tk' (hp.objs.size + 1) dx ⟨old, Nat.le_succ _, ⟨_, _, hx, rfl, rfl, rfl, rfl⟩, Nat.le_trans (Nat.le_trans (Nat.le_succ _) (Nat.le_succ _)) z, dne, hns⟩⟩
theorem x_made2K (T : XTxt2 prog K mg nm C fI) (TP : TopX prog mg) {v v2 : Value} (X : K.In s.heap) (hg : s.heap.Ns mainGlobals mg) (hb : s.heap.Ns builtinsNs mb) (hbs : mb "super" = some (.type "super")) (hlim : s.heap.NoLimit) (hroom : A.depth + 1 < recursionLimit)
    (hq : ∀ h' tk e d, OwnMade2 s.heap h' e C d v v2 → R (.ok (.ret (.ref e))) { s with heap := h', toks := tk }) :
    codeAny (model prog w) A (.call (.ref C) ⟨[], [("shown", v2), ("index", v)]⟩) R s := by
  obtain ⟨B, newId, initId, bmB, n, cq, N, bs, bm, sn, sub, ab, col, dd, k0, k1, k2, k3, k5, hC, FB, KF, hT, hps, hobj, hal, hsB, hsC⟩ := T.cls
  obtain ⟨hp, g, dr, tk, os⟩ := s
  have k : ∀ b o, hp.get? b = some o → ((hp.push (kdv_tup [])).push (excO C hp.objs.size)).get? b = some o := fun b o e => Heap.get?_push_of_some _ (Heap.get?_push_of_some _ e)
  have hget : ((hp.push (kdv_tup [])).push (excO C hp.objs.size)).get? (hp.objs.size + 1) = some (excO C hp.objs.size) := by heap_get
  have hnx : K.lookup (hp.objs.size + 1) = none := by
    cases e : K.lookup (hp.objs.size + 1) with
    | none => rfl
    | some o =>
      have z : hp.get? (hp.objs.size + 1) = some o := X _ _ e
      exact absurd (Nat.lt_of_succ_lt (Heap.lt_size z)) (Nat.lt_irrefl _)
  refine call_ownK FB hT (X _ _ hC) (looks_findIn X T.iC) (fun self => bind_fn X self T.tC) ?_
  refine x_init2 (s := ⟨(hp.push (kdv_tup [])).push (excO C hp.objs.size), g, dr, tk, os⟩) T TP (.inr rfl) (X.keeps k) (hg.keeps k) (hb.keeps k) hbs (hlim.keeps k) hget hnx ?_ fun h' tk' dx t1 ⟨k', hx, dn, dne, hns⟩ => ?_
  · show A.depth + 1 < recursionLimit
    exact hroom
  · have old : ∀ b o, hp.get? b = some o → h'.get? b = some o := fun b o e => k' b o (Nat.ne_of_lt (Nat.lt_succ_of_lt (Heap.lt_size e))) (k b o e)
    have z : hp.objs.size + 1 + 1 ≤ dx := by
      first
        | (simpa only [Heap.size_push] using dn)
        | exact dn
        | (have q := dn; rw [Heap.size_push, Heap.size_push] at q; exact q)
    exact ⟨rfl, hq h' tk' (hp.objs.size + 1) dx ⟨old, Nat.le_succ _, ⟨_, _, hx, rfl, rfl, rfl, rfl⟩, Nat.le_trans (Nat.le_trans (Nat.le_succ _) (Nat.le_succ _)) z, dne, hns⟩⟩
end
end ExX
end PySem
end
section
set_option Elab.async false
set_option linter.all false
set_option maxRecDepth 100000
set_option maxHeartbeats 2000000
/-! HX26: errors as values: C(e), C(f=e), C(), C(e, e2) made and kept; raise C(e, e2). -/
namespace L2
open PySem PySem.Spec PyProof.Rows
open HL (exq)
section
variable {X : Cx} {pins : List (Addr × Obj)} {σ : St} {H : Hp} {hp h' : Heap} {g : Array GenState} {dr : Drawn} {tk tk' : Nat} {os : OsState} {e d C : Addr} {oe : Obj} {fv : Array Value} {fs : List (Str × V)} {mA : Str → Option Value}
theorem Inv.madeE (I : Inv X pins σ H ⟨hp, g, dr, tk, os⟩) (keep : ∀ b o, hp.get? b = some o → h'.get? b = some o) (new : hp.objs.size ≤ e) (hoe : h'.get? e = some oe) (hz : Zc (.ref C) (some d) oe) (hdat : oe.data = .fields fv) (dbig : hp.objs.size ≤ d) (dne : d ≠ e) (hns : h'.Ns1 d mA) (rel : ∀ y, RelO (fs.lookup y) (mA y)) :
    Inv X pins σ (upd (upd H d (.xd fs)) e (exq e (.ref C) (some d))) ⟨h', g, dr, tk', os⟩ := by
  have hd : H d = none := I.hok.fresh dbig
  have he : H e = none := I.hok.fresh new
  have he2 : upd H d (.xd fs) e = none := by rw [upd_ne (Ne.symm dne)]; exact he
  have nb : ∀ {b : Addr} {o : Obj}, hp.get? b = some o → b ≠ e ∧ b ≠ d := fun {b o} q => ⟨Nat.ne_of_lt (Nat.lt_of_lt_of_le (Heap.lt_size q) new), Nat.ne_of_lt (Nat.lt_of_lt_of_le (Heap.lt_size q) dbig)⟩
  have old : ∀ {b : Addr} {o : HO}, H b = some o → upd (upd H d (.xd fs)) e (exq e (.ref C) (some d)) b = some o := fun {b o} q => by
    rw [upd_ne (fun z => by rw [z, he] at q; cases q), upd_ne (fun z => by rw [z, hd] at q; cases q)]
    exact q
  refine I.un (t' := tk') (h' := h') {
    keep := fun b o q _ _ _ => keep b o q
    slot := fun b o q _ _ _ => ⟨o.slots, keep b o q⟩
    free := fun b o q n _ => by rw [upd_ne (nb q).1, upd_ne (nb q).2]; exact n
    there := fun b o q _ => ⟨o, keep b o q⟩
    tups := fun b xs q => old q
    frzs := fun b o u q => old q
    tbls := fun b ps q => ⟨#[], by rw [old q]; simp⟩ } ?_
  exact HOk.laidN (I.hok.laid keep dbig ⟨mA, hns, rel⟩) (fun b u e => e) he2 (exq_ok hoe hz hdat)
theorem Inv.madeE0 (I : Inv X pins σ H ⟨hp, g, dr, tk, os⟩) (keep : ∀ b o, hp.get? b = some o → h'.get? b = some o) (new : hp.objs.size ≤ e) (hoe : h'.get? e = some oe) (hz : Zc (.ref C) none oe) (hdat : oe.data = .fields fv) :
    Inv X pins σ (upd H e (exq e (.ref C) none)) ⟨h', g, dr, tk', os⟩ :=
  I.laid (t' := tk') keep new (exq_ok hoe hz hdat)
end
end L2
namespace HL
open PySem PySem.Spec L2
/-- C(..), an error of the class C with the fields ks, as a value -/
def eErrV (C : Str) (ks : List Str) (ix : List Nat) (fa : L → Store → R (List D)) : L → Store → R D := fun l S => (fa l S).bind fun ds S1 => if ds.length = ix.length ∧ (gIx ix ds).length = ks.length then .ok (.err C ks (gIx ix ds)) S1 else .bad
section
variable {X : Cx} {Wx : WX} {σ : L2.St} {Q : V → Hp → Prop}
theorem errV_end {W1 : Wd} {ds : List D} {vs : List V} {C : Str} {ks : List Str} {ix : List Nat} (o1 : Ok X.K W1) (rvs : Reps X.K W1 ds vs) (h1 : Post X.K Wx σ W1 (if ds.length = ix.length ∧ (gIx ix ds).length = ks.length then R.ok (.err C ks (gIx ix ds)) W1.S else .bad) fun W d => ∀ v, Rep X.K W d v → Q v W.H) :
    vs.length = ix.length ∧ (∀ e d, W1.H e = none → W1.H d = none → d ≠ e → Q (.ref e) (upd (upd W1.H d (.xd (ks.zip (gIx ix vs)))) e (exq e (.ref (He.ga X.K C)) (some d)))) ∧ (ks = [] → ∀ e, W1.H e = none → Q (.ref e) (upd W1.H e (exq e (.ref (He.ga X.K C)) none))) := by
  obtain ⟨⟨hn, hl⟩, h2⟩ := Post.iff_ok h1
  have r2 := gIx_reps rvs ix
  have hl2 : (gIx ix vs).length = ks.length := by rw [← r2.length]; exact hl
  refine ⟨by rw [← rvs.length]; exact hn, fun e d he hd hne => ?_, fun hk e he => ?_⟩
  · have he2 : upd W1.H d (.xd (ks.zip (gIx ix vs))) e = none := by rw [upd_ne (Ne.symm hne)]; exact he
    have sm1 : Same W1.H (upd W1.H d (.xd (ks.zip (gIx ix vs)))) := Same.upd hd
    have sm2 : Same (upd W1.H d (.xd (ks.zip (gIx ix vs)))) (upd (upd W1.H d (.xd (ks.zip (gIx ix vs)))) e (exq e (.ref (He.ga X.K C)) (some d))) := Same.upd he2
    obtain ⟨ρ, S, H, B⟩ := W1
    have o2 := o1.same sm1
    have o3 := o2.same sm2
    have x1 : Ext ⟨ρ, S, H, B⟩ ⟨ρ, S, upd H d (.xd (ks.zip (gIx ix vs))), B⟩ := Ext.same sm1
    have x2 : Ext ⟨ρ, S, upd H d (.xd (ks.zip (gIx ix vs))), B⟩ ⟨ρ, S, upd (upd H d (.xd (ks.zip (gIx ix vs)))) e (exq e (.ref (He.ga X.K C)) (some d)), B⟩ := Ext.same sm2
    refine h2 ρ _ (x1.trans x2) o3 _ (.err (d := some d) (vs := gIx ix vs) upd_same (.inr ⟨d, rfl, ?_⟩) hl2.symm ((r2.ext x1 o1).ext x2 o2))
    show upd (upd H d (.xd (ks.zip (gIx ix vs)))) e _ d = _
    rw [upd_ne hne, upd_same]
  · subst hk
    have hv : gIx ix vs = [] := by simpa using hl2
    have hv2 : gIx ix ds = [] := by simpa using hl
    have sm1 : Same W1.H (upd W1.H e (exq e (.ref (He.ga X.K C)) none)) := Same.upd he
    obtain ⟨ρ, S, H, B⟩ := W1
    refine h2 ρ _ (Ext.same sm1) (o1.same sm1) _ ?_
    rw [hv2]
    exact .err (d := none) (vs := []) upd_same (.inl ⟨rfl, rfl⟩) rfl .nil
end
section
variable {X : Cx} {Wx : WX} {k : Nat} {C f : Str} {fI : Addr} {fa fk : L → Store → R (List D)} {e e2 : Expr} {p pos kp kp2 : Pos}
theorem relO_two {u v : V} {u' v' : Value} (ru : RelV u u') (rv : RelV v v') (g : Str) : RelO (List.lookup g [(("index", u) : Str × V), ("shown", v)]) (if g = "shown" then some v' else if g = "index" then some u' else none) := by
  have n1 : ¬ ("index" : Str) = "shown" := by decide +kernel
  by_cases h1 : g = "index"
  · subst h1
    rw [if_neg n1, if_pos rfl]
    exact ru
  · have q1 : (g == ("index" : Str)) = false := by simpa using h1
    rw [if_neg h1]
    by_cases h2 : g = "shown"
    · subst h2
      rw [if_pos rfl]
      exact rv
    · have q2 : (g == ("shown" : Str)) = false := by simpa using h2
      rw [if_neg h2]
      simp [List.lookup, q1, q2, RelO]
/-- what is wished of a made error -/
abbrev QErr (C : Str) (ks : List Str) (ix : List Nat) (K : Frag) (Q : V → Hp → Prop) : List V → Hp → Prop := fun vs H1 => vs.length = ix.length ∧ ∀ e d, H1 e = none → H1 d = none → d ≠ e → Q (.ref e) (upd (upd H1 d (.xd (ks.zip (gIx ix vs)))) e (exq e (.ref (He.ga K C)) (some d)))
theorem len_two {α : Type} {xs : List α} (h : xs.length = 2) : ∃ a b, xs = [a, b] := by
  match xs, h with
  | [a, b], _ => exact ⟨a, b, rfl⟩
theorem vals_one {v : V} {us : List Value} (r : Vals [v] us) : ∃ u, us = [u] ∧ RelV v u := by
  cases r with
  | cons a b =>
    cases b
    exact ⟨_, rfl, a⟩
theorem vals_two {v w : V} {us : List Value} (r : Vals [v, w] us) : ∃ u z, us = [u, z] ∧ RelV v u ∧ RelV w z := by
  cases r with
  | cons a b =>
    obtain ⟨z, rfl, c⟩ := vals_one b
    exact ⟨_, _, rfl, a, c⟩
theorem fe_err1 (T : PySem.ExX.XTxt X.prog X.K X.mg C f (He.ga X.K C) fI) (TP : PySem.ExX.TopX X.prog X.mg) (hr : Room (k + 1) X.A) (ha : FA X Wx [e] fa) (hg : Gl X C) (hdb : (C == ("__debug__" : Str)) = false := by decide)
    (he : starEach (e :: []) X.env = (false, eval e X.env) :: starEach [] X.env := by rfl) (hpl : (backTo pos (starEach [] X.env)).any (·.1) = false := by rfl) : FE X Wx (.Call (.Name C p) [e] [] pos) (eErrV C [f] [0] fa) := by
  refine ⟨fun pins s σ H Q I ⟨ρ, S, B, l, ok, sl, h⟩ => ?_⟩
  refine wpAny_Call_Name_kw (ld_glob I hg T.gC ?_ hdb)
  refine PySem.W.callWith_K (h₀ := X.base) I.ok.mod.kin T.kC (thn (ha.run pos pins s σ H (QErr C [f] [0] X.K Q) I
    ⟨ρ, S, B, l, ok, sl, h.bind.mono fun W1 ds e1 o1 ⟨_, _, h1⟩ vs rvs => let z := errV_end o1 rvs h1; ⟨z.1, z.2.1⟩⟩) fun us s1 ⟨vs, H1, I1, r1, hl, q1⟩ => ?_) he hpl
  refine ⟨I1.kIn, ?_⟩
  obtain ⟨v, rfl⟩ : ∃ v, vs = [v] := List.length_eq_one_iff.mp hl
  obtain ⟨v', rfl, rv⟩ := vals_one r1
  · skip
    show wpAny _ _ (call (.ref (He.ga X.K C)) [v']) _ _ _
    have hlim := I1.nolimit
    have hglob := I1.ok.mod.glob.keeps I1.bk
    obtain ⟨mb, hb0, hbs⟩ := I1.ok.mod.blt
    have hb1 := hb0.keeps I1.bk
    obtain ⟨hp, g, dr, tk, os⟩ := s1
    refine wpAny_call (PySem.ExX.x_made T TP I1.kIn hglob hb1 ((hbs _ (by decide)).trans PyProof.Rows.Boot.«super») hlim (by have := hr.dp; omega) fun h' tk' e d M => ?_)
    obtain ⟨oe, fv, hoe, hc, hd, hdat, _⟩ := M.obj
    exact ⟨.ref e, _, I1.madeE (tk' := tk') M.keep M.new hoe ⟨hc, hd⟩ hdat M.dbig M.dne M.ns fun g => L2.relO_one rv f g, rfl, q1 e d (I1.hok.fresh M.new) (I1.hok.fresh M.dbig) M.dne⟩
theorem fe_err2 (T : PySem.ExX.XTxt2 X.prog X.K X.mg C (He.ga X.K C) fI) (TP : PySem.ExX.TopX X.prog X.mg) (hr : Room (k + 1) X.A) (ha : FA X Wx [e, e2] fa) (hg : Gl X C) (hdb : (C == ("__debug__" : Str)) = false := by decide)
    (he : starEach (e :: [e2]) X.env = (false, eval e X.env) :: starEach [e2] X.env := by rfl) (hpl : (backTo pos (starEach [e2] X.env)).any (·.1) = false := by rfl) : FE X Wx (.Call (.Name C p) [e, e2] [] pos) (eErrV C ["index", "shown"] [0, 1] fa) := by
  refine ⟨fun pins s σ H Q I ⟨ρ, S, B, l, ok, sl, h⟩ => ?_⟩
  refine wpAny_Call_Name_kw (ld_glob I hg T.gC ?_ hdb)
  refine PySem.W.callWith_K (h₀ := X.base) I.ok.mod.kin T.kC (thn (ha.run pos pins s σ H (QErr C ["index", "shown"] [0, 1] X.K Q) I
    ⟨ρ, S, B, l, ok, sl, h.bind.mono fun W1 ds e1 o1 ⟨_, _, h1⟩ vs rvs => let z := errV_end o1 rvs h1; ⟨z.1, z.2.1⟩⟩) fun us s1 ⟨vs, H1, I1, r1, hl, q1⟩ => ?_) he hpl
  refine ⟨I1.kIn, ?_⟩
  obtain ⟨v, w, rfl⟩ : ∃ v w, vs = [v, w] := len_two hl
  obtain ⟨v', w', rfl, rv, rw⟩ := vals_two r1
  · skip
    show wpAny _ _ (call (.ref (He.ga X.K C)) [v', w']) _ _ _
    have hlim := I1.nolimit
    have hglob := I1.ok.mod.glob.keeps I1.bk
    obtain ⟨mb, hb0, hbs⟩ := I1.ok.mod.blt
    have hb1 := hb0.keeps I1.bk
    obtain ⟨hp, g, dr, tk, os⟩ := s1
    refine wpAny_call (PySem.ExX.x_made2 T TP I1.kIn hglob hb1 ((hbs _ (by decide)).trans PyProof.Rows.Boot.«super») hlim (by have := hr.dp; omega) fun h' tk' e d M => ?_)
    obtain ⟨oe, fv, hoe, hc, hd, hdat, _⟩ := M.obj
    exact ⟨.ref e, _, I1.madeE (tk' := tk') M.keep M.new hoe ⟨hc, hd⟩ hdat M.dbig M.dne M.ns (relO_two rv rw), rfl, q1 e d (I1.hok.fresh M.new) (I1.hok.fresh M.dbig) M.dne⟩
theorem fe_errK (T : PySem.ExX.XTxt X.prog X.K X.mg C f (He.ga X.K C) fI) (TP : PySem.ExX.TopX X.prog X.mg) (hr : Room (k + 1) X.A) (ha : FK X Wx [⟨some f, e, kp⟩] fk) (hg : Gl X C) (hdb : (C == ("__debug__" : Str)) = false := by decide)
    (hall : (backToKw pos (keywordEach [⟨some f, e, kp⟩] X.env)).all (·.1.isSome) = true := by rfl) (hks : (backToKw pos (keywordEach [⟨some f, e, kp⟩] X.env)).filterMap (·.1) = [f] := by rfl)
    (hpl : ((backTo pos (starEach [] X.env)).any (·.1) || (backToKw pos (keywordEach [⟨some f, e, kp⟩] X.env)).any (·.1.isNone)) = false := by rfl) : FE X Wx (.Call (.Name C p) [] [⟨some f, e, kp⟩] pos) (eErrV C [f] [0] fk) := by
  refine ⟨fun pins s σ H Q I ⟨ρ, S, B, l, ok, sl, h⟩ => ?_⟩
  refine wpAny_Call_Name_kw (ld_glob I hg T.gC ?_ hdb)
  refine PySem.W.callWith_KW0 (h₀ := X.base) I.ok.mod.kin T.kC hall (thn (ha.run pos pins s σ H (QErr C [f] [0] X.K Q) I
    ⟨ρ, S, B, l, ok, sl, h.bind.mono fun W1 ds e1 o1 ⟨_, _, h1⟩ vs rvs => let z := errV_end o1 rvs h1; ⟨z.1, z.2.1⟩⟩) fun us s1 ⟨vs, H1, I1, r1, hl, q1⟩ => ⟨I1.kIn, ?_⟩) hpl
  rw [hks]
  obtain ⟨v, rfl⟩ : ∃ v, vs = [v] := List.length_eq_one_iff.mp hl
  obtain ⟨v', rfl, rv⟩ := vals_one r1
  · skip
    show wpAny _ _ (call (.ref (He.ga X.K C)) [] [(f, v')]) _ _ _
    have hlim := I1.nolimit
    have hglob := I1.ok.mod.glob.keeps I1.bk
    obtain ⟨mb, hb0, hbs⟩ := I1.ok.mod.blt
    have hb1 := hb0.keeps I1.bk
    obtain ⟨hp, g, dr, tk, os⟩ := s1
    refine wpAny_call (PySem.ExX.x_madeK T TP I1.kIn hglob hb1 ((hbs _ (by decide)).trans PyProof.Rows.Boot.«super») hlim (by have := hr.dp; omega) fun h' tk' e d M => ?_)
    obtain ⟨oe, fv, hoe, hc, hd, hdat, _⟩ := M.obj
    exact ⟨.ref e, _, I1.madeE (tk' := tk') M.keep M.new hoe ⟨hc, hd⟩ hdat M.dbig M.dne M.ns fun g => L2.relO_one rv f g, rfl, q1 e d (I1.hok.fresh M.new) (I1.hok.fresh M.dbig) M.dne⟩
theorem fe_err2K (T : PySem.ExX.XTxt2 X.prog X.K X.mg C (He.ga X.K C) fI) (TP : PySem.ExX.TopX X.prog X.mg) (hr : Room (k + 1) X.A) (ha : FK X Wx [⟨some "shown", e, kp⟩, ⟨some "index", e2, kp2⟩] fk) (hg : Gl X C) (hdb : (C == ("__debug__" : Str)) = false := by decide)
    (hall : (backToKw pos (keywordEach [⟨some "shown", e, kp⟩, ⟨some "index", e2, kp2⟩] X.env)).all (·.1.isSome) = true := by rfl) (hks : (backToKw pos (keywordEach [⟨some "shown", e, kp⟩, ⟨some "index", e2, kp2⟩] X.env)).filterMap (·.1) = [("shown" : Str), "index"] := by rfl)
    (hpl : ((backTo pos (starEach [] X.env)).any (·.1) || (backToKw pos (keywordEach [⟨some "shown", e, kp⟩, ⟨some "index", e2, kp2⟩] X.env)).any (·.1.isNone)) = false := by rfl) : FE X Wx (.Call (.Name C p) [] [⟨some "shown", e, kp⟩, ⟨some "index", e2, kp2⟩] pos) (eErrV C ["index", "shown"] [1, 0] fk) := by
  refine ⟨fun pins s σ H Q I ⟨ρ, S, B, l, ok, sl, h⟩ => ?_⟩
  refine wpAny_Call_Name_kw (ld_glob I hg T.gC ?_ hdb)
  refine PySem.W.callWith_KW0 (h₀ := X.base) I.ok.mod.kin T.kC hall (thn (ha.run pos pins s σ H (QErr C ["index", "shown"] [1, 0] X.K Q) I
    ⟨ρ, S, B, l, ok, sl, h.bind.mono fun W1 ds e1 o1 ⟨_, _, h1⟩ vs rvs => let z := errV_end o1 rvs h1; ⟨z.1, z.2.1⟩⟩) fun us s1 ⟨vs, H1, I1, r1, hl, q1⟩ => ⟨I1.kIn, ?_⟩) hpl
  rw [hks]
  obtain ⟨w, v, rfl⟩ : ∃ w v, vs = [w, v] := len_two hl
  obtain ⟨w', v', rfl, rw, rv⟩ := vals_two r1
  · skip
    show wpAny _ _ (call (.ref (He.ga X.K C)) [] [("shown", w'), ("index", v')]) _ _ _
    have hlim := I1.nolimit
    have hglob := I1.ok.mod.glob.keeps I1.bk
    obtain ⟨mb, hb0, hbs⟩ := I1.ok.mod.blt
    have hb1 := hb0.keeps I1.bk
    obtain ⟨hp, g, dr, tk, os⟩ := s1
    refine wpAny_call (PySem.ExX.x_made2K T TP I1.kIn hglob hb1 ((hbs _ (by decide)).trans PyProof.Rows.Boot.«super») hlim (by have := hr.dp; omega) fun h' tk' e d M => ?_)
    obtain ⟨oe, fv, hoe, hc, hd, hdat, _⟩ := M.obj
    exact ⟨.ref e, _, I1.madeE (tk' := tk') M.keep M.new hoe ⟨hc, hd⟩ hdat M.dbig M.dne M.ns (relO_two rv rw), rfl, q1 e d (I1.hok.fresh M.new) (I1.hok.fresh M.dbig) M.dne⟩
theorem fe_err0 (hb : bareB X.K C = true) (hm : X.mg C = some (.ref (He.ga X.K C))) (hg : Gl X C) (hdb : (C == ("__debug__" : Str)) = false := by decide) : FE X Wx (.Call (.Name C p) [] [] pos) (eErrV C [] [] aNil) := by
  obtain ⟨_, hb⟩ := He.ba hb
  obtain ⟨b1, hb⟩ := He.ba hb
  obtain ⟨b2, hb⟩ := He.ba hb
  obtain ⟨b3, b4⟩ := He.ba hb
  refine ⟨fun pins s σ H Q I ⟨ρ, S, B, l, ok, sl, h⟩ => ?_⟩
  refine wpAny_Call_Name_kw (ld_glob I hg hm ?_ hdb)
  refine PySem.W.callWith_K0 I.kIn b2 ?_
  show wpAny _ _ (call (.ref (He.ga X.K C)) []) _ _ _
  obtain ⟨bm, N, nm, qn, bs, hdct, sn, sub, ab, col, dd, k0, k1, k2, k3, k5, mN, hC, hN, hni, T⟩ := exc_obj I.kIn b1
  refine wpAny_call_exc_subT F.excBase_ArithmeticError T hC hN hni (fun h' a hmk => ?_) (Nat.zero_le _)
  have hn : H a = none := I.hok.gone hmk.new
  obtain ⟨t, ht, _, _⟩ := hmk.there
  have z := (errV_end (X := X) (Wx := Wx) (σ := σ) (Q := Q) (W1 := ⟨ρ, S, H, B⟩) (ds := []) (vs := []) (C := C) (ks := []) (ix := []) ok .nil h).2.2 rfl a hn
  exact ⟨.ref a, _, I.laidN hmk.keeps hmk.new hn (exq_ok ht ⟨rfl, rfl⟩ rfl), rfl, z⟩
end
end HL
end
section
set_option Elab.async false
set_option linter.all false
set_option maxRecDepth 100000
set_option maxHeartbeats 2000000
/-! HX27: raise C(e, e2) of a class with two fields. -/
namespace L2
open PySem PySem.Spec PyProof.Rows
section
variable {X : Cx} {C fI : Addr} {nm : Str}
def tMkX2 (C : Addr) (ta : TA) : St → Hp → XK → Prop := fun σ H Q => ta σ H fun vs H1 => ∃ u v, vs = [u, v] ∧ ∀ d, H1 d = none → Q (.ref C) (some d) (upd H1 d (.xd [("index", u), ("shown", v)]))
theorem pmk_x2 {a b : Expr} {ta : TA} {p pos : Pos} {k : Nat} (T : PySem.ExX.XTxt2 X.prog X.K X.mg nm C fI) (TP : PySem.ExX.TopX X.prog X.mg) (hr : Room (k + 1) X.A) (ha : PA X [a, b] ta) (hg : Gl X nm) (hdb : (nm == ("__debug__" : Str)) = false)
    (he : starEach (a :: [b]) X.env = (false, eval a X.env) :: starEach [b] X.env := by rfl) (hpl : (backTo pos (starEach [b] X.env)).any (·.1) = false := by rfl) :
    PMk X (.Call (.Name nm p) [a, b] [] pos) (tMkX2 C ta) := by
  intro pins s σ H Q I h
  refine wpAny_Call_Name_kw (ld_glob I hg T.gC ?_ hdb)
  refine PySem.W.callWith_K (h₀ := X.base) I.ok.mod.kin T.kC (thn (ha.run pos pins s σ H _ I h) fun us s1 hh => ?_) he hpl
  obtain ⟨vs, H1, I1, r1, u0, v0, ev, q1⟩ := hh
  subst ev
  refine ⟨I1.kIn, ?_⟩
  obtain ⟨u', v', rfl, ru, rv⟩ := HL.vals_two r1
  show wpAny _ _ (call (.ref C) [u', v']) _ _ _
  have hlim := I1.nolimit
  have hglob := I1.ok.mod.glob.keeps I1.bk
  obtain ⟨mb, hb0, hbs⟩ := I1.ok.mod.blt
  have hb1 := hb0.keeps I1.bk
  obtain ⟨hp, g, dr, tk, os⟩ := s1
  refine wpAny_call (PySem.ExX.x_made2 T TP I1.kIn hglob hb1 ((hbs _ (by decide)).trans PyProof.Rows.Boot.«super») hlim (by have := hr.dp; omega) fun h' tk' e d M => ?_)
  show MkP X pins σ Q (.ref e) ⟨h', g, dr, tk', os⟩
  obtain ⟨oe, fv, hoe, hc, hd, hdat, h1⟩ := M.obj
  have hns := M.ns
  obtain ⟨G', g1, g2⟩ := restrict h' fun b => decide (b ≠ e)
  have gk : ∀ b, b ≠ e → G'.get? b = h'.get? b := fun b hb => g1 b (decide_eq_true hb)
  have ge : G'.get? e = none := g2 e (by simp)
  have old : ∀ b o, hp.get? b = some o → G'.get? b = some o := fun b o q => (gk b (Nat.ne_of_lt (Nat.lt_of_lt_of_le (Heap.lt_size q) M.new))).trans (M.keep b o q)
  have ob : ObjOk X.prog X.w (upd H1 d (.xd [("index", u0), ("shown", v0)])) G' d (.xd [("index", u0), ("shown", v0)]) :=
    ⟨_, hns.at (fun o q => (gk d M.dne).trans q), fun g => HL.relO_two ru rv g⟩
  have J : Inv X pins σ (upd H1 d (.xd [("index", u0), ("shown", v0)])) ⟨G', g, dr, tk', os⟩ := I1.laid (t' := tk') old M.dbig ob
  refine ⟨e, oe, fv, ⟨G', g, dr, tk', os⟩, _, .ref C, some d, rfl, J, fun b o q => ?_, ge, hoe, ⟨hc, hd⟩, hdat, h1, ?_, rfl, I1.bare, raises_own T.exC T.tyC, q1 d (I1.hok.fresh M.dbig)⟩
  · by_cases hb : b = e
    · have q' : G'.get? b = some o := q
      rw [hb, ge] at q'; cases q'
    · exact (gk b hb).symm.trans q
  · rw [upd_ne (Ne.symm M.dne)]
    exact I1.hok.fresh M.new
end
end L2
namespace HL
open PySem PySem.Spec L2
section
variable {X : Cx} {Wx : WX} {k : Nat} {C : Str} {fI : Addr} {fa : L → Store → R (List D)} {e e2 : Expr}
/-- raise C(e, e2) -/
def sRaise2 (C : Str) (fa : L → Store → R (List D)) : L → Store → Fl := fun l S => (fa l S).toS l fun ds S1 => if ds.length = 2 then .exc ⟨C, ["index", "shown"], ds⟩ l S1 else .bad
theorem fs_raise2 {p pos pos2 : Pos} (hc : X.calm = true) (T : PySem.ExX.XTxt2 X.prog X.K X.mg C (He.ga X.K C) fI) (TP : PySem.ExX.TopX X.prog X.mg) (hr : Room (k + 1) X.A) (tk : Takes X Wx) (ha : FA X Wx [e, e2] fa) (hg : Gl X C) (hdb : (C == ("__debug__" : Str)) = false := by decide)
    (he : starEach (e :: [e2]) X.env = (false, eval e X.env) :: starEach [e2] X.env := by rfl) (hpl : (backTo pos (starEach [e2] X.env)).any (·.1) = false := by rfl) :
    FS X Wx (.Raise (some (.Call (.Name C p) [e, e2] [] pos)) none pos2) (sRaise2 C fa) := by
  refine PS.imp (ps_raise hc tk (pmk_x2 T TP hr ha hg hdb he hpl)) fun D σ H h => ?_
  obtain ⟨ρ, S, B, l, ok, sl, h⟩ := h
  refine ⟨ρ, S, B, l, ok, sl, ?_⟩
  have h2 := PostS.toS sl ok h
  cases q : fa l S with
  | bad => rw [q] at h2; exact h2.elim
  | exc x S1 => rw [q] at h2; exact h2
  | ok ds S1 =>
    rw [q] at h2
    intro ρ1 H1 e1 o1 vs rv
    obtain ⟨_, _, h3⟩ := h2 ρ1 H1 e1 o1
    by_cases hl : ds.length = 2
    · rw [if_pos hl] at h3
      obtain ⟨d1, d2, rfl⟩ := len_two hl
      have hv : vs.length = 2 := by rw [← rv.length]; rfl
      obtain ⟨u, v, rfl⟩ := len_two hv
      refine ⟨u, v, rfl, fun dd hn => ?_⟩
      have sm := Same.upd (o := .xd [("index", u), ("shown", v)]) hn
      refine h3 ρ1 _ σ (.ref (He.ga X.K C)) (some dd) (Ext.same sm) (o1.same sm) ((sl.ext e1 ok).ext (Ext.same sm) o1) ⟨rfl, .inr ⟨dd, [u, v], rfl, upd_same, rfl, ?_⟩⟩
      exact Reps.ext (Ext.same sm) o1 rv
    · rw [if_neg hl] at h3
      exact h3.elim
end
end HL
end
section
set_option Elab.async false
set_option linter.all false
set_option maxRecDepth 100000
set_option maxHeartbeats 1000000
namespace HL
open PySem PySem.Spec L2
/-- what a reading goes on with is fixed: simp does not look into it -/
inductive Tg {α : Sort u} (a : α) : Type where
  | mk
def R.bnd {α β : Type} (r : R α) (f : α → Store → R β) (_ : Tg f := .mk) : R β := r.bind f
def R.tos {α : Type} (r : R α) (l : L) (f : α → Store → Fl) (_ : Tg f := .mk) : Fl := r.toS l f
def Fl.thn (r : Fl) (f : L → Store → Fl) (_ : Tg f := .mk) : Fl := r.andThen f
@[simp] theorem R.bnd_ok {α β : Type} (a : α) (S : Store) (f : α → Store → R β) (t : Tg f) : (R.ok a S).bnd f t = f a S := id rfl
@[simp] theorem R.bnd_bad {α β : Type} (f : α → Store → R β) (t : Tg f) : (R.bad : R α).bnd f t = .bad := id rfl
@[simp] theorem R.bnd_exc {α β : Type} (e : Exc) (S : Store) (f : α → Store → R β) (t : Tg f) : (R.exc e S : R α).bnd f t = .exc e S := id rfl
@[simp] theorem eLoc_ap (i : Nat) l S : eLoc i l S = (match l[i]? with
  | some (some d) => .ok d S
  | _ => .bad) := id rfl
@[simp] theorem eCon_ap (d : D) x0 S : eCon d x0 S = .ok d S := id rfl
@[simp] theorem aNil_ap x0 S : aNil x0 S = .ok [] S := id rfl
@[simp] theorem aCons_ap (f : L → Store → R D) (g : L → Store → R (List D)) l S : aCons f g l S = (f l S).bnd fun d S1 => (g l S1).bnd fun ds S2 => .ok (d :: ds) S2 := id rfl
@[simp] theorem eTup_ap (g : L → Store → R (List D)) l S : eTup g l S = (g l S).bnd fun ds S1 => if ds.length ≤ sizeLine then .ok (.tup ds) S1 else .bad := id rfl
@[simp] theorem eLst_ap (g : L → Store → R (List D)) l S : eLst g l S = (g l S).bnd fun ds S1 => if ds.length ≤ sizeLine then .ok (.lst ds) S1 else .bad := id rfl
@[simp] theorem eNew_ap (g : L → Store → R (List D)) l S : eNew g l S = (g l S).bnd fun ds S1 => if ds.length ≤ sizeLine then .ok (.loc S1.length) (S1 ++ [.lst ds]) else .bad := id rfl
@[simp] theorem eCall_ap (g : List D → Store → R D) (fa : L → Store → R (List D)) l S : eCall g fa l S = (fa l S).bnd fun ds S1 => if ds.length = 0 then .bad else g ds S1 := id rfl
@[simp] theorem eCalln_ap (n : Nat) (g : List D → Store → R D) (fa : L → Store → R (List D)) l S : eCalln n g fa l S = (fa l S).bnd fun ds S1 => if ds.length = n then g ds S1 else .bad := id rfl
@[simp] theorem bSeq_ap (f g : L → Store → Fl) l S : bSeq f g l S = (f l S).thn g := id rfl
@[simp] theorem bNil_ap l S : bNil l S = .nx l S := id rfl
@[simp] theorem sRet_ap (f : L → Store → R D) l S : sRet f l S = (f l S).tos l fun d S1 => .rt d S1 := id rfl
@[simp] theorem sRetN_ap l S : sRetN l S = .rt .non S := id rfl
@[simp] theorem sDrop_ap (f : L → Store → R D) l S : sDrop f l S = (f l S).tos l fun _ S1 => .nx l S1 := id rfl
@[simp] theorem sSet_ap (i : Nat) (f : L → Store → R D) l S : sSet i f l S = (f l S).tos l fun d S1 => .nx (l.set i (some d)) S1 := id rfl
@[simp] theorem sIf_ap (c : L → Store → R Bool) (f g : L → Store → Fl) l S : sIf c f g l S = (c l S).tos l fun b S1 => if b then f l S1 else g l S1 := id rfl
@[simp] theorem sBad_ap x0 x1 : sBad x0 x1 = .bad := id rfl
@[simp] theorem sBrk_ap l S : sBrk l S = .bk l S := id rfl
@[simp] theorem sCnt_ap l S : sCnt l S = .ct l S := id rfl
@[simp] theorem run_ap (tr : Bool) (n : Nat) (f : L → Store → Fl) ds S : run tr n f ds S = finish tr S (f (ds.map some ++ List.replicate (n - ds.length) none) S) := id rfl
@[simp] theorem mBin_ap (p : D → D → Store → Option D) (f g : L → Store → R D) l S : mBin p f g l S = (f l S).bnd fun d S1 => (g l S1).bnd fun e S2 => ofO (p d e S2) S2 := id rfl
@[simp] theorem mCall_ap (p : List D → Store → Option D) (fa : L → Store → R (List D)) l S : mCall p fa l S = (fa l S).bnd fun ds S1 => ofO (p ds S1) S1 := id rfl
@[simp] theorem mUn_ap (p : D → Store → Option D) (f : L → Store → R D) l S : mUn p f l S = (f l S).bnd fun d S1 => ofO (p d S1) S1 := id rfl
@[simp] theorem asB_ap (f : L → Store → R D) l S : asB f l S = ((f l S).bnd fun d S1 => match d with
  | .bl b => .ok b S1
  | _ => .bad) := id rfl
@[simp] theorem mChain_ap (p p' : D → D → Store → Option D) (f g k : L → Store → R D) l S : mChain p p' f g k l S = ((f l S).bnd fun d S1 => (g l S1).bnd fun e S2 => match p d e S2 with
  | some (.bl true) => (k l S2).bnd fun z S3 => ofO (p' e z S3) S3
  | some (.bl false) => .ok (.bl false) S2
  | _ => .bad) := id rfl
@[simp] theorem mNot_ap (f : L → Store → R Bool) l S : mNot f l S = (f l S).bnd fun b S1 => .ok (!b) S1 := id rfl
@[simp] theorem mAnd_ap (f g : L → Store → R Bool) l S : mAnd f g l S = (f l S).bnd fun b S1 => if b then g l S1 else .ok false S1 := id rfl
@[simp] theorem mOr_ap (f g : L → Store → R Bool) l S : mOr f g l S = (f l S).bnd fun b S1 => if b then .ok true S1 else g l S1 := id rfl
@[simp] theorem mIf_ap (c : L → Store → R Bool) (f g : L → Store → R D) l S : mIf c f g l S = (c l S).bnd fun b S1 => if b then f l S1 else g l S1 := id rfl
@[simp] theorem vAnd_ap (f g : L → Store → R D) l S : vAnd f g l S = ((f l S).bnd fun d S1 => match d with
  | .bl true => g l S1
  | .bl false => .ok (.bl false) S1
  | _ => .bad) := id rfl
@[simp] theorem vOr_ap (f g : L → Store → R D) l S : vOr f g l S = ((f l S).bnd fun d S1 => match d with
  | .bl true => .ok (.bl true) S1
  | .bl false => g l S1
  | _ => .bad) := id rfl
@[simp] theorem vNot_ap (f : L → Store → R D) l S : vNot f l S = ((f l S).bnd fun d S1 => match d with
  | .bl b => .ok (.bl (!b)) S1
  | _ => .bad) := id rfl
@[simp] theorem oNone_ap x0 S : oNone x0 S = .ok none S := id rfl
@[simp] theorem oSome_ap (f : L → Store → R D) l S : oSome f l S = ((f l S).bnd fun d S1 => match d with
  | .int i => .ok (some i) S1
  | _ => .bad) := id rfl
@[simp] theorem mSl_ap (f : L → Store → R D) (lo hi : L → Store → R (Option Int)) l S : mSl f lo hi l S = (f l S).bnd fun d S1 => (lo l S1).bnd fun i S2 => (hi l S2).bnd fun j S3 => ofO (pSl d i j S3) S3 := id rfl
@[simp] theorem gN_ap (i : Nat) d x1 : gN i d x1 = some [(i, d)] := id rfl
@[simp] theorem gsNil_ap  ds x1 : gsNil  ds x1 = (match ds with
  | [] => some []
  | _ => none) := id rfl
@[simp] theorem gsCons_ap (b : Tgt) (c : List D → Store → Option (List (Nat × D))) ds S : gsCons b c ds S = (match ds with
  | d :: ds => match b d S, c ds S with
    | some as, some bs => some (as ++ bs)
    | _, _ => none
  | [] => none) := id rfl
@[simp] theorem gT_ap (n : Nat) (c : List D → Store → Option (List (Nat × D))) d S : gT n c d S = (match seqD d S with
  | some ds => if ds.length = n then c ds S else none
  | none => none) := id rfl
@[simp] theorem iVal_ap (f : L → Store → R D) l S : iVal f l S = (f l S).bnd fun d S1 => ofO (itemsV d S1) S1 := id rfl
def rg1 : List D → Store → R Src := fun ds S1 => match ds with
  | [.int j] => if j < 2 ^ 62 ∧ -(2 ^ 62) ≤ j then .ok ((List.range j.toNat).map fun (i : Nat) => .int (0 + i), []) S1 else .bad
  | _ => .bad
def rg2 : List D → Store → R Src := fun ds S1 => match ds with
  | [.int i, .int j] => if (-(2 ^ 62) ≤ i ∧ i < 2 ^ 62) ∧ -(2 ^ 62) ≤ j ∧ j < 2 ^ 62 then .ok ((List.range (j - i).toNat).map fun (k : Nat) => .int (i + k), []) S1 else .bad
  | _ => .bad
@[simp] theorem iRg1_ap (fa : L → Store → R (List D)) l S : iRg1 fa l S = (fa l S).bnd rg1 := id rfl
@[simp] theorem iRg2_ap (fa : L → Store → R (List D)) l S : iRg2 fa l S = (fa l S).bnd rg2 := id rfl
theorem rg1_int {j : Int} (h : 0 ≤ j) (h2 : j < 4611686018427387904) (S : Store) : rg1 [.int j] S = .ok ((List.range j.toNat).map fun (i : Nat) => D.int (i : Int), []) S := by
  unfold rg1
  dsimp only
  rw [if_pos ⟨by omega, by omega⟩]
  simp
theorem rg1_nat {n : Nat} (h : n < 4611686018427387904) (S : Store) : rg1 [.int (n : Int)] S = .ok ((List.range n).map fun (i : Nat) => D.int (i : Int), []) S := by
  rw [rg1_int (by omega) (by omega)]
  rfl
theorem rg2_int {i j : Int} (h : 0 ≤ i) (h2 : j < 4611686018427387904) (h3 : i ≤ j) (S : Store) : rg2 [.int i, .int j] S = .ok ((List.range (j - i).toNat).map fun (k : Nat) => D.int (i + k), []) S := by
  unfold rg2
  dsimp only
  rw [if_pos ⟨⟨by omega, by omega⟩, by omega, by omega⟩]
@[simp] theorem sFor_ap (fi : L → Store → R Src) (g : Tgt) (b : L → Store → Fl) l S : sFor fi g b l S = (fi l S).tos l fun x S1 => forGo g b x.2 x.1 l S1 := id rfl
@[simp] theorem eLc_ap (fi : L → Store → R Src) (g : Tgt) (t : L → Store → R Bool) (e : L → Store → R D) (vs : List Nat) l S : eLc fi g t e vs l S = ((fi l S).bnd fun x S1 => match cGo g t e x.2 (wp l vs) x.1 0 S1 with
  | some (ds, S2) => .ok (.lst ds) S2
  | none => .bad) := id rfl
@[simp] theorem eLcN_ap (fi : L → Store → R Src) (g : Tgt) (t : L → Store → R Bool) (e : L → Store → R D) (vs : List Nat) l S : eLcN fi g t e vs l S = ((fi l S).bnd fun x S1 => match cGo g t e x.2 (wp l vs) x.1 0 S1 with
  | some (ds, S2) => .ok (.loc S2.length) (S2 ++ [.lst ds])
  | none => .bad) := id rfl
@[simp] theorem tYesF_ap x0 S : tYesF x0 S = .ok true S := id rfl
@[simp] theorem hNm_ap (i : Nat) d l S : hNm i d l S = some (l.set i (some d), S) := id rfl
@[simp] theorem hsNil_ap  ds l S : hsNil  ds l S = (match ds with
  | [] => some (l, S)
  | _ => none) := id rfl
@[simp] theorem hsCons_ap (b : TgtH) (c : List D → L → Store → Option (L × Store)) ds l S : hsCons b c ds l S = (match ds with
  | d :: ds => match b d l S with
    | some (l1, S1) => c ds l1 S1
    | none => none
  | [] => none) := id rfl
@[simp] theorem hT_ap (n : Nat) (c : List D → L → Store → Option (L × Store)) d l S : hT n c d l S = (match seqD d S with
  | some ds => if ds.length = n then c ds l S else none
  | none => none) := id rfl
@[simp] theorem hIx_ap (fo fi : L → Store → R D) d l S : hIx fo fi d l S = (match fo l S with
  | .ok o S1 => match fi l S1 with
    | .ok i S2 => match setIx o i d S2 with
      | some S3 => some (l, S3)
      | none => none
    | _ => none
  | _ => none) := id rfl
@[simp] theorem sAsg_ap (fe : L → Store → R D) (b : TgtH) l S : sAsg fe b l S = ((fe l S).tos l fun d S1 => match b d l S1 with
  | some (l2, S2) => .nx l2 S2
  | none => .bad) := id rfl
@[simp] theorem sPar_ap (i j : Nat) (fa : L → Store → R (List D)) l S : sPar i j fa l S = ((fa l S).tos l fun ds S1 => match ds with
  | [d, e] => .nx ((l.set i (some d)).set j (some e)) S1
  | _ => .bad) := id rfl
@[simp] theorem sPar3_ap (i j k : Nat) (fa : L → Store → R (List D)) l S : sPar3 i j k fa l S = ((fa l S).tos l fun ds S1 => match ds with
  | [d, e, f] => .nx (((l.set i (some d)).set j (some e)).set k (some f)) S1
  | _ => .bad) := id rfl
@[simp] theorem sAug_ap (i : Nat) (p : D → D → Store → Option D) (fe : L → Store → R D) l S : sAug i p fe l S = (match l[i]? with
  | some (some x) => (fe l S).tos l fun y S1 => match p x y S1 with
    | some z => .nx (l.set i (some z)) S1
    | none => .bad
  | _ => .bad) := id rfl
@[simp] theorem mMeth_ap (T : String) (pm : D → List D → Store → Option (D × Store)) (fo : L → Store → R D) (fa : L → Store → R (List D)) l S : mMeth T pm fo fa l S = ((fo l S).bnd fun d S1 => if tyD d S1 = T then (fa l S1).bnd fun ds S2 => match pm d ds S2 with
    | some (r, S3) => .ok r S3
    | none => .bad
  else .bad) := id rfl
@[simp] theorem mIsi_ap (p : D → Store → Option D) (f : L → Store → R D) l S : mIsi p f l S = (f l S).bnd fun d S1 => ofO (p d S1) S1 := id rfl
@[simp] theorem aStar_ap (f : L → Store → R D) (g : L → Store → R (List D)) l S : aStar f g l S = (f l S).bnd fun d S1 => (ofO (seqD d S1) S1).bnd fun xs S2 => (g l S2).bnd fun ds S3 => .ok (xs ++ ds) S3 := id rfl
@[simp] theorem eFmt_ap (f : L → Store → R D) l S : eFmt f l S = ((f l S).bnd fun d S1 => match d with
  | .str y => if y.length ≤ sizeLine then .ok (.str y) S1 else .bad
  | .int i => if i.natAbs.log2 < 1920 then .ok (.str (toString i)) S1 else .bad
  | _ => .bad) := id rfl
@[simp] theorem iZip2_ap (fa : L → Store → R (List D)) l S : iZip2 fa l S = ((fa l S).bnd fun ds S1 => match ds with
  | [d, e] => match sq1 d S1, sq1 e S1 with
    | some x, some y => .ok (zipD x.1 y.1, x.2 ++ y.2) S1
    | _, _ => .bad
  | _ => .bad) := id rfl
@[simp] theorem iZip3_ap (fa : L → Store → R (List D)) l S : iZip3 fa l S = ((fa l S).bnd fun ds S1 => match ds with
  | [d, e, f] => match sq1 d S1, sq1 e S1, sq1 f S1 with
    | some x, some y, some z => .ok (zip3D x.1 y.1 z.1, x.2 ++ (y.2 ++ z.2)) S1
    | _, _, _ => .bad
  | _ => .bad) := id rfl
@[simp] theorem iEnu_ap (fa : L → Store → R (List D)) l S : iEnu fa l S = ((fa l S).bnd fun ds S1 => match ds with
  | [d] => match sq1 d S1 with
    | some x => .ok (enuD x.1, x.2) S1
    | none => .bad
  | _ => .bad) := id rfl
@[simp] theorem eCallK_ap (n a b : Nat) (ix : List Nat) (g : List D → Store → R D) (fa fk : L → Store → R (List D)) l S : eCallK n a b ix g fa fk l S = (fa l S).bnd fun ds S1 => (fk l S1).bnd fun es S2 => if ds.length = a ∧ es.length = b ∧ (gIx ix (ds ++ es)).length = n then g (gIx ix (ds ++ es)) S2 else .bad := id rfl
@[simp] theorem eFld_ap (C f : Str) (fo : L → Store → R D) l S : eFld C f fo l S = (fo l S).bnd fun d S1 => ofO (pFld C f d S1) S1 := id rfl
@[simp] theorem eProp_ap (C : Str) (g : List D → Store → R D) (fo : L → Store → R D) l S : eProp C g fo l S = ((fo l S).bnd fun d S1 => match insOf C d S1 with
  | some _ => (g [d] S1).noX
  | none => .bad) := id rfl
@[simp] theorem eUm_ap (C m : Str) (n : Nat) (g : List D → Store → R D) (fo : L → Store → R D) (fa : L → Store → R (List D)) l S : eUm C m n g fo fa l S = ((fo l S).bnd fun d S1 => match insOf C d S1 with
  | some x => if m ∈ x.1 then .bad else (fa l S1).bnd fun ds S2 => if ds.length + 1 = n then g (d :: ds) S2 else .bad
  | none => .bad) := id rfl
@[simp] theorem eUmK_ap (C m : Str) (n a b : Nat) (ix : List Nat) (g : List D → Store → R D) (fo : L → Store → R D) (fa fk : L → Store → R (List D)) l S : eUmK C m n a b ix g fo fa fk l S = ((fo l S).bnd fun d S1 => match insOf C d S1 with
  | some x => if m ∈ x.1 then .bad else (fa l S1).bnd fun ds S2 => (fk l S2).bnd fun es S3 => if ds.length = a ∧ es.length = b ∧ (gIx ix (d :: ds ++ es)).length = n then g (gIx ix (d :: ds ++ es)) S3 else .bad
  | none => .bad) := id rfl
@[simp] theorem eMake_ap (tr : Bool) (C : Str) (n : Nat) (g : List D → Store → R D) (fa : L → Store → R (List D)) l S : eMake tr C n g fa l S = ((fa l S).bnd fun ds S1 => if ds.length + 1 = n then (g (.loc S1.length :: ds) (S1 ++ [.ins C [] []])).bnd fun r S2 => match r with
    | .non => fin tr S1 (.loc S1.length) S2
    | _ => .bad
  else .bad) := id rfl
@[simp] theorem eMakeK_ap (tr : Bool) (C : Str) (n a b : Nat) (ix : List Nat) (g : List D → Store → R D) (fa fk : L → Store → R (List D)) l S : eMakeK tr C n a b ix g fa fk l S = ((fa l S).bnd fun ds S1 => (fk l S1).bnd fun es S1 => if ds.length = a ∧ es.length = b ∧ (gIx ix (.loc S1.length :: ds ++ es)).length = n then (g (gIx ix (.loc S1.length :: ds ++ es)) (S1 ++ [.ins C [] []])).bnd fun r S2 => match r with
    | .non => fin tr S1 (.loc S1.length) S2
    | _ => .bad
  else .bad) := id rfl
@[simp] theorem sSetF_ap (C f : Str) (fo fv : L → Store → R D) l S : sSetF C f fo fv l S = ((fv l S).tos l fun d S1 => (fo l S1).tos l fun o S2 => match setFl C f o d S2 with
  | some S3 => .nx l S3
  | none => .bad) := id rfl
@[simp] theorem R.tos_ok {α : Type} (a : α) (S : Store) (l : L) (f : α → Store → Fl) (t : Tg f) : (R.ok a S).tos l f t = f a S := id rfl
@[simp] theorem R.tos_bad {α : Type} (l : L) (f : α → Store → Fl) (t : Tg f) : (R.bad : R α).tos l f t = .bad := id rfl
@[simp] theorem R.tos_exc {α : Type} (e : Exc) (S : Store) (l : L) (f : α → Store → Fl) (t : Tg f) : (R.exc e S : R α).tos l f t = .exc e l S := id rfl
@[simp] theorem Fl.thn_nx (l : L) (S : Store) (f : L → Store → Fl) (t : Tg f) : (Fl.nx l S).thn f t = f l S := id rfl
@[simp] theorem Fl.thn_rt (d : D) (S : Store) (f : L → Store → Fl) (t : Tg f) : (Fl.rt d S).thn f t = .rt d S := id rfl
@[simp] theorem Fl.thn_bk (l : L) (S : Store) (f : L → Store → Fl) (t : Tg f) : (Fl.bk l S).thn f t = .bk l S := id rfl
@[simp] theorem Fl.thn_ct (l : L) (S : Store) (f : L → Store → Fl) (t : Tg f) : (Fl.ct l S).thn f t = .ct l S := id rfl
@[simp] theorem Fl.thn_exc (e : Exc) (l : L) (S : Store) (f : L → Store → Fl) (t : Tg f) : (Fl.exc e l S).thn f t = .exc e l S := id rfl
@[simp] theorem Fl.thn_bad (f : L → Store → Fl) (t : Tg f) : Fl.bad.thn f t = .bad := id rfl
@[simp] theorem finish_nx (tr : Bool) (S0 : Store) (l : L) (S : Store) : finish tr S0 (.nx l S) = fin tr S0 .non S := id rfl
@[simp] theorem finish_rt (tr : Bool) (S0 : Store) (d : D) (S : Store) : finish tr S0 (.rt d S) = fin tr S0 d S := id rfl
@[simp] theorem finish_exc (tr : Bool) (S0 : Store) (e : Exc) (l : L) (S : Store) : finish tr S0 (.exc e l S) = .exc e S := id rfl
@[simp] theorem fin_no (S0 : Store) (d : D) (S : Store) : fin false S0 d S = .ok d S := id rfl
theorem R.bnd_ite {α β : Type} (c : Prop) [Decidable c] (a b : R α) (f : α → Store → R β) (t : Tg f) : (if c then a else b).bnd f t = if c then a.bnd f t else b.bnd f t := by split <;> rfl
theorem R.tos_ite {α : Type} (c : Prop) [Decidable c] (a b : R α) (l : L) (f : α → Store → Fl) (t : Tg f) : (if c then a else b).tos l f t = if c then a.tos l f t else b.tos l f t := by split <;> rfl
theorem Fl.thn_ite (c : Prop) [Decidable c] (a b : Fl) (f : L → Store → Fl) (t : Tg f) : (if c then a else b).thn f t = if c then a.thn f t else b.thn f t := by split <;> rfl
/-- operators at given shapes -/
@[simp] theorem nt_int (i : Int) : nt (.int i) = .int i := id rfl
@[simp] theorem nt_str (i : Str) : nt (.str i) = .str i := id rfl
@[simp] theorem nt_tup (i : List D) : nt (.tup i) = .tup i := id rfl
@[simp] theorem nt_tpn (i : List D) : nt (.tpn i) = .tup i := id rfl
@[simp] theorem nt_lst (i : List D) : nt (.lst i) = .lst i := id rfl
@[simp] theorem nt_scr (i : List D) : nt (.scr i) = .scr i := id rfl
@[simp] theorem nt_non : nt .non = .non := id rfl
@[simp] theorem nt_bl (b : Bool) : nt (.bl b) = .bl b := id rfl
@[simp] theorem nt_loc (n : Nat) : nt (.loc n) = .loc n := id rfl
@[simp] theorem pAdd_ii (i j : Int) (S : Store) : pAdd (.int i) (.int j) S = some (.int (i + j)) := id rfl
@[simp] theorem pSub_ii (i j : Int) (S : Store) : pSub (.int i) (.int j) S = some (.int (i - j)) := id rfl
@[simp] theorem pLt_ii (i j : Int) (S : Store) : pLt (.int i) (.int j) S = some (.bl (decide (i < j))) := id rfl
@[simp] theorem pLe_ii (i j : Int) (S : Store) : pLe (.int i) (.int j) S = some (.bl (decide (i ≤ j))) := id rfl
@[simp] theorem pGt_ii (i j : Int) (S : Store) : pGt (.int i) (.int j) S = some (.bl (decide (j < i))) := id rfl
@[simp] theorem pGe_ii (i j : Int) (S : Store) : pGe (.int i) (.int j) S = some (.bl (decide (j ≤ i))) := id rfl
@[simp] theorem pAddI_ii (i j : Int) (S : Store) : pAddI (.int i) (.int j) S = some (.int (i + j)) := id rfl
@[simp] theorem pSubI_ii (i j : Int) (S : Store) : pSubI (.int i) (.int j) S = some (.int (i - j)) := id rfl
end HL
end
section
set_option Elab.async false
set_option linter.all false
set_option maxRecDepth 100000
set_option maxHeartbeats 1000000
namespace HL
open PySem PySem.Spec L2
@[simp] theorem sizeLine_eq : sizeLine = 16777216 := id rfl
@[simp] theorem seqL_lst (xs : List D) (S : Store) : seqL (.lst xs) S = some xs := id rfl
@[simp] theorem seqL_scr (xs : List D) (S : Store) : seqL (.scr xs) S = some xs := id rfl
@[simp] theorem seqL_loc (n : Nat) (S : Store) : seqL (.loc n) S = (match S[n]? with
    | some (.lst xs) => some xs
    | _ => none) := id rfl
@[simp] theorem seqD_lst (xs : List D) (S : Store) : seqD (.lst xs) S = some xs := id rfl
@[simp] theorem seqD_scr (xs : List D) (S : Store) : seqD (.scr xs) S = some xs := id rfl
@[simp] theorem seqD_tup (xs : List D) (S : Store) : seqD (.tup xs) S = some xs := id rfl
@[simp] theorem seqD_tpn (xs : List D) (S : Store) : seqD (.tpn xs) S = some xs := id rfl
@[simp] theorem seqD_loc (n : Nat) (S : Store) : seqD (.loc n) S = (match S[n]? with
    | some (.lst xs) => some xs
    | _ => none) := id rfl
@[simp] theorem itemsV_lst (xs : List D) (S : Store) : itemsV (.lst xs) S = some (xs, []) := id rfl
@[simp] theorem itemsV_scr (xs : List D) (S : Store) : itemsV (.scr xs) S = some (xs, []) := id rfl
@[simp] theorem itemsV_tup (xs : List D) (S : Store) : itemsV (.tup xs) S = some (xs, []) := id rfl
@[simp] theorem itemsV_tpn (xs : List D) (S : Store) : itemsV (.tpn xs) S = some (xs, []) := id rfl
@[simp] theorem itemsV_loc (n : Nat) (S : Store) : itemsV (.loc n) S = (match S[n]? with
    | some (.lst xs) => some (xs, [(n, xs)])
    | _ => none) := id rfl
@[simp] theorem itemsV_str (z : Str) (S : Store) : itemsV (.str z) S = some (z.cps.toList.map fun c => .str ⟨#[c]⟩, []) := id rfl
@[simp] theorem sq1_lst (xs : List D) (S : Store) : sq1 (.lst xs) S = some (xs, []) := id rfl
@[simp] theorem sq1_scr (xs : List D) (S : Store) : sq1 (.scr xs) S = some (xs, []) := id rfl
@[simp] theorem sq1_tup (xs : List D) (S : Store) : sq1 (.tup xs) S = some (xs, []) := id rfl
@[simp] theorem sq1_tpn (xs : List D) (S : Store) : sq1 (.tpn xs) S = some (xs, []) := id rfl
@[simp] theorem sq1_loc (n : Nat) (S : Store) : sq1 (.loc n) S = (match S[n]? with
    | some (.lst xs) => some (xs, [(n, xs)])
    | _ => none) := id rfl
@[simp] theorem held_nil (S : Store) : held [] S = True := id rfl
@[simp] theorem held_cons (n : Nat) (xs : List D) (w : Hld) (S : Store) : held ((n, xs) :: w) S = (S[n]? = some (.lst xs) ∧ held w S) := id rfl
@[simp] theorem setA_nil {α : Type} (l : List (Option α)) : setA l [] = l := id rfl
@[simp] theorem setA_cons {α : Type} (l : List (Option α)) (i : Nat) (d : α) (r : List (Nat × α)) : setA l ((i, d) :: r) = setA (l.set i (some d)) r := id rfl
@[simp] theorem wp_nil {α : Type} (l : List (Option α)) : wp l [] = l := id rfl
@[simp] theorem wp_cons {α : Type} (l : List (Option α)) (v : Nat) (vs : List Nat) : wp l (v :: vs) = (wp l vs).set v none := id rfl
/-! places -/
@[simp] theorem pIx_lst (xs : List D) (i : Int) (S : Store) : pIx (.lst xs) (.int i) S = atI xs i := id rfl
@[simp] theorem pIx_scr (xs : List D) (i : Int) (S : Store) : pIx (.scr xs) (.int i) S = atI xs i := id rfl
@[simp] theorem pIx_tup (xs : List D) (i : Int) (S : Store) : pIx (.tup xs) (.int i) S = atI xs i := id rfl
@[simp] theorem pIx_tpn (xs : List D) (i : Int) (S : Store) : pIx (.tpn xs) (.int i) S = atI xs i := id rfl
@[simp] theorem pIx_loc (n : Nat) (i : Int) (S : Store) : pIx (.loc n) (.int i) S = (seqD (.loc n) S).bind fun xs => atI xs i := id rfl
theorem ixN_pos {n : Nat} {i : Int} (h : 0 ≤ i) : ixN n i = if i.toNat < n then some i.toNat else none := by
  unfold ixN
  rw [if_pos h]
  by_cases e : i < (n : Int)
  · rw [if_pos e, if_pos (by omega)]
  · rw [if_neg e, if_neg (by omega)]
@[simp] theorem ixN_nat (n k : Nat) : ixN n (k : Int) = if k < n then some k else none := by
  rw [ixN_pos (by omega)]
  rfl
@[simp] theorem ixN_lit (n k : Nat) : ixN n (no_index (OfNat.ofNat k : Int)) = if k < n then some k else none := ixN_nat n k
@[simp] theorem ixN_zero (n : Nat) : ixN n 0 = if 0 < n then some 0 else none := ixN_nat n 0
@[simp] theorem ixN_one (n : Nat) : ixN n 1 = if 1 < n then some 1 else none := ixN_nat n 1
theorem atI_pos {α : Type} {xs : List α} {i : Int} (h : 0 ≤ i) : atI xs i = xs[i.toNat]? := by
  unfold atI
  rw [ixN_pos h]
  split
  · rfl
  · rename_i e
    rw [List.getElem?_eq_none (by omega)]
    rfl
@[simp] theorem atI_nat {α : Type} (xs : List α) (k : Nat) : atI xs (k : Int) = xs[k]? := atI_pos (by omega)
@[simp] theorem atI_lit {α : Type} (xs : List α) (k : Nat) : atI xs (no_index (OfNat.ofNat k : Int)) = xs[k]? := atI_nat xs k
@[simp] theorem atI_zero {α : Type} (xs : List α) : atI xs 0 = xs[0]? := atI_nat xs 0
@[simp] theorem atI_one {α : Type} (xs : List α) : atI xs 1 = xs[1]? := atI_nat xs 1
@[simp] theorem atI_neg1 {α : Type} (xs : List α) : atI xs (-1) = xs.getLast? := by
  unfold atI ixN
  rw [if_neg (by decide)]
  cases xs with
  | nil => rfl
  | cons x xs =>
    rw [if_pos (by simp only [List.length_cons]; omega)]
    show (x :: xs)[((-1 : Int) + ((x :: xs).length : Nat)).toNat]? = _
    rw [List.getLast?_eq_getElem?]
    congr 1
    simp only [List.length_cons]
    omega
@[simp] theorem setIx_loc (n : Nat) (k : Int) (d : D) (S : Store) : setIx (.loc n) (.int k) d S = (match S[n]? with
    | some (.lst xs) => match ixN xs.length k with
      | some j => some (S.set n (.lst (xs.set j d)))
      | none => none
    | _ => none) := id rfl
/-! numbers -/
theorem pMul_ii (i j : Int) (S : Store) : pMul (.int i) (.int j) S = if CMul i j then some (.int (i * j)) else none := by rw [pMul]
@[simp] theorem pDiv_ii (i j : Int) (S : Store) : pDiv (.int i) (.int j) S = if CDiv i j then some (.int (i / j)) else none := by rw [pDiv]
@[simp] theorem pMod_ii (i j : Int) (S : Store) : pMod (.int i) (.int j) S = if 0 < j then some (.int (i % j)) else none := by rw [pMod]
@[simp] theorem pPow_ii (i j : Int) (S : Store) : pPow (.int i) (.int j) S = if CPow i j then some (.int (i ^ j.toNat)) else none := by rw [pPow]
theorem CMul_l {i j : Int} (h : -18446744073709551616 < i) (h2 : i < 18446744073709551616) : CMul i j := .inl ⟨h, h2⟩
theorem CMul_r {i j : Int} (h : -18446744073709551616 < j) (h2 : j < 18446744073709551616) : CMul i j := .inr ⟨h, h2⟩
@[simp] theorem CMul_litr (i : Int) (k : Nat) : CMul i (no_index (OfNat.ofNat k : Int)) ↔ (-18446744073709551616 < i ∧ i < 18446744073709551616) ∨ (k : Int) < 18446744073709551616 := by
  have e : (OfNat.ofNat k : Int) = (k : Int) := rfl
  unfold CMul
  rw [e]
  constructor
  · rintro (h | h)
    · exact .inl h
    · exact .inr h.2
  · rintro (h | h)
    · exact .inl h
    · exact .inr ⟨by omega, h⟩
@[simp] theorem CMul_litl (i : Int) (k : Nat) : CMul (no_index (OfNat.ofNat k : Int)) i ↔ (k : Int) < 18446744073709551616 ∨ (-18446744073709551616 < i ∧ i < 18446744073709551616) := by
  have e : (OfNat.ofNat k : Int) = (k : Int) := rfl
  unfold CMul
  rw [e]
  constructor
  · rintro (h | h)
    · exact .inl h.2
    · exact .inr h
  · rintro (h | h)
    · exact .inl ⟨by omega, h⟩
    · exact .inr h
theorem pMul_ok {i j : Int} (h : CMul i j) (S : Store) : pMul (.int i) (.int j) S = some (.int (i * j)) := by rw [pMul_ii, if_pos h]
@[simp] theorem pMul_litr (i : Int) (k : Nat) (S : Store) (h : k < 18446744073709551616) : pMul (.int i) (.int (no_index (OfNat.ofNat k : Int))) S = some (.int (i * (OfNat.ofNat k : Int))) := pMul_ok (by rw [CMul_litr]; exact .inr (by omega)) S
@[simp] theorem pMul_litl (i : Int) (k : Nat) (S : Store) (h : k < 18446744073709551616) : pMul (.int (no_index (OfNat.ofNat k : Int))) (.int i) S = some (.int ((OfNat.ofNat k : Int) * i)) := pMul_ok (by rw [CMul_litl]; exact .inl (by omega)) S
@[simp] theorem CDiv_lit (i : Int) (k : Nat) : CDiv i (no_index (OfNat.ofNat k : Int)) ↔ 0 < k ∧ k < 1073741824 := by
  have e : (OfNat.ofNat k : Int) = (k : Int) := rfl
  unfold CDiv
  rw [e]
  omega
@[simp] theorem pInt_i (i : Int) (S : Store) : pInt [.int i] S = some (.int i) := id rfl
@[simp] theorem pInt_b (b : Bool) (S : Store) : pInt [.bl b] S = some (.int (if b then 1 else 0)) := id rfl
@[simp] theorem pAbs_i (i : Int) (S : Store) : pAbs [.int i] S = some (.int (if i < 0 then -i else i)) := id rfl
@[simp] theorem pDivmod_ii (i j : Int) (S : Store) : pDivmod [.int i, .int j] S = if CDiv i j then some (.tup [.int (i / j), .int (i % j)]) else none := by rw [pDivmod]
@[simp] theorem pMin2_ii (i j : Int) (S : Store) : pMin2 [.int i, .int j] S = some (.int (min i j)) := by
  show some (D.int (if j < i then j else i)) = _
  congr 2
  omega
@[simp] theorem pMax2_ii (i j : Int) (S : Store) : pMax2 [.int i, .int j] S = some (.int (max i j)) := by
  show some (D.int (if j > i then j else i)) = _
  congr 2
  omega
@[simp] theorem pBool_i (i : Int) (S : Store) : pBool [.int i] S = some (.bl (i != 0)) := id rfl
@[simp] theorem pBool_b (b : Bool) (S : Store) : pBool [.bl b] S = some (.bl b) := id rfl
@[simp] theorem pIsB_bb (a b : Bool) (S : Store) : pIsB (.bl a) (.bl b) S = some (.bl (decide (a = b))) := id rfl
@[simp] theorem pNotB_bb (a b : Bool) (S : Store) : pNotB (.bl a) (.bl b) S = some (.bl (!decide (a = b))) := id rfl
/-! what is None, of which type -/
@[simp] theorem pIsN_non (S : Store) : pIsN .non .non S = some (.bl true) := id rfl
@[simp] theorem pIsN_int (i : Int) (S : Store) : pIsN (.int i) .non S = some (.bl false) := id rfl
@[simp] theorem pIsN_bl (i : Bool) (S : Store) : pIsN (.bl i) .non S = some (.bl false) := id rfl
@[simp] theorem pIsN_str (i : Str) (S : Store) : pIsN (.str i) .non S = some (.bl false) := id rfl
@[simp] theorem pIsN_tup (i : List D) (S : Store) : pIsN (.tup i) .non S = some (.bl false) := id rfl
@[simp] theorem pIsN_tpn (i : List D) (S : Store) : pIsN (.tpn i) .non S = some (.bl false) := id rfl
@[simp] theorem pIsN_lst (i : List D) (S : Store) : pIsN (.lst i) .non S = some (.bl false) := id rfl
@[simp] theorem pIsN_loc (i : Nat) (S : Store) : pIsN (.loc i) .non S = some (.bl false) := id rfl
@[simp] theorem pNotN_non (S : Store) : pNotN .non .non S = some (.bl false) := id rfl
@[simp] theorem pNotN_int (i : Int) (S : Store) : pNotN (.int i) .non S = some (.bl true) := id rfl
@[simp] theorem pNotN_bl (i : Bool) (S : Store) : pNotN (.bl i) .non S = some (.bl true) := id rfl
@[simp] theorem pNotN_str (i : Str) (S : Store) : pNotN (.str i) .non S = some (.bl true) := id rfl
@[simp] theorem pNotN_tup (i : List D) (S : Store) : pNotN (.tup i) .non S = some (.bl true) := id rfl
@[simp] theorem pNotN_tpn (i : List D) (S : Store) : pNotN (.tpn i) .non S = some (.bl true) := id rfl
@[simp] theorem pNotN_lst (i : List D) (S : Store) : pNotN (.lst i) .non S = some (.bl true) := id rfl
@[simp] theorem pNotN_loc (i : Nat) (S : Store) : pNotN (.loc i) .non S = some (.bl true) := id rfl
@[simp] theorem isiT_non (T : String) (S : Store) : isiT T .non S = some (.bl (subT "NoneType" T)) := id rfl
@[simp] theorem isiT_int (T : String) (i : Int) (S : Store) : isiT T (.int i) S = some (.bl (subT "int" T)) := id rfl
@[simp] theorem isiT_bl (T : String) (i : Bool) (S : Store) : isiT T (.bl i) S = some (.bl (subT "bool" T)) := id rfl
@[simp] theorem isiT_str (T : String) (i : Str) (S : Store) : isiT T (.str i) S = some (.bl (subT "str" T)) := id rfl
@[simp] theorem isiT_tup (T : String) (i : List D) (S : Store) : isiT T (.tup i) S = some (.bl (subT "tuple" T)) := id rfl
@[simp] theorem isiT_tpn (T : String) (i : List D) (S : Store) : isiT T (.tpn i) S = some (.bl (subT "tuple" T)) := id rfl
@[simp] theorem isiT_lst (T : String) (i : List D) (S : Store) : isiT T (.lst i) S = some (.bl (subT "list" T)) := id rfl
@[simp] theorem isiT_scr (T : String) (i : List D) (S : Store) : isiT T (.scr i) S = some (.bl (subT "list" T)) := id rfl
@[simp] theorem subT_tt : subT "tuple" "tuple" = true := by decide
@[simp] theorem subT_ss : subT "str" "str" = true := by decide
@[simp] theorem subT_ii : subT "int" "int" = true := by decide
@[simp] theorem subT_ib : subT "int" "bool" = false := by decide
@[simp] theorem subT_bi : subT "bool" "int" = true := by decide
@[simp] theorem subT_bb : subT "bool" "bool" = true := by decide
@[simp] theorem subT_nt : subT "NoneType" "tuple" = false := by decide
@[simp] theorem subT_ns : subT "NoneType" "str" = false := by decide
@[simp] theorem subT_ni : subT "NoneType" "int" = false := by decide
@[simp] theorem subT_lt : subT "list" "tuple" = false := by decide
@[simp] theorem subT_st : subT "str" "tuple" = false := by decide
@[simp] theorem subT_it : subT "int" "tuple" = false := by decide
@[simp] theorem isiC_ins (C : Str) (ks : List Str) (vs : List D) (S : Store) : isiC C (.ins C ks vs) S = some (.bl true) := if_pos rfl
/-! lists -/
@[simp] theorem pLen_lst (xs : List D) (S : Store) : pLen [.lst xs] S = some (.int xs.length) := id rfl
@[simp] theorem pLen_scr (xs : List D) (S : Store) : pLen [.scr xs] S = some (.int xs.length) := id rfl
@[simp] theorem pLen_tup (xs : List D) (S : Store) : pLen [.tup xs] S = some (.int xs.length) := id rfl
@[simp] theorem pLen_tpn (xs : List D) (S : Store) : pLen [.tpn xs] S = some (.int xs.length) := id rfl
@[simp] theorem pLen_str (z : Str) (S : Store) : pLen [.str z] S = if z.length ≤ sizeLine then some (.int z.length) else none := id rfl
@[simp] theorem pLen_loc (n : Nat) (S : Store) : pLen [.loc n] S = (seqD (.loc n) S).map fun xs => .int xs.length := id rfl
@[simp] theorem pLenS_lst (xs : List D) (S : Store) : pLenS [.lst xs] S = some (.int xs.length) := id rfl
@[simp] theorem pLenS_scr (xs : List D) (S : Store) : pLenS [.scr xs] S = some (.int xs.length) := id rfl
@[simp] theorem pLenS_tup (xs : List D) (S : Store) : pLenS [.tup xs] S = some (.int xs.length) := id rfl
@[simp] theorem pLenS_tpn (xs : List D) (S : Store) : pLenS [.tpn xs] S = some (.int xs.length) := id rfl
@[simp] theorem pLenS_str (z : Str) (S : Store) : pLenS [.str z] S = if z.length ≤ sizeLine then some (.int z.length) else none := id rfl
@[simp] theorem pLenS_loc (n : Nat) (S : Store) : pLenS [.loc n] S = (seqD (.loc n) S).map fun xs => .int xs.length := id rfl
@[simp] theorem pLenS_iset (n : Nat) (S : Store) : pLenS [.iset n] S = if n < 4096 then some (.int n) else none := id rfl
@[simp] theorem pTuple_tup (xs : List D) (S : Store) : pTuple [.tup xs] S = some (.tup xs) := id rfl
@[simp] theorem pTuple_tpn (xs : List D) (S : Store) : pTuple [.tpn xs] S = some (.tpn xs) := id rfl
@[simp] theorem pTuple_lst (xs : List D) (S : Store) : pTuple [.lst xs] S = some (.tpn xs) := id rfl
@[simp] theorem pTuple_scr (xs : List D) (S : Store) : pTuple [.scr xs] S = some (.tpn xs) := id rfl
@[simp] theorem pTuple_loc (n : Nat) (S : Store) : pTuple [.loc n] S = (seqL (.loc n) S).map fun xs => .tpn xs := id rfl
@[simp] theorem pList_ap (d : D) (S : Store) : pList [d] S = (seqD d S).map fun xs => .lst xs := id rfl
@[simp] theorem pSum_ap (d : D) (S : Store) : pSum [d] S = ((seqD d S).bind intsD).map fun ns => .int ns.sum := id rfl
@[simp] theorem pAll_ap (d : D) (S : Store) : pAll [d] S = ((seqL d S).bind blsD).map fun bs => .bl (bs.all id) := id rfl
@[simp] theorem pAny_ap (d : D) (S : Store) : pAny [d] S = ((seqL d S).bind blsD).map fun bs => .bl (bs.any id) := id rfl
@[simp] theorem intsD_nil : intsD [] = some [] := id rfl
@[simp] theorem intsD_cons (i : Int) (ds : List D) : intsD (.int i :: ds) = (intsD ds).map (i :: ·) := id rfl
@[simp] theorem intsD_map {α : Type} (f : α → Int) (xs : List α) : intsD (xs.map fun x => D.int (f x)) = some (xs.map f) := by
  induction xs with
  | nil => rfl
  | cons x xs ih => rw [List.map_cons, intsD_cons, ih]; rfl
@[simp] theorem intsD_map' (xs : List Int) : intsD (xs.map D.int) = some xs := by
  have := intsD_map id xs
  rwa [List.map_id] at this
@[simp] theorem blsD_nil : blsD [] = some [] := id rfl
@[simp] theorem blsD_cons (i : Bool) (ds : List D) : blsD (.bl i :: ds) = (blsD ds).map (i :: ·) := id rfl
@[simp] theorem blsD_map {α : Type} (f : α → Bool) (xs : List α) : blsD (xs.map fun x => D.bl (f x)) = some (xs.map f) := by
  induction xs with
  | nil => rfl
  | cons x xs ih => rw [List.map_cons, blsD_cons, ih]; rfl
@[simp] theorem blsD_map' (xs : List Bool) : blsD (xs.map D.bl) = some xs := by
  have := blsD_map id xs
  rwa [List.map_id] at this
@[simp] theorem strsD_map {α : Type} (f : α → Str) (xs : List α) : strsD (xs.map fun x => D.str (f x)) = some (xs.map f) := by
  induction xs with
  | nil => rfl
  | cons x xs ih => show (strsD (xs.map fun x => D.str (f x))).map _ = _; rw [ih]; rfl
@[simp] theorem strsD_map' (xs : List Str) : strsD (xs.map D.str) = some xs := by
  have := strsD_map id xs
  rwa [List.map_id] at this
@[simp] theorem pSl_tup (xs : List D) (lo hi : Option Int) (S : Store) : pSl (.tup xs) lo hi S = some (.tup (cutD xs lo hi)) := id rfl
@[simp] theorem pSl_tpn (xs : List D) (lo hi : Option Int) (S : Store) : pSl (.tpn xs) lo hi S = some (.tup (cutD xs lo hi)) := id rfl
@[simp] theorem pSl_lst (xs : List D) (lo hi : Option Int) (S : Store) : pSl (.lst xs) lo hi S = some (.lst (cutD xs lo hi)) := id rfl
@[simp] theorem pSl_scr (xs : List D) (lo hi : Option Int) (S : Store) : pSl (.scr xs) lo hi S = some (.lst (cutD xs lo hi)) := id rfl
@[simp] theorem pSl_loc (n : Nat) (lo hi : Option Int) (S : Store) : pSl (.loc n) lo hi S = (seqL (.loc n) S).map fun xs => .lst (cutD xs lo hi) := id rfl
@[simp] theorem cutD_none {α : Type} (xs : List α) : cutD xs none none = xs := by
  unfold cutD
  simp [HT.sIx]
theorem cutD_hi {α : Type} (xs : List α) (k : Nat) : cutD xs none (some (k : Int)) = xs.take k := by
  unfold cutD
  rw [HT.sIx_none, HT.sIx_nat, List.drop_zero, Nat.sub_zero]
  by_cases h : k ≤ xs.length
  · rw [Nat.min_eq_left h]
  · rw [Nat.min_eq_right (by omega), List.take_of_length_le (Nat.le_refl _), List.take_of_length_le (by omega)]
theorem cutD_lo {α : Type} (xs : List α) (k : Nat) : cutD xs (some (k : Int)) none = xs.drop k := by
  unfold cutD
  rw [HT.sIx_none, HT.sIx_nat]
  by_cases h : k ≤ xs.length
  · rw [Nat.min_eq_left h, List.take_of_length_le (by rw [List.length_drop]; omega)]
  · rw [Nat.min_eq_right (by omega), List.drop_of_length_le (Nat.le_refl _), List.drop_of_length_le (by omega), List.take_nil]
@[simp] theorem cutD_hiN {α : Type} (xs : List α) (k : Nat) : cutD xs none (some (k : Int)) = xs.take k := cutD_hi xs k
@[simp] theorem cutD_loN {α : Type} (xs : List α) (k : Nat) : cutD xs (some (k : Int)) none = xs.drop k := cutD_lo xs k
@[simp] theorem cutD_hiL {α : Type} (xs : List α) (k : Nat) : cutD xs none (some (no_index (OfNat.ofNat k : Int))) = xs.take k := cutD_hi xs k
@[simp] theorem cutD_loL {α : Type} (xs : List α) (k : Nat) : cutD xs (some (no_index (OfNat.ofNat k : Int))) none = xs.drop k := cutD_lo xs k
@[simp] theorem pAdd_ll (xs ys : List D) (S : Store) : pAdd (.lst xs) (.lst ys) S = if xs.length + ys.length ≤ sizeLine then some (.lst (xs ++ ys)) else none := id rfl
@[simp] theorem pAdd_tt (xs ys : List D) (S : Store) : pAdd (.tup xs) (.tup ys) S = if xs.length + ys.length ≤ sizeLine then some (.tup (xs ++ ys)) else none := id rfl
@[simp] theorem pAdd_nt (xs ys : List D) (S : Store) : pAdd (.tpn xs) (.tup ys) S = if xs.length + ys.length ≤ sizeLine then some (.tup (xs ++ ys)) else none := id rfl
@[simp] theorem pAdd_tn (xs ys : List D) (S : Store) : pAdd (.tup xs) (.tpn ys) S = if xs.length + ys.length ≤ sizeLine then some (.tup (xs ++ ys)) else none := id rfl
@[simp] theorem pAdd_nn (xs ys : List D) (S : Store) : pAdd (.tpn xs) (.tpn ys) S = if xs.length + ys.length ≤ sizeLine then some (.tup (xs ++ ys)) else none := id rfl
/-! methods -/
@[simp] theorem tyD_loc (n : Nat) (S : Store) : tyD (.loc n) S = (match S[n]? with
    | some (.lst _) => "list"
    | some (.dct _ _) => "dict"
    | _ => "") := id rfl
@[simp] theorem tyD_lst (xs : List D) (S : Store) : tyD (.lst xs) S = "list" := id rfl
@[simp] theorem tyD_scr (xs : List D) (S : Store) : tyD (.scr xs) S = "list" := id rfl
@[simp] theorem tyD_tpn (xs : List D) (S : Store) : tyD (.tpn xs) S = "tuple" := id rfl
@[simp] theorem tyD_str (z : Str) (S : Store) : tyD (.str z) S = "str" := id rfl
@[simp] theorem tyD_int (z : Int) (S : Store) : tyD (.int z) S = "int" := id rfl
@[simp] theorem qAppend_loc (n : Nat) (e : D) (S : Store) : qAppend (.loc n) [e] S = (match S[n]? with
    | some (.lst xs) => if xs.length < sizeLine then some (.non, S.set n (.lst (xs ++ [e]))) else none
    | _ => none) := id rfl
@[simp] theorem qExtend_loc (n : Nat) (ys : List D) (S : Store) : qExtend (.loc n) [.lst ys] S = (match S[n]? with
    | some (.lst xs) => if xs.length + ys.length ≤ sizeLine then some (.non, S.set n (.lst (xs ++ ys))) else none
    | _ => none) := id rfl
@[simp] theorem qPop_loc (n : Nat) (S : Store) : qPop (.loc n) [] S = (match S[n]? with
    | some (.lst xs) => match xs.getLast? with
      | some e => some (e, S.set n (.lst xs.dropLast))
      | none => none
    | _ => none) := id rfl
@[simp] theorem same1_ap (p : D → List D → Store → Option D) (d : D) (ds : List D) (S : Store) : same1 p d ds S = (p d ds S).map fun r => (r, S) := id rfl
@[simp] theorem pIndexT_tpn (xs : List D) (z : Str) (S : Store) : pIndexT (.tpn xs) [.str z] S = (strsD xs).bind fun ys => (ys.findIdx? fun y => y == z).map fun (j : Nat) => D.int (j : Int) := id rfl
/-! comprehensions -/
/-- one item: what it adds -/
def cStep (g : Tgt) (t : L → Store → R Bool) (e : L → Store → R D) (l : L) (d : D) (S : Store) : Option (Option D × Store) := match g d S with
  | none => none
  | some as => match t (setA l as) S with
    | .ok true S1 => match e (setA l as) S1 with
      | .ok y S2 => some (some y, S2)
      | _ => none
    | .ok false S1 => some (none, S1)
    | _ => none
theorem cGo_nil {g : Tgt} {t : L → Store → R Bool} {e : L → Store → R D} {w : Hld} {l : L} {n : Nat} {S : Store} (h : held w S) : cGo g t e w l [] n S = some ([], S) := by
  rw [cGo, if_pos h]
theorem cGo_some {g : Tgt} {t : L → Store → R Bool} {e : L → Store → R D} {w : Hld} {l : L} {n : Nat} {S S1 : Store} {d y : D} {ds : List D} (h : held w S) (c : cStep g t e l d S = some (some y, S1)) (hn : n < sizeLine) :
    cGo g t e w l (d :: ds) n S = (cGo g t e w l ds (n + 1) S1).map fun r => (y :: r.1, r.2) := by
  rw [cGo, if_pos h]
  unfold cStep at c
  split at c
  · exact nomatch c
  · rename_i as ha
    try rw [ha]
    try dsimp only
    split at c
    · rename_i S2 ht
      try rw [ht]
      try dsimp only
      split at c
      · rename_i y2 S3 he
        cases c
        try rw [he]
        try dsimp only
        rw [if_pos hn]
        cases cGo g t e w l ds (n + 1) S1 <;> rfl
      · exact nomatch c
    · exact nomatch c
    · exact nomatch c
theorem cGo_none {g : Tgt} {t : L → Store → R Bool} {e : L → Store → R D} {w : Hld} {l : L} {n : Nat} {S S1 : Store} {d : D} {ds : List D} (h : held w S) (c : cStep g t e l d S = some (none, S1)) :
    cGo g t e w l (d :: ds) n S = cGo g t e w l ds n S1 := by
  rw [cGo, if_pos h]
  unfold cStep at c
  split at c
  · exact nomatch c
  · rename_i as ha
    try rw [ha]
    try dsimp only
    split at c
    · rename_i S2 ht
      try rw [ht]
      try dsimp only
      split at c <;> exact nomatch c
    · rename_i S2 ht
      cases c
      try rw [ht]
      all_goals rfl
    · exact nomatch c
/-- nothing is changed: what stands at the end -/
theorem cGo_pure {α : Type} {en : α → D} {f : α → Option D} {g : Tgt} {t : L → Store → R Bool} {e : L → Store → R D} {w : Hld} {l : L} {S : Store} (hw : held w S) : ∀ {xs : List α} {n : Nat}, (∀ x ∈ xs, cStep g t e l (en x) S = some (f x, S)) → n + xs.length ≤ sizeLine →
    cGo g t e w l (xs.map en) n S = some (xs.filterMap f, S)
  | [], n, _, _ => cGo_nil hw
  | x :: xs, n, h, hn => by
    rw [List.length_cons] at hn
    have hx := h x (.head _)
    rw [List.map_cons]
    cases q : f x with
    | none =>
      rw [q] at hx
      rw [cGo_none hw hx, cGo_pure hw (fun y hy => h y (.tail _ hy)) (by omega), List.filterMap_cons_none q]
    | some y =>
      rw [q] at hx
      rw [cGo_some hw hx (by omega), cGo_pure hw (fun y hy => h y (.tail _ hy)) (by omega), List.filterMap_cons_some q]
      rfl
theorem cGo_map {α : Type} {en : α → D} {f : α → D} {g : Tgt} {t : L → Store → R Bool} {e : L → Store → R D} {w : Hld} {l : L} {S : Store} {xs : List α} {n : Nat} (h : ∀ x ∈ xs, cStep g t e l (en x) S = some (some (f x), S)) (hn : n + xs.length ≤ sizeLine) (hw : held w S) :
    cGo g t e w l (xs.map en) n S = some (xs.map f, S) := by
  rw [cGo_pure (f := fun x => some (f x)) hw h hn]
  simp
theorem cGo_filter {α : Type} {en : α → D} {f : α → D} {p : α → Bool} {g : Tgt} {t : L → Store → R Bool} {e : L → Store → R D} {w : Hld} {l : L} {S : Store} {xs : List α} {n : Nat} (h : ∀ x ∈ xs, cStep g t e l (en x) S = some (if p x = true then some (f x) else none, S)) (hn : n + xs.length ≤ sizeLine) (hw : held w S) :
    cGo g t e w l (xs.map en) n S = some ((xs.filter p).map f, S) := by
  rw [cGo_pure (f := fun x => if p x = true then some (f x) else none) hw h hn]
  congr 2
  clear h hn
  induction xs with
  | nil => rfl
  | cons x xs ih =>
    rw [List.filterMap_cons, List.filter_cons]
    by_cases c : p x = true
    · rw [if_pos c, if_pos c, List.map_cons, ih]
    · rw [if_neg c, if_neg c, ih]
/-- the store changes: an invariant of what is left and what is written -/
theorem cGo_inv {α : Type} {en : α → D} (I : List α → List D → Store → Prop) {g : Tgt} {t : L → Store → R Bool} {e : L → Store → R D} {w : Hld} {l : L} {xs : List α}
    (hw : ∀ ys out S, I ys out S → held w S)
    (h : ∀ x ys out S, x ∈ xs → I (x :: ys) out S → ∃ o S', cStep g t e l (en x) S = some (o, S') ∧ I ys (match o with | some y => out ++ [y] | none => out) S') :
    ∀ {zs : List α} {out : List D} {S : Store} {n : Nat}, (∀ z ∈ zs, z ∈ xs) → I zs out S → n + zs.length ≤ sizeLine → ∃ ys S', cGo g t e w l (zs.map en) n S = some (ys, S') ∧ I [] (out ++ ys) S'
  | [], out, S, n, _, hI, _ => ⟨[], S, cGo_nil (hw _ _ _ hI), by rwa [List.append_nil]⟩
  | z :: zs, out, S, n, hz, hI, hn => by
    rw [List.length_cons] at hn
    obtain ⟨o, S1, c, hI1⟩ := h z zs out S (hz z (.head _)) hI
    rw [List.map_cons]
    cases o with
    | none =>
      obtain ⟨ys, S', e2, hI2⟩ := cGo_inv I hw h (n := n) (fun y hy => hz y (.tail _ hy)) hI1 (by omega)
      exact ⟨ys, S', by rw [cGo_none (hw _ _ _ hI) c, e2], hI2⟩
    | some y =>
      obtain ⟨ys, S', e2, hI2⟩ := cGo_inv I hw h (n := n + 1) (fun y hy => hz y (.tail _ hy)) hI1 (by omega)
      exact ⟨y :: ys, S', by rw [cGo_some (hw _ _ _ hI) c (by omega), e2]; rfl, by rwa [List.append_assoc] at hI2⟩
/-! loops -/
theorem forGo_nil {g : Tgt} {b : L → Store → Fl} {w : Hld} {l : L} {S : Store} (h : held w S) : forGo g b w [] l S = .nx l S := by rw [forGo, if_pos h]
theorem forGo_cons {g : Tgt} {b : L → Store → Fl} {w : Hld} {l : L} {S : Store} {d : D} {ds : List D} {as : List (Nat × D)} (h : held w S) (hg : g d S = some as) :
    forGo g b w (d :: ds) l S = (match b (setA l as) S with
      | .nx l1 S1 => forGo g b w ds l1 S1
      | .ct l1 S1 => forGo g b w ds l1 S1
      | .bk l1 S1 => .nx l1 S1
      | .rt d S1 => .rt d S1
      | .exc e l1 S1 => .exc e l1 S1
      | .bad => .bad) := by
  rw [forGo, if_pos h, hg]
  try rfl
/-- how a loop goes on behind a body -/
@[irreducible] def Nxt (I : L → Store → Prop) (Q : Fl → Prop) : Fl → Prop
  | .nx l1 S1 => I l1 S1
  | .ct l1 S1 => I l1 S1
  | .bk l1 S1 => Q (.nx l1 S1)
  | .rt d S1 => Q (.rt d S1)
  | .exc e l1 S1 => Q (.exc e l1 S1)
  | .bad => Q .bad
@[simp] theorem Nxt_nx (I : L → Store → Prop) (Q : Fl → Prop) l S : Nxt I Q (.nx l S) = I l S := by rw [Nxt]
@[simp] theorem Nxt_ct (I : L → Store → Prop) (Q : Fl → Prop) l S : Nxt I Q (.ct l S) = I l S := by rw [Nxt]
@[simp] theorem Nxt_bk (I : L → Store → Prop) (Q : Fl → Prop) l S : Nxt I Q (.bk l S) = Q (.nx l S) := by rw [Nxt]
@[simp] theorem Nxt_rt (I : L → Store → Prop) (Q : Fl → Prop) l S : Nxt I Q (.rt l S) = Q (.rt l S) := by rw [Nxt]
@[simp] theorem Nxt_exc (I : L → Store → Prop) (Q : Fl → Prop) e l S : Nxt I Q (.exc e l S) = Q (.exc e l S) := by rw [Nxt]
@[simp] theorem Nxt_bad (I : L → Store → Prop) (Q : Fl → Prop) : Nxt I Q .bad = Q .bad := by rw [Nxt]
/-- by an invariant of what is left; Q of how it ends -/
theorem forGo_inv {α : Type} {en : α → D} (I : List α → L → Store → Prop) (Q : Fl → Prop) {g : Tgt} {b : L → Store → Fl} {w : Hld} {xs : List α}
    (h0 : ∀ l S, I [] l S → held w S ∧ Q (.nx l S))
    (hs : ∀ x ys l S, x ∈ xs → I (x :: ys) l S → held w S ∧ ∃ as, g (en x) S = some as ∧ Nxt (I ys) Q (b (setA l as) S)) :
    ∀ {zs : List α} {l : L} {S : Store}, (∀ z ∈ zs, z ∈ xs) → I zs l S → Q (forGo g b w (zs.map en) l S)
  | [], l, S, _, hI => by rw [List.map_nil, forGo_nil (h0 _ _ hI).1]; exact (h0 _ _ hI).2
  | z :: zs, l, S, hz, hI => by
    obtain ⟨hh, as, hg, hb⟩ := hs z zs l S (hz z (.head _)) hI
    rw [List.map_cons, forGo_cons hh hg]
    generalize b (setA l as) S = r at hb ⊢
    cases r with
    | nx l1 S1 => rw [Nxt_nx] at hb; exact forGo_inv I Q h0 hs (fun y hy => hz y (.tail _ hy)) hb
    | ct l1 S1 => rw [Nxt_ct] at hb; exact forGo_inv I Q h0 hs (fun y hy => hz y (.tail _ hy)) hb
    | bk l1 S1 => rw [Nxt_bk] at hb; exact hb
    | rt d S1 => rw [Nxt_rt] at hb; exact hb
    | exc e l1 S1 => rw [Nxt_exc] at hb; exact hb
    | bad => rw [Nxt_bad] at hb; exact hb
/-- a fold: st tells slots and store -/
theorem forGo_fold {α σ : Type} {en : α → D} (st : σ → L × Store) (f : σ → α → σ) {g : Tgt} {b : L → Store → Fl} {w : Hld} :
    ∀ {xs : List α} {s : σ}, (∀ s x, x ∈ xs → ∃ as, g (en x) (st s).2 = some as ∧ b (setA (st s).1 as) (st s).2 = .nx (st (f s x)).1 (st (f s x)).2) → (∀ s, held w (st s).2) →
    forGo g b w (xs.map en) (st s).1 (st s).2 = .nx (st (xs.foldl f s)).1 (st (xs.foldl f s)).2
  | [], s, _, hw => forGo_nil (hw s)
  | x :: xs, s, h, hw => by
    obtain ⟨as, hg, hb⟩ := h s x (.head _)
    rw [List.map_cons, forGo_cons (hw s) hg, hb]
    exact forGo_fold st f (fun s y hy => h s y (.tail _ hy)) hw
/-! instances -/
@[simp] theorem insOf_ins (C : Str) (ks : List Str) (vs : List D) (S : Store) : insOf C (.ins C ks vs) S = some (ks, vs) := if_pos rfl
@[simp] theorem insOf_loc (C : Str) (n : Nat) (S : Store) : insOf C (.loc n) S = (match S[n]? with
    | some (.ins C' ks vs) => if C' = C then some (ks, vs) else none
    | _ => none) := id rfl
@[simp] theorem pFld_ap (C f : Str) (d : D) (S : Store) : pFld C f d S = (insOf C d S).bind fun x => (x.1.zip x.2).lookup f := id rfl
@[simp] theorem noX_ok {α : Type} (a : α) (S : Store) : (R.ok a S).noX = .ok a S := id rfl
@[simp] theorem setFl_loc (C f : Str) (n : Nat) (d : D) (S : Store) : setFl C f (.loc n) d S = (match S[n]? with
    | some (.ins C' ks vs) => if C' = C ∧ ks.length < 1000 then some (S.set n (.ins C (putK f ks) (putV f d ks vs))) else none
    | _ => none) := id rfl
end HL
end
section
set_option Elab.async false
set_option linter.all false
set_option maxRecDepth 100000
set_option maxHeartbeats 1000000
namespace HL
open PySem PySem.Spec L2
mutual
/-- data of texts, numbers, truth values, None, tuples and lists, of at most this depth -/
def dok : Nat → D → Bool
  | _, .non => true
  | _, .bl _ => true
  | _, .int _ => true
  | _, .str x => PyData.strOk x
  | n + 1, .tup xs => doks n xs
  | n + 1, .tpn xs => doks n xs
  | n + 1, .lst xs => doks n xs
  | n + 1, .scr xs => doks n xs
  | _, _ => false
def doks : Nat → List D → Bool
  | _, [] => true
  | n, d :: ds => dok n d && doks n ds
end
@[simp] theorem dok_non (n : Nat) : dok n .non = true := by cases n <;> rfl
@[simp] theorem dok_bl (n : Nat) (b : Bool) : dok n (.bl b) = true := by cases n <;> rfl
@[simp] theorem dok_int (n : Nat) (i : Int) : dok n (.int i) = true := by cases n <;> rfl
@[simp] theorem dok_str (n : Nat) (x : Str) : dok n (.str x) = PyData.strOk x := by cases n <;> rfl
@[simp] theorem dok_tup (n : Nat) (xs : List D) : dok (n + 1) (.tup xs) = doks n xs := rfl
@[simp] theorem dok_tpn (n : Nat) (xs : List D) : dok (n + 1) (.tpn xs) = doks n xs := rfl
@[simp] theorem dok_lst (n : Nat) (xs : List D) : dok (n + 1) (.lst xs) = doks n xs := rfl
@[simp] theorem dok_scr (n : Nat) (xs : List D) : dok (n + 1) (.scr xs) = doks n xs := rfl
@[simp] theorem doks_nil (n : Nat) : doks n [] = true := rfl
@[simp] theorem doks_cons (n : Nat) (d : D) (ds : List D) : doks n (d :: ds) = (dok n d && doks n ds) := rfl
theorem doks_iff {n : Nat} : ∀ {ds : List D}, doks n ds = true ↔ ∀ d ∈ ds, dok n d = true
  | [] => by simp
  | d :: ds => by simp [doks_iff (ds := ds)]
theorem doks_map {α : Type} {n : Nat} {f : α → D} {xs : List α} (h : ∀ x ∈ xs, dok n (f x) = true) : doks n (xs.map f) = true := by
  rw [doks_iff]
  intro d hd
  obtain ⟨x, hx, rfl⟩ := List.mem_map.mp hd
  exact h x hx
@[simp] theorem doks_append {n : Nat} (xs ys : List D) : doks n (xs ++ ys) = (doks n xs && doks n ys) := by
  induction xs with
  | nil => rfl
  | cons x xs ih => rw [List.cons_append, doks_cons, doks_cons, ih, Bool.and_assoc]
@[simp] theorem encD_non : encD .non = .none := rfl
@[simp] theorem encD_bl (b : Bool) : encD (.bl b) = .bool b := rfl
@[simp] theorem encD_int (i : Int) : encD (.int i) = .int i := rfl
@[simp] theorem encD_str (x : Str) : encD (.str x) = .str x := rfl
theorem toPy_tup (xs : List D) : toPy (.tup xs) = (toPys xs).map .tuple := by rw [toPy]
theorem toPy_tpn (xs : List D) : toPy (.tpn xs) = (toPys xs).map .tuple := by rw [toPy]
theorem toPy_lst (xs : List D) : toPy (.lst xs) = (toPys xs).map .list := by rw [toPy]
theorem toPy_scr (xs : List D) : toPy (.scr xs) = (toPys xs).map .list := by rw [toPy]
mutual
theorem dok_py : ∀ {n : Nat} {d : D}, dok n d = true → toPy d = some (encD d) ∧ (encD d).canLay0 = true ∧ (encD d).depth ≤ n
  | n, .non, _ => ⟨rfl, rfl, Nat.zero_le _⟩
  | n, .bl b, _ => ⟨rfl, rfl, Nat.zero_le _⟩
  | n, .int i, _ => ⟨rfl, rfl, Nat.zero_le _⟩
  | n, .str x, h => ⟨rfl, by rw [dok_str] at h; exact h, Nat.zero_le _⟩
  | n + 1, .tup xs, h => by
    obtain ⟨a, b, c⟩ := doks_py (n := n) (ds := xs) h
    have e : encD (.tup xs) = .tuple (xs.map encD) := by
      show (toPy (.tup xs)).getD .none = _
      rw [toPy_tup, a]
      rfl
    rw [e]
    exact ⟨by rw [toPy_tup, a]; rfl, by rw [PyData.canLay0]; exact b, by rw [PyData.depth]; exact Nat.succ_le_succ c⟩
  | n + 1, .tpn xs, h => by
    obtain ⟨a, b, c⟩ := doks_py (n := n) (ds := xs) h
    have e : encD (.tpn xs) = .tuple (xs.map encD) := by
      show (toPy (.tpn xs)).getD .none = _
      rw [toPy_tpn, a]
      rfl
    rw [e]
    exact ⟨by rw [toPy_tpn, a]; rfl, by rw [PyData.canLay0]; exact b, by rw [PyData.depth]; exact Nat.succ_le_succ c⟩
  | n + 1, .lst xs, h => by
    obtain ⟨a, b, c⟩ := doks_py (n := n) (ds := xs) h
    have e : encD (.lst xs) = .list (xs.map encD) := by
      show (toPy (.lst xs)).getD .none = _
      rw [toPy_lst, a]
      rfl
    rw [e]
    exact ⟨by rw [toPy_lst, a]; rfl, by rw [PyData.canLay0]; exact b, by rw [PyData.depth]; exact Nat.succ_le_succ c⟩
  | n + 1, .scr xs, h => by
    obtain ⟨a, b, c⟩ := doks_py (n := n) (ds := xs) h
    have e : encD (.scr xs) = .list (xs.map encD) := by
      show (toPy (.scr xs)).getD .none = _
      rw [toPy_scr, a]
      rfl
    rw [e]
    exact ⟨by rw [toPy_scr, a]; rfl, by rw [PyData.canLay0]; exact b, by rw [PyData.depth]; exact Nat.succ_le_succ c⟩
  | 0, .tup _, h => nomatch h
  | 0, .tpn _, h => nomatch h
  | 0, .lst _, h => nomatch h
  | 0, .scr _, h => nomatch h
  | n, .iset _, h => by cases n <;> exact nomatch h
  | n, .ins _ _ _, h => by cases n <;> exact nomatch h
  | n, .err _ _ _, h => by cases n <;> exact nomatch h
  | n, .cls _, h => by cases n <;> exact nomatch h
  | n, .dic, h => by cases n <;> exact nomatch h
  | n, .loc _, h => by cases n <;> exact nomatch h
theorem doks_py : ∀ {n : Nat} {ds : List D}, doks n ds = true → toPys ds = some (ds.map encD) ∧ PyData.canLayAll0 (ds.map encD) = true ∧ PyData.depthAll (ds.map encD) ≤ n
  | n, [], _ => ⟨rfl, rfl, Nat.zero_le _⟩
  | n, d :: ds, h => by
    rw [doks_cons, Bool.and_eq_true] at h
    obtain ⟨a, b, c⟩ := dok_py h.1
    obtain ⟨a', b', c'⟩ := doks_py h.2
    refine ⟨by unfold toPys; rw [a, a']; rfl, ?_, ?_⟩
    · rw [List.map_cons, PyData.canLayAll0, b, b']
      rfl
    · rw [List.map_cons, PyData.depthAll]
      exact Nat.max_le.mpr ⟨c, c'⟩
end
theorem encD_tup {n : Nat} {xs : List D} (h : doks n xs = true) : encD (.tup xs) = .tuple (xs.map encD) := by
  show (toPy (.tup xs)).getD .none = _
  rw [toPy_tup, (doks_py h).1]
  rfl
theorem encD_tpn {n : Nat} {xs : List D} (h : doks n xs = true) : encD (.tpn xs) = .tuple (xs.map encD) := by
  show (toPy (.tpn xs)).getD .none = _
  rw [toPy_tpn, (doks_py h).1]
  rfl
theorem encD_lst {n : Nat} {xs : List D} (h : doks n xs = true) : encD (.lst xs) = .list (xs.map encD) := by
  show (toPy (.lst xs)).getD .none = _
  rw [toPy_lst, (doks_py h).1]
  rfl
theorem encD_scr {n : Nat} {xs : List D} (h : doks n xs = true) : encD (.scr xs) = .list (xs.map encD) := by
  show (toPy (.scr xs)).getD .none = _
  rw [toPy_scr, (doks_py h).1]
  rfl
theorem dok_mono {n m : Nat} (h : n ≤ m) : ∀ {d : D}, dok n d = true → dok m d = true := by
  induction n generalizing m with
  | zero =>
    intro d hd
    cases d with
    | str x => simpa using hd
    | non => simp
    | bl b => simp
    | int i => simp
    | tup _ => exact nomatch hd
    | tpn _ => exact nomatch hd
    | lst _ => exact nomatch hd
    | scr _ => exact nomatch hd
    | iset _ => exact nomatch hd
    | ins _ _ _ => exact nomatch hd
    | err _ _ _ => exact nomatch hd
    | cls _ => exact nomatch hd
    | dic => exact nomatch hd
    | loc _ => exact nomatch hd
  | succ n ih =>
    obtain ⟨m, rfl⟩ : ∃ k, m = k + 1 := ⟨m - 1, by omega⟩
    intro d hd
    cases d with
    | str x => simpa using hd
    | non => simp
    | bl b => simp
    | int i => simp
    | tup _ => rw [dok_tup, doks_iff] at *; exact fun d h' => ih (by omega) (hd d h')
    | tpn _ => rw [dok_tpn, doks_iff] at *; exact fun d h' => ih (by omega) (hd d h')
    | lst _ => rw [dok_lst, doks_iff] at *; exact fun d h' => ih (by omega) (hd d h')
    | scr _ => rw [dok_scr, doks_iff] at *; exact fun d h' => ih (by omega) (hd d h')
    | iset _ => exact nomatch hd
    | ins _ _ _ => exact nomatch hd
    | err _ _ _ => exact nomatch hd
    | cls _ => exact nomatch hd
    | dic => exact nomatch hd
    | loc _ => exact nomatch hd
theorem shaped_dok {n : Nat} {d : D} (h : dok n d = true) (hn : n ≤ 64) : SeqAt.shaped (encD d) = true := by
  obtain ⟨a, b, c⟩ := dok_py h
  unfold SeqAt.shaped
  rw [b]
  simp
  omega
theorem toPyS_dok {n : Nat} {d : D} (h : dok n d = true) (S : Store) : toPyS d S = some (encD d) := by
  have a := (dok_py h).1
  cases d with
  | loc m => cases n <;> exact nomatch h
  | _ => exact a
/-- d == e -/
theorem pEq_dok {d e : D} (n m : Nat) (S : Store) (hd : dok n d = true) (he : dok m e = true) (hn : n ≤ 64) (hm : m ≤ 64) : pEq d e S = some (.bl (PyData.eqv (encD d) (encD e))) := by
  unfold pEq
  rw [toPyS_dok hd, toPyS_dok he]
  exact if_pos ⟨shaped_dok hd hn, shaped_dok he hm⟩
theorem pNe_dok {d e : D} (n m : Nat) (S : Store) (hd : dok n d = true) (he : dok m e = true) (hn : n ≤ 64) (hm : m ≤ 64) : pNe d e S = some (.bl (!PyData.eqv (encD d) (encD e))) := by
  unfold pNe
  rw [toPyS_dok hd, toPyS_dok he]
  exact if_pos ⟨shaped_dok hd hn, shaped_dok he hm⟩
@[simp] theorem eqv_ii (i j : Int) : PyData.eqv (.int i) (.int j) = decide (i = j) := by
  rw [PyData.eqv]
  exact Bool.beq_eq_decide_eq i j
@[simp] theorem eqv_ss (x y : Str) : PyData.eqv (.str x) (.str y) = decide (x = y) := by
  rw [PyData.eqv]
  exact Bool.beq_eq_decide_eq x y
@[simp] theorem eqv_bb (x y : Bool) : PyData.eqv (.bool x) (.bool y) = decide (x = y) := by
  rw [PyData.eqv]
  exact Bool.beq_eq_decide_eq x y
@[simp] theorem pEq_ii (i j : Int) (S : Store) : pEq (.int i) (.int j) S = some (.bl (decide (i = j))) := by
  rw [pEq_dok 0 0 S (dok_int 0 i) (dok_int 0 j) (by decide) (by decide), encD_int, encD_int, eqv_ii]
@[simp] theorem pNe_ii (i j : Int) (S : Store) : pNe (.int i) (.int j) S = some (.bl (!decide (i = j))) := by
  rw [pNe_dok 0 0 S (dok_int 0 i) (dok_int 0 j) (by decide) (by decide), encD_int, encD_int, eqv_ii]
@[simp] theorem pEq_bb (i j : Bool) (S : Store) : pEq (.bl i) (.bl j) S = some (.bl (decide (i = j))) := by
  rw [pEq_dok 0 0 S (dok_bl 0 i) (dok_bl 0 j) (by decide) (by decide), encD_bl, encD_bl, eqv_bb]
@[simp] theorem pNe_bb (i j : Bool) (S : Store) : pNe (.bl i) (.bl j) S = some (.bl (!decide (i = j))) := by
  rw [pNe_dok 0 0 S (dok_bl 0 i) (dok_bl 0 j) (by decide) (by decide), encD_bl, encD_bl, eqv_bb]
theorem pEq_ss {x y : Str} (hx : PyData.strOk x = true) (hy : PyData.strOk y = true) (S : Store) : pEq (.str x) (.str y) S = some (.bl (decide (x = y))) := by
  rw [pEq_dok 0 0 S (by simpa using hx) (by simpa using hy) (by decide) (by decide), encD_str, encD_str, eqv_ss]
theorem pNe_ss {x y : Str} (hx : PyData.strOk x = true) (hy : PyData.strOk y = true) (S : Store) : pNe (.str x) (.str y) S = some (.bl (!decide (x = y))) := by
  rw [pNe_dok 0 0 S (by simpa using hx) (by simpa using hy) (by decide) (by decide), encD_str, encD_str, eqv_ss]
/-- a list against the empty one -/
theorem pEq_nil {xs : List D} (n : Nat) (h : doks n xs = true) (hn : n < 64) (S : Store) : pEq (.lst xs) (.lst []) S = some (.bl xs.isEmpty) := by
  rw [pEq_dok (n + 1) 1 S (by simpa using h) (by simp) hn (by decide), encD_lst h, encD_lst (n := 0) (by simp)]
  cases xs <;> simp [PyData.eqv, PyData.eqvAll]
theorem pNe_nil {xs : List D} (n : Nat) (h : doks n xs = true) (hn : n < 64) (S : Store) : pNe (.lst xs) (.lst []) S = some (.bl (!xs.isEmpty)) := by
  rw [pNe_dok (n + 1) 1 S (by simpa using h) (by simp) hn (by decide), encD_lst h, encD_lst (n := 0) (by simp)]
  cases xs <;> simp [PyData.eqv, PyData.eqvAll]
mutual
/-- data without truth values -/
def noB : PyData → Bool
  | .bool _ => false
  | .list xs => noBs xs
  | .tuple xs => noBs xs
  | .dict _ => false
  | _ => true
def noBs : List PyData → Bool
  | [] => true
  | d :: ds => noB d && noBs ds
end
mutual
theorem eqv_iff : ∀ {p q : PyData}, noB p = true → noB q = true → (PyData.eqv p q = true ↔ p = q)
  | .none, q, _, hq => by cases q <;> simp [PyData.eqv]
  | .bool _, _, h, _ => nomatch h
  | .dict _, _, h, _ => nomatch h
  | .int i, q, _, hq => by
    cases q with
    | bool b => exact nomatch hq
    | int j => simp
    | _ => simp [PyData.eqv]
  | .str i, q, _, hq => by
    cases q with
    | bool b => exact nomatch hq
    | str j => simp
    | _ => simp [PyData.eqv]
  | .list xs, q, hp, hq => by
    cases q with
    | list ys => simpa [PyData.eqv] using eqvAll_iff (ps := xs) (qs := ys) hp hq
    | _ => simp [PyData.eqv]
  | .tuple xs, q, hp, hq => by
    cases q with
    | tuple ys => simpa [PyData.eqv] using eqvAll_iff (ps := xs) (qs := ys) hp hq
    | _ => simp [PyData.eqv]
theorem eqvAll_iff : ∀ {ps qs : List PyData}, noBs ps = true → noBs qs = true → (PyData.eqvAll ps qs = true ↔ ps = qs)
  | [], [], _, _ => by simp [PyData.eqvAll]
  | [], _ :: _, _, _ => by simp [PyData.eqvAll]
  | _ :: _, [], _, _ => by simp [PyData.eqvAll]
  | p :: ps, q :: qs, hp, hq => by
    unfold noBs at hp hq
    rw [Bool.and_eq_true] at hp hq
    simp [PyData.eqvAll, eqv_iff hp.1 hq.1, eqvAll_iff hp.2 hq.2]
end
mutual
theorem eqv_refl : ∀ {p : PyData}, p.canLay0 = true → PyData.eqv p p = true
  | .none, _ => by simp [PyData.eqv]
  | .bool _, _ => by simp [PyData.eqv]
  | .dict _, h => nomatch h
  | .int i, _ => by simp
  | .str x, _ => by simp
  | .list xs, h => by rw [PyData.eqv]; exact eqvAll_refl (ps := xs) h
  | .tuple xs, h => by rw [PyData.eqv]; exact eqvAll_refl (ps := xs) h
theorem eqvAll_refl : ∀ {ps : List PyData}, PyData.canLayAll0 ps = true → PyData.eqvAll ps ps = true
  | [], _ => by simp [PyData.eqvAll]
  | p :: ps, h => by
    rw [PyData.canLayAll0, Bool.and_eq_true] at h
    rw [PyData.eqvAll, eqv_refl h.1, eqvAll_refl h.2]
    rfl
end
theorem cMap {α : Type} {en : α → D} {f : α → D} {g : Tgt} {t : L → Store → R Bool} {e : L → Store → R D} {l : L} {S : Store} {xs : List α} (h : ∀ x ∈ xs, cStep g t e l (en x) S = some (some (f x), S)) (hn : xs.length ≤ 16777216) :
    cGo g t e [] l (xs.map en) 0 S = some (xs.map f, S) := cGo_map h (by rw [sizeLine_eq]; omega) trivial
theorem cFil {α : Type} {en : α → D} {f : α → D} {p : α → Bool} {g : Tgt} {t : L → Store → R Bool} {e : L → Store → R D} {l : L} {S : Store} {xs : List α} (h : ∀ x ∈ xs, cStep g t e l (en x) S = some (if p x = true then some (f x) else none, S)) (hn : xs.length ≤ 16777216) :
    cGo g t e [] l (xs.map en) 0 S = some ((xs.filter p).map f, S) := cGo_filter h (by rw [sizeLine_eq]; omega) trivial
def illD : Option Int → D
  | none => .non
  | some i => .int i
/-- d in a list -/
theorem pIn_lst {d : D} {xs : List D} {S : Store} (n m : Nat) (hd : dok n d = true) (hx : doks m xs = true) (hn : n ≤ 64) (hm : m < 64) : pIn d (.lst xs) S = some (.bl (inP (encD d) (xs.map encD))) := by
  have e2 : toPyS (.lst xs) S = some (.list (xs.map encD)) := by
    rw [toPyS_dok (n := m + 1) (by simpa using hx), encD_lst hx]
  have s2 : SeqAt.shaped (.list (xs.map encD)) = true := by
    rw [← encD_lst hx]
    exact shaped_dok (n := m + 1) (by simpa using hx) (by omega)
  have e1 : nt (.lst xs) = .lst xs := rfl
  unfold pIn
  rw [e1]
  have go : (match toPyS d S, toPyS (.lst xs) S with
    | some p, some (.list ps) => if SeqAt.shaped p = true ∧ SeqAt.shaped (.list ps) = true then some (D.bl (inP p ps)) else none
    | _, _ => none) = some (.bl (inP (encD d) (xs.map encD))) := by
    rw [toPyS_dok hd, e2]
    exact if_pos ⟨shaped_dok hd hn, s2⟩
  cases d <;> exact go
theorem pIn_locL {d : D} {xs : List D} {S : Store} {k : Nat} (n m : Nat) (hk : S[k]? = some (.lst xs)) (hd : dok n d = true) (hx : doks m xs = true) (hn : n ≤ 64) (hm : m < 64) : pIn d (.loc k) S = some (.bl (inP (encD d) (xs.map encD))) := by
  have e2 : toPyS (.loc k) S = some (.list (xs.map encD)) := by
    unfold toPyS
    dsimp only
    rw [hk]
    dsimp only
    rw [(doks_py hx).1]
    rfl
  have s2 : SeqAt.shaped (.list (xs.map encD)) = true := by
    rw [← encD_lst hx]
    exact shaped_dok (n := m + 1) (by simpa using hx) (by omega)
  have e1 : nt (.loc k) = .loc k := rfl
  unfold pIn
  rw [e1]
  have go : (match toPyS d S, toPyS (.loc k) S with
    | some p, some (.list ps) => if SeqAt.shaped p = true ∧ SeqAt.shaped (.list ps) = true then some (D.bl (inP p ps)) else none
    | _, _ => none) = some (.bl (inP (encD d) (xs.map encD))) := by
    rw [toPyS_dok hd, e2]
    exact if_pos ⟨shaped_dok hd hn, s2⟩
  cases d <;> exact go
theorem inP_strs (w : Str) (xs : List Str) : inP (.str w) ((xs.map D.str).map encD) = decide (w ∈ xs) := by
  unfold inP
  rw [Bool.eq_iff_iff]
  simp [List.any_map]
theorem inP_ints (w : Int) (xs : List Int) : inP (.int w) ((xs.map D.int).map encD) = decide (w ∈ xs) := by
  unfold inP
  rw [Bool.eq_iff_iff]
  simp [List.any_map]
/-- no truth values about: in is membership -/
theorem inP_mem {p : PyData} {ps : List PyData} (hp : noB p = true) (h : ∀ q ∈ ps, noB q = true) : inP p ps = true ↔ p ∈ ps := by
  unfold inP
  rw [List.any_eq_true]
  constructor
  · rintro ⟨q, hq, e⟩
    rw [eqv_iff (h q hq) hp] at e
    exact e ▸ hq
  · intro hq
    exact ⟨p, hq, by rw [eqv_iff hp hp]⟩
theorem doks_int (n : Nat) (xs : List Int) : doks n (xs.map .int) = true := doks_map fun _ _ => dok_int _ _
theorem pNotIn_of {d e : D} {S : Store} {b : Bool} (h : pIn d e S = some (.bl b)) : pNotIn d e S = some (.bl (!b)) := by
  unfold pNotIn
  rw [h]
end HL
end
section
set_option Elab.async false
set_option linter.all false
set_option maxRecDepth 100000
set_option maxHeartbeats 1000000
namespace HL
open PySem PySem.Spec L2
theorem strOk_append (x y : Str) : PyData.strOk (x ++ y) = (PyData.strOk x && PyData.strOk y) := by
  unfold PyData.strOk
  show (x.cps ++ y.cps).all _ = _
  rw [Array.all_append]
theorem strOk_of {s : String} : PyData.strOk (Str.ofString s) = true := by
  rw [PySem.Str.ofString_eq_toList]
  unfold PyData.strOk
  simp
  intro c hc
  have := c.valid
  unfold Char.toNat
  rcases this with h | h
  · have : c.val.toNat < 0xD800 := h
    omega
  · have : c.val.toNat < 0x110000 := h.2
    exact this
theorem strOk_join (sep : Str) (hs : PyData.strOk sep = true) : ∀ xs : List Str, (∀ x ∈ xs, PyData.strOk x = true) → PyData.strOk (Str.join sep xs) = true
  | [], _ => by rw [Str.join]; decide +kernel
  | [x], h => by rw [Str.join]; exact h x (.head _)
  | x :: y :: r, h => by
    rw [Str.join, strOk_append, strOk_append, h x (.head _), hs, strOk_join sep hs (y :: r) fun z hz => h z (.tail _ hz)]
    rfl
    exact fun h => nomatch h
theorem strOk_textFrom : ∀ (xs : List Str) (k : Nat) (acc : Str), PyData.strOk acc = true → (∀ x ∈ xs, PyData.strOk x = true) → PyData.strOk (textFrom k acc xs) = true
  | [], k, acc, ha, _ => ha
  | x :: xs, k, acc, ha, h => by
    rw [textFrom]
    refine strOk_textFrom xs _ _ ?_ fun z hz => h z (.tail _ hz)
    rw [strOk_append, strOk_append, ha, h x (.head _), strOk_of]
    rfl
theorem strOk_listText (xs : List Str) (h : ∀ x ∈ xs, PyData.strOk x = true) : PyData.strOk (listText xs) = true := by
  unfold listText
  rw [strOk_append, strOk_textFrom xs 0 _ strOk_of h, strOk_of]
  rfl
theorem strOk_tupleText (xs : List Str) (h : ∀ x ∈ xs, PyData.strOk x = true) : PyData.strOk (tupleText xs) = true := by
  unfold tupleText
  rw [strOk_append, strOk_append, strOk_of, strOk_join _ strOk_of xs h, strOk_of]
  rfl
theorem char_small (c : Char) : c.toNat < 0x110000 := by
  have := c.valid
  unfold Char.toNat
  rcases this with h | h
  · have : c.val.toNat < 0xD800 := h
    omega
  · exact h.2
theorem reprChar_ok (q c : Nat) (hc : c < 0x110000) : ∀ z ∈ Builtin.Str.reprChar q c, z < 0x110000 := by
  have hex : ∀ k : Nat, ∀ z ∈ (let d := (Nat.toDigits 16 c).map Char.toNat; List.replicate (k - d.length) 48 ++ d), z < 0x110000 := fun k z hz => by
    rcases List.mem_append.mp hz with h | h
    · have := List.eq_of_mem_replicate h
      omega
    · obtain ⟨d, _, rfl⟩ := List.mem_map.mp h
      exact char_small d
  unfold Builtin.Str.reprChar
  intro z hz
  dsimp only at hz
  split at hz
  · simp at hz; omega
  split at hz
  · simp at hz; omega
  split at hz
  · simp at hz; omega
  split at hz
  · simp at hz; omega
  split at hz
  · simp at hz; omega
  split at hz
  · rcases List.mem_append.mp hz with h | h
    · simp at h; omega
    · exact hex 2 z h
  split at hz
  · rcases List.mem_append.mp hz with h | h
    · simp at h; omega
    · exact hex 4 z h
  · rcases List.mem_append.mp hz with h | h
    · simp at h; omega
    · exact hex 8 z h
theorem fold_repr_ok (q : Nat) : ∀ (l : List Nat) (acc : Array Nat), (∀ c ∈ l, c < 0x110000) → (∀ c ∈ acc.toList, c < 0x110000) → ∀ c ∈ (l.foldl (fun out c => out ++ (Builtin.Str.reprChar q c).toArray) acc).toList, c < 0x110000
  | [], acc, _, ha => ha
  | c :: l, acc, hl, ha => by
    rw [List.foldl_cons]
    refine fold_repr_ok q l _ (fun z hz => hl z (.tail _ hz)) fun z hz => ?_
    rw [Array.toList_append] at hz
    rcases List.mem_append.mp hz with h | h
    · exact ha z h
    · exact reprChar_ok q c (hl c (.head _)) z h
theorem strOk_iff (x : Str) : PyData.strOk x = true ↔ ∀ c ∈ x.cps.toList, c < 0x110000 := by
  unfold PyData.strOk
  rw [Array.all_eq_true']
  simp
theorem strOk_reprText (x : Str) (h : PyData.strOk x = true) : PyData.strOk (reprText x) = true := by
  rw [strOk_iff] at h ⊢
  unfold reprText
  have hq : reprQuote x < 0x110000 := by
    unfold reprQuote
    split <;> omega
  intro c hc
  rw [Array.toList_push] at hc
  rcases List.mem_append.mp hc with h1 | h1
  · rw [← Array.foldl_toList] at h1
    refine fold_repr_ok _ x.cps.toList _ h ?_ c h1
    intro z hz
    simp at hz
    omega
  · simp at h1
    omega
mutual
theorem strOk_shown : ∀ {p : PyData}, p.canLay0 = true → PyData.strOk p.shown = true
  | .none, _ => by rw [PyData.shown]; exact strOk_of
  | .bool b, _ => by rw [PyData.shown]; cases b <;> exact strOk_of
  | .int i, _ => by rw [PyData.shown]; exact strOk_of
  | .str x, h => by rw [PyData.shown]; exact strOk_reprText x h
  | .list xs, h => by rw [PyData.shown]; exact strOk_listText _ (strOk_shownAll (ps := xs) h)
  | .tuple xs, h => by rw [PyData.shown]; exact strOk_tupleText _ (strOk_shownAll (ps := xs) h)
  | .dict _, h => nomatch h
theorem strOk_shownAll : ∀ {ps : List PyData}, PyData.canLayAll0 ps = true → ∀ x ∈ PyData.shownAll ps, PyData.strOk x = true
  | [], _, x, hx => by rw [PyData.shownAll] at hx; cases hx
  | p :: ps, h, x, hx => by
    rw [PyData.canLayAll0, Bool.and_eq_true] at h
    rw [PyData.shownAll] at hx
    rcases List.mem_cons.mp hx with rfl | hx
    · exact strOk_shown h.1
    · exact strOk_shownAll h.2 x hx
end
mutual
/-- at most so many signs -/
def shw : PyData → Nat
  | .none => 4
  | .bool _ => 5
  | .int _ => 1921
  | .str x => 10 * x.length + 2
  | .list xs => shwAll xs + 2
  | .tuple xs => shwAll xs + 3
  | .dict _ => 0
def shwAll : List PyData → Nat
  | [] => 0
  | x :: xs => shw x + 2 + shwAll xs
end
theorem len_app (x y : Str) : (x ++ y).length = x.length + y.length := by
  show (x.cps ++ y.cps).size = _
  rw [Array.size_append]
  rfl
theorem textFrom_le : ∀ (ts : List Str) (k : Nat) (acc : Str), (textFrom k acc ts).length ≤ acc.length + (ts.map fun t => t.length + 2).sum
  | [], k, acc => by rw [textFrom]; simp
  | t :: ts, k, acc => by
    rw [textFrom]
    refine Nat.le_trans (textFrom_le ts _ _) ?_
    rw [len_app, len_app, List.map_cons, List.sum_cons]
    have : (Str.ofString (if k > 0 then ", " else "")).length ≤ 2 := by split <;> decide +kernel
    omega
theorem join_le (sep : Str) (hs : sep.length ≤ 2) : ∀ ts : List Str, (Str.join sep ts).length ≤ (ts.map fun t => t.length + 2).sum
  | [] => by rw [Str.join]; decide +kernel
  | [x] => by rw [Str.join]; simp
  | x :: y :: r => by
    have := join_le sep hs (y :: r)
    rw [Str.join, len_app, len_app, List.map_cons, List.sum_cons]
    omega
    exact fun h => nomatch h
mutual
theorem shown_len : ∀ {p : PyData}, p.canLay0 = true → p.showable = true → p.shown.length ≤ shw p
  | .none, _, _ => by rw [PyData.shown, shw]; decide +kernel
  | .bool b, _, _ => by rw [PyData.shown, shw]; cases b <;> decide +kernel
  | .int i, _, h => by
    rw [PyData.shown, shw]
    rw [PyData.showable, decide_eq_true_iff] at h
    exact PyProof.Rows.int_text_len_1921 h
  | .str x, h, _ => by
    rw [PyData.shown, shw]
    have h' : ∀ c ∈ x.cps.toList, c < 0x110000 := (strOk_iff x).mp h
    exact StrLaws.reprText_len x fun c hc => by have := h' c hc; omega
  | .list xs, h, h2 => by
    rw [PyData.shown, shw]
    unfold listText
    rw [len_app]
    have := shown_lenAll (ps := xs) h h2
    have := textFrom_le (PyData.shownAll xs) 0 "["
    have e : (Str.ofString "[").length = 1 := by decide +kernel
    have e2 : (Str.ofString "]").length = 1 := by decide +kernel
    omega
  | .tuple xs, h, h2 => by
    rw [PyData.shown, shw]
    unfold tupleText
    rw [len_app, len_app]
    have := shown_lenAll (ps := xs) h h2
    have := join_le ", " (by decide +kernel) (PyData.shownAll xs)
    have e : (Str.ofString "(").length = 1 := by decide +kernel
    have e2 : (Str.ofString (if (PyData.shownAll xs).length == 1 then ",)" else ")")).length ≤ 2 := by split <;> decide +kernel
    omega
  | .dict _, h, _ => nomatch h
theorem shown_lenAll : ∀ {ps : List PyData}, PyData.canLayAll0 ps = true → PyData.showableAll ps = true → ((PyData.shownAll ps).map fun t => t.length + 2).sum ≤ shwAll ps
  | [], _, _ => by rw [PyData.shownAll]; exact Nat.zero_le _
  | p :: ps, h, h2 => by
    rw [PyData.canLayAll0, Bool.and_eq_true] at h
    rw [PyData.showableAll, Bool.and_eq_true] at h2
    rw [PyData.shownAll, shwAll, List.map_cons, List.sum_cons]
    have := shown_len h.1 h2.1
    have := shown_lenAll h.2 h2.2
    omega
end
mutual
theorem noDict : ∀ {p : PyData}, p.canLay0 = true → p.hasDict = false
  | .none, _ => by rw [PyData.hasDict]
  | .bool b, _ => by rw [PyData.hasDict]
  | .int i, _ => by rw [PyData.hasDict]
  | .str x, _ => by rw [PyData.hasDict]
  | .list xs, h => by rw [PyData.hasDict]; exact noDictAll (ps := xs) h
  | .tuple xs, h => by rw [PyData.hasDict]; exact noDictAll (ps := xs) h
  | .dict _, h => nomatch h
theorem noDictAll : ∀ {ps : List PyData}, PyData.canLayAll0 ps = true → PyData.hasDictAll ps = false
  | [], _ => by rw [PyData.hasDictAll]
  | p :: ps, h => by
    rw [PyData.canLayAll0, Bool.and_eq_true] at h
    rw [PyData.hasDictAll, noDict h.1, noDictAll h.2]
    rfl
end
/-- repr(d) -/
theorem pRepr_dok {d : D} (n : Nat) (hd : dok n d = true) (hn : n ≤ 60) (hs : (encD d).showable = true) (hl : shw (encD d) ≤ 16777216) (S : Store) : pRepr [d] S = some (.str (encD d).shown) := by
  obtain ⟨a, b, c⟩ := dok_py hd
  unfold pRepr
  dsimp only
  rw [toPyS_dok hd]
  show (if _ then _ else _) = _
  rw [if_pos ⟨hs, by rw [sizeLine_eq]; exact Nat.le_trans (shown_len b hs) hl, by omega, noDict b⟩]
theorem strOk_repr {d : D} (n : Nat) (hd : dok n d = true) : PyData.strOk (encD d).shown = true := strOk_shown (dok_py hd).2.1
theorem show_int {i : Int} (h : -(10 : Int) ^ 100 < i) (h2 : i < 10 ^ 100) : (PyData.int i).showable = true := by
  rw [PyData.showable, decide_eq_true_iff]
  have e : (10 : Int) ^ 100 = 10000000000000000000000000000000000000000000000000000000000000000000000000000000000000000000000000000 := by decide +kernel
  have h3 : i.natAbs < 2 ^ 1920 := by
    have e2 : (10000000000000000000000000000000000000000000000000000000000000000000000000000000000000000000000000000 : Nat) ≤ 2 ^ 1920 := by decide +kernel
    generalize 2 ^ 1920 = q at e2 ⊢
    omega
  by_cases h0 : i.natAbs = 0
  · rw [h0]
    simp
  · exact (Nat.log2_lt h0).mpr h3
end HL
end
section
set_option Elab.async false
set_option linter.all false
set_option maxRecDepth 100000
set_option maxHeartbeats 1000000
namespace HL
open PySem PySem.Spec L2
@[simp] theorem eTupN_ap (g : L → Store → R (List D)) l S : eTupN g l S = (g l S).bnd fun ds S1 => if ds.length ≤ sizeLine then .ok (.tpn ds) S1 else .bad := id rfl
@[simp] theorem eCallK0_ap (n b : Nat) (ix : List Nat) (g : List D → Store → R D) (fk : L → Store → R (List D)) l S : eCallK0 n b ix g fk l S = (fk l S).bnd fun es S2 => if es.length = b ∧ (gIx ix es).length = n then g (gIx ix es) S2 else .bad := id rfl
@[simp] theorem mRev_ap (f : L → Store → R D) l S : mRev f l S = (f l S).bnd fun d S1 => ofO ((seqL d S1).map fun xs => D.lst xs.reverse) S1 := id rfl
@[simp] theorem eListN_ap (f : L → Store → R D) l S : eListN f l S = ((f l S).bnd fun d S1 => match seqD d S1 with
  | some ys => .ok (.loc S1.length) (S1 ++ [.lst ys])
  | none => .bad) := id rfl
theorem pMinL_ints {d : D} {S : Store} {ns : List Int} (h : seqL d S = some (ns.map .int)) (hn : 0 < ns.length) : pMinL [d] S = some (.int (minI ns)) := by
  unfold pMinL
  dsimp only
  rw [h]
  show ((intsD _).bind _) = _
  rw [intsD_map']
  exact if_pos hn
theorem pMaxL_ints {d : D} {S : Store} {ns : List Int} (h : seqL d S = some (ns.map .int)) (hn : 0 < ns.length) : pMaxL [d] S = some (.int (maxI ns)) := by
  unfold pMaxL
  dsimp only
  rw [h]
  show ((intsD _).bind _) = _
  rw [intsD_map']
  exact if_pos hn
@[simp] theorem gIx_nil {α : Type} (us : List α) : gIx [] us = [] := id rfl
@[simp] theorem gIx_cons {α : Type} (i : Nat) (ix : List Nat) (us : List α) : gIx (i :: ix) us = (match us[i]? with
  | some u => u :: gIx ix us
  | none => gIx ix us) := by
  unfold gIx
  rw [List.filterMap_cons]
  cases us[i]? <;> rfl
end HL
end
section
set_option Elab.async false
set_option linter.all false
set_option maxRecDepth 100000
set_option maxHeartbeats 1000000
namespace HL
open PySem PySem.Spec L2
@[simp] theorem mRevT_ap (f : L → Store → R D) l S : mRevT f l S = ((f l S).bnd fun d S1 => match nt d with
  | .tup xs => .ok (.tpn xs.reverse) S1
  | _ => .bad) := id rfl
@[simp] theorem pMulI_ok {i j : Int} (h : CMul i j) (S : Store) : pMulI (.int i) (.int j) S = some (.int (i * j)) := by
  unfold pMulI
  exact if_pos h
theorem log_small {j : Int} (h : 0 < j) (h1 : j ≤ 10000000000000000000000000000000000000000) : j.natAbs.log2 < 9000 := by
  have h2 : j.natAbs < 2 ^ 200 := by
    have e2 : (10000000000000000000000000000000000000000 : Nat) < 2 ^ 200 := by decide +kernel
    generalize 2 ^ 200 = q at e2 ⊢
    omega
  have := (Nat.log2_lt (n := j.natAbs) (k := 200) (by omega)).mpr h2
  omega
theorem pDivmodW_ok {i j : Int} (h : 0 < j) (h1 : j ≤ 10000000000000000000000000000000000000000) (S : Store) : pDivmodW [.int i, .int j] S = some (.tup [.int (i / j), .int (i % j)]) := by
  unfold pDivmodW
  dsimp only
  rw [if_pos ⟨h, log_small h h1⟩]
/-- a block that freezes -/
theorem bFz_ok {f g : L → Store → Fl} {l l1 l2 : L} {S S1 : Store} (h : f l S = .nx l1 S1) (hp : Pres S S1) (hz : fzL S.length S1 l1 = some l2) : bFz f g l S = g l2 (S1.take S.length) := by
  unfold bFz
  rw [h]
  dsimp only
  rw [if_pos hp, hz]
@[simp] theorem fzL_nil (n0 : Nat) (S : Store) : fzL n0 S [] = some [] := id rfl
@[simp] theorem fzL_none (n0 : Nat) (S : Store) (l : L) : fzL n0 S (none :: l) = (fzL n0 S l).map (none :: ·) := id rfl
@[simp] theorem fzL_some (n0 : Nat) (S : Store) (d : D) (l : L) : fzL n0 S (some d :: l) = (frzS n0 S d).bind fun d' => (fzL n0 S l).map (some d' :: ·) := id rfl
theorem frzS_old {n0 n : Nat} {S : Store} (h : n < n0) : frzS n0 S (.loc n) = some (.loc n) := if_pos h
theorem frzS_new {n0 n : Nat} {S : Store} (h : n0 ≤ n) : frzS n0 S (.loc n) = frz n0 S 9 (.loc n) := if_neg (by omega)
theorem frzS_flat {n0 : Nat} {S : Store} {d : D} (h : noLoc d = true) : frzS n0 S d = some d := by
  unfold frzS
  split
  · exact nomatch h
  · exact frz_flat h
@[simp] theorem pNe_ee (S : Store) : pNe (.lst []) (.lst []) S = some (.bl false) := pNe_nil (xs := []) 0 rfl (by decide) S
@[simp] theorem pEq_ee (S : Store) : pEq (.lst []) (.lst []) S = some (.bl true) := pEq_nil (xs := []) 0 rfl (by decide) S
theorem doks_ints (n : Nat) (xs : List Int) : doks n (xs.map .int) = true := doks_int n xs
theorem pNe_ie (x : Int) (xs : List Int) (S : Store) : pNe (.lst (.int x :: xs.map .int)) (.lst []) S = some (.bl true) := pNe_nil (xs := (x :: xs).map .int) 0 (doks_int 0 _) (by decide) S
theorem pEq_ie (x : Int) (xs : List Int) (S : Store) : pEq (.lst (.int x :: xs.map .int)) (.lst []) S = some (.bl false) := pEq_nil (xs := (x :: xs).map .int) 0 (doks_int 0 _) (by decide) S
end HL
end
section
set_option Elab.async false
set_option linter.all false
set_option maxRecDepth 100000
set_option maxHeartbeats 1000000
namespace HL
open PySem PySem.Spec L2
@[simp] theorem eMakeK0_ap (tr : Bool) (C : Str) (n nb : Nat) (ix : List Nat) (g : List D → Store → R D) (fk : L → Store → R (List D)) l S : eMakeK0 tr C n nb ix g fk l S = (fk l S).bnd fun es S1 => if es.length = nb then (if (gIx ix es).length + 1 = n then (g (.loc S1.length :: gIx ix es) (S1 ++ [.ins C [] []])).bnd fun r S2 => (match r with
    | .non => fin tr S1 (.loc S1.length) S2
    | _ => .bad)
  else .bad) else .bad := id rfl
@[simp] theorem eUmK0_ap (C m : Str) (n b : Nat) (ix : List Nat) (g : List D → Store → R D) (fo : L → Store → R D) (fk : L → Store → R (List D)) l S : eUmK0 C m n b ix g fo fk l S = (fo l S).bnd fun d S1 => match insOf C d S1 with
  | some x => if m ∈ x.1 then .bad else (fk l S1).bnd fun es S2 => if es.length = b ∧ (gIx ix es).length + 1 = n then g (d :: gIx ix es) S2 else .bad
  | none => .bad := id rfl
@[simp] theorem eCm_ap (C : Str) (n : Nat) (g : List D → Store → R D) (fa : L → Store → R (List D)) l S : eCm C n g fa l S = (fa l S).bnd fun ds S1 => if ds.length + 1 = n then g (.cls C :: ds) S1 else .bad := id rfl
@[simp] theorem eCmK0_ap (C : Str) (n b : Nat) (ix : List Nat) (g : List D → Store → R D) (fk : L → Store → R (List D)) l S : eCmK0 C n b ix g fk l S = (fk l S).bnd fun es S1 => if es.length = b ∧ (gIx ix es).length + 1 = n then g (.cls C :: gIx ix es) S1 else .bad := id rfl
@[simp] theorem eMakeL_ap (i : Nat) (tr : Bool) (C : Str) (n : Nat) (g : List D → Store → R D) (fa : L → Store → R (List D)) l S : eMakeL i tr C n g fa l S = (match l[i]? with
  | some (some (.cls C')) => if C' = C then eMake tr C n g fa l S else .bad
  | _ => .bad) := id rfl
@[simp] theorem eShow_ap (C : Str) (g : List D → Store → R D) (fo : L → Store → R D) l S : eShow C g fo l S = (fo l S).bnd fun d S1 => match insOf C d S1 with
  | some _ => (g [d] S1).noX.bnd fun r S2 => match r with
    | .str z => .ok (.str z) S2
    | _ => .bad
  | none => .bad := id rfl
@[simp] theorem eEqO_ap (neg : Bool) (C : Str) (g : List D → Store → R D) (f1 f2 : L → Store → R D) l S : eEqO neg C g f1 f2 l S = (f1 l S).bnd fun d S1 => (f2 l S1).bnd fun e S2 => match insOf C d S2, othOk C e S2 with
  | some _, true => (g [d, e] S2).noX.bnd fun r S3 => match r with
    | .bl b => .ok (.bl (if neg then !b else b)) S3
    | _ => .bad
  | _, _ => .bad := id rfl
@[simp] theorem pBoolO_one (C : Str) (d : D) (S : Store) : pBoolO C [d] S = (insOf C d S).map fun _ => .bl true := id rfl
@[simp] theorem othOk_ins (C : Str) (ks : List Str) (vs : List D) (S : Store) : othOk C (.ins C ks vs) S = true := by simp [othOk]
@[simp] theorem othOk_non (C : Str) (S : Store) : othOk C .non S = true := id rfl
@[simp] theorem othOk_str (C : Str) (z : Str) (S : Store) : othOk C (.str z) S = true := id rfl
@[simp] theorem othOk_int (C : Str) (z : Int) (S : Store) : othOk C (.int z) S = true := id rfl
@[simp] theorem othOk_bl (C : Str) (z : Bool) (S : Store) : othOk C (.bl z) S = true := id rfl
@[simp] theorem othOk_tup (C : Str) (z : List D) (S : Store) : othOk C (.tup z) S = true := id rfl
@[simp] theorem othOk_lst (C : Str) (z : List D) (S : Store) : othOk C (.lst z) S = true := id rfl
@[simp] theorem isiC_non (C : Str) (S : Store) : isiC C .non S = some (.bl false) := id rfl
@[simp] theorem isiC_str (C : Str) (z : Str) (S : Store) : isiC C (.str z) S = some (.bl false) := id rfl
@[simp] theorem isiC_int (C : Str) (z : Int) (S : Store) : isiC C (.int z) S = some (.bl false) := id rfl
@[simp] theorem isiC_bl (C : Str) (z : Bool) (S : Store) : isiC C (.bl z) S = some (.bl false) := id rfl
@[simp] theorem isiC_tup (C : Str) (z : List D) (S : Store) : isiC C (.tup z) S = some (.bl false) := id rfl
@[simp] theorem isiC_lst (C : Str) (z : List D) (S : Store) : isiC C (.lst z) S = some (.bl false) := id rfl
end HL
end
section
set_option Elab.async false
set_option linter.all false
set_option maxRecDepth 100000
set_option maxHeartbeats 1000000
namespace HL
open PySem PySem.Spec L2
@[simp] theorem eLc2_ap (fi : L → Store → R Src) (g : Tgt) (t : L → Store → R Bool) (fi1 : L → Store → R Src) (g1 : Tgt) (t1 : L → Store → R Bool) (e : L → Store → R D) (vs vs1 : List Nat) l S : eLc2 fi g t fi1 g1 t1 e vs vs1 l S = ((fi l S).bnd fun x S1 => match cGo2 g t fi1 g1 t1 e vs1 x.2 (wp l vs) x.1 0 S1 with
  | some (ds, S2) => .ok (.lst ds) S2
  | none => .bad) := id rfl
open Classical in
/-- each item gives a list; the store is as it was -/
theorem cGo2_flat {α : Type} {en : α → D} {f : α → List D} {g : Tgt} {t : L → Store → R Bool} {fi1 : L → Store → R Src} {g1 : Tgt} {t1 : L → Store → R Bool} {e : L → Store → R D} {vs1 : List Nat} {l : L} {S : Store} : ∀ {xs : List α} {n : Nat},
    (∀ x ∈ xs, ∀ n, n + (f x).length ≤ 16777216 → ∃ as y, g (en x) S = some as ∧ t (setA l as) S = .ok true S ∧ fi1 (setA l as) S = .ok y S ∧ cGo g1 t1 e y.2 (wp (setA l as) vs1) y.1 n S = some (f x, S)) → n + (xs.flatMap f).length ≤ 16777216 →
    cGo2 g t fi1 g1 t1 e vs1 [] l (xs.map en) n S = some (xs.flatMap f, S)
  | [], n, _, _ => by
    rw [List.map_nil, cGo2]
    exact if_pos trivial
  | x :: xs, n, h, hn => by
    rw [List.flatMap_cons, List.length_append] at hn
    obtain ⟨as, y, e1, e2, e3, e4⟩ := h x (.head _) n (by omega)
    have ih := cGo2_flat (t := t) (e := e) (xs := xs) (n := n + (f x).length) (fun z hz => h z (.tail _ hz)) (by omega)
    rw [List.map_cons, cGo2, if_pos (show held [] S from trivial)]
    try dsimp only
    rw [e1]
    try dsimp only
    rw [e2]
    try dsimp only
    rw [e3]
    try dsimp only
    rw [e4]
    try dsimp only
    rw [ih]
    rfl
@[simp] theorem eDic_ap l S : eDic l S = .ok .dic S := id rfl
@[simp] theorem eDget_ap (kvs : List (Str × Int)) (f : L → Store → R D) l S : eDget kvs f l S = (f l S).bnd fun d S1 => ofO (pTab kvs d) S1 := id rfl
@[simp] theorem pTab_str (kvs : List (Str × Int)) (z : Str) : pTab kvs (.str z) = some (tabD kvs z) := id rfl
end HL
end
section
set_option Elab.async false
set_option linter.all false
set_option maxRecDepth 100000
set_option maxHeartbeats 1000000
namespace HL
open PySem PySem.Spec L2
@[simp] theorem sRaise_ap (C f : Str) (fe : L → Store → R D) l S : sRaise C f fe l S = (fe l S).tos l fun d S1 => .exc ⟨C, [f], [d]⟩ l S1 := id rfl
def tryF (hs : List Hn) (r : Fl) : Fl := match r with
  | .exc e l1 S1 => hRun hs e l1 S1
  | r => r
@[simp] theorem sTry_ap (f : L → Store → Fl) (hs : List Hn) l S : sTry f hs l S = tryF hs (f l S) := id rfl
@[simp] theorem tryF_nx (hs : List Hn) l S : tryF hs (.nx l S) = .nx l S := id rfl
@[simp] theorem tryF_rt (hs : List Hn) d S : tryF hs (.rt d S) = .rt d S := id rfl
@[simp] theorem tryF_exc (hs : List Hn) e l S : tryF hs (.exc e l S) = hRun hs e l S := id rfl
@[simp] theorem tryF_bad (hs : List Hn) : tryF hs .bad = .bad := id rfl
@[simp] theorem hRun_nil (e : Exc) l S : hRun [] e l S = .exc e l S := id rfl
theorem hRun_yes {h : Hn} {r : List Hn} {e : Exc} {l : L} {S : Store} {i : Nat} (hi : h.at_ = some i) (hy : h.yes.contains e.cls = true) : hRun (h :: r) e l S = (h.f (l.set i (some (.err e.cls e.ks e.vs))) S).out (some i) := by
  rw [hRun, if_pos hy, hi]
theorem hRun_yes0 {h : Hn} {r : List Hn} {e : Exc} {l : L} {S : Store} (hi : h.at_ = none) (hy : h.yes.contains e.cls = true) : hRun (h :: r) e l S = (h.f l S).out none := by
  rw [hRun, if_pos hy, hi]
theorem hRun_no {h : Hn} {r : List Hn} {e : Exc} {l : L} {S : Store} (hy : h.yes.contains e.cls = false) (hn : h.no.contains e.cls = true) : hRun (h :: r) e l S = hRun r e l S := by
  rw [hRun, if_neg (by rw [hy]; exact Bool.false_ne_true), if_pos hn]
@[simp] theorem out_rt (d : D) (S : Store) (oi : Option Nat) : (Fl.rt d S).out oi = .rt d S := id rfl
@[simp] theorem out_nx (l : L) (S : Store) (i : Nat) : (Fl.nx l S).out (some i) = .nx (l.set i none) S := id rfl
@[simp] theorem out_nx0 (l : L) (S : Store) : (Fl.nx l S).out none = .nx l S := id rfl
@[simp] theorem pErr_ap (cs : List Str) (f C : Str) (ks : List Str) (vs : List D) (S : Store) : pErr cs f (.err C ks vs) S = if cs.contains C = true then (ks.zip vs).lookup f else none := id rfl
theorem pErr_one {cs : List Str} {f C : Str} (d : D) (S : Store) (h : cs.contains C = true) : pErr cs f (.err C [f] [d]) S = some d := by
  rw [pErr_ap, if_pos h]
  simp [List.lookup]
end HL
end
section
set_option Elab.async false
set_option linter.all false
set_option maxRecDepth 100000
set_option maxHeartbeats 4000000
namespace HL
open PySem PySem.Spec L2
@[simp] theorem eCgt_ap (x0 : Str) (n i j : Nat) (yes : List Str) (fs fr : L → Store → Fl) (fb : L → Store → R D) l S : eCgt x0 n i j yes fs fr fb l S = if hasTab x0 S = true then cgt n i j yes fs fr (fb l S) else .bad := id rfl
@[simp] theorem cgt_told (n i j : Nat) (yes : List Str) (fs fr : L → Store → Fl) (d : D) (S : Store) : cgt n i j yes fs fr (.ok d S) = fin0 (fr ((List.replicate n none).set i (some d)) S) := id rfl
theorem cgt_exc (n i j : Nat) (yes : List Str) (fs fr : L → Store → Fl) (e : Exc) (S : Store) : cgt n i j yes fs fr (.exc e S) = if yes.contains e.cls = true then fin0 (((fs ((List.replicate n none).set j (some (.err e.cls e.ks e.vs))) S).out (some j)).andThen fr) else .bad := id rfl
@[simp] theorem fin0_rt (d : D) (S : Store) : fin0 (.rt d S) = .ok d S := id rfl
@[simp] theorem fin0_nx (l : L) (S : Store) : fin0 (.nx l S) = .ok .non S := id rfl
@[simp] theorem out_rt10 (d : D) (S : Store) (o : Option Nat) : (Fl.rt d S).out o = .rt d S := id rfl
def addN (a b : Option (List D)) (S : Store) : R D := match a, b with
  | some xs, some ys => if xs.length + ys.length ≤ 16777216 then .ok (.loc S.length) (S ++ [.lst (xs ++ ys)]) else .bad
  | _, _ => .bad
@[simp] theorem eAddN_ap (f g : L → Store → R D) l S : eAddN f g l S = (f l S).bind fun d S1 => (g l S1).bind fun e S2 => addN (lstR d S2) (lstR e S2) S2 := id rfl
@[simp] theorem addN_some (xs ys : List D) (S : Store) : addN (some xs) (some ys) S = if xs.length + ys.length ≤ 16777216 then .ok (.loc S.length) (S ++ [.lst (xs ++ ys)]) else .bad := id rfl
@[simp] theorem lstR_lst (xs : List D) (S : Store) : lstR (.lst xs) S = some xs := id rfl
theorem lstR_loc {n : Nat} {S : Store} {xs : List D} (h : S[n]? = some (.lst xs)) : lstR (.loc n) S = some xs := by
  show (match S[n]? with
    | some (.lst xs) => some xs
    | _ => none) = some xs
  rw [h]
@[simp] theorem lstR_new (S T : Store) (xs : List D) : lstR (.loc S.length) (S ++ Ob.lst xs :: T) = some xs := lstR_loc (by rw [List.getElem?_append_right (Nat.le_refl _)]; simp)
@[simp] theorem lstR_new1 (S T : Store) (a : Ob) (xs : List D) : lstR (.loc (S.length + 1)) (S ++ a :: Ob.lst xs :: T) = some xs := lstR_loc (by rw [List.getElem?_append_right (by omega)]; simp)
@[simp] theorem lstR_new2 (S T : Store) (a b : Ob) (xs : List D) : lstR (.loc (S.length + 2)) (S ++ a :: b :: Ob.lst xs :: T) = some xs := lstR_loc (by rw [List.getElem?_append_right (by omega)]; simp)
@[simp] theorem lstR_new3 (S T : Store) (a b c : Ob) (xs : List D) : lstR (.loc (S.length + 3)) (S ++ a :: b :: c :: Ob.lst xs :: T) = some xs := lstR_loc (by rw [List.getElem?_append_right (by omega)]; simp)
@[simp] theorem lstR_new4 (S T : Store) (a b c d : Ob) (xs : List D) : lstR (.loc (S.length + 4)) (S ++ a :: b :: c :: d :: Ob.lst xs :: T) = some xs := lstR_loc (by rw [List.getElem?_append_right (by omega)]; simp)
@[simp] theorem lstR_new5 (S T : Store) (a b c d e : Ob) (xs : List D) : lstR (.loc (S.length + 5)) (S ++ a :: b :: c :: d :: e :: Ob.lst xs :: T) = some xs := lstR_loc (by rw [List.getElem?_append_right (by omega)]; simp)
@[simp] theorem pCountB_ap (d : D) (b : Bool) (S : Store) : pCountB d [.bl b] S = ((lstR d S).bind boolsD).map fun bs => .int (bs.count b : Nat) := id rfl
@[simp] theorem boolsD_nil : boolsD [] = some [] := id rfl
@[simp] theorem boolsD_cons (b : Bool) (ds : List D) : boolsD (.bl b :: ds) = (boolsD ds).map fun bs => b :: bs := id rfl
theorem isiX_err (yes no : List Str) (C : Str) (ks : List Str) (vs : List D) (S : Store) : isiX yes no (.err C ks vs) S = if yes.contains C = true then some (.bl true) else if no.contains C = true then some (.bl false) else none := id rfl
theorem isiX_t {yes no : List Str} {C : Str} (h : yes.contains C = true) (ks : List Str) (vs : List D) (S : Store) : isiX yes no (.err C ks vs) S = some (.bl true) := by rw [isiX_err, if_pos h]
theorem isiX_f {yes no : List Str} {C : Str} (h : yes.contains C = false) (h2 : no.contains C = true) (ks : List Str) (vs : List D) (S : Store) : isiX yes no (.err C ks vs) S = some (.bl false) := by rw [isiX_err, if_neg (by rw [h]; simp), if_pos h2]
@[simp] theorem pNegE_int (i : Int) (S : Store) : pNegE (.int i) S = some (.int (-i)) := id rfl
theorem hasTab_app {x : Str} {S T : Store} (h : hasTab x S = true) : hasTab x (S ++ T) = true := by
  unfold hasTab at *
  rw [List.any_append, h, Bool.true_or]
theorem hasTab_old {x : Str} {S T : Store} {n : Nat} {xs : List D} (h : hasTab x S = true) (hn : S[n]? = some (.lst xs)) (ho : ∀ i, i ≠ n → i < S.length → T[i]? = S[i]?) : hasTab x T = true := by
  obtain ⟨i, hi⟩ := hasTab_at h
  have hne : i ≠ n := fun z => by rw [z, hn] at hi; cases hi
  have hl := (List.getElem?_eq_some_iff.mp hi).1
  unfold hasTab
  refine List.any_eq_true.mpr ⟨.tab x, List.mem_of_getElem? ((ho i hne hl).trans hi), ?_⟩
  simp
theorem toPys_bools : ∀ bs : List Bool, toPys (bs.map .bl) = some (bs.map .bool)
  | [] => rfl
  | b :: bs => by
    show (match toPy (.bl b), toPys (bs.map D.bl) with
      | some p, some ps => some (p :: ps)
      | _, _ => none) = _
    rw [toPys_bools bs]
    rfl
theorem toPyS_bools {d : D} {S : Store} {bs : List Bool} (h : lstR d S = some (bs.map .bl)) : toPyS d S = some (.list (bs.map .bool)) := by
  cases d with
  | loc n =>
    have h' : (match S[n]? with
      | some (.lst xs) => some xs
      | _ => none) = some (bs.map D.bl) := h
    show (match S[n]? with
      | some (.lst xs) => (toPys xs).map PyData.list
      | _ => none) = _
    cases z : S[n]? with
    | none => rw [z] at h'; cases h'
    | some o => cases o with
      | lst xs =>
        rw [z] at h'
        have e : xs = bs.map D.bl := Option.some.inj h'
        show (toPys xs).map PyData.list = _
        rw [e, toPys_bools]
        rfl
      | ins C ks vs => rw [z] at h'; cases h'
      | tab x => rw [z] at h'; cases h'
      | dct hs kvs => rw [z] at h'; cases h'
  | lst xs =>
    have e : xs = bs.map D.bl := Option.some.inj h
    show (toPys xs).map PyData.list = _
    rw [e, toPys_bools]
    rfl
  | _ => cases h
@[simp] theorem eMakeX_ap (tr : Bool) (C : Str) (n a b : Nat) (ix : List Nat) (g : List D → Store → R D) (fa fk : L → Store → R (List D)) l S : eMakeX tr C n a b ix g fa fk l S = (fa l S).bnd fun ds S0 => (fk l S0).bnd fun es S1 => if ds.length = a ∧ es.length = b then (if (gIx ix (ds ++ es)).length + 1 = n then (g (.loc S1.length :: gIx ix (ds ++ es)) (S1 ++ [.ins C [] []])).bnd fun r S2 => (match r with
    | .non => fin tr S1 (.loc S1.length) S2
    | _ => .bad)
  else .bad) else .bad := id rfl
end HL
end
section
set_option Elab.async false
set_option linter.all false
set_option maxRecDepth 100000
set_option maxHeartbeats 4000000
namespace HL
open PySem PySem.Spec L2
@[simp] theorem eErrV_ap (C : Str) (ks : List Str) (ix : List Nat) (fa : L → Store → R (List D)) l S : eErrV C ks ix fa l S = (fa l S).bnd fun ds S1 => if ds.length = ix.length ∧ (gIx ix ds).length = ks.length then .ok (.err C ks (gIx ix ds)) S1 else .bad := id rfl
@[simp] theorem sRaise2_ap (C : Str) (fa : L → Store → R (List D)) l S : sRaise2 C fa l S = (fa l S).tos l fun ds S1 => if ds.length = 2 then .exc ⟨C, ["index", "shown"], ds⟩ l S1 else .bad := id rfl
end HL
end
section
set_option Elab.async false
set_option linter.all false
set_option maxRecDepth 100000
set_option maxHeartbeats 0
namespace HL
open PySem PySem.Spec L2
def top (i : Nat) : Stmt := PySem.Challenge.pw_heldlessons_k01_limits_and_errors.main.body.getD i (.Pass ⟨0, 0, 0, 0⟩)
def dd0 : DefA := ⟨fun K => He.ga K "_law_given", "_law_given", "_law_given", defArgs (top 37), defBody (top 37), defScope (top 37), []⟩
def dd1 : DefA := ⟨fun K => He.ga K "_law_sorts", "_law_sorts", "_law_sorts", defArgs (top 34), defBody (top 34), defScope (top 34), []⟩
def dd2 : DefA := ⟨fun K => He.ga K "_law_bases", "_law_bases", "_law_bases", defArgs (top 35), defBody (top 35), defScope (top 35), []⟩
def dd3 : DefA := ⟨fun K => He.ga K "_law_due", "_law_due", "_law_due", defArgs (top 36), defBody (top 36), defScope (top 36), []⟩
def dd4 : DefA := ⟨fun K => He.ga K "_law_kept_right", "_law_kept_right", "_law_kept_right", defArgs (top 38), defBody (top 38), defScope (top 38), []⟩
def dd5 : DefA := ⟨fun K => He.ga K "_law_raised_right", "_law_raised_right", "_law_raised_right", defArgs (top 39), defBody (top 39), defScope (top 39), []⟩
def dd6 : DefA := ⟨fun K => He.ga K "_law_right", "_law_right", "_law_right", defArgs (top 40), defBody (top 40), defScope (top 40), []⟩
def dd7 : DefA := ⟨fun K => He.ga K "law", "law", "law", defArgs (top 41), defBody (top 41), defScope (top 41), []⟩
def fnL : List DefA := [dd0, dd1, dd2, dd3, dd4, dd5, dd6, dd7]
def faL : List He.Fa := [.int "MOST_HIRES" 6, .int "MOST_OFFERS" 3, .int "MOST_NUMBER" 1000000000000000000000000000000, .int "MOST_KINDS" 5, .int "MOST_PAIRS" 9, .int "MOST_HOURS" 3, .int "MOST_SUBJECTS" 4, .int "MOST_ABSENCES" 1000, .int "MOST_PEOPLE" 6, .int "MOST_TRAININGS" 3, .free "int", .glo "Unlike", .glo "NothingToUndo", .glo "_law_given", .free "len", .free "range", .free "isinstance", .glo "InvalidAbsence", .glo "InvalidNumber", .glo "InvalidText", .glo "InvalidName", .glo "InvalidTable", .glo "InvalidHour", .glo "NotAPlan", .glo "InvalidPlace", .glo "InvalidClaim", .glo "InvalidKinds", .glo "InvalidHours", .glo "InvalidSubjects", .glo "InUse", .glo "UnknownName", .glo "InvalidOffers", .glo "TooMany", .glo "Broken", .glo "_law_sorts", .glo "CannotBe", .glo "NotThere", .glo "NotRight", .free "ArithmeticError", .free "LookupError", .free "ValueError", .free "ZeroDivisionError", .free "IndexError", .free "KeyError", .glo "_law_bases", .glo "_law_due", .free "repr", .glo "_law_kept_right", .glo "_law_raised_right", .glo "_law_right", .glo "law"]
def prL : List (Str × Str) := []
def isL : List Str := []
def xcL : List XcD := [⟨"InvalidHour", "given", "ValueError", defArgs (inClass (top 5) 0), defBody (inClass (top 5) 0)⟩, ⟨"InvalidAbsence", "given", "ValueError", defArgs (inClass (top 4) 0), defBody (inClass (top 4) 0)⟩, ⟨"InvalidNumber", "given", "ValueError", defArgs (inClass (top 3) 0), defBody (inClass (top 3) 0)⟩, ⟨"InvalidText", "given", "ValueError", defArgs (inClass (top 2) 0), defBody (inClass (top 2) 0)⟩, ⟨"InvalidPlace", "given", "ValueError", defArgs (inClass (top 9) 0), defBody (inClass (top 9) 0)⟩, ⟨"InvalidClaim", "given", "ValueError", defArgs (inClass (top 8) 0), defBody (inClass (top 8) 0)⟩, ⟨"InvalidName", "given", "ValueError", defArgs (inClass (top 7) 0), defBody (inClass (top 7) 0)⟩, ⟨"InvalidTable", "given", "ValueError", defArgs (inClass (top 6) 0), defBody (inClass (top 6) 0)⟩, ⟨"InvalidKinds", "index", "ValueError", defArgs (inClass (top 13) 0), defBody (inClass (top 13) 0)⟩, ⟨"InvalidHours", "index", "ValueError", defArgs (inClass (top 12) 0), defBody (inClass (top 12) 0)⟩, ⟨"InvalidSubjects", "index", "ValueError", defArgs (inClass (top 11) 0), defBody (inClass (top 11) 0)⟩, ⟨"NotAPlan", "given", "ValueError", defArgs (inClass (top 10) 0), defBody (inClass (top 10) 0)⟩, ⟨"TooMany", "most", "ArithmeticError", defArgs (inClass (top 20) 0), defBody (inClass (top 20) 0)⟩, ⟨"InUse", "index", "LookupError", defArgs (inClass (top 17) 0), defBody (inClass (top 17) 0)⟩, ⟨"UnknownName", "given", "LookupError", defArgs (inClass (top 16) 0), defBody (inClass (top 16) 0)⟩, ⟨"InvalidOffers", "index", "ValueError", defArgs (inClass (top 14) 0), defBody (inClass (top 14) 0)⟩, ⟨"Broken", "2", "ArithmeticError", defArgs (inClass (top 22) 0), defBody (inClass (top 22) 0)⟩]
def tkL : List (Str × List Str × List Str) := [("InvalidAbsence", ["InvalidAbsence"], ["NotRight", "InvalidText", "InvalidNumber", "InvalidHour", "InvalidTable", "InvalidName", "InvalidClaim", "InvalidPlace", "NotAPlan", "InvalidSubjects", "InvalidHours", "InvalidKinds", "InvalidOffers", "NotThere", "UnknownName", "InUse", "CannotBe", "Unlike", "TooMany", "NothingToUndo", "Broken"]), ("InvalidNumber", ["InvalidNumber"], ["NotRight", "InvalidText", "InvalidAbsence", "InvalidHour", "InvalidTable", "InvalidName", "InvalidClaim", "InvalidPlace", "NotAPlan", "InvalidSubjects", "InvalidHours", "InvalidKinds", "InvalidOffers", "NotThere", "UnknownName", "InUse", "CannotBe", "Unlike", "TooMany", "NothingToUndo", "Broken"]), ("InvalidText", ["InvalidText"], ["NotRight", "InvalidNumber", "InvalidAbsence", "InvalidHour", "InvalidTable", "InvalidName", "InvalidClaim", "InvalidPlace", "NotAPlan", "InvalidSubjects", "InvalidHours", "InvalidKinds", "InvalidOffers", "NotThere", "UnknownName", "InUse", "CannotBe", "Unlike", "TooMany", "NothingToUndo", "Broken"]), ("InvalidName", ["InvalidName"], ["NotRight", "InvalidText", "InvalidNumber", "InvalidAbsence", "InvalidHour", "InvalidTable", "InvalidClaim", "InvalidPlace", "NotAPlan", "InvalidSubjects", "InvalidHours", "InvalidKinds", "InvalidOffers", "NotThere", "UnknownName", "InUse", "CannotBe", "Unlike", "TooMany", "NothingToUndo", "Broken"]), ("InvalidTable", ["InvalidTable"], ["NotRight", "InvalidText", "InvalidNumber", "InvalidAbsence", "InvalidHour", "InvalidName", "InvalidClaim", "InvalidPlace", "NotAPlan", "InvalidSubjects", "InvalidHours", "InvalidKinds", "InvalidOffers", "NotThere", "UnknownName", "InUse", "CannotBe", "Unlike", "TooMany", "NothingToUndo", "Broken"]), ("InvalidHour", ["InvalidHour"], ["NotRight", "InvalidText", "InvalidNumber", "InvalidAbsence", "InvalidTable", "InvalidName", "InvalidClaim", "InvalidPlace", "NotAPlan", "InvalidSubjects", "InvalidHours", "InvalidKinds", "InvalidOffers", "NotThere", "UnknownName", "InUse", "CannotBe", "Unlike", "TooMany", "NothingToUndo", "Broken"]), ("NotAPlan", ["NotAPlan"], ["NotRight", "InvalidText", "InvalidNumber", "InvalidAbsence", "InvalidHour", "InvalidTable", "InvalidName", "InvalidClaim", "InvalidPlace", "InvalidSubjects", "InvalidHours", "InvalidKinds", "InvalidOffers", "NotThere", "UnknownName", "InUse", "CannotBe", "Unlike", "TooMany", "NothingToUndo", "Broken"]), ("InvalidPlace", ["InvalidPlace"], ["NotRight", "InvalidText", "InvalidNumber", "InvalidAbsence", "InvalidHour", "InvalidTable", "InvalidName", "InvalidClaim", "NotAPlan", "InvalidSubjects", "InvalidHours", "InvalidKinds", "InvalidOffers", "NotThere", "UnknownName", "InUse", "CannotBe", "Unlike", "TooMany", "NothingToUndo", "Broken"]), ("InvalidClaim", ["InvalidClaim"], ["NotRight", "InvalidText", "InvalidNumber", "InvalidAbsence", "InvalidHour", "InvalidTable", "InvalidName", "InvalidPlace", "NotAPlan", "InvalidSubjects", "InvalidHours", "InvalidKinds", "InvalidOffers", "NotThere", "UnknownName", "InUse", "CannotBe", "Unlike", "TooMany", "NothingToUndo", "Broken"]), ("InvalidKinds", ["InvalidKinds"], ["NotRight", "InvalidText", "InvalidNumber", "InvalidAbsence", "InvalidHour", "InvalidTable", "InvalidName", "InvalidClaim", "InvalidPlace", "NotAPlan", "InvalidSubjects", "InvalidHours", "InvalidOffers", "NotThere", "UnknownName", "InUse", "CannotBe", "Unlike", "TooMany", "NothingToUndo", "Broken"]), ("InvalidHours", ["InvalidHours"], ["NotRight", "InvalidText", "InvalidNumber", "InvalidAbsence", "InvalidHour", "InvalidTable", "InvalidName", "InvalidClaim", "InvalidPlace", "NotAPlan", "InvalidSubjects", "InvalidKinds", "InvalidOffers", "NotThere", "UnknownName", "InUse", "CannotBe", "Unlike", "TooMany", "NothingToUndo", "Broken"]), ("InvalidSubjects", ["InvalidSubjects"], ["NotRight", "InvalidText", "InvalidNumber", "InvalidAbsence", "InvalidHour", "InvalidTable", "InvalidName", "InvalidClaim", "InvalidPlace", "NotAPlan", "InvalidHours", "InvalidKinds", "InvalidOffers", "NotThere", "UnknownName", "InUse", "CannotBe", "Unlike", "TooMany", "NothingToUndo", "Broken"]), ("InUse", ["InUse"], ["NotRight", "InvalidText", "InvalidNumber", "InvalidAbsence", "InvalidHour", "InvalidTable", "InvalidName", "InvalidClaim", "InvalidPlace", "NotAPlan", "InvalidSubjects", "InvalidHours", "InvalidKinds", "InvalidOffers", "NotThere", "UnknownName", "CannotBe", "Unlike", "TooMany", "NothingToUndo", "Broken"]), ("UnknownName", ["UnknownName"], ["NotRight", "InvalidText", "InvalidNumber", "InvalidAbsence", "InvalidHour", "InvalidTable", "InvalidName", "InvalidClaim", "InvalidPlace", "NotAPlan", "InvalidSubjects", "InvalidHours", "InvalidKinds", "InvalidOffers", "NotThere", "InUse", "CannotBe", "Unlike", "TooMany", "NothingToUndo", "Broken"]), ("InvalidOffers", ["InvalidOffers"], ["NotRight", "InvalidText", "InvalidNumber", "InvalidAbsence", "InvalidHour", "InvalidTable", "InvalidName", "InvalidClaim", "InvalidPlace", "NotAPlan", "InvalidSubjects", "InvalidHours", "InvalidKinds", "NotThere", "UnknownName", "InUse", "CannotBe", "Unlike", "TooMany", "NothingToUndo", "Broken"]), ("NothingToUndo", ["NothingToUndo"], ["NotRight", "InvalidText", "InvalidNumber", "InvalidAbsence", "InvalidHour", "InvalidTable", "InvalidName", "InvalidClaim", "InvalidPlace", "NotAPlan", "InvalidSubjects", "InvalidHours", "InvalidKinds", "InvalidOffers", "NotThere", "UnknownName", "InUse", "CannotBe", "Unlike", "TooMany", "Broken"]), ("TooMany", ["TooMany"], ["NotRight", "InvalidText", "InvalidNumber", "InvalidAbsence", "InvalidHour", "InvalidTable", "InvalidName", "InvalidClaim", "InvalidPlace", "NotAPlan", "InvalidSubjects", "InvalidHours", "InvalidKinds", "InvalidOffers", "NotThere", "UnknownName", "InUse", "CannotBe", "Unlike", "NothingToUndo", "Broken"]), ("Unlike", ["Unlike"], ["NotRight", "InvalidText", "InvalidNumber", "InvalidAbsence", "InvalidHour", "InvalidTable", "InvalidName", "InvalidClaim", "InvalidPlace", "NotAPlan", "InvalidSubjects", "InvalidHours", "InvalidKinds", "InvalidOffers", "NotThere", "UnknownName", "InUse", "CannotBe", "TooMany", "NothingToUndo", "Broken"]), ("Broken", ["Broken"], ["NotRight", "InvalidText", "InvalidNumber", "InvalidAbsence", "InvalidHour", "InvalidTable", "InvalidName", "InvalidClaim", "InvalidPlace", "NotAPlan", "InvalidSubjects", "InvalidHours", "InvalidKinds", "InvalidOffers", "NotThere", "UnknownName", "InUse", "CannotBe", "Unlike", "TooMany", "NothingToUndo"]), ("CannotBe", ["CannotBe", "Unlike", "TooMany", "NothingToUndo", "Broken"], ["NotRight", "InvalidText", "InvalidNumber", "InvalidAbsence", "InvalidHour", "InvalidTable", "InvalidName", "InvalidClaim", "InvalidPlace", "NotAPlan", "InvalidSubjects", "InvalidHours", "InvalidKinds", "InvalidOffers", "NotThere", "UnknownName", "InUse"]), ("NotThere", ["NotThere", "UnknownName", "InUse"], ["NotRight", "InvalidText", "InvalidNumber", "InvalidAbsence", "InvalidHour", "InvalidTable", "InvalidName", "InvalidClaim", "InvalidPlace", "NotAPlan", "InvalidSubjects", "InvalidHours", "InvalidKinds", "InvalidOffers", "CannotBe", "Unlike", "TooMany", "NothingToUndo", "Broken"]), ("NotRight", ["NotRight", "InvalidText", "InvalidNumber", "InvalidAbsence", "InvalidHour", "InvalidTable", "InvalidName", "InvalidClaim", "InvalidPlace", "NotAPlan", "InvalidSubjects", "InvalidHours", "InvalidKinds", "InvalidOffers"], ["NotThere", "UnknownName", "InUse", "CannotBe", "Unlike", "TooMany", "NothingToUndo", "Broken"])]
def erL : List (Str × Str) := [("InvalidText", "given"), ("InvalidNumber", "given"), ("InvalidAbsence", "given"), ("InvalidHour", "given"), ("InvalidTable", "given"), ("InvalidName", "given"), ("InvalidClaim", "given"), ("InvalidPlace", "given"), ("NotAPlan", "given"), ("UnknownName", "given"), ("InvalidSubjects", "index"), ("InvalidHours", "index"), ("InvalidKinds", "index"), ("InvalidOffers", "index"), ("InUse", "index"), ("Broken", "index"), ("TooMany", "most"), ("Broken", "shown")]
def neL : List Str := []
def cmL : List (Str × Str) := []
def fileL : Str := PySem.Challenge.pw_heldlessons_k01_limits_and_errors.main.file
def ixL : List Str := ["NotRight", "InvalidText", "InvalidNumber", "InvalidAbsence", "InvalidHour", "InvalidTable", "InvalidName", "InvalidClaim", "InvalidPlace", "NotAPlan", "InvalidSubjects", "InvalidHours", "InvalidKinds", "InvalidOffers", "NotThere", "UnknownName", "InUse", "CannotBe", "Unlike", "TooMany", "NothingToUndo", "Broken"]
def bxL : List BxD := [("", ["Unlike"], []), ("", ["NothingToUndo"], []), ("ArithmeticError", ["CannotBe", "Unlike", "TooMany", "NothingToUndo", "Broken"], ["NotRight", "InvalidText", "InvalidNumber", "InvalidAbsence", "InvalidHour", "InvalidTable", "InvalidName", "InvalidClaim", "InvalidPlace", "NotAPlan", "InvalidSubjects", "InvalidHours", "InvalidKinds", "InvalidOffers", "NotThere", "UnknownName", "InUse"]), ("LookupError", ["NotThere", "UnknownName", "InUse"], ["NotRight", "InvalidText", "InvalidNumber", "InvalidAbsence", "InvalidHour", "InvalidTable", "InvalidName", "InvalidClaim", "InvalidPlace", "NotAPlan", "InvalidSubjects", "InvalidHours", "InvalidKinds", "InvalidOffers", "CannotBe", "Unlike", "TooMany", "NothingToUndo", "Broken"]), ("ValueError", ["NotRight", "InvalidText", "InvalidNumber", "InvalidAbsence", "InvalidHour", "InvalidTable", "InvalidName", "InvalidClaim", "InvalidPlace", "NotAPlan", "InvalidSubjects", "InvalidHours", "InvalidKinds", "InvalidOffers"], ["NotThere", "UnknownName", "InUse", "CannotBe", "Unlike", "TooMany", "NothingToUndo", "Broken"]), ("ZeroDivisionError", [], ["NotRight", "InvalidText", "InvalidNumber", "InvalidAbsence", "InvalidHour", "InvalidTable", "InvalidName", "InvalidClaim", "InvalidPlace", "NotAPlan", "InvalidSubjects", "InvalidHours", "InvalidKinds", "InvalidOffers", "NotThere", "UnknownName", "InUse", "CannotBe", "Unlike", "TooMany", "NothingToUndo", "Broken"]), ("IndexError", [], ["NotRight", "InvalidText", "InvalidNumber", "InvalidAbsence", "InvalidHour", "InvalidTable", "InvalidName", "InvalidClaim", "InvalidPlace", "NotAPlan", "InvalidSubjects", "InvalidHours", "InvalidKinds", "InvalidOffers", "NotThere", "UnknownName", "InUse", "CannotBe", "Unlike", "TooMany", "NothingToUndo", "Broken"]), ("KeyError", [], ["NotRight", "InvalidText", "InvalidNumber", "InvalidAbsence", "InvalidHour", "InvalidTable", "InvalidName", "InvalidClaim", "InvalidPlace", "NotAPlan", "InvalidSubjects", "InvalidHours", "InvalidKinds", "InvalidOffers", "NotThere", "UnknownName", "InUse", "CannotBe", "Unlike", "TooMany", "NothingToUndo", "Broken"])]
def tsL : List Str := []
abbrev Tx (P : Program) (w : World) (K : Frag) (mg : Str → Option Value) (base : Heap) : Prop := TxC faL fnL prL isL xcL tkL erL neL cmL fileL ixL bxL tsL P w K mg base
def nmH0 : List Str := [("__name__" : Str), ("NotRight" : Str), ("InvalidText" : Str), ("InvalidNumber" : Str), ("InvalidAbsence" : Str), ("InvalidHour" : Str), ("InvalidTable" : Str), ("InvalidName" : Str), ("InvalidClaim" : Str), ("InvalidPlace" : Str), ("NotAPlan" : Str), ("InvalidSubjects" : Str), ("InvalidHours" : Str), ("InvalidKinds" : Str), ("InvalidOffers" : Str), ("NotThere" : Str), ("UnknownName" : Str), ("InUse" : Str), ("CannotBe" : Str), ("Unlike" : Str), ("TooMany" : Str), ("NothingToUndo" : Str), ("Broken" : Str), ("MOST_SUBJECTS" : Str), ("MOST_HOURS" : Str), ("MOST_PAIRS" : Str), ("MOST_KINDS" : Str), ("MOST_NUMBER" : Str), ("MOST_OFFERS" : Str), ("MOST_HIRES" : Str), ("MOST_TRAININGS" : Str), ("MOST_PEOPLE" : Str), ("MOST_ABSENCES" : Str), ("_law_sorts" : Str), ("_law_bases" : Str), ("_law_due" : Str), ("_law_given" : Str), ("_law_kept_right" : Str), ("_law_raised_right" : Str), ("_law_right" : Str)]
def looseL : List Str := nmH0
abbrev rowL : PySem.W.OpenRow := PySem.W.OpenLaw.row PySem.Challenge.rw_heldlessons_k01_limits_and_errors
abbrev hkL : PySem.W.Hook := hookC faL fnL prL isL xcL tkL erL neL cmL fileL ixL bxL tsL
theorem run1 (w : World) : ∀ os, (endR rowL 30000 w os).map (look1 rowL w) = some true := by
  intro os
  kernel_rfl
theorem run2 (w : World) : ∀ os, (endR rowL 30000 w os).map (look2 rowL (PySem.W.view rowL.prog [41]) looseL) = some (good2 (PySem.W.view rowL.prog [41]) looseL) := by
  intro os
  kernel_rfl
theorem run3a (w : World) : ∀ os, (endR rowL 30000 w os).map (fun s => (faL.take 25).all fun f => f.ok (frAllT (HandSHeadRun.getT s))) = some true := by
  intro os
  kernel_rfl
theorem run3b (w : World) : ∀ os, (endR rowL 30000 w os).map (fun s => (faL.drop 25).all fun f => f.ok (frAllT (HandSHeadRun.getT s))) = some true := by
  intro os
  kernel_rfl
theorem run3c1 (w : World) : ∀ os, (endR rowL 30000 w os).map (fun s => (fnL.take 4).all fun d => d.ok (frAllT (HandSHeadRun.getT s))) = some true := by
  intro os
  kernel_rfl
theorem run3c2 (w : World) : ∀ os, (endR rowL 30000 w os).map (fun s => (fnL.drop 4).all fun d => d.ok (frAllT (HandSHeadRun.getT s))) = some true := by
  intro os
  kernel_rfl
theorem run3c3 (w : World) : ∀ os, (endR rowL 30000 w os).map (fun s => (prL.all fun x => prB (frAllT (HandSHeadRun.getT s)) x) && isL.all fun x => isB (frAllT (HandSHeadRun.getT s)) x) = some true := by
  intro os
  kernel_rfl
theorem run3c (w : World) : ∀ os, (endR rowL 30000 w os).map (fun s => (fnL.all fun d => d.ok (frAllT (HandSHeadRun.getT s))) && ((prL.all fun x => prB (frAllT (HandSHeadRun.getT s)) x) && isL.all fun x => isB (frAllT (HandSHeadRun.getT s)) x)) = some true := ob_split2 4 (run3c1 w) (run3c2 w) (run3c3 w)
theorem run3d (w : World) : ∀ os, (endR rowL 30000 w os).map (fun s => (fnL.take 4).map fun d => fnA (frAllT (HandSHeadRun.getT s)) (d.at_ (frAllT (HandSHeadRun.getT s)))) = some ((fnL.take 4).map DefA.val) := by
  intro os
  kernel_rfl
theorem run3e (w : World) : ∀ os, (endR rowL 30000 w os).map (fun s => (fnL.drop 4).map fun d => fnA (frAllT (HandSHeadRun.getT s)) (d.at_ (frAllT (HandSHeadRun.getT s)))) = some ((fnL.drop 4).map DefA.val) := by
  intro os
  kernel_rfl
theorem run3 (w : World) : ∀ os, (endR rowL 30000 w os).map (fun s => obsA faL fnL prL isL (frAllT (HandSHeadRun.getT s))) = some (valA fnL) := ob_split3 25 4 (run3a w) (run3b w) (run3c w) (run3d w) (run3e w)
theorem run4 (w : World) : ∀ os, (endR rowL 30000 w os).map (fun s => obsX xcL tkL erL neL cmL fileL (frAllT (HandSHeadRun.getT s))) = some (valX xcL) := by
  intro os
  kernel_rfl
theorem run5 (w : World) : ∀ os, (endR rowL 30000 w os).map (fun s => exC ixL bxL tsL (frAllT (HandSHeadRun.getT s)) && He.tabsB (HandSHeadRun.getT s) (tfOf tsL) (frAllT (HandSHeadRun.getT s))) = some true := by
  intro os
  kernel_rfl
theorem runL (w : World) : HandSHeadRun.RunEq rowL (PySem.W.view rowL.prog [41]) hkL (obTC faL fnL prL isL xcL tkL erL neL cmL fileL ixL bxL tsL) 30000 looseL w := run_split (run1 w) (run2 w) (ob_splitC (run3 w) (run4 w) (run5 w))
end HL
end
section
set_option Elab.async false
set_option linter.all false
set_option maxRecDepth 100000
set_option maxHeartbeats 4000000
namespace HL
open PySem PySem.Spec L2
noncomputable def bf__law_given : L → Store → Fl := bSeq (sSet 1 (eLst (aCons (eErrV "InvalidText" ["given"] [0] (aCons (eLoc 0) (aNil))) (aCons (eErrV "InvalidNumber" ["given"] [0] (aCons (eLoc 0) (aNil))) (aCons (eErrV "InvalidAbsence" ["given"] [0] (aCons (eLoc 0) (aNil))) (aCons (eErrV "InvalidHour" ["given"] [0] (aCons (eLoc 0) (aNil))) (aNil))))))) (bSeq (sSet 1 (mBin pAdd (eLoc 1) (eLst (aCons (eErrV "InvalidTable" ["given"] [0] (aCons (eLoc 0) (aNil))) (aCons (eErrV "InvalidName" ["given"] [0] (aCons (eLoc 0) (aNil))) (aCons (eErrV "InvalidClaim" ["given"] [0] (aCons (eLoc 0) (aNil))) (aCons (eErrV "InvalidPlace" ["given"] [0] (aCons (eLoc 0) (aNil))) (aNil)))))))) (bSeq (sSet 1 (mBin pAdd (eLoc 1) (eLst (aCons (eErrV "NotAPlan" ["given"] [0] (aCons (eLoc 0) (aNil))) (aCons (eErrV "InvalidSubjects" ["index"] [0] (aCons (eLoc 0) (aNil))) (aCons (eErrV "InvalidHours" ["index"] [0] (aCons (eLoc 0) (aNil))) (aCons (eErrV "InvalidKinds" ["index"] [0] (aCons (eLoc 0) (aNil))) (aNil)))))))) (bSeq (sSet 1 (mBin pAdd (eLoc 1) (eLst (aCons (eErrV "InvalidOffers" ["index"] [0] (aCons (eLoc 0) (aNil))) (aCons (eErrV "UnknownName" ["given"] [0] (aCons (eLoc 0) (aNil))) (aCons (eErrV "InUse" ["index"] [0] (aCons (eLoc 0) (aNil))) (aCons (eErrV "Unlike" [] [] aNil) (aCons (eErrV "TooMany" ["most"] [0] (aCons (eLoc 0) (aNil))) (aNil))))))))) (bSeq (sSet 1 (mBin pAdd (eLoc 1) (eLst (aCons (eErrV "NothingToUndo" [] [] aNil) (aCons (eErrV "Broken" ["index", "shown"] [0, 1] (aCons (eLoc 0) (aCons (eCon (.int 7)) (aNil)))) (aNil)))))) (bSeq (sSet 2 (eLst (aCons (eErrV "InvalidText" ["given"] [0] (aCons (eLoc 0) (aNil))) (aCons (eErrV "InvalidNumber" ["given"] [0] (aCons (eLoc 0) (aNil))) (aCons (eErrV "InvalidAbsence" ["given"] [0] (aCons (eLoc 0) (aNil))) (aNil)))))) (bSeq (sSet 2 (mBin pAdd (eLoc 2) (eLst (aCons (eErrV "InvalidHour" ["given"] [0] (aCons (eLoc 0) (aNil))) (aCons (eErrV "InvalidTable" ["given"] [0] (aCons (eLoc 0) (aNil))) (aCons (eErrV "InvalidName" ["given"] [0] (aCons (eLoc 0) (aNil))) (aNil))))))) (bSeq (sSet 2 (mBin pAdd (eLoc 2) (eLst (aCons (eErrV "InvalidClaim" ["given"] [0] (aCons (eLoc 0) (aNil))) (aCons (eErrV "InvalidPlace" ["given"] [0] (aCons (eLoc 0) (aNil))) (aCons (eErrV "NotAPlan" ["given"] [0] (aCons (eLoc 0) (aNil))) (aNil))))))) (bSeq (sSet 2 (mBin pAdd (eLoc 2) (eLst (aCons (eErrV "InvalidSubjects" ["index"] [0] (aCons (eLoc 0) (aNil))) (aCons (eErrV "InvalidHours" ["index"] [0] (aCons (eLoc 0) (aNil))) (aCons (eErrV "InvalidKinds" ["index"] [0] (aCons (eLoc 0) (aNil))) (aNil))))))) (bSeq (sSet 2 (mBin pAdd (eLoc 2) (eLst (aCons (eErrV "InvalidOffers" ["index"] [0] (aCons (eLoc 0) (aNil))) (aCons (eErrV "UnknownName" ["given"] [0] (aCons (eLoc 0) (aNil))) (aCons (eErrV "InUse" ["index"] [0] (aCons (eLoc 0) (aNil))) (aCons (eErrV "Unlike" [] [] aNil) (aNil)))))))) (bSeq (sSet 2 (mBin pAdd (eLoc 2) (eLst (aCons (eErrV "TooMany" ["most"] [0] (aCons (eLoc 0) (aNil))) (aCons (eErrV "NothingToUndo" [] [] aNil) (aCons (eErrV "Broken" ["index", "shown"] [1, 0] (aCons (eCon (.int 7)) (aCons (eLoc 0) (aNil)))) (aNil))))))) (sRet (eLst (aCons (eLoc 1) (aCons (eLoc 2) (aNil)))))))))))))))
noncomputable def F__law_given : List D → Store → R D := run false 3 bf__law_given
noncomputable def bf__law_sorts : L → Store → Fl := bSeq (sSet 1 (eLst (aCons (mIsi (isiX ["InvalidText"] ["NotRight", "InvalidNumber", "InvalidAbsence", "InvalidHour", "InvalidTable", "InvalidName", "InvalidClaim", "InvalidPlace", "NotAPlan", "InvalidSubjects", "InvalidHours", "InvalidKinds", "InvalidOffers", "NotThere", "UnknownName", "InUse", "CannotBe", "Unlike", "TooMany", "NothingToUndo", "Broken"]) (eLoc 0)) (aCons (mIsi (isiX ["InvalidNumber"] ["NotRight", "InvalidText", "InvalidAbsence", "InvalidHour", "InvalidTable", "InvalidName", "InvalidClaim", "InvalidPlace", "NotAPlan", "InvalidSubjects", "InvalidHours", "InvalidKinds", "InvalidOffers", "NotThere", "UnknownName", "InUse", "CannotBe", "Unlike", "TooMany", "NothingToUndo", "Broken"]) (eLoc 0)) (aCons (mIsi (isiX ["InvalidAbsence"] ["NotRight", "InvalidText", "InvalidNumber", "InvalidHour", "InvalidTable", "InvalidName", "InvalidClaim", "InvalidPlace", "NotAPlan", "InvalidSubjects", "InvalidHours", "InvalidKinds", "InvalidOffers", "NotThere", "UnknownName", "InUse", "CannotBe", "Unlike", "TooMany", "NothingToUndo", "Broken"]) (eLoc 0)) (aNil)))))) (bSeq (sSet 1 (mBin pAdd (eLoc 1) (eLst (aCons (mIsi (isiX ["InvalidHour"] ["NotRight", "InvalidText", "InvalidNumber", "InvalidAbsence", "InvalidTable", "InvalidName", "InvalidClaim", "InvalidPlace", "NotAPlan", "InvalidSubjects", "InvalidHours", "InvalidKinds", "InvalidOffers", "NotThere", "UnknownName", "InUse", "CannotBe", "Unlike", "TooMany", "NothingToUndo", "Broken"]) (eLoc 0)) (aCons (mIsi (isiX ["InvalidTable"] ["NotRight", "InvalidText", "InvalidNumber", "InvalidAbsence", "InvalidHour", "InvalidName", "InvalidClaim", "InvalidPlace", "NotAPlan", "InvalidSubjects", "InvalidHours", "InvalidKinds", "InvalidOffers", "NotThere", "UnknownName", "InUse", "CannotBe", "Unlike", "TooMany", "NothingToUndo", "Broken"]) (eLoc 0)) (aCons (mIsi (isiX ["InvalidName"] ["NotRight", "InvalidText", "InvalidNumber", "InvalidAbsence", "InvalidHour", "InvalidTable", "InvalidClaim", "InvalidPlace", "NotAPlan", "InvalidSubjects", "InvalidHours", "InvalidKinds", "InvalidOffers", "NotThere", "UnknownName", "InUse", "CannotBe", "Unlike", "TooMany", "NothingToUndo", "Broken"]) (eLoc 0)) (aNil))))))) (bSeq (sSet 1 (mBin pAdd (eLoc 1) (eLst (aCons (mIsi (isiX ["InvalidClaim"] ["NotRight", "InvalidText", "InvalidNumber", "InvalidAbsence", "InvalidHour", "InvalidTable", "InvalidName", "InvalidPlace", "NotAPlan", "InvalidSubjects", "InvalidHours", "InvalidKinds", "InvalidOffers", "NotThere", "UnknownName", "InUse", "CannotBe", "Unlike", "TooMany", "NothingToUndo", "Broken"]) (eLoc 0)) (aCons (mIsi (isiX ["InvalidPlace"] ["NotRight", "InvalidText", "InvalidNumber", "InvalidAbsence", "InvalidHour", "InvalidTable", "InvalidName", "InvalidClaim", "NotAPlan", "InvalidSubjects", "InvalidHours", "InvalidKinds", "InvalidOffers", "NotThere", "UnknownName", "InUse", "CannotBe", "Unlike", "TooMany", "NothingToUndo", "Broken"]) (eLoc 0)) (aCons (mIsi (isiX ["NotAPlan"] ["NotRight", "InvalidText", "InvalidNumber", "InvalidAbsence", "InvalidHour", "InvalidTable", "InvalidName", "InvalidClaim", "InvalidPlace", "InvalidSubjects", "InvalidHours", "InvalidKinds", "InvalidOffers", "NotThere", "UnknownName", "InUse", "CannotBe", "Unlike", "TooMany", "NothingToUndo", "Broken"]) (eLoc 0)) (aNil))))))) (bSeq (sSet 1 (mBin pAdd (eLoc 1) (eLst (aCons (mIsi (isiX ["InvalidSubjects"] ["NotRight", "InvalidText", "InvalidNumber", "InvalidAbsence", "InvalidHour", "InvalidTable", "InvalidName", "InvalidClaim", "InvalidPlace", "NotAPlan", "InvalidHours", "InvalidKinds", "InvalidOffers", "NotThere", "UnknownName", "InUse", "CannotBe", "Unlike", "TooMany", "NothingToUndo", "Broken"]) (eLoc 0)) (aCons (mIsi (isiX ["InvalidHours"] ["NotRight", "InvalidText", "InvalidNumber", "InvalidAbsence", "InvalidHour", "InvalidTable", "InvalidName", "InvalidClaim", "InvalidPlace", "NotAPlan", "InvalidSubjects", "InvalidKinds", "InvalidOffers", "NotThere", "UnknownName", "InUse", "CannotBe", "Unlike", "TooMany", "NothingToUndo", "Broken"]) (eLoc 0)) (aCons (mIsi (isiX ["InvalidKinds"] ["NotRight", "InvalidText", "InvalidNumber", "InvalidAbsence", "InvalidHour", "InvalidTable", "InvalidName", "InvalidClaim", "InvalidPlace", "NotAPlan", "InvalidSubjects", "InvalidHours", "InvalidOffers", "NotThere", "UnknownName", "InUse", "CannotBe", "Unlike", "TooMany", "NothingToUndo", "Broken"]) (eLoc 0)) (aNil))))))) (bSeq (sSet 1 (mBin pAdd (eLoc 1) (eLst (aCons (mIsi (isiX ["InvalidOffers"] ["NotRight", "InvalidText", "InvalidNumber", "InvalidAbsence", "InvalidHour", "InvalidTable", "InvalidName", "InvalidClaim", "InvalidPlace", "NotAPlan", "InvalidSubjects", "InvalidHours", "InvalidKinds", "NotThere", "UnknownName", "InUse", "CannotBe", "Unlike", "TooMany", "NothingToUndo", "Broken"]) (eLoc 0)) (aCons (mIsi (isiX ["UnknownName"] ["NotRight", "InvalidText", "InvalidNumber", "InvalidAbsence", "InvalidHour", "InvalidTable", "InvalidName", "InvalidClaim", "InvalidPlace", "NotAPlan", "InvalidSubjects", "InvalidHours", "InvalidKinds", "InvalidOffers", "NotThere", "InUse", "CannotBe", "Unlike", "TooMany", "NothingToUndo", "Broken"]) (eLoc 0)) (aCons (mIsi (isiX ["InUse"] ["NotRight", "InvalidText", "InvalidNumber", "InvalidAbsence", "InvalidHour", "InvalidTable", "InvalidName", "InvalidClaim", "InvalidPlace", "NotAPlan", "InvalidSubjects", "InvalidHours", "InvalidKinds", "InvalidOffers", "NotThere", "UnknownName", "CannotBe", "Unlike", "TooMany", "NothingToUndo", "Broken"]) (eLoc 0)) (aNil))))))) (bSeq (sSet 1 (mBin pAdd (eLoc 1) (eLst (aCons (mIsi (isiX ["Unlike"] ["NotRight", "InvalidText", "InvalidNumber", "InvalidAbsence", "InvalidHour", "InvalidTable", "InvalidName", "InvalidClaim", "InvalidPlace", "NotAPlan", "InvalidSubjects", "InvalidHours", "InvalidKinds", "InvalidOffers", "NotThere", "UnknownName", "InUse", "CannotBe", "TooMany", "NothingToUndo", "Broken"]) (eLoc 0)) (aCons (mIsi (isiX ["TooMany"] ["NotRight", "InvalidText", "InvalidNumber", "InvalidAbsence", "InvalidHour", "InvalidTable", "InvalidName", "InvalidClaim", "InvalidPlace", "NotAPlan", "InvalidSubjects", "InvalidHours", "InvalidKinds", "InvalidOffers", "NotThere", "UnknownName", "InUse", "CannotBe", "Unlike", "NothingToUndo", "Broken"]) (eLoc 0)) (aCons (mIsi (isiX ["NothingToUndo"] ["NotRight", "InvalidText", "InvalidNumber", "InvalidAbsence", "InvalidHour", "InvalidTable", "InvalidName", "InvalidClaim", "InvalidPlace", "NotAPlan", "InvalidSubjects", "InvalidHours", "InvalidKinds", "InvalidOffers", "NotThere", "UnknownName", "InUse", "CannotBe", "Unlike", "TooMany", "Broken"]) (eLoc 0)) (aNil))))))) (bSeq (sSet 1 (mBin pAdd (eLoc 1) (eLst (aCons (mIsi (isiX ["Broken"] ["NotRight", "InvalidText", "InvalidNumber", "InvalidAbsence", "InvalidHour", "InvalidTable", "InvalidName", "InvalidClaim", "InvalidPlace", "NotAPlan", "InvalidSubjects", "InvalidHours", "InvalidKinds", "InvalidOffers", "NotThere", "UnknownName", "InUse", "CannotBe", "Unlike", "TooMany", "NothingToUndo"]) (eLoc 0)) (aNil))))) (sRet (eLoc 1))))))))
noncomputable def F__law_sorts : List D → Store → R D := run false 2 bf__law_sorts
noncomputable def bf__law_bases : L → Store → Fl := bSeq (sSet 1 (eLst (aCons (mIsi (isiX ["NotRight", "InvalidText", "InvalidNumber", "InvalidAbsence", "InvalidHour", "InvalidTable", "InvalidName", "InvalidClaim", "InvalidPlace", "NotAPlan", "InvalidSubjects", "InvalidHours", "InvalidKinds", "InvalidOffers"] ["NotThere", "UnknownName", "InUse", "CannotBe", "Unlike", "TooMany", "NothingToUndo", "Broken"]) (eLoc 0)) (aCons (mIsi (isiX ["NotThere", "UnknownName", "InUse"] ["NotRight", "InvalidText", "InvalidNumber", "InvalidAbsence", "InvalidHour", "InvalidTable", "InvalidName", "InvalidClaim", "InvalidPlace", "NotAPlan", "InvalidSubjects", "InvalidHours", "InvalidKinds", "InvalidOffers", "CannotBe", "Unlike", "TooMany", "NothingToUndo", "Broken"]) (eLoc 0)) (aCons (mIsi (isiX ["CannotBe", "Unlike", "TooMany", "NothingToUndo", "Broken"] ["NotRight", "InvalidText", "InvalidNumber", "InvalidAbsence", "InvalidHour", "InvalidTable", "InvalidName", "InvalidClaim", "InvalidPlace", "NotAPlan", "InvalidSubjects", "InvalidHours", "InvalidKinds", "InvalidOffers", "NotThere", "UnknownName", "InUse"]) (eLoc 0)) (aNil)))))) (bSeq (sSet 1 (mBin pAdd (eLoc 1) (eLst (aCons (mIsi (isiX ["NotRight", "InvalidText", "InvalidNumber", "InvalidAbsence", "InvalidHour", "InvalidTable", "InvalidName", "InvalidClaim", "InvalidPlace", "NotAPlan", "InvalidSubjects", "InvalidHours", "InvalidKinds", "InvalidOffers"] ["NotThere", "UnknownName", "InUse", "CannotBe", "Unlike", "TooMany", "NothingToUndo", "Broken"]) (eLoc 0)) (aCons (mIsi (isiX ["NotThere", "UnknownName", "InUse"] ["NotRight", "InvalidText", "InvalidNumber", "InvalidAbsence", "InvalidHour", "InvalidTable", "InvalidName", "InvalidClaim", "InvalidPlace", "NotAPlan", "InvalidSubjects", "InvalidHours", "InvalidKinds", "InvalidOffers", "CannotBe", "Unlike", "TooMany", "NothingToUndo", "Broken"]) (eLoc 0)) (aCons (mIsi (isiX ["CannotBe", "Unlike", "TooMany", "NothingToUndo", "Broken"] ["NotRight", "InvalidText", "InvalidNumber", "InvalidAbsence", "InvalidHour", "InvalidTable", "InvalidName", "InvalidClaim", "InvalidPlace", "NotAPlan", "InvalidSubjects", "InvalidHours", "InvalidKinds", "InvalidOffers", "NotThere", "UnknownName", "InUse"]) (eLoc 0)) (aNil))))))) (sRet (mBin pAdd (eLoc 1) (eLst (aCons (mIsi (isiX [] ["NotRight", "InvalidText", "InvalidNumber", "InvalidAbsence", "InvalidHour", "InvalidTable", "InvalidName", "InvalidClaim", "InvalidPlace", "NotAPlan", "InvalidSubjects", "InvalidHours", "InvalidKinds", "InvalidOffers", "NotThere", "UnknownName", "InUse", "CannotBe", "Unlike", "TooMany", "NothingToUndo", "Broken"]) (eLoc 0)) (aCons (mIsi (isiX [] ["NotRight", "InvalidText", "InvalidNumber", "InvalidAbsence", "InvalidHour", "InvalidTable", "InvalidName", "InvalidClaim", "InvalidPlace", "NotAPlan", "InvalidSubjects", "InvalidHours", "InvalidKinds", "InvalidOffers", "NotThere", "UnknownName", "InUse", "CannotBe", "Unlike", "TooMany", "NothingToUndo", "Broken"]) (eLoc 0)) (aCons (mIsi (isiX [] ["NotRight", "InvalidText", "InvalidNumber", "InvalidAbsence", "InvalidHour", "InvalidTable", "InvalidName", "InvalidClaim", "InvalidPlace", "NotAPlan", "InvalidSubjects", "InvalidHours", "InvalidKinds", "InvalidOffers", "NotThere", "UnknownName", "InUse", "CannotBe", "Unlike", "TooMany", "NothingToUndo", "Broken"]) (eLoc 0)) (aNil))))))))
noncomputable def F__law_bases : List D → Store → R D := run false 2 bf__law_bases
noncomputable def bf__law_due : L → Store → Fl := bSeq (sPar 1 2 (aCons (mBin pLt (eLoc 0) (eCon (.int 13))) (aCons (mChain pLt pLt (eCon (.int 12)) (eLoc 0) (eCon (.int 15))) (aNil)))) (bSeq (sSet 3 (vAnd (vNot (eLoc 1)) (vNot (eLoc 2)))) (sRet (mBin pAdd (mBin pMul (eLst (aCons (eLoc 1) (aCons (eLoc 2) (aCons (eLoc 3) (aNil))))) (eCon (.int 2))) (mBin pMul (eLst (aCons (eCon (.bl false)) (aNil))) (eCon (.int 3))))))
noncomputable def F__law_due : List D → Store → R D := run false 4 bf__law_due
noncomputable def bf__law_kept_right : L → Store → Fl := bSeq (sSet 2 (eLc (iVal (eLst (aCons (eCon (.int 0)) (aCons (eCon (.int 1)) (aCons (eCon (.int 2)) (aCons (eCon (.int 3)) (aCons (eCon (.int 4)) (aCons (eCon (.int 5)) (aCons (eCon (.int 6)) (aCons (eCon (.int 7)) (aCons (eCon (.int 8)) (aCons (eCon (.int 13)) (aNil))))))))))))) (gN 4) (tYesF) (mUn (pErr ["InvalidText", "InvalidNumber", "InvalidAbsence", "InvalidHour", "InvalidTable", "InvalidName", "InvalidClaim", "InvalidPlace", "NotAPlan", "UnknownName"] "given") (mBin pIx (eLoc 0) (eLoc 4))) [4])) (bSeq (sSet 2 (mBin pAdd (eLoc 2) (eLc (iVal (eLst (aCons (eCon (.int 9)) (aCons (eCon (.int 10)) (aCons (eCon (.int 11)) (aCons (eCon (.int 12)) (aCons (eCon (.int 14)) (aNil)))))))) (gN 4) (tYesF) (mUn (pErr ["InvalidSubjects", "InvalidHours", "InvalidKinds", "InvalidOffers", "InUse", "Broken"] "index") (mBin pIx (eLoc 0) (eLoc 4))) [4]))) (bSeq (sSet 2 (mBin pAdd (eLoc 2) (eLc (iVal (eLst (aCons (eCon (.int 16)) (aNil)))) (gN 4) (tYesF) (mUn (pErr ["TooMany"] "most") (mBin pIx (eLoc 0) (eLoc 4))) [4]))) (bSeq (sSet 3 (mBin pIx (eLoc 0) (eCon (.int 18)))) (sRet (vAnd (mBin pEq (mCall pReprE (aCons (eLoc 2) (aNil))) (mCall pReprE (aCons (mBin pMul (eLst (aCons (eLoc 1) (aNil))) (mCall pLenS (aCons (eLoc 2) (aNil)))) (aNil)))) (mBin pEq (mCall pReprE (aCons (eLst (aCons (mUn (pErr ["InvalidSubjects", "InvalidHours", "InvalidKinds", "InvalidOffers", "InUse", "Broken"] "index") (eLoc 3)) (aCons (mUn (pErr ["Broken"] "shown") (eLoc 3)) (aNil)))) (aNil))) (mCall pReprE (aCons (eLst (aCons (eLoc 1) (aCons (eCon (.int 7)) (aNil)))) (aNil)))))))))
noncomputable def F__law_kept_right : List D → Store → R D := run false 5 bf__law_kept_right
noncomputable def bf__law_raised_right : L → Store → Fl := bSeq (sSet 1 (eNew (aNil))) (bSeq (sTry (sRaise "InvalidText" "given" (eLoc 0)) [⟨["NotRight", "InvalidText", "InvalidNumber", "InvalidAbsence", "InvalidHour", "InvalidTable", "InvalidName", "InvalidClaim", "InvalidPlace", "NotAPlan", "InvalidSubjects", "InvalidHours", "InvalidKinds", "InvalidOffers"], ["NotThere", "UnknownName", "InUse", "CannotBe", "Unlike", "TooMany", "NothingToUndo", "Broken"], some 2, sDrop (mMeth "list" qAppend (eLoc 1) (aCons (mCall pReprE (aCons (mUn (pErr ["InvalidText", "InvalidNumber", "InvalidAbsence", "InvalidHour", "InvalidTable", "InvalidName", "InvalidClaim", "InvalidPlace", "NotAPlan"] "given") (eLoc 2)) (aNil))) (aNil)))⟩]) (bSeq (sTry (sRaise "UnknownName" "given" (eLoc 0)) [⟨["NotThere", "UnknownName", "InUse"], ["NotRight", "InvalidText", "InvalidNumber", "InvalidAbsence", "InvalidHour", "InvalidTable", "InvalidName", "InvalidClaim", "InvalidPlace", "NotAPlan", "InvalidSubjects", "InvalidHours", "InvalidKinds", "InvalidOffers", "CannotBe", "Unlike", "TooMany", "NothingToUndo", "Broken"], some 2, sDrop (mMeth "list" qAppend (eLoc 1) (aCons (mCall pReprE (aCons (mUn (pErr ["UnknownName"] "given") (eLoc 2)) (aNil))) (aNil)))⟩]) (bSeq (sTry (sRaise2 "Broken" (aCons (eLoc 0) (aCons (eCon (.int 3)) (aNil)))) [⟨["CannotBe", "Unlike", "TooMany", "NothingToUndo", "Broken"], ["NotRight", "InvalidText", "InvalidNumber", "InvalidAbsence", "InvalidHour", "InvalidTable", "InvalidName", "InvalidClaim", "InvalidPlace", "NotAPlan", "InvalidSubjects", "InvalidHours", "InvalidKinds", "InvalidOffers", "NotThere", "UnknownName", "InUse"], some 2, sDrop (mMeth "list" qAppend (eLoc 1) (aCons (mCall pReprE (aCons (mUn (pErr ["Broken"] "index") (eLoc 2)) (aNil))) (aNil)))⟩]) (sRet (mBin pEq (eLoc 1) (mBin pMul (eLst (aCons (mCall pReprE (aCons (eLoc 0) (aNil))) (aNil))) (eCon (.int 3))))))))
noncomputable def F__law_raised_right : List D → Store → R D := run true 3 bf__law_raised_right
noncomputable def bf__law_right : L → Store → Fl := bSeq (sFor (iVal (eCalln 1 F__law_given (aCons (eLoc 0) (aNil)))) (gN 1) (bSeq (sFor (iRg1 (aCons (mCall pLenS (aCons (eLoc 1) (aNil))) (aNil))) (gN 2) (bSeq (sSet 3 (eLc (iRg1 (aCons (mCall pLenS (aCons (eLoc 1) (aNil))) (aNil))) (gN 4) (tYesF) (mBin pEq (eLoc 4) (eLoc 2)) [4])) (sIf (mOr (asB (mBin pNe (eCalln 1 F__law_sorts (aCons (mBin pIx (eLoc 1) (eLoc 2)) (aNil))) (eLoc 3))) (asB (mBin pNe (eCalln 1 F__law_bases (aCons (mBin pIx (eLoc 1) (eLoc 2)) (aNil))) (eCalln 1 F__law_due (aCons (eLoc 2) (aNil)))))) (sRet (eCon (.bl false))) (bNil)))) (sIf (mNot (asB (eCalln 2 F__law_kept_right (aCons (eLoc 1) (aCons (eLoc 0) (aNil)))))) (sRet (eCon (.bl false))) (bNil)))) (sRet (eCalln 1 F__law_raised_right (aCons (eLoc 0) (aNil))))
noncomputable def F__law_right : List D → Store → R D := run false 5 bf__law_right
noncomputable def bf_law : L → Store → Fl := bSeq (sSet 1 (eLst (aCons (eCon (.int 4)) (aCons (eCon (.int 3)) (aCons (eCon (.int 9)) (aCons (eCon (.int 5)) (aCons (eCon (.int 1000000000000000000000000000000)) (aCons (eCon (.int 3)) (aCons (eCon (.int 6)) (aNil)))))))))) (bSeq (sSet 1 (mBin pAdd (eLoc 1) (eLst (aCons (eCon (.int 3)) (aCons (eCon (.int 6)) (aCons (eCon (.int 1000)) (aNil))))))) (bSeq (sIf (asB (mBin pNe (eLoc 1) (eLst (aCons (eCon (.int 4)) (aCons (eCon (.int 3)) (aCons (eCon (.int 9)) (aCons (eCon (.int 5)) (aCons (mBin pPow (eCon (.int 10)) (eCon (.int 30))) (aCons (eCon (.int 3)) (aCons (eCon (.int 6)) (aCons (eCon (.int 3)) (aCons (eCon (.int 6)) (aCons (eCon (.int 1000)) (aNil)))))))))))))) (sRet (eCon (.bl false))) (bNil)) (bSeq (sSet 2 (mBin pAdd (eLst (aCons (eCon .non) (aCons (eCon (.str "a")) (aCons (eTup (aCons (eCon (.int 1)) (aCons (eCon (.str "x")) (aNil)))) (aCons (eCon (.bl true)) (aCons (eCon (.int (-3))) (aNil))))))) (eLc (iVal (mSl (eLoc 0) (oNone) (oSome (eCon (.int 3))))) (gN 3) (tYesF) (mBin pMod (mCall pInt (aCons (eLoc 3) (aNil))) (mBin pPow (eCon (.int 10)) (eCon (.int 12)))) [3]))) (sRet (mBin pEq (eLc (iVal (eLoc 2)) (gN 4) (mNot (asB (eCalln 1 F__law_right (aCons (eLoc 4) (aNil))))) (eLoc 4) [4]) (eLst (aNil)))))))
noncomputable def F_law : List D → Store → R D := run false 5 bf_law
end HL
end
section
set_option Elab.async false
set_option linter.all false
set_option maxRecDepth 100000
set_option maxHeartbeats 4000000
namespace HL
open PySem PySem.Spec L2
def CupOk (S : Store) (n : Nat) : Prop := ∃ a m c : Int, S[n]? = some (.lst [.int a, .int m, .int c]) ∧ 0 ≤ m ∧ m < 2147483477
/-- the cup at n was drawn from, all else is as it was -/
structure Drew (n : Nat) (S S' : Store) : Prop where
  cup : CupOk S' n
  len : S'.length = S.length
  old : ∀ i, i ≠ n → S'[i]? = S[i]?
theorem Drew.trans {n : Nat} {S S' S'' : Store} (a : Drew n S S') (b : Drew n S' S'') : Drew n S S'' := ⟨b.cup, b.len.trans a.len, fun i h => (b.old i h).trans (a.old i h)⟩
theorem Drew.set {n : Nat} {S : Store} {a m c a' m' c' : Int} (h : S[n]? = some (.lst [.int a, .int m, .int c])) (h0 : 0 ≤ m') (h1 : m' < 2147483477) : Drew n S (S.set n (.lst [.int a', .int m', .int c'])) := by
  have hn : n < S.length := (List.getElem?_eq_some_iff.mp h).1
  refine ⟨⟨a', m', c', by rw [List.getElem?_set_self hn], h0, h1⟩, List.length_set, fun i hi => by rw [List.getElem?_set_ne (Ne.symm hi)]⟩
inductive All2 {α β : Type} (Q : α → β → Prop) : List α → List β → Prop
  | nil : All2 Q [] []
  | cons {x : α} {y : β} {xs : List α} {ys : List β} : Q x y → All2 Q xs ys → All2 Q (x :: xs) (y :: ys)
theorem All2.length {α β : Type} {Q : α → β → Prop} {xs : List α} {ys : List β} (h : All2 Q xs ys) : ys.length = xs.length := by
  induction h with
  | nil => rfl
  | cons _ _ ih => simp [ih]
structure Srt where
  nm : Str
  gv : List Str
  num : Int
  mst : Int
  ill : Option Int
structure Sk where
  tops : List Str
  clk : List (List Int)
  srt : List Srt
def srtD (s : Srt) : D := .lst [.str s.nm, .lst (s.gv.map .str), .int s.num, .int s.mst, illD s.ill]
def rowD (r : List Int) : D := .lst (r.map .int)
def skD (k : Sk) : D := .lst [.lst (k.tops.map .str), .lst (k.clk.map rowD), .lst (k.srt.map srtD)]
theorem noLocs_map {α : Type} {f : α → D} (h : ∀ x, noLoc (f x) = true) : ∀ xs : List α, noLocs (xs.map f) = true
  | [] => rfl
  | x :: xs => by
    rw [List.map_cons, noLocs, h x, noLocs_map h xs]
    rfl
@[simp] theorem noLoc_str (x : Str) : noLoc (.str x) = true := rfl
@[simp] theorem noLoc_int (x : Int) : noLoc (.int x) = true := rfl
@[simp] theorem noLoc_ill (x : Option Int) : noLoc (illD x) = true := by cases x <;> rfl
@[simp] theorem noLocs_str (xs : List Str) : noLocs (xs.map .str) = true := noLocs_map (fun _ => rfl) xs
@[simp] theorem noLocs_int (xs : List Int) : noLocs (xs.map .int) = true := noLocs_map (fun _ => rfl) xs
@[simp] theorem noLoc_rowD (r : List Int) : noLoc (rowD r) = true := noLocs_int r
@[simp] theorem noLoc_srtD (s : Srt) : noLoc (srtD s) = true := by
  simp [srtD, noLoc, noLocs]
@[simp] theorem noLocs_rowD (xs : List (List Int)) : noLocs (xs.map rowD) = true := noLocs_map noLoc_rowD xs
@[simp] theorem noLocs_srtD (xs : List Srt) : noLocs (xs.map srtD) = true := noLocs_map noLoc_srtD xs
def tq (b : Bool) (xs : List D) : D := if b then .tpn xs else .tup xs
section
variable (b : Bool) (xs ys : List D) (S : Store)
@[simp] theorem nt_tq : nt (tq b xs) = .tup xs := by cases b <;> rfl
@[simp] theorem pLenS_tq : pLenS [tq b xs] S = some (.int xs.length) := by cases b <;> rfl
@[simp] theorem pLen_tq : pLen [tq b xs] S = some (.int xs.length) := by cases b <;> rfl
@[simp] theorem pIx_tq (i : Int) : pIx (tq b xs) (.int i) S = atI xs i := by cases b <;> rfl
@[simp] theorem itemsV_tq : itemsV (tq b xs) S = some (xs, []) := by cases b <;> rfl
@[simp] theorem sq1_tq : sq1 (tq b xs) S = some (xs, []) := by cases b <;> rfl
@[simp] theorem seqD_tq : seqD (tq b xs) S = some xs := by cases b <;> rfl
@[simp] theorem isiT_tq (T : String) : isiT T (tq b xs) S = some (.bl (subT "tuple" T)) := by cases b <;> rfl
@[simp] theorem pSl_tq (lo hi : Option Int) : pSl (tq b xs) lo hi S = some (.tup (cutD xs lo hi)) := by cases b <;> rfl
@[simp] theorem pTuple_tq : pTuple [tq b xs] S = some (tq b xs) := by cases b <;> rfl
@[simp] theorem pIsN_tq : pIsN (tq b xs) .non S = some (.bl false) := by cases b <;> rfl
@[simp] theorem pNotN_tq : pNotN (tq b xs) .non S = some (.bl true) := by cases b <;> rfl
@[simp] theorem dok_tq (n : Nat) : dok (n + 1) (tq b xs) = doks n xs := by cases b <;> rfl
@[simp] theorem noLoc_tq : noLoc (tq b xs) = noLocs xs := by cases b <;> (simp [tq, noLoc])
end
def isLet (c : Nat) : Bool := decide (c ∈ ("abcdefghijklmnopqrstuvwxyz" : Str).cps)
def allLet (w : Str) : Bool := w.cps.all isLet
def isNameB (w : Str) : Bool := decide (0 < w.length) && (decide (w.length < 9) && allLet w)
def numOk (i : Int) : Prop := 0 ≤ i ∧ i ≤ 1000000000000000000000000000000
structure Kd where
  nm : Str
  gv : List Str
  num : Int
  mst : Int
  ill : Option Int
  t0 : Bool
  t1 : Bool
structure Hr where
  ns : List Int
  t : Bool
structure Pl where
  subs : List Str
  hrs : List Hr
  kds : List Kd
  ts : Bool
  th : Bool
  tk : Bool
def kdD (k : Kd) : D := tq k.t0 [.str k.nm, tq k.t1 (k.gv.map .str), .int k.num, .int k.mst, illD k.ill]
def hrD (h : Hr) : D := tq h.t (h.ns.map .int)
def subsD (p : Pl) : D := tq p.ts (p.subs.map .str)
def hrsD (p : Pl) : D := tq p.th (p.hrs.map hrD)
def kdsD (p : Pl) : D := tq p.tk (p.kds.map kdD)
def plD (p : Pl) : D := .ins "Plan" ["told"] [.tup [subsD p, hrsD p, kdsD p]]
structure KdOk (subs : List Str) (k : Kd) : Prop where
  nm : isNameB k.nm = true
  gv : k.gv ≠ []
  gn : ∀ g ∈ k.gv, isNameB g = true
  sub : k.gv = subs.filter fun s => decide (s ∈ k.gv)
  num : numOk k.num
  m0 : 1 ≤ k.mst
  m1 : k.mst ≤ 3
  ill : ∀ i, k.ill = some i → numOk i
structure HrOk (subs : List Str) (h : Hr) : Prop where
  len : h.ns.length = subs.length
  num : ∀ n ∈ h.ns, 0 ≤ n
structure PlOk (p : Pl) : Prop where
  s0 : p.subs ≠ []
  s1 : p.subs.length ≤ 4
  sn : p.subs.Nodup
  sm : ∀ s ∈ p.subs, isNameB s = true
  h0 : p.hrs ≠ []
  h1 : p.hrs.length ≤ 3
  h2 : p.hrs.length * p.subs.length ≤ 9
  ho : ∀ h ∈ p.hrs, HrOk p.subs h
  k0 : p.kds ≠ []
  k1 : p.kds.length ≤ 5
  kn : (p.kds.map Kd.nm).Nodup
  ko : ∀ k ∈ p.kds, KdOk p.subs k
theorem fin_true {S S' : Store} {d d' : D} (hl : S.length ≤ S'.length) (ho : ∀ i, i < S.length → S'[i]? = S[i]?) (hz : frz S.length S' 9 d = some d') : fin true S d S' = .ok d' S := by
  unfold fin
  have e : S'.take S.length = S := by
    refine List.ext_getElem? fun i => ?_
    by_cases h : i < S.length
    · rw [List.getElem?_take_of_lt h, ho i h]
    · rw [List.getElem?_eq_none (by rw [List.length_take]; omega), List.getElem?_eq_none (by omega)]
  rw [if_pos rfl, if_pos, hz, e]
  · rfl
  refine ⟨hl, fun i o hi h => .inl ?_⟩
  rw [← ho i hi]
  exact h
theorem noLoc_tqs {α : Type} {b : Bool} {xs : List α} {f : α → D} (h : ∀ x, noLoc (f x) = true) : noLoc (tq b (xs.map f)) = true := by
  rw [noLoc_tq]
  induction xs with
  | nil => rfl
  | cons x xs ih => rw [List.map_cons, noLocs, h, ih]; rfl
@[simp] theorem noLoc_subs (p : Pl) : noLoc (subsD p) = true := noLoc_tqs fun _ => rfl
@[simp] theorem noLoc_hrs (p : Pl) : noLoc (hrsD p) = true := noLoc_tqs fun h => noLoc_tqs fun _ => rfl
@[simp] theorem noLoc_kds (p : Pl) : noLoc (kdsD p) = true := noLoc_tqs fun k => by
  unfold kdD
  rw [noLoc_tq]
  have : noLoc (tq k.t1 (k.gv.map .str)) = true := noLoc_tqs fun _ => rfl
  cases h : k.ill <;> simp [noLocs, noLoc, this, illD]
abbrev Pr := Nat × Str
abbrev Lot := List Pr
@[simp] theorem insOf_plD (p : Pl) (S : Store) : insOf "Plan" (plD p) S = some ((["told"] : List Str), [D.tup [subsD p, hrsD p, kdsD p]]) := insOf_ins _ _ _ _
instance : Inhabited Hr := ⟨⟨[], false⟩⟩
instance : Inhabited Kd := ⟨⟨default, [], 0, 0, none, false, false⟩⟩
def illOf (k : Kd) : Int := match k.ill with
  | none => k.num
  | some i => min k.num i
@[simp] theorem pIsN_plD (p : Pl) (S : Store) : pIsN (plD p) .non S = some (.bl false) := rfl
@[simp] theorem isiC_plD (p : Pl) (S : Store) : isiC "Plan" (plD p) S = some (.bl true) := isiC_ins _ _ _ _
@[simp] theorem sk_ix0 (k : Sk) (S : Store) : pIx (skD k) (.int 0) S = some (.lst (k.tops.map .str)) := by
  unfold skD
  simp
@[simp] theorem sk_ix1 (k : Sk) (S : Store) : pIx (skD k) (.int 1) S = some (.lst (k.clk.map rowD)) := by
  unfold skD
  simp
@[simp] theorem sk_ix2 (k : Sk) (S : Store) : pIx (skD k) (.int 2) S = some (.lst (k.srt.map srtD)) := by
  unfold skD
  simp
@[simp] theorem pIx_rowD (r : List Int) (j : Nat) (S : Store) : pIx (rowD r) (.int (j : Int)) S = (r[j]?).map .int := by
  unfold rowD
  rw [pIx_lst, atI_nat, List.getElem?_map]
@[simp] theorem srt_ix0 (s : Srt) (S : Store) : pIx (srtD s) (.int 0) S = some (.str s.nm) := by unfold srtD; simp
@[simp] theorem srt_ix1 (s : Srt) (S : Store) : pIx (srtD s) (.int 1) S = some (.lst (s.gv.map .str)) := by unfold srtD; simp
@[simp] theorem srt_ix2 (s : Srt) (S : Store) : pIx (srtD s) (.int 2) S = some (.int s.num) := by unfold srtD; simp
@[simp] theorem srt_ix3 (s : Srt) (S : Store) : pIx (srtD s) (.int 3) S = some (.int s.mst) := by unfold srtD; simp
@[simp] theorem srt_ix4 (s : Srt) (S : Store) : pIx (srtD s) (.int 4) S = some (illD s.ill) := by unfold srtD; simp
theorem ill_num {subs : List Str} {k : Kd} (ok : KdOk subs k) : illOf k ≤ k.num := by
  unfold illOf
  cases h : k.ill with
  | none => exact Int.le_refl _
  | some i =>
    show min _ _ ≤ _
    omega
structure Wsd (p : Pl) (l : Lot) (aw : List Int) : Prop where
  len : aw.length = p.kds.length
  bd : ∀ (i : Nat) (a : Int) (k : Kd), aw[i]? = some a → p.kds[i]? = some k → 0 ≤ a ∧ a ≤ illOf k
theorem mem_zip_get {α β : Type} {xs : List α} {ys : List β} {x : α} {y : β} (h : (x, y) ∈ xs.zip ys) : ∃ j : Nat, xs[j]? = some x ∧ ys[j]? = some y := by
  obtain ⟨j, hj⟩ := List.mem_iff_getElem?.mp h
  rw [List.getElem?_zip_eq_some] at hj
  exact ⟨j, hj⟩
theorem Wsd.num {p : Pl} (ok : PlOk p) {m : Lot} {aw : List Int} (w : Wsd p m aw) : ∀ q ∈ p.kds.zip aw, 0 ≤ q.1.num - q.2 := fun q hq => by
  obtain ⟨k, a⟩ := q
  obtain ⟨i, h1, h2⟩ := mem_zip_get hq
  have := (w.bd i a k h2 h1).2
  have := ill_num (ok.ko k (List.mem_of_getElem? h1))
  show 0 ≤ k.num - a
  omega
theorem big100 : (10 : Int) ^ 100 = 10000000000000000000000000000000000000000000000000000000000000000000000000000000000000000000000000000 := by decide +kernel
theorem show_int' {i : Int} (h : -10000000000000000000000000000000000000000000000000000000000000000000000000000000000000000000000000000 < i) (h2 : i < 10000000000000000000000000000000000000000000000000000000000000000000000000000000000000000000000000000) : (PyData.int i).showable = true := show_int (by rw [big100]; exact h) (by rw [big100]; exact h2)
/-- short data -/
def Nice (n B : Nat) (d : D) : Prop := dok n d = true ∧ (encD d).showable = true ∧ shw (encD d) ≤ B
theorem Nice.mono {n m B C : Nat} {d : D} (h : Nice n B d) (h1 : n ≤ m) (h2 : B ≤ C) : Nice m C d := ⟨dok_mono h1 h.1, h.2.1, Nat.le_trans h.2.2 h2⟩
theorem nice_int {i : Int} (h : -10000000000000000000000000000000000000000000000000000000000000000000000000000000000000000000000000000 < i) (h2 : i < 10000000000000000000000000000000000000000000000000000000000000000000000000000000000000000000000000000) : Nice 0 1921 (.int i) :=
  ⟨by simp, show_int' h h2, by rw [encD_int, shw]; exact Nat.le_refl _⟩
theorem nice_str {x : Str} (h : PyData.strOk x = true) (hl : x.length ≤ 100) : Nice 0 1921 (.str x) := ⟨by simpa using h, rfl, by rw [encD_str, shw]; omega⟩
theorem nice_non : Nice 0 1921 .non := ⟨by simp, rfl, by decide⟩
theorem nice_all {n B : Nat} : ∀ {xs : List D}, (∀ x ∈ xs, Nice n B x) → doks n xs = true ∧ PyData.showableAll (xs.map encD) = true ∧ shwAll (xs.map encD) ≤ xs.length * (B + 2)
  | [], _ => ⟨rfl, rfl, by rw [List.map_nil, shwAll]; exact Nat.zero_le _⟩
  | x :: xs, h => by
    obtain ⟨a, b, c⟩ := h x (.head _)
    obtain ⟨a2, b2, c2⟩ := nice_all fun y hy => h y (.tail _ hy)
    refine ⟨by rw [doks_cons, a, a2]; rfl, by rw [List.map_cons, PyData.showableAll, b, b2]; rfl, ?_⟩
    rw [List.map_cons, shwAll, List.length_cons, Nat.succ_mul]
    omega
theorem nice_tup {n B : Nat} {xs : List D} (h : ∀ x ∈ xs, Nice n B x) (m : Nat) (hm : xs.length ≤ m) : Nice (n + 1) (m * (B + 2) + 3) (.tup xs) := by
  obtain ⟨a, b, c⟩ := nice_all h
  have := Nat.mul_le_mul_right (B + 2) hm
  refine ⟨by rw [dok_tup]; exact a, ?_, ?_⟩
  · rw [encD_tup a, PyData.showable]; exact b
  · rw [encD_tup a, shw]; omega
theorem nice_lst {n B : Nat} {xs : List D} (h : ∀ x ∈ xs, Nice n B x) (m : Nat) (hm : xs.length ≤ m) : Nice (n + 1) (m * (B + 2) + 3) (.lst xs) := by
  obtain ⟨a, b, c⟩ := nice_all h
  have := Nat.mul_le_mul_right (B + 2) hm
  refine ⟨by rw [dok_lst]; exact a, ?_, ?_⟩
  · rw [encD_lst a, PyData.showable]; exact b
  · rw [encD_lst a, shw]; omega
theorem Nice.repr {n B : Nat} {d : D} (h : Nice n B d) (hn : n ≤ 60) (hB : B ≤ 16777216) : ∃ z, PyData.strOk z = true ∧ ∀ T, pRepr [d] T = some (.str z) :=
  ⟨_, strOk_repr n h.1, fun T => pRepr_dok n h.1 hn h.2.1 (Nat.le_trans h.2.2 hB) T⟩
/-- a purse at n, from which at most c times was taken -/
def Pur (S : Store) (n : Nat) (c : Int) : Prop := ∃ a m i : Int, S[n]? = some (.lst [.int a, .int m, .int i]) ∧ 0 ≤ a ∧ a < 2147483423 ∧ 0 ≤ m ∧ 0 ≤ i ∧ i ≤ c
/-- the purse at n was taken from, all else is as it was -/
structure Took (n : Nat) (c : Int) (S S' : Store) : Prop where
  pur : Pur S' n c
  len : S'.length = S.length
  old : ∀ i, i ≠ n → S'[i]? = S[i]?
theorem Pur.mono {S : Store} {n : Nat} {c d : Int} (h : Pur S n c) (k : c ≤ d) : Pur S n d := by
  obtain ⟨a, m, i, e, h1, h2, h3, h4, h5⟩ := h
  exact ⟨a, m, i, e, h1, h2, h3, h4, by omega⟩
theorem Took.trans {n : Nat} {c d : Int} {S S' S'' : Store} (a : Took n c S S') (b : Took n d S' S'') : Took n d S S'' := ⟨b.pur, b.len.trans a.len, fun i h => (b.old i h).trans (a.old i h)⟩
theorem Took.mono {n : Nat} {c d : Int} {S S' : Store} (a : Took n c S S') (k : c ≤ d) : Took n d S S' := ⟨a.pur.mono k, a.len, a.old⟩
theorem Took.set {n : Nat} {S : Store} {c : Int} {xs : List D} {a' m' i' : Int} (h : S[n]? = some (.lst xs)) (h0 : 0 ≤ a') (h1 : a' < 2147483423) (h2 : 0 ≤ m') (h3 : 0 ≤ i') (h4 : i' ≤ c) : Took n c S (S.set n (.lst [.int a', .int m', .int i'])) := by
  have hn : n < S.length := (List.getElem?_eq_some_iff.mp h).1
  exact ⟨⟨a', m', i', by rw [List.getElem?_set_self hn], h0, h1, h2, h3, h4⟩, List.length_set, fun i hi => by rw [List.getElem?_set_ne (Ne.symm hi)]⟩
/-- the parts of a plan, as the laws draw them -/
def ptD (p : Pl) : D := .lst [subsD p, hrsD p, kdsD p]
theorem Pur.set {n j : Nat} {c : Int} {S : Store} (h : Pur S n c) (hj : j ≠ n) (o : Ob) : Pur (S.set j o) n c := by
  obtain ⟨a, m, i, e, r⟩ := h
  exact ⟨a, m, i, by rw [List.getElem?_set_ne hj]; exact e, r⟩
def numS (i : Int) : Str := Str.ofString (toString i)
/-- what a plan is made of, by value -/
abbrev Kc := Str × List Str × Int × Int × Option Int
abbrev Co := List Str × List (List Int) × List Kc
instance : DecidableEq Kc := inferInstanceAs (DecidableEq (Str × List Str × Int × Int × Option Int))
instance : DecidableEq Co := inferInstanceAs (DecidableEq (List Str × List (List Int) × List Kc))
def illW : Option Int → Str
  | none => "all:"
  | some i => numS i ++ ":"
def wS (s : List Str) : List Str := "subjects" :: s
def wH (r : List Int) : List Str := "hour" :: r.map numS
def wK (k : Kc) : List Str := "kind" :: k.1 :: numS k.2.2.1 :: "most" :: numS k.2.2.2.1 :: "ill" :: illW k.2.2.2.2 :: k.2.1
theorem nice_num {i : Int} (h : numOk i) : Nice 0 1921 (.int i) := by
  obtain ⟨a, b⟩ := h
  exact nice_int (by omega) (by omega)
theorem pEq_same {z : Str} (h : PyData.strOk z = true) (S : Store) : pEq (.str z) (.str z) S = some (.bl true) := by
  rw [pEq_ss h h]
  simp
@[simp] theorem othOk_pl (p : Pl) (S : Store) : othOk "Plan" (plD p) S = true := othOk_ins _ _ _ _
@[simp] theorem pIx_pt0 (p : Pl) (S : Store) : pIx (ptD p) (.int 0) S = some (subsD p) := by simp [ptD]
@[simp] theorem pIx_pt1 (p : Pl) (S : Store) : pIx (ptD p) (.int 1) S = some (hrsD p) := by simp [ptD]
@[simp] theorem pIx_pt2 (p : Pl) (S : Store) : pIx (ptD p) (.int 2) S = some (kdsD p) := by simp [ptD]
/-- the lines of a plan -/
inductive Ln where
  | s (x : List Str) | h (r : List Int) | k (k : Kc)
def Ln.w : Ln → List Str
  | .s x => wS x
  | .h r => wH r
  | .k x => wK x
def EN3 (L k : Nat) (d : D) : Prop := ∃ p, toPyE d = some p ∧ p.showable = true ∧ p.shown.length ≤ L ∧ p.depth ≤ k ∧ PyData.strOk p.shown = true
theorem EN3.mono {L k L' k' : Nat} {d : D} (h : EN3 L k d) (hl : L ≤ L') (hk : k ≤ k') : EN3 L' k' d := by
  obtain ⟨p, h1, h2, h3, h4, h5⟩ := h
  exact ⟨p, h1, h2, by omega, by omega, h5⟩
mutual
theorem toPyE_dok : ∀ {n : Nat} {d : D}, dok n d = true → toPyE d = some (encD d)
  | n, .non, _ => rfl
  | n, .bl b, _ => rfl
  | n, .int i, _ => rfl
  | n, .str x, _ => rfl
  | n + 1, .tup xs, h => by
    have a := toPyEs_dok (n := n) (ds := xs) h
    have b : toPys xs = some (xs.map encD) := (doks_py (n := n) (ds := xs) h).1
    have e : encD (.tup xs) = .tuple (xs.map encD) := by
      show (toPy (.tup xs)).getD .none = _
      rw [toPy_tup, b]
      rfl
    rw [e, toPyE, a]
    rfl
  | n + 1, .tpn xs, h => by
    have a := toPyEs_dok (n := n) (ds := xs) h
    have b : toPys xs = some (xs.map encD) := (doks_py (n := n) (ds := xs) h).1
    have e : encD (.tpn xs) = .tuple (xs.map encD) := by
      show (toPy (.tpn xs)).getD .none = _
      rw [toPy_tpn, b]
      rfl
    rw [e, toPyE, a]
    rfl
  | n + 1, .lst xs, h => by
    have a := toPyEs_dok (n := n) (ds := xs) h
    have b : toPys xs = some (xs.map encD) := (doks_py (n := n) (ds := xs) h).1
    have e : encD (.lst xs) = .list (xs.map encD) := by
      show (toPy (.lst xs)).getD .none = _
      rw [toPy_lst, b]
      rfl
    rw [e, toPyE, a]
    rfl
  | n + 1, .scr xs, h => by
    have a := toPyEs_dok (n := n) (ds := xs) h
    have b : toPys xs = some (xs.map encD) := (doks_py (n := n) (ds := xs) h).1
    have e : encD (.scr xs) = .list (xs.map encD) := by
      show (toPy (.scr xs)).getD .none = _
      rw [toPy_scr, b]
      rfl
    rw [e, toPyE, a]
    rfl
  | 0, .tup _, h => nomatch h
  | 0, .tpn _, h => nomatch h
  | 0, .lst _, h => nomatch h
  | 0, .scr _, h => nomatch h
  | n, .iset _, h => by cases n <;> exact nomatch h
  | n, .ins _ _ _, h => by cases n <;> exact nomatch h
  | n, .err _ _ _, h => by cases n <;> exact nomatch h
  | n, .cls _, h => by cases n <;> exact nomatch h
  | n, .dic, h => by cases n <;> exact nomatch h
  | n, .loc _, h => by cases n <;> exact nomatch h
theorem toPyEs_dok : ∀ {n : Nat} {ds : List D}, doks n ds = true → toPyEs ds = some (ds.map encD)
  | n, [], _ => rfl
  | n, d :: ds, h => by
    rw [doks_cons, Bool.and_eq_true] at h
    rw [toPyEs, toPyE_dok h.1, toPyEs_dok h.2]
    rfl
end
theorem toPyES_dok {n : Nat} {d : D} (h : dok n d = true) (S : Store) : toPyES d S = some (encD d) := by
  have a := toPyE_dok h
  cases d with
  | loc m => cases n <;> exact nomatch h
  | _ => exact a
theorem pReprE_dok {d : D} (n : Nat) (hd : dok n d = true) (hn : n ≤ 60) (hs : (encD d).showable = true) (hl : shw (encD d) ≤ 16777216) (S : Store) : pReprE [d] S = some (.str (encD d).shown) := by
  obtain ⟨a, b, c⟩ := dok_py hd
  unfold pReprE
  dsimp only
  rw [toPyES_dok hd]
  show (if _ then _ else _) = _
  rw [if_pos ⟨hs, by rw [sizeLine_eq]; exact Nat.le_trans (shown_len b hs) hl, by omega⟩]
theorem Nice.reprE {n B : Nat} {d : D} (h : Nice n B d) (hn : n ≤ 60) (hB : B ≤ 16777216) (T : Store) : pReprE [d] T = some (.str (encD d).shown) :=
  pReprE_dok n h.1 hn h.2.1 (Nat.le_trans h.2.2 hB) T
end HL
end
section
set_option Elab.async false
set_option linter.all false
set_option maxRecDepth 100000
set_option maxHeartbeats 4000000
namespace HL
open PySem PySem.Spec L2
section
variable {P : Program} {w : World} {K : Frag} {mg : Str → Option Value} {base : Heap}
theorem sc__law_given : FnScope ["_law_thing", "_law_found", "_law_named"] ["_law_thing"] (defScope (top 37)) := ⟨rfl, rfl, rfl, by decide +kernel, rfl, by decide +kernel, by decide +kernel⟩
theorem kn__law_given (T : Tx P w K mg base) : Kn P w K mg base "_law_given" "_law_given" (top 37) (He.ga K "_law_given") ["_law_thing"] 2 1 F__law_given := by
  refine Kn.of (x := "_law_given") (qual := "_law_given") (f := He.ga K "_law_given") (st := top 37) (N := ["_law_thing", "_law_found", "_law_named"]) (ps := ["_law_thing"]) (k := 1) (n := 1) (tr := false) (bf := bf__law_given) (T.dn 0 rfl) sc__law_given rfl (fun _ _ _ _ _ _ us hl => match us, hl with | [_], _ => rfl) fun X E hX c => ?_
  obtain ⟨cdv, A, outer, s, H, rfl⟩ := hX
  exact (fb_cons (fs_set 1 c.nd (fe_lst (fa_cons (fe_err1 (T.xc 3 rfl) T.tp c.rm.r (fa_cons (fe_loc 0) fa_nil) rfl) (fa_cons (fe_err1 (T.xc 2 rfl) T.tp c.rm.r (fa_cons (fe_loc 0) fa_nil) rfl) (fa_cons (fe_err1 (T.xc 1 rfl) T.tp c.rm.r (fa_cons (fe_loc 0) fa_nil) rfl) (fa_cons (fe_err1 (T.xc 0 rfl) T.tp c.rm.r (fa_cons (fe_loc 0) fa_nil) rfl) fa_nil)))))) (fb_cons (fs_set 1 c.nd (fe_bin op_pAdd (fe_loc 1) (fe_lst (fa_cons (fe_err1 (T.xc 7 rfl) T.tp c.rm.r (fa_cons (fe_loc 0) fa_nil) rfl) (fa_cons (fe_err1 (T.xc 6 rfl) T.tp c.rm.r (fa_cons (fe_loc 0) fa_nil) rfl) (fa_cons (fe_err1 (T.xc 5 rfl) T.tp c.rm.r (fa_cons (fe_loc 0) fa_nil) rfl) (fa_cons (fe_err1 (T.xc 4 rfl) T.tp c.rm.r (fa_cons (fe_loc 0) fa_nil) rfl) fa_nil))))))) (fb_cons (fs_set 1 c.nd (fe_bin op_pAdd (fe_loc 1) (fe_lst (fa_cons (fe_err1 (T.xc 11 rfl) T.tp c.rm.r (fa_cons (fe_loc 0) fa_nil) rfl) (fa_cons (fe_err1 (T.xc 10 rfl) T.tp c.rm.r (fa_cons (fe_loc 0) fa_nil) rfl) (fa_cons (fe_err1 (T.xc 9 rfl) T.tp c.rm.r (fa_cons (fe_loc 0) fa_nil) rfl) (fa_cons (fe_err1 (T.xc 8 rfl) T.tp c.rm.r (fa_cons (fe_loc 0) fa_nil) rfl) fa_nil))))))) (fb_cons (fs_set 1 c.nd (fe_bin op_pAdd (fe_loc 1) (fe_lst (fa_cons (fe_err1 (T.xc 15 rfl) T.tp c.rm.r (fa_cons (fe_loc 0) fa_nil) rfl) (fa_cons (fe_err1 (T.xc 14 rfl) T.tp c.rm.r (fa_cons (fe_loc 0) fa_nil) rfl) (fa_cons (fe_err1 (T.xc 13 rfl) T.tp c.rm.r (fa_cons (fe_loc 0) fa_nil) rfl) (fa_cons (fe_err0 (T.bare 0 rfl (.head _)) (T.gl 11 rfl) rfl) (fa_cons (fe_err1 (T.xc 12 rfl) T.tp c.rm.r (fa_cons (fe_loc 0) fa_nil) rfl) fa_nil)))))))) (fb_cons (fs_set 1 c.nd (fe_bin op_pAdd (fe_loc 1) (fe_lst (fa_cons (fe_err0 (T.bare 1 rfl (.head _)) (T.gl 12 rfl) rfl) (fa_cons (fe_err2 (T.xc2 16 rfl) T.tp c.rm.r (fa_cons (fe_loc 0) (fa_cons fe_int fa_nil)) rfl) fa_nil))))) (fb_cons (fs_set 2 c.nd (fe_lst (fa_cons (fe_errK (T.xc 3 rfl) T.tp c.rm.r (fk_cons (fe_loc 0) fk_nil) rfl) (fa_cons (fe_errK (T.xc 2 rfl) T.tp c.rm.r (fk_cons (fe_loc 0) fk_nil) rfl) (fa_cons (fe_errK (T.xc 1 rfl) T.tp c.rm.r (fk_cons (fe_loc 0) fk_nil) rfl) fa_nil))))) (fb_cons (fs_set 2 c.nd (fe_bin op_pAdd (fe_loc 2) (fe_lst (fa_cons (fe_errK (T.xc 0 rfl) T.tp c.rm.r (fk_cons (fe_loc 0) fk_nil) rfl) (fa_cons (fe_errK (T.xc 7 rfl) T.tp c.rm.r (fk_cons (fe_loc 0) fk_nil) rfl) (fa_cons (fe_errK (T.xc 6 rfl) T.tp c.rm.r (fk_cons (fe_loc 0) fk_nil) rfl) fa_nil)))))) (fb_cons (fs_set 2 c.nd (fe_bin op_pAdd (fe_loc 2) (fe_lst (fa_cons (fe_errK (T.xc 5 rfl) T.tp c.rm.r (fk_cons (fe_loc 0) fk_nil) rfl) (fa_cons (fe_errK (T.xc 4 rfl) T.tp c.rm.r (fk_cons (fe_loc 0) fk_nil) rfl) (fa_cons (fe_errK (T.xc 11 rfl) T.tp c.rm.r (fk_cons (fe_loc 0) fk_nil) rfl) fa_nil)))))) (fb_cons (fs_set 2 c.nd (fe_bin op_pAdd (fe_loc 2) (fe_lst (fa_cons (fe_errK (T.xc 10 rfl) T.tp c.rm.r (fk_cons (fe_loc 0) fk_nil) rfl) (fa_cons (fe_errK (T.xc 9 rfl) T.tp c.rm.r (fk_cons (fe_loc 0) fk_nil) rfl) (fa_cons (fe_errK (T.xc 8 rfl) T.tp c.rm.r (fk_cons (fe_loc 0) fk_nil) rfl) fa_nil)))))) (fb_cons (fs_set 2 c.nd (fe_bin op_pAdd (fe_loc 2) (fe_lst (fa_cons (fe_errK (T.xc 15 rfl) T.tp c.rm.r (fk_cons (fe_loc 0) fk_nil) rfl) (fa_cons (fe_errK (T.xc 14 rfl) T.tp c.rm.r (fk_cons (fe_loc 0) fk_nil) rfl) (fa_cons (fe_errK (T.xc 13 rfl) T.tp c.rm.r (fk_cons (fe_loc 0) fk_nil) rfl) (fa_cons (fe_err0 (T.bare 0 rfl (.head _)) (T.gl 11 rfl) rfl) fa_nil))))))) (fb_cons (fs_set 2 c.nd (fe_bin op_pAdd (fe_loc 2) (fe_lst (fa_cons (fe_errK (T.xc 12 rfl) T.tp c.rm.r (fk_cons (fe_loc 0) fk_nil) rfl) (fa_cons (fe_err0 (T.bare 1 rfl (.head _)) (T.gl 12 rfl) rfl) (fa_cons (fe_err2K (T.xc2 16 rfl) T.tp c.rm.r (fk_cons fe_int (fk_cons (fe_loc 0) fk_nil)) rfl) fa_nil)))))) (fb_one (fs_ret (fe_lst (fa_cons (fe_loc 1) (fa_cons (fe_loc 2) fa_nil))))))))))))))))
theorem sc__law_sorts : FnScope ["_law_e", "_law_found"] ["_law_e"] (defScope (top 34)) := ⟨rfl, rfl, rfl, by decide +kernel, rfl, by decide +kernel, by decide +kernel⟩
theorem kn__law_sorts (T : Tx P w K mg base) : Kn P w K mg base "_law_sorts" "_law_sorts" (top 34) (He.ga K "_law_sorts") ["_law_e"] 1 1 F__law_sorts := by
  refine Kn.of (x := "_law_sorts") (qual := "_law_sorts") (f := He.ga K "_law_sorts") (st := top 34) (N := ["_law_e", "_law_found"]) (ps := ["_law_e"]) (k := 0) (n := 1) (tr := false) (bf := bf__law_sorts) (T.dn 1 rfl) sc__law_sorts rfl (fun _ _ _ _ _ _ us hl => match us, hl with | [_], _ => rfl) fun X E hX c => ?_
  obtain ⟨cdv, A, outer, s, H, rfl⟩ := hX
  exact (fb_cons (fs_set 1 c.nd (fe_lst (fa_cons (fe_isiX (T.ix 2 rfl (by decide +kernel) (by decide +kernel) (by decide)) (T.fr 16 rfl) rfl (T.gl 19 rfl) rfl (fe_loc 0)) (fa_cons (fe_isiX (T.ix 1 rfl (by decide +kernel) (by decide +kernel) (by decide)) (T.fr 16 rfl) rfl (T.gl 18 rfl) rfl (fe_loc 0)) (fa_cons (fe_isiX (T.ix 0 rfl (by decide +kernel) (by decide +kernel) (by decide)) (T.fr 16 rfl) rfl (T.gl 17 rfl) rfl (fe_loc 0)) fa_nil))))) (fb_cons (fs_set 1 c.nd (fe_bin op_pAdd (fe_loc 1) (fe_lst (fa_cons (fe_isiX (T.ix 5 rfl (by decide +kernel) (by decide +kernel) (by decide)) (T.fr 16 rfl) rfl (T.gl 22 rfl) rfl (fe_loc 0)) (fa_cons (fe_isiX (T.ix 4 rfl (by decide +kernel) (by decide +kernel) (by decide)) (T.fr 16 rfl) rfl (T.gl 21 rfl) rfl (fe_loc 0)) (fa_cons (fe_isiX (T.ix 3 rfl (by decide +kernel) (by decide +kernel) (by decide)) (T.fr 16 rfl) rfl (T.gl 20 rfl) rfl (fe_loc 0)) fa_nil)))))) (fb_cons (fs_set 1 c.nd (fe_bin op_pAdd (fe_loc 1) (fe_lst (fa_cons (fe_isiX (T.ix 8 rfl (by decide +kernel) (by decide +kernel) (by decide)) (T.fr 16 rfl) rfl (T.gl 25 rfl) rfl (fe_loc 0)) (fa_cons (fe_isiX (T.ix 7 rfl (by decide +kernel) (by decide +kernel) (by decide)) (T.fr 16 rfl) rfl (T.gl 24 rfl) rfl (fe_loc 0)) (fa_cons (fe_isiX (T.ix 6 rfl (by decide +kernel) (by decide +kernel) (by decide)) (T.fr 16 rfl) rfl (T.gl 23 rfl) rfl (fe_loc 0)) fa_nil)))))) (fb_cons (fs_set 1 c.nd (fe_bin op_pAdd (fe_loc 1) (fe_lst (fa_cons (fe_isiX (T.ix 11 rfl (by decide +kernel) (by decide +kernel) (by decide)) (T.fr 16 rfl) rfl (T.gl 28 rfl) rfl (fe_loc 0)) (fa_cons (fe_isiX (T.ix 10 rfl (by decide +kernel) (by decide +kernel) (by decide)) (T.fr 16 rfl) rfl (T.gl 27 rfl) rfl (fe_loc 0)) (fa_cons (fe_isiX (T.ix 9 rfl (by decide +kernel) (by decide +kernel) (by decide)) (T.fr 16 rfl) rfl (T.gl 26 rfl) rfl (fe_loc 0)) fa_nil)))))) (fb_cons (fs_set 1 c.nd (fe_bin op_pAdd (fe_loc 1) (fe_lst (fa_cons (fe_isiX (T.ix 14 rfl (by decide +kernel) (by decide +kernel) (by decide)) (T.fr 16 rfl) rfl (T.gl 31 rfl) rfl (fe_loc 0)) (fa_cons (fe_isiX (T.ix 13 rfl (by decide +kernel) (by decide +kernel) (by decide)) (T.fr 16 rfl) rfl (T.gl 30 rfl) rfl (fe_loc 0)) (fa_cons (fe_isiX (T.ix 12 rfl (by decide +kernel) (by decide +kernel) (by decide)) (T.fr 16 rfl) rfl (T.gl 29 rfl) rfl (fe_loc 0)) fa_nil)))))) (fb_cons (fs_set 1 c.nd (fe_bin op_pAdd (fe_loc 1) (fe_lst (fa_cons (fe_isiX (T.ix 17 rfl (by decide +kernel) (by decide +kernel) (by decide)) (T.fr 16 rfl) rfl (T.gl 11 rfl) rfl (fe_loc 0)) (fa_cons (fe_isiX (T.ix 16 rfl (by decide +kernel) (by decide +kernel) (by decide)) (T.fr 16 rfl) rfl (T.gl 32 rfl) rfl (fe_loc 0)) (fa_cons (fe_isiX (T.ix 15 rfl (by decide +kernel) (by decide +kernel) (by decide)) (T.fr 16 rfl) rfl (T.gl 12 rfl) rfl (fe_loc 0)) fa_nil)))))) (fb_cons (fs_set 1 c.nd (fe_bin op_pAdd (fe_loc 1) (fe_lst (fa_cons (fe_isiX (T.ix 18 rfl (by decide +kernel) (by decide +kernel) (by decide)) (T.fr 16 rfl) rfl (T.gl 33 rfl) rfl (fe_loc 0)) fa_nil)))) (fb_one (fs_ret (fe_loc 1))))))))))
theorem sc__law_bases : FnScope ["_law_e", "_law_found"] ["_law_e"] (defScope (top 35)) := ⟨rfl, rfl, rfl, by decide +kernel, rfl, by decide +kernel, by decide +kernel⟩
theorem kn__law_bases (T : Tx P w K mg base) : Kn P w K mg base "_law_bases" "_law_bases" (top 35) (He.ga K "_law_bases") ["_law_e"] 1 1 F__law_bases := by
  refine Kn.of (x := "_law_bases") (qual := "_law_bases") (f := He.ga K "_law_bases") (st := top 35) (N := ["_law_e", "_law_found"]) (ps := ["_law_e"]) (k := 0) (n := 1) (tr := false) (bf := bf__law_bases) (T.dn 2 rfl) sc__law_bases rfl (fun _ _ _ _ _ _ us hl => match us, hl with | [_], _ => rfl) fun X E hX c => ?_
  obtain ⟨cdv, A, outer, s, H, rfl⟩ := hX
  exact (fb_cons (fs_set 1 c.nd (fe_lst (fa_cons (fe_isiX (T.ix 21 rfl (by decide +kernel) (by decide +kernel) (by decide)) (T.fr 16 rfl) rfl (T.gl 37 rfl) rfl (fe_loc 0)) (fa_cons (fe_isiX (T.ix 20 rfl (by decide +kernel) (by decide +kernel) (by decide)) (T.fr 16 rfl) rfl (T.gl 36 rfl) rfl (fe_loc 0)) (fa_cons (fe_isiX (T.ix 19 rfl (by decide +kernel) (by decide +kernel) (by decide)) (T.fr 16 rfl) rfl (T.gl 35 rfl) rfl (fe_loc 0)) fa_nil))))) (fb_cons (fs_set 1 c.nd (fe_bin op_pAdd (fe_loc 1) (fe_lst (fa_cons (fe_isiB (T := "ValueError") (T.bx 4 rfl (by decide +kernel) (by decide +kernel)) (T.fr 16 rfl) rfl (T.fr 40 rfl) rfl (fe_loc 0) (by decide +kernel)) (fa_cons (fe_isiB (T := "LookupError") (T.bx 3 rfl (by decide +kernel) (by decide +kernel)) (T.fr 16 rfl) rfl (T.fr 39 rfl) rfl (fe_loc 0) (by decide +kernel)) (fa_cons (fe_isiB (T := "ArithmeticError") (T.bx 2 rfl (by decide +kernel) (by decide +kernel)) (T.fr 16 rfl) rfl (T.fr 38 rfl) rfl (fe_loc 0) (by decide +kernel)) fa_nil)))))) (fb_one (fs_ret (fe_bin op_pAdd (fe_loc 1) (fe_lst (fa_cons (fe_isiB (T := "KeyError") (T.bx 7 rfl (by decide +kernel) (by decide +kernel)) (T.fr 16 rfl) rfl (T.fr 43 rfl) rfl (fe_loc 0) (by decide +kernel)) (fa_cons (fe_isiB (T := "IndexError") (T.bx 6 rfl (by decide +kernel) (by decide +kernel)) (T.fr 16 rfl) rfl (T.fr 42 rfl) rfl (fe_loc 0) (by decide +kernel)) (fa_cons (fe_isiB (T := "ZeroDivisionError") (T.bx 5 rfl (by decide +kernel) (by decide +kernel)) (T.fr 16 rfl) rfl (T.fr 41 rfl) rfl (fe_loc 0) (by decide +kernel)) fa_nil)))))))))
theorem sc__law_due : FnScope ["_law_k", "_law_head", "_law_middle", "_law_end"] ["_law_k"] (defScope (top 36)) := ⟨rfl, rfl, rfl, by decide +kernel, rfl, by decide +kernel, by decide +kernel⟩
theorem kn__law_due (T : Tx P w K mg base) : Kn P w K mg base "_law_due" "_law_due" (top 36) (He.ga K "_law_due") ["_law_k"] 1 1 F__law_due := by
  refine Kn.of (x := "_law_due") (qual := "_law_due") (f := He.ga K "_law_due") (st := top 36) (N := ["_law_k", "_law_head", "_law_middle", "_law_end"]) (ps := ["_law_k"]) (k := 0) (n := 1) (tr := false) (bf := bf__law_due) (T.dn 3 rfl) sc__law_due rfl (fun _ _ _ _ _ _ us hl => match us, hl with | [_], _ => rfl) fun X E hX c => ?_
  obtain ⟨cdv, A, outer, s, H, rfl⟩ := hX
  exact (fb_cons (fs_par 1 2 c.cm c.nd (fa_cons (fe_cmp op_pLt (fe_loc 0) fe_int) (fa_cons (fe_chain op_pLt op_pLt fe_int (fe_loc 0) fe_int) fa_nil))) (fb_cons (fs_set 3 c.nd (fe_and (fe_not (fe_loc 1)) (fe_one (fe_not (fe_loc 2))))) (fb_one (fs_ret (fe_bin op_pAdd (fe_bin op_pMul (fe_lst (fa_cons (fe_loc 1) (fa_cons (fe_loc 2) (fa_cons (fe_loc 3) fa_nil)))) fe_int) (fe_bin op_pMul (fe_lst (fa_cons fe_bl fa_nil)) fe_int))))))
theorem sc__law_kept_right : FnScope ["_law_found", "_law_thing", "_law_some", "_law_last", "_law_k"] ["_law_found", "_law_thing"] (defScope (top 38)) := ⟨rfl, rfl, rfl, by decide +kernel, rfl, by decide +kernel, by decide +kernel⟩
theorem kn__law_kept_right (T : Tx P w K mg base) : Kn P w K mg base "_law_kept_right" "_law_kept_right" (top 38) (He.ga K "_law_kept_right") ["_law_found", "_law_thing"] 1 2 F__law_kept_right := by
  refine Kn.of (x := "_law_kept_right") (qual := "_law_kept_right") (f := He.ga K "_law_kept_right") (st := top 38) (N := ["_law_found", "_law_thing", "_law_some", "_law_last", "_law_k"]) (ps := ["_law_found", "_law_thing"]) (k := 0) (n := 2) (tr := false) (bf := bf__law_kept_right) (T.dn 4 rfl) sc__law_kept_right rfl (fun _ _ _ _ _ _ us hl => match us, hl with | [_, _], _ => rfl) fun X E hX c => ?_
  obtain ⟨cdv, A, outer, s, H, rfl⟩ := hX
  exact (fb_cons (fs_setLcF 2 c (fi_val (fe_lst (fa_cons fe_int (fa_cons fe_int (fa_cons fe_int (fa_cons fe_int (fa_cons fe_int (fa_cons fe_int (fa_cons fe_int (fa_cons fe_int (fa_cons fe_int (fa_cons fe_int fa_nil)))))))))))) (blkOk_by (own := [("_law_k", 4)]) (by kernel_rfl)) (fun s H C cl fp c => (fg_name 4 c.nd)) (by decide) (fun s H C cl fp c => fts_nil) (fun s H C cl fp c => (fe_err (cs := ["InvalidText", "InvalidNumber", "InvalidAbsence", "InvalidHour", "InvalidTable", "InvalidName", "InvalidClaim", "InvalidPlace", "NotAPlan", "UnknownName"]) (fe_ix (fe_loc 0) (fe_loc 4)) (T.er (by decide +kernel))))) (fb_cons (fs_set 2 c.nd (fe_bin op_pAdd (fe_loc 2) (fe_lcF c (fi_val (fe_lst (fa_cons fe_int (fa_cons fe_int (fa_cons fe_int (fa_cons fe_int (fa_cons fe_int fa_nil))))))) (blkOk_by (own := [("_law_k", 4)]) (by kernel_rfl)) (fun s H C cl fp c => (fg_name 4 c.nd)) (by decide) (fun s H C cl fp c => fts_nil) (fun s H C cl fp c => (fe_err (cs := ["InvalidSubjects", "InvalidHours", "InvalidKinds", "InvalidOffers", "InUse", "Broken"]) (fe_ix (fe_loc 0) (fe_loc 4)) (T.er (by decide +kernel))))))) (fb_cons (fs_set 2 c.nd (fe_bin op_pAdd (fe_loc 2) (fe_lcF c (fi_val (fe_lst (fa_cons fe_int fa_nil))) (blkOk_by (own := [("_law_k", 4)]) (by kernel_rfl)) (fun s H C cl fp c => (fg_name 4 c.nd)) (by decide) (fun s H C cl fp c => fts_nil) (fun s H C cl fp c => (fe_err (cs := ["TooMany"]) (fe_ix (fe_loc 0) (fe_loc 4)) (T.er (by decide +kernel))))))) (fb_cons (fs_set 3 c.nd (fe_ix (fe_loc 0) fe_int)) (fb_one (fs_ret (fe_and (fe_cmp (op_pEq c.hu4) (fe_b (call_pReprE T.sm c.rm.g c.hu4) (T.fr 46 rfl) (by decide +kernel) rfl (fa_cons (fe_loc 2) fa_nil)) (fe_b (call_pReprE T.sm c.rm.g c.hu4) (T.fr 46 rfl) (by decide +kernel) rfl (fa_cons (fe_bin op_pMul (fe_lst (fa_cons (fe_loc 1) fa_nil)) (fe_b call_pLenS (T.fr 14 rfl) (by decide +kernel) rfl (fa_cons (fe_loc 2) fa_nil))) fa_nil))) (fe_one (fe_cmp (op_pEq c.hu4) (fe_b (call_pReprE T.sm c.rm.g c.hu4) (T.fr 46 rfl) (by decide +kernel) rfl (fa_cons (fe_lst (fa_cons (fe_err (cs := ["InvalidSubjects", "InvalidHours", "InvalidKinds", "InvalidOffers", "InUse", "Broken"]) (fe_loc 3) (T.er (by decide +kernel))) (fa_cons (fe_err (cs := ["Broken"]) (fe_loc 3) (T.er (by decide +kernel))) fa_nil))) fa_nil)) (fe_b (call_pReprE T.sm c.rm.g c.hu4) (T.fr 46 rfl) (by decide +kernel) rfl (fa_cons (fe_lst (fa_cons (fe_loc 1) (fa_cons fe_int fa_nil))) fa_nil)))))))))))
theorem sc__law_raised_right : FnScope ["_law_thing", "_law_seen", "_law_e"] ["_law_thing"] (defScope (top 39)) := ⟨rfl, rfl, rfl, by decide +kernel, rfl, by decide +kernel, by decide +kernel⟩
theorem kn__law_raised_right (T : Tx P w K mg base) : Kn P w K mg base "_law_raised_right" "_law_raised_right" (top 39) (He.ga K "_law_raised_right") ["_law_thing"] 2 1 F__law_raised_right := by
  refine Kn.of (x := "_law_raised_right") (qual := "_law_raised_right") (f := He.ga K "_law_raised_right") (st := top 39) (N := ["_law_thing", "_law_seen", "_law_e"]) (ps := ["_law_thing"]) (k := 1) (n := 1) (tr := true) (bf := bf__law_raised_right) (T.dn 5 rfl) sc__law_raised_right rfl (fun _ _ _ _ _ _ us hl => match us, hl with | [_], _ => rfl) fun X E hX c => ?_
  obtain ⟨cdv, A, outer, s, H, rfl⟩ := hX
  exact (fb_cons (fs_set 1 c.nd (fe_new fa_nil)) (fb_cons (fs_try rfl rfl rfl c (fun W pn xe c => (fb_one (fs_raise c.cm (T.xc 3 rfl) T.tp c.rm.r c.tk (fa_cons (fe_loc 0) fa_nil) rfl))) (.as_ ⟨rfl, by decide, .inl (T.nm 21 rfl)⟩ (T.tk 21 rfl) rfl rfl (fun a pn c => (fb_one (fs_expr (fe_meth F.plainAttrs_list F.slot_list_append F.type_list_append mt_qAppend (by decide) (fe_loc 1) (fa_cons (fe_b (call_pReprE T.sm c.rm.g c.hu4) (T.fr 46 rfl) (by decide +kernel) rfl (fa_cons (fe_err (cs := ["InvalidText", "InvalidNumber", "InvalidAbsence", "InvalidHour", "InvalidTable", "InvalidName", "InvalidClaim", "InvalidPlace", "NotAPlan"]) (fe_loc 2) (T.er (by decide +kernel))) fa_nil)) fa_nil))))) .nil)) (fb_cons (fs_try rfl rfl rfl c (fun W pn xe c => (fb_one (fs_raise c.cm (T.xc 14 rfl) T.tp c.rm.r c.tk (fa_cons (fe_loc 0) fa_nil) rfl))) (.as_ ⟨rfl, by decide, .inl (T.nm 20 rfl)⟩ (T.tk 20 rfl) rfl rfl (fun a pn c => (fb_one (fs_expr (fe_meth F.plainAttrs_list F.slot_list_append F.type_list_append mt_qAppend (by decide) (fe_loc 1) (fa_cons (fe_b (call_pReprE T.sm c.rm.g c.hu4) (T.fr 46 rfl) (by decide +kernel) rfl (fa_cons (fe_err (cs := ["UnknownName"]) (fe_loc 2) (T.er (by decide +kernel))) fa_nil)) fa_nil))))) .nil)) (fb_cons (fs_try rfl rfl rfl c (fun W pn xe c => (fb_one (fs_raise2 c.cm (T.xc2 16 rfl) T.tp c.rm.r c.tk (fa_cons (fe_loc 0) (fa_cons fe_int fa_nil)) rfl))) (.as_ ⟨rfl, by decide, .inl (T.nm 19 rfl)⟩ (T.tk 19 rfl) rfl rfl (fun a pn c => (fb_one (fs_expr (fe_meth F.plainAttrs_list F.slot_list_append F.type_list_append mt_qAppend (by decide) (fe_loc 1) (fa_cons (fe_b (call_pReprE T.sm c.rm.g c.hu4) (T.fr 46 rfl) (by decide +kernel) rfl (fa_cons (fe_err (cs := ["Broken"]) (fe_loc 2) (T.er (by decide +kernel))) fa_nil)) fa_nil))))) .nil)) (fb_one (fs_ret (fe_cmp (op_pEq c.hu4) (fe_loc 1) (fe_bin op_pMul (fe_lst (fa_cons (fe_b (call_pReprE T.sm c.rm.g c.hu4) (T.fr 46 rfl) (by decide +kernel) rfl (fa_cons (fe_loc 0) fa_nil)) fa_nil)) fe_int))))))))
theorem sc__law_right : FnScope ["_law_thing", "_law_found", "_law_k", "_law_due_here", "_law_at"] ["_law_thing"] (defScope (top 40)) := ⟨rfl, rfl, rfl, by decide +kernel, rfl, by decide +kernel, by decide +kernel⟩
theorem kn__law_right (T : Tx P w K mg base) : Kn P w K mg base "_law_right" "_law_right" (top 40) (He.ga K "_law_right") ["_law_thing"] 3 1 F__law_right := by
  refine Kn.of (x := "_law_right") (qual := "_law_right") (f := He.ga K "_law_right") (st := top 40) (N := ["_law_thing", "_law_found", "_law_k", "_law_due_here", "_law_at"]) (ps := ["_law_thing"]) (k := 2) (n := 1) (tr := false) (bf := bf__law_right) (T.dn 6 rfl) sc__law_right rfl (fun _ _ _ _ _ _ us hl => match us, hl with | [_], _ => rfl) fun X E hX c => ?_
  obtain ⟨cdv, A, outer, s, H, rfl⟩ := hX
  exact (fb_cons (fs_for c.hp c.cm (fi_val (fe_kn (kn__law_given T) c (T.gl 13 rfl) rfl (fa_cons (fe_loc 0) fa_nil))) (fg_name 1 c.nd) (fb_cons (fs_for c.hp c.cm (fi_rg1 (T.fr 15 rfl) rfl (fa_cons (fe_b call_pLenS (T.fr 14 rfl) (by decide +kernel) rfl (fa_cons (fe_loc 1) fa_nil)) fa_nil)) (fg_name 2 c.nd) (fb_cons (fs_setLcF 3 c (fi_rg1 (T.fr 15 rfl) rfl (fa_cons (fe_b call_pLenS (T.fr 14 rfl) (by decide +kernel) rfl (fa_cons (fe_loc 1) fa_nil)) fa_nil)) (blkOk_by (own := [("_law_at", 4)]) (by kernel_rfl)) (fun s H C cl fp c => (fg_name 4 c.nd)) (by decide) (fun s H C cl fp c => fts_nil) (fun s H C cl fp c => (fe_cmp (op_pEq c.hu4) (fe_loc 4) (fe_loc 2)))) (fb_one (fs_if (ft_w (fw_or (ft_cmp (op_pNe c.hu4) (fe_kn (kn__law_sorts T) c (T.gl 34 rfl) rfl (fa_cons (fe_ix (fe_loc 1) (fe_loc 2)) fa_nil)) (fe_loc 3)) (fw_or1 (ft_cmp (op_pNe c.hu4) (fe_kn (kn__law_bases T) c (T.gl 44 rfl) rfl (fa_cons (fe_ix (fe_loc 1) (fe_loc 2)) fa_nil)) (fe_kn (kn__law_due T) c (T.gl 45 rfl) rfl (fa_cons (fe_loc 2) fa_nil)))))) (fb_one (fs_ret fe_bl)) fb_nil)))) (fb_one (fs_if (ft_not (ft_val (fe_kn (kn__law_kept_right T) c (T.gl 47 rfl) rfl (fa_cons (fe_loc 1) (fa_cons (fe_loc 0) fa_nil))))) (fb_one (fs_ret fe_bl)) fb_nil)))) (fb_one (fs_ret (fe_kn (kn__law_raised_right T) c (T.gl 48 rfl) rfl (fa_cons (fe_loc 0) fa_nil)))))
theorem sc_law : FnScope ["_law_cells", "_law_limits_here", "_law_things", "_law_cell", "_law_thing"] ["_law_cells"] (defScope (top 41)) := ⟨rfl, rfl, rfl, by decide +kernel, rfl, by decide +kernel, by decide +kernel⟩
theorem kn_law (T : Tx P w K mg base) : Kn P w K mg base "law" "law" (top 41) (He.ga K "law") ["_law_cells"] 4 1 F_law := by
  refine Kn.of (x := "law") (qual := "law") (f := He.ga K "law") (st := top 41) (N := ["_law_cells", "_law_limits_here", "_law_things", "_law_cell", "_law_thing"]) (ps := ["_law_cells"]) (k := 3) (n := 1) (tr := false) (bf := bf_law) (T.dn 7 rfl) sc_law rfl (fun _ _ _ _ _ _ us hl => match us, hl with | [_], _ => rfl) fun X E hX c => ?_
  obtain ⟨cdv, A, outer, s, H, rfl⟩ := hX
  exact (fb_cons (fs_set 1 c.nd (fe_lst (fa_cons (fe_gint rfl (T.it 6 rfl)) (fa_cons (fe_gint rfl (T.it 5 rfl)) (fa_cons (fe_gint rfl (T.it 4 rfl)) (fa_cons (fe_gint rfl (T.it 3 rfl)) (fa_cons (fe_gint rfl (T.it 2 rfl)) (fa_cons (fe_gint rfl (T.it 1 rfl)) (fa_cons (fe_gint rfl (T.it 0 rfl)) fa_nil))))))))) (fb_cons (fs_set 1 c.nd (fe_bin op_pAdd (fe_loc 1) (fe_lst (fa_cons (fe_gint rfl (T.it 9 rfl)) (fa_cons (fe_gint rfl (T.it 8 rfl)) (fa_cons (fe_gint rfl (T.it 7 rfl)) fa_nil)))))) (fb_cons (fs_if (ft_cmp (op_pNe c.hu4) (fe_loc 1) (fe_lst (fa_cons fe_int (fa_cons fe_int (fa_cons fe_int (fa_cons fe_int (fa_cons (fe_bin op_pPow fe_int fe_int) (fa_cons fe_int (fa_cons fe_int (fa_cons fe_int (fa_cons fe_int (fa_cons fe_int fa_nil)))))))))))) (fb_one (fs_ret fe_bl)) fb_nil) (fb_cons (fs_set 2 c.nd (fe_bin op_pAdd (fe_lst (fa_cons fe_non (fa_cons fe_str (fa_cons (fe_tup (fa_cons fe_int (fa_cons fe_str fa_nil))) (fa_cons fe_bl (fa_cons fe_neg fa_nil)))))) (fe_lcF c (fi_val (fe_sl (fe_loc 0) fo_none (fo_some fe_int))) (blkOk_by (own := [("_law_cell", 3)]) (by kernel_rfl)) (fun s H C cl fp c => (fg_name 3 c.nd)) (by decide) (fun s H C cl fp c => fts_nil) (fun s H C cl fp c => (fe_bin op_pMod (fe_ty call_pInt (T.fr 10 rfl) (by decide +kernel) rfl (fa_cons (fe_loc 3) fa_nil)) (fe_bin op_pPow fe_int fe_int)))))) (fb_one (fs_ret (fe_cmp (op_pEq c.hu4) (fe_lcF c (fi_val (fe_loc 2)) (blkOk_by (own := [("_law_thing", 4)]) (by kernel_rfl)) (fun s H C cl fp c => (fg_name 4 c.nd)) (by decide) (fun s H C cl fp c => (fts_one (ft_not (ft_val (fe_kn (kn__law_right T) c (T.gl 49 rfl) rfl (fa_cons (fe_loc 4) fa_nil)))))) (fun s H C cl fp c => (fe_loc 4))) (fe_lst fa_nil))))))))
end
end HL
end
section
set_option Elab.async false
set_option linter.all false
set_option maxRecDepth 100000
set_option maxHeartbeats 0
namespace HL
open PySem PySem.Spec L2
theorem factsL {w : World} {h : Heap} {mg : Str → Option Value} {fA : Addr} (Y : hkL.says w h) (G : h.Ns mainGlobals mg) (hm : mg ("law" : Str) = some (.ref fA)) :
    ∃ (K : Frag) (fd : FuncData), K.In h ∧ (∀ t ∈ tsL, h.get? (tabP K t) = some { cls := .none, data := .fields #[] }) ∧ (∀ t ∈ tsL, K.lookup (tabP K t) = none) ∧ (∀ t ∈ tsL, PySem.W.CodeHd h (He.codeOf K (t, none)) (tabP K t)) ∧ (tsL.map (tabP K)).Nodup ∧ (∀ (s : Shared) (u : Value), BindsTo s fd ⟨[u], []⟩ [("_law_cells", u)]) ∧
      ∀ base : Heap, K.In base → base.Ns mainGlobals mg → (∀ t ∈ tsL, LamX.TabB base mg (He.codeOf K (t, none)) (tabP K t)) → FnG PySem.Challenge.pw_heldlessons_k01_limits_and_errors w K mg base 4 fA fd ["_law_cells"] (spOf K 1 F_law) := by
  obtain ⟨K, KX, c⟩ := Y
  have TX : TxX faL fnL prL isL xcL tkL erL neL cmL fileL PySem.Challenge.pw_heldlessons_k01_limits_and_errors K mg := ⟨⟨⟨h, KX, G⟩, congrArg Prod.fst c.o⟩, ⟨rfl, by kernel_rfl⟩, congrArg Prod.snd c.o⟩
  obtain ⟨fd, F⟩ := TX.dn 7 rfl
  have eA : fA = He.ga K "law" := by
    have e := hm.symm.trans (TX.gl 50 rfl)
    cases e
    rfl
  subst eA
  refine ⟨K, fd, KX, c.at0, c.nK, fun t ht => PySem.W.codeHd_of_K KX (c.hd t ht), of_decide_eq_true (He.ba (He.ba (He.ba c.ex).2).2).1, fun s u => ?_, fun base _ _ hb => ?_⟩
  · exact FunD.bindsA (ps := ["_law_cells"]) F (fun _ _ _ _ _ _ us hl => match us, hl with | [_], _ => rfl) s [u] rfl
  · have T : Tx PySem.Challenge.pw_heldlessons_k01_limits_and_errors w K mg base := ⟨TX, c.ex, hb⟩
    obtain ⟨fd2, F2, G2, _⟩ : Kn PySem.Challenge.pw_heldlessons_k01_limits_and_errors w K mg base "law" "law" (top 41) (He.ga K "law") ["_law_cells"] 4 1 F_law := kn_law T
    obtain ⟨_, _, _, _, _, _, _, _, _, _, e0, e1, _⟩ := F.ex
    obtain ⟨_, _, _, _, _, _, _, _, _, _, e3, e2, _⟩ := F2.ex
    have e4 := e1.symm.trans e2
    cases e4
    exact G2
end HL
open PySem PySem.W PySem.Calls PyProof.Rows
theorem HL.holds_of (law : ∀ ns : List Int, ns.length ≤ 63 → ∃ S, HL.F_law [HL.cellsD ns] (HL.tsL.map HL.Ob.tab) = .ok (.bl true) S) : PySem.Challenge.rw_heldlessons_k01_limits_and_errors.Holds := by
  w_on; o_law
  refine HandSHeadRun.head_any (r := HL.rowL) (q := view HL.rowL.prog [41]) (H := HL.hkL) (ob := HL.obTC HL.faL HL.fnL HL.prL HL.isL HL.xcL HL.tkL HL.erL HL.neL HL.cmL HL.fileL HL.ixL HL.bxL HL.tsL) (M := 30000) (loose := HL.looseL) (d := HandSHeadRun.topDef HL.rowL.prog 41) (kwd := []) (HL.obTC_eq _ _ _ _ _ _ _ _ _ _ _ _ _)
    (by kernel_rfl) (fun s => by kernel_rfl) HL.runL (by kernel_rfl) (by kernel_rfl) (by kernel_rfl) (by rfl) (by first | assumption | decide +kernel) (by decide +kernel) ⟨rfl, rfl, rfl, rfl, rfl, by decide +kernel⟩ ?hw ?hc
  case hw => w_witness2
  case hc =>
    refine HL.walkGT (tbs := HL.tsL) (l := PySem.Challenge.rw_heldlessons_k01_limits_and_errors) (n := 63) (k := 4) (x := "_law_cells") (g := HL.F_law) rfl (by decide) (by kernel_rfl) ⟨⟨rfl, by decide, by decide⟩, rfl⟩ (fun w mg fA h Y G hm => ?_) law
    have e : (HandSHeadRun.topDef HL.rowL.prog 41).name = ("law" : PySem.Str) := by kernel_rfl
    rw [e] at hm
    exact HL.factsL Y G hm
end
set_option Elab.async false
set_option linter.all false
set_option maxRecDepth 100000
set_option maxHeartbeats 4000000
namespace HL
open PySem PySem.Spec L2
theorem isiX_has {yes no : List Str} {C : Str} (h : (yes.contains C || no.contains C) = true) (ks : List Str) (vs : List D) (S : Store) : isiX yes no (.err C ks vs) S = some (.bl (yes.contains C)) := by
  rw [isiX_err]
  cases hy : yes.contains C with
  | true => rw [if_pos rfl]
  | false =>
    rw [hy, Bool.false_or] at h
    rw [if_neg (by simp), if_pos h]
def lbD (bs : List Bool) : D := .lst (bs.map D.bl)
theorem dok_lb : ∀ bs : List Bool, doks 0 (bs.map D.bl) = true
  | [] => rfl
  | b :: bs => by
    have := dok_lb bs
    simp [this]
theorem ne_lb (bs : List Bool) (T : Store) : pNe (lbD bs) (lbD bs) T = some (.bl false) := by
  have hd : dok 1 (lbD bs) = true := by
    unfold lbD
    rw [dok_lst]
    exact dok_lb bs
  rw [pNe_dok 1 1 T hd hd (by decide) (by decide), eqv_refl (dok_py hd).2.1]
  rfl

def nmE : List Str := ["InvalidText", "InvalidNumber", "InvalidAbsence", "InvalidHour", "InvalidTable", "InvalidName", "InvalidClaim", "InvalidPlace", "NotAPlan", "InvalidSubjects", "InvalidHours", "InvalidKinds", "InvalidOffers", "UnknownName", "InUse", "Unlike", "TooMany", "NothingToUndo", "Broken"]
def tabS : List (List Str × List Str) := [(["InvalidText"], ["NotRight", "InvalidNumber", "InvalidAbsence", "InvalidHour", "InvalidTable", "InvalidName", "InvalidClaim", "InvalidPlace", "NotAPlan", "InvalidSubjects", "InvalidHours", "InvalidKinds", "InvalidOffers", "NotThere", "UnknownName", "InUse", "CannotBe", "Unlike", "TooMany", "NothingToUndo", "Broken"]), (["InvalidNumber"], ["NotRight", "InvalidText", "InvalidAbsence", "InvalidHour", "InvalidTable", "InvalidName", "InvalidClaim", "InvalidPlace", "NotAPlan", "InvalidSubjects", "InvalidHours", "InvalidKinds", "InvalidOffers", "NotThere", "UnknownName", "InUse", "CannotBe", "Unlike", "TooMany", "NothingToUndo", "Broken"]), (["InvalidAbsence"], ["NotRight", "InvalidText", "InvalidNumber", "InvalidHour", "InvalidTable", "InvalidName", "InvalidClaim", "InvalidPlace", "NotAPlan", "InvalidSubjects", "InvalidHours", "InvalidKinds", "InvalidOffers", "NotThere", "UnknownName", "InUse", "CannotBe", "Unlike", "TooMany", "NothingToUndo", "Broken"]), (["InvalidHour"], ["NotRight", "InvalidText", "InvalidNumber", "InvalidAbsence", "InvalidTable", "InvalidName", "InvalidClaim", "InvalidPlace", "NotAPlan", "InvalidSubjects", "InvalidHours", "InvalidKinds", "InvalidOffers", "NotThere", "UnknownName", "InUse", "CannotBe", "Unlike", "TooMany", "NothingToUndo", "Broken"]), (["InvalidTable"], ["NotRight", "InvalidText", "InvalidNumber", "InvalidAbsence", "InvalidHour", "InvalidName", "InvalidClaim", "InvalidPlace", "NotAPlan", "InvalidSubjects", "InvalidHours", "InvalidKinds", "InvalidOffers", "NotThere", "UnknownName", "InUse", "CannotBe", "Unlike", "TooMany", "NothingToUndo", "Broken"]), (["InvalidName"], ["NotRight", "InvalidText", "InvalidNumber", "InvalidAbsence", "InvalidHour", "InvalidTable", "InvalidClaim", "InvalidPlace", "NotAPlan", "InvalidSubjects", "InvalidHours", "InvalidKinds", "InvalidOffers", "NotThere", "UnknownName", "InUse", "CannotBe", "Unlike", "TooMany", "NothingToUndo", "Broken"]), (["InvalidClaim"], ["NotRight", "InvalidText", "InvalidNumber", "InvalidAbsence", "InvalidHour", "InvalidTable", "InvalidName", "InvalidPlace", "NotAPlan", "InvalidSubjects", "InvalidHours", "InvalidKinds", "InvalidOffers", "NotThere", "UnknownName", "InUse", "CannotBe", "Unlike", "TooMany", "NothingToUndo", "Broken"]), (["InvalidPlace"], ["NotRight", "InvalidText", "InvalidNumber", "InvalidAbsence", "InvalidHour", "InvalidTable", "InvalidName", "InvalidClaim", "NotAPlan", "InvalidSubjects", "InvalidHours", "InvalidKinds", "InvalidOffers", "NotThere", "UnknownName", "InUse", "CannotBe", "Unlike", "TooMany", "NothingToUndo", "Broken"]), (["NotAPlan"], ["NotRight", "InvalidText", "InvalidNumber", "InvalidAbsence", "InvalidHour", "InvalidTable", "InvalidName", "InvalidClaim", "InvalidPlace", "InvalidSubjects", "InvalidHours", "InvalidKinds", "InvalidOffers", "NotThere", "UnknownName", "InUse", "CannotBe", "Unlike", "TooMany", "NothingToUndo", "Broken"]), (["InvalidSubjects"], ["NotRight", "InvalidText", "InvalidNumber", "InvalidAbsence", "InvalidHour", "InvalidTable", "InvalidName", "InvalidClaim", "InvalidPlace", "NotAPlan", "InvalidHours", "InvalidKinds", "InvalidOffers", "NotThere", "UnknownName", "InUse", "CannotBe", "Unlike", "TooMany", "NothingToUndo", "Broken"]), (["InvalidHours"], ["NotRight", "InvalidText", "InvalidNumber", "InvalidAbsence", "InvalidHour", "InvalidTable", "InvalidName", "InvalidClaim", "InvalidPlace", "NotAPlan", "InvalidSubjects", "InvalidKinds", "InvalidOffers", "NotThere", "UnknownName", "InUse", "CannotBe", "Unlike", "TooMany", "NothingToUndo", "Broken"]), (["InvalidKinds"], ["NotRight", "InvalidText", "InvalidNumber", "InvalidAbsence", "InvalidHour", "InvalidTable", "InvalidName", "InvalidClaim", "InvalidPlace", "NotAPlan", "InvalidSubjects", "InvalidHours", "InvalidOffers", "NotThere", "UnknownName", "InUse", "CannotBe", "Unlike", "TooMany", "NothingToUndo", "Broken"]), (["InvalidOffers"], ["NotRight", "InvalidText", "InvalidNumber", "InvalidAbsence", "InvalidHour", "InvalidTable", "InvalidName", "InvalidClaim", "InvalidPlace", "NotAPlan", "InvalidSubjects", "InvalidHours", "InvalidKinds", "NotThere", "UnknownName", "InUse", "CannotBe", "Unlike", "TooMany", "NothingToUndo", "Broken"]), (["UnknownName"], ["NotRight", "InvalidText", "InvalidNumber", "InvalidAbsence", "InvalidHour", "InvalidTable", "InvalidName", "InvalidClaim", "InvalidPlace", "NotAPlan", "InvalidSubjects", "InvalidHours", "InvalidKinds", "InvalidOffers", "NotThere", "InUse", "CannotBe", "Unlike", "TooMany", "NothingToUndo", "Broken"]), (["InUse"], ["NotRight", "InvalidText", "InvalidNumber", "InvalidAbsence", "InvalidHour", "InvalidTable", "InvalidName", "InvalidClaim", "InvalidPlace", "NotAPlan", "InvalidSubjects", "InvalidHours", "InvalidKinds", "InvalidOffers", "NotThere", "UnknownName", "CannotBe", "Unlike", "TooMany", "NothingToUndo", "Broken"]), (["Unlike"], ["NotRight", "InvalidText", "InvalidNumber", "InvalidAbsence", "InvalidHour", "InvalidTable", "InvalidName", "InvalidClaim", "InvalidPlace", "NotAPlan", "InvalidSubjects", "InvalidHours", "InvalidKinds", "InvalidOffers", "NotThere", "UnknownName", "InUse", "CannotBe", "TooMany", "NothingToUndo", "Broken"]), (["TooMany"], ["NotRight", "InvalidText", "InvalidNumber", "InvalidAbsence", "InvalidHour", "InvalidTable", "InvalidName", "InvalidClaim", "InvalidPlace", "NotAPlan", "InvalidSubjects", "InvalidHours", "InvalidKinds", "InvalidOffers", "NotThere", "UnknownName", "InUse", "CannotBe", "Unlike", "NothingToUndo", "Broken"]), (["NothingToUndo"], ["NotRight", "InvalidText", "InvalidNumber", "InvalidAbsence", "InvalidHour", "InvalidTable", "InvalidName", "InvalidClaim", "InvalidPlace", "NotAPlan", "InvalidSubjects", "InvalidHours", "InvalidKinds", "InvalidOffers", "NotThere", "UnknownName", "InUse", "CannotBe", "Unlike", "TooMany", "Broken"]), (["Broken"], ["NotRight", "InvalidText", "InvalidNumber", "InvalidAbsence", "InvalidHour", "InvalidTable", "InvalidName", "InvalidClaim", "InvalidPlace", "NotAPlan", "InvalidSubjects", "InvalidHours", "InvalidKinds", "InvalidOffers", "NotThere", "UnknownName", "InUse", "CannotBe", "Unlike", "TooMany", "NothingToUndo"])]
def tabB : List (List Str × List Str) := [(["NotRight", "InvalidText", "InvalidNumber", "InvalidAbsence", "InvalidHour", "InvalidTable", "InvalidName", "InvalidClaim", "InvalidPlace", "NotAPlan", "InvalidSubjects", "InvalidHours", "InvalidKinds", "InvalidOffers"], ["NotThere", "UnknownName", "InUse", "CannotBe", "Unlike", "TooMany", "NothingToUndo", "Broken"]), (["NotThere", "UnknownName", "InUse"], ["NotRight", "InvalidText", "InvalidNumber", "InvalidAbsence", "InvalidHour", "InvalidTable", "InvalidName", "InvalidClaim", "InvalidPlace", "NotAPlan", "InvalidSubjects", "InvalidHours", "InvalidKinds", "InvalidOffers", "CannotBe", "Unlike", "TooMany", "NothingToUndo", "Broken"]), (["CannotBe", "Unlike", "TooMany", "NothingToUndo", "Broken"], ["NotRight", "InvalidText", "InvalidNumber", "InvalidAbsence", "InvalidHour", "InvalidTable", "InvalidName", "InvalidClaim", "InvalidPlace", "NotAPlan", "InvalidSubjects", "InvalidHours", "InvalidKinds", "InvalidOffers", "NotThere", "UnknownName", "InUse"]), (["NotRight", "InvalidText", "InvalidNumber", "InvalidAbsence", "InvalidHour", "InvalidTable", "InvalidName", "InvalidClaim", "InvalidPlace", "NotAPlan", "InvalidSubjects", "InvalidHours", "InvalidKinds", "InvalidOffers"], ["NotThere", "UnknownName", "InUse", "CannotBe", "Unlike", "TooMany", "NothingToUndo", "Broken"]), (["NotThere", "UnknownName", "InUse"], ["NotRight", "InvalidText", "InvalidNumber", "InvalidAbsence", "InvalidHour", "InvalidTable", "InvalidName", "InvalidClaim", "InvalidPlace", "NotAPlan", "InvalidSubjects", "InvalidHours", "InvalidKinds", "InvalidOffers", "CannotBe", "Unlike", "TooMany", "NothingToUndo", "Broken"]), (["CannotBe", "Unlike", "TooMany", "NothingToUndo", "Broken"], ["NotRight", "InvalidText", "InvalidNumber", "InvalidAbsence", "InvalidHour", "InvalidTable", "InvalidName", "InvalidClaim", "InvalidPlace", "NotAPlan", "InvalidSubjects", "InvalidHours", "InvalidKinds", "InvalidOffers", "NotThere", "UnknownName", "InUse"]), ([], ["NotRight", "InvalidText", "InvalidNumber", "InvalidAbsence", "InvalidHour", "InvalidTable", "InvalidName", "InvalidClaim", "InvalidPlace", "NotAPlan", "InvalidSubjects", "InvalidHours", "InvalidKinds", "InvalidOffers", "NotThere", "UnknownName", "InUse", "CannotBe", "Unlike", "TooMany", "NothingToUndo", "Broken"]), ([], ["NotRight", "InvalidText", "InvalidNumber", "InvalidAbsence", "InvalidHour", "InvalidTable", "InvalidName", "InvalidClaim", "InvalidPlace", "NotAPlan", "InvalidSubjects", "InvalidHours", "InvalidKinds", "InvalidOffers", "NotThere", "UnknownName", "InUse", "CannotBe", "Unlike", "TooMany", "NothingToUndo", "Broken"]), ([], ["NotRight", "InvalidText", "InvalidNumber", "InvalidAbsence", "InvalidHour", "InvalidTable", "InvalidName", "InvalidClaim", "InvalidPlace", "NotAPlan", "InvalidSubjects", "InvalidHours", "InvalidKinds", "InvalidOffers", "NotThere", "UnknownName", "InUse", "CannotBe", "Unlike", "TooMany", "NothingToUndo", "Broken"])]
def FL (d : D) : List D := [.err "InvalidText" ["given"] [d], .err "InvalidNumber" ["given"] [d], .err "InvalidAbsence" ["given"] [d], .err "InvalidHour" ["given"] [d], .err "InvalidTable" ["given"] [d], .err "InvalidName" ["given"] [d], .err "InvalidClaim" ["given"] [d], .err "InvalidPlace" ["given"] [d], .err "NotAPlan" ["given"] [d], .err "InvalidSubjects" ["index"] [d], .err "InvalidHours" ["index"] [d], .err "InvalidKinds" ["index"] [d], .err "InvalidOffers" ["index"] [d], .err "UnknownName" ["given"] [d], .err "InUse" ["index"] [d], .err "Unlike" [] [], .err "TooMany" ["most"] [d], .err "NothingToUndo" [] [], .err "Broken" ["index", "shown"] [d, .int 7]]
theorem sorts_ok {C : Str} (h : (tabS.all fun p => p.1.contains C || p.2.contains C) = true) (ks : List Str) (vs : List D) (S : Store) : F__law_sorts [.err C ks vs] S = .ok (lbD (tabS.map fun p => p.1.contains C)) S := by
  have e : ∀ p ∈ tabS, ∀ T, isiX p.1 p.2 (.err C ks vs) T = some (.bl (p.1.contains C)) := fun p hp T => isiX_has (List.all_eq_true.mp h p hp) ks vs T
  have e2 : ∀ i (hi : i < 19) T, isiX (tabS[i]'hi).1 (tabS[i]'hi).2 (.err C ks vs) T = some (.bl ((tabS[i]'hi).1.contains C)) := fun i hi T => e _ (List.getElem_mem _) T
  have x0 : ∀ T, isiX ["InvalidText"] ["NotRight", "InvalidNumber", "InvalidAbsence", "InvalidHour", "InvalidTable", "InvalidName", "InvalidClaim", "InvalidPlace", "NotAPlan", "InvalidSubjects", "InvalidHours", "InvalidKinds", "InvalidOffers", "NotThere", "UnknownName", "InUse", "CannotBe", "Unlike", "TooMany", "NothingToUndo", "Broken"] (.err C ks vs) T = some (.bl ((["InvalidText"] : List Str).contains C)) := fun T => e2 0 (by decide) T
  have x1 : ∀ T, isiX ["InvalidNumber"] ["NotRight", "InvalidText", "InvalidAbsence", "InvalidHour", "InvalidTable", "InvalidName", "InvalidClaim", "InvalidPlace", "NotAPlan", "InvalidSubjects", "InvalidHours", "InvalidKinds", "InvalidOffers", "NotThere", "UnknownName", "InUse", "CannotBe", "Unlike", "TooMany", "NothingToUndo", "Broken"] (.err C ks vs) T = some (.bl ((["InvalidNumber"] : List Str).contains C)) := fun T => e2 1 (by decide) T
  have x2 : ∀ T, isiX ["InvalidAbsence"] ["NotRight", "InvalidText", "InvalidNumber", "InvalidHour", "InvalidTable", "InvalidName", "InvalidClaim", "InvalidPlace", "NotAPlan", "InvalidSubjects", "InvalidHours", "InvalidKinds", "InvalidOffers", "NotThere", "UnknownName", "InUse", "CannotBe", "Unlike", "TooMany", "NothingToUndo", "Broken"] (.err C ks vs) T = some (.bl ((["InvalidAbsence"] : List Str).contains C)) := fun T => e2 2 (by decide) T
  have x3 : ∀ T, isiX ["InvalidHour"] ["NotRight", "InvalidText", "InvalidNumber", "InvalidAbsence", "InvalidTable", "InvalidName", "InvalidClaim", "InvalidPlace", "NotAPlan", "InvalidSubjects", "InvalidHours", "InvalidKinds", "InvalidOffers", "NotThere", "UnknownName", "InUse", "CannotBe", "Unlike", "TooMany", "NothingToUndo", "Broken"] (.err C ks vs) T = some (.bl ((["InvalidHour"] : List Str).contains C)) := fun T => e2 3 (by decide) T
  have x4 : ∀ T, isiX ["InvalidTable"] ["NotRight", "InvalidText", "InvalidNumber", "InvalidAbsence", "InvalidHour", "InvalidName", "InvalidClaim", "InvalidPlace", "NotAPlan", "InvalidSubjects", "InvalidHours", "InvalidKinds", "InvalidOffers", "NotThere", "UnknownName", "InUse", "CannotBe", "Unlike", "TooMany", "NothingToUndo", "Broken"] (.err C ks vs) T = some (.bl ((["InvalidTable"] : List Str).contains C)) := fun T => e2 4 (by decide) T
  have x5 : ∀ T, isiX ["InvalidName"] ["NotRight", "InvalidText", "InvalidNumber", "InvalidAbsence", "InvalidHour", "InvalidTable", "InvalidClaim", "InvalidPlace", "NotAPlan", "InvalidSubjects", "InvalidHours", "InvalidKinds", "InvalidOffers", "NotThere", "UnknownName", "InUse", "CannotBe", "Unlike", "TooMany", "NothingToUndo", "Broken"] (.err C ks vs) T = some (.bl ((["InvalidName"] : List Str).contains C)) := fun T => e2 5 (by decide) T
  have x6 : ∀ T, isiX ["InvalidClaim"] ["NotRight", "InvalidText", "InvalidNumber", "InvalidAbsence", "InvalidHour", "InvalidTable", "InvalidName", "InvalidPlace", "NotAPlan", "InvalidSubjects", "InvalidHours", "InvalidKinds", "InvalidOffers", "NotThere", "UnknownName", "InUse", "CannotBe", "Unlike", "TooMany", "NothingToUndo", "Broken"] (.err C ks vs) T = some (.bl ((["InvalidClaim"] : List Str).contains C)) := fun T => e2 6 (by decide) T
  have x7 : ∀ T, isiX ["InvalidPlace"] ["NotRight", "InvalidText", "InvalidNumber", "InvalidAbsence", "InvalidHour", "InvalidTable", "InvalidName", "InvalidClaim", "NotAPlan", "InvalidSubjects", "InvalidHours", "InvalidKinds", "InvalidOffers", "NotThere", "UnknownName", "InUse", "CannotBe", "Unlike", "TooMany", "NothingToUndo", "Broken"] (.err C ks vs) T = some (.bl ((["InvalidPlace"] : List Str).contains C)) := fun T => e2 7 (by decide) T
  have x8 : ∀ T, isiX ["NotAPlan"] ["NotRight", "InvalidText", "InvalidNumber", "InvalidAbsence", "InvalidHour", "InvalidTable", "InvalidName", "InvalidClaim", "InvalidPlace", "InvalidSubjects", "InvalidHours", "InvalidKinds", "InvalidOffers", "NotThere", "UnknownName", "InUse", "CannotBe", "Unlike", "TooMany", "NothingToUndo", "Broken"] (.err C ks vs) T = some (.bl ((["NotAPlan"] : List Str).contains C)) := fun T => e2 8 (by decide) T
  have x9 : ∀ T, isiX ["InvalidSubjects"] ["NotRight", "InvalidText", "InvalidNumber", "InvalidAbsence", "InvalidHour", "InvalidTable", "InvalidName", "InvalidClaim", "InvalidPlace", "NotAPlan", "InvalidHours", "InvalidKinds", "InvalidOffers", "NotThere", "UnknownName", "InUse", "CannotBe", "Unlike", "TooMany", "NothingToUndo", "Broken"] (.err C ks vs) T = some (.bl ((["InvalidSubjects"] : List Str).contains C)) := fun T => e2 9 (by decide) T
  have x10 : ∀ T, isiX ["InvalidHours"] ["NotRight", "InvalidText", "InvalidNumber", "InvalidAbsence", "InvalidHour", "InvalidTable", "InvalidName", "InvalidClaim", "InvalidPlace", "NotAPlan", "InvalidSubjects", "InvalidKinds", "InvalidOffers", "NotThere", "UnknownName", "InUse", "CannotBe", "Unlike", "TooMany", "NothingToUndo", "Broken"] (.err C ks vs) T = some (.bl ((["InvalidHours"] : List Str).contains C)) := fun T => e2 10 (by decide) T
  have x11 : ∀ T, isiX ["InvalidKinds"] ["NotRight", "InvalidText", "InvalidNumber", "InvalidAbsence", "InvalidHour", "InvalidTable", "InvalidName", "InvalidClaim", "InvalidPlace", "NotAPlan", "InvalidSubjects", "InvalidHours", "InvalidOffers", "NotThere", "UnknownName", "InUse", "CannotBe", "Unlike", "TooMany", "NothingToUndo", "Broken"] (.err C ks vs) T = some (.bl ((["InvalidKinds"] : List Str).contains C)) := fun T => e2 11 (by decide) T
  have x12 : ∀ T, isiX ["InvalidOffers"] ["NotRight", "InvalidText", "InvalidNumber", "InvalidAbsence", "InvalidHour", "InvalidTable", "InvalidName", "InvalidClaim", "InvalidPlace", "NotAPlan", "InvalidSubjects", "InvalidHours", "InvalidKinds", "NotThere", "UnknownName", "InUse", "CannotBe", "Unlike", "TooMany", "NothingToUndo", "Broken"] (.err C ks vs) T = some (.bl ((["InvalidOffers"] : List Str).contains C)) := fun T => e2 12 (by decide) T
  have x13 : ∀ T, isiX ["UnknownName"] ["NotRight", "InvalidText", "InvalidNumber", "InvalidAbsence", "InvalidHour", "InvalidTable", "InvalidName", "InvalidClaim", "InvalidPlace", "NotAPlan", "InvalidSubjects", "InvalidHours", "InvalidKinds", "InvalidOffers", "NotThere", "InUse", "CannotBe", "Unlike", "TooMany", "NothingToUndo", "Broken"] (.err C ks vs) T = some (.bl ((["UnknownName"] : List Str).contains C)) := fun T => e2 13 (by decide) T
  have x14 : ∀ T, isiX ["InUse"] ["NotRight", "InvalidText", "InvalidNumber", "InvalidAbsence", "InvalidHour", "InvalidTable", "InvalidName", "InvalidClaim", "InvalidPlace", "NotAPlan", "InvalidSubjects", "InvalidHours", "InvalidKinds", "InvalidOffers", "NotThere", "UnknownName", "CannotBe", "Unlike", "TooMany", "NothingToUndo", "Broken"] (.err C ks vs) T = some (.bl ((["InUse"] : List Str).contains C)) := fun T => e2 14 (by decide) T
  have x15 : ∀ T, isiX ["Unlike"] ["NotRight", "InvalidText", "InvalidNumber", "InvalidAbsence", "InvalidHour", "InvalidTable", "InvalidName", "InvalidClaim", "InvalidPlace", "NotAPlan", "InvalidSubjects", "InvalidHours", "InvalidKinds", "InvalidOffers", "NotThere", "UnknownName", "InUse", "CannotBe", "TooMany", "NothingToUndo", "Broken"] (.err C ks vs) T = some (.bl ((["Unlike"] : List Str).contains C)) := fun T => e2 15 (by decide) T
  have x16 : ∀ T, isiX ["TooMany"] ["NotRight", "InvalidText", "InvalidNumber", "InvalidAbsence", "InvalidHour", "InvalidTable", "InvalidName", "InvalidClaim", "InvalidPlace", "NotAPlan", "InvalidSubjects", "InvalidHours", "InvalidKinds", "InvalidOffers", "NotThere", "UnknownName", "InUse", "CannotBe", "Unlike", "NothingToUndo", "Broken"] (.err C ks vs) T = some (.bl ((["TooMany"] : List Str).contains C)) := fun T => e2 16 (by decide) T
  have x17 : ∀ T, isiX ["NothingToUndo"] ["NotRight", "InvalidText", "InvalidNumber", "InvalidAbsence", "InvalidHour", "InvalidTable", "InvalidName", "InvalidClaim", "InvalidPlace", "NotAPlan", "InvalidSubjects", "InvalidHours", "InvalidKinds", "InvalidOffers", "NotThere", "UnknownName", "InUse", "CannotBe", "Unlike", "TooMany", "Broken"] (.err C ks vs) T = some (.bl ((["NothingToUndo"] : List Str).contains C)) := fun T => e2 17 (by decide) T
  have x18 : ∀ T, isiX ["Broken"] ["NotRight", "InvalidText", "InvalidNumber", "InvalidAbsence", "InvalidHour", "InvalidTable", "InvalidName", "InvalidClaim", "InvalidPlace", "NotAPlan", "InvalidSubjects", "InvalidHours", "InvalidKinds", "InvalidOffers", "NotThere", "UnknownName", "InUse", "CannotBe", "Unlike", "TooMany", "NothingToUndo"] (.err C ks vs) T = some (.bl ((["Broken"] : List Str).contains C)) := fun T => e2 18 (by decide) T
  unfold F__law_sorts bf__law_sorts
  simp [-List.contains_cons, -List.contains_eq_mem, x0, x1, x2, x3, x4, x5, x6, x7, x8, x9, x10, x11, x12, x13, x14, x15, x16, x17, x18]
  rfl
theorem bases_ok {C : Str} (h : (tabB.all fun p => p.1.contains C || p.2.contains C) = true) (ks : List Str) (vs : List D) (S : Store) : F__law_bases [.err C ks vs] S = .ok (lbD (tabB.map fun p => p.1.contains C)) S := by
  have e : ∀ p ∈ tabB, ∀ T, isiX p.1 p.2 (.err C ks vs) T = some (.bl (p.1.contains C)) := fun p hp T => isiX_has (List.all_eq_true.mp h p hp) ks vs T
  have e2 : ∀ i (hi : i < 9) T, isiX (tabB[i]'hi).1 (tabB[i]'hi).2 (.err C ks vs) T = some (.bl ((tabB[i]'hi).1.contains C)) := fun i hi T => e _ (List.getElem_mem _) T
  have x0 : ∀ T, isiX ["NotRight", "InvalidText", "InvalidNumber", "InvalidAbsence", "InvalidHour", "InvalidTable", "InvalidName", "InvalidClaim", "InvalidPlace", "NotAPlan", "InvalidSubjects", "InvalidHours", "InvalidKinds", "InvalidOffers"] ["NotThere", "UnknownName", "InUse", "CannotBe", "Unlike", "TooMany", "NothingToUndo", "Broken"] (.err C ks vs) T = some (.bl ((["NotRight", "InvalidText", "InvalidNumber", "InvalidAbsence", "InvalidHour", "InvalidTable", "InvalidName", "InvalidClaim", "InvalidPlace", "NotAPlan", "InvalidSubjects", "InvalidHours", "InvalidKinds", "InvalidOffers"] : List Str).contains C)) := fun T => e2 0 (by decide) T
  have x1 : ∀ T, isiX ["NotThere", "UnknownName", "InUse"] ["NotRight", "InvalidText", "InvalidNumber", "InvalidAbsence", "InvalidHour", "InvalidTable", "InvalidName", "InvalidClaim", "InvalidPlace", "NotAPlan", "InvalidSubjects", "InvalidHours", "InvalidKinds", "InvalidOffers", "CannotBe", "Unlike", "TooMany", "NothingToUndo", "Broken"] (.err C ks vs) T = some (.bl ((["NotThere", "UnknownName", "InUse"] : List Str).contains C)) := fun T => e2 1 (by decide) T
  have x2 : ∀ T, isiX ["CannotBe", "Unlike", "TooMany", "NothingToUndo", "Broken"] ["NotRight", "InvalidText", "InvalidNumber", "InvalidAbsence", "InvalidHour", "InvalidTable", "InvalidName", "InvalidClaim", "InvalidPlace", "NotAPlan", "InvalidSubjects", "InvalidHours", "InvalidKinds", "InvalidOffers", "NotThere", "UnknownName", "InUse"] (.err C ks vs) T = some (.bl ((["CannotBe", "Unlike", "TooMany", "NothingToUndo", "Broken"] : List Str).contains C)) := fun T => e2 2 (by decide) T
  have x3 : ∀ T, isiX ["NotRight", "InvalidText", "InvalidNumber", "InvalidAbsence", "InvalidHour", "InvalidTable", "InvalidName", "InvalidClaim", "InvalidPlace", "NotAPlan", "InvalidSubjects", "InvalidHours", "InvalidKinds", "InvalidOffers"] ["NotThere", "UnknownName", "InUse", "CannotBe", "Unlike", "TooMany", "NothingToUndo", "Broken"] (.err C ks vs) T = some (.bl ((["NotRight", "InvalidText", "InvalidNumber", "InvalidAbsence", "InvalidHour", "InvalidTable", "InvalidName", "InvalidClaim", "InvalidPlace", "NotAPlan", "InvalidSubjects", "InvalidHours", "InvalidKinds", "InvalidOffers"] : List Str).contains C)) := fun T => e2 3 (by decide) T
  have x4 : ∀ T, isiX ["NotThere", "UnknownName", "InUse"] ["NotRight", "InvalidText", "InvalidNumber", "InvalidAbsence", "InvalidHour", "InvalidTable", "InvalidName", "InvalidClaim", "InvalidPlace", "NotAPlan", "InvalidSubjects", "InvalidHours", "InvalidKinds", "InvalidOffers", "CannotBe", "Unlike", "TooMany", "NothingToUndo", "Broken"] (.err C ks vs) T = some (.bl ((["NotThere", "UnknownName", "InUse"] : List Str).contains C)) := fun T => e2 4 (by decide) T
  have x5 : ∀ T, isiX ["CannotBe", "Unlike", "TooMany", "NothingToUndo", "Broken"] ["NotRight", "InvalidText", "InvalidNumber", "InvalidAbsence", "InvalidHour", "InvalidTable", "InvalidName", "InvalidClaim", "InvalidPlace", "NotAPlan", "InvalidSubjects", "InvalidHours", "InvalidKinds", "InvalidOffers", "NotThere", "UnknownName", "InUse"] (.err C ks vs) T = some (.bl ((["CannotBe", "Unlike", "TooMany", "NothingToUndo", "Broken"] : List Str).contains C)) := fun T => e2 5 (by decide) T
  have x6 : ∀ T, isiX [] ["NotRight", "InvalidText", "InvalidNumber", "InvalidAbsence", "InvalidHour", "InvalidTable", "InvalidName", "InvalidClaim", "InvalidPlace", "NotAPlan", "InvalidSubjects", "InvalidHours", "InvalidKinds", "InvalidOffers", "NotThere", "UnknownName", "InUse", "CannotBe", "Unlike", "TooMany", "NothingToUndo", "Broken"] (.err C ks vs) T = some (.bl (([] : List Str).contains C)) := fun T => e2 6 (by decide) T
  have x7 : ∀ T, isiX [] ["NotRight", "InvalidText", "InvalidNumber", "InvalidAbsence", "InvalidHour", "InvalidTable", "InvalidName", "InvalidClaim", "InvalidPlace", "NotAPlan", "InvalidSubjects", "InvalidHours", "InvalidKinds", "InvalidOffers", "NotThere", "UnknownName", "InUse", "CannotBe", "Unlike", "TooMany", "NothingToUndo", "Broken"] (.err C ks vs) T = some (.bl (([] : List Str).contains C)) := fun T => e2 7 (by decide) T
  have x8 : ∀ T, isiX [] ["NotRight", "InvalidText", "InvalidNumber", "InvalidAbsence", "InvalidHour", "InvalidTable", "InvalidName", "InvalidClaim", "InvalidPlace", "NotAPlan", "InvalidSubjects", "InvalidHours", "InvalidKinds", "InvalidOffers", "NotThere", "UnknownName", "InUse", "CannotBe", "Unlike", "TooMany", "NothingToUndo", "Broken"] (.err C ks vs) T = some (.bl (([] : List Str).contains C)) := fun T => e2 8 (by decide) T
  unfold F__law_bases bf__law_bases
  simp [-List.contains_cons, -List.contains_eq_mem, x0, x1, x2, x3, x4, x5, x6, x7, x8]
  rfl
def brow (k : Nat) : List Bool := [decide (k < 13), decide (12 < k ∧ k < 15), decide (15 ≤ k), decide (k < 13), decide (12 < k ∧ k < 15), decide (15 ≤ k), false, false, false]
theorem lt19 {k : Nat} (h : k < 19) : k = 0 ∨ k = 1 ∨ k = 2 ∨ k = 3 ∨ k = 4 ∨ k = 5 ∨ k = 6 ∨ k = 7 ∨ k = 8 ∨ k = 9 ∨ k = 10 ∨ k = 11 ∨ k = 12 ∨ k = 13 ∨ k = 14 ∨ k = 15 ∨ k = 16 ∨ k = 17 ∨ k = 18 := by omega
theorem due_ok {k : Nat} (h : k < 19) (S : Store) : F__law_due [.int (k : Int)] S = .ok (lbD (brow k)) S := by
  rcases lt19 h with rfl | rfl | rfl | rfl | rfl | rfl | rfl | rfl | rfl | rfl | rfl | rfl | rfl | rfl | rfl | rfl | rfl | rfl | rfl <;> (unfold F__law_due bf__law_due; simp; rfl)
theorem step_ok (d : D) {k : Nat} (h : k < 19) (S : Store) : ∃ e, (FL d)[k]? = some e ∧ F__law_sorts [e] S = .ok (lbD ((List.range 19).map fun i => decide (i = k))) S ∧ F__law_bases [e] S = .ok (lbD (brow k)) S := by
  rcases lt19 h with rfl | rfl | rfl | rfl | rfl | rfl | rfl | rfl | rfl | rfl | rfl | rfl | rfl | rfl | rfl | rfl | rfl | rfl | rfl

  · refine ⟨_, rfl, ?_, ?_⟩
    · rw [sorts_ok (by decide +kernel)]
      congr 1
    · rw [bases_ok (by decide +kernel)]
      congr 1
  · refine ⟨_, rfl, ?_, ?_⟩
    · rw [sorts_ok (by decide +kernel)]
      congr 1
    · rw [bases_ok (by decide +kernel)]
      congr 1
  · refine ⟨_, rfl, ?_, ?_⟩
    · rw [sorts_ok (by decide +kernel)]
      congr 1
    · rw [bases_ok (by decide +kernel)]
      congr 1
  · refine ⟨_, rfl, ?_, ?_⟩
    · rw [sorts_ok (by decide +kernel)]
      congr 1
    · rw [bases_ok (by decide +kernel)]
      congr 1
  · refine ⟨_, rfl, ?_, ?_⟩
    · rw [sorts_ok (by decide +kernel)]
      congr 1
    · rw [bases_ok (by decide +kernel)]
      congr 1
  · refine ⟨_, rfl, ?_, ?_⟩
    · rw [sorts_ok (by decide +kernel)]
      congr 1
    · rw [bases_ok (by decide +kernel)]
      congr 1
  · refine ⟨_, rfl, ?_, ?_⟩
    · rw [sorts_ok (by decide +kernel)]
      congr 1
    · rw [bases_ok (by decide +kernel)]
      congr 1
  · refine ⟨_, rfl, ?_, ?_⟩
    · rw [sorts_ok (by decide +kernel)]
      congr 1
    · rw [bases_ok (by decide +kernel)]
      congr 1
  · refine ⟨_, rfl, ?_, ?_⟩
    · rw [sorts_ok (by decide +kernel)]
      congr 1
    · rw [bases_ok (by decide +kernel)]
      congr 1
  · refine ⟨_, rfl, ?_, ?_⟩
    · rw [sorts_ok (by decide +kernel)]
      congr 1
    · rw [bases_ok (by decide +kernel)]
      congr 1
  · refine ⟨_, rfl, ?_, ?_⟩
    · rw [sorts_ok (by decide +kernel)]
      congr 1
    · rw [bases_ok (by decide +kernel)]
      congr 1
  · refine ⟨_, rfl, ?_, ?_⟩
    · rw [sorts_ok (by decide +kernel)]
      congr 1
    · rw [bases_ok (by decide +kernel)]
      congr 1
  · refine ⟨_, rfl, ?_, ?_⟩
    · rw [sorts_ok (by decide +kernel)]
      congr 1
    · rw [bases_ok (by decide +kernel)]
      congr 1
  · refine ⟨_, rfl, ?_, ?_⟩
    · rw [sorts_ok (by decide +kernel)]
      congr 1
    · rw [bases_ok (by decide +kernel)]
      congr 1
  · refine ⟨_, rfl, ?_, ?_⟩
    · rw [sorts_ok (by decide +kernel)]
      congr 1
    · rw [bases_ok (by decide +kernel)]
      congr 1
  · refine ⟨_, rfl, ?_, ?_⟩
    · rw [sorts_ok (by decide +kernel)]
      congr 1
    · rw [bases_ok (by decide +kernel)]
      congr 1
  · refine ⟨_, rfl, ?_, ?_⟩
    · rw [sorts_ok (by decide +kernel)]
      congr 1
    · rw [bases_ok (by decide +kernel)]
      congr 1
  · refine ⟨_, rfl, ?_, ?_⟩
    · rw [sorts_ok (by decide +kernel)]
      congr 1
    · rw [bases_ok (by decide +kernel)]
      congr 1
  · refine ⟨_, rfl, ?_, ?_⟩
    · rw [sorts_ok (by decide +kernel)]
      congr 1
    · rw [bases_ok (by decide +kernel)]
      congr 1
theorem given_ok (d : D) (S : Store) : F__law_given [d] S = .ok (.lst [.lst (FL d), .lst (FL d)]) S := by
  unfold F__law_given bf__law_given
  simp
  rfl
def gvN : List Int := [0, 1, 2, 3, 4, 5, 6, 7, 8, 13]
def ixN : List Int := [9, 10, 11, 12, 14]
theorem c_some {d : D} {cs : List Str} {f : Str} {is : List Int} (hi : ∀ i ∈ is, ∀ S, (pIx (.lst (FL d)) (.int i) S).bind (fun e => pErr cs f e S) = some d) (hl : is.length ≤ 100) (S : Store) : ∀ (l : L), l.length = 5 → l[0]? = some (some (.lst (FL d))) → cGo (gN 4) tYesF (mUn (pErr cs f) (mBin pIx (eLoc 0) (eLoc 4))) [] l (is.map D.int) 0 S = some (is.map fun _ => d, S) := fun l hl' h0 =>
    cGo_map (en := fun i : Int => D.int i) (f := fun _ => d) (fun i h1 => by
      have g0 : (l.set 4 (some (D.int i)))[0]? = some (some (.lst (FL d))) := by rw [List.getElem?_set_ne (by decide)]; exact h0
      have g4 : (l.set 4 (some (D.int i)))[4]? = some (some (D.int i)) := List.getElem?_set_self (by omega)
      have h2 := hi i h1 S
      cases h3 : pIx (.lst (FL d)) (.int i) S with
      | none => rw [h3] at h2; cases h2
      | some e =>
        rw [h3] at h2
        have h2 : pErr cs f e S = some d := h2
        simp [cStep, g0, g4, h3, h2]) (by rw [sizeLine_eq]; omega) trivial
theorem kept_ok {d : D} (hd : Nice 1 4000 d) (S : Store) : F__law_kept_right [.lst (FL d), d] S = .ok (.bl true) S := by
  have c1 := c_some (d := d) (cs := ["InvalidText", "InvalidNumber", "InvalidAbsence", "InvalidHour", "InvalidTable", "InvalidName", "InvalidClaim", "InvalidPlace", "NotAPlan", "UnknownName"]) (f := "given") (is := [0, 1, 2, 3, 4, 5, 6, 7, 8, 13]) (fun i h S => by
    simp at h
    rcases h with rfl | rfl | rfl | rfl | rfl | rfl | rfl | rfl | rfl | rfl <;> simp [FL]) (by decide) S
  have c2 := c_some (d := d) (cs := ["InvalidSubjects", "InvalidHours", "InvalidKinds", "InvalidOffers", "InUse", "Broken"]) (f := "index") (is := [9, 10, 11, 12, 14]) (fun i h S => by
    simp at h
    rcases h with rfl | rfl | rfl | rfl | rfl <;> simp [FL]) (by decide) S
  have c3 := c_some (d := d) (cs := ["TooMany"]) (f := "most") (is := [16]) (fun i h S => by
    simp at h
    subst h
    simp [FL]) (by decide) S
  have n16 : Nice 2 70000 (.lst (List.replicate 16 d)) := (nice_lst (n := 1) (B := 4000) (xs := List.replicate 16 d) (fun x hx => by rw [List.eq_of_mem_replicate hx]; exact hd) 16 (by simp)).mono (by decide) (by decide)
  have n7 : Nice 0 4000 (.int 7) := (nice_num ⟨by decide, by decide⟩).mono (by decide) (by decide)
  have n2 : Nice 2 70000 (.lst [d, .int 7]) := (nice_lst (n := 1) (B := 4000) (xs := [d, .int 7]) (fun x hx => by
    simp at hx
    rcases hx with rfl | rfl
    · exact hd
    · exact n7.mono (by decide) (by decide)) 2 (by simp)).mono (by decide) (by decide)
  have r1 := fun T => n16.reprE (by decide) (by decide) T
  have r2 := fun T => n2.reprE (by decide) (by decide) T
  have s1 := pEq_same (strOk_repr 2 n16.1)
  have s2 := pEq_same (strOk_repr 2 n2.1)
  have e18 : (FL d)[18]? = some (.err "Broken" ["index", "shown"] [d, .int 7]) := rfl
  simp only [List.map_cons, List.map_nil] at c1 c2 c3
  simp only [List.replicate_succ, List.replicate_zero] at r1 s1
  unfold F__law_kept_right bf__law_kept_right
  have hm : ∀ T, pMul (.lst [d]) (.int 16) T = some (.lst [d, d, d, d, d, d, d, d, d, d, d, d, d, d, d, d]) := fun T => rfl
  have lk : List.lookup (Str.ofString "shown") [(Str.ofString "index", d), (Str.ofString "shown", D.int 7)] = some (.int 7) := rfl
  simp [c1, c2, c3, e18, r1, r2, s1, s2, hm, lk]
theorem raised_ok {d : D} (hd : Nice 1 4000 d) (S : Store) : F__law_raised_right [d] S = .ok (.bl true) S := by
  have r1 := fun T => hd.reprE (by decide) (by decide) T
  have s1 := strOk_repr 1 hd.1
  generalize hz : (encD d).shown = z at r1 s1
  have hl : ∀ T, pEq (.loc S.length) (.lst [.str z, .str z, .str z]) (S ++ Ob.lst [.str z, .str z, .str z] :: T) = some (.bl true) := fun T => by
    have e1 : toPyS (.loc S.length) (S ++ Ob.lst [.str z, .str z, .str z] :: T) = toPyS (.lst [.str z, .str z, .str z]) (S ++ Ob.lst [.str z, .str z, .str z] :: T) := by
      unfold toPyS
      simp
      rfl
    have hd : dok 1 (.lst [.str z, .str z, .str z]) = true := by simp [s1]
    have e2 := pEq_dok 1 1 (S ++ Ob.lst [.str z, .str z, .str z] :: T) hd hd (by decide) (by decide)
    rw [eqv_refl (dok_py hd).2.1] at e2
    unfold pEq at e2 ⊢
    rw [e1]
    exact e2
  have hm : ∀ T, pMul (.lst [.str z]) (.int 3) T = some (.lst [.str z, .str z, .str z]) := fun T => rfl
  unfold F__law_raised_right bf__law_raised_right
  simp [r1]
  rw [hRun_yes (i := 2) rfl (by simp)]
  simp [r1]
  rw [hRun_yes (i := 2) rfl (by simp)]
  simp [r1]
  rw [hRun_yes (i := 2) rfl (by simp)]
  simp [r1, hm, hl]
  exact fin_true (by simp) (fun i hi => List.getElem?_append_left hi) (frz_flat rfl)
theorem right_ok {d : D} (hd : Nice 1 4000 d) (S : Store) : F__law_right [d] S = .ok (.bl true) S := by
  unfold F__law_right bf__law_right
  simp [given_ok]
  generalize hf : forGo _ _ _ _ _ _ = r
  obtain ⟨l', rfl, o1, o2, o3, o4, rfl⟩ : ∃ l', r = .nx l' S ∧ ∃ o1 o2 o3 o4 : Option D, l' = [some d, o1, o2, o3, o4] := by
    rw [← hf]
    refine forGo_inv (en := fun i : D => i) (xs := [.lst (FL d), .lst (FL d)]) (fun _ l T => T = S ∧ ∃ o1 o2 o3 o4, l = [some d, o1, o2, o3, o4]) (fun r => ∃ l', r = .nx l' S ∧ ∃ o1 o2 o3 o4 : Option D, l' = [some d, o1, o2, o3, o4]) ?_ ?_ (zs := [.lst (FL d), .lst (FL d)]) (fun z h => h) ⟨rfl, _, _, _, _, rfl⟩
    · rintro l T ⟨rfl, o1, o2, o3, o4, rfl⟩
      exact ⟨trivial, _, rfl, _, _, _, _, rfl⟩
    · rintro x ys l T hx ⟨rfl, o1, o2, o3, o4, rfl⟩
      obtain rfl : x = .lst (FL d) := by simpa using hx
      refine ⟨trivial, _, rfl, ?_⟩
      have hlen : (FL d).length = 19 := rfl
      have c0 : ∀ k : Nat, ∀ (l : L), l.length = 5 → l[2]? = some (some (.int (k : Int))) → cGo (gN 4) tYesF (mBin pEq (eLoc 4) (eLoc 2)) [] l ((List.range 19).map fun i : Nat => D.int (i : Int)) 0 T = some (((List.range 19).map fun i => decide (i = k)).map D.bl, T) := fun k l hl h2 => by
        rw [List.map_map]
        refine cGo_map (en := fun i : Nat => D.int (i : Int)) (f := fun i => D.bl (decide (i = k))) (fun i _ => ?_) (by decide) trivial
        have g2 : (l.set 4 (some (D.int (i : Int))))[2]? = some (some (.int (k : Int))) := by rw [List.getElem?_set_ne (by decide)]; exact h2
        have g4 : (l.set 4 (some (D.int (i : Int))))[4]? = some (some (D.int (i : Int))) := List.getElem?_set_self (by omega)
        have e : decide ((i : Int) = (k : Int)) = decide (i = k) := by simp [Int.ofNat_inj]
        simp [cStep, g2, g4, e]
      simp [hlen, rg1_int (show (0 : Int) ≤ 19 by decide) (show (19 : Int) < 4611686018427387904 by decide)]
      generalize hg : forGo _ _ _ _ _ _ = r
      obtain ⟨l', rfl, o2, o3, o4, rfl⟩ : ∃ l', r = .nx l' T ∧ ∃ o2 o3 o4, l' = [some d, some (.lst (FL d)), o2, o3, o4] := by
        rw [← hg]
        refine forGo_inv (en := fun i : Nat => D.int (i : Int)) (xs := List.range 19) (fun _ l S => S = T ∧ ∃ o2 o3 o4, l = [some d, some (.lst (FL d)), o2, o3, o4]) (fun r => ∃ l', r = .nx l' T ∧ ∃ o2 o3 o4, l' = [some d, some (.lst (FL d)), o2, o3, o4]) ?_ ?_ (zs := List.range 19) (fun z h => h) ⟨rfl, _, _, _, rfl⟩
        · rintro l S ⟨rfl, o2, o3, o4, rfl⟩
          exact ⟨trivial, _, rfl, _, _, _, rfl⟩
        · rintro k ys l S hk ⟨rfl, o2, o3, o4, rfl⟩
          rw [List.mem_range] at hk
          obtain ⟨e, h1, h2, h3⟩ := step_ok d hk S
          refine ⟨trivial, _, rfl, ?_⟩
          have h4 := due_ok hk S
          have n1 := ne_lb ((List.range 19).map fun i => decide (i = k)) S
          have n2 := ne_lb (brow k) S
          have c1 := c0 k [some d, some (.lst (FL d)), some (.int (k : Int)), o3, none] rfl rfl
          unfold lbD at h2 h3 h4 n1 n2
          simp [hlen, rg1_int (show (0 : Int) ≤ 19 by decide) (show (19 : Int) < 4611686018427387904 by decide), h1, h2, h3, h4, n1, n2, c1, -List.map_map]
      simp [kept_ok hd]
  simp [raised_ok hd]
theorem law_ok (ns : List Int) (hn : ns.length ≤ 63) : ∃ S, F_law [cellsD ns] (tsL.map Ob.tab) = .ok (.bl true) S := by
  have h1 : ∀ T, pPow (.int 10) (.int 30) T = some (.int 1000000000000000000000000000000) := fun T => by
    have : CPow 10 30 := by decide
    simp [this]
  have h2 : ∀ T, pPow (.int 10) (.int 12) T = some (.int 1000000000000) := fun T => by
    have : CPow 10 12 := by decide
    simp [this]
  have h3 : ∀ T, pNe (.lst [.int 4, .int 3, .int 9, .int 5, .int 1000000000000000000000000000000, .int 3, .int 6, .int 3, .int 6, .int 1000]) (.lst [.int 4, .int 3, .int 9, .int 5, .int 1000000000000000000000000000000, .int 3, .int 6, .int 3, .int 6, .int 1000]) T = some (.bl false) := fun T => by
    have hd : dok 1 (.lst [.int 4, .int 3, .int 9, .int 5, .int 1000000000000000000000000000000, .int 3, .int 6, .int 3, .int 6, .int 1000]) = true := rfl
    rw [pNe_dok 1 1 T hd hd (by decide) (by decide), eqv_refl (dok_py hd).2.1]
    rfl
  generalize tsL.map Ob.tab = S0
  have hc : ∀ l : L, l.length = 5 → cGo (gN 3) tYesF (mBin pMod (mCall pInt (aCons (eLoc 3) (aNil))) (mBin pPow (eCon (.int 10)) (eCon (.int 12)))) [] l (List.take 3 (ns.map D.int)) 0 S0 = some ((ns.take 3).map fun x => D.int (x % 1000000000000), S0) := fun l hl => by
    rw [← List.map_take]
    refine cMap (en := D.int) (f := fun x => D.int (x % 1000000000000)) (fun x _ => ?_) (by simp; omega)
    have g3 : (l.set 3 (some (D.int x)))[3]? = some (some (D.int x)) := List.getElem?_set_self (by omega)
    simp [cStep, g3, h2]
  have nx : ∀ d ∈ [D.non, .str "a", .tup [.int 1, .str "x"], .bl true, .int (-3)] ++ (ns.take 3).map fun x => D.int (x % 1000000000000), Nice 1 4000 d := fun d hd => by
    rcases List.mem_append.mp hd with hd | hd
    · simp only [List.mem_cons, List.not_mem_nil, or_false] at hd
      rcases hd with rfl | rfl | rfl | rfl | rfl
      · exact nice_non.mono (by decide) (by decide)
      · exact (nice_str (x := "a") (by decide +kernel) (by decide +kernel)).mono (by decide) (by decide)
      · refine (nice_tup (n := 0) (B := 1921) (xs := [.int 1, .str "x"]) (fun x hx => ?_) 2 (by simp)).mono (by decide) (by decide)
        simp only [List.mem_cons, List.not_mem_nil, or_false] at hx
        rcases hx with rfl | rfl
        · exact nice_num ⟨by decide, by decide⟩
        · exact nice_str (by decide +kernel) (by decide +kernel)
      · exact ⟨rfl, by decide +kernel, by decide +kernel⟩
      · exact ⟨rfl, by decide +kernel, by decide +kernel⟩
    · obtain ⟨x, _, rfl⟩ := List.mem_map.mp hd
      exact (nice_num ⟨by omega, by omega⟩).mono (by decide) (by decide)
  have hl : ([D.non, .str "a", .tup [.int 1, .str "x"], .bl true, .int (-3)] ++ (ns.take 3).map fun x => D.int (x % 1000000000000)).length ≤ 100 := by simp; omega
  generalize hx : [D.non, .str "a", .tup [.int 1, .str "x"], .bl true, .int (-3)] ++ (ns.take 3).map (fun x => D.int (x % 1000000000000)) = xs at nx hl
  have hf : ∀ l : L, l.length = 5 → cGo (gN 4) (mNot (asB (eCalln 1 F__law_right (aCons (eLoc 4) (aNil))))) (eLoc 4) [] l xs 0 S0 = some ([], S0) := fun l hl' => by
    have := cFil (en := fun d : D => d) (f := fun d => d) (p := fun _ => false) (g := gN 4) (t := mNot (asB (eCalln 1 F__law_right (aCons (eLoc 4) (aNil))))) (e := eLoc 4) (l := l) (S := S0) (xs := xs) (fun d hd => by
      have g4 : (l.set 4 (some d))[4]? = some (some d) := List.getElem?_set_self (by omega)
      simp [cStep, g4, right_ok (nx d hd)]) (by omega)
    rw [List.map_id'] at this
    exact this.trans (by simp)
  have hx2 : (D.non :: D.str (Str.ofString "a") :: D.tup [D.int 1, D.str (Str.ofString "x")] :: D.bl true :: D.int (-3) :: List.take 3 (List.map (fun x => D.int (x % 1000000000000)) ns)) = xs := by
    rw [← hx, ← List.map_take]
    rfl
  have hle : 5 + min 3 ns.length ≤ 16777216 := by omega
  unfold F_law bf_law cellsD
  simp [h1, h2, h3, hc, hle, hx2, hf]
end HL
theorem PySem.Challenge.cw_heldlessons_k01_limits_and_errors_holds : PySem.Challenge.rw_heldlessons_k01_limits_and_errors.Holds := by
  exact HL.holds_of HL.law_ok
