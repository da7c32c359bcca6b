import PyProof.Rows.All
import Wide.All
import OpenK.AllK
import Wide.FinOn
import HandS.ForMost
import HandS.ForExc
import HandS.Deep
import HandS.ExcCtx
import HandS.Wide
import HandS.IsInst
import HandS.Style
import HandS.TupAny
import HandS.TupMul
import HandS.Gcd
import KE.SortData
import HandS.Zip
import HandS.GenList
import HandS.AnyAll
import HandS.EndTab
import HandS.SetFor
import HandS.TryOnly
import HandS.Rev
import PyProof.ListNew
import HandS.Iter
import HandS.Star
import KE.GoesEnum
import KE.GoesMore
import HandS.Conv
import KE.KeyNested
import HandS.Dict
import HandS.WordsDict
import KE.DataMinMax
import HandS.HotCalls
import HandS.ExcIs
import KE.KMathG
import Flt.RightSqrt
import PySem.Challenge.RW_coastlit_k84_whole_horizons
set_option Elab.async false
set_option linter.all false
set_option maxRecDepth 100000
set_option autoImplicit false
/-! The plain layer: data D, what represents it in the abstract heap, environments of data, readings by functions on data. -/
namespace PL
open PySem PySem.Spec PyProof.Rows L2

abbrev D := PyData

/-- a list that never changes again: locked, or written -/
def FzL (K : PySem.W.Frag) (H : Hp) (a : Addr) (xs : List V) : Prop :=
  (∃ o, H a = some (.frz o (.lst xs))) ∨
    ∃ (o : Obj) (its : Array Value) (n : Nat), K.lookup a = some o ∧ o.cls = .type "list" ∧ o.dict = none ∧ o.data = .seq its n ∧ its.size ≤ sizeLine ∧ Vals xs its.toList
theorem FzL.sq {K : PySem.W.Frag} {H : Hp} {a : Addr} {xs : List V} (h : FzL K H a xs) : SqL K H a xs := by
  rcases h with h | h
  · exact .inl (.inr h)
  · exact .inr h

/-- tuples and locked things stay -/
structure Ext (H H' : Hp) : Prop where
  tup : ∀ b xs, H b = some (.tup xs) → H' b = some (.tup xs)
  frz : ∀ b o u, H b = some (.frz o u) → H' b = some (.frz o u)
theorem Ext.refl (H : Hp) : Ext H H := ⟨fun _ _ h => h, fun _ _ _ h => h⟩
theorem Ext.trans {H H1 H2 : Hp} (a : Ext H H1) (b : Ext H1 H2) : Ext H H2 := ⟨fun c xs h => b.tup c xs (a.tup c xs h), fun c o u h => b.frz c o u (a.frz c o u h)⟩
theorem Ext.same {H H' : Hp} (s : Same H H') : Ext H H' := ⟨fun b xs h => s b _ h, fun b o u h => s b _ h⟩
theorem same_upd {H : Hp} {p : Addr} {o : HO} (h : H p = none) : Same H (upd H p o) := fun b u q => by
  rw [upd_ne (ne_of_none q h)]; exact q
theorem Ext.new {H : Hp} {p : Addr} {o : HO} (h : H p = none) : Ext H (upd H p o) := Ext.same (same_upd h)
/-- a list written over -/
theorem Ext.wr {H : Hp} {p : Addr} {xs : List V} {o : HO} (h : H p = some (.lst xs)) : Ext H (upd H p o) :=
  ⟨fun b ys q => by rw [upd_ne (ne_of q h (by intro z; cases z))]; exact q, fun b ob u q => by rw [upd_ne (ne_of q h (by intro z; cases z))]; exact q⟩
theorem FzL.mono {K : PySem.W.Frag} {H H' : Hp} {a : Addr} {xs : List V} (e : Ext H H') (h : FzL K H a xs) : FzL K H' a xs := by
  rcases h with ⟨o, h⟩ | h
  · exact .inl ⟨o, e.frz _ _ _ h⟩
  · exact .inr h
theorem sqT_mono {K : PySem.W.Frag} {H H' : Hp} {a : Addr} {xs : List V} (e : Ext H H') (h : SqT K H a xs) : SqT K H' a xs := by
  rcases h with (h | ⟨o, h⟩) | h
  · exact .inl (.inl (e.tup _ _ h))
  · exact .inl (.inr ⟨o, e.frz _ _ _ h⟩)
  · exact .inr h

mutual
/-- v stands for the datum d; all that it reads stays for ever -/
inductive Rep (K : PySem.W.Frag) (H : Hp) : V → D → Prop
  | non : Rep K H .non .none
  | bl (b : Bool) : Rep K H (.bl b) (.bool b)
  | int (i : Int) : Rep K H (.int i) (.int i)
  | str (x : Str) : Rep K H (.str x) (.str x)
  | lst {a : Addr} {xs : List V} {ds : List D} : FzL K H a xs → RepAll K H xs ds → Rep K H (.ref a) (.list ds)
  | tup {a : Addr} {xs : List V} {ds : List D} : SqT K H a xs → RepAll K H xs ds → Rep K H (.ref a) (.tuple ds)
inductive RepAll (K : PySem.W.Frag) (H : Hp) : List V → List D → Prop
  | nil : RepAll K H [] []
  | cons {v : V} {vs : List V} {d : D} {ds : List D} : Rep K H v d → RepAll K H vs ds → RepAll K H (v :: vs) (d :: ds)
end

section
variable {K : PySem.W.Frag} {H H' : Hp}
mutual
theorem Rep.mono (e : Ext H H') : ∀ (d : D) (v : V), Rep K H v d → Rep K H' v d
  | .none, _, h => by cases h; exact .non
  | .bool _, _, h => by cases h; exact .bl _
  | .int _, _, h => by cases h; exact .int _
  | .str _, _, h => by cases h; exact .str _
  | .list ds, _, h => by
    cases h with
    | lst q r => exact .lst (q.mono e) (RepAll.mono e ds _ r)
  | .tuple ds, _, h => by
    cases h with
    | tup q r => exact .tup (sqT_mono e q) (RepAll.mono e ds _ r)
  | .dict _, _, h => by cases h
theorem RepAll.mono (e : Ext H H') : ∀ (ds : List D) (vs : List V), RepAll K H vs ds → RepAll K H' vs ds
  | [], _, h => by cases h; exact .nil
  | d :: ds, _, h => by
    cases h with
    | cons q r => exact .cons (Rep.mono e d _ q) (RepAll.mono e ds _ r)
end
mutual
theorem Rep.dp : ∀ (d : D) (v : V), Rep K H v d → Dp K H v d
  | .none, _, h => by cases h; exact .non
  | .bool _, _, h => by cases h; exact .bl _
  | .int _, _, h => by cases h; exact .int _
  | .str _, _, h => by cases h; exact .str _
  | .list ds, _, h => by
    cases h with
    | lst q r => exact .lst q.sq (RepAll.dp ds _ r)
  | .tuple ds, _, h => by
    cases h with
    | tup q r => exact .tup q (RepAll.dp ds _ r)
  | .dict _, _, h => by cases h
theorem RepAll.dp : ∀ (ds : List D) (vs : List V), RepAll K H vs ds → DpAll K H vs ds
  | [], _, h => by cases h; exact .nil
  | d :: ds, _, h => by
    cases h with
    | cons q r => exact .cons (Rep.dp d _ q) (RepAll.dp ds _ r)
end
theorem Rep.ext {v : V} {d : D} (h : Rep K H v d) (e : Ext H H') : Rep K H' v d := Rep.mono e d v h
theorem RepAll.ext {vs : List V} {ds : List D} (h : RepAll K H vs ds) (e : Ext H H') : RepAll K H' vs ds := RepAll.mono e ds vs h
theorem RepAll.length : ∀ {vs : List V} {ds : List D}, RepAll K H vs ds → vs.length = ds.length
  | _, _, .nil => rfl
  | _, _, .cons _ r => congrArg (· + 1) r.length
theorem RepAll.app : ∀ {vs ws : List V} {ds es : List D}, RepAll K H vs ds → RepAll K H ws es → RepAll K H (vs ++ ws) (ds ++ es)
  | _, _, _, _, .nil, s => s
  | _, _, _, _, .cons q r, s => .cons q (r.app s)
theorem RepAll.get : ∀ {vs : List V} {ds : List D} {i : Nat} {d : D}, RepAll K H vs ds → ds[i]? = some d → ∃ v, vs[i]? = some v ∧ Rep K H v d
  | _, _, _, _, .nil, e => by simp at e
  | _, _, 0, _, .cons q _, e => by simp at e; subst e; exact ⟨_, rfl, q⟩
  | _, _, i + 1, d, .cons _ r, e => by
    obtain ⟨v, h1, h2⟩ := r.get (i := i) (d := d) (by simpa using e)
    exact ⟨v, by simpa using h1, h2⟩
theorem RepAll.set {v : V} {d : D} (q : Rep K H v d) : ∀ {vs : List V} {ds : List D} (i : Nat), RepAll K H vs ds → RepAll K H (vs.set i v) (ds.set i d)
  | _, _, _, .nil => .nil
  | _, _, 0, .cons _ r => .cons q r
  | _, _, i + 1, .cons p r => .cons p (RepAll.set q i r)
theorem RepAll.take : ∀ {vs : List V} {ds : List D} (n : Nat), RepAll K H vs ds → RepAll K H (vs.take n) (ds.take n)
  | _, _, 0, _ => by simp only [List.take_zero]; exact .nil
  | _, _, _ + 1, .nil => .nil
  | _, _, n + 1, .cons q r => .cons q (r.take n)
theorem RepAll.drop : ∀ {vs : List V} {ds : List D} (n : Nat), RepAll K H vs ds → RepAll K H (vs.drop n) (ds.drop n)
  | _, _, 0, r => r
  | _, _, _ + 1, .nil => .nil
  | _, _, n + 1, .cons _ r => r.drop n
theorem RepAll.rev : ∀ {vs : List V} {ds : List D}, RepAll K H vs ds → RepAll K H vs.reverse ds.reverse
  | _, _, .nil => .nil
  | _, _, .cons q r => by
    rw [List.reverse_cons, List.reverse_cons]
    exact r.rev.app (.cons q .nil)
theorem RepAll.erase : ∀ {vs : List V} {ds : List D} (i : Nat), RepAll K H vs ds → RepAll K H (vs.eraseIdx i) (ds.eraseIdx i)
  | _, _, _, .nil => .nil
  | _, _, 0, .cons _ r => r
  | _, _, i + 1, .cons q r => .cons q (r.erase i)
end

/-! ### dicts -/
/-- a key that is a whole number or a text -/
def keyD : D → Option L2.Key
  | .int i => some (.inl i)
  | .str x => some (.inr x)
  | _ => none
inductive RepKs (K : PySem.W.Frag) (H : Hp) : List (L2.Key × V) → List (D × D) → Prop
  | nil : RepKs K H [] []
  | cons {k : L2.Key} {v : V} {ks : List (L2.Key × V)} {kd d : D} {ds : List (D × D)} : keyD kd = some k → Rep K H v d → RepKs K H ks ds → RepKs K H ((k, v) :: ks) ((kd, d) :: ds)
theorem RepKs.ext {K : PySem.W.Frag} {H H' : Hp} (e : Ext H H') : ∀ {ks : List (L2.Key × V)} {ds : List (D × D)}, RepKs K H ks ds → RepKs K H' ks ds
  | _, _, .nil => .nil
  | _, _, .cons q r s => .cons q (r.ext e) (s.ext e)
theorem RepKs.length {K : PySem.W.Frag} {H : Hp} : ∀ {ks : List (L2.Key × V)} {ds : List (D × D)}, RepKs K H ks ds → ks.length = ds.length
  | _, _, .nil => rfl
  | _, _, .cons _ _ s => congrArg (· + 1) s.length
/-- the object o is the dict kvs -/
inductive RepD (K : PySem.W.Frag) (H : Hp) : HO → List (D × D) → Prop
  | dk {ks : List (L2.Key × V)} {kvs : List (D × D)} : RepKs K H ks kvs → RepD K H (.dK ks) kvs
theorem RepD.ext {K : PySem.W.Frag} {H H' : Hp} {o : HO} {kvs : List (D × D)} (e : Ext H H') (r : RepD K H o kvs) : RepD K H' o kvs := by
  cases r with
  | dk r => exact .dk (r.ext e)
def IsDic : HO → Prop
  | .dK _ => True
  | .dT _ => True
  | .ext _ => True
  | _ => False
theorem RepD.isDic {K : PySem.W.Frag} {H : Hp} {o : HO} {kvs : List (D × D)} (r : RepD K H o kvs) : IsDic o := by
  cases r with
  | dk r => exact True.intro
theorem IsDic.nlst {o : HO} (h : IsDic o) (xs : List V) : o ≠ .lst xs := fun z => by subst z; exact h
theorem IsDic.ntbl {o : HO} (h : IsDic o) (ps : Array Value) : o ≠ .tbl ps := fun z => by subst z; exact h
/-! ### environments -/
inductive Cell where
  /-- nothing is said -/
  | emp
  /-- a datum, for ever -/
  | val (d : D)
  /-- a list of this name's own -/
  | own (ds : List D)
  /-- the caller's list, lent -/
  | tap (ds : List D)
  /-- a dict of this name's own: locked for the moment or not; its keys and values, in order -/
  | dic (lk : Bool) (kvs : List (D × D))
abbrev DEnv := List Cell
inductive R (α : Type) where
  | ok (a : α) (σ : DEnv)
  | exc (c : Nat) (σ : DEnv)
  | bad
@[simp] def R.bind {α β : Type} (x : R α) (f : α → DEnv → R β) : R β := match x with
  | .ok a σ => f a σ
  | .exc c σ => .exc c σ
  | .bad => .bad
/-- a partial value -/
@[simp] def lift {α : Type} (o : Option α) (σ : DEnv) : R α := match o with
  | some a => .ok a σ
  | none => .bad
inductive O where
  | nx (σ : DEnv)
  | ret (d : D) (σ : DEnv)
  /-- a new list, handed over -/
  | retF (ds : List D) (σ : DEnv)
  | brk (σ : DEnv)
  | cnt (σ : DEnv)
  | exc (c : Nat) (σ : DEnv)
  | bad
/-- then -/
@[simp] def O.seq (x : O) (f : DEnv → O) : O := match x with
  | .nx σ => f σ
  | .ret d σ => .ret d σ
  | .retF d σ => .retF d σ
  | .brk σ => .brk σ
  | .cnt σ => .cnt σ
  | .exc c σ => .exc c σ
  | .bad => .bad
@[simp] def R.thn {α : Type} (x : R α) (f : α → DEnv → O) : O := match x with
  | .ok a σ => f a σ
  | .exc c σ => .exc c σ
  | .bad => .bad

/-- what is fixed through a def's run: the written part, the heap at the entry, the lent list, the code objects' tables, the classes of exceptions, what is wanted of one that leaves -/
structure Mx where
  K : PySem.W.Frag
  H0 : Hp
  tape : Option Addr
  tabs : List Addr
  cls : Nat → Addr
  W : Nat → DEnv → Prop

/-- a code object's table that stands -/
def TabG (H : Hp) (P : Addr) : Prop := ∃ ps : Array Value, H P = some (.tbl ps) ∧ TriplesOk ps.toList
/-- what stood stays; a table may have grown -/
def Kept (o : HO) (x : Option HO) : Prop := x = some o ∨ ∃ ps more : Array Value, o = .tbl ps ∧ x = some (.tbl (ps ++ more))
theorem Kept.trans {o : HO} {H1 H2 : Hp} {b : Addr} (h : Kept o (H1 b)) (k : ∀ o', H1 b = some o' → Kept o' (H2 b)) : Kept o (H2 b) := by
  rcases h with h | ⟨ps, m, rfl, h⟩
  · exact k _ h
  · rcases k _ h with q | ⟨ps', m', e, q⟩
    · exact .inr ⟨ps, m, rfl, q⟩
    · cases e
      exact .inr ⟨ps, m ++ m', rfl, by rw [q, Array.append_assoc]⟩

/-- locked or not -/
def LkO (lk : Bool) (o u : HO) : Prop := if lk = true then ∃ od, u = .frz od o else u = o
/-- the dicts of σd -/
structure DicAt (K : PySem.W.Frag) (H0 : Hp) (σd : DEnv) (σ : L2.St) (H : Hp) : Prop where
  gt : ∀ (i : Nat) (lk : Bool) (kvs : List (D × D)), σd[i]? = some (.dic lk kvs) → ∃ p o u, σ[i]? = some (some (.ref p)) ∧ H p = some u ∧ LkO lk o u ∧ RepD K H o kvs ∧ H0 p = none
  dj : ∀ (i j : Nat) (l m : Bool) (a b : List (D × D)) (p : Addr), σd[i]? = some (.dic l a) → σd[j]? = some (.dic m b) → σ[i]? = some (some (.ref p)) → σ[j]? = some (some (.ref p)) → i = j
theorem LkO.keep {H H' : Hp} {lk : Bool} {o u : HO} {p : Addr} (h : LkO lk o u) (io : IsDic o) (hp : H p = some u) (ex : Ext H H') (kp : ∀ b o, H b = some o → IsDic o → H' b = some o) : H' p = some u := by
  unfold LkO at h
  split at h
  · obtain ⟨od, rfl⟩ := h
    exact ex.frz _ _ _ hp
  · subst h
    exact kp _ _ hp io
theorem LkO.nlst {lk : Bool} {o u : HO} (h : LkO lk o u) (io : IsDic o) (xs : List V) : u ≠ .lst xs := by
  unfold LkO at h
  split at h
  · obtain ⟨od, rfl⟩ := h
    intro z; cases z
  · subst h
    exact io.nlst xs
theorem DicAt.mono {K : PySem.W.Frag} {H0 H H' : Hp} {σd : DEnv} {σ : L2.St} (d : DicAt K H0 σd σ H) (ex : Ext H H') (kp : ∀ b o, H b = some o → IsDic o → H' b = some o) : DicAt K H0 σd σ H' :=
  ⟨fun i lk kvs e => let ⟨p, o, u, h1, h2, h3, h4, h5⟩ := d.gt i lk kvs e; ⟨p, o, u, h1, h3.keep h4.isDic h2 ex kp, h3, h4.ext ex, h5⟩, d.dj⟩
theorem DicAt.wr {K : PySem.W.Frag} {H0 H : Hp} {σd : DEnv} {σ : L2.St} {p : Addr} {xs : List V} {o : HO} (d : DicAt K H0 σd σ H) (h : H p = some (.lst xs)) : DicAt K H0 σd σ (upd H p o) :=
  d.mono (Ext.wr h) fun b u q iu => by rw [upd_ne (ne_of q h (iu.nlst xs))]; exact q
theorem DicAt.sub {K : PySem.W.Frag} {H0 H : Hp} {σd σd' : DEnv} {σ σ' : L2.St} (d : DicAt K H0 σd σ H) (k : ∀ (i : Nat) (lk : Bool) (kvs : List (D × D)), σd'[i]? = some (Cell.dic lk kvs) → σd[i]? = some (Cell.dic lk kvs) ∧ σ'[i]? = σ[i]?) : DicAt K H0 σd' σ' H :=
  ⟨fun i lk kvs e => by
    obtain ⟨e1, e2⟩ := k i lk kvs e
    rw [e2]
    exact d.gt i lk kvs e1, fun i j l m a b p e1 e2 e3 e4 => by
    obtain ⟨g1, g2⟩ := k i l a e1
    obtain ⟨g3, g4⟩ := k j m b e2
    rw [g2] at e3
    rw [g4] at e4
    exact d.dj i j l m a b p g1 g3 e3 e4⟩
theorem getset' {α : Type} {l : List α} {i j : Nat} {x y : α} (h : (l.set i x)[j]? = some y) : (i = j ∧ x = y) ∨ (i ≠ j ∧ l[j]? = some y) := by
  by_cases e : i = j
  · subst e
    rw [List.getElem?_set] at h
    simp only [if_true] at h
    split at h
    · exact .inl ⟨rfl, Option.some.inj h⟩
    · cases h
  · rw [List.getElem?_set_ne e] at h
    exact .inr ⟨e, h⟩
theorem DicAt.set {K : PySem.W.Frag} {H0 H : Hp} {σd : DEnv} {σ : L2.St} {i : Nat} {c : Cell} (d : DicAt K H0 σd σ H) (hc : ∀ l k, c ≠ .dic l k) : DicAt K H0 (σd.set i c) σ H :=
  d.sub fun j lk kvs e => by
    rcases getset' e with ⟨_, z⟩ | ⟨_, z⟩
    · exact absurd z (hc lk kvs)
    · exact ⟨z, rfl⟩
theorem DicAt.setS {K : PySem.W.Frag} {H0 H : Hp} {σd : DEnv} {σ : L2.St} {i : Nat} {c : Cell} {v : Option V} (d : DicAt K H0 σd σ H) (hc : ∀ l k, c ≠ .dic l k) : DicAt K H0 (σd.set i c) (σ.set i v) H :=
  d.sub fun j lk kvs e => by
    rcases getset' e with ⟨_, z⟩ | ⟨ne, z⟩
    · exact absurd z (hc lk kvs)
    · exact ⟨z, List.getElem?_set_ne ne⟩
theorem DicAt.no {K : PySem.W.Frag} {H0 H : Hp} {σd : DEnv} {σ : L2.St} (h : ∀ (i : Nat) (l : Bool) (k : List (D × D)), σd[i]? ≠ some (Cell.dic l k)) : DicAt K H0 σd σ H :=
  ⟨fun i l k e => absurd e (h i l k), fun i _ l _ a _ _ e _ _ _ => absurd e (h i l a)⟩
theorem DicAt.h0 {K : PySem.W.Frag} {H0 H0' H : Hp} {σd : DEnv} {σ : L2.St} (d : DicAt K H0 σd σ H) (k : ∀ p u, H p = some u → (∀ xs, u ≠ .lst xs) → H0 p = none → H0' p = none) : DicAt K H0' σd σ H :=
  ⟨fun i lk kvs e => let ⟨p, o, u, h1, h2, h3, h4, h5⟩ := d.gt i lk kvs e; ⟨p, o, u, h1, h2, h3, h4, k p u h2 (fun xs => h3.nlst h4.isDic xs) h5⟩, d.dj⟩
/-- the environment σd stands at the slots σ in the heap H -/
structure Mt (M : Mx) (σd : DEnv) (σ : L2.St) (H : Hp) : Prop where
  len : σd.length = σ.length
  val : ∀ (i : Nat) (d : D), σd[i]? = some (.val d) → ∃ v, σ[i]? = some (some v) ∧ Rep M.K H v d
  own : ∀ (i : Nat) (ds : List D), σd[i]? = some (.own ds) → ∃ p xs, σ[i]? = some (some (.ref p)) ∧ H p = some (.lst xs) ∧ RepAll M.K H xs ds ∧ M.H0 p = none ∧ M.tape ≠ some p
  tap : ∀ (i : Nat) (ds : List D), σd[i]? = some (.tap ds) → ∃ p xs, σ[i]? = some (some (.ref p)) ∧ H p = some (.lst xs) ∧ RepAll M.K H xs ds ∧ M.tape = some p
  dj : ∀ (i j : Nat) (a b : List D) (p : Addr), σd[i]? = some (.own a) → σd[j]? = some (.own b) → σ[i]? = some (some (.ref p)) → σ[j]? = some (some (.ref p)) → i = j
  kept : ∀ b o, M.H0 b = some o → M.tape ≠ some b → Kept o (H b)
  tabs : ∀ P ∈ M.tabs, TabG H P
  tape : ∀ t, M.tape = some t → ∃ ds, σd[0]? = some (.tap ds)
  tapOne : ∀ (i j : Nat) (a b : List D), σd[i]? = some (.tap a) → σd[j]? = some (.tap b) → i = j
  dic : DicAt M.K M.H0 σd σ H

theorem Mt.same {M : Mx} {σd : DEnv} {σ : L2.St} {H H' : Hp} (m : Mt M σd σ H) (s : Same H H') : Mt M σd σ H' where
  len := m.len
  val := fun i d e => let ⟨v, h1, h2⟩ := m.val i d e; ⟨v, h1, h2.ext (Ext.same s)⟩
  own := fun i ds e => let ⟨p, xs, h1, h2, h3, h4⟩ := m.own i ds e; ⟨p, xs, h1, s _ _ h2, h3.ext (Ext.same s), h4⟩
  tap := fun i ds e => let ⟨p, xs, h1, h2, h3, h4⟩ := m.tap i ds e; ⟨p, xs, h1, s _ _ h2, h3.ext (Ext.same s), h4⟩
  dj := m.dj
  kept := fun b o h ht => (m.kept b o h ht).trans fun o' h' => .inl (s _ _ h')
  tabs := fun P hP => let ⟨ps, h, t⟩ := m.tabs P hP; ⟨ps, s _ _ h, t⟩
  tape := m.tape
  tapOne := m.tapOne
  dic := m.dic.mono (Ext.same s) fun b o q _ => s b o q

/-! ### the readings -/
def wpR {α : Type} (x : R α) (Q : α → DEnv → Prop) (W : Nat → DEnv → Prop) : Prop := match x with
  | .ok a σ => Q a σ
  | .exc c σ => W c σ
  | .bad => False
theorem wpR_bind {α β : Type} {x : R α} {f : α → DEnv → R β} {Q : β → DEnv → Prop} {W : Nat → DEnv → Prop} : wpR (x.bind f) Q W ↔ wpR x (fun a σ => wpR (f a σ) Q W) W := by
  cases x <;> exact Iff.rfl
theorem wpR_mono {α : Type} {x : R α} {Q Q' : α → DEnv → Prop} {W : Nat → DEnv → Prop} (h : wpR x Q W) (k : ∀ a σ, Q a σ → Q' a σ) : wpR x Q' W := by
  cases x with
  | ok a σ => exact k a σ h
  | exc c σ => exact h
  | bad => exact h
theorem wpR_lift {α : Type} {o : Option α} {σ : DEnv} {Q : α → DEnv → Prop} {W : Nat → DEnv → Prop} : wpR (lift o σ) Q W ↔ ∃ a, o = some a ∧ Q a σ := by
  cases o with
  | none => exact ⟨fun h => h.elim, fun ⟨_, h, _⟩ => by cases h⟩
  | some a => exact ⟨fun h => ⟨a, rfl, h⟩, fun ⟨b, h, q⟩ => by cases h; exact q⟩
/-- an expression: its datum -/
def tE (M : Mx) (f : DEnv → R D) : TE := fun σ H Q => ∃ σd, Mt M σd σ H ∧ wpR (f σd) (fun d σd' => ∀ v H', Ext H H' → Rep M.K H' v d → Mt M σd' σ H' → Q v H') M.W
/-- a test: its truth -/
def tT (M : Mx) (f : DEnv → R Bool) : TT := fun σ H Q => ∃ σd, Mt M σd σ H ∧ wpR (f σd) (fun d σd' => ∀ H', Ext H H' → Mt M σd' σ H' → Q d H') M.W
/-- arguments -/
def tA (M : Mx) (f : DEnv → R (List D)) : TA := fun σ H Q => ∃ σd, Mt M σd σ H ∧ wpR (f σd) (fun ds σd' => ∀ vs H', Ext H H' → RepAll M.K H' vs ds → Mt M σd' σ H' → Q vs H') M.W
/-- p is no list of a name's own -/
structure Fresh (M : Mx) (σd : DEnv) (σ : L2.St) (p : Addr) : Prop where
  ent : M.H0 p = none
  tap : M.tape ≠ some p
  own : ∀ (i : Nat) (ds : List D), σd[i]? = some (.own ds) → σ[i]? ≠ some (some (.ref p))
/-- an expression that makes a new list -/
def tF (M : Mx) (f : DEnv → R (List D)) : TE := fun σ H Q => ∃ σd, Mt M σd σ H ∧ wpR (f σd) (fun ds σd' => ∀ p xs H', Ext H H' → H' p = some (.lst xs) → RepAll M.K H' xs ds → Mt M σd' σ H' → Fresh M σd' σ p → Q (.ref p) H') M.W
abbrev SE (X : Cx) (M : Mx) (e : Expr) (f : DEnv → R D) : Prop := PE X e (tE M f)
abbrev ST (X : Cx) (M : Mx) (e : Expr) (f : DEnv → R Bool) : Prop := PT X e (tT M f)
abbrev SA (X : Cx) (M : Mx) (es : List Expr) (f : DEnv → R (List D)) : Prop := PA X es (tA M f)
abbrev SF (X : Cx) (M : Mx) (e : Expr) (f : DEnv → R (List D)) : Prop := PE X e (tF M f)
/-- a statement -/
def wpO (M : Mx) (x : O) (H : Hp) (D : Ends) : Prop := match x with
  | .nx σd' => ∀ σ' H', Ext H H' → Mt M σd' σ' H' → D.nx σ' H'
  | .ret d σd' => ∀ v σ' H', Ext H H' → Rep M.K H' v d → Mt M σd' σ' H' → D.rt v H'
  | .retF ds σd' => ∀ p xs σ' H', Ext H H' → H' p = some (.lst xs) → RepAll M.K H' xs ds → Mt M σd' σ' H' → Fresh M σd' σ' p → D.rt (.ref p) H'
  | .brk σd' => ∀ σ' H', Ext H H' → Mt M σd' σ' H' → D.bk σ' H'
  | .cnt σd' => ∀ σ' H', Ext H H' → Mt M σd' σ' H' → D.ct σ' H'
  | .exc c σd' => M.W c σd'
  | .bad => False
theorem wpO_ext {M : Mx} {x : O} {H H' : Hp} {D : Ends} (e : Ext H H') (h : wpO M x H D) : wpO M x H' D := by
  cases x with
  | nx σ => exact fun σ' H2 e2 m => h σ' H2 (e.trans e2) m
  | ret d σ => exact fun v σ' H2 e2 r m => h v σ' H2 (e.trans e2) r m
  | retF ds σ => exact fun p xs σ' H2 e2 h1 h2 m fr => h p xs σ' H2 (e.trans e2) h1 h2 m fr
  | brk σ => exact fun σ' H2 e2 m => h σ' H2 (e.trans e2) m
  | cnt σ => exact fun σ' H2 e2 m => h σ' H2 (e.trans e2) m
  | exc c σ => exact h
  | bad => exact h
def tS (M : Mx) (f : DEnv → O) : TS := fun D σ H => ∃ σd, Mt M σd σ H ∧ wpO M (f σd) H D
abbrev SS (X : Cx) (M : Mx) (st : Stmt) (f : DEnv → O) : Prop := PS X st (tS M f)
abbrev SSs (X : Cx) (M : Mx) (st : List Stmt) (f : DEnv → O) : Prop := PSs X st (tS M f)
end PL
set_option Elab.async false
set_option linter.all false
set_option maxRecDepth 100000
set_option autoImplicit false
/-! Operators by values, over data. -/
namespace PL
open PySem PySem.Spec PyProof.Rows L2

/-- an operator on two values keeps to r on the data -/
def rD (K : PySem.W.Frag) (r : D → D → Option D) : R2 := fun x y H Q => ∃ d e z, Rep K H x d ∧ Rep K H y e ∧ r d e = some z ∧ ∀ v H', Same H H' → Rep K H' v z → Q v H'
abbrev OpD (X : Cx) (f : Value → Value → Sem Value) (r : D → D → Option D) : Prop := OpR X f (rD X.K r)
def rU (K : PySem.W.Frag) (r : D → Option D) : V → Hp → VK → Prop := fun x H Q => ∃ d z, Rep K H x d ∧ r d = some z ∧ ∀ v H', Same H H' → Rep K H' v z → Q v H'
def rC (K : PySem.W.Frag) (r : List D → Option D) : List V → Hp → VK → Prop := fun xs H Q => ∃ ds z, RepAll K H xs ds ∧ r ds = some z ∧ ∀ v H', Same H H' → Rep K H' v z → Q v H'

section
variable {X : Cx}
theorem OpR.weak {f : Value → Value → Sem Value} {r r' : R2} (h : OpR X f r) (k : ∀ x y H Q, r' x y H Q → r x y H Q) : OpR X f r' := fun pins s σ H x y v u Q I rx ry q => h pins s σ H x y v u Q I rx ry (k _ _ _ _ q)
theorem CallR.weak {f : Value} {r r' : List V → Hp → VK → Prop} (h : CallR X f r) (k : ∀ xs H Q, r' xs H Q → r xs H Q) : CallR X f r' := fun pins s σ H xs us Q I rx q => h pins s σ H xs us Q I rx (k _ _ _ q)
/-- a new list may be locked at once -/
theorem lock_new {pins : List (Addr × Obj)} {σ : L2.St} {Q : VK} {u : Value} {s : Shared} (K : PySem.W.Frag) {H0 : Hp} {ds : List D}
    (h : EP X pins σ (fun v H => ∃ p xs H1, v = .ref p ∧ Same H0 H1 ∧ H1 p = none ∧ H = upd H1 p (.lst xs) ∧ RepAll K H1 xs ds) u s) (q : ∀ v H', Same H0 H' → Rep K H' v (.list ds) → Q v H') : EP X pins σ Q u s := by
  obtain ⟨v, H, I, rv, p, xs, H1, rfl, sm, hp, rfl, ra⟩ := h
  obtain ⟨od, I2⟩ := I.lock (d := p) (u := .lst xs) upd_same trivial
  rw [upd_upd] at I2
  have s2 : Same H1 (upd H1 p (.frz od (.lst xs))) := same_upd hp
  exact ⟨.ref p, _, I2, rv, q _ _ (sm.trans s2) (.lst (.inl ⟨od, upd_same⟩) (ra.ext (Ext.same s2)))⟩

theorem lenT {K : PySem.W.Frag} {H : Hp} {xs : List V} {ds : List D} (r : RepAll K H xs ds) : xs.length = ds.length := r.length

/-! ### + - * // % ** ^ >> << & -/
def dAdd : D → D → Option D
  | .int a, .int b => some (.int (a + b))
  | .str a, .str b => if a.length + b.length ≤ sizeLine then some (.str (a ++ b)) else none
  | .tuple a, .tuple b => if a.length + b.length ≤ sizeLine then some (.tuple (a ++ b)) else none
  | .list a, .list b => if a.length + b.length ≤ sizeLine then some (.list (a ++ b)) else none
  | _, _ => none
theorem cat_lists {pins : List (Addr × Obj)} {σ : L2.St} {H : Hp} {s : Shared} {l b : Addr} {xs zs : List V} {Q : VK} (I : Inv X pins σ H s) (hl : SqL X.K H l xs) (hb : SqL X.K H b zs) (hz : xs.length + zs.length ≤ sizeLine)
    (q : ∀ p, H p = none → Q (.ref p) (upd H p (.lst (xs ++ zs)))) : wpAny (model X.prog X.w) X.A (binaryOp .Add (.ref l) (.ref b)) (EP X pins σ Q) X.xe s := by
  obtain ⟨its, r, pl, hz1⟩ := I.list hl
  obtain ⟨its2, r2, pl2, hz2⟩ := I.list hb
  obtain ⟨⟨cls, dd, data, sl⟩, ho, hc, n, hd⟩ := id pl.isList
  obtain ⟨⟨cls2, dd2, data2, sl2⟩, ho2, hc2, n2, hd2⟩ := id pl2.isList
  simp only at hc hd hc2 hd2
  subst hc hd hc2 hd2
  have e : its.toArray ++ its2.toArray = (its ++ its2).toArray := by simp
  have hle := r.length
  have hle2 := r2.length
  refine concat_meets ⟨_, ho, rfl⟩ ⟨_, ho2, rfl⟩ noFill_list_add seq_list_add PySem.F.slot_list_add PySem.F.entry_list_add (PySem.F.args_list_add_2 _ _) (list_addW l b its.toArray its2.toArray n n2 dd dd2 sl sl2 (by simp; omega)) ⟨ho, ho2, ?_⟩
  rw [e]
  exact ⟨.ref _, _, I.lnew (t' := s.toks) (r.append r2) (by rw [List.length_append]; omega), rfl, q _ I.fresh⟩
theorem od_add : OpD X (binaryOp .Add) dAdd := by
  intro pins s σ H x y v u Q I rx ry h
  obtain ⟨d, e, z, h1, h2, hz, q⟩ := h
  cases h1 with
  | int i =>
    cases h2 with
    | int j =>
      cases hz
      exact op_add pins s σ H _ _ v u Q I rx ry ⟨i, j, rfl, rfl, q _ _ (Same.refl _) (.int _)⟩
    | _ => cases hz
  | str a =>
    cases h2 with
    | str b =>
      simp only [dAdd] at hz
      split at hz
      · cases hz
        exact op_add_str pins s σ H _ _ v u Q I rx ry ⟨a, b, rfl, rfl, by assumption, q _ _ (Same.refl _) (.str _)⟩
      · cases hz
    | _ => cases hz
  | @tup a xs ds g1 g2 =>
    cases h2 with
    | @tup b ys es g3 g4 =>
      simp only [dAdd] at hz
      split at hz
      · rename_i hlen
        cases hz
        have l1 := g2.length
        have l2 := g4.length
        refine op_catA pins s σ H _ _ v u Q I rx ry ⟨a, b, xs, ys, rfl, rfl, g1, g3, by omega, fun e => ?_, fun _ e => ?_, fun _ _ p hp => ?_⟩
        · subst e
          cases g2
          exact q _ _ (Same.refl _) (.tup g3 g4)
        · subst e
          cases g4
          rw [List.append_nil] at q
          exact q _ _ (Same.refl _) (.tup g1 g2)
        · have sm : Same H (upd H p (.tup (xs ++ ys))) := same_upd hp
          exact q _ _ sm (.tup (SqT.of upd_same) ((g2.app g4).ext (Ext.same sm)))
      · cases hz
    | _ => cases hz
  | @lst a xs ds g1 g2 =>
    cases h2 with
    | @lst b ys es g3 g4 =>
      simp only [dAdd] at hz
      split at hz
      · rename_i hlen
        cases hz
        have l1 := g2.length
        have l2 := g4.length
        cases rx
        cases ry
        refine thn (cat_lists (Q := fun v H' => ∃ p xs' H1, v = .ref p ∧ Same H H1 ∧ H1 p = none ∧ H' = upd H1 p (.lst xs') ∧ RepAll X.K H1 xs' (ds ++ es)) I g1.sq g3.sq (by omega) fun p hp => ⟨p, _, H, rfl, Same.refl _, hp, rfl, g2.app g4⟩) fun w s' hw => lock_new X.K hw q
      · cases hz
    | _ => cases hz
  | _ => cases hz

/-- two ints -/
def dII (C : Int → Int → Bool) (g : Int → Int → D) : D → D → Option D
  | .int a, .int b => if C a b = true then some (g a b) else none
  | _, _ => none
theorem od_int {f : Value → Value → Sem Value} {C : Int → Int → Bool} {C' : Int → Int → Prop} {g : Int → Int → V} {g' : Int → Int → D} (h : OpR X f (rI C' g)) (hc : ∀ i j, C i j = true → C' i j) (hg : ∀ K H i j, Rep K H (g i j) (g' i j)) : OpD X f (dII C g') :=
  OpR.weak h fun x y H Q ⟨d, e, z, h1, h2, hz, q⟩ => by
    cases h1 with
    | int i =>
      cases h2 with
      | int j =>
        simp only [dII] at hz
        split at hz
        · rename_i hcc
          cases hz
          exact ⟨i, j, rfl, rfl, hc _ _ hcc, q _ _ (Same.refl _) (hg _ _ _ _)⟩
        · cases hz
      | _ => cases hz
    | _ => cases hz
theorem od_int0 {f : Value → Value → Sem Value} {g : Int → Int → V} {g' : Int → Int → D} (h : OpR X f (rI0 g)) (hg : ∀ K H i j, Rep K H (g i j) (g' i j)) : OpD X f (dII (fun _ _ => true) g') :=
  OpR.weak h fun x y H Q ⟨d, e, z, h1, h2, hz, q⟩ => by
    cases h1 with
    | int i =>
      cases h2 with
      | int j =>
        cases hz
        exact ⟨i, j, rfl, rfl, q _ _ (Same.refl _) (hg _ _ _ _)⟩
      | _ => cases hz
    | _ => cases hz
def cMul (i j : Int) : Bool := decide (i.natAbs.log2 + j.natAbs.log2 < 1000000) || decide (j.natAbs < 2 ^ 64)
def cDiv (_ j : Int) : Bool := decide (0 < j) && decide (j.natAbs.log2 < 9000)
@[simp] def cMod (_ j : Int) : Bool := decide (0 < j)
def cPow (i j : Int) : Bool := decide (0 ≤ j) && decide (j ≤ 1000000) && decide (i.natAbs < 2 ^ 64)
abbrev dSub : D → D → Option D := dII (fun _ _ => true) fun a b => .int (a - b)
abbrev dDiv : D → D → Option D := dII cDiv fun a b => .int (a / b)
abbrev dMod : D → D → Option D := dII cMod fun a b => .int (a % b)
abbrev dPow : D → D → Option D := dII cPow fun a b => .int (a ^ b.toNat)
abbrev dShl : D → D → Option D := dII cPow fun a b => .int (a * 2 ^ b.toNat)
abbrev dShr : D → D → Option D := dII (fun _ b => decide (0 ≤ b)) fun a b => .int (a / 2 ^ b.toNat)
abbrev dXor : D → D → Option D := dII (fun _ _ => true) fun a b => .int (Builtin.bitXor a b)
abbrev dAnd : D → D → Option D := dII (fun _ _ => true) fun a b => .int (Builtin.bitAnd a b)
theorem od_sub : OpD X (binaryOp .Sub) dSub := od_int0 op_sub fun _ _ _ _ => .int _
theorem od_div : OpD X (binaryOp .FloorDiv) dDiv := od_int op_fdivW (fun i j h => by simp only [cDiv, Bool.and_eq_true, decide_eq_true_eq] at h; exact h) fun _ _ _ _ => .int _
theorem od_mod : OpD X (binaryOp .Mod) dMod := od_int op_mod (fun i j h => by simpa [cMod] using h) fun _ _ _ _ => .int _
theorem od_pow : OpD X (binaryOp .Pow) dPow := od_int op_pow (fun i j h => by simp only [cPow, Bool.and_eq_true, decide_eq_true_eq] at h; exact ⟨h.1.1, h.1.2, h.2⟩) fun _ _ _ _ => .int _
theorem od_shl : OpD X (binaryOp .LShift) dShl := od_int op_shl (fun i j h => by simp only [cPow, Bool.and_eq_true, decide_eq_true_eq] at h; exact ⟨h.1.1, h.1.2, h.2⟩) fun _ _ _ _ => .int _
theorem od_shr : OpD X (binaryOp .RShift) dShr := od_int op_shr (fun i j h => by simpa using h) fun _ _ _ _ => .int _
theorem od_xor : OpD X (binaryOp .BitXor) dXor := od_int0 op_xor fun _ _ _ _ => .int _
theorem od_and : OpD X (binaryOp .BitAnd) dAnd := od_int0 op_and fun _ _ _ _ => .int _
/-- int * int, tuple * int (twice and more) -/
def dMul : D → D → Option D
  | .int a, .int b => if cMul a b = true then some (.int (a * b)) else none
  | .tuple xs, .int k => if 2 ≤ k ∧ k ≤ 1000 ∧ 1 ≤ xs.length ∧ xs.length ≤ 1000 then some (.tuple (List.replicate k.toNat xs).flatten) else none
  | _, _ => none
theorem RepAll.rep {K : PySem.W.Frag} {H : Hp} {xs : List V} {ds : List D} (r : RepAll K H xs ds) : ∀ n : Nat, RepAll K H (List.replicate n xs).flatten (List.replicate n ds).flatten
  | 0 => .nil
  | n + 1 => by
    rw [List.replicate_succ, List.replicate_succ, List.flatten_cons, List.flatten_cons]
    exact r.app (r.rep n)
theorem od_mul : OpD X (binaryOp .Mult) dMul := by
  intro pins s σ H x y v u Q I rx ry h
  obtain ⟨d, e, z, h1, h2, hz, q⟩ := h
  cases h1 with
  | int i =>
    cases h2 with
    | int j =>
      simp only [dMul] at hz
      split at hz
      · rename_i hc
        cases hz
        rcases Bool.or_eq_true_iff.mp (show (decide (i.natAbs.log2 + j.natAbs.log2 < 1000000) || decide (j.natAbs < 2 ^ 64)) = true from hc) with hc | hc
        · exact op_mulW pins s σ H _ _ v u Q I rx ry ⟨i, j, rfl, rfl, (of_decide_eq_true hc : i.natAbs.log2 + j.natAbs.log2 < 1000000), q _ _ (Same.refl _) (.int _)⟩
        · have hc := of_decide_eq_true hc
          exact op_mul pins s σ H _ _ v u Q I rx ry ⟨i, j, rfl, rfl, .inr ⟨by omega, by omega⟩, q _ _ (Same.refl _) (.int _)⟩
      · cases hz
    | _ => cases hz
  | @tup a xs ds g1 g2 =>
    cases h2 with
    | int k =>
      simp only [dMul] at hz
      split at hz
      · rename_i hc
        cases hz
        have l1 := g2.length
        refine op_repT pins s σ H _ _ v u Q I rx ry ⟨a, k, xs, rfl, rfl, g1, (fun e => by rw [e] at l1; simp at l1; omega), hc.1, hc.2.1, by omega, fun p hp => ?_⟩
        have sm : Same H (upd H p (.tup (List.replicate k.toNat xs).flatten)) := same_upd hp
        exact q _ _ sm (.tup (SqT.of upd_same) ((g2.rep _).ext (Ext.same sm)))
      · cases hz
    | _ => cases hz
  | _ => cases hz

/-! ### comparisons -/
theorem od_lt : OpD X (compareOp .Lt) (dII (fun _ _ => true) fun a b => .bool (decide (a < b))) := od_int0 op_lt fun _ _ _ _ => .bl _
abbrev dLeI : D → D → Option D := dII (fun _ _ => true) fun a b => .bool (decide (a ≤ b))
abbrev dGtI : D → D → Option D := dII (fun _ _ => true) fun a b => .bool (decide (b < a))
abbrev dGeI : D → D → Option D := dII (fun _ _ => true) fun a b => .bool (decide (b ≤ a))
theorem od_leI : OpD X (compareOp .LtE) dLeI := od_int0 op_le fun _ _ _ _ => .bl _
theorem od_gtI : OpD X (compareOp .Gt) dGtI := od_int0 op_gt fun _ _ _ _ => .bl _
theorem od_geI : OpD X (compareOp .GtE) dGeI := od_int0 op_ge fun _ _ _ _ => .bl _
def dEq (d e : D) : Option D := if SeqAt.shaped d = true ∧ SeqAt.shaped e = true then some (.bool (PyData.eqv d e)) else none
def dNe (d e : D) : Option D := if SeqAt.shaped d = true ∧ SeqAt.shaped e = true then some (.bool (!PyData.eqv d e)) else none
theorem od_eq (hu : X.A.units + 64 < cLine) : OpD X (compareOp .Eq) dEq :=
  OpR.weak (op_eqD hu) fun x y H Q ⟨d, e, z, h1, h2, hz, q⟩ => by
    simp only [dEq] at hz
    split at hz
    · rename_i h
      cases hz
      exact ⟨d, e, h1.dp d x, h2.dp e y, h.1, h.2, q _ _ (Same.refl _) (.bl _)⟩
    · cases hz
theorem od_ne (hu : X.A.units + 64 < cLine) : OpD X (compareOp .NotEq) dNe :=
  OpR.weak (op_neD hu) fun x y H Q ⟨d, e, z, h1, h2, hz, q⟩ => by
    simp only [dNe] at hz
    split at hz
    · rename_i h
      cases hz
      exact ⟨d, e, h1.dp d x, h2.dp e y, h.1, h.2, q _ _ (Same.refl _) (.bl _)⟩
    · cases hz
/-- in, not in: lists, tuples -/
def dIn (d e : D) : Option D := match e with
  | .list ds => if SeqAt.shaped d = true ∧ SeqAt.shaped (.list ds) = true then some (.bool (ds.any fun z => PyData.eqv z d)) else none
  | .tuple ds => if SeqAt.shaped d = true ∧ SeqAt.shaped (.tuple ds) = true then some (.bool (ds.any fun z => PyData.eqv z d)) else none
  | _ => none
def dNotIn (d e : D) : Option D := match dIn d e with
  | some (.bool b) => some (.bool (!b))
  | _ => none
theorem od_in (hu : X.A.units + 65 < cLine) : OpD X (compareOp .In) dIn := by
  intro pins s σ H x y v u Q I rx ry h
  obtain ⟨d, e, z, h1, h2, hz, q⟩ := h
  obtain ⟨as, r1⟩ := Dp.reads I d x v (h1.dp d x) rx
  obtain ⟨bs, r2⟩ := Dp.reads I e y u (h2.dp e y) ry
  cases e with
  | list ds =>
    simp only [dIn] at hz
    split at hz
    · rename_i h
      cases hz
      exact SeqAt.in_list_reads r2 r1 (SeqAt.canLay_of_shaped h.2) (SeqAt.canLay_of_shaped h.1) (room_in_shaped h.1 hu) ⟨.bl _, H, I, rfl, q _ _ (Same.refl _) (.bl _)⟩
    · cases hz
  | tuple ds =>
    simp only [dIn] at hz
    split at hz
    · rename_i h
      cases hz
      exact SeqAt.in_tuple_reads r2 r1 (SeqAt.canLay_of_shaped h.2) (SeqAt.canLay_of_shaped h.1) (room_in_shaped h.1 hu) ⟨.bl _, H, I, rfl, q _ _ (Same.refl _) (.bl _)⟩
    · cases hz
  | _ => cases hz
theorem od_notIn (hu : X.A.units + 65 < cLine) : OpD X (compareOp .NotIn) dNotIn := by
  intro pins s σ H x y v u Q I rx ry h
  obtain ⟨d, e, z, h1, h2, hz, q⟩ := h
  obtain ⟨as, r1⟩ := Dp.reads I d x v (h1.dp d x) rx
  obtain ⟨bs, r2⟩ := Dp.reads I e y u (h2.dp e y) ry
  cases e with
  | list ds =>
    simp only [dNotIn, dIn] at hz
    split at hz
    · rename_i b hb
      split at hb
      · rename_i h
        cases hb
        cases hz
        exact SeqAt.notIn_list_reads r2 r1 (SeqAt.canLay_of_shaped h.2) (SeqAt.canLay_of_shaped h.1) (room_in_shaped h.1 hu) ⟨.bl _, H, I, rfl, q _ _ (Same.refl _) (.bl _)⟩
      · cases hb
    · cases hz
  | tuple ds =>
    simp only [dNotIn, dIn] at hz
    split at hz
    · rename_i b hb
      split at hb
      · rename_i h
        cases hb
        cases hz
        exact SeqAt.notIn_tuple_reads r2 r1 (SeqAt.canLay_of_shaped h.2) (SeqAt.canLay_of_shaped h.1) (room_in_shaped h.1 hu) ⟨.bl _, H, I, rfl, q _ _ (Same.refl _) (.bl _)⟩
      · cases hb
    · cases hz
  | _ => cases hz
/-- is, is not: None, truth values -/
def dIs (d e : D) : Option D := match d, e with
  | .none, .none => some (.bool true)
  | _, .none => some (.bool false)
  | .bool a, .bool b => some (.bool (decide (a = b)))
  | _, _ => none
theorem od_is : OpD X (compareOp .Is) dIs := by
  intro pins s σ H x y v u Q I rx ry h
  obtain ⟨d, e, z, h1, h2, hz, q⟩ := h
  cases h2 with
  | non =>
    refine op_isN pins s σ H _ _ v u Q I rx ry ⟨rfl, ?_⟩
    cases h1 <;> (cases hz; exact q _ _ (Same.refl _) (.bl _))
  | bl b =>
    cases h1 with
    | bl a => cases hz; exact op_isBl pins s σ H _ _ v u Q I rx ry ⟨a, b, rfl, rfl, q _ _ (Same.refl _) (.bl _)⟩
    | _ => cases hz
  | _ => cases h1 <;> cases hz
def dIsNot (d e : D) : Option D := match dIs d e with
  | some (.bool b) => some (.bool (!b))
  | _ => none
theorem od_isNot : OpD X (compareOp .IsNot) dIsNot := by
  intro pins s σ H x y v u Q I rx ry h
  obtain ⟨d, e, z, h1, h2, hz, q⟩ := h
  cases h2 with
  | non =>
    refine op_notN pins s σ H _ _ v u Q I rx ry ⟨rfl, ?_⟩
    cases h1 <;> (cases hz; exact q _ _ (Same.refl _) (.bl _))
  | bl b =>
    cases h1 with
    | bl a => cases hz; exact op_notBl pins s σ H _ _ v u Q I rx ry ⟨a, b, rfl, rfl, q _ _ (Same.refl _) (.bl _)⟩
    | _ => cases hz
  | _ => cases h1 <;> cases hz
/-- tuples of ints, texts: < -/
def ints? : List D → Option (List Int)
  | [] => some []
  | .int i :: r => (ints? r).map (i :: ·)
  | _ :: _ => none
theorem ints?_rep {K : PySem.W.Frag} {H : Hp} : ∀ {ds : List D} {xs : List V} {ns : List Int}, ints? ds = some ns → RepAll K H xs ds → xs = ns.map V.int
  | [], _, _, h, r => by cases h; cases r; rfl
  | .int i :: ds, _, _, h, r => by
    simp only [ints?, Option.map_eq_some_iff] at h
    obtain ⟨ms, h1, rfl⟩ := h
    cases r with
    | cons q r => cases q; rw [List.map_cons, ints?_rep h1 r]
  | .none :: _, _, _, h, _ => by cases h
  | .bool _ :: _, _, _, h, _ => by cases h
  | .str _ :: _, _, _, h, _ => by cases h
  | .list _ :: _, _, _, h, _ => by cases h
  | .tuple _ :: _, _, _, h, _ => by cases h
  | .dict _ :: _, _, _, h, _ => by cases h
def dLt (d e : D) : Option D := match d, e with
  | .int a, .int b => some (.bool (decide (a < b)))
  | .str a, .str b => some (.bool (decide (a.cps.toList < b.cps.toList)))
  | .tuple a, .tuple b => match ints? a, ints? b with
    | some ns, some ms => some (.bool (HT.lexLt ns ms))
    | _, _ => none
  | _, _ => none
theorem od_ltA (hu : X.A.units < cLine) : OpD X (compareOp .Lt) dLt := by
  intro pins s σ H x y v u Q I rx ry h
  obtain ⟨d, e, z, h1, h2, hz, q⟩ := h
  cases h1 with
  | int i =>
    cases h2 with
    | int j => cases hz; exact op_lt pins s σ H _ _ v u Q I rx ry ⟨i, j, rfl, rfl, q _ _ (Same.refl _) (.bl _)⟩
    | _ => cases hz
  | str i =>
    cases h2 with
    | str j => cases hz; exact op_lt_str pins s σ H _ _ v u Q I rx ry ⟨i, j, rfl, rfl, q _ _ (Same.refl _) (.bl _)⟩
    | _ => cases hz
  | @tup a xs ds g1 g2 =>
    cases h2 with
    | @tup b ys es g3 g4 =>
      simp only [dLt] at hz
      split at hz
      · rename_i ns ms e1 e2
        cases hz
        have e3 := ints?_rep e1 g2
        have e4 := ints?_rep e2 g4
        subst e3 e4
        exact op_ltT hu pins s σ H _ _ v u Q I rx ry ⟨a, b, ns, ms, rfl, rfl, g1, g3, q _ _ (Same.refl _) (.bl _)⟩
      · cases hz
    | _ => cases hz
  | _ => cases hz

/-! ### unary -/
def dNeg : D → Option D
  | .int i => some (.int (-i))
  | _ => none
theorem ud_neg : UnR X (unaryOp .USub) (rU X.K dNeg) := by
  intro pins s σ H x v Q I rx h
  obtain ⟨d, z, h1, hz, q⟩ := h
  cases h1 with
  | int i => cases hz; exact un_neg pins s σ H _ v Q I rx ⟨i, rfl, q _ _ (Same.refl _) (.int _)⟩
  | _ => cases hz
end
end PL
set_option Elab.async false
set_option linter.all false
set_option maxRecDepth 100000
set_option autoImplicit false
/-! Expressions over data. -/
namespace PL
open PySem PySem.Spec PyProof.Rows L2

theorem PE.weak {X : Cx} {e : Expr} {t t' : TE} (h : PE X e t) (k : ∀ σ H Q, t' σ H Q → t σ H Q) : PE X e t' := ⟨fun pins s σ H Q I q => h.run pins s σ H Q I (k _ _ _ q)⟩
theorem PT.weak {X : Cx} {e : Expr} {t t' : TT} (h : PT X e t) (k : ∀ σ H Q, t' σ H Q → t σ H Q) : PT X e t' := ⟨fun pins s σ H Q I q => h.run pins s σ H Q I (k _ _ _ q)⟩
theorem PA.weak {X : Cx} {e : List Expr} {t t' : TA} (h : PA X e t) (k : ∀ σ H Q, t' σ H Q → t σ H Q) : PA X e t' := ⟨fun pos pins s σ H Q I q => h.run pos pins s σ H Q I (k _ _ _ q)⟩
theorem PS.weak {X : Cx} {e : Stmt} {t t' : TS} (h : PS X e t) (k : ∀ D σ H, t' D σ H → t D σ H) : PS X e t' := ⟨fun pins s σ H D I q => h.run pins s σ H D I (k _ _ _ q)⟩
theorem PSs.weak {X : Cx} {e : List Stmt} {t t' : TS} (h : PSs X e t) (k : ∀ D σ H, t' D σ H → t D σ H) : PSs X e t' := ⟨fun pins s σ H D I q => h.run pins s σ H D I (k _ _ _ q)⟩

section
variable {X : Cx} {M : Mx}
/-- with the same function -/
theorem SE.eq {e : Expr} {f f' : DEnv → R D} (h : SE X M e f) (k : ∀ σ, f' σ = f σ) : SE X M e f' := by
  rw [show f' = f from funext k]; exact h

/-! ### names and constants -/
/-- a name's datum; its own list is locked for good -/
@[simp] def rdV (i : Nat) : DEnv → R D := fun σ => match σ[i]? with
  | some (.val d) => .ok d σ
  | some (.own ds) => .ok (.list ds) (σ.set i (.val (.list ds)))
  | _ => .bad
theorem getset {α : Type} {l : List α} {i j : Nat} {a b : α} (h : (l.set i a)[j]? = some b) : (i = j ∧ a = b) ∨ (i ≠ j ∧ l[j]? = some b) := by
  by_cases e : i = j
  · subst e
    rw [List.getElem?_set] at h
    simp only [if_true] at h
    split at h
    · exact .inl ⟨rfl, Option.some.inj h⟩
    · cases h
  · rw [List.getElem?_set_ne e] at h
    exact .inr ⟨e, h⟩
/-- the own list at i is locked -/
theorem Mt.lock {σd : DEnv} {σ : L2.St} {H : Hp} {i : Nat} {ds : List D} {p : Addr} {xs : List V} {od : Obj} (m : Mt M σd σ H) (hi : σd[i]? = some (.own ds)) (hp : σ[i]? = some (some (.ref p))) (hH : H p = some (.lst xs)) (ra : RepAll M.K H xs ds) (h0 : M.H0 p = none) (ht : M.tape ≠ some p) :
    Mt M (σd.set i (.val (.list ds))) σ (upd H p (.frz od (.lst xs))) ∧ Rep M.K (upd H p (.frz od (.lst xs))) (.ref p) (.list ds) := by
  have ex : Ext H (upd H p (.frz od (.lst xs))) := Ext.wr hH
  have rp : Rep M.K (upd H p (.frz od (.lst xs))) (.ref p) (.list ds) := .lst (.inl ⟨od, upd_same⟩) (ra.ext ex)
  refine ⟨⟨by rw [List.length_set]; exact m.len, fun j d e => ?_, fun j es e => ?_, fun j es e => ?_, fun j k a b q e1 e2 e3 e4 => ?_, fun b o e1 e2 => ?_, fun P hP => ?_, fun t e => ?_, fun j k a b e1 e2 => ?_, (m.dic.wr hH).set (fun l k z => by cases z)⟩, rp⟩
  · rcases getset e with ⟨rfl, e0⟩ | ⟨ne, e⟩
    · cases e0
      exact ⟨_, hp, rp⟩
    · obtain ⟨v, h1, h2⟩ := m.val j d e
      exact ⟨v, h1, h2.ext ex⟩
  · rcases getset e with ⟨rfl, e0⟩ | ⟨ne, e⟩
    · cases e0
    · obtain ⟨q, ys, h1, h2, h3, h4⟩ := m.own j es e
      refine ⟨q, ys, h1, ?_, h3.ext ex, h4⟩
      rw [upd_ne (fun z => ne (by subst z; exact m.dj i j ds es _ hi e hp h1))]
      exact h2
  · rcases getset e with ⟨rfl, e0⟩ | ⟨ne, e⟩
    · cases e0
    · obtain ⟨q, ys, h1, h2, h3, h4⟩ := m.tap j es e
      refine ⟨q, ys, h1, ?_, h3.ext ex, h4⟩
      rw [upd_ne (fun z => ht (by rw [← z]; exact h4))]
      exact h2
  · rcases getset e1 with ⟨rfl, e0⟩ | ⟨_, e1⟩
    · cases e0
    · rcases getset e2 with ⟨rfl, e0⟩ | ⟨_, e2⟩
      · cases e0
      · exact m.dj j k a b q e1 e2 e3 e4
  · rw [upd_ne (fun z => by subst z; rw [h0] at e1; cases e1)]
    exact m.kept b o e1 e2
  · obtain ⟨ps, e, t⟩ := m.tabs P hP
    exact ⟨ps, by rw [upd_ne (ne_of e hH (by intro z; cases z))]; exact e, t⟩
  · obtain ⟨es, q⟩ := m.tape t e
    refine ⟨es, ?_⟩
    rw [List.getElem?_set_ne (fun z => by subst z; rw [hi] at q; cases q)]
    exact q
  · rcases getset e1 with ⟨rfl, e0⟩ | ⟨_, e1⟩
    · cases e0
    · rcases getset e2 with ⟨rfl, e0⟩ | ⟨_, e2⟩
      · cases e0
      · exact m.tapOne j k a b e1 e2
theorem se_var {i : Nat} {x : Str} {pos : Pos} (hN : X.N[i]? = some x) (hv : Vis X.env.scope x) (hd : (x == ("__debug__" : Str)) = false := by decide) (hcd : (x == ("__classdict__" : Str)) = false := by decide) : SE X M (.Name x pos) (rdV i) := by
  have base : PE X (.Name x pos) (tVar i) := pe_var hN hv hd hcd
  refine ⟨fun pins s σ H Q I h => ?_⟩
  obtain ⟨σd, m, q⟩ := h
  unfold rdV at q
  split at q
  · rename_i d e
    obtain ⟨v, h1, h2⟩ := m.val i d e
    exact base.run pins s σ H Q I ⟨v, h1, q v H (Ext.refl H) h2 m⟩
  · rename_i ds e
    obtain ⟨p, xs, h1, h2, h3, h4, h5⟩ := m.own i ds e
    obtain ⟨od, I2⟩ := I.lock h2 trivial
    obtain ⟨m2, rp⟩ := m.lock (od := od) e h1 h2 h3 h4 h5
    exact base.run pins s σ _ Q I2 ⟨.ref p, h1, q _ _ (Ext.wr h2) rp m2⟩
  · exact q.elim
/-- a name's datum, read for the moment -/
@[simp] def rd (i : Nat) (σ : DEnv) : Option D := match σ[i]? with
  | some (.val d) => some d
  | some (.own ds) => some (.list ds)
  | some (.tap ds) => some (.list ds)
  | _ => none
theorem se_const {v : V} {d : D} {e : Expr} (h : PE X e (tC v)) (r : ∀ H, Rep M.K H v d) : SE X M e (fun σ => .ok d σ) :=
  PE.weak h fun σ H Q ⟨σd, m, q⟩ => q v H (Ext.refl H) (r H) m
theorem se_int {i : Int} {j : Nat} {pos : Pos} : SE X M (.Constant (.int i) j pos) (fun σ => .ok (.int i) σ) := se_const pe_int fun _ => .int _
theorem se_bl {b : Bool} {j : Nat} {pos : Pos} : SE X M (.Constant (.bool b) j pos) (fun σ => .ok (.bool b) σ) := se_const pe_bl fun _ => .bl _
theorem se_non {j : Nat} {pos : Pos} : SE X M (.Constant .none j pos) (fun σ => .ok .none σ) := se_const pe_non fun _ => .non
theorem se_str {x : Str} {j : Nat} {pos : Pos} : SE X M (.Constant (.str x) j pos) (fun σ => .ok (.str x) σ) := se_const pe_str fun _ => .str _
/-- a constant of the module -/
theorem se_glob {x : Str} {v : V} {u : Value} {d : D} {pos : Pos} (hg : Gl X x) (hm : X.mg x = some u) (r : RelV v u) (rp : ∀ H, Rep M.K H v d) (hd : (x == ("__debug__" : Str)) = false := by decide) : SE X M (.Name x pos) (fun σ => .ok d σ) := se_const (pe_glob hg hm r hd) rp

/-! ### operators -/
@[simp] def bin (r : D → D → Option D) (f g : DEnv → R D) : DEnv → R D := fun σ => (f σ).bind fun d σ1 => (g σ1).bind fun e σ2 => lift (r d e) σ2
theorem tOp_of {K : PySem.W.Frag} {r : D → D → Option D} {f g : DEnv → R D} {σ : L2.St} {H : Hp} {Q : VK} (hK : K = M.K) (h : tE M (bin r f g) σ H Q) : tOp (rD K r) (tE M f) (tE M g) σ H Q := by
  subst hK
  obtain ⟨σd, m, q⟩ := h
  refine ⟨σd, m, ?_⟩
  refine wpR_mono (wpR_bind.mp q) fun d σ1 q1 v H1 e1 r1 m1 => ⟨σ1, m1, ?_⟩
  refine wpR_mono (wpR_bind.mp q1) fun e σ2 q2 w H2 e2 r2 m2 => ?_
  obtain ⟨z, hz, q3⟩ := wpR_lift.mp q2
  exact ⟨d, e, z, r1.ext e2, r2, hz, fun u H3 s3 r3 => q3 u H3 (e1.trans (e2.trans (Ext.same s3))) r3 (m2.same s3)⟩
variable {a b c : Expr} {f g k : DEnv → R D} {pos : Pos}
theorem se_op {op : Operator} {r : D → D → Option D} (hK : X.K = M.K) (ho : OpD X (binaryOp op) r) (ha : SE X M a f) (hb : SE X M b g) : SE X M (.BinOp a op b pos) (bin r f g) :=
  PE.weak (pe_op ho ha hb) fun σ H Q h => tOp_of hK h
theorem se_cmp {op : CmpOp} {r : D → D → Option D} (hK : X.K = M.K) (ho : OpD X (compareOp op) r) (ha : SE X M a f) (hb : SE X M b g) (hm : behindInMarks op b = false) : SE X M (.Compare a [op] [b] pos) (bin r f g) :=
  PE.weak (pe_cmpR ho ha hb hm) fun σ H Q h => tOp_of hK h
/-- a truth value -/
@[simp] def toB (x : R D) : R Bool := x.bind fun d σ => match d with
  | .bool b => .ok b σ
  | _ => .bad
theorem tB_of {t : TE} {F : DEnv → R D} {σ : L2.St} {H : Hp} {Q : Bool → Hp → Prop} (ht : ∀ σ H Q, tE M F σ H Q → t σ H Q) (h : tT M (fun σ => toB (F σ)) σ H Q) : t σ H fun x H1 => ∃ c, x = .bl c ∧ Q c H1 := by
  obtain ⟨σd, m, q⟩ := h
  refine ht _ _ _ ⟨σd, m, wpR_mono (wpR_bind.mp q) fun d σ1 q1 v H1 e1 r1 m1 => ?_⟩
  cases r1 with
  | bl c => exact ⟨c, rfl, q1 H1 e1 m1⟩
  | _ => exact q1.elim
theorem st_cmp {op : CmpOp} {r : D → D → Option D} (hK : X.K = M.K) (ho : OpD X (compareOp op) r) (ha : SE X M a f) (hb : SE X M b g) (hm : behindInMarks op b = false) : ST X M (.Compare a [op] [b] pos) (fun σ => toB (bin r f g σ)) :=
  PT.weak (pt_cmpR ho ha hb hm) fun σ H Q h => tB_of (fun _ _ _ z => tOp_of hK z) h
theorem st_val (ha : SE X M a f) (he : ∀ whole, isTrue a X.env whole = (do let v ← whole; standAt a.pos; holding [v] (truthy v)) := by intro _; rfl) : ST X M a (fun σ => toB (f σ)) :=
  PT.weak (pt_val ha he) fun σ H Q h => tB_of (fun _ _ _ z => z) h
/-- a op b op c -/
@[simp] def chn (r r' : D → D → Option D) (f g k : DEnv → R D) : DEnv → R D := fun σ => (f σ).bind fun d σ1 => (g σ1).bind fun e σ2 => (lift (r d e) σ2).bind fun z σ3 => match z with
  | .bool true => (k σ3).bind fun y σ4 => lift (r' e y) σ4
  | .bool false => .ok (.bool false) σ3
  | _ => .bad
theorem tChain_of {K : PySem.W.Frag} {r r' : D → D → Option D} {σ : L2.St} {H : Hp} {Q : VK} (hK : K = M.K) (h : tE M (chn r r' f g k) σ H Q) : tChain (rD K r) (rD K r') (tE M f) (tE M g) (tE M k) σ H Q := by
  subst hK
  obtain ⟨σd, m, q⟩ := h
  refine ⟨σd, m, ?_⟩
  refine wpR_mono (wpR_bind.mp q) fun d σ1 q1 v H1 e1 r1 m1 => ⟨σ1, m1, ?_⟩
  refine wpR_mono (wpR_bind.mp q1) fun e σ2 q2 w H2 e2 r2 m2 => ?_
  obtain ⟨z, hz, q3⟩ := wpR_lift.mp (wpR_bind.mp q2)
  refine ⟨d, e, z, r1.ext e2, r2, hz, fun u H3 s3 r3 => ?_⟩
  cases r3 with
  | bl c =>
    refine ⟨c, rfl, ?_⟩
    cases c with
    | true =>
      rw [if_pos rfl]
      refine ⟨σ2, m2.same s3, ?_⟩
      refine wpR_mono (wpR_bind.mp q3) fun y σ4 q4 t H4 e4 r4 m4 => ?_
      obtain ⟨z', hz', q5⟩ := wpR_lift.mp q4
      exact ⟨e, y, z', r2.ext ((Ext.same s3).trans e4), r4, hz', fun u H5 s5 r5 => q5 u H5 (e1.trans (e2.trans ((Ext.same s3).trans (e4.trans (Ext.same s5))))) r5 (m4.same s5)⟩
    | false =>
      rw [if_neg Bool.false_ne_true]
      exact q3 _ H3 (e1.trans (e2.trans (Ext.same s3))) (.bl false) (m2.same s3)
  | _ => exact q3.elim
theorem se_chain {op op' : CmpOp} {r r' : D → D → Option D} (hK : X.K = M.K) (ho : OpD X (compareOp op) r) (ho' : OpD X (compareOp op') r') (ha : SE X M a f) (hb : SE X M b g) (hc : SE X M c k) (hlm : lastMarks [op, op'] [b, c] = false := by rfl) : SE X M (.Compare a [op, op'] [b, c] pos) (chn r r' f g k) :=
  PE.weak (pe_chain ho ho' ha hb hc hlm) fun σ H Q h => tChain_of hK h
theorem st_chain {op op' : CmpOp} {r r' : D → D → Option D} (hK : X.K = M.K) (ho : OpD X (compareOp op) r) (ho' : OpD X (compareOp op') r') (ha : SE X M a f) (hb : SE X M b g) (hc : SE X M c k) (hlm : lastMarks [op, op'] [b, c] = false := by rfl) : ST X M (.Compare a [op, op'] [b, c] pos) (fun σ => toB (chn r r' f g k σ)) :=
  PT.weak (pt_chain ho ho' ha hb hc hlm) fun σ H Q h => tB_of (fun _ _ _ z => tChain_of hK z) h
@[simp] def un (r : D → Option D) (f : DEnv → R D) : DEnv → R D := fun σ => (f σ).bind fun d σ1 => lift (r d) σ1
theorem se_un {op : UnaryOp} {r : D → Option D} (hK : X.K = M.K) (ho : UnR X (unaryOp op) (rU X.K r)) (ha : SE X M a f) : SE X M (.UnaryOp op a pos) (un r f) :=
  PE.weak (pe_un ho ha) fun σ H Q ⟨σd, m, q⟩ => ⟨σd, m, wpR_mono (wpR_bind.mp q) fun d σ1 q1 v H1 e1 r1 m1 => by
    obtain ⟨z, hz, q2⟩ := wpR_lift.mp q1
    exact ⟨d, z, by rw [hK]; exact r1, hz, fun u H2 s2 r2 => q2 u H2 (e1.trans (Ext.same s2)) (by rw [← hK]; exact r2) (m1.same s2)⟩⟩

/-! ### and, or, not, if -/
variable {tf tg : DEnv → R Bool} {rest : List Expr}
/-- a test whatever its whole is -/
abbrev SW (X : Cx) (M : Mx) (e : Expr) (f : DEnv → R Bool) : Prop := PW X e (tT M f)
@[simp] def bAnd (f g : DEnv → R Bool) : DEnv → R Bool := fun σ => (f σ).bind fun c σ1 => if c = true then g σ1 else .ok false σ1
@[simp] def bOr (f g : DEnv → R Bool) : DEnv → R Bool := fun σ => (f σ).bind fun c σ1 => if c = true then .ok true σ1 else g σ1
theorem PW.weak {X : Cx} {e : Expr} {t t' : TT} (h : PW X e t) (k : ∀ σ H Q, t' σ H Q → t σ H Q) : PW X e t' := ⟨fun whole pins s σ H Q I q => h.run whole pins s σ H Q I (k _ _ _ q)⟩
theorem sw_one (ha : ST X M a tf) : SW X M (.BoolOp .And [a] pos) tf := pw_and1 ha
theorem sw_oneO (ha : ST X M a tf) : SW X M (.BoolOp .Or [a] pos) tf := pw_or1 ha
theorem sw_and (ha : ST X M a tf) (hb : SW X M (.BoolOp .And (b :: rest) pos) tg) : SW X M (.BoolOp .And (a :: b :: rest) pos) (bAnd tf tg) :=
  PW.weak (pw_and ha hb) fun σ H Q ⟨σd, m, q⟩ => ⟨σd, m, wpR_mono (wpR_bind.mp q) fun d σ1 q1 H1 e1 m1 => by
    cases d with
    | true => exact iteT ⟨σ1, m1, wpR_mono q1 fun _ _ q2 H2 e2 m2 => q2 H2 (e1.trans e2) m2⟩
    | false => exact iteF (q1 H1 e1 m1)⟩
theorem sw_or (ha : ST X M a tf) (hb : SW X M (.BoolOp .Or (b :: rest) pos) tg) : SW X M (.BoolOp .Or (a :: b :: rest) pos) (bOr tf tg) :=
  PW.weak (pw_or ha hb) fun σ H Q ⟨σd, m, q⟩ => ⟨σd, m, wpR_mono (wpR_bind.mp q) fun d σ1 q1 H1 e1 m1 => by
    cases d with
    | true => exact iteT (q1 H1 e1 m1)
    | false => exact iteF ⟨σ1, m1, wpR_mono q1 fun _ _ q2 H2 e2 m2 => q2 H2 (e1.trans e2) m2⟩⟩
theorem st_w {e : Expr} (h : SW X M e tf) : ST X M e tf := h.pt
@[simp] def bNot (f : DEnv → R Bool) : DEnv → R Bool := fun σ => (f σ).bind fun c σ1 => .ok (!c) σ1
theorem st_not (ha : ST X M a tf) : ST X M (.UnaryOp .Not a pos) (bNot tf) :=
  PT.weak (pt_not ha) fun σ H Q ⟨σd, m, q⟩ => ⟨σd, m, wpR_mono (wpR_bind.mp q) fun d σ1 q1 => q1⟩
/-- as values -/
@[simp] def vAnd (f g : DEnv → R D) : DEnv → R D := fun σ => (f σ).bind fun d σ1 => match d with
  | .bool true => g σ1
  | .bool false => .ok (.bool false) σ1
  | _ => .bad
@[simp] def vOr (f g : DEnv → R D) : DEnv → R D := fun σ => (f σ).bind fun d σ1 => match d with
  | .bool true => .ok (.bool true) σ1
  | .bool false => g σ1
  | _ => .bad
@[simp] def vNot (f : DEnv → R D) : DEnv → R D := fun σ => (f σ).bind fun d σ1 => match d with
  | .bool c => .ok (.bool (!c)) σ1
  | _ => .bad
theorem se_one {op : BoolOp} (h : SE X M a f) : SE X M (.BoolOp op [a] pos) f := pe_one h
theorem se_and (ha : SE X M a f) (hb : SE X M (.BoolOp .And (b :: rest) pos) g) : SE X M (.BoolOp .And (a :: b :: rest) pos) (vAnd f g) :=
  PE.weak (pe_and ha hb) fun σ H Q ⟨σd, m, q⟩ => ⟨σd, m, wpR_mono (wpR_bind.mp q) fun d σ1 q1 v H1 e1 r1 m1 => by
    cases r1 with
    | bl c =>
      refine ⟨c, rfl, ?_⟩
      cases c with
      | true => exact iteT ⟨σ1, m1, wpR_mono q1 fun _ _ q2 w H2 e2 r2 m2 => q2 w H2 (e1.trans e2) r2 m2⟩
      | false => exact iteF (q1 _ H1 e1 (.bl _) m1)
    | _ => exact q1.elim⟩
theorem se_or (ha : SE X M a f) (hb : SE X M (.BoolOp .Or (b :: rest) pos) g) : SE X M (.BoolOp .Or (a :: b :: rest) pos) (vOr f g) :=
  PE.weak (pe_or ha hb) fun σ H Q ⟨σd, m, q⟩ => ⟨σd, m, wpR_mono (wpR_bind.mp q) fun d σ1 q1 v H1 e1 r1 m1 => by
    cases r1 with
    | bl c =>
      refine ⟨c, rfl, ?_⟩
      cases c with
      | true => exact iteT (q1 _ H1 e1 (.bl _) m1)
      | false => exact iteF ⟨σ1, m1, wpR_mono q1 fun _ _ q2 w H2 e2 r2 m2 => q2 w H2 (e1.trans e2) r2 m2⟩
    | _ => exact q1.elim⟩
theorem se_not (ha : SE X M a f) : SE X M (.UnaryOp .Not a pos) (vNot f) :=
  PE.weak (pe_not ha) fun σ H Q ⟨σd, m, q⟩ => ⟨σd, m, wpR_mono (wpR_bind.mp q) fun d σ1 q1 v H1 e1 r1 m1 => by
    cases r1 with
    | bl c => exact ⟨c, rfl, q1 _ H1 e1 (.bl _) m1⟩
    | _ => exact q1.elim⟩
@[simp] def ite' (t : DEnv → R Bool) (f g : DEnv → R D) : DEnv → R D := fun σ => (t σ).bind fun c σ1 => if c = true then f σ1 else g σ1
theorem se_if (hc : ST X M c tf) (ha : SE X M a f) (hb : SE X M b g) : SE X M (.IfExp c a b pos) (ite' tf f g) :=
  PE.weak (pe_ifExp hc ha hb) fun σ H Q ⟨σd, m, q⟩ => ⟨σd, m, wpR_mono (wpR_bind.mp q) fun d σ1 q1 H1 e1 m1 => by
    cases d with
    | true => exact iteT ⟨σ1, m1, wpR_mono q1 fun _ _ q2 w H2 e2 r2 m2 => q2 w H2 (e1.trans e2) r2 m2⟩
    | false => exact iteF ⟨σ1, m1, wpR_mono q1 fun _ _ q2 w H2 e2 r2 m2 => q2 w H2 (e1.trans e2) r2 m2⟩⟩

/-! ### arguments, displays -/
variable {es : List Expr} {fs : DEnv → R (List D)}
@[simp] def nilA : DEnv → R (List D) := fun σ => .ok [] σ
@[simp] def consA (f : DEnv → R D) (fs : DEnv → R (List D)) : DEnv → R (List D) := fun σ => (f σ).bind fun d σ1 => (fs σ1).bind fun ds σ2 => .ok (d :: ds) σ2
theorem sa_nil : SA X M [] nilA := PA.weak pa_nil fun σ H Q ⟨σd, m, q⟩ => q [] H (Ext.refl H) .nil m
theorem sa_cons (ha : SE X M a f) (hr : SA X M es fs) (hs : starEach (a :: es) X.env = (false, eval a X.env) :: starEach es X.env := by rfl) : SA X M (a :: es) (consA f fs) :=
  PA.weak (pa_cons ha hr hs) fun σ H Q ⟨σd, m, q⟩ => ⟨σd, m, wpR_mono (wpR_bind.mp q) fun d σ1 q1 v H1 e1 r1 m1 => ⟨σ1, m1, wpR_mono (wpR_bind.mp q1) fun ds σ2 q2 vs H2 e2 r2 m2 =>
    q2 (v :: vs) H2 (e1.trans e2) (.cons (r1.ext e2) r2) m2⟩⟩
@[simp] def mkT (fs : DEnv → R (List D)) : DEnv → R D := fun σ => (fs σ).bind fun ds σ1 => if ds.length ≤ 1000 then .ok (.tuple ds) σ1 else .bad
theorem size1000 {n : Nat} (h : n ≤ 1000) : n ≤ sizeLine := Nat.le_of_lt (small1000 h)
theorem se_tup {x1 : Nat} (h : SA X M es fs) : SE X M (.Tuple es x1 pos) (mkT fs) :=
  PE.weak (pe_tup h) fun σ H Q ⟨σd, m, q⟩ => ⟨σd, m, wpR_mono (wpR_bind.mp q) fun ds σ1 q1 vs H1 e1 r1 m1 => by
    have hl := r1.length
    by_cases h9 : ds.length ≤ 1000
    · rw [if_pos h9] at q1
      refine ⟨size1000 (by omega), fun p hp => ?_⟩
      have sm : Same H1 (upd H1 p (.tup vs)) := same_upd hp
      exact q1 _ _ (e1.trans (Ext.same sm)) (.tup (SqT.of upd_same) (r1.ext (Ext.same sm))) (m1.same sm)
    · rw [if_neg h9] at q1
      exact q1.elim⟩
@[simp] def chk (fs : DEnv → R (List D)) : DEnv → R (List D) := fun σ => (fs σ).bind fun ds σ1 => if ds.length ≤ 1000 then .ok ds σ1 else .bad
/-- what is new is no list of a name's own -/
theorem Mt.fresh {σd : DEnv} {σ : L2.St} {H : Hp} {p : Addr} (m : Mt M σd σ H) (h : H p = none) : Fresh M σd σ p where
  ent := by
    cases q : M.H0 p with
    | none => rfl
    | some o =>
      by_cases ht : M.tape = some p
      · obtain ⟨ds, e⟩ := m.tape p ht
        obtain ⟨p', xs, _, h2, _, h4⟩ := m.tap 0 ds e
        rw [ht] at h4
        cases h4
        rw [h] at h2
        cases h2
      · rcases m.kept p o q ht with z | ⟨_, _, _, z⟩ <;> (rw [h] at z; cases z)
  tap := fun ht => by
    obtain ⟨ds, e⟩ := m.tape p ht
    obtain ⟨p', xs, _, h2, _, h4⟩ := m.tap 0 ds e
    rw [ht] at h4
    cases h4
    rw [h] at h2
    cases h2
  own := fun i ds e z => by
    obtain ⟨p', xs, h1, h2, _⟩ := m.own i ds e
    rw [z] at h1
    cases h1
    rw [h] at h2
    cases h2
theorem sf_lst (h : SA X M es fs) : SF X M (.List es pos) (chk fs) :=
  PE.weak (pe_lst h) fun σ H Q ⟨σd, m, q⟩ => ⟨σd, m, wpR_mono (wpR_bind.mp q) fun ds σ1 q1 vs H1 e1 r1 m1 => by
    have hl := r1.length
    by_cases h9 : ds.length ≤ 1000
    · rw [if_pos h9] at q1
      refine ⟨size1000 (by omega), fun p hp => ?_⟩
      have sm : Same H1 (upd H1 p (.lst vs)) := same_upd hp
      have fr := m1.fresh hp
      exact q1 p vs _ (e1.trans (Ext.same sm)) upd_same (r1.ext (Ext.same sm)) (m1.same sm) fr
    · rw [if_neg h9] at q1
      exact q1.elim⟩
/-- a fresh list locked -/
theorem Mt.lockF {σd : DEnv} {σ : L2.St} {H : Hp} {p : Addr} {xs : List V} {od : Obj} (m : Mt M σd σ H) (fr : Fresh M σd σ p) (hH : H p = some (.lst xs)) : Mt M σd σ (upd H p (.frz od (.lst xs))) := by
  have ex : Ext H (upd H p (.frz od (.lst xs))) := Ext.wr hH
  refine ⟨m.len, fun j d e => ?_, fun j es e => ?_, fun j es e => ?_, m.dj, fun b o e1 e2 => ?_, fun P hP => ?_, m.tape, m.tapOne, m.dic.wr hH⟩
  · obtain ⟨v, h1, h2⟩ := m.val j d e
    exact ⟨v, h1, h2.ext ex⟩
  · obtain ⟨q, ys, h1, h2, h3, h4⟩ := m.own j es e
    refine ⟨q, ys, h1, ?_, h3.ext ex, h4⟩
    rw [upd_ne (fun z => fr.own j es e (by rw [← z]; exact h1))]
    exact h2
  · obtain ⟨q, ys, h1, h2, h3, h4⟩ := m.tap j es e
    refine ⟨q, ys, h1, ?_, h3.ext ex, h4⟩
    rw [upd_ne (fun z => fr.tap (by rw [← z]; exact h4))]
    exact h2
  · rw [upd_ne (fun z => by subst z; rw [fr.ent] at e1; cases e1)]
    exact m.kept b o e1 e2
  · obtain ⟨ps, e, t⟩ := m.tabs P hP
    exact ⟨ps, by rw [upd_ne (ne_of e hH (by intro z; cases z))]; exact e, t⟩
@[simp] def asL (fs : DEnv → R (List D)) : DEnv → R D := fun σ => (fs σ).bind fun ds σ1 => .ok (.list ds) σ1
theorem se_fz {e : Expr} (h : SF X M e fs) : SE X M e (asL fs) := by
  refine ⟨fun pins s σ H Q I hq => ?_⟩
  obtain ⟨σd, m, q⟩ := hq
  refine thn (h.run pins s σ H (fun v H1 => ∃ p xs ds σ1, v = .ref p ∧ Ext H H1 ∧ H1 p = some (.lst xs) ∧ RepAll M.K H1 xs ds ∧ Mt M σ1 σ H1 ∧ Fresh M σ1 σ p ∧ ∀ v H', Ext H H' → Rep M.K H' v (.list ds) → Mt M σ1 σ H' → Q v H') I ⟨σd, m, wpR_mono (wpR_bind.mp q) fun ds σ1 q1 p xs H1 e1 hp ra m1 fr => ⟨p, xs, ds, σ1, rfl, e1, hp, ra, m1, fr, q1⟩⟩) fun u s1 hw => ?_
  obtain ⟨v, H1, I1, rv, p, xs, ds, σ1, rfl, e1, hp, ra, m1, fr, q1⟩ := hw
  obtain ⟨od, I2⟩ := I1.lock hp trivial
  exact ⟨.ref p, _, I2, rv, q1 _ _ (e1.trans (Ext.wr hp)) (.lst (.inl ⟨od, upd_same⟩) (ra.ext (Ext.wr hp))) (m1.lockF fr hp)⟩

/-! ### calls of what is built in, by values -/
@[simp] def callD (r : List D → Option D) (fs : DEnv → R (List D)) : DEnv → R D := fun σ => (fs σ).bind fun ds σ1 => lift (r ds) σ1
theorem tCB_of {K : PySem.W.Frag} {r : List D → Option D} {σ : L2.St} {H : Hp} {Q : VK} (hK : K = M.K) (h : tE M (callD r fs) σ H Q) : tCB (rC K r) (tA M fs) σ H Q := by
  subst hK
  obtain ⟨σd, m, q⟩ := h
  refine ⟨σd, m, wpR_mono (wpR_bind.mp q) fun ds σ1 q1 vs H1 e1 r1 m1 => ?_⟩
  obtain ⟨z, hz, q2⟩ := wpR_lift.mp q1
  exact ⟨ds, z, r1, hz, fun u H2 s2 r2 => q2 u H2 (e1.trans (Ext.same s2)) r2 (m1.same s2)⟩
abbrev CallD (X : Cx) (f : Value) (r : List D → Option D) : Prop := CallR X f (rC X.K r)
variable {e : Expr} {x : Str} {p : Pos} {id T : String} {r : List D → Option D}
theorem se_callB (hK : X.K = M.K) (hc : CallD X (.builtin id) r) (hg : Gl X x) (hm : X.mg x = none) (hv : bootBuiltins x = some (.builtin id)) (ha : SA X M (e :: es) fs) (hn : x ≠ "__name__" := by decide) (hdb : (x == ("__debug__" : Str)) = false := by decide)
    (he : starEach (e :: es) X.env = (false, eval e X.env) :: starEach es X.env := by rfl) (hpl : (backTo pos (starEach es X.env)).any (·.1) = false := by rfl) : SE X M (.Call (.Name x p) (e :: es) [] pos) (callD r fs) :=
  PE.weak (pe_callB hc hg hm hv ha hn hdb he hpl) fun σ H Q h => tCB_of hK h
theorem se_callTy (hK : X.K = M.K) (hc : CallD X (.type T) r) (hg : Gl X x) (hm : X.mg x = none) (hv : bootBuiltins x = some (.type T)) (ha : SA X M (e :: es) fs) (hn : x ≠ "__name__" := by decide) (hdb : (x == ("__debug__" : Str)) = false := by decide)
    (he : starEach (e :: es) X.env = (false, eval e X.env) :: starEach es X.env := by rfl) (hpl : (backTo pos (starEach es X.env)).any (·.1) = false := by rfl) : SE X M (.Call (.Name x p) (e :: es) [] pos) (callD r fs) :=
  PE.weak (pe_callTy hc hg hm hv ha hn hdb he hpl) fun σ H Q h => tCB_of hK h
end
end PL
set_option Elab.async false
set_option linter.all false
set_option maxRecDepth 100000
set_option autoImplicit false
/-! Statements over data. -/
namespace PL
open PySem PySem.Spec PyProof.Rows L2

section
variable {X : Cx} {M : Mx}

/-! ### cells -/
/-- a name gets a datum -/
def setC (i : Nat) (c : Cell) (σ : DEnv) : Option DEnv := match σ[i]? with
  | some (.tap _) => none
  | some _ => some (σ.set i c)
  | none => none
@[simp] def setV (i : Nat) (d : D) : DEnv → O := fun σ => match setC i (.val d) σ with
  | some σ' => .nx σ'
  | none => .bad
theorem setC_spec {i : Nat} {c : Cell} {σ σ' : DEnv} (h : setC i c σ = some σ') : σ' = σ.set i c ∧ i < σ.length ∧ ∀ ds, σ[i]? ≠ some (.tap ds) := by
  unfold setC at h
  split at h
  · cases h
  · rename_i x hn e
    cases h
    refine ⟨rfl, (List.getElem?_eq_some_iff.mp e).1, fun ds q => ?_⟩
    rw [e] at q
    cases q
    exact hn ds rfl
  · cases h
theorem Mt.setVal {σd σd' : DEnv} {σ : L2.St} {H : Hp} {i : Nat} {d : D} {v : V} (m : Mt M σd σ H) (h : setC i (.val d) σd = some σd') (r : Rep M.K H v d) : Mt M σd' (σ.set i (some v)) H := by
  obtain ⟨rfl, hi, hn⟩ := setC_spec h
  have hi' : i < σ.length := by rw [← m.len]; exact hi
  have look : ∀ j, i ≠ j → (σ.set i (some v))[j]? = σ[j]? := fun j ne => List.getElem?_set_ne ne
  refine ⟨by rw [List.length_set, List.length_set]; exact m.len, fun j e q => ?_, fun j es q => ?_, fun j es q => ?_, fun j k a b p q1 q2 q3 q4 => ?_, m.kept, m.tabs, fun t ht => ?_, fun j k a b q1 q2 => ?_, m.dic.setS (fun l k z => by cases z)⟩
  · rcases getset q with ⟨rfl, e0⟩ | ⟨ne, q⟩
    · cases e0
      exact ⟨v, List.getElem?_set_self hi', r⟩
    · obtain ⟨w, h1, h2⟩ := m.val j e q
      exact ⟨w, by rw [look j ne]; exact h1, h2⟩
  · rcases getset q with ⟨rfl, e0⟩ | ⟨ne, q⟩
    · cases e0
    · obtain ⟨p, xs, h1, h2⟩ := m.own j es q
      exact ⟨p, xs, by rw [look j ne]; exact h1, h2⟩
  · rcases getset q with ⟨rfl, e0⟩ | ⟨ne, q⟩
    · cases e0
    · obtain ⟨p, xs, h1, h2⟩ := m.tap j es q
      exact ⟨p, xs, by rw [look j ne]; exact h1, h2⟩
  · rcases getset q1 with ⟨rfl, e0⟩ | ⟨n1, q1⟩
    · cases e0
    · rcases getset q2 with ⟨rfl, e0⟩ | ⟨n2, q2⟩
      · cases e0
      · rw [look j n1] at q3
        rw [look k n2] at q4
        exact m.dj j k a b p q1 q2 q3 q4
  · obtain ⟨ds, q⟩ := m.tape t ht
    refine ⟨ds, ?_⟩
    rw [List.getElem?_set_ne (fun z => by subst z; exact hn ds q)]
    exact q
  · rcases getset q1 with ⟨rfl, e0⟩ | ⟨_, q1⟩
    · cases e0
    · rcases getset q2 with ⟨rfl, e0⟩ | ⟨_, q2⟩
      · cases e0
      · exact m.tapOne j k a b q1 q2
theorem Mt.setOwn {σd σd' : DEnv} {σ : L2.St} {H : Hp} {i : Nat} {ds : List D} {p : Addr} {xs : List V} (m : Mt M σd σ H) (h : setC i (.own ds) σd = some σd') (hp : H p = some (.lst xs)) (ra : RepAll M.K H xs ds) (fr : Fresh M σd σ p) : Mt M σd' (σ.set i (some (.ref p))) H := by
  obtain ⟨rfl, hi, hn⟩ := setC_spec h
  have hi' : i < σ.length := by rw [← m.len]; exact hi
  have look : ∀ j, i ≠ j → (σ.set i (some (.ref p)))[j]? = σ[j]? := fun j ne => List.getElem?_set_ne ne
  refine ⟨by rw [List.length_set, List.length_set]; exact m.len, fun j e q => ?_, fun j es q => ?_, fun j es q => ?_, fun j k a b p' q1 q2 q3 q4 => ?_, m.kept, m.tabs, fun t ht => ?_, fun j k a b q1 q2 => ?_, m.dic.setS (fun l k z => by cases z)⟩
  · rcases getset q with ⟨rfl, e0⟩ | ⟨ne, q⟩
    · cases e0
    · obtain ⟨w, h1, h2⟩ := m.val j e q
      exact ⟨w, by rw [look j ne]; exact h1, h2⟩
  · rcases getset q with ⟨rfl, e0⟩ | ⟨ne, q⟩
    · cases e0
      exact ⟨p, xs, List.getElem?_set_self hi', hp, ra, fr.ent, fr.tap⟩
    · obtain ⟨p', xs, h1, h2⟩ := m.own j es q
      exact ⟨p', xs, by rw [look j ne]; exact h1, h2⟩
  · rcases getset q with ⟨rfl, e0⟩ | ⟨ne, q⟩
    · cases e0
    · obtain ⟨p', xs, h1, h2⟩ := m.tap j es q
      exact ⟨p', xs, by rw [look j ne]; exact h1, h2⟩
  · rcases getset q1 with ⟨rfl, e0⟩ | ⟨n1, q1⟩
    · rcases getset q2 with ⟨rfl, e1⟩ | ⟨n2, q2⟩
      · rfl
      · rw [List.getElem?_set_self hi'] at q3
        cases q3
        rw [look k n2] at q4
        exact absurd q4 (fr.own k b q2)
    · rcases getset q2 with ⟨rfl, e1⟩ | ⟨n2, q2⟩
      · rw [List.getElem?_set_self hi'] at q4
        cases q4
        rw [look j n1] at q3
        exact absurd q3 (fr.own j a q1)
      · rw [look j n1] at q3
        rw [look k n2] at q4
        exact m.dj j k a b p' q1 q2 q3 q4
  · obtain ⟨es, q⟩ := m.tape t ht
    refine ⟨es, ?_⟩
    rw [List.getElem?_set_ne (fun z => by subst z; exact hn es q)]
    exact q
  · rcases getset q1 with ⟨rfl, e0⟩ | ⟨_, q1⟩
    · cases e0
    · rcases getset q2 with ⟨rfl, e0⟩ | ⟨_, q2⟩
      · cases e0
      · exact m.tapOne j k a b q1 q2
/-- a list of a name's own, or lent: its data -/
@[simp] def lstOf (i : Nat) (σ : DEnv) : Option (List D) := match σ[i]? with
  | some (.own ds) => some ds
  | some (.tap ds) => some ds
  | _ => none
/-- .. written over -/
@[simp] def putL (i : Nat) (ds : List D) (σ : DEnv) : DEnv := match σ[i]? with
  | some (.own _) => σ.set i (.own ds)
  | some (.tap _) => σ.set i (.tap ds)
  | _ => σ
theorem Mt.lstOf {σd : DEnv} {σ : L2.St} {H : Hp} {i : Nat} {ds : List D} (m : Mt M σd σ H) (h : lstOf i σd = some ds) : ∃ p xs, σ[i]? = some (some (.ref p)) ∧ H p = some (.lst xs) ∧ RepAll M.K H xs ds := by
  unfold PL.lstOf at h
  split at h
  · rename_i es e
    cases h
    obtain ⟨p, xs, h1, h2, h3, _⟩ := m.own i _ e
    exact ⟨p, xs, h1, h2, h3⟩
  · rename_i es e
    cases h
    obtain ⟨p, xs, h1, h2, h3, _⟩ := m.tap i _ e
    exact ⟨p, xs, h1, h2, h3⟩
  · cases h
theorem Mt.putL {σd : DEnv} {σ : L2.St} {H : Hp} {i : Nat} {ds es : List D} {p : Addr} {xs ys : List V} (m : Mt M σd σ H) (h : PL.lstOf i σd = some ds) (hp : σ[i]? = some (some (.ref p))) (hH : H p = some (.lst xs)) (ra : RepAll M.K H ys es) : Mt M (putL i es σd) σ (upd H p (.lst ys)) := by
  have ex : Ext H (upd H p (.lst ys)) := Ext.wr hH
  have kp : ∀ b o, M.H0 b = some o → M.tape ≠ some b → b ≠ p := by
    intro b o e1 e2 z
    subst z
    unfold PL.lstOf at h
    split at h
    · rename_i e
      obtain ⟨p', _, h1, _, _, h4, _⟩ := m.own i _ e
      rw [hp] at h1
      cases h1
      rw [h4] at e1
      cases e1
    · rename_i e
      obtain ⟨p', _, h1, _, _, h4⟩ := m.tap i _ e
      rw [hp] at h1
      cases h1
      exact e2 h4
    · cases h
  have tb : ∀ P ∈ M.tabs, TabG (upd H p (.lst ys)) P := fun P hP => by
    obtain ⟨ps, e, t⟩ := m.tabs P hP
    exact ⟨ps, by rw [upd_ne (ne_of e hH (by intro z; cases z))]; exact e, t⟩
  unfold PL.lstOf at h
  unfold PL.putL
  split at h
  · rename_i es0 e
    cases h
    obtain ⟨p0, _, g1, _, _, g4, g5⟩ := m.own i _ e
    rw [hp] at g1
    cases g1
    refine ⟨by rw [List.length_set]; exact m.len, fun j d q => ?_, fun j fs q => ?_, fun j fs q => ?_, fun j k a b p' q1 q2 q3 q4 => ?_, fun b o e1 e2 => ?_, tb, fun t ht => ?_, fun j k a b q1 q2 => ?_, (m.dic.wr hH).set (fun l k z => by cases z)⟩
    · rcases getset q with ⟨rfl, e0⟩ | ⟨ne, q⟩
      · cases e0
      · obtain ⟨v, h1, h2⟩ := m.val j d q
        exact ⟨v, h1, h2.ext ex⟩
    · rcases getset q with ⟨rfl, e0⟩ | ⟨ne, q⟩
      · cases e0
        exact ⟨p, ys, hp, upd_same, ra.ext ex, g4, g5⟩
      · obtain ⟨p', zs, h1, h2, h3, h4⟩ := m.own j fs q
        refine ⟨p', zs, h1, ?_, h3.ext ex, h4⟩
        rw [upd_ne (fun z => ne (by subst z; exact m.dj i j _ _ _ e q hp h1))]
        exact h2
    · rcases getset q with ⟨rfl, e0⟩ | ⟨ne, q⟩
      · cases e0
      · obtain ⟨p', zs, h1, h2, h3, h4⟩ := m.tap j fs q
        refine ⟨p', zs, h1, ?_, h3.ext ex, h4⟩
        rw [upd_ne (fun z => g5 (by rw [← z]; exact h4))]
        exact h2
    · have q1' : ∃ a', σd[j]? = some (.own a') := by
        rcases getset q1 with ⟨rfl, _⟩ | ⟨_, q⟩
        · exact ⟨_, e⟩
        · exact ⟨_, q⟩
      have q2' : ∃ a', σd[k]? = some (.own a') := by
        rcases getset q2 with ⟨rfl, _⟩ | ⟨_, q⟩
        · exact ⟨_, e⟩
        · exact ⟨_, q⟩
      obtain ⟨a', q1'⟩ := q1'
      obtain ⟨b', q2'⟩ := q2'
      exact m.dj j k a' b' p' q1' q2' q3 q4
    · rw [upd_ne (kp b o e1 e2)]
      exact m.kept b o e1 e2
    · obtain ⟨fs, q⟩ := m.tape t ht
      refine ⟨fs, ?_⟩
      rw [List.getElem?_set_ne (fun z => by subst z; rw [e] at q; cases q)]
      exact q
    · rcases getset q1 with ⟨rfl, e0⟩ | ⟨_, q1⟩
      · cases e0
      · rcases getset q2 with ⟨rfl, e0⟩ | ⟨_, q2⟩
        · cases e0
        · exact m.tapOne j k a b q1 q2
  · rename_i es0 e
    cases h
    obtain ⟨p0, _, g1, _, _, g4⟩ := m.tap i _ e
    rw [hp] at g1
    cases g1
    refine ⟨by rw [List.length_set]; exact m.len, fun j d q => ?_, fun j fs q => ?_, fun j fs q => ?_, fun j k a b p' q1 q2 q3 q4 => ?_, fun b o e1 e2 => ?_, tb, fun t ht => ?_, fun j k a b q1 q2 => ?_, (m.dic.wr hH).set (fun l k z => by cases z)⟩
    · rcases getset q with ⟨rfl, e0⟩ | ⟨ne, q⟩
      · cases e0
      · obtain ⟨v, h1, h2⟩ := m.val j d q
        exact ⟨v, h1, h2.ext ex⟩
    · rcases getset q with ⟨rfl, e0⟩ | ⟨ne, q⟩
      · cases e0
      · obtain ⟨p', zs, h1, h2, h3, h4, h5⟩ := m.own j fs q
        refine ⟨p', zs, h1, ?_, h3.ext ex, h4, h5⟩
        rw [upd_ne (fun z => h5 (by rw [z]; exact g4))]
        exact h2
    · rcases getset q with ⟨rfl, e0⟩ | ⟨ne, q⟩
      · cases e0
        exact ⟨p, ys, hp, upd_same, ra.ext ex, g4⟩
      · obtain ⟨p', zs, h1, h2, h3, h4⟩ := m.tap j fs q
        rw [g4] at h4
        cases h4
        exact absurd (m.tapOne i j _ _ e q) ne
    · rcases getset q1 with ⟨rfl, e0⟩ | ⟨_, q1⟩
      · cases e0
      · rcases getset q2 with ⟨rfl, e0⟩ | ⟨_, q2⟩
        · cases e0
        · exact m.dj j k a b p' q1 q2 q3 q4
    · rw [upd_ne (kp b o e1 e2)]
      exact m.kept b o e1 e2
    · obtain ⟨fs, q⟩ := m.tape t ht
      by_cases z : i = 0
      · subst z
        rw [e] at q
        cases q
        exact ⟨es, List.getElem?_set_self (List.getElem?_eq_some_iff.mp e).1⟩
      · exact ⟨fs, by rw [List.getElem?_set_ne z]; exact q⟩
    · have q1' : ∃ a', σd[j]? = some (.tap a') := by
        rcases getset q1 with ⟨rfl, _⟩ | ⟨_, q⟩
        · exact ⟨_, e⟩
        · exact ⟨_, q⟩
      have q2' : ∃ a', σd[k]? = some (.tap a') := by
        rcases getset q2 with ⟨rfl, _⟩ | ⟨_, q⟩
        · exact ⟨_, e⟩
        · exact ⟨_, q⟩
      obtain ⟨a', q1'⟩ := q1'
      obtain ⟨b', q2'⟩ := q2'
      exact m.tapOne j k a' b' q1' q2'
  · cases h

/-! ### small statements -/
variable {e : Expr} {f : DEnv → R D} {fs : DEnv → R (List D)} {pos : Pos} {st : Stmt} {rest : List Stmt} {F G : DEnv → O}
theorem wpO_seq {x : O} {g : DEnv → O} {H : Hp} {D : Ends} (h : wpO M (x.seq g) H D) : wpO M x H { D with nx := tS M g D } := by
  cases x with
  | nx σ1 => exact fun σ' H' e m => ⟨σ1, m, wpO_ext e h⟩
  | ret d σ1 => exact h
  | retF d σ1 => exact h
  | brk σ1 => exact h
  | cnt σ1 => exact h
  | exc c σ1 => exact h
  | bad => exact h
theorem ss_nil : SSs X M [] (fun σ => .nx σ) := PSs.weak pss_nil fun D σ H ⟨σd, m, q⟩ => q σ H (Ext.refl H) m
theorem ss_cons (h1 : SS X M st F) (h2 : SSs X M rest G) : SSs X M (st :: rest) (fun σ => (F σ).seq G) :=
  PSs.weak (pss_cons h1 h2) fun D σ H ⟨σd, m, q⟩ => ⟨σd, m, wpO_seq q⟩
theorem ss_one (h1 : SS X M st F) : SSs X M [st] F := pss_one h1
theorem ss_pass : SS X M (.Pass pos) (fun σ => .nx σ) := PS.weak ps_pass fun D σ H ⟨σd, m, q⟩ => q σ H (Ext.refl H) m
theorem ss_break : SS X M (.Break pos) (fun σ => .brk σ) := PS.weak ps_break fun D σ H ⟨σd, m, q⟩ => q σ H (Ext.refl H) m
theorem ss_cont : SS X M (.Continue pos) (fun σ => .cnt σ) := PS.weak ps_continue fun D σ H ⟨σd, m, q⟩ => q σ H (Ext.refl H) m
theorem ss_doc {x : Str} {j : Nat} {pos' : Pos} : SS X M (.Expr (.Constant (.str x) j pos) pos') (fun σ => .nx σ) := PS.weak ps_doc fun D σ H ⟨σd, m, q⟩ => q σ H (Ext.refl H) m
theorem wpR_thn {α : Type} {x : R α} {g : α → DEnv → O} {H : Hp} {D : Ends} (h : wpO M (x.thn g) H D) : wpR x (fun a σ1 => wpO M (g a σ1) H D) M.W := by
  cases x with
  | ok a σ1 => exact h
  | exc c σ1 => exact h
  | bad => exact h
theorem ss_ret (h : SE X M e f) : SS X M (.Return (some e) pos) (fun σ => (f σ).thn fun d σ1 => .ret d σ1) :=
  PS.weak (ps_ret h) fun D σ H ⟨σd, m, q⟩ => ⟨σd, m, wpR_mono (wpR_thn q) fun d σ1 q1 v H1 e1 r1 m1 => q1 v σ H1 e1 r1 m1⟩
/-- return a new list: it is handed over -/
theorem ss_retF (h : SF X M e fs) : SS X M (.Return (some e) pos) (fun σ => (fs σ).thn fun d σ1 => .retF d σ1) :=
  PS.weak (ps_ret h) fun D σ H ⟨σd, m, q⟩ => ⟨σd, m, wpR_mono (wpR_thn q) fun d σ1 q1 p xs H1 e1 hp ra m1 fr => q1 p xs σ H1 e1 hp ra m1 fr⟩
theorem ss_retN : SS X M (.Return none pos) (fun σ => .ret .none σ) := PS.weak ps_retN fun D σ H ⟨σd, m, q⟩ => q .non σ H (Ext.refl H) .non m
theorem ss_expr (h : SE X M e f) (hs : swapsWith e none pos.line X.env = pure false := by rfl) : SS X M (.Expr e pos) (fun σ => (f σ).thn fun _ σ1 => .nx σ1) :=
  PS.weak (ps_expr h hs) fun D σ H ⟨σd, m, q⟩ => ⟨σd, m, wpR_mono (wpR_thn q) fun d σ1 q1 v H1 e1 r1 m1 => q1 σ H1 e1 m1⟩
theorem ss_if {c : Expr} {a b : List Stmt} {t : DEnv → R Bool} (hc : ST X M c t) (ha : SSs X M a F) (hb : SSs X M b G) : SS X M (.If c a b pos) (fun σ => (t σ).thn fun c σ1 => if c = true then F σ1 else G σ1) :=
  PS.weak (ps_if hc ha hb) fun D σ H ⟨σd, m, q⟩ => ⟨σd, m, wpR_mono (wpR_thn q) fun c σ1 q1 H1 e1 m1 => by
    cases c with
    | true => exact iteT ⟨σ1, m1, wpO_ext e1 q1⟩
    | false => exact iteF ⟨σ1, m1, wpO_ext e1 q1⟩⟩
theorem wpO_setV {i : Nat} {d : D} {σ1 : DEnv} {σ : L2.St} {D : Ends} {H H0 : Hp} {v : V} (q : wpO M (setV i d σ1) H0 D) (e : Ext H0 H) (r : Rep M.K H v d) (m : Mt M σ1 σ H) : D.nx (σ.set i (some v)) H := by
  unfold setV at q
  split at q
  · rename_i σ2 h
    exact q _ H e (m.setVal h r)
  · exact q.elim
theorem ss_set {i : Nat} {x : Str} {pos' : Pos} (hN : X.N.Nodup) (hi : X.N[i]? = some x) (hx : Loc X.env.scope x) (h : SE X M e f) (hs : swapsWith e (some (.Name x pos')) pos.line X.env = pure false := by rfl) (hf : X.fn x = true ∨ X.env.scope.names.lookup x = some .local := by first | exact .inl rfl | exact .inr rfl | assumption) :
    SS X M (.Assign [.Name x pos'] e pos) (fun σ => (f σ).thn (setV i)) :=
  PS.weak (ps_set hN hi hx h hs hf) fun D σ H ⟨σd, m, q⟩ => ⟨σd, m, wpR_mono (wpR_thn q) fun d σ1 q1 v H1 e1 r1 m1 => wpO_setV q1 e1 r1 m1⟩
@[simp] def setF (i : Nat) (ds : List D) : DEnv → O := fun σ => match setC i (.own ds) σ with
  | some σ' => .nx σ'
  | none => .bad
theorem wpO_setF {i : Nat} {ds : List D} {σ1 : DEnv} {σ : L2.St} {D : Ends} {H H0 : Hp} {p : Addr} {xs : List V} (q : wpO M (setF i ds σ1) H0 D) (e : Ext H0 H) (hp : H p = some (.lst xs)) (ra : RepAll M.K H xs ds) (m : Mt M σ1 σ H) (fr : Fresh M σ1 σ p) : D.nx (σ.set i (some (.ref p))) H := by
  unfold setF at q
  split at q
  · rename_i σ2 h2
    exact q _ H e (m.setOwn h2 hp ra fr)
  · exact q.elim
/-- name = a new list, the name's own -/
theorem ss_setF {i : Nat} {x : Str} {pos' : Pos} (hN : X.N.Nodup) (hi : X.N[i]? = some x) (hx : Loc X.env.scope x) (h : SF X M e fs) (hs : swapsWith e (some (.Name x pos')) pos.line X.env = pure false := by rfl) (hf : X.fn x = true ∨ X.env.scope.names.lookup x = some .local := by first | exact .inl rfl | exact .inr rfl | assumption) :
    SS X M (.Assign [.Name x pos'] e pos) (fun σ => (fs σ).thn (setF i)) :=
  PS.weak (ps_set hN hi hx h hs hf) fun D σ H ⟨σd, m, q⟩ => ⟨σd, m, wpR_mono (wpR_thn q) fun ds σ1 q1 p xs H1 e1 hp ra m1 fr => wpO_setF q1 e1 hp ra m1 fr⟩

/-! ### own lists written -/
@[simp] def appL (i : Nat) (d : D) : DEnv → O := fun σ => match lstOf i σ with
  | some ds => if ds.length < 1000000 then .nx (putL i (ds ++ [d]) σ) else .bad
  | none => .bad
theorem mil {n : Nat} (h : n ≤ 1000000) : n < sizeLine := by
  have e : sizeLine = 16777216 := sizeLine_eq
  omega
/-- x.append(e), x a list of its own -/
theorem ss_append {i : Nat} {x : Str} {p1 p2 p3 : Pos} (hN : X.N[i]? = some x) (hv : Vis X.env.scope x) (h : SE X M e f) (hd : (x == ("__debug__" : Str)) = false := by decide) (hcd : (x == ("__classdict__" : Str)) = false := by decide)
    (hbase : attributeBase (.Name x p1) ("append" : Str) X.env (eval (.Name x p1) X.env) = eval (.Name x p1) X.env := by rfl) (hfew : ((backTo p3 (starEach [e] X.env)).all (fun x => !x.1) && (backToKw p3 (keywordEach [] X.env)).all (fun x => x.1.isSome)
      && decide ([e].length + ([] : List Keyword).length + (if ([] : List Keyword).isEmpty then 0 else 1) < 30)) = true := by rfl)
    (hline : (p2.endLine == p3.line) = true := by rfl) (hse : starEach [e] X.env = (false, eval e X.env) :: starEach [] X.env := by rfl) (hs : swapsWith (.Call (.Attribute (.Name x p1) ("append" : Str) p2) [e] [] p3) none pos.line X.env = pure false := by rfl) :
    SS X M (.Expr (.Call (.Attribute (.Name x p1) ("append" : Str) p2) [e] [] p3) pos) (fun σ => match lstOf i σ with
      | some _ => (f σ).thn (appL i)
      | none => .bad) := by
  have base : PE X (.Name x p1) (tVar i) := pe_var hN hv hd hcd
  refine PS.weak (ps_expr (pe_bm PySem.F.plainAttrs_list PySem.F.slot_list_append PySem.F.type_list_append mt_append base (pa_cons h pa_nil hse) hbase hfew hline hse rfl) hs) fun D σ H ⟨σd, m, q⟩ => ?_
  cases hl : lstOf i σd with
  | none => simp only [hl] at q; exact q.elim
  | some ds0 =>
    simp only [hl] at q
    obtain ⟨p, xs, h1, h2, h3⟩ := m.lstOf hl
    refine ⟨.ref p, h1, .inl ⟨rfl, xs, SqL.of h2⟩, σd, m, wpR_mono (wpR_thn q) fun d σ1 q1 v H1 e1 r1 m1 => ?_⟩
    unfold appL at q1
    cases hl1 : lstOf i σ1 with
    | none => simp only [hl1] at q1; exact q1.elim
    | some ds =>
      simp only [hl1] at q1
      split at q1
      · rename_i hlen
        obtain ⟨p', ys, g1, g2, g3⟩ := m1.lstOf hl1
        rw [h1] at g1
        cases g1
        refine ⟨p, ys, v, rfl, rfl, g2, ?_, ?_⟩
        · have := g3.length
          exact mil (by omega)
        · exact q1 σ _ (e1.trans (Ext.wr g2)) (m1.putL hl1 h1 g2 (g3.app (.cons r1 .nil)))
      · exact q1.elim
/-- where an index of a list of n items is -/
@[simp] def ixD (n : Nat) (k : Int) : Option Nat := ixN n k
@[simp] def stoL (i : Nat) (k d : D) : DEnv → O := fun σ => match lstOf i σ, k with
  | some ds, .int z => match ixD ds.length z with
    | some j => .nx (putL i (ds.set j d) σ)
    | none => .bad
  | _, _ => .bad
/-- x[k] = e, x a list of its own -/
theorem ss_store {i : Nat} {x : Str} {k : Expr} {g : DEnv → R D} {p1 p2 : Pos} (hN : X.N[i]? = some x) (hv : Vis X.env.scope x) (h : SE X M e f) (hk : SE X M k g) (hd : (x == ("__debug__" : Str)) = false := by decide) (hcd : (x == ("__classdict__" : Str)) = false := by decide)
    (ha : ∀ v, assign (.Subscript (.Name x p1) k p2) X.env v = (do
      let ov ← holding [v] (eval (.Name x p1) X.env)
      let iv ← holding [v, ov] (eval k X.env)
      standAt p2
      holding [v, ov, iv] (setItem ov iv v)
      release [v, ov, iv] []) := by intro _; rfl)
    (hs : swapsWithSole [.Subscript (.Name x p1) k p2] e pos.line X.env = pure false := by rfl) (hw : swappedStores [.Subscript (.Name x p1) k p2] e X.env = pure none := by rfl) (h1 : (assignEach [.Subscript (.Name x p1) k p2] X.env).map (·.2) = [assign (.Subscript (.Name x p1) k p2) X.env] := by rfl) :
    SS X M (.Assign [.Subscript (.Name x p1) k p2] e pos) (fun σ => (f σ).thn fun d σ1 => match lstOf i σ1 with
      | some _ => (g σ1).thn fun kd σ2 => stoL i kd d σ2
      | none => .bad) := by
  have base : PE X (.Name x p1) (tVar i) := pe_var hN hv hd hcd
  refine PS.weak (ps_asg h (pg_sub base hk set_list ha) hs hw h1) fun D σ H ⟨σd, m, q⟩ => ⟨σd, m, wpR_mono (wpR_thn q) fun d σ1 q1 v H1 e1 r1 m1 => ?_⟩
  cases hl : lstOf i σ1 with
  | none => simp only [hl] at q1; exact q1.elim
  | some ds0 =>
    simp only [hl] at q1
    obtain ⟨p, xs, h1, h2, h3⟩ := m1.lstOf hl
    refine ⟨.ref p, h1, σ1, m1, wpR_mono (wpR_thn q1) fun kd σ2 q2 w H2 e2 r2 m2 => ?_⟩
    unfold stoL at q2
    cases hl2 : lstOf i σ2 with
    | none => simp only [hl2] at q2; exact q2.elim
    | some ds =>
      simp only [hl2] at q2
      cases r2 with
      | int z =>
        simp only at q2
        split at q2
        · rename_i j hj
          obtain ⟨p', ys, g1, g2, g3⟩ := m2.lstOf hl2
          rw [h1] at g1
          cases g1
          refine ⟨p, ys, z, j, rfl, rfl, g2, ?_, ?_⟩
          · rw [g3.length]; exact hj
          · exact q2 σ _ (e1.trans (e2.trans (Ext.wr g2))) (m2.putL hl2 h1 g2 (g3.set (r1.ext e2) j))
        · exact q2.elim
      | _ => exact q2.elim
/-- x.pop() -/
@[simp] def popE (i : Nat) : DEnv → R D := fun σ => match lstOf i σ with
  | some ds => match ds[ds.length - 1]? with
    | some d => .ok d (putL i ds.dropLast σ)
    | none => .bad
  | none => .bad
theorem RepAll.dropLast {K : PySem.W.Frag} {H : Hp} {vs : List V} {ds : List D} (r : RepAll K H vs ds) : RepAll K H vs.dropLast ds.dropLast := by
  rw [List.dropLast_eq_take, List.dropLast_eq_take, r.length]
  exact r.take _
theorem se_pop {i : Nat} {x : Str} {p1 p2 p3 : Pos} (hN : X.N[i]? = some x) (hv : Vis X.env.scope x) (hd : (x == ("__debug__" : Str)) = false := by decide) (hcd : (x == ("__classdict__" : Str)) = false := by decide)
    (hbase : attributeBase (.Name x p1) ("pop" : Str) X.env (eval (.Name x p1) X.env) = eval (.Name x p1) X.env := by rfl) (hline : (p2.endLine == p3.line) = true := by rfl) :
    SE X M (.Call (.Attribute (.Name x p1) ("pop" : Str) p2) [] [] p3) (popE i) := by
  have base : PE X (.Name x p1) (tVar i) := pe_var hN hv hd hcd
  refine PE.weak (pe_bm0 PySem.F.plainAttrs_list PySem.F.slot_list_pop PySem.F.type_list_pop mt_pop base hbase hline) fun σ H Q ⟨σd, m, q⟩ => ?_
  unfold popE at q
  cases hl : lstOf i σd with
  | none => simp only [hl] at q; exact q.elim
  | some ds =>
    simp only [hl] at q
    split at q
    · rename_i d hd2
      obtain ⟨p, xs, h1, h2, h3⟩ := m.lstOf hl
      obtain ⟨v, g1, g2⟩ := h3.get hd2
      refine ⟨.ref p, h1, .inl ⟨rfl, xs, SqL.of h2⟩, p, xs, v, rfl, rfl, h2, by rw [h3.length]; exact g1, ?_⟩
      exact q v _ (Ext.wr h2) (g2.ext (Ext.wr h2)) (m.putL hl h1 h2 h3.dropLast)
    · exact q.elim

/-! ### while -/
def whileF (t : DEnv → R Bool) (b : DEnv → O) : Nat → DEnv → O
  | 0, _ => .bad
  | n + 1, σ => (t σ).thn fun c σ1 => if c = true then (match b σ1 with
      | .nx σ2 => whileF t b n σ2
      | .cnt σ2 => whileF t b n σ2
      | .brk σ2 => .nx σ2
      | .ret d σ2 => .ret d σ2
      | .retF d σ2 => .retF d σ2
      | .exc k σ2 => .exc k σ2
      | .bad => .bad) else .nx σ1
theorem ss_while {c : Expr} {body : List Stmt} {t : DEnv → R Bool} (n : Nat) (hp : PassesOwn (model X.prog X.w) X.A X.env X.xe) (hc : ST X M c t) (hb : SSs X M body F) : SS X M (.While c body [] pos) (whileF t F n) :=
  PS.weak (ps_while hp hc hb) fun D σ H ⟨σd, m, q⟩ => by
    refine ⟨fun k σ' H' => ∃ σ1, Mt M σ1 σ' H' ∧ wpO M (whileF t F k σ1) H' D, ⟨n, σd, m, q⟩, fun k σ' H' ⟨σ1, m1, q1⟩ => ?_⟩
    cases k with
    | zero => exact q1.elim
    | succ k =>
      refine ⟨σ1, m1, wpR_mono (wpR_thn q1) fun b σ2 q2 H2 e2 m2 => ?_⟩
      cases b with
      | false => exact iteF (q2 σ' H2 e2 m2)
      | true =>
        refine iteT ⟨fun σ3 H3 => ∃ σ4, Mt M σ4 σ3 H3 ∧ wpO M (whileF t F k σ4) H3 D, fun σ3 H3 h3 => ⟨k, Nat.lt_succ_self k, h3⟩, σ2, m2, ?_⟩
        rw [if_pos rfl] at q2
        cases hF : F σ2 with
        | nx σ3 => rw [hF] at q2; exact fun σ4 H4 e4 m4 => ⟨σ3, m4, wpO_ext (e2.trans e4) q2⟩
        | cnt σ3 => rw [hF] at q2; exact fun σ4 H4 e4 m4 => ⟨σ3, m4, wpO_ext (e2.trans e4) q2⟩
        | brk σ3 => rw [hF] at q2; exact fun σ4 H4 e4 m4 => q2 σ4 H4 (e2.trans e4) m4
        | ret d σ3 => rw [hF] at q2; exact fun v σ4 H4 e4 r m4 => q2 v σ4 H4 (e2.trans e4) r m4
        | retF d σ3 => rw [hF] at q2; exact fun p xs σ4 H4 e4 h1 h2 m4 fr => q2 p xs σ4 H4 (e2.trans e4) h1 h2 m4 fr
        | exc k' σ3 => rw [hF] at q2; exact q2
        | bad => rw [hF] at q2; exact q2

/-! ### what is walked -/
/-- the items of an iterator, from the heap H on -/
structure ItD (K : PySem.W.Frag) (H : Hp) (J : It) (ds : List D) : Prop where
  go : ∀ (H' : Hp) (i : Nat) (d : D), Ext H H' → ds[i]? = some d → J.go i H'
  yld : ∀ (H' : Hp) (i : Nat) (d : D) (x : V) (H2 : Hp), Ext H H' → ds[i]? = some d → J.yld i H' x H2 → Same H' H2 ∧ Rep K H2 x d
  stop : ∀ (H' : Hp), Ext H H' → J.stop ds.length H'
def iD (M : Mx) (f : DEnv → R (List D)) : TI := fun σ H Q => ∃ σd, Mt M σd σ H ∧ wpR (f σd) (fun ds σ1 => ∀ J H1, Ext H H1 → Mt M σ1 σ H1 → ItD M.K H1 J ds → Q J H1) M.W
abbrev SI (X : Cx) (M : Mx) (tg iter : Expr) (f : DEnv → R (List D)) : Prop := PI X tg iter (iD M f)
theorem PI.weak {tg e : Expr} {t t' : TI} (h : PI X tg e t) (k : ∀ σ H Q, t' σ H Q → t σ H Q) : PI X tg e t' := ⟨fun pins s σ H Q I q => h.run pins s σ H Q I (k _ _ _ q)⟩
def itemsL : D → Option (List D)
  | .list ds => some ds
  | _ => none
def itemsT : D → Option (List D)
  | .tuple ds => some ds
  | _ => none
@[simp] def onD (r : D → Option (List D)) (f : DEnv → R D) : DEnv → R (List D) := fun σ => (f σ).bind fun d σ1 => lift (r d) σ1
variable {tg it : Expr}
theorem getE {α : Type} {l : List α} {i : Nat} {a : α} (h : l[i]? = some a) : i < l.length := (List.getElem?_eq_some_iff.mp h).1
theorem sqL_inj {K : PySem.W.Frag} {H : Hp} {a : Addr} {xs ys : List V} (o : Obj) (h : H a = some (.frz o (.lst xs))) (h' : SqL K H a ys) (hk : K.lookup a = none) : ys = xs := by
  rcases h' with (h' | ⟨o', h'⟩) | ⟨o', _, _, e, _⟩
  · rw [h] at h'; cases h'
  · rw [h] at h'; cases h'; rfl
  · rw [hk] at e; cases e
end
end PL
set_option Elab.async false
set_option linter.all false
set_option maxRecDepth 100000
set_option autoImplicit false
/-! Walks over data: for, comprehensions. -/
namespace PL
open PySem PySem.Spec PyProof.Rows L2

section
variable {X : Cx} {M : Mx} {tg it e e2 : Expr} {f g : DEnv → R D} {fs : DEnv → R (List D)} {pos p tpos : Pos}

/-! ### sources -/
theorem itL {K : PySem.W.Frag} {H : Hp} {a : Addr} {xs : List V} {ds : List D} (h : FzL K H a xs) (r : RepAll K H xs ds) : ItD K H (Itl K a) ds where
  go := fun H' i d e q => let ⟨v, h1, _⟩ := r.get q; ⟨xs, v, (h.mono e).sq, h1⟩
  yld := fun H' i d x H2 e q y => by
    obtain ⟨rfl, y⟩ := y
    obtain ⟨v, h1, h2⟩ := r.get q
    have h3 := y xs (h.mono e).sq
    rw [h1] at h3
    cases h3
    exact ⟨Same.refl _, h2.ext e⟩
  stop := fun H' e => ⟨xs, (h.mono e).sq, Nat.le_of_eq r.length⟩
theorem itT {K : PySem.W.Frag} {H : Hp} {a : Addr} {xs : List V} {ds : List D} (h : SqT K H a xs) (r : RepAll K H xs ds) : ItD K H (Itt K a) ds where
  go := fun H' i d e q => let ⟨v, h1, _⟩ := r.get q; ⟨xs, v, sqT_mono e h, h1⟩
  yld := fun H' i d x H2 e q y => by
    obtain ⟨rfl, y⟩ := y
    obtain ⟨v, h1, h2⟩ := r.get q
    have h3 := y xs (sqT_mono e h)
    rw [h1] at h3
    cases h3
    exact ⟨Same.refl _, h2.ext e⟩
  stop := fun H' e => ⟨xs, sqT_mono e h, Nat.le_of_eq r.length⟩
/-- lo, lo + 1, .. -/
def rangeD (lo : Int) (n : Nat) : List D := (List.range n).map fun k : Nat => .int (lo + k)
theorem rangeD_get {lo : Int} {n i : Nat} {d : D} (h : (rangeD lo n)[i]? = some d) : i < n ∧ d = .int (lo + i) := by
  unfold rangeD at h
  rw [List.getElem?_map] at h
  by_cases hi : i < n
  · rw [List.getElem?_range hi] at h
    exact ⟨hi, (Option.some.inj h).symm⟩
  · rw [List.getElem?_eq_none (by simpa using hi)] at h
    cases h
theorem rangeD_length {lo : Int} {n : Nat} : (rangeD lo n).length = n := by simp [rangeD]
theorem itR {K : PySem.W.Frag} {H : Hp} {lo : Int} {n : Nat} : ItD K H (Itr lo n) (rangeD lo n) where
  go := fun H' i d e q => (rangeD_get q).1
  yld := fun H' i d x H2 e q y => by
    obtain ⟨rfl, rfl⟩ := y
    obtain ⟨_, rfl⟩ := rangeD_get q
    exact ⟨Same.refl _, .int _⟩
  stop := fun H' e => Nat.le_of_eq rangeD_length.symm
theorem si_list (h : SE X M e f) (hK : X.K = M.K) : SI X M tg e (onD itemsL f) :=
  PI.weak (pi_list h) fun σ H Q ⟨σd, m, q⟩ => ⟨σd, m, wpR_mono (wpR_bind.mp q) fun d σ1 q1 v H1 e1 r1 m1 => by
    cases r1 with
    | lst h1 h2 =>
      refine ⟨_, rfl, ⟨_, by rw [hK]; exact h1.sq⟩, ?_⟩
      rw [hK]
      exact q1 _ H1 e1 m1 (itL h1 h2)
    | _ => exact q1.elim⟩
theorem si_tup (h : SE X M e f) (hK : X.K = M.K) : SI X M tg e (onD itemsT f) :=
  PI.weak (pi_tup h) fun σ H Q ⟨σd, m, q⟩ => ⟨σd, m, wpR_mono (wpR_bind.mp q) fun d σ1 q1 v H1 e1 r1 m1 => by
    cases r1 with
    | tup h1 h2 =>
      refine ⟨_, rfl, ⟨_, by rw [hK]; exact h1⟩, ?_⟩
      rw [hK]
      exact q1 _ H1 e1 m1 (itT h1 h2)
    | _ => exact q1.elim⟩
/-- a list or a tuple, whichever it is -/
def itemsS : D → Option (List D)
  | .list ds => some ds
  | .tuple ds => some ds
  | _ => none
theorem si_seq (h : SE X M e f) (hK : X.K = M.K) : SI X M tg e (onD itemsS f) := by
  refine ⟨fun pins s σ H Q I hq => ?_⟩
  obtain ⟨σd, m, q⟩ := hq
  refine thn (h.run pins s σ H (fun v H1 => ∃ d σ1, Rep M.K H1 v d ∧ Ext H H1 ∧ Mt M σ1 σ H1 ∧ wpR (lift (itemsS d) σ1) (fun ds σ1 => ∀ J H1, Ext H H1 → Mt M σ1 σ H1 → ItD M.K H1 J ds → Q J H1) M.W) I ⟨σd, m, wpR_mono (wpR_bind.mp q) fun d σ1 q1 v H1 e1 r1 m1 => ⟨d, σ1, r1, e1, m1, q1⟩⟩) fun u s1 hw => ?_
  obtain ⟨v, H1, I1, rv, d, σ1, r1, e1, m1, q1⟩ := hw
  have cst : PE X (.Name "" ⟨0, 0, 0, 0⟩) (fun _ _ _ => False) := ⟨fun _ _ _ _ _ _ z => z.elim⟩
  cases r1 with
  | @lst a xs ds h1 h2 =>
    cases rv
    obtain ⟨its, rv', pl, hz⟩ := I1.list (xs := xs) (a := a) (by rw [hK]; exact h1.sq)
    refine wpAny_pyIter_list pl.isList ?_
    refine ⟨s1.heap.objs.size, [s1.heap.objs.size], _, _, H1, rfl, I1.kept (t' := s1.toks) fun b o e => Heap.get?_push_of_some _ e, turn_list a _, ⟨_, Heap.get?_push_size _ rfl, rfl, rfl⟩, fun b hb => ?_, ?_⟩
    · have e : b = s1.heap.objs.size := by simpa using hb
      subst e
      exact I1.fpOk (Nat.le_refl _) (I1.hok.fresh (Nat.le_refl _))
    · rw [hK]; exact q1 _ H1 e1 m1 (itL h1 h2)
  | @tup a xs ds h1 h2 =>
    cases rv
    obtain ⟨its, rv', pl, hz⟩ := I1.tuple (xs := xs) (a := a) (by rw [hK]; exact h1)
    refine wpAny_pyIter_tuple (show s1.heap.IsTuple a its.toArray from pl) ?_
    refine ⟨s1.heap.objs.size, [s1.heap.objs.size], _, _, H1, rfl, I1.kept (t' := s1.toks) fun b o e => Heap.get?_push_of_some _ e, turn_tuple a _, ⟨_, Heap.get?_push_size _ rfl, rfl, rfl⟩, fun b hb => ?_, ?_⟩
    · have e : b = s1.heap.objs.size := by simpa using hb
      subst e
      exact I1.fpOk (Nat.le_refl _) (I1.hok.fresh (Nat.le_refl _))
    · rw [hK]; exact q1 _ H1 e1 m1 (itT h1 h2)
  | _ => exact q1.elim
def small62 (i : Int) : Bool := decide (i.natAbs.log2 < 61)
theorem small62_spec {i : Int} (h : small62 i = true) : -(2 ^ 62) ≤ i ∧ i < 2 ^ 62 := by
  simp only [small62, decide_eq_true_eq] at h
  by_cases h0 : i.natAbs = 0
  · omega
  · have := (Nat.log2_lt h0).mp h
    omega
theorem small62_of {i : Int} (h : i.natAbs < 2 ^ 61) : small62 i = true := by
  simp only [small62, decide_eq_true_eq]
  by_cases h0 : i.natAbs = 0
  · rw [h0]; simp
  · exact (Nat.log2_lt h0).mpr h
def rng1 : List D → Option (List D)
  | [.int j] => if small62 j = true then some (rangeD 0 j.toNat) else none
  | _ => none
def rng2 : List D → Option (List D)
  | [.int i, .int j] => if small62 i = true ∧ small62 j = true then some (rangeD i (j - i).toNat) else none
  | _ => none
@[simp] def onA (r : List D → Option (List D)) (f : DEnv → R (List D)) : DEnv → R (List D) := fun σ => (f σ).bind fun d σ1 => lift (r d) σ1
theorem si_range1 (hg : Gl X "range") (hm : X.mg "range" = none) (ha : SA X M [e] fs) (hs : starEach [e] X.env = [(false, eval e X.env)] := by rfl) : SI X M tg (.Call (.Name "range" p) [e] [] pos) (onA rng1 fs) :=
  PI.weak (pi_range1 hg hm ha hs) fun σ H Q ⟨σd, m, q⟩ => ⟨σd, m, wpR_mono (wpR_bind.mp q) fun ds σ1 q1 vs H1 e1 r1 m1 => by
    cases r1 with
    | cons r1 r2 =>
      cases r1 with
      | int j =>
        cases r2 with
        | nil =>
          simp only [rng1] at q1
          split at q1
          · rename_i hj
            obtain ⟨h1, h2⟩ := small62_spec hj
            exact ⟨j, rfl, h1, h2, q1 _ H1 e1 m1 itR⟩
          · exact q1.elim
        | cons _ _ => exact q1.elim
      | _ => exact q1.elim
    | nil => exact q1.elim⟩
theorem si_range2 (hg : Gl X "range") (hm : X.mg "range" = none) (ha : SA X M [e, e2] fs) (hs : starEach [e, e2] X.env = [(false, eval e X.env), (false, eval e2 X.env)] := by rfl) (hs2 : starEach [e2] X.env = [(false, eval e2 X.env)] := by rfl) : SI X M tg (.Call (.Name "range" p) [e, e2] [] pos) (onA rng2 fs) :=
  PI.weak (pi_range2 hg hm ha hs hs2) fun σ H Q ⟨σd, m, q⟩ => ⟨σd, m, wpR_mono (wpR_bind.mp q) fun ds σ1 q1 vs H1 e1 r1 m1 => by
    obtain ⟨z, hz, q2⟩ := wpR_lift.mp q1
    unfold rng2 at hz
    split at hz
    · rename_i i j
      split at hz
      · rename_i hj
        cases hz
        cases r1 with
        | cons r1 r2 =>
          cases r2 with
          | cons r2 r3 =>
            cases r1
            cases r2
            cases r3
            obtain ⟨h1, h2⟩ := small62_spec hj.1
            obtain ⟨h3, h4⟩ := small62_spec hj.2
            exact ⟨i, j, rfl, ⟨h1, h2, h3, h4⟩, q2 _ H1 e1 m1 itR⟩
      · cases hz
    · cases hz⟩

/-! ### targets -/
/-- the slots is alone may change -/
def gD (M : Mx) (is : List Nat) (g : D → DEnv → Option DEnv) : TG := fun v σ H Q => ∃ (d : D) (σd σ1 : DEnv), Rep M.K H v d ∧ Mt M σd σ H ∧ g d σd = some σ1 ∧ ∀ (σ' : L2.St) (H' : Hp), Ext H H' → Mt M σ1 σ' H' → (σ'.length = σ.length ∧ ∀ j : Nat, j ∉ is → σ'[j]? = σ[j]?) → Q σ' H'
def gDs (M : Mx) (is : List Nat) (g : List D → DEnv → Option DEnv) : TGs := fun vs σ H Q => ∃ (ds : List D) (σd σ1 : DEnv), RepAll M.K H vs ds ∧ Mt M σd σ H ∧ g ds σd = some σ1 ∧ ∀ (σ' : L2.St) (H' : Hp), Ext H H' → Mt M σ1 σ' H' → (σ'.length = σ.length ∧ ∀ j : Nat, j ∉ is → σ'[j]? = σ[j]?) → Q σ' H'
abbrev SG (X : Cx) (M : Mx) (is : List Nat) (tg : Expr) (g : D → DEnv → Option DEnv) : Prop := PG X tg (gD M is g)
abbrev SGs (X : Cx) (M : Mx) (is : List Nat) (tg : List Expr) (g : List D → DEnv → Option DEnv) : Prop := PGs X tg (gDs M is g)
theorem PG.weak {tg : Expr} {t t' : TG} (h : PG X tg t) (k : ∀ v σ H Q, t' v σ H Q → t v σ H Q) : PG X tg t' := ⟨fun pins s σ H v u Q I r q => h.run pins s σ H v u Q I r (k _ _ _ _ q)⟩
theorem PGs.weak {tg : List Expr} {t t' : TGs} (h : PGs X tg t) (k : ∀ v σ H Q, t' v σ H Q → t v σ H Q) : PGs X tg t' := ⟨fun pins s σ H v u Q I r q => h.run pins s σ H v u Q I r (k _ _ _ _ q)⟩
theorem PG.or {tg : Expr} {t t' : TG} (h : PG X tg t) (h' : PG X tg t') : PG X tg (fun v σ H Q => t v σ H Q ∨ t' v σ H Q) := ⟨fun pins s σ H v u Q I r q => by
  rcases q with q | q
  · exact h.run pins s σ H v u Q I r q
  · exact h'.run pins s σ H v u Q I r q⟩
@[simp] def gN (i : Nat) : D → DEnv → Option DEnv := fun d σ => setC i (.val d) σ
theorem sg_name {i : Nat} {x : Str} (hN : X.N.Nodup) (hi : X.N[i]? = some x) (hx : Loc X.env.scope x) (hf : X.fn x = true ∨ X.env.scope.names.lookup x = some .local := by first | exact .inl rfl | exact .inr rfl | assumption) : SG X M [i] (.Name x pos) (gN i) :=
  PG.weak (pg_name hN hi hx hf) fun v σ H Q ⟨d, σd, σ1, r, m, q, k⟩ => by
    refine k _ H (Ext.refl H) (m.setVal q r) ⟨List.length_set, fun j hj => List.getElem?_set_ne (fun z => hj (by rw [← z]; exact List.mem_singleton.mpr rfl))⟩
@[simp] def gNil : List D → DEnv → Option DEnv
  | [], σ => some σ
  | _, _ => none
@[simp] def gCons (g : D → DEnv → Option DEnv) (gs : List D → DEnv → Option DEnv) : List D → DEnv → Option DEnv
  | d :: ds, σ => (g d σ).bind fun σ1 => gs ds σ1
  | [], _ => none
theorem sgs_nil : SGs X M [] [] gNil := PGs.weak pgs_nil fun v σ H Q ⟨ds, σd, σ1, r, m, q, k⟩ => by
  cases r with
  | nil => cases q; exact ⟨rfl, k σ H (Ext.refl H) m ⟨rfl, fun _ _ => rfl⟩⟩
  | cons _ _ => cases q
theorem sgs_cons {a : Expr} {es : List Expr} {is js : List Nat} {g : D → DEnv → Option DEnv} {gs : List D → DEnv → Option DEnv} (h : SG X M is a g) (hs : SGs X M js es gs) (hst : (assignEach (a :: es) X.env).map (·.2) = assign a X.env :: (assignEach es X.env).map (·.2) := by rfl) : SGs X M (is ++ js) (a :: es) (gCons g gs) :=
  PGs.weak (pgs_cons h hs hst) fun vs σ H Q ⟨ds, σd, σ1, r, m, q, k⟩ => by
    cases r with
    | nil => cases q
    | @cons v vs d ds r1 r2 =>
      simp only [gCons, Option.bind_eq_some_iff] at q
      obtain ⟨σ2, q1, q2⟩ := q
      refine ⟨v, vs, rfl, d, σd, σ2, r1, m, q1, fun σ' H' e1 m1 l1 => ⟨ds, σ2, σ1, r2.ext e1, m1, q2, fun σ3 H3 e2 m2 l2 => k σ3 H3 (e1.trans e2) m2 ⟨l2.1.trans l1.1, fun j hj => ?_⟩⟩⟩
      rw [List.mem_append, not_or] at hj
      exact (l2.2 j hj.2).trans (l1.2 j hj.1)
/-- (a, b, ..) = a tuple or a list of that length -/
@[simp] def gT (n : Nat) (gs : List D → DEnv → Option DEnv) : D → DEnv → Option DEnv := fun d σ => match itemsS d with
  | some ds => if ds.length = n then gs ds σ else none
  | none => none
theorem sg_tup {es : List Expr} {k : Nat} {n : Nat} {is : List Nat} {gs : List D → DEnv → Option DEnv} (hK : X.K = M.K) (hc : X.calm = true) (h : SGs X M is es gs)
    (hn : (assignEach es X.env).length = n := by rfl) (hst : (assignEach es X.env).findIdx? (·.1) = none := by rfl) : SG X M is (.Tuple es k pos) (gT n gs) :=
  PG.weak (PL.PG.or (pg_tup (pos := pos) (k := k) hc h hn hst) (pg_lst (pos := pos) (k := k) hc h hn hst)) fun v σ H Q ⟨d, σd, σ1, r, m, q, kk⟩ => by
    cases r with
    | @tup a xs ds h1 h2 =>
      simp only [gT, itemsS] at q
      split at q
      · rename_i hl
        exact .inl ⟨a, xs, rfl, by rw [hK]; exact h1, h2.length.trans hl, ds, σd, σ1, h2, m, q, kk⟩
      · cases q
    | @lst a xs ds h1 h2 =>
      simp only [gT, itemsS] at q
      split at q
      · rename_i hl
        exact .inr ⟨a, xs, rfl, by rw [hK]; exact h1.sq, h2.length.trans hl, ds, σd, σ1, h2, m, q, kk⟩
      · cases q
    | _ => simp only [gT, itemsS] at q; cases q

/-! ### for -/
def forF (g : D → DEnv → Option DEnv) (b : DEnv → O) : List D → DEnv → O
  | [], σ => .nx σ
  | d :: ds, σ => match g d σ with
    | none => .bad
    | some σ1 => match b σ1 with
      | .nx σ2 => forF g b ds σ2
      | .cnt σ2 => forF g b ds σ2
      | .brk σ2 => .nx σ2
      | .ret d σ2 => .ret d σ2
      | .retF d σ2 => .retF d σ2
      | .exc k σ2 => .exc k σ2
      | .bad => .bad
theorem ss_for {is : List Nat} {tg' : D → DEnv → Option DEnv} {body : List Stmt} {src : DEnv → R (List D)} {F : DEnv → O} (hp : PassesOwn (model X.prog X.w) X.A X.env X.xe) (hc : X.calm = true) (hi : SI X M tg it src) (hg : SG X M is tg tg') (hb : SSs X M body F)
    (hs : ∀ x, foldedSetIterable it X.env x = pure x := by intro _; rfl) : SS X M (.For tg it body [] pos) (fun σ => (src σ).thn fun ds σ1 => forF tg' F ds σ1) :=
  PS.weak (ps_for hp hc hi hg hb hs) fun D σ H ⟨σd, m, q⟩ => ⟨σd, m, wpR_mono (wpR_thn q) fun ds σ1 q1 J H1 e1 m1 hJ => by
    refine ⟨fun i k σ' H' => ∃ σ2, k + i = ds.length ∧ Ext H1 H' ∧ Mt M σ2 σ' H' ∧ wpO M (forF tg' F (ds.drop i) σ2) H' D, ⟨ds.length, σ1, Nat.add_zero _, Ext.refl _, m1, by rw [List.drop_zero]; exact wpO_ext e1 q1⟩, fun i k σ' H' ⟨σ2, hk, e2, m2, q2⟩ => ?_⟩
    cases k with
    | zero =>
      have hi : i = ds.length := by omega
      subst hi
      rw [List.drop_length] at q2
      exact .inl ⟨hJ.stop H' e2, q2 σ' H' (Ext.refl _) m2⟩
    | succ k =>
      have hi : i < ds.length := by omega
      have hd : ds[i]? = some ds[i] := List.getElem?_eq_getElem hi
      rw [List.drop_eq_getElem_cons hi] at q2
      refine .inr ⟨hJ.go H' i _ e2 hd, fun σ3 H3 => ∃ σ4, Ext H1 H3 ∧ Mt M σ4 σ3 H3 ∧ wpO M (forF tg' F (ds.drop (i + 1)) σ4) H3 D, fun σ3 H3 ⟨σ4, e4, m4, q4⟩ => ⟨k, Nat.lt_succ_self k, σ4, by omega, e4, m4, q4⟩, fun x H3 hy => ?_⟩
      obtain ⟨s3, r3⟩ := hJ.yld H' i _ x H3 e2 hd hy
      unfold forF at q2
      cases hg2 : tg' ds[i] σ2 with
      | none => rw [hg2] at q2; exact q2.elim
      | some σ3 =>
        rw [hg2] at q2
        refine ⟨ds[i], σ2, σ3, r3, m2.same s3, hg2, fun σ4 H4 e4 m4 _ => ⟨σ3, m4, ?_⟩⟩
        have e24 : Ext H' H4 := (Ext.same s3).trans e4
        simp only at q2
        cases hF : F σ3 with
        | nx σ5 => rw [hF] at q2; exact fun σ6 H6 e6 m6 => ⟨σ5, e2.trans (e24.trans e6), m6, wpO_ext (e24.trans e6) q2⟩
        | cnt σ5 => rw [hF] at q2; exact fun σ6 H6 e6 m6 => ⟨σ5, e2.trans (e24.trans e6), m6, wpO_ext (e24.trans e6) q2⟩
        | brk σ5 => rw [hF] at q2; exact fun σ6 H6 e6 m6 => q2 σ6 H6 (e24.trans e6) m6
        | ret d σ5 => rw [hF] at q2; exact fun v σ6 H6 e6 r m6 => q2 v σ6 H6 (e24.trans e6) r m6
        | retF d σ5 => rw [hF] at q2; exact fun p xs σ6 H6 e6 h1 h2 m6 fr => q2 p xs σ6 H6 (e24.trans e6) h1 h2 m6 fr
        | exc k' σ5 => rw [hF] at q2; exact q2
        | bad => rw [hF] at q2; exact q2⟩
end
end PL
set_option Elab.async false
set_option linter.all false
set_option maxRecDepth 100000
set_option autoImplicit false
/-! Comprehensions over data. -/
namespace PL
open PySem PySem.Spec PyProof.Rows L2

/-- the cells of the block's own names forgotten -/
def wipeD (σ : DEnv) : List Nat → DEnv
  | [] => σ
  | v :: vs => (wipeD σ vs).set v .emp
/-- behind the block: its own names are what they were -/
def backD (σ0 σ1 : DEnv) : List Nat → DEnv
  | [] => σ1
  | v :: vs => match σ0[v]? with
    | some (.val d) => (backD σ0 σ1 vs).set v (.val d)
    | _ => (backD σ0 σ1 vs).set v .emp
theorem wipeD_len (σ : DEnv) : ∀ vs : List Nat, (wipeD σ vs).length = σ.length
  | [] => rfl
  | v :: vs => by unfold wipeD; rw [List.length_set, wipeD_len σ vs]
theorem wipeD_get {σ : DEnv} {i : Nat} {c : Cell} (hc : c ≠ .emp) : ∀ {vs : List Nat}, (wipeD σ vs)[i]? = some c → σ[i]? = some c ∧ i ∉ vs
  | [], h => ⟨h, by simp⟩
  | v :: vs, h => by
    unfold wipeD at h
    rcases getset h with ⟨rfl, e0⟩ | ⟨ne, h⟩
    · exact absurd e0.symm hc
    · obtain ⟨h1, h2⟩ := wipeD_get hc h
      exact ⟨h1, by simp only [List.mem_cons, not_or]; exact ⟨fun e => ne e.symm, h2⟩⟩
theorem wipe_out' {σ : L2.St} {i : Nat} : ∀ {vs : List Nat}, i ∉ vs → (wipe σ vs)[i]? = σ[i]?
  | [], _ => rfl
  | v :: vs, h => by
    simp only [List.mem_cons, not_or] at h
    unfold wipe
    rw [List.getElem?_set_ne (fun e => h.1 e.symm)]
    exact wipe_out' h.2
theorem wipe_ext {σ σ' : L2.St} {vs : List Nat} (hl : σ'.length = σ.length) (h : ∀ j : Nat, j ∉ vs → σ'[j]? = σ[j]?) : wipe σ' vs = wipe σ vs := by
  apply List.ext_getElem?
  intro j
  by_cases hj : j ∈ vs
  · have key : ∀ (τ : L2.St), j ∈ vs → (wipe τ vs)[j]? = if j < τ.length then some none else none := by
      intro τ
      induction vs with
      | nil => intro z; cases z
      | cons v vs ih =>
        intro z
        unfold wipe
        by_cases e : v = j
        · subst e
          by_cases hlt : v < τ.length
          · rw [List.getElem?_set_self (by rw [wipe_length]; exact hlt), if_pos hlt]
          · rw [List.getElem?_eq_none (by rw [List.length_set, wipe_length]; omega), if_neg hlt]
        · rw [List.getElem?_set_ne e]
          have hj2 : j ∈ vs := by
            rcases List.mem_cons.mp z with z | z
            · exact absurd z.symm e
            · exact z
          have ih' : (wipe τ vs)[j]? = if j < τ.length then some none else none := by
            clear h ih hj z
            induction vs with
            | nil => cases hj2
            | cons u us ih2 =>
              unfold wipe
              by_cases e2 : u = j
              · subst e2
                by_cases hlt : u < τ.length
                · rw [List.getElem?_set_self (by rw [wipe_length]; exact hlt), if_pos hlt]
                · rw [List.getElem?_eq_none (by rw [List.length_set, wipe_length]; omega), if_neg hlt]
              · rw [List.getElem?_set_ne e2]
                exact ih2 ((List.mem_cons.mp hj2).resolve_left fun q => e2 q.symm)
          exact ih'
    rw [key σ' hj, key σ hj, hl]
  · rw [wipe_out' hj, wipe_out' hj]
    exact h j hj

section
variable {X : Cx} {M : Mx}
/-- within the block: D, the list that grows, is one more thing that stays as it is -/
abbrev Mx.blk (M : Mx) (H0 : Hp) : Mx := { M with H0 := H0, W := fun _ _ => False }
theorem Mt.wiped {σd : DEnv} {σ : L2.St} {H : Hp} {vs : List Nat} (m : Mt M σd σ H) (ht : M.tape ≠ none → 0 ∉ vs) : Mt M (wipeD σd vs) (wipe σ vs) H where
  len := by rw [wipeD_len, wipe_length]; exact m.len
  val := fun i d e => by
    obtain ⟨h1, h2⟩ := wipeD_get (by intro z; cases z) e
    rw [wipe_out' h2]
    exact m.val i d h1
  own := fun i d e => by
    obtain ⟨h1, h2⟩ := wipeD_get (by intro z; cases z) e
    rw [wipe_out' h2]
    exact m.own i d h1
  tap := fun i d e => by
    obtain ⟨h1, h2⟩ := wipeD_get (by intro z; cases z) e
    rw [wipe_out' h2]
    exact m.tap i d h1
  dj := fun i j a b p e1 e2 e3 e4 => by
    obtain ⟨h1, h2⟩ := wipeD_get (by intro z; cases z) e1
    obtain ⟨h3, h4⟩ := wipeD_get (by intro z; cases z) e2
    rw [wipe_out' h2] at e3
    rw [wipe_out' h4] at e4
    exact m.dj i j a b p h1 h3 e3 e4
  kept := m.kept
  tabs := m.tabs
  tape := fun t e => by
    obtain ⟨ds, q⟩ := m.tape t e
    refine ⟨ds, ?_⟩
    have h0 : 0 ∉ vs := ht (by rw [e]; intro z; cases z)
    have key : ∀ vs : List Nat, 0 ∉ vs → (wipeD σd vs)[0]? = σd[0]? := by
      intro vs
      induction vs with
      | nil => intro _; rfl
      | cons v vs ih =>
        intro h
        simp only [List.mem_cons, not_or] at h
        unfold wipeD
        rw [List.getElem?_set_ne (fun e => h.1 e.symm)]
        exact ih h.2
    rw [key vs h0]
    exact q
  tapOne := fun i j a b e1 e2 => by
    obtain ⟨h1, h2⟩ := wipeD_get (by intro z; cases z) e1
    obtain ⟨h3, h4⟩ := wipeD_get (by intro z; cases z) e2
    exact m.tapOne i j a b h1 h3
  dic := m.dic.sub fun i lk kvs e => by
    obtain ⟨h1, h2⟩ := wipeD_get (by intro z; cases z) e
    exact ⟨h1, wipe_out' h2⟩
theorem backD_len (σ0 σ1 : DEnv) : ∀ vs : List Nat, (backD σ0 σ1 vs).length = σ1.length
  | [] => rfl
  | v :: vs => by
    unfold backD
    split <;> rw [List.length_set, backD_len σ0 σ1 vs]
theorem backD_get {σ0 σ1 : DEnv} {i : Nat} {c : Cell} : ∀ {vs : List Nat}, (backD σ0 σ1 vs)[i]? = some c → (i ∈ vs ∧ ((∃ d, σ0[i]? = some (.val d) ∧ c = .val d) ∨ c = .emp)) ∨ (i ∉ vs ∧ σ1[i]? = some c)
  | [], h => .inr ⟨by simp, h⟩
  | v :: vs, h => by
    unfold backD at h
    split at h
    · rename_i d e
      rcases getset h with ⟨rfl, e0⟩ | ⟨ne, h⟩
      · exact .inl ⟨List.mem_cons_self, .inl ⟨d, e, e0.symm⟩⟩
      · rcases backD_get h with ⟨h1, h2⟩ | ⟨h1, h2⟩
        · exact .inl ⟨List.mem_cons_of_mem _ h1, h2⟩
        · exact .inr ⟨by simp only [List.mem_cons, not_or]; exact ⟨fun e => ne e.symm, h1⟩, h2⟩
    · rcases getset h with ⟨rfl, e0⟩ | ⟨ne, h⟩
      · exact .inl ⟨List.mem_cons_self, .inr e0.symm⟩
      · rcases backD_get h with ⟨h1, h2⟩ | ⟨h1, h2⟩
        · exact .inl ⟨List.mem_cons_of_mem _ h1, h2⟩
        · exact .inr ⟨by simp only [List.mem_cons, not_or]; exact ⟨fun e => ne e.symm, h1⟩, h2⟩
theorem Mt.back {σ0 σ1 : DEnv} {σ : L2.St} {H H' : Hp} {vs : List Nat} (m0 : Mt M σ0 σ H) (e : Ext H H') (m : Mt M σ1 (wipe σ vs) H') (ht : M.tape ≠ none → 0 ∉ vs) : Mt M (backD σ0 σ1 vs) σ H' where
  len := by rw [backD_len, m.len, wipe_length]
  val := fun i d q => by
    rcases backD_get q with ⟨h1, h2 | h2⟩ | ⟨h1, h2⟩
    · obtain ⟨d', h3, h4⟩ := h2
      cases h4
      obtain ⟨v, h5, h6⟩ := m0.val i _ h3
      exact ⟨v, h5, h6.ext e⟩
    · cases h2
    · obtain ⟨v, h5, h6⟩ := m.val i d h2
      rw [wipe_out' h1] at h5
      exact ⟨v, h5, h6⟩
  own := fun i d q => by
    rcases backD_get q with ⟨h1, h2 | h2⟩ | ⟨h1, h2⟩
    · obtain ⟨d', h3, h4⟩ := h2
      cases h4
    · cases h2
    · have := m.own i d h2
      rw [wipe_out' h1] at this
      exact this
  tap := fun i d q => by
    rcases backD_get q with ⟨h1, h2 | h2⟩ | ⟨h1, h2⟩
    · obtain ⟨d', h3, h4⟩ := h2
      cases h4
    · cases h2
    · have := m.tap i d h2
      rw [wipe_out' h1] at this
      exact this
  dj := fun i j a b p q1 q2 q3 q4 => by
    rcases backD_get q1 with ⟨h1, h2 | h2⟩ | ⟨h1, h2⟩
    · obtain ⟨d', h3, h4⟩ := h2
      cases h4
    · cases h2
    · rcases backD_get q2 with ⟨g1, g2 | g2⟩ | ⟨g1, g2⟩
      · obtain ⟨d', h3, h4⟩ := g2
        cases h4
      · cases g2
      · exact m.dj i j a b p h2 g2 (by rw [wipe_out' h1]; exact q3) (by rw [wipe_out' g1]; exact q4)
  kept := m.kept
  tabs := m.tabs
  tape := fun t q => by
    obtain ⟨ds, q1⟩ := m.tape t q
    have h0 : 0 ∉ vs := ht (by rw [q]; intro z; cases z)
    refine ⟨ds, ?_⟩
    have key : ∀ vs : List Nat, 0 ∉ vs → (backD σ0 σ1 vs)[0]? = σ1[0]? := by
      intro vs
      induction vs with
      | nil => intro _; rfl
      | cons v vs ih =>
        intro h
        simp only [List.mem_cons, not_or] at h
        unfold backD
        split <;> (rw [List.getElem?_set_ne (fun e => h.1 e.symm)]; exact ih h.2)
    rw [key vs h0]
    exact q1
  tapOne := fun i j a b q1 q2 => by
    rcases backD_get q1 with ⟨h1, h2 | h2⟩ | ⟨h1, h2⟩
    · obtain ⟨d', h3, h4⟩ := h2
      cases h4
    · cases h2
    · rcases backD_get q2 with ⟨g1, g2 | g2⟩ | ⟨g1, g2⟩
      · obtain ⟨d', h3, h4⟩ := g2
        cases h4
      · cases g2
      · exact m.tapOne i j a b h2 g2
  dic := m.dic.sub fun i lk kvs q => by
    rcases backD_get q with ⟨h1, h2 | h2⟩ | ⟨h1, h2⟩
    · obtain ⟨d', h3, h4⟩ := h2
      cases h4
    · cases h2
    · exact ⟨h2, (wipe_out' h1).symm⟩
/-- the list at D is to stay as it is -/
theorem Mt.guard {σd : DEnv} {σ : L2.St} {H : Hp} {D : Addr} {xs : List V} (m : Mt M σd σ H) (fr : Fresh M σd σ D) (h : H D = some (.lst xs)) : Mt (M.blk (upd M.H0 D (.lst xs))) σd σ H where
  len := m.len
  val := m.val
  own := fun i ds e => by
    obtain ⟨p, ys, h1, h2, h3, h4, h5⟩ := m.own i ds e
    refine ⟨p, ys, h1, h2, h3, ?_, h5⟩
    show upd M.H0 D (.lst xs) p = none
    rw [upd_ne (fun z => fr.own i ds e (by rw [← z]; exact h1))]
    exact h4
  tap := m.tap
  dj := m.dj
  kept := fun b o e ht => by
    have e : upd M.H0 D (.lst xs) b = some o := e
    by_cases hb : b = D
    · subst hb
      rw [upd_same] at e
      cases e
      exact .inl h
    · rw [upd_ne hb] at e
      exact m.kept b o e ht
  tabs := m.tabs
  tape := m.tape
  tapOne := m.tapOne
  dic := m.dic.h0 fun p o q io n => by
    show upd M.H0 D (.lst xs) p = none
    rw [upd_ne (ne_of q h (io xs))]
    exact n
theorem Mt.unguard {σd : DEnv} {σ : L2.St} {H : Hp} {D : Addr} {xs : List V} (hD : M.H0 D = none) (hT : M.tape ≠ some D) (m : Mt (M.blk (upd M.H0 D (.lst xs))) σd σ H) : Mt M σd σ H ∧ Fresh M σd σ D ∧ H D = some (.lst xs) := by
  have ne : ∀ p, upd M.H0 D (.lst xs) p = none → p ≠ D := fun p q z => by subst z; rw [upd_same] at q; cases q
  refine ⟨⟨m.len, m.val, fun i ds e => ?_, m.tap, m.dj, fun b o e ht => ?_, m.tabs, m.tape, m.tapOne, m.dic.h0 fun p o _ _ n => ?_⟩, ⟨hD, hT, fun i ds e z => ?_⟩, ?_⟩
  · obtain ⟨p, ys, h1, h2, h3, h4, h5⟩ := m.own i ds e
    have h4 : upd M.H0 D (.lst xs) p = none := h4
    refine ⟨p, ys, h1, h2, h3, ?_, h5⟩
    have q := ne p h4
    rw [upd_ne q] at h4
    exact h4
  · refine m.kept b o ?_ ht
    show upd M.H0 D (.lst xs) b = some o
    rw [upd_ne (fun z => by subst z; rw [hD] at e; cases e)]
    exact e
  · have n : upd M.H0 D (.lst xs) p = none := n
    have q := ne p n
    rw [upd_ne q] at n
    exact n
  · obtain ⟨p, ys, h1, h2, h3, h4, h5⟩ := m.own i ds e
    rw [z] at h1
    cases h1
    exact ne D h4 rfl
  · have q := m.kept D (.lst xs) (show upd M.H0 D (.lst xs) D = _ from upd_same) hT
    rcases q with q | ⟨ps, more, e, _⟩
    · exact q
    · cases e
/-- the grown list -/
theorem Mt.grown {σd : DEnv} {σ : L2.St} {H : Hp} {D : Addr} {xs ys : List V} (m : Mt M σd σ H) (fr : Fresh M σd σ D) (h : H D = some (.lst xs)) : Mt M σd σ (upd H D (.lst ys)) := by
  have ex : Ext H (upd H D (.lst ys)) := Ext.wr h
  refine ⟨m.len, fun j d e => ?_, fun j es e => ?_, fun j es e => ?_, m.dj, fun b o e1 e2 => ?_, fun P hP => ?_, m.tape, m.tapOne, m.dic.wr h⟩
  · obtain ⟨v, h1, h2⟩ := m.val j d e
    exact ⟨v, h1, h2.ext ex⟩
  · obtain ⟨q, zs, h1, h2, h3, h4⟩ := m.own j es e
    refine ⟨q, zs, h1, ?_, h3.ext ex, h4⟩
    rw [upd_ne (fun z => fr.own j es e (by rw [← z]; exact h1))]
    exact h2
  · obtain ⟨q, zs, h1, h2, h3, h4⟩ := m.tap j es e
    refine ⟨q, zs, h1, ?_, h3.ext ex, h4⟩
    rw [upd_ne (fun z => fr.tap (by rw [← z]; exact h4))]
    exact h2
  · rw [upd_ne (fun z => by subst z; rw [fr.ent] at e1; cases e1)]
    exact m.kept b o e1 e2
  · obtain ⟨ps, e, t⟩ := m.tabs P hP
    exact ⟨ps, by rw [upd_ne (ne_of e h (by intro z; cases z))]; exact e, t⟩

/-! ### one clause -/
@[simp] def yesB : DEnv → R Bool := fun σ => .ok true σ
/-- nothing may be raised within -/
@[simp] def R.noX {α : Type} (x : R α) : R α := match x with
  | .exc _ _ => .bad
  | y => y
/-- the turns of a comprehension -/
def lcF (vs : List Nat) (g : D → DEnv → Option DEnv) (t : DEnv → R Bool) (f : DEnv → R D) : List D → List D → DEnv → R (List D)
  | [], acc, σ => .ok acc σ
  | d :: ds, acc, σ => match g d σ with
    | none => .bad
    | some σ1 => (t σ1).noX.bind fun c σ2 => if c = true then (f σ2).noX.bind fun y σ3 => if acc.length < 1000000 then lcF vs g t f ds (acc ++ [y]) (wipeD σ3 vs) else .bad else lcF vs g t f ds acc (wipeD σ2 vs)
abbrev STs (X : Cx) (M : Mx) (ifs : List Expr) (t : DEnv → R Bool) : Prop := PTs X ifs (tT M t)
theorem sts_nil : STs X M [] yesB := ⟨fun pins s σ H Q I ⟨σd, m, q⟩ => pts_nil.run pins s σ H Q I (q H (Ext.refl H) m)⟩
theorem sts_one {c : Expr} {t : DEnv → R Bool} (h : ST X M c t) : STs X M [c] t := pts_one h
theorem wipe_wipe {σ : L2.St} {vs : List Nat} : wipe (wipe σ vs) vs = wipe σ vs := wipe_ext (wipe_length σ vs) fun j hj => wipe_out' hj
def lc (vs : List Nat) (src : DEnv → R (List D)) (g : D → DEnv → Option DEnv) (t : DEnv → R Bool) (f : DEnv → R D) : DEnv → R (List D) := fun σ =>
  (src σ).bind fun ds σ1 => (lcF vs g t f ds [] (wipeD σ1 vs)).bind fun acc σ2 => .ok acc (backD σ1 σ2 vs)
/-- the tape is no name of the block -/
def lcOk (M : Mx) (vs : List Nat) : Prop := M.tape ≠ none → 0 ∉ vs
theorem tLc_of {is vs : List Nat} {src : DEnv → R (List D)} {g : D → DEnv → Option DEnv} {t : DEnv → R Bool} {f : DEnv → R D} {wi : TI} {gg : TG} {tt : TT} {te : TE} (hok : lcOk M vs) (his : ∀ i ∈ is, i ∈ vs)
    (hwi : ∀ σ H Q, iD M src σ H Q → wi σ H Q) (hgg : ∀ H0 v σ H Q, gD (M.blk H0) is g v σ H Q → gg v σ H Q) (htt : ∀ H0 σ H Q, tT (M.blk H0) t σ H Q → tt σ H Q) (hte : ∀ H0 σ H Q, tE (M.blk H0) f σ H Q → te σ H Q)
    {σ : L2.St} {H : Hp} {Q : VK} (h : tF M (lc vs src g t f) σ H Q) : tLc wi gg tt te vs σ H Q := by
  obtain ⟨σd, m, q⟩ := h
  refine hwi _ _ _ ⟨σd, m, wpR_mono (wpR_bind.mp q) fun ds σ1 q1 J H1 e1 m1 hJ D hD => ?_⟩
  have fr0 : Fresh M (wipeD σ1 vs) (wipe σ vs) D := (m1.wiped hok).fresh hD
  have sm : Same H1 (upd H1 D (.lst [])) := same_upd hD
  refine ⟨fun i k H' => ∃ σ2 acc xs, k + i = ds.length ∧ Ext H1 H' ∧ Mt M σ2 (wipe σ vs) H' ∧ Fresh M σ2 (wipe σ vs) D ∧ H' D = some (.lst xs) ∧ RepAll M.K H' xs acc ∧
      wpR (lcF vs g t f (ds.drop i) acc σ2) (fun acc' σ3 => ∀ p ys H'', Ext H H'' → H'' p = some (.lst ys) → RepAll M.K H'' ys acc' → Mt M (backD σ1 σ3 vs) σ H'' → Fresh M (backD σ1 σ3 vs) σ p → Q (.ref p) H'') M.W,
    ⟨ds.length, wipeD σ1 vs, [], [], Nat.add_zero _, Ext.same sm, (m1.wiped hok).same sm, fr0, upd_same, .nil, by rw [List.drop_zero]; exact wpR_bind.mp q1⟩, fun i k H' ⟨σ2, acc, xs, hk, e2, m2, fr, hDx, ra, q2⟩ => ?_⟩
  cases k with
  | zero =>
    have hi : i = ds.length := by omega
    subst hi
    rw [List.drop_length] at q2
    refine .inl ⟨hJ.stop H' e2, q2 D xs H' (e1.trans e2) hDx ra (m1.back e2 m2 hok) ⟨fr.ent, fr.tap, fun j es e z => ?_⟩⟩
    rcases backD_get e with ⟨h1, h2 | h2⟩ | ⟨h1, h2⟩
    · obtain ⟨d', h3, h4⟩ := h2
      cases h4
    · cases h2
    · exact fr.own j es h2 (by rw [wipe_out' h1]; exact z)
  | succ k =>
    have hi : i < ds.length := by omega
    have hd : ds[i]? = some ds[i] := List.getElem?_eq_getElem hi
    rw [List.drop_eq_getElem_cons hi] at q2
    refine .inr ⟨hJ.go H' i _ e2 hd, fun H3 => ∃ σ4 acc4 xs4, Ext H1 H3 ∧ Mt M σ4 (wipe σ vs) H3 ∧ Fresh M σ4 (wipe σ vs) D ∧ H3 D = some (.lst xs4) ∧ RepAll M.K H3 xs4 acc4 ∧ wpR (lcF vs g t f (ds.drop (i + 1)) acc4 σ4) _ M.W,
      fun H3 ⟨σ4, acc4, xs4, z1, z2, z3, z4, z5, z6⟩ => ⟨k, Nat.lt_succ_self k, σ4, acc4, xs4, by omega, z1, z2, z3, z4, z5, z6⟩, fun x H3 hy => ?_⟩
    obtain ⟨s3, r3⟩ := hJ.yld H' i _ x H3 e2 hd hy
    unfold lcF at q2
    cases hg2 : g ds[i] σ2 with
    | none => rw [hg2] at q2; exact q2.elim
    | some σ3 =>
      rw [hg2] at q2
      have mg : Mt (M.blk (upd M.H0 D (.lst xs))) σ2 (wipe σ vs) H3 := ((m2.guard fr hDx).same s3)
      refine hgg _ _ _ _ _ ⟨ds[i], σ2, σ3, r3, mg, hg2, fun σ4 H4 e4 m4 l4 => ⟨?_, ?_⟩⟩
      · rw [wipe_ext (σ := wipe σ vs) (σ' := σ4) l4.1 fun j hj => l4.2 j fun z => hj (his j z)]
        exact wipe_wipe
      · have hw4 : wipe σ4 vs = wipe σ vs := by
          rw [wipe_ext (σ := wipe σ vs) (σ' := σ4) l4.1 fun j hj => l4.2 j fun z => hj (his j z)]
          exact wipe_wipe
        refine htt _ _ _ _ ⟨σ3, m4, ?_⟩
        have q3 := wpR_bind.mp q2
        cases hts : t σ3 with
        | bad => rw [hts] at q3; exact q3.elim
        | exc c σ5 => rw [hts] at q3; exact q3.elim
        | ok c σ5 =>
          rw [hts] at q3
          intro H5 e5 m5
          have q3 : wpR (if c = true then _ else _) _ M.W := q3
          cases c with
          | true =>
            rw [if_pos rfl] at q3
            refine iteT (hte _ _ _ _ ⟨σ5, m5, ?_⟩)
            have q4 := wpR_bind.mp q3
            cases hfs : f σ5 with
            | bad => rw [hfs] at q4; exact q4.elim
            | exc c σ6 => rw [hfs] at q4; exact q4.elim
            | ok y σ6 =>
              rw [hfs] at q4
              intro v H6 e6 r6 m6
              have q4 : wpR (if acc.length < 1000000 then _ else _) _ M.W := q4
              obtain ⟨m7, fr7, hD7⟩ := Mt.unguard fr.ent fr.tap m6
              split at q4
              · rename_i hlen
                have hl := ra.length
                have e36 : Ext H' H6 := (Ext.same s3).trans (e4.trans (e5.trans e6))
                refine ⟨xs, hD7, mil (by omega), wipeD σ6 vs, acc ++ [y], xs ++ [v], e2.trans (e36.trans (Ext.wr hD7)), ?_, ?_, upd_same, ?_, q4⟩
                · have := (m7.grown (ys := xs ++ [v]) fr7 hD7).wiped (vs := vs) hok
                  rw [hw4] at this
                  exact this
                · refine ⟨fr.ent, fr.tap, fun j es e z => ?_⟩
                  obtain ⟨h1, h2⟩ := wipeD_get (by intro z; cases z) e
                  refine fr7.own j es h1 ?_
                  rw [← hw4, wipe_out' h2] at z
                  exact z
                · exact (ra.ext (e36.trans (Ext.wr hD7))).app (.cons (r6.ext (Ext.wr hD7)) .nil)
              · exact q4.elim
          | false =>
            rw [if_neg Bool.false_ne_true] at q3
            obtain ⟨m7, fr7, hD7⟩ := Mt.unguard fr.ent fr.tap m5
            have e35 : Ext H' H5 := (Ext.same s3).trans (e4.trans e5)
            refine iteF ⟨wipeD σ5 vs, acc, xs, e2.trans e35, ?_, ?_, hD7, ra.ext e35, q3⟩
            · have := m7.wiped (vs := vs) hok
              rw [hw4] at this
              exact this
            · refine ⟨fr.ent, fr.tap, fun j es e z => ?_⟩
              obtain ⟨h1, h2⟩ := wipeD_get (by intro z; cases z) e
              refine fr7.own j es h1 ?_
              rw [← hw4, wipe_out' h2] at z
              exact z

variable {elt tg it : Expr} {ifs : List Expr} {scope : Scope} {own : List (Str × Nat)} {pos spos py : Pos} {is : List Nat} {src : DEnv → R (List D)} {g : D → DEnv → Option DEnv} {t : DEnv → R Bool} {f : DEnv → R D}
/-- [elt for tg in it if ..] -/
theorem sf_lc (hc : X.calm = true) (hN : X.N.Nodup) (hi : SI X M tg it src) (ok : BlkOk X.N X.env.scope scope own) (hok : lcOk M (own.map (·.2))) (his : ∀ i ∈ is, i ∈ own.map (·.2))
    (hg : ∀ (H0 : Hp) (s : Shared) (H : Hp) (C : Addr) (cl : List (Str × Addr)) (fp : List Addr), SG (X.blk s H scope (compEnvC scope cl C X.env) fp) (M.blk H0) is tg g)
    (ht : ∀ (H0 : Hp) (s : Shared) (H : Hp) (C : Addr) (cl : List (Str × Addr)) (fp : List Addr), STs (X.blk s H scope (compEnvC scope cl C X.env) fp) (M.blk H0) ifs t)
    (he : ∀ (H0 : Hp) (s : Shared) (H : Hp) (C : Addr) (cl : List (Str × Addr)) (fp : List Addr), SE (X.blk s H scope (compEnvC scope cl C X.env) fp) (M.blk H0) elt f) (hs : ∀ x, foldedSetIterable it X.env x = pure x := by intro _; rfl) :
    SF X M (.ListComp elt [⟨tg, it, ifs, 0⟩] scope pos) (lc (own.map (·.2)) src g t f) :=
  PE.weak (pe_lc (g := fun v σ H Q => ∃ H0, gD (M.blk H0) is g v σ H Q) (tt := fun σ H Q => ∃ H0, tT (M.blk H0) t σ H Q) (te := fun σ H Q => ∃ H0, tE (M.blk H0) f σ H Q) hc hN hi ok
    (fun s H C cl fp => ⟨fun pins s' σ H' v u Q I r ⟨H0, q⟩ => (hg H0 s H C cl fp).run pins s' σ H' v u Q I r q⟩)
    (fun s H C cl fp => ⟨fun pins s' σ H' Q I ⟨H0, q⟩ => (ht H0 s H C cl fp).run pins s' σ H' Q I q⟩)
    (fun s H C cl fp => ⟨fun pins s' σ H' Q I ⟨H0, q⟩ => (he H0 s H C cl fp).run pins s' σ H' Q I q⟩) hs)
    fun σ H Q h => tLc_of hok his (fun _ _ _ z => z) (fun H0 _ _ _ _ z => ⟨H0, z⟩) (fun H0 _ _ _ z => ⟨H0, z⟩) (fun H0 _ _ _ z => ⟨H0, z⟩) h
/-- y = [..] on one line: the list is y's own -/
theorem ss_setLc {i : Nat} {y : Str} (hc : X.calm = true) (hN : X.N.Nodup) (hy : X.N[i]? = some y) (hyl : X.env.scope.names.lookup y = some .local)
    (hsw : swapsWith (.ListComp elt [⟨tg, it, ifs, 0⟩] scope pos) (some (.Name y py)) spos.line X.env = pure true) (hi : SI X M tg it src) (ok : BlkOk X.N X.env.scope scope own) (hok : lcOk M (own.map (·.2))) (his : ∀ i ∈ is, i ∈ own.map (·.2))
    (hg : ∀ (H0 : Hp) (s : Shared) (H : Hp) (C : Addr) (cl : List (Str × Addr)) (fp : List Addr), SG (X.blk s H scope (compEnvC scope cl C X.env) fp) (M.blk H0) is tg g)
    (ht : ∀ (H0 : Hp) (s : Shared) (H : Hp) (C : Addr) (cl : List (Str × Addr)) (fp : List Addr), STs (X.blk s H scope (compEnvC scope cl C X.env) fp) (M.blk H0) ifs t)
    (he : ∀ (H0 : Hp) (s : Shared) (H : Hp) (C : Addr) (cl : List (Str × Addr)) (fp : List Addr), SE (X.blk s H scope (compEnvC scope cl C X.env) fp) (M.blk H0) elt f) (hs : ∀ x, foldedSetIterable it X.env x = pure x := by intro _; rfl) :
    SS X M (.Assign [.Name y py] (.ListComp elt [⟨tg, it, ifs, 0⟩] scope pos) spos) (fun σ => (lc (own.map (·.2)) src g t f σ).thn (setF i)) :=
  PS.weak (ps_setLc (g := fun v σ H Q => ∃ H0, gD (M.blk H0) is g v σ H Q) (tt := fun σ H Q => ∃ H0, tT (M.blk H0) t σ H Q) (te := fun σ H Q => ∃ H0, tE (M.blk H0) f σ H Q) hc hN hy hyl hsw hi ok
    (fun s H C cl fp => ⟨fun pins s' σ H' v u Q I r ⟨H0, q⟩ => (hg H0 s H C cl fp).run pins s' σ H' v u Q I r q⟩)
    (fun s H C cl fp => ⟨fun pins s' σ H' Q I ⟨H0, q⟩ => (ht H0 s H C cl fp).run pins s' σ H' Q I q⟩)
    (fun s H C cl fp => ⟨fun pins s' σ H' Q I ⟨H0, q⟩ => (he H0 s H C cl fp).run pins s' σ H' Q I q⟩) hs)
    fun D σ H ⟨σd, m, q⟩ => tLc_of hok his (fun _ _ _ z => z) (fun H0 _ _ _ _ z => ⟨H0, z⟩) (fun H0 _ _ _ z => ⟨H0, z⟩) (fun H0 _ _ _ z => ⟨H0, z⟩) ⟨σd, m, wpR_mono (wpR_thn q) fun ds σ1 q1 p xs H1 e1 hp ra m1 fr => wpO_setF q1 e1 hp ra m1 fr⟩
/-- .. or a datum for good -/
theorem ss_lockV {st : Stmt} {i : Nat} {F : DEnv → R (List D)} (h : SS X M st (fun σ => (F σ).thn (setF i))) : SS X M st (fun σ => (F σ).thn fun ds σ1 => setV i (.list ds) σ1) := by
  refine ⟨fun pins s σ H D I ⟨σd, m, q⟩ => ?_⟩
  refine thn (h.run pins s σ H { D with nx := fun σ' H' => ∃ σ1 ds, Ext H H' ∧ Mt M σ1 σ' H' ∧ σ1[i]? = some (.own ds) ∧ ∀ σ'' H'', Ext H H'' → Mt M (σ1.set i (.val (.list ds))) σ'' H'' → D.nx σ'' H'' } I ⟨σd, m, ?_⟩) fun fl s1 hfl => ?_
  · simp only at q ⊢
    cases hF : F σd with
    | bad => rw [hF] at q; exact q.elim
    | exc c σ1 => rw [hF] at q; exact q
    | ok ds σ1 =>
      rw [hF] at q
      have q : wpO M (setV i (.list ds) σ1) H D := q
      simp only [R.thn]
      unfold setV at q
      unfold setF
      cases hc : setC i (.val (.list ds)) σ1 with
      | none => rw [hc] at q; exact q.elim
      | some σ2 =>
        rw [hc] at q
        obtain ⟨rfl, hl, hn⟩ := setC_spec hc
        have hc2 : setC i (.own ds) σ1 = some (σ1.set i (.own ds)) := by
          unfold setC
          have e : σ1[i]? = some σ1[i] := List.getElem?_eq_getElem hl
          rw [e]
          split
          · rename_i z
            exact absurd (e.trans z) (hn _)
          · rfl
          · rename_i z; cases z
        rw [hc2]
        refine fun σ' H' e m1 => ⟨_, ds, e, m1, List.getElem?_set_self hl, fun σ'' H'' e2 m2 => ?_⟩
        rw [List.set_set] at m2
        exact q σ'' H'' e2 m2
  · cases fl with
    | next =>
      obtain ⟨σ', H', I', σ1, ds, e, m1, ho, k⟩ := hfl
      obtain ⟨p, xs, h1, h2, h3, h4, h5⟩ := m1.own i ds ho
      obtain ⟨od, I2⟩ := I'.lock h2 trivial
      obtain ⟨m2, _⟩ := m1.lock (od := od) ho h1 h2 h3 h4 h5
      exact ⟨σ', _, I2, k σ' _ (e.trans (Ext.wr h2)) m2⟩
    | brk => exact hfl
    | cont => exact hfl
    | ret u => exact hfl
end
end PL
set_option Elab.async false
set_option linter.all false
set_option maxRecDepth 100000
set_option autoImplicit false
/-! Subscripts, calls, promises over data. -/
namespace PL
open PySem PySem.Spec PyProof.Rows L2

section
variable {X : Cx} {M : Mx} {e k : Expr} {f g : DEnv → R D} {fs : DEnv → R (List D)} {pos p : Pos}

/-! ### x[k] -/
/-- an item of a list, a tuple, a text -/
def dIx : D → D → Option D
  | .list ds, .int i => (ixN ds.length i).bind fun j => ds[j]?
  | .tuple ds, .int i => (ixN ds.length i).bind fun j => ds[j]?
  | .str z, .int i => if z.length ≤ 1000000 then (atI z.cps.toList i).map fun c => .str ⟨#[c]⟩ else none
  | _, _ => none
theorem atI_of {K : PySem.W.Frag} {H : Hp} {xs : List V} {ds : List D} {i : Int} {d : D} (r : RepAll K H xs ds) (h : (ixN ds.length i).bind (fun j => ds[j]?) = some d) : ∃ v, atI xs i = some v ∧ Rep K H v d := by
  simp only [Option.bind_eq_some_iff] at h
  obtain ⟨j, h1, h2⟩ := h
  obtain ⟨v, h3, h4⟩ := r.get h2
  refine ⟨v, ?_, h4⟩
  unfold atI
  rw [r.length, h1]
  exact h3
theorem ix_ok : IxR X (rD X.K dIx) := by
  intro value slice pins s σ H x y v u Q I rx ry h hs
  obtain ⟨d, e, z, h1, h2, hz, q⟩ := h
  cases h2 with
  | int i =>
    cases h1 with
    | @lst a xs ds g1 g2 =>
      obtain ⟨w, h3, h4⟩ := atI_of g2 hz
      exact ix_seq value slice pins s σ H _ _ v u Q I rx ry (.inl ⟨a, xs, i, w, rfl, rfl, g1.sq, h3, q _ _ (Same.refl _) h4⟩) hs
    | @tup a xs ds g1 g2 =>
      obtain ⟨w, h3, h4⟩ := atI_of g2 hz
      exact ix_seq value slice pins s σ H _ _ v u Q I rx ry (.inr (.inl ⟨a, xs, i, w, rfl, rfl, g1, h3, q _ _ (Same.refl _) h4⟩)) hs
    | str t =>
      simp only [dIx] at hz
      split at hz
      · rename_i hl
        simp only [Option.map_eq_some_iff] at hz
        obtain ⟨c, hc, rfl⟩ := hz
        exact ix_seq value slice pins s σ H _ _ v u Q I rx ry (.inr (.inr ⟨t, i, c, rfl, rfl, Nat.le_of_lt (mil hl), hc, q _ _ (Same.refl _) (.str _)⟩)) hs
      · cases hz
    | _ => cases hz
  | _ => cases h1 <;> cases hz
theorem se_ix (hK : X.K = M.K) (ha : SE X M e f) (hb : SE X M k g) (hs : PlainIx k := by exact fun _ _ => rfl) : SE X M (.Subscript e k pos) (bin dIx f g) :=
  PE.weak (pe_ix ix_ok ha hb hs) fun σ H Q h => tOp_of hK h
/-- x[k], x a name: read when the key is there -/
@[simp] def ixV (i : Nat) (g : DEnv → R D) : DEnv → R D := fun σ => match rd i σ with
  | some _ => (g σ).bind fun kd σ1 => match rd i σ1 with
    | some d => lift (dIx d kd) σ1
    | none => .bad
  | none => .bad
theorem Mt.rd {σd : DEnv} {σ : L2.St} {H : Hp} {i : Nat} {d : D} (m : Mt M σd σ H) (h : rd i σd = some d) : ∃ v, σ[i]? = some (some v) ∧ (Rep M.K H v d ∨ ∃ p xs ds, v = .ref p ∧ H p = some (.lst xs) ∧ RepAll M.K H xs ds ∧ d = .list ds) := by
  unfold PL.rd at h
  split at h
  · rename_i d' e
    cases h
    obtain ⟨v, h1, h2⟩ := m.val i _ e
    exact ⟨v, h1, .inl h2⟩
  · rename_i ds e
    cases h
    obtain ⟨p, xs, h1, h2, h3, _⟩ := m.own i _ e
    exact ⟨_, h1, .inr ⟨p, xs, ds, rfl, h2, h3, rfl⟩⟩
  · rename_i ds e
    cases h
    obtain ⟨p, xs, h1, h2, h3, _⟩ := m.tap i _ e
    exact ⟨_, h1, .inr ⟨p, xs, ds, rfl, h2, h3, rfl⟩⟩
  · cases h
theorem se_ixV {i : Nat} {x : Str} {px : Pos} (hK : X.K = M.K) (hN : X.N[i]? = some x) (hv : Vis X.env.scope x) (hb : SE X M k g) (hs : PlainIx k := by exact fun _ _ => rfl) (hd : (x == ("__debug__" : Str)) = false := by decide) (hcd : (x == ("__classdict__" : Str)) = false := by decide) : SE X M (.Subscript (.Name x px) k pos) (ixV i g) := by
  have base : PE X (.Name x px) (tVar i) := pe_var hN hv hd hcd
  refine PE.weak (pe_ix (IxR.or (ix_ok (X := X)) (ix_list (X := X))) base hb hs) fun σ H Q ⟨σd, m, q⟩ => ?_
  unfold ixV at q
  cases hr : rd i σd with
  | none => rw [hr] at q; exact q.elim
  | some d0 =>
    rw [hr] at q
    obtain ⟨v, h1, _⟩ := m.rd hr
    refine ⟨v, h1, σd, m, wpR_mono (wpR_bind.mp q) fun kd σ1 q1 w H1 e1 r1 m1 => ?_⟩
    cases hr1 : rd i σ1 with
    | none => rw [hr1] at q1; exact q1.elim
    | some d1 =>
      rw [hr1] at q1
      obtain ⟨z, hz, q2⟩ := wpR_lift.mp q1
      obtain ⟨v', h2, h3⟩ := m1.rd hr1
      rw [h1] at h2
      cases h2
      rcases h3 with h3 | ⟨p, xs, ds, rfl, h4, h5, rfl⟩
      · exact .inl ⟨d1, kd, z, by rw [hK]; exact h3, by rw [hK]; exact r1, hz, fun u H2 s2 r2 => q2 u H2 (e1.trans (Ext.same s2)) (by rw [← hK]; exact r2) (m1.same s2)⟩
      · cases r1 with
        | int j =>
          obtain ⟨w, h6, h7⟩ := atI_of h5 hz
          exact .inr ⟨p, xs, j, w, rfl, rfl, SqL.of h4, h6, q2 w H1 e1 h7 m1⟩
        | _ => cases hz

/-! ### x[lo:hi] -/
def optI : Option D → Option (Option Int)
  | none => some none
  | some (.int i) => some (some i)
  | _ => none
@[simp] def noPart : DEnv → R (Option Int) := fun σ => .ok none σ
@[simp] def part (f : DEnv → R D) : DEnv → R (Option Int) := fun σ => (f σ).bind fun d σ1 => match d with
  | .int i => .ok (some i) σ1
  | _ => .bad
def tO (M : Mx) (f : DEnv → R (Option Int)) : TO := fun σ H Q => ∃ σd, Mt M σd σ H ∧ wpR (f σd) (fun o σ1 => ∀ H', Ext H H' → Mt M σ1 σ H' → Q o H') M.W
abbrev SO (X : Cx) (M : Mx) (e : Option Expr) (f : DEnv → R (Option Int)) : Prop := PO X e (tO M f)
theorem PO.weak {e : Option Expr} {t t' : TO} (h : PO X e t) (k : ∀ σ H Q, t' σ H Q → t σ H Q) : PO X e t' := ⟨fun pins s σ H Q I q => h.run pins s σ H Q I (k _ _ _ q)⟩
theorem so_none : SO X M none noPart := PO.weak po_none fun σ H Q ⟨σd, m, q⟩ => q H (Ext.refl H) m
theorem so_some (h : SE X M e f) : SO X M (some e) (part f) := PO.weak (po_some h) fun σ H Q ⟨σd, m, q⟩ => ⟨σd, m, wpR_mono (wpR_bind.mp q) fun d σ1 q1 v H1 e1 r1 m1 => by
  cases r1 with
  | int i => exact ⟨i, rfl, q1 H1 e1 m1⟩
  | _ => exact q1.elim⟩
def cutD {α : Type} (xs : List α) (lo hi : Option Int) : List α := (xs.drop (HT.sIx xs.length 0 lo)).take (HT.sIx xs.length xs.length hi - HT.sIx xs.length 0 lo)
def dSl : D → Option Int → Option Int → Option D
  | .list ds, lo, hi => some (.list (cutD ds lo hi))
  | .tuple ds, lo, hi => some (.tuple (cutD ds lo hi))
  | .str z, lo, hi => if z.length ≤ 1000000 then some (.str (cutS z lo hi)) else none
  | _, _, _ => none
theorem RepAll.cut {K : PySem.W.Frag} {H : Hp} {xs : List V} {ds : List D} (r : RepAll K H xs ds) (lo hi : Option Int) : RepAll K H (cutV xs lo hi) (cutD ds lo hi) := by
  unfold cutV cutD
  rw [r.length]
  exact (r.drop _).take _
theorem cutD_all {α : Type} {xs : List α} {lo hi : Option Int} (h : HT.sIx xs.length 0 lo = 0 ∧ HT.sIx xs.length xs.length hi = xs.length) : cutD xs lo hi = xs := by
  unfold cutD
  rw [h.1, h.2, List.drop_zero, Nat.sub_zero, List.take_length]
def rSl (K : PySem.W.Frag) : V → Option Int → Option Int → Hp → VK → Prop := fun x lo hi H Q => ∃ d z, Rep K H x d ∧ dSl d lo hi = some z ∧ ∀ v H', Same H H' → Rep K H' v z → Q v H'
theorem SlR.lock {r r' : V → Option Int → Option Int → Hp → VK → Prop} (h : SlR X r) (k : ∀ x lo hi H Q, r' x lo hi H Q → ∃ Q0 : VK, r x lo hi H Q0 ∧ ∀ pins σ u s, EP X pins σ Q0 u s → EP X pins σ Q u s) : SlR X r' := by
  intro pins s σ H x v vl vu lo hi sl Q I rx hs pl pu q
  obtain ⟨Q0, q0, up⟩ := k _ _ _ _ _ q
  obtain ⟨T, id, h1, h2, h3⟩ := h pins s σ H x v vl vu lo hi sl Q0 I rx hs pl pu q0
  exact ⟨T, id, h1, h2, thn h3 fun u s' hu => up _ _ _ _ hu⟩
theorem sl_ok : SlR X (rSl X.K) := by
  refine SlR.lock (sl_list.or (sl_tupA.or sl_str)) fun x lo hi H Q ⟨d, z, h1, hz, q⟩ => ?_
  cases h1 with
  | @lst a xs ds g1 g2 =>
    cases hz
    refine ⟨fun v H' => ∃ p ys H1, v = .ref p ∧ Same H H1 ∧ H1 p = none ∧ H' = upd H1 p (.lst ys) ∧ RepAll X.K H1 ys (cutD ds lo hi), .inl ⟨a, xs, rfl, g1.sq, fun p hp => ⟨p, _, H, rfl, Same.refl _, hp, rfl, g2.cut lo hi⟩⟩, fun pins σ u s hu => lock_new X.K hu q⟩
  | @tup a xs ds g1 g2 =>
    cases hz
    refine ⟨Q, .inr (.inl ⟨a, xs, rfl, g1, fun hw => ?_, fun hw p hp => ?_⟩), fun _ _ _ _ z => z⟩
    · rw [g2.length] at hw
      rw [cutD_all hw] at q
      exact q _ _ (Same.refl _) (.tup g1 g2)
    · have sm : Same H (upd H p (.tup (cutV xs lo hi))) := same_upd hp
      exact q _ _ sm (.tup (SqT.of upd_same) ((g2.cut lo hi).ext (Ext.same sm)))
  | str t =>
    simp only [dSl] at hz
    split at hz
    · rename_i hl
      cases hz
      exact ⟨Q, .inr (.inr ⟨t, rfl, Nat.le_of_lt (mil hl), q _ _ (Same.refl _) (.str _)⟩), fun _ _ _ _ z => z⟩
    · cases hz
  | _ => cases hz
@[simp] def slE (f : DEnv → R D) (lo hi : DEnv → R (Option Int)) : DEnv → R D := fun σ => (f σ).bind fun d σ1 => (lo σ1).bind fun l σ2 => (hi σ2).bind fun h σ3 => lift (dSl d l h) σ3
theorem se_slice {lo hi : Option Expr} {fl fh : DEnv → R (Option Int)} {p2 : Pos} (hK : X.K = M.K) (ha : SE X M e f) (hl : SO X M lo fl) (hh : SO X M hi fh) : SE X M (.Subscript e (.Slice lo hi none p2) pos) (slE f fl fh) :=
  PE.weak (pe_slice sl_ok ha hl hh) fun σ H Q ⟨σd, m, q⟩ => ⟨σd, m, wpR_mono (wpR_bind.mp q) fun d σ1 q1 v H1 e1 r1 m1 => ⟨σ1, m1, wpR_mono (wpR_bind.mp q1) fun l σ2 q2 H2 e2 m2 => ⟨σ2, m2, wpR_mono (wpR_bind.mp q2) fun h σ3 q3 H3 e3 m3 => by
    obtain ⟨z, hz, q4⟩ := wpR_lift.mp q3
    exact ⟨d, z, by rw [hK]; exact r1.ext (e2.trans e3), hz, fun u H4 s4 r4 => q4 u H4 (e1.trans (e2.trans (e3.trans (Ext.same s4)))) (by rw [← hK]; exact r4) (m3.same s4)⟩⟩⟩⟩

/-! ### calls of defs -/
/-- what a def gives of data -/
inductive Ans where
  | ok (d : D)
  | exc (c : Nat)
  | bad
/-- what stood at the entry stands behind -/
def KeptH (H H' : Hp) : Prop := ∀ b o, H b = some o → Kept o (H' b)
theorem KeptH.refl (H : Hp) : KeptH H H := fun b o h => .inl h
theorem KeptH.ext {H H' : Hp} (k : KeptH H H') : Ext H H' where
  tup := fun b xs h => by
    rcases k b _ h with q | ⟨_, _, e, _⟩
    · exact q
    · cases e
  frz := fun b o u h => by
    rcases k b _ h with q | ⟨_, _, e, _⟩
    · exact q
    · cases e
/-- the promise: of the data ds, F ds -/
def spD (K : PySem.W.Frag) (tabs : List Addr) (cls : Nat → Addr) (F : List D → Ans) : Sp := fun vs H Q E => ∃ ds, RepAll K H vs ds ∧ (∀ P ∈ tabs, TabG H P) ∧
  match F ds with
  | .ok d => ∀ v H', KeptH H H' → (∀ P ∈ tabs, TabG H' P) → Rep K H' v d → Q v H'
  | .exc c => ∀ H', KeptH H H' → (∀ P ∈ tabs, TabG H' P) → E (.ref (cls c)) none H'
  | .bad => False
/-- what a def gives where its first argument is a list that is lent: the answer, the list behind it -/
inductive AnsT where
  | ok (d : D) (tp : List D)
  | bad
def spT (K : PySem.W.Frag) (tabs : List Addr) (F : List D → List D → AnsT) : Sp := fun vs H Q E => ∃ (t : Addr) (ws xs : List V) (tp ds : List D), vs = .ref t :: ws ∧ H t = some (.lst xs) ∧ RepAll K H xs tp ∧ RepAll K H ws ds ∧ (∀ P ∈ tabs, TabG H P) ∧
  match F tp ds with
  | .ok d tp' => ∀ v H' xs', (∀ b o, H b = some o → b ≠ t → Kept o (H' b)) → (∀ P ∈ tabs, TabG H' P) → H' t = some (.lst xs') → RepAll K H' xs' tp' → Rep K H' v d → Q v H'
  | .bad => False
/-- a def of the program with its meaning -/
structure FnD (P : Program) (w : World) (K : PySem.W.Frag) (mg : Str → Option Value) (base : Heap) (tabs : List Addr) (cls : Nat → Addr) (k : Nat) (x : Str) (F : List D → Ans) : Prop where
  ex : ∃ (f : Addr) (fd : FuncData) (ps : List Str), mg x = some (.ref f) ∧ PySem.W.keepIn K (.ref f) = true ∧ Binds K fd ps [] ∧ FnOk P w K mg base (L2N.CX P w) k f fd ps (spD K tabs cls F)
structure FnT (P : Program) (w : World) (K : PySem.W.Frag) (mg : Str → Option Value) (base : Heap) (tabs : List Addr) (k : Nat) (x : Str) (F : List D → List D → AnsT) : Prop where
  ex : ∃ (f : Addr) (fd : FuncData) (ps : List Str), mg x = some (.ref f) ∧ PySem.W.keepIn K (.ref f) = true ∧ Binds K fd ps [] ∧ FnOk P w K mg base (L2N.CX P w) k f fd ps (spT K tabs F)
/-- what is wished of an exception -/
def wOf (M : Mx) : WX := fun cls d σ H => ∃ c σd, cls = .ref (M.cls c) ∧ d = none ∧ Mt M σd σ H ∧ M.W c σd
/-- where one stands -/
structure Ok (X : Cx) (M : Mx) (k : Nat) : Prop where
  hK : X.K = M.K
  calm : X.calm = true
  nd : X.N.Nodup
  room : Room k X.A
  tk : L2N.Takes X (wOf M)
  own : PassesOwn (model X.prog X.w) X.A X.env X.xe
theorem takes_none {X : Cx} {W : WX} (h : ∀ c d σ H, ¬ W c d σ H) : L2N.Takes X W := fun _ _ x => by
  obtain ⟨_, _, _, _, _, _, _, _, _, _, _, _, _, _, _, _, z⟩ := x
  exact absurd z (h _ _ _ _)
theorem Ok.blk {kk : Nat} (o : Ok X M kk) (H0 : Hp) (s : Shared) (H : Hp) (scope : Scope) (cenv : PySem.Env) (fp : List Addr) : Ok (X.blk s H scope cenv fp) (M.blk H0) kk :=
  ⟨o.hK, o.calm, o.nd, o.room, takes_none fun _ _ _ _ ⟨_, _, _, _, _, z⟩ => z, PassesOwn.never⟩
theorem Ok.mono {j kk : Nat} (o : Ok X M kk) (h : j ≤ kk) : Ok X M j := ⟨o.hK, o.calm, o.nd, o.room.mono h, o.tk, o.own⟩
@[simp] def callF (F : List D → Ans) (fs : DEnv → R (List D)) : DEnv → R D := fun σ => (fs σ).bind fun ds σ1 => match F ds with
  | .ok d => .ok d σ1
  | .exc c => .exc c σ1
  | .bad => .bad
theorem Mt.behind {σd : DEnv} {σ : L2.St} {H H' : Hp} (m : Mt M σd σ H) (k : KeptH H H') (t : ∀ P ∈ M.tabs, TabG H' P) : Mt M σd σ H' where
  len := m.len
  val := fun i d e => let ⟨v, h1, h2⟩ := m.val i d e; ⟨v, h1, h2.ext k.ext⟩
  own := fun i ds e => by
    obtain ⟨p, xs, h1, h2, h3, h4⟩ := m.own i ds e
    refine ⟨p, xs, h1, ?_, h3.ext k.ext, h4⟩
    rcases k p _ h2 with q | ⟨_, _, e, _⟩
    · exact q
    · cases e
  tap := fun i ds e => by
    obtain ⟨p, xs, h1, h2, h3, h4⟩ := m.tap i ds e
    refine ⟨p, xs, h1, ?_, h3.ext k.ext, h4⟩
    rcases k p _ h2 with q | ⟨_, _, e, _⟩
    · exact q
    · cases e
  dj := m.dj
  kept := fun b o h ht => (m.kept b o h ht).trans fun o' h' => k b o' h'
  tabs := t
  tape := m.tape
  tapOne := m.tapOne
  dic := m.dic.mono k.ext fun b o q io => by
    rcases k b _ q with z | ⟨_, _, e, _⟩
    · exact z
    · exact absurd e (io.ntbl _)
variable {es : List Expr} {x : Str} {kk jj : Nat} {F : List D → Ans} {FT : List D → List D → AnsT}
/-- f(e, ..) -/
theorem se_call (o : Ok X M kk) (G : FnD X.prog X.w X.K X.mg X.base M.tabs M.cls jj x F) (hj : jj ≤ kk) (hg : Gl X x) (ha : SA X M (e :: es) fs)
    (hdb : (x == ("__debug__" : Str)) = false := by decide) (he : starEach (e :: es) X.env = (false, eval e X.env) :: starEach es X.env := by rfl) (hpl : (backTo pos (starEach es X.env)).any (·.1) = false := by rfl) :
    SE X M (.Call (.Name x p) (e :: es) [] pos) (callF F fs) := by
  obtain ⟨f, fd, ps, hm, hk, hb, hF⟩ := G.ex
  refine PE.weak (pe_callS hF (o.room.mono hj) hg hm hk hb (fun σ => L2N.passAt o.tk σ) ha hdb he hpl) fun σ H Q ⟨σd, m, q⟩ => ⟨σd, m, wpR_mono (wpR_bind.mp q) fun ds σ1 q1 vs H1 e1 r1 m1 => ?_⟩
  refine ⟨ds, by rw [o.hK]; exact r1, m1.tabs, ?_⟩
  cases hF2 : F ds with
  | ok d =>
    rw [hF2] at q1
    exact fun v H' kp tb r => q1 v H' (e1.trans kp.ext) (by rw [← o.hK]; exact r) (m1.behind kp tb)
  | exc c =>
    rw [hF2] at q1
    exact fun H' kp tb => ⟨c, σ1, rfl, rfl, m1.behind kp tb, q1⟩
  | bad => rw [hF2] at q1; exact q1.elim
theorem ext_but {H H' : Hp} {p : Addr} {xs : List V} (hH : H p = some (.lst xs)) (kp : ∀ b o, H b = some o → b ≠ p → Kept o (H' b)) : Ext H H' where
  tup := fun b zs q => by
    rcases kp b _ q (ne_of q hH (by intro z; cases z)) with z | ⟨_, _, e, _⟩
    · exact z
    · cases e
  frz := fun b ob u q => by
    rcases kp b _ q (ne_of q hH (by intro z; cases z)) with z | ⟨_, _, e, _⟩
    · exact z
    · cases e
/-- the lent list behind a call that was given it -/
theorem Mt.lent {σd : DEnv} {σ : L2.St} {H H' : Hp} {i : Nat} {ds es : List D} {p : Addr} {xs ys : List V} (m : Mt M σd σ H) (h : PL.lstOf i σd = some ds) (hp : σ[i]? = some (some (.ref p))) (hH : H p = some (.lst xs))
    (kp : ∀ b o, H b = some o → b ≠ p → Kept o (H' b)) (tb : ∀ P ∈ M.tabs, TabG H' P) (hH' : H' p = some (.lst ys)) (ra : RepAll M.K H' ys es) : Mt M (PL.putL i es σd) σ H' := by
  have ex : Ext H H' := ext_but hH kp
  have other : ∀ b zs, H b = some (.lst zs) → b ≠ p → H' b = some (.lst zs) := fun b zs q hb => by
    rcases kp b _ q hb with z | ⟨_, _, e, _⟩
    · exact z
    · cases e
  unfold PL.lstOf at h
  unfold PL.putL
  split at h
  · rename_i es0 e
    cases h
    obtain ⟨p0, _, g1, _, _, g4, g5⟩ := m.own i _ e
    rw [hp] at g1
    cases g1
    refine ⟨by rw [List.length_set]; exact m.len, fun j d q => ?_, fun j fs q => ?_, fun j fs q => ?_, fun j k a b p' q1 q2 q3 q4 => ?_, fun b o e1 e2 => ?_, tb, fun t ht => ?_, fun j k a b q1 q2 => ?_, (m.dic.mono ex fun b o q io => (kp b o q (ne_of q hH (io.nlst xs))).elim id fun ⟨_, _, e, _⟩ => absurd e (io.ntbl _)).set (fun l k z => by cases z)⟩
    · rcases getset q with ⟨rfl, e0⟩ | ⟨ne, q⟩
      · cases e0
      · obtain ⟨v, h1, h2⟩ := m.val j d q
        exact ⟨v, h1, h2.ext ex⟩
    · rcases getset q with ⟨rfl, e0⟩ | ⟨ne, q⟩
      · cases e0
        exact ⟨p, ys, hp, hH', ra, g4, g5⟩
      · obtain ⟨p', zs, h1, h2, h3, h4⟩ := m.own j fs q
        exact ⟨p', zs, h1, other _ _ h2 (fun z => ne (by subst z; exact m.dj i j _ _ _ e q hp h1)), h3.ext ex, h4⟩
    · rcases getset q with ⟨rfl, e0⟩ | ⟨ne, q⟩
      · cases e0
      · obtain ⟨p', zs, h1, h2, h3, h4⟩ := m.tap j fs q
        exact ⟨p', zs, h1, other _ _ h2 (fun z => g5 (by rw [← z]; exact h4)), h3.ext ex, h4⟩
    · have q1' : ∃ a', σd[j]? = some (.own a') := by
        rcases getset q1 with ⟨rfl, _⟩ | ⟨_, q⟩
        · exact ⟨_, e⟩
        · exact ⟨_, q⟩
      have q2' : ∃ a', σd[k]? = some (.own a') := by
        rcases getset q2 with ⟨rfl, _⟩ | ⟨_, q⟩
        · exact ⟨_, e⟩
        · exact ⟨_, q⟩
      obtain ⟨a', q1'⟩ := q1'
      obtain ⟨b', q2'⟩ := q2'
      exact m.dj j k a' b' p' q1' q2' q3 q4
    · have hb : b ≠ p := fun z => by subst z; rw [g4] at e1; cases e1
      exact (m.kept b o e1 e2).trans fun o' h' => kp b o' h' hb
    · obtain ⟨fs, q⟩ := m.tape t ht
      refine ⟨fs, ?_⟩
      rw [List.getElem?_set_ne (fun z => by subst z; rw [e] at q; cases q)]
      exact q
    · rcases getset q1 with ⟨rfl, e0⟩ | ⟨_, q1⟩
      · cases e0
      · rcases getset q2 with ⟨rfl, e0⟩ | ⟨_, q2⟩
        · cases e0
        · exact m.tapOne j k a b q1 q2
  · rename_i es0 e
    cases h
    obtain ⟨p0, _, g1, _, _, g4⟩ := m.tap i _ e
    rw [hp] at g1
    cases g1
    refine ⟨by rw [List.length_set]; exact m.len, fun j d q => ?_, fun j fs q => ?_, fun j fs q => ?_, fun j k a b p' q1 q2 q3 q4 => ?_, fun b o e1 e2 => ?_, tb, fun t ht => ?_, fun j k a b q1 q2 => ?_, (m.dic.mono ex fun b o q io => (kp b o q (ne_of q hH (io.nlst xs))).elim id fun ⟨_, _, e, _⟩ => absurd e (io.ntbl _)).set (fun l k z => by cases z)⟩
    · rcases getset q with ⟨rfl, e0⟩ | ⟨ne, q⟩
      · cases e0
      · obtain ⟨v, h1, h2⟩ := m.val j d q
        exact ⟨v, h1, h2.ext ex⟩
    · rcases getset q with ⟨rfl, e0⟩ | ⟨ne, q⟩
      · cases e0
      · obtain ⟨p', zs, h1, h2, h3, h4, h5⟩ := m.own j fs q
        exact ⟨p', zs, h1, other _ _ h2 (fun z => h5 (by rw [z]; exact g4)), h3.ext ex, h4, h5⟩
    · rcases getset q with ⟨rfl, e0⟩ | ⟨ne, q⟩
      · cases e0
        exact ⟨p, ys, hp, hH', ra, g4⟩
      · exact absurd (m.tapOne i j _ _ e q) ne
    · rcases getset q1 with ⟨rfl, e0⟩ | ⟨_, q1⟩
      · cases e0
      · rcases getset q2 with ⟨rfl, e0⟩ | ⟨_, q2⟩
        · cases e0
        · exact m.dj j k a b p' q1 q2 q3 q4
    · have hb : b ≠ p := fun z => e2 (by rw [z]; exact g4)
      exact (m.kept b o e1 e2).trans fun o' h' => kp b o' h' hb
    · obtain ⟨fs, q⟩ := m.tape t ht
      by_cases z : i = 0
      · subst z
        rw [e] at q
        cases q
        exact ⟨es, List.getElem?_set_self (List.getElem?_eq_some_iff.mp e).1⟩
      · exact ⟨fs, by rw [List.getElem?_set_ne z]; exact q⟩
    · have q1' : ∃ a', σd[j]? = some (.tap a') := by
        rcases getset q1 with ⟨rfl, _⟩ | ⟨_, q⟩
        · exact ⟨_, e⟩
        · exact ⟨_, q⟩
      have q2' : ∃ a', σd[k]? = some (.tap a') := by
        rcases getset q2 with ⟨rfl, _⟩ | ⟨_, q⟩
        · exact ⟨_, e⟩
        · exact ⟨_, q⟩
      obtain ⟨a', q1'⟩ := q1'
      obtain ⟨b', q2'⟩ := q2'
      exact m.tapOne j k a' b' q1' q2'
  · cases h
/-- f(x, e, ..), f given the list of x to change -/
@[simp] def callT (F : List D → List D → AnsT) (i : Nat) (fs : DEnv → R (List D)) : DEnv → R D := fun σ => match lstOf i σ with
  | some _ => (fs σ).bind fun ds σ1 => match lstOf i σ1 with
    | some tp => match F tp ds with
      | .ok d tp' => .ok d (putL i tp' σ1)
      | .bad => .bad
    | none => .bad
  | none => .bad
theorem se_callT {i : Nat} {y : Str} {py : Pos} (o : Ok X M kk) (G : FnT X.prog X.w X.K X.mg X.base M.tabs jj x FT) (hj : jj ≤ kk) (hg : Gl X x) (hN : X.N[i]? = some y) (hv : Vis X.env.scope y) (ha : SA X M es fs) (hd : (y == ("__debug__" : Str)) = false := by decide) (hcd : (y == ("__classdict__" : Str)) = false := by decide)
    (hdb : (x == ("__debug__" : Str)) = false := by decide) (he : starEach (.Name y py :: es) X.env = (false, eval (.Name y py) X.env) :: starEach es X.env := by rfl) (hpl : (backTo pos (starEach es X.env)).any (·.1) = false := by rfl) :
    SE X M (.Call (.Name x p) (.Name y py :: es) [] pos) (callT FT i fs) := by
  obtain ⟨f, fd, ps, hm, hk, hb, hF⟩ := G.ex
  have base : PE X (.Name y py) (tVar i) := pe_var hN hv hd hcd
  refine PE.weak (pe_callS hF (o.room.mono hj) hg hm hk hb (fun σ => L2N.passAt o.tk σ) (pa_cons base ha he) hdb he hpl) fun σ H Q ⟨σd, m, q⟩ => ?_
  unfold callT at q
  cases hl : lstOf i σd with
  | none => rw [hl] at q; exact q.elim
  | some tp0 =>
    rw [hl] at q
    obtain ⟨t, xs0, h1, _⟩ := m.lstOf hl
    refine ⟨.ref t, h1, σd, m, wpR_mono (wpR_bind.mp q) fun ds σ1 q1 vs H1 e1 r1 m1 => ?_⟩
    cases hl1 : lstOf i σ1 with
    | none => rw [hl1] at q1; exact q1.elim
    | some tp =>
      rw [hl1] at q1
      obtain ⟨t', xs, h2, h3, h4⟩ := m1.lstOf hl1
      rw [h1] at h2
      cases h2
      refine ⟨t, vs, xs, tp, ds, rfl, h3, by rw [o.hK]; exact h4, by rw [o.hK]; exact r1, m1.tabs, ?_⟩
      cases hF2 : FT tp ds with
      | bad => simp only [hF2] at q1; exact q1.elim
      | ok d tp' =>
        simp only [hF2] at q1
        intro v H' xs' kp tb g1 g2 g3
        have m2 := m1.lent hl1 h1 h3 kp tb g1 (by rw [← o.hK]; exact g2)
        have ex : Ext H1 H' := ext_but h3 kp
        exact q1 v H' (e1.trans ex) (by rw [← o.hK]; exact g3) m2
end

/-! ### a def by its body -/
section
variable {P : Program} {w : World} {K : PySem.W.Frag} {mg : Str → Option Value} {base : Heap} {tabs : List Addr} {cls : Nat → Addr}
/-- what the body makes of the data -/
@[simp] def startD (n : Nat) (ds : List D) : DEnv := ds.map Cell.val ++ List.replicate (n - ds.length) Cell.emp
@[simp] def answers (x : O) : Ans := match x with
  | .nx _ => .ok .none
  | .ret d _ => .ok d
  | .exc c _ => .exc c
  | _ => .bad
theorem start_get {vs : List V} {n : Nat} {i : Nat} {v : V} (h : vs[i]? = some v) : (L2.start (List.replicate n ("" : Str)) vs)[i]? = some (some v) := by
  unfold L2.start
  rw [List.getElem?_append_left (by rw [List.length_map]; exact (List.getElem?_eq_some_iff.mp h).1), List.getElem?_map, h]
  rfl
theorem Mt.start {N : List Str} {vs : List V} {ds : List D} {H : Hp} {W : Nat → DEnv → Prop} (r : RepAll K H vs ds) (hn : ds.length ≤ N.length) (t : ∀ P ∈ tabs, TabG H P) : Mt ⟨K, H, none, tabs, cls, W⟩ (startD N.length ds) (L2.start N vs) H := by
  have hl := r.length
  have no : ∀ (i : Nat) (c : Cell), (startD N.length ds)[i]? = some c → c = .emp ∨ ∃ d, ds[i]? = some d ∧ c = .val d := fun i c e => by
    unfold startD at e
    by_cases hi : i < ds.length
    · rw [List.getElem?_append_left (by simpa using hi), List.getElem?_map, List.getElem?_eq_getElem hi] at e
      exact .inr ⟨_, List.getElem?_eq_getElem hi, (Option.some.inj e).symm⟩
    · rw [List.getElem?_append_right (by simpa using hi), List.getElem?_replicate] at e
      split at e
      · exact .inl (Option.some.inj e).symm
      · cases e
  refine ⟨by unfold startD L2.start; simp; omega, fun i d e => ?_, fun i d e => ?_, fun i d e => ?_, fun i j a b p e _ _ _ => ?_, fun b o e _ => .inl e, t, fun t e => (by cases e), fun i j a b e _ => ?_, DicAt.no fun i l k e => by
    rcases no i _ e with z | ⟨d', h1, h2⟩
    · cases z
    · cases h2⟩
  · rcases no i _ e with z | ⟨d', h1, h2⟩
    · cases z
    · cases h2
      obtain ⟨v, h3, h4⟩ := r.get h1
      refine ⟨v, ?_, h4⟩
      unfold L2.start
      rw [List.getElem?_append_left (by rw [List.length_map]; exact (List.getElem?_eq_some_iff.mp h3).1), List.getElem?_map, h3]
      rfl
  · rcases no i _ e with z | ⟨d', h1, h2⟩
    · cases z
    · cases h2
  · rcases no i _ e with z | ⟨d', h1, h2⟩
    · cases z
    · cases h2
  · rcases no i _ e with z | ⟨d', h1, h2⟩
    · cases z
    · cases h2
  · rcases no i _ e with z | ⟨d', h1, h2⟩
    · cases z
    · cases h2
/-- the context of a body -/
abbrev cxD (P : Program) (w : World) (K : PySem.W.Frag) (mg : Str → Option Value) (base : Heap) (N : List Str) (qual : Str) (st : Stmt) (f : Addr) (cdv : Value) (A : Around) (outer : List PySem.Env) (s : Shared) (H : Hp) (E : XK) : Cx :=
  cxOf (L2N.CX P w) P w K mg base N qual (defScope st) f cdv A outer s H E
theorem Ok.cx {N ps : List Str} {qual : Str} {st : Stmt} {f : Addr} {cdv : Value} {A : Around} {outer : List PySem.Env} {s : Shared} {H : Hp} {E : XK} {k : Nat} {M : Mx} (S : FnScope N ps (defScope st)) (hK : K = M.K) (hr : Room k (A.deeper (envOfC qual (defScope st) s.heap.objs.size f cdv)))
    (hE : ∀ c σd σ H', Mt M σd σ H' → M.W c σd → E (.ref (M.cls c)) none H') : Ok (cxD P w K mg base N qual st f cdv A outer s H E) M k where
  hK := hK
  calm := rfl
  nd := S.nd
  room := hr
  tk := (L2N.takes_of rfl rfl rfl rfl : L2N.Takes (cxD P w K mg base N qual st f cdv A outer s H E) (fun cls d _ H' => E cls d H')).imp fun cls d σ H' ⟨c, σd, e1, e2, m, q⟩ => by
    rw [e1, e2]
    exact hE c σd σ H' m q
  own := passes_of (X := cxD P w K mg base N qual st f cdv A outer s H E) rfl
/-- a def of the text as it stands behind the top; cp: what is known of its code object -/
structure FunP (K : PySem.W.Frag) (x qual : Str) (st : Stmt) (f : Addr) (fd : FuncData) (cp : Value → Prop) : Prop where
  ex : ∃ (oc : Value) (od : Option Addr) (kV doc pm : Value) (an : Option Addr) (cdv ct : Value) (osl : Array (Option Value)),
    fd = PySem.W.fnOf x qual (defArgs st) (defBody st) (defScope st) .none kV doc pm an cdv ct ∧ K.lookup f = some ⟨oc, od, .func fd, osl⟩ ∧ PySem.W.codeIn K cdv qual = true ∧ cp cdv
  kp : PySem.W.keepIn K (.ref f) = true
theorem FunP.fun {x qual : Str} {st : Stmt} {f : Addr} {fd : FuncData} {cp : Value → Prop} (F : FunP K x qual st f fd cp) : Fun K x qual st f fd :=
  ⟨let ⟨oc, od, kV, doc, pm, an, cdv, ct, osl, a, b, c, _⟩ := F.ex; ⟨oc, od, kV, doc, pm, an, cdv, ct, osl, a, b, c⟩, F.kp⟩
theorem FunP.okX {x qual : Str} {st : Stmt} {f : Addr} {fd : FuncData} {cp : Value → Prop} {N ps : List Str} {k : Nat} {sp : Sp} (F : FunP K x qual st f fd cp) (S : FnScope N ps (defScope st)) (len : ∀ vs H Q E, sp vs H Q E → vs.length = ps.length)
    (hb : ∀ (cdv : Value), cp cdv → ∀ (A : Around) (outer : List PySem.Env) (s : Shared) (H : Hp) (vs : List V) (Q : VK) (E : XK), Room k (A.deeper (envOfC qual (defScope st) s.heap.objs.size f cdv)) → sp vs H Q E →
      ∃ t, PSs (cxOf (L2N.CX P w) P w K mg base N qual (defScope st) f cdv A outer s H E) (defBody st) t ∧ t { nx := fun _ H' => Q .non H', rt := Q } (start N vs) H) : FnOk P w K mg base (L2N.CX P w) (k + 1) f fd ps sp := by
  obtain ⟨oc, od, kV, doc, pm, an, cdv, ct, osl, rfl, lk, hcd, hp⟩ := F.ex
  exact fn_of lk hcd S len fun A outer s H vs Q E hr hsp => hb cdv hp A outer s H vs Q E hr hsp
/-- THE RULE for a def -/
theorem fnD_of {x qual : Str} {st : Stmt} {f : Addr} {fd : FuncData} {cp : Value → Prop} {N ps : List Str} {k : Nat} {F : List D → Ans} {B : Nat → DEnv → O} (FN : FunP K x qual st f fd cp) (hmg : mg x = some (.ref f)) (hbi : Binds K fd ps []) (S : FnScope N ps (defScope st))
    (hlen : ∀ ds, F ds ≠ .bad → ds.length = ps.length)
    (hF : ∀ ds, F ds ≠ .bad → ∃ n, answers (B n (startD N.length ds)) = F ds)
    (hB : ∀ (n : Nat) (cdv : Value), cp cdv → ∀ (A : Around) (outer : List PySem.Env) (s : Shared) (H : Hp) (E : XK) (W : Nat → DEnv → Prop), Ok (cxD P w K mg base N qual st f cdv A outer s H E) ⟨K, H, none, tabs, cls, W⟩ k →
      SSs (cxD P w K mg base N qual st f cdv A outer s H E) ⟨K, H, none, tabs, cls, W⟩ (defBody st) (B n)) : FnD P w K mg base tabs cls (k + 1) x F := by
  refine ⟨f, fd, ps, hmg, FN.kp, hbi, FN.okX S (fun vs H Q E h => ?_) fun cdv hcp A outer s H vs Q E hr h => ?_⟩
  · obtain ⟨ds, r, _, q⟩ := h
    rw [r.length]
    refine hlen ds fun z => ?_
    rw [z] at q
    exact q
  · obtain ⟨ds, r, tb, q⟩ := h
    have nb : F ds ≠ .bad := fun z => by rw [z] at q; exact q
    obtain ⟨n, hn⟩ := hF ds nb
    have hpl : ps.length ≤ N.length := by have := congrArg List.length S.pre; rw [List.length_take] at this; omega
    refine ⟨_, hB n cdv hcp A outer s H E (fun c (_ : DEnv) => F ds = .exc c) (Ok.cx S rfl hr fun c σd σ H' m z => ?_), startD N.length ds, Mt.start r (by rw [hlen ds nb]; exact hpl) tb, ?_⟩
    · have z : F ds = .exc c := z
      rw [z] at q
      exact q H' (fun b o e => m.kept b o e (by intro z; cases z)) m.tabs
    · cases hb : B n (startD N.length ds) with
      | nx σ1 =>
        rw [hb] at hn
        have hn : Ans.ok .none = F ds := hn
        rw [← hn] at q
        exact fun σ' H' e m => q .non H' (fun b o e => m.kept b o e (by intro z; cases z)) m.tabs .non
      | ret d σ1 =>
        rw [hb] at hn
        have hn : Ans.ok d = F ds := hn
        rw [← hn] at q
        exact fun v σ' H' e r m => q v H' (fun b o e => m.kept b o e (by intro z; cases z)) m.tabs r
      | exc c σ1 =>
        rw [hb] at hn
        exact hn.symm
      | retF d σ1 => rw [hb] at hn; exact absurd hn.symm nb
      | brk σ1 => rw [hb] at hn; exact absurd hn.symm nb
      | cnt σ1 => rw [hb] at hn; exact absurd hn.symm nb
      | bad => rw [hb] at hn; exact absurd hn.symm nb

/-! ### a def that changes the list that it is given first -/
@[simp] def startT (n : Nat) (tp ds : List D) : DEnv := Cell.tap tp :: startD (n - 1) ds
@[simp] def answersT (x : O) : AnsT := match x with
  | .nx σ => match σ[(0 : Nat)]? with
    | some (.tap tp) => .ok .none tp
    | _ => .bad
  | .ret d σ => match σ[(0 : Nat)]? with
    | some (.tap tp) => .ok d tp
    | _ => .bad
  | _ => .bad
theorem Mt.startT {N : List Str} {t : Addr} {vs xs : List V} {tp ds : List D} {H : Hp} {W : Nat → DEnv → Prop} (hN : 1 + ds.length ≤ N.length) (hH : H t = some (.lst xs)) (rt : RepAll K H xs tp) (r : RepAll K H vs ds) (tb : ∀ P ∈ tabs, TabG H P) : Mt ⟨K, H, some t, tabs, cls, W⟩ (PL.startT N.length tp ds) (L2.start N (.ref t :: vs)) H := by
  have hl := r.length
  have e0 : L2.start N (.ref t :: vs) = some (.ref t) :: (vs.map some ++ List.replicate (N.length - 1 - vs.length) none) := by
    unfold L2.start
    rw [List.map_cons, List.length_cons, List.cons_append, Nat.sub_sub, Nat.add_comm]
  have no : ∀ (i : Nat) (c : Cell), (startD (N.length - 1) ds)[i]? = some c → c = .emp ∨ ∃ d, ds[i]? = some d ∧ c = .val d := fun i c e => by
    unfold startD at e
    by_cases hi : i < ds.length
    · rw [List.getElem?_append_left (by simpa using hi), List.getElem?_map, List.getElem?_eq_getElem hi] at e
      exact .inr ⟨_, List.getElem?_eq_getElem hi, (Option.some.inj e).symm⟩
    · rw [List.getElem?_append_right (by simpa using hi), List.getElem?_replicate] at e
      split at e
      · exact .inl (Option.some.inj e).symm
      · cases e
  rw [e0]
  have zero : ∀ (i : Nat) (tq : List D), (PL.startT N.length tp ds)[i]? = some (.tap tq) → i = 0 ∧ tq = tp := fun i tq e => by
    cases i with
    | zero => cases e; exact ⟨rfl, rfl⟩
    | succ i =>
      rcases no i _ e with z | ⟨d', h1, h2⟩
      · cases z
      · cases h2
  have noown : ∀ (i : Nat) (tq : List D), (PL.startT N.length tp ds)[i]? ≠ some (.own tq) := fun i tq e => by
    cases i with
    | zero => cases e
    | succ i =>
      rcases no i _ e with z | ⟨d', h1, h2⟩
      · cases z
      · cases h2
  refine ⟨by unfold PL.startT startD; simp; omega, fun i d e => ?_, fun i d e => absurd e (noown i d), fun i d e => ?_, fun i j a b p e _ _ _ => absurd e (noown i a), fun b o e _ => .inl e, tb, fun t' e => ⟨tp, rfl⟩, fun i j a b e1 e2 => (zero i a e1).1.trans (zero j b e2).1.symm, DicAt.no fun i l k e => by
    cases i with
    | zero => cases e
    | succ i =>
      rcases no i _ e with z | ⟨d', h1, h2⟩
      · cases z
      · cases h2⟩
  · cases i with
    | zero => cases e
    | succ i =>
      rcases no i _ e with z | ⟨d', h1, h2⟩
      · cases z
      · cases h2
        obtain ⟨v, h3, h4⟩ := r.get h1
        refine ⟨v, ?_, h4⟩
        rw [List.getElem?_cons_succ, List.getElem?_append_left (by rw [List.length_map]; exact (List.getElem?_eq_some_iff.mp h3).1), List.getElem?_map, h3]
        rfl
  · obtain ⟨rfl, rfl⟩ := zero i d e
    exact ⟨t, xs, rfl, hH, rt, rfl⟩
theorem fnT_of {x qual : Str} {st : Stmt} {f : Addr} {fd : FuncData} {cp : Value → Prop} {N ps : List Str} {k : Nat} {F : List D → List D → AnsT} {B : Nat → DEnv → O} (FN : FunP K x qual st f fd cp) (hmg : mg x = some (.ref f)) (hbi : Binds K fd ps []) (S : FnScope N ps (defScope st))
    (hlen : ∀ tp ds, F tp ds ≠ .bad → 1 + ds.length = ps.length)
    (hF : ∀ tp ds, F tp ds ≠ .bad → ∃ n, answersT (B n (startT N.length tp ds)) = F tp ds)
    (hB : ∀ (n : Nat) (cdv : Value), cp cdv → ∀ (A : Around) (outer : List PySem.Env) (s : Shared) (H : Hp) (E : XK) (W : Nat → DEnv → Prop) (t : Addr), Ok (cxD P w K mg base N qual st f cdv A outer s H E) ⟨K, H, some t, tabs, cls, W⟩ k →
      SSs (cxD P w K mg base N qual st f cdv A outer s H E) ⟨K, H, some t, tabs, cls, W⟩ (defBody st) (B n)) : FnT P w K mg base tabs (k + 1) x F := by
  refine ⟨f, fd, ps, hmg, FN.kp, hbi, FN.okX S (fun vs H Q E h => ?_) fun cdv hcp A outer s H vs Q E hr h => ?_⟩
  · obtain ⟨t, ws, xs, tp, ds, rfl, _, _, r, _, q⟩ := h
    rw [List.length_cons, r.length, Nat.add_comm]
    refine hlen tp ds fun z => ?_
    rw [z] at q
    exact q
  · obtain ⟨t, ws, xs, tp, ds, rfl, hH, rt, r, tb, q⟩ := h
    have nb : F tp ds ≠ .bad := fun z => by rw [z] at q; exact q
    obtain ⟨n, hn⟩ := hF tp ds nb
    have hpl : ps.length ≤ N.length := by have := congrArg List.length S.pre; rw [List.length_take] at this; omega
    refine ⟨_, hB n cdv hcp A outer s H E (fun _ _ => False) t (Ok.cx S rfl hr fun c σd σ H' m z => z.elim), startT N.length tp ds, Mt.startT (by rw [hlen tp ds nb]; exact hpl) hH rt r tb, ?_⟩
    have fin : ∀ (σ1 : DEnv) (tp' : List D) (d : D) (v : V) (σ' : L2.St) (H' : Hp), σ1[(0 : Nat)]? = some (.tap tp') → F tp ds = .ok d tp' → Mt ⟨K, H, some t, tabs, cls, fun _ _ => False⟩ σ1 σ' H' → Rep K H' v d → Q v H' := fun σ1 tp' d v σ' H' e0 e1 m rv => by
      rw [e1] at q
      obtain ⟨p, ys, h1, h2, h3, h4⟩ := m.tap 0 tp' e0
      cases h4
      exact q v H' ys (fun b o e hb => m.kept b o e (by intro z; cases z; exact hb rfl)) m.tabs h2 h3 rv
    cases hb : B n (startT N.length tp ds) with
    | nx σ1 =>
      rw [hb] at hn
      simp only [answersT] at hn
      split at hn
      · rename_i tp' e0
        exact fun σ' H' e m => fin σ1 tp' .none .non σ' H' e0 hn.symm m .non
      · exact absurd hn.symm nb
    | ret d σ1 =>
      rw [hb] at hn
      simp only [answersT] at hn
      split at hn
      · rename_i tp' e0
        exact fun v σ' H' e r m => fin σ1 tp' d v σ' H' e0 hn.symm m r
      · exact absurd hn.symm nb
    | retF d σ1 => rw [hb] at hn; exact absurd hn.symm nb
    | exc c σ1 => rw [hb] at hn; exact absurd hn.symm nb
    | brk σ1 => rw [hb] at hn; exact absurd hn.symm nb
    | cnt σ1 => rw [hb] at hn; exact absurd hn.symm nb
    | bad => rw [hb] at hn; exact absurd hn.symm nb

/-! ### a def that hands over a new list -/
inductive AnsF where
  | ok (ds : List D)
  | bad
def spF (K : PySem.W.Frag) (tabs : List Addr) (F : List D → AnsF) : Sp := fun vs H Q E => ∃ ds, RepAll K H vs ds ∧ (∀ P ∈ tabs, TabG H P) ∧
  match F ds with
  | .ok es => ∀ p xs H', KeptH H H' → (∀ P ∈ tabs, TabG H' P) → H p = none → H' p = some (.lst xs) → RepAll K H' xs es → Q (.ref p) H'
  | .bad => False
structure FnF (P : Program) (w : World) (K : PySem.W.Frag) (mg : Str → Option Value) (base : Heap) (tabs : List Addr) (k : Nat) (x : Str) (F : List D → AnsF) : Prop where
  ex : ∃ (f : Addr) (fd : FuncData) (ps : List Str), mg x = some (.ref f) ∧ PySem.W.keepIn K (.ref f) = true ∧ Binds K fd ps [] ∧ FnOk P w K mg base (L2N.CX P w) k f fd ps (spF K tabs F)
@[simp] def answersF (x : O) : AnsF := match x with
  | .retF ds _ => .ok ds
  | _ => .bad
theorem fnF_of {x qual : Str} {st : Stmt} {f : Addr} {fd : FuncData} {cp : Value → Prop} {N ps : List Str} {k : Nat} {F : List D → AnsF} {B : Nat → DEnv → O} (FN : FunP K x qual st f fd cp) (hmg : mg x = some (.ref f)) (hbi : Binds K fd ps []) (S : FnScope N ps (defScope st))
    (hlen : ∀ ds, F ds ≠ .bad → ds.length = ps.length)
    (hF : ∀ ds, F ds ≠ .bad → ∃ n, answersF (B n (startD N.length ds)) = F ds)
    (hB : ∀ (n : Nat) (cdv : Value), cp cdv → ∀ (A : Around) (outer : List PySem.Env) (s : Shared) (H : Hp) (E : XK) (W : Nat → DEnv → Prop), Ok (cxD P w K mg base N qual st f cdv A outer s H E) ⟨K, H, none, tabs, cls, W⟩ k →
      SSs (cxD P w K mg base N qual st f cdv A outer s H E) ⟨K, H, none, tabs, cls, W⟩ (defBody st) (B n)) : FnF P w K mg base tabs (k + 1) x F := by
  refine ⟨f, fd, ps, hmg, FN.kp, hbi, FN.okX S (fun vs H Q E h => ?_) fun cdv hcp A outer s H vs Q E hr h => ?_⟩
  · obtain ⟨ds, r, _, q⟩ := h
    rw [r.length]
    refine hlen ds fun z => ?_
    rw [z] at q
    exact q
  · obtain ⟨ds, r, tb, q⟩ := h
    have nb : F ds ≠ .bad := fun z => by rw [z] at q; exact q
    obtain ⟨n, hn⟩ := hF ds nb
    have hpl : ps.length ≤ N.length := by have := congrArg List.length S.pre; rw [List.length_take] at this; omega
    refine ⟨_, hB n cdv hcp A outer s H E (fun _ _ => False) (Ok.cx S rfl hr fun c σd σ H' m z => z.elim), startD N.length ds, Mt.start r (by rw [hlen ds nb]; exact hpl) tb, ?_⟩
    cases hb : B n (startD N.length ds) with
    | retF es σ1 =>
      rw [hb] at hn
      have hn : AnsF.ok es = F ds := hn
      rw [← hn] at q
      exact fun p xs σ' H' e h1 h2 m fr => q p xs H' (fun b o e => m.kept b o e (by intro z; cases z)) m.tabs fr.ent h1 h2
    | nx σ1 => rw [hb] at hn; exact absurd hn.symm nb
    | ret d σ1 => rw [hb] at hn; exact absurd hn.symm nb
    | exc c σ1 => rw [hb] at hn; exact absurd hn.symm nb
    | brk σ1 => rw [hb] at hn; exact absurd hn.symm nb
    | cnt σ1 => rw [hb] at hn; exact absurd hn.symm nb
    | bad => rw [hb] at hn; exact absurd hn.symm nb
end
section
variable {X : Cx} {M : Mx} {e : Expr} {es : List Expr} {fs : DEnv → R (List D)} {pos p : Pos} {x : Str} {kk jj : Nat} {FF : List D → AnsF}
@[simp] def callNew (F : List D → AnsF) (fs : DEnv → R (List D)) : DEnv → R (List D) := fun σ => (fs σ).bind fun ds σ1 => match F ds with
  | .ok es => .ok es σ1
  | .bad => .bad
theorem sf_call (o : Ok X M kk) (G : FnF X.prog X.w X.K X.mg X.base M.tabs jj x FF) (hj : jj ≤ kk) (hg : Gl X x) (ha : SA X M (e :: es) fs)
    (hdb : (x == ("__debug__" : Str)) = false := by decide) (he : starEach (e :: es) X.env = (false, eval e X.env) :: starEach es X.env := by rfl) (hpl : (backTo pos (starEach es X.env)).any (·.1) = false := by rfl) :
    SF X M (.Call (.Name x p) (e :: es) [] pos) (callNew FF fs) := by
  obtain ⟨f, fd, ps, hm, hk, hb, hF⟩ := G.ex
  refine PE.weak (pe_callS hF (o.room.mono hj) hg hm hk hb (fun σ => L2N.passAt o.tk σ) ha hdb he hpl) fun σ H Q ⟨σd, m, q⟩ => ⟨σd, m, wpR_mono (wpR_bind.mp q) fun ds σ1 q1 vs H1 e1 r1 m1 => ?_⟩
  refine ⟨ds, by rw [o.hK]; exact r1, m1.tabs, ?_⟩
  cases hF2 : FF ds with
  | ok es' =>
    rw [hF2] at q1
    intro p xs H' kp tb h0 h1 h2
    have fr := m1.fresh h0
    exact q1 p xs H' (e1.trans kp.ext) h1 (by rw [← o.hK]; exact h2) (m1.behind kp tb) fr
  | bad => rw [hF2] at q1; exact q1.elim
end
end PL
set_option Elab.async false
set_option linter.all false
set_option maxRecDepth 100000
set_option autoImplicit false
/-! Generator expressions: the context of their frame. -/
namespace PL
open PySem PySem.Spec PyProof.Rows L2

/-- the context of a generator expression's frame: made at s, walking what stands at fp -/
abbrev CxGen (X : Cx) (s : Shared) (H : Hp) (cenv : PySem.Env) (fp : List Addr) (A : Around) : Cx :=
  { X with s_0 := s, H_0 := H, A := A, env := cenv, outer := X.stack, stack := cenv :: X.stack, ex := fp, fn := fun x => cenv.scope.names.lookup x == some .cell, pn := [], xe := fun _ _ => False }
structure GenOk (env : PySem.Env) (scope : Scope) : Prop where
  co : scope.isCoroutine = false
  dot : scope.names.lookup (".0" : Str) = some NameKind.local
section
variable {M : Model} {A : Around} {E : Value → Shared → Prop} {s : Shared}
/-- the frame of a generator expression, with cells of its own -/
theorem newEnv_gen {scope : Scope} {globals : Addr} {clo : List (Str × Addr)} {qual : Str} {func : Option Addr} {code : Value} {bi : Addr} {it : Value} {Q : PySem.Env → Shared → Prop}
    (hdot : scope.names.lookup (".0" : Str) = some NameKind.local) (hfun : scope.kind = .function)
    (h : ∀ h', h'.Ns s.heap.objs.size (fun y => if y = ".0" then some it else none) → Heap.SameBut s.heap.objs.size (pushCells (s.heap.push { cls := .type "frame", data := .dict #[] }) scope.names) h' →
      Q (newEnv scope s.heap.objs.size globals (cellsFrom (s.heap.objs.size + 1) scope.names clo) qual func code none bi) { s with heap := h', toks := s.toks + 1 }) :
    wpAny M A (newFunctionEnv scope globals clo [(".0", it)] qual func code none bi) Q E s := by
  simp only [newFunctionEnv, Option.isSome_none, Bool.false_eq_true, if_false]
  refine wpAny_bind (wpAny_alloc (wpAny_bind (wpAny_layCells _ (fun nm kd cs => by cases e : kd == NameKind.cell <;> simp [e]) _ _ _ _ ?_)))
  rw [show ({ s with heap := s.heap.push { cls := .type "frame", data := .dict #[] } } : Shared).heap.objs.size = s.heap.objs.size + 1 from Heap.size_push ..]
  rw [List.forIn_cons]
  refine wpAny_bind (wpAny_bind (wpAny_bind (wpAny_storeName_local hdot ((Heap.Ns.new s.heap (.type "frame")).keeps (pushCells_keeps _ _)) (fun h' n' sb => wpAny_pure ?_) (by simp [hfun]))))
  dsimp only
  rw [List.forIn_nil]
  exact wpAny_pure (wpAny_pure (h h' n' sb))
/-- (elt for tg in iter), made -/
theorem gen_make {env : PySem.Env} {elt tg iter : Expr} {ifs : List Expr} {scope : Scope} {clo : List (Str × Addr)} {gpos : Pos} {Q : Value → Shared → Prop}
    (hco : scope.isCoroutine = false) (hcl : closureFor scope env = pure clo) (hdot : scope.names.lookup (".0" : Str) = some NameKind.local) (hfun : scope.kind = .function) (room : A.depth < recursionLimit)
    (h : wpAny M A (eval iter env) (fun u sa => wpAny M A (pyIter u) (fun it sb => sb.heap.NoLimit ∧ wpAny M A (genexprCode env gpos (env.qual ++ "<genexpr>") scope) (fun code sc => wpAny M A (builtinsFor env.globals env.builtins) (fun bi sd =>
      ∀ h', h'.Ns sd.heap.objs.size (fun y => if y = ".0" then some it else none) → Heap.SameBut sd.heap.objs.size (pushCells (sd.heap.push { cls := .type "frame", data := .dict #[] }) scope.names) h' →
        Q (.ref h'.objs.size) { sd with
          gens := sd.gens.push (.fresh (.compStart (.GeneratorExp elt [⟨tg, iter, ifs, 0⟩] scope gpos) 0 it .none (genEnv scope (cellsFrom (sd.heap.objs.size + 1) scope.names clo) sd.heap.objs.size code bi env))),
          toks := sd.toks + 1 + 1 + 1,
          heap := h'.push { cls := .type "generator", data := .fields #[.int sd.gens.size 0, .str "<genexpr>" (sd.toks + 1), .str (env.qual ++ "<genexpr>") (sd.toks + 1 + 1)] } }) E sc) E sb) E sa) E s)
    (fold : ∀ u, genFold iter env u = pure u) : wpAny M A (eval (.GeneratorExp elt [⟨tg, iter, ifs, 0⟩] scope gpos) env) Q E s := by
  rw [eval_GeneratorExp1 _ _ _ _ _ _ _ hco, hcl]
  refine wpAny_bind (wpAny_mono h (fun u sa ha => wpAny_bind (wpAny_standAt (wpAny_bind (wpAny_of_eq (fold u) (wpAny_bind (wpAny_holding (wpAny_mono ha (fun it sb hb => ?_) fun _ _ e => e))))))) fun _ _ e => e)
  refine wpAny_bind (wpAny_enterFrame hb.1 room (wpAny_bind (wpAny_pure (wpAny_bind (wpAny_mono hb.2 (fun code sc hc => wpAny_bind (wpAny_mono hc (fun bi sd hd => ?_) fun _ _ e => e)) fun _ _ e => e)))))
  refine wpAny_bind (newEnv_gen hdot hfun fun h' n' sm => ?_)
  simp only [newGenerator, newFields]
  refine wpAny_bind (wpAny_newGen (wpAny_bind (wpAny_mkText (wpAny_bind (wpAny_mkText (wpAny_newObj_type ?_ (by size_fits)))))))
  exact hd h' n' sm
end
section
variable {X : Cx} {pins : List (Addr × Obj)} {σ : L2.St} {H : Hp} {s : Shared}
theorem gen_start {scope : Scope} {own : List (Str × Nat)} {fp : List Addr} {code : Value} {bi : Addr} {A' : Around} {h' : Heap} {go : Obj} {G : Array GenState} {tk : Nat} {it : Value} (I : Inv X pins σ H s) (ok : BlkOk X.N X.env.scope scope own) (g : GenOk X.env scope) (hN : X.N.Nodup)
    (hfp : ∀ b ∈ fp, FpOk X pins H b ∧ b < s.heap.objs.size) (hbi : bi = builtinsNs)
    (hA : A'.frames = some (genEnv scope (cellsFrom (s.heap.objs.size + 1) scope.names (cloFrom X.env.cells scope.names [])) s.heap.objs.size code bi X.env :: X.stack)) (hh : A'.handled = none)
    (hn' : h'.Ns s.heap.objs.size (fun y => if y = ".0" then some it else none)) (hs' : Heap.SameBut s.heap.objs.size (pushCells (s.heap.push { cls := .type "frame", data := .dict #[] }) scope.names) h') (hgo : ∀ v, go.data ≠ .cell v) (hgz : ∀ h : Heap, (h.push go).get? h.objs.size = some go) (hb : AllBare G) :
    Inv (CxGen X s H (genEnv scope (cellsFrom (s.heap.objs.size + 1) scope.names (cloFrom X.env.cells scope.names [])) s.heap.objs.size code bi X.env) fp A') [(h'.objs.size, go)] (wipe σ (own.map (·.2))) H { s with gens := G, toks := tk, heap := h'.push go } := by
  have hfree : ∀ y ∈ scope.names, y.2 = .free → ∃ c, X.env.cells.lookup y.1 = some c := fun y hy e => by
    rcases ok.free y hy e with k | k
    · exact I.ok.has _ (.inl k)
    · exact I.ok.has _ (.inr k)
  have sz' : s.heap.objs.size + 1 ≤ h'.objs.size := by rw [hs'.1]; refine Nat.le_trans ?_ (pushCells_size _ _); rw [Heap.size_push]; exact Nat.le_refl _
  generalize hcenv : genEnv scope (cellsFrom (s.heap.objs.size + 1) scope.names (cloFrom X.env.cells scope.names [])) s.heap.objs.size code bi X.env = cenv at hA ⊢
  have kp : ∀ b o, s.heap.get? b = some o → (h'.push go).get? b = some o := fun b o e => Heap.get?_push_of_some _ (hs'.extBut b o (Nat.ne_of_lt (Heap.lt_size e)) (pushCells_keeps _ _ _ _ (Heap.get?_push_of_some _ e)))
  have hL : cenv.locals = s.heap.objs.size := by rw [← hcenv]; rfl
  have hcl : cenv.cells = cellsFrom (s.heap.push { cls := .type "frame", data := .dict #[] }).objs.size scope.names (cloFrom X.env.cells scope.names []) := by rw [← hcenv, Heap.size_push]; rfl
  have hsc : cenv.scope = scope := by rw [← hcenv]; rfl
  have old : ∀ {y a}, (y, a) ∈ cloFrom X.env.cells scope.names [] → X.env.cells.lookup y = some a ∧ a < s.heap.objs.size := fun {y a} hm => by
    rcases cloFrom_mem hm with hm | ⟨h1, rfl⟩
    · cases hm
    · obtain ⟨a, ha⟩ := hfree _ h1 rfl
      rw [ha]
      obtain ⟨w, z⟩ := I.cell _ _ ha
      exact ⟨rfl, z.lt⟩
  have two : ∀ {y a}, cenv.cells.lookup y = some a → (X.env.cells.lookup y = some a ∧ a < s.heap.objs.size) ∨ (scope.names.lookup y = some .cell ∧ s.heap.objs.size + 1 ≤ a ∧ CellAt (h'.push go) a none) := fun {y a} e => by
    rw [hcl] at e
    rcases cells_mem (PySem.mem_of_lookup e) with hm | ⟨h1, h2, h3⟩
    · exact .inl (old hm)
    · rw [Heap.size_push] at h2
      refine .inr ⟨ok.uniq _ h1, h2, ?_⟩
      obtain ⟨o1, g1, g2⟩ := h3
      exact ⟨o1, Heap.get?_push_of_some _ (hs'.extBut a o1 (Nat.ne_of_gt h2) g1), g2⟩
  have look : ∀ {y}, scope.names.lookup y = some .free → ∃ a, cenv.cells.lookup y = some a ∧ X.env.cells.lookup y = some a := fun {y} hl => by
    obtain ⟨a, ha⟩ := mem_lookup (cells_acc (names := scope.names) (n := (s.heap.push { cls := .type "frame", data := .dict #[] }).objs.size) (cloFrom_has (cells := X.env.cells) (acc := []) (PySem.mem_of_lookup hl)))
    rw [← hcl] at ha
    refine ⟨a, ha, ?_⟩
    rcases two ha with ⟨q, _⟩ | ⟨q, _⟩
    · exact q
    · rw [hl] at q; cases q
  have stkFree := I.stkFree
  have okB : (CxGen X s H cenv fp A').Ok := by
    refine ⟨I.ok.mod, by show cenv.scope.kind = _; rw [hsc]; exact ok.kind, by show cenv.globals = _; rw [← hcenv]; exact I.ok.glob, by show cenv.builtins = _; rw [← hcenv]; exact hbi, by show s.heap.objs.size ≤ cenv.locals; rw [hL]; exact Nat.le_refl _,
      fun y z a e1 e2 => ?_, fun y hy => ?_, fun y a z e => ?_, fun _ => hh, hA, .inr ⟨rfl, by show cenv.frame = some cenv.locals; rw [← hcenv]; rfl⟩, fun b hb => ⟨?_, fun y c e z => ?_⟩, I.bs, Nat.le_trans I.ok.bsz I.sz, fun b o e hb => ?_, fun b hb z => ?_, I.stack, I.stkFree⟩
    · have e1 : cenv.cells.lookup y = some a := e1
      have e2 : cenv.cells.lookup z = some a := e2
      rw [hcl] at e1 e2
      refine cells_inj (fun q hq => ?_) (fun u v d p q => I.ok.inj u v d (old p).1 (old q).1) (PySem.mem_of_lookup e1) (PySem.mem_of_lookup e2)
      rw [Heap.size_push]
      exact Nat.lt_succ_of_lt (old (y := q.1) (a := q.2) hq).2
    · have hy : scope.names.lookup y = some .cell ∨ scope.names.lookup y = some .free := by
        have hy' : cenv.scope.names.lookup y = some .cell ∨ cenv.scope.names.lookup y = some .free := hy
        rw [hsc] at hy'
        exact hy'
      rcases hy with hy | hy
      · obtain ⟨a, hm⟩ := cells_has (n := (s.heap.push { cls := .type "frame", data := .dict #[] }).objs.size) (acc := cloFrom X.env.cells scope.names []) (PySem.mem_of_lookup hy)
        obtain ⟨a', ha⟩ := mem_lookup hm
        exact ⟨a', by show cenv.cells.lookup y = _; rw [hcl]; exact ha⟩
      · obtain ⟨c, h1, _⟩ := look hy
        exact ⟨c, h1⟩
    · have z : (cenv.scope.names.lookup y == some NameKind.cell) = true := z
      rw [hsc] at z
      have z : scope.names.lookup y = some .cell := by simpa using z
      rcases two e with ⟨q, _⟩ | ⟨_, q, _⟩
      · rw [hcl] at e
        rcases cells_mem (PySem.mem_of_lookup e) with hm | ⟨_, h2, _⟩
        · rcases cloFrom_mem hm with hm | ⟨h1, _⟩
          · cases hm
          · have := ok.uniq _ h1
            rw [z] at this
            cases this
        · rw [Heap.size_push] at h2
          exact Nat.le_of_succ_le h2
      · exact Nat.le_of_succ_le q
    · show b ≠ cenv.locals
      rw [hL]; exact Nat.ne_of_lt (hfp b hb).2
    · rcases two e with ⟨q, _⟩ | ⟨_, q, _⟩
      · exact (hfp b hb).1.2.2.2.2.1 y c q z
      · have q : s.heap.objs.size + 1 ≤ b := by rw [← z]; exact q
        exact absurd (hfp b hb).2 (Nat.not_lt.mpr (Nat.le_of_succ_le q))
    · rcases (hfp b hb).1.2.2.2.1 with z | z
      · exact I.ok.noex b o e z
      · exact absurd (Nat.lt_of_lt_of_le (Heap.lt_size e) (Nat.le_trans I.ok.bsz z)) (Nat.lt_irrefl _)
    · rcases List.mem_cons.mp (I.stkSub b z) with z | z
      · exact (hfp b hb).1.2.1 z
      · exact (hfp b hb).1.2.2.1 z
  refine ⟨okB, rfl, hb, Un.kept kp, ⟨(fun y : Str => if y = ".0" then some it else none), ?_, fun i y av e1 e2 e3 => ?_⟩, fun y c e => ?_, ?_, fun y c e => ?_, fun p hp => ?_, I.hok.kept kp, by rw [wipe_length]; exact I.len⟩
  · show Heap.Ns _ cenv.locals _
    rw [hL]
    exact hn'.push _
  · obtain ⟨e2, hne⟩ := wipe_some e2
    have hfr : scope.names.lookup y = some .free ∧ (cenv.kindOf y = some .cell ∨ cenv.kindOf y = some .free) := by
      have key : ∀ k, scope.names.lookup y = some k → k = .local ∨ k = .cell ∨ k = .free → scope.names.lookup y = some .free ∧ (cenv.kindOf y = some .cell ∨ cenv.kindOf y = some .free) := fun k hk hk' => by
        have no : ¬ (k = .local ∨ k = .cell) := fun hh => by
          rcases ok.own _ (PySem.mem_of_lookup hk) hh with e' | e'
          · obtain ⟨p, hp, hpy⟩ := List.mem_map.mp e'
            have e3 := ok.ix p hp
            have : p.1 = y := hpy
            rw [this] at e3
            exact hne (List.mem_map.mpr ⟨p, hp, nodup_ix hN e3 e1⟩)
          · exact e' (List.mem_of_getElem? e1)
        rcases hk' with rfl | rfl | rfl
        · exact absurd (.inl rfl) no
        · exact absurd (.inr rfl) no
        · refine ⟨hk, .inr ?_⟩
          show cenv.scope.names.lookup y = _
          rw [hsc]
          exact hk
      have e3 : Vis cenv.scope y := e3
      rw [hsc] at e3
      rcases e3 with e3 | e3 | e3
      · exact key _ e3 (.inl rfl)
      · exact key _ e3 (.inr (.inl rfl))
      · exact key _ e3 (.inr (.inr rfl))
    obtain ⟨m, hn, hl⟩ := I.loc
    have hvis : Vis X.env.scope y := (ok.free _ (PySem.mem_of_lookup hfr.1) rfl).elim (fun k => .inr (.inl k)) (fun k => .inr (.inr k))
    obtain ⟨w, r, q⟩ := hl i y av e1 e2 hvis
    refine ⟨w, r, .inr ⟨hfr.2, ?_⟩⟩
    obtain ⟨c, h1, h2⟩ := look hfr.1
    rcases q with ⟨k, _⟩ | ⟨_, c', e', z⟩
    · have k : X.env.scope.names.lookup y = some .local := k
      rcases ok.free _ (PySem.mem_of_lookup hfr.1) rfl with k' | k' <;> rw [show X.env.scope.names.lookup y = _ from k'] at k <;> cases k
    · rw [h2] at e'; cases e'
      exact ⟨c, h1, z.keeps kp⟩
  · rcases two e with ⟨q, _⟩ | ⟨_, _, q⟩
    · obtain ⟨w, z⟩ := I.cell y c q
      exact ⟨w, z.keeps kp⟩
    · exact ⟨_, q⟩
  · show H cenv.locals = none
    rw [hL]; exact I.hok.fresh (Nat.le_refl _)
  · rcases two e with ⟨q, _⟩ | ⟨_, q, _⟩
    · exact I.freeC y c q
    · exact I.hok.fresh (Nat.le_of_succ_le q)
  · have e : p = (h'.objs.size, go) := by
      have hp' : p ∈ ([] : List (Addr × Obj)) ++ [(h'.objs.size, go)] := hp
      simpa using hp'
    subst e
    refine ⟨hgz h', I.hok.fresh (Nat.le_of_succ_le sz'), ?_, fun z => ?_, hgo⟩
    · show h'.objs.size ≠ cenv.locals
      rw [hL]; exact Nat.ne_of_gt sz'
    · have z : h'.objs.size ∈ frs X.stack := z
      rcases List.mem_cons.mp (I.stkSub _ z) with z | z
      · have z : h'.objs.size = X.env.locals := z
        have q := I.lt
        rw [← z] at q
        exact absurd q (Nat.not_lt.mpr (Nat.le_of_succ_le sz'))
      · exact I.nofs (a := h'.objs.size) (Nat.le_of_succ_le sz') z
end
end PL
set_option Elab.async false
set_option linter.all false
set_option maxRecDepth 100000
set_option autoImplicit false
/-! Generator expressions: the loop, the protocol. -/
namespace PL
open PySem PySem.Spec PyProof.Rows L2 GenW

/-- a turn of the generator: what it hands out, the environment behind it -/
def stG (vs : List Nat) (g : D → DEnv → Option DEnv) (f : DEnv → R D) (d : D) (σ : DEnv) : Option (D × DEnv) := match g d σ with
  | none => none
  | some σ1 => match f σ1 with
    | .ok y σ2 => some (y, wipeD σ2 vs)
    | _ => none
/-- the environment ahead of turn n -/
def trG (vs : List Nat) (g : D → DEnv → Option DEnv) (f : DEnv → R D) (ds : List D) (σ : DEnv) : Nat → Option DEnv
  | 0 => some σ
  | n + 1 => match trG vs g f ds σ n with
    | none => none
    | some σ1 => match ds[n]? with
      | none => none
      | some d => (stG vs g f d σ1).map (·.2)
theorem Mt.blkOf {M : Mx} {σd : DEnv} {σ : L2.St} {H : Hp} (m : Mt M σd σ H) : Mt (M.blk M.H0) σd σ H := ⟨m.len, m.val, m.own, m.tap, m.dj, m.kept, m.tabs, m.tape, m.tapOne, m.dic⟩
theorem Mt.ofBlk {M : Mx} {σd : DEnv} {σ : L2.St} {H : Hp} (m : Mt (M.blk M.H0) σd σ H) : Mt M σd σ H := ⟨m.len, m.val, m.own, m.tap, m.dj, m.kept, m.tabs, m.tape, m.tapOne, m.dic⟩

/-- the generator's state ahead of turn i -/
structure GP (X : Cx) (M : Mx) (σw : L2.St) (H1 : Hp) (fp : List Addr) (tn : Nat → Heap → Prop) (p : Addr × Obj) (i : Nat) (σd : DEnv) (H : Hp) (s : Shared) : Prop where
  inv : Inv X [p] σw H s
  mt : Mt M σd σw H
  ext : Ext H1 H
  tn : tn i s.heap
  fp : ∀ b ∈ fp, H b = none
/-- while it sleeps all that stands is kept -/
structure Susp (s s' : Shared) : Prop where
  os : s'.os = s.os
  bare : AllBare s'.gens
  keep : ∀ b o, s.heap.get? b = some o → s'.heap.get? b = some o
theorem Inv.susp {X : Cx} {pins : List (Addr × Obj)} {σ : L2.St} {H : Hp} {s s' : Shared} (I : Inv X pins σ H s) (z : Susp s s') : Inv X pins σ H s' :=
  I.call' (ch := []) z.os (Un.kept z.keep) (I.hok.kept z.keep) z.bare fun b hb => by simp at hb
theorem GP.susp {X : Cx} {M : Mx} {σw : L2.St} {H1 : Hp} {fp : List Addr} {tg : Expr} {J : It} {it : Addr} {tn : Nat → Heap → Prop} {p : Addr × Obj} {i : Nat} {σd : DEnv} {H : Hp} {s s' : Shared} (T : Turn X.prog X.w X.K tg J fp it tn) (h : GP X M σw H1 fp tn p i σd H s) (z : Susp s s') : GP X M σw H1 fp tn p i σd H s' :=
  ⟨Inv.susp h.inv z, h.mt, h.ext, T.keep _ _ _ h.tn fun b _ o e => z.keep b o e, h.fp⟩
theorem Susp.setGen {s : Shared} {g : Nat} {x : GenState} (hb : AllBare s.gens) (hx : x.bare = true) : Susp s (s.setGen g x) := ⟨rfl, allBare_setGen hb hx, fun _ _ e => e⟩
/-- the next turn will be done -/
def RdyG (vs : List Nat) (g : D → DEnv → Option DEnv) (f : DEnv → R D) (ds : List D) (σ0 : DEnv) (i : Nat) : Prop := ∀ d σa, ds[i]? = some d → trG vs g f ds σ0 i = some σa → ∃ y σb, stG vs g f d σa = some (y, σb)
def ProG (X : Cx) (M : Mx) (σw : L2.St) (H1 : Hp) (fp : List Addr) (tn : Nat → Heap → Prop) (p : Addr × Obj) (vs : List Nat) (g : D → DEnv → Option DEnv) (f : DEnv → R D) (ds : List D) (σ0 : DEnv) : Protocol := fun n s₀ v s kap =>
  ∃ (i : Nat) (d : D) (σa : DEnv) (y : D) (σb : DEnv) (x : V) (H' : Hp), i + 1 + n = ds.length ∧ ds[i]? = some d ∧ trG vs g f ds σ0 i = some σa ∧ stG vs g f d σa = some (y, σb) ∧ RelV x v ∧ Rep M.K H' x y ∧ GP X M σw H1 fp tn p (i + 1) σb H' s ∧
    ∀ s', Susp s s' → RdyG vs g f ds σ0 (i + 1) → kap (.send .none) s'
def EndG (X : Cx) (M : Mx) (σw : L2.St) (H1 : Hp) (p : Addr × Obj) (vs : List Nat) (g : D → DEnv → Option DEnv) (f : DEnv → R D) (ds : List D) (σ0 : DEnv) : Nat → Shared → Shared → Prop := fun n s₀ s =>
  n = 0 ∧ ∃ (σa : DEnv) (H' : Hp), trG vs g f ds σ0 ds.length = some σa ∧ Inv X [p] σw H' s ∧ Mt M σa σw H' ∧ Ext H1 H'

section
variable {X : Cx} {M : Mx} {σ : L2.St} {H1 : Hp} {fp : List Addr} {tn : Nat → Heap → Prop} {p : Addr × Obj} {vs is : List Nat} {g : D → DEnv → Option DEnv} {f : DEnv → R D} {ds : List D} {σ0 : DEnv} {J : It} {it : Addr} {elt tg iter : Expr} {scope : Scope} {pos : Pos} {Aw : Around}
theorem gen_loop (hK : X.K = M.K) (hc : X.calm = true) (hxe : X.xe = fun _ _ => False) (hex : X.ex = fp) (hpn : X.pn = []) (hpf : p.1 ∉ fp) (hco : X.env.scope.isCoroutine = false) (hlc : lcOk M vs) (his : ∀ i ∈ is, i ∈ vs)
    (hA : X.A = Aw.over (.compLoop (.GeneratorExp elt [⟨tg, iter, [], 0⟩] scope pos) 0 (.ref it) .none X.env) [])
    (T : Turn X.prog X.w X.K tg J fp it tn) (hJ : ItD M.K H1 J ds) (pg : SG X M is tg g) (pe : SE X M elt f) :
    ∀ (n i : Nat) (σa : DEnv) (H' : Hp) (s₀ s : Shared), i + n = ds.length → trG vs g f ds σ0 i = some σa → RdyG vs g f ds σ0 i → GP X M (wipe σ vs) H1 fp tn p i σa H' s →
      Seg (model X.prog X.w) Aw (fun n s₀ r s₁ => r = .ok .next ∧ EndG X M (wipe σ vs) H1 p vs g f ds σ0 n s₀ s₁) (ProG X M (wipe σ vs) H1 fp tn p vs g f ds σ0) n s₀
        (.compLoop (.GeneratorExp elt [⟨tg, iter, [], 0⟩] scope pos) 0 (.ref it) .none X.env) ((model X.prog X.w).den (.compLoop (.GeneratorExp elt [⟨tg, iter, [], 0⟩] scope pos) 0 (.ref it) .none X.env)) [] s := by
  have stat : ∀ {σ' : L2.St} {H' : Hp} {s' : Shared}, Inv X [p] σ' H' s' → (∀ b ∈ fp, H' b = none) → ∀ b ∈ fp, FpOk X [p] H' b := fun {σ' H' s'} I' hn b hb => by
    have hb' : b ∈ X.ex := by rw [hex]; exact hb
    refine ⟨hn b hb, (I'.ok.exf b hb').1, I'.ok.exfs b hb', .inl hb', fun x c e => (I'.ok.exf b hb').2 x c e, fun q hq z => ?_⟩
    rw [hpn] at hq
    have : q = p := by simpa using hq
    subst this
    exact hpf (by rw [z]; exact hb)
  intro n
  induction n with
  | zero =>
    intro i σa H' s₀ s hi htr hrd h
    have hil : i = ds.length := by omega
    subst hil
    show Seg _ Aw _ _ _ s₀ _ ((compTurn (.GeneratorExp elt [⟨tg, iter, [], 0⟩] scope pos) 0 (.ref it) .none X.env).onRaise (leaving X.env)) [] s
    rw [compTurn_gen, Sem.onRaise_eq_wrap]
    refine seg_bind_wrap (wpAny_standAt ?_)
    refine seg_bind_wrap ?_
    rw [← hA]
    refine wpAny_mono (T.done X rfl rfl rfl hc _ [p] s _ H' (fun _ _ => False) h.inv (stat h.inv h.fp) h.tn (hJ.stop H' h.ext)) (fun r s1 hr => ?_) fun _ _ z => z.elim
    obtain ⟨rfl, I1⟩ := hr
    exact seg_end (.ok .next) ⟨rfl, rfl, σa, H', htr, I1, h.mt, h.ext⟩
  | succ n ih =>
    intro i σa H' s₀ s hi htr hrd h
    have hlt : i < ds.length := by omega
    have hd : ds[i]? = some ds[i] := List.getElem?_eq_getElem hlt
    obtain ⟨y, σb, hst⟩ := hrd _ _ hd htr
    show Seg _ Aw _ _ _ s₀ _ ((compTurn (.GeneratorExp elt [⟨tg, iter, [], 0⟩] scope pos) 0 (.ref it) .none X.env).onRaise (leaving X.env)) [] s
    rw [compTurn_gen, Sem.onRaise_eq_wrap]
    refine seg_bind_wrap (wpAny_standAt ?_)
    refine seg_bind_wrap ?_
    rw [← hA]
    refine wpAny_mono (T.item X rfl rfl rfl hc i [p] s _ H' (fun _ _ => False) h.inv (stat h.inv h.fp) h.tn (hJ.go H' i _ h.ext hd)) (fun r s1 hr => ?_) fun _ _ z => z.elim
    obtain ⟨u, rfl, h6⟩ := hr
    refine seg_bind_wrap ?_
    rw [← hA]
    refine wpAny_mono h6 (fun _ s2 hr => ?_) fun _ _ z => z.elim
    obtain ⟨x, H7, I7, r7, y7, st7, n7⟩ := hr
    obtain ⟨s3, r3⟩ := hJ.yld H' i _ x H7 h.ext hd y7
    have I7' := I7.pinned (stat I7 n7) (T.obj _ _ st7)
    unfold stG at hst
    cases hg2 : g ds[i] σa with
    | none => rw [hg2] at hst; cases hst
    | some σ1 =>
      rw [hg2] at hst
      have hst : (match f σ1 with | .ok y σ2 => some (y, wipeD σ2 vs) | _ => none) = some (y, σb) := hst
      cases hf2 : f σ1 with
      | bad => rw [hf2] at hst; cases hst
      | exc c σ2 => rw [hf2] at hst; cases hst
      | ok y' σ2 =>
        rw [hf2] at hst
        cases hst
        refine seg_bind_wrap ?_
        rw [← hA]
        refine wpAny_mono (pg.run _ s2 _ H7 x u (fun σ4 H4 => Ext H7 H4 ∧ Mt M σ1 σ4 H4 ∧ (σ4.length = (wipe σ vs).length ∧ ∀ j : Nat, j ∉ is → σ4[j]? = (wipe σ vs)[j]?)) I7' r7 ⟨ds[i], σa, σ1, r3, h.mt.same s3, hg2, fun σ4 H4 e4 m4 l4 => ⟨e4, m4, l4⟩⟩) (fun _ s4 hr => ?_) fun x s' hx => by
          rw [hxe] at hx
          exact hx.elim
        obtain ⟨σ8, H8, I8, e8, m8, l8⟩ := hr
        refine seg_bind_wrap ?_
        simp only [List.forIn_nil]
        refine wpAny_pure ?_
        simp only [if_true]
        have hy : ∀ v, yieldOut X.env v = yieldValue v := fun v => by simp only [yieldOut, hco, Bool.false_eq_true, if_false]
        simp only [hy]
        rw [Sem.bind_eq_wrap', Sem.bind_eq_wrap', Sem.wrap_wrap, Sem.wrap_wrap]
        refine seg_wrap ?_
        rw [← hA]
        refine wpAny_mono (pe.run _ s4 σ8 H8 (fun v H9 => Ext H8 H9 ∧ Rep M.K H9 v y ∧ Mt M σ2 σ8 H9) I8 ⟨σ1, m8, ?_⟩) (fun z s5 hr => ?_) fun x s' hx => by
          rw [hxe] at hx
          exact hx.elim
        · rw [hf2]
          exact fun v H9 e9 r9 m9 => ⟨e9, r9, m9⟩
        obtain ⟨yv, H9, I9, r9, e9, rp9, m9⟩ := hr
        have hw : wipe σ8 vs = wipe σ vs := by
          rw [wipe_ext (σ := wipe σ vs) (σ' := σ8) l8.1 fun j hj => l8.2 j fun z => hj (his j z)]
          exact wipe_wipe
        have pin' : ∀ b ∈ fp, ∀ o, s2.heap.get? b = some o → s5.heap.get? b = some o ∧ H9 b = none := fun b hb o e =>
          let z := I9.pin (b, o) (List.mem_append_right _ (List.mem_append_right _ (mem_pinsAt hb e)))
          ⟨z.1, z.2.1⟩
        have hl : (wipe σ vs).length = σ8.length := by rw [← hw, wipe_length]
        have G : GP X M (wipe σ vs) H1 fp tn p (i + 1) (wipeD σ2 vs) H9 s5 := by
          refine ⟨(I9.unpinned (pins := [p])).weak hl (fun j v e => ?_), ?_, (h.ext.trans (Ext.same s3)).trans (e8.trans e9), T.keep _ _ _ st7 fun b hb o e => (pin' b hb o e).1, fun b hb => ?_⟩
          · rw [← hw] at e
            exact (wipe_some e).1
          · have := m9.wiped (vs := vs) hlc
            rw [hw] at this
            exact this
          · obtain ⟨o, e, _⟩ := T.obj _ _ st7 b hb
            exact (pin' b hb o e).2
        have hstd : stG vs g f ds[i] σa = some (y, wipeD σ2 vs) := by
          unfold stG
          rw [hg2]
          show (match f σ1 with | .ok y σ2 => some (y, wipeD σ2 vs) | _ => none) = _
          rw [hf2]
        refine seg_at (seg_yield rfl rfl rfl ⟨i, ds[i], σa, y, wipeD σ2 vs, yv, H9, by omega, hd, htr, hstd, r9, rp9, G, fun s'' hsu hrd' => ?_⟩)
        refine seg_again rfl (ih (i + 1) (wipeD σ2 vs) H9 s'' s'' (by omega) ?_ hrd' (G.susp T hsu))
        simp only [trG, htr, hd, hstd, Option.map_some]
/-- from the start -/
theorem gen_begin (hK : X.K = M.K) (hc : X.calm = true) (hxe : X.xe = fun _ _ => False) (hex : X.ex = fp) (hpn : X.pn = []) (hpf : p.1 ∉ fp) (hco : X.env.scope.isCoroutine = false) (hlc : lcOk M vs) (his : ∀ i ∈ is, i ∈ vs)
    (hA : X.A = Aw.over (.compLoop (.GeneratorExp elt [⟨tg, iter, [], 0⟩] scope pos) 0 (.ref it) .none X.env) [])
    (T : Turn X.prog X.w X.K tg J fp it tn) (hJ : ItD M.K H1 J ds) (pg : SG X M is tg g) (pe : SE X M elt f) {H' : Hp} {s₀ s : Shared} (hrd : RdyG vs g f ds σ0 0) (h : GP X M (wipe σ vs) H1 fp tn p 0 σ0 H' s) :
      Seg (model X.prog X.w) Aw (fun n s₀ r s₁ => r = .ok .next ∧ EndG X M (wipe σ vs) H1 p vs g f ds σ0 n s₀ s₁) (ProG X M (wipe σ vs) H1 fp tn p vs g f ds σ0) ds.length s₀
        (.compStart (.GeneratorExp elt [⟨tg, iter, [], 0⟩] scope pos) 0 (.ref it) .none X.env) ((model X.prog X.w).den (.compStart (.GeneratorExp elt [⟨tg, iter, [], 0⟩] scope pos) 0 (.ref it) .none X.env)) [] s := by
  have loop := gen_loop (σ0 := σ0) (σ := σ) hK hc hxe hex hpn hpf hco hlc his hA T hJ pg pe ds.length 0 σ0 H' s₀ s (Nat.zero_add _) rfl hrd h
  show Seg _ Aw _ _ _ s₀ _ ((compStart (.GeneratorExp elt [⟨tg, iter, [], 0⟩] scope pos) 0 (.ref it) .none X.env).onRaise (leaving X.env)) [] s
  unfold compStart
  rw [Sem.onRaise_eq_wrap]
  show Seg _ Aw _ _ _ s₀ _ ((ask >>= _).wrap _ _ _ _) [] s
  refine seg_bind_wrap (wpAny_askSetting ?_)
  split
  · exact seg_again rfl loop
  · refine seg_bind_wrap (wpAny_rule ?_)
    show Seg _ Aw _ _ _ s₀ _ ((standAt iter.pos >>= _).wrap _ _ _ _) [] s
    exact seg_bind_wrap (wpAny_standAt (seg_bind_wrap (T.self _ 0 s _ _ h.tn (seg_again rfl loop))))
end
end PL
set_option Elab.async false
set_option linter.all false
set_option maxRecDepth 100000
set_option autoImplicit false
/-! any, all of generator expressions. -/
namespace PL
open PySem PySem.Spec PyProof.Rows L2 GenW GxR

/-- the generator numbered gn sleeps ahead of turn i -/
def GAt (X : Cx) (M : Mx) (σw : L2.St) (H1 : Hp) (fp : List Addr) (tn : Nat → Heap → Prop) (p : Addr × Obj) (vs : List Nat) (g : D → DEnv → Option DEnv) (f : DEnv → R D) (ds : List D) (σ0 : DEnv) (B : Around) (gn : Nat) (i : Nat) (σa : DEnv) (s : Shared) : Prop :=
  (∃ H', GP X M σw H1 fp tn p i σa H' s) ∧ ∃ gs, s.gens[gn]? = some gs ∧ ∀ s', Susp s s' → RdyG vs g f ds σ0 i →
    gs.Goes (model X.prog X.w) B (fun n s₀ r s₁ => r = .ok .next ∧ EndG X M σw H1 p vs g f ds σ0 n s₀ s₁) (ProG X M σw H1 fp tn p vs g f ds σ0) (ds.length - i) (.send .none) s'
/-- the object of generator gn -/
structure GnObj (o : Obj) (gn : Nat) : Prop where
  cls : o.cls = .type "generator"
  data : ∃ nm qn, o.data = .fields #[.int gn 0, nm, qn]
  slots : o.slots = #[]
theorem GnObj.at {o : Obj} {gn : Nat} (x : GnObj o gn) {h : Heap} {a : Addr} (e : h.get? a = some o) : h.IsGen a gn := by
  obtain ⟨nm, qn, d⟩ := x.data
  exact ⟨o, nm, qn, e, x.cls, d, x.slots⟩
section
variable {X : Cx} {M : Mx} {σw : L2.St} {H1 : Hp} {fp : List Addr} {tn : Nat → Heap → Prop} {p : Addr × Obj} {vs is : List Nat} {g : D → DEnv → Option DEnv} {f : DEnv → R D} {ds : List D} {σ0 : DEnv} {J : It} {it : Addr} {tg : Expr} {A : Around} {gn : Nat}
theorem inv_pin {X : Cx} {p : Addr × Obj} {σ : L2.St} {H : Hp} {s : Shared} (I : Inv X [p] σ H s) : s.heap.get? p.1 = some p.2 := (I.pin p (List.mem_append_right _ List.mem_cons_self)).1
theorem g_item (go : GnObj p.2 gn) (hh : A.handled = none) (hd : A.depth < recursionLimit) (T : Turn X.prog X.w X.K tg J fp it tn) {i : Nat} {σa σb : DEnv} {d y : D} {s : Shared} {Q : Option Value → Shared → Prop} {E : Value → Shared → Prop} (h : GAt X M σw H1 fp tn p vs g f ds σ0 A.in1 gn i σa s) (hi : i < ds.length) (hdi : ds[i]? = some d) (htr : trG vs g f ds σ0 i = some σa) (hst : stG vs g f d σa = some (y, σb))
    (hQ : ∀ v x H' s', RelV x v → Rep M.K H' x y → GP X M σw H1 fp tn p (i + 1) σb H' s' → GAt X M σw H1 fp tn p vs g f ds σ0 A.in1 gn (i + 1) σb s' → Q (some v) s') :
    wpAny (model X.prog X.w) A (pyNext (.ref p.1)) Q E s := by
  obtain ⟨⟨H', G⟩, gs, hgs, hgo⟩ := h
  have hgl : gn < s.gens.size := (Array.getElem?_eq_some_iff.mp hgs).1
  obtain ⟨m, hm⟩ : ∃ m, ds.length - i = m + 1 := ⟨ds.length - i - 1, by omega⟩
  have hrd : RdyG vs g f ds σ0 i := fun d' σa' e1 e2 => by
    rw [hdi] at e1; cases e1
    rw [htr] at e2; cases e2
    exact ⟨y, σb, hst⟩
  have go0 := hgo (s.setGen gn .running) (Susp.setGen G.inv.bare rfl) hrd
  rw [hm] at go0
  refine wpAny_gsz (n := gn + 1) hgl (wpAny_pyNext_genexpQ (P := EndG X M σw H1 p vs g f ds σ0) hh G.inv.nolimit hd (go.at (inv_pin G.inv)) hgs go0 (fun v s₁ gs' hb hv => ?_) (fun s₁ hp h' hk => ?_))
  · obtain ⟨i', d', σa', y', σb', x, H2, hn, e1, e2, e3, r1, r2, G2, kap⟩ := hv
    have hii : i' = i := by omega
    subst hii
    rw [hdi] at e1; cases e1
    rw [htr] at e2; cases e2
    rw [hst] at e3; cases e3
    intro hsz
    have hsz1 : gn < s₁.gens.size := by
      have q : (s₁.setGen gn gs').gens.size = s₁.gens.size := setGen_size _ _ _
      have hsz' : gn + 1 ≤ (s₁.setGen gn gs').gens.size := hsz
      omega
    have su : Susp s₁ (s₁.setGen gn gs') := Susp.setGen G2.inv.bare hb
    refine hQ v x H2 _ r1 r2 (G2.susp T su) ⟨⟨H2, G2.susp T su⟩, gs', setGen_at hsz1, fun s' z hr => ?_⟩
    have e : ds.length - (i' + 1) = m := by omega
    rw [e]
    exact kap s' ⟨z.os.trans su.os, z.bare, fun b o q => z.keep b o (su.keep b o q)⟩ hr
  · exact absurd hp.1 (Nat.succ_ne_zero m)
theorem g_done (go : GnObj p.2 gn) (hh : A.handled = none) (hd : A.depth < recursionLimit) (T : Turn X.prog X.w X.K tg J fp it tn) {σa : DEnv} {s : Shared} {Q : Option Value → Shared → Prop} {E : Value → Shared → Prop} (h : GAt X M σw H1 fp tn p vs g f ds σ0 A.in1 gn ds.length σa s) (htr : trG vs g f ds σ0 ds.length = some σa)
    (hQ : ∀ H' s', Inv X [p] σw H' s' → Mt M σa σw H' → Ext H1 H' → Q none s') :
    wpAny (model X.prog X.w) A (pyNext (.ref p.1)) Q E s := by
  obtain ⟨⟨H', G⟩, gs, hgs, hgo⟩ := h
  have hrd : RdyG vs g f ds σ0 ds.length := fun d' σa' e1 e2 => by
    rw [List.getElem?_eq_none (Nat.le_refl _)] at e1; cases e1
  have go0 := hgo (s.setGen gn .running) (Susp.setGen G.inv.bare rfl) hrd
  rw [Nat.sub_self] at go0
  refine wpAny_pyNext_genexpQ (P := EndG X M σw H1 p vs g f ds σ0) hh G.inv.nolimit hd (go.at (inv_pin G.inv)) hgs go0 (fun v s₁ gs' hb hv => ?_) (fun s₁ hp h' hk => ?_)
  · obtain ⟨i', d', σa', y', σb', x, H2, hn, e1, e2, e3, r1, r2, G2, kap⟩ := hv
    have hil : i' + 1 = ds.length := hn
    exact False.elim (kap s₁ ⟨rfl, G2.inv.bare, fun _ _ e => e⟩ fun d'' σa'' z1 z2 => by
      rw [hil, List.getElem?_eq_none (Nat.le_refl _)] at z1; cases z1)
  · obtain ⟨_, σa', H2, e, I2, m2, x2⟩ := hp
    rw [htr] at e; cases e
    exact hQ H2 _ (Inv.susp I2 ⟨rfl, allBare_setGen I2.bare rfl, hk⟩) m2 x2

/-! ### the consumers -/
/-- any (stop = true), all (stop = false) -/
def qF (stop : Bool) (vs : List Nat) (g : D → DEnv → Option DEnv) (f : DEnv → R D) : List D → DEnv → R Bool
  | [], σ => .ok (!stop) σ
  | d :: ds, σ => match stG vs g f d σ with
    | some (.bool b, σ1) => if b = stop then .ok stop σ1 else qF stop vs g f ds σ1
    | _ => .bad
theorem qF_step {stop : Bool} {i : Nat} {σa : DEnv} {b : Bool} {σb : DEnv} (hi : i < ds.length) (h : qF stop vs g f (ds.drop i) σa = .ok b σb) : ∃ c σ1, stG vs g f ds[i] σa = some (.bool c, σ1) ∧ ((c = stop ∧ b = stop ∧ σb = σ1) ∨ (c ≠ stop ∧ qF stop vs g f (ds.drop (i + 1)) σ1 = .ok b σb)) := by
  rw [List.drop_eq_getElem_cons hi] at h
  unfold qF at h
  split at h
  · rename_i c σ1 e
    refine ⟨c, σ1, e, ?_⟩
    split at h
    · rename_i hc
      cases h
      exact .inl ⟨hc, rfl, rfl⟩
    · rename_i hc
      exact .inr ⟨hc, h⟩
  · cases h
theorem tr_next {i : Nat} {σa σb : DEnv} {d y : D} (hd : ds[i]? = some d) (htr : trG vs g f ds σ0 i = some σa) (hst : stG vs g f d σa = some (y, σb)) : trG vs g f ds σ0 (i + 1) = some σb := by
  simp only [trG, htr, hd, hst, Option.map_some]
theorem any_loopD {Rr : Result → Shared → Prop} (go : GnObj p.2 gn) (hh : A.handled = none) (hd : A.depth < recursionLimit) (T : Turn X.prog X.w X.K tg J fp it tn) {b : Bool} {σb : DEnv}
    (hR : ∀ H' s', Inv X [p] σw H' s' → Mt M σb σw H' → Ext H1 H' → Rr (.ok (.ret (.bool b))) s') : ∀ (k i : Nat) (σa : DEnv) (s : Shared), i + k = ds.length → trG vs g f ds σ0 i = some σa → GAt X M σw H1 fp tn p vs g f ds σ0 A.in1.in1 gn i σa s → qF true vs g f (ds.drop i) σa = .ok b σb →
      codeAny (model X.prog X.w) A (.builtin "any.loop" ⟨[.ref p.1], []⟩) Rr s := by
  intro k
  induction k with
  | zero =>
    intro i σa s hi htr h hq
    have hil : i = ds.length := by omega
    subst hil
    rw [List.drop_length] at hq
    cases hq
    refine codeAny_builtin F.entry_any_loop ?_
    rw [Around.under_plainId F.plain_any_loop _]
    show wpAny _ A.in1 (pyNext (.ref p.1) >>= _) _ _ s
    refine wpAny_bind (g_done (A := A.in1) go hh hd T h htr fun H' s' I m x => ?_)
    exact wpAny_bind (wpAny_rule (wpAny_pure (hR H' s' I m x)))
  | succ k ih =>
    intro i σa s hi htr h hq
    have hlt : i < ds.length := by omega
    have hdi : ds[i]? = some ds[i] := List.getElem?_eq_getElem hlt
    obtain ⟨c, σ1, hst, hc⟩ := qF_step hlt hq
    refine codeAny_builtin F.entry_any_loop ?_
    rw [Around.under_plainId F.plain_any_loop _]
    show wpAny _ A.in1 (pyNext (.ref p.1) >>= _) _ _ s
    refine wpAny_bind (g_item (A := A.in1) go hh hd T h hlt hdi htr hst fun v x H' s' r1 r2 G h' => ?_)
    cases r2 with
    | bl =>
      have ev : v = .bool c := r1
      subst ev
      refine wpAny_bind (wpAny_holding (wpAny_truthy_bool ?_))
      refine wpAny_bind (wpAny_letGo ?_)
      cases c with
      | true =>
        simp only [if_true]
        rcases hc with ⟨_, rfl, rfl⟩ | ⟨z, _⟩
        · exact wpAny_bind (wpAny_rule (wpAny_pure (hR H' s' G.inv G.mt G.ext)))
        · exact absurd rfl z
      | false =>
        simp only [Bool.false_eq_true, if_false]
        rcases hc with ⟨z, _, _⟩ | ⟨_, z⟩
        · cases z
        · exact wpAny_pure ⟨plainId_quiet F.plain_any_loop _, ih (i + 1) σ1 s' (by omega) (tr_next hdi htr hst) h' z⟩
theorem all_loopD {Rr : Result → Shared → Prop} (go : GnObj p.2 gn) (hh : A.handled = none) (hd : A.depth < recursionLimit) (T : Turn X.prog X.w X.K tg J fp it tn) {b : Bool} {σb : DEnv}
    (hR : ∀ H' s', Inv X [p] σw H' s' → Mt M σb σw H' → Ext H1 H' → Rr (.ok (.ret (.bool b))) s') : ∀ (k i : Nat) (σa : DEnv) (s : Shared), i + k = ds.length → trG vs g f ds σ0 i = some σa → GAt X M σw H1 fp tn p vs g f ds σ0 A.in1.in1 gn i σa s → qF false vs g f (ds.drop i) σa = .ok b σb →
      codeAny (model X.prog X.w) A (.builtin "all.loop" ⟨[.ref p.1], []⟩) Rr s := by
  intro k
  induction k with
  | zero =>
    intro i σa s hi htr h hq
    have hil : i = ds.length := by omega
    subst hil
    rw [List.drop_length] at hq
    cases hq
    refine codeAny_builtin F.entry_all_loop ?_
    rw [Around.under_plainId F.plain_all_loop _]
    show wpAny _ A.in1 (pyNext (.ref p.1) >>= _) _ _ s
    refine wpAny_bind (g_done (A := A.in1) go hh hd T h htr fun H' s' I m x => ?_)
    exact wpAny_bind (wpAny_rule (wpAny_pure (hR H' s' I m x)))
  | succ k ih =>
    intro i σa s hi htr h hq
    have hlt : i < ds.length := by omega
    have hdi : ds[i]? = some ds[i] := List.getElem?_eq_getElem hlt
    obtain ⟨c, σ1, hst, hc⟩ := qF_step hlt hq
    refine codeAny_builtin F.entry_all_loop ?_
    rw [Around.under_plainId F.plain_all_loop _]
    show wpAny _ A.in1 (pyNext (.ref p.1) >>= _) _ _ s
    refine wpAny_bind (g_item (A := A.in1) go hh hd T h hlt hdi htr hst fun v x H' s' r1 r2 G h' => ?_)
    cases r2 with
    | bl =>
      have ev : v = .bool c := r1
      subst ev
      refine wpAny_bind (wpAny_holding (wpAny_truthy_bool ?_))
      refine wpAny_bind (wpAny_letGo ?_)
      cases c with
      | false =>
        simp only [Bool.false_eq_true, if_false, Bool.not_false, if_true]
        rcases hc with ⟨_, rfl, rfl⟩ | ⟨z, _⟩
        · exact wpAny_bind (wpAny_rule (wpAny_pure (hR H' s' G.inv G.mt G.ext)))
        · exact absurd rfl z
      | true =>
        simp only [if_true, Bool.not_true, Bool.false_eq_true, if_false]
        rcases hc with ⟨z, _, _⟩ | ⟨_, z⟩
        · cases z
        · exact wpAny_pure ⟨plainId_quiet F.plain_all_loop _, ih (i + 1) σ1 s' (by omega) (tr_next hdi htr hst) h' z⟩
end
end PL
set_option Elab.async false
set_option linter.all false
set_option maxRecDepth 100000
set_option maxHeartbeats 1000000
set_option autoImplicit false
/-! any(..), all(..) of generator expressions: the rules. -/
namespace PL
open PySem PySem.Spec PyProof.Rows L2 GenW

theorem tab_of {H : Hp} {P : Addr} (h : TabG H P) : GxR.TabG H P := h
/-- a table that grows -/
theorem Mt.tabbed {M : Mx} {σd : DEnv} {σ : L2.St} {H : Hp} {P : Addr} {ps more : Array Value} (m : Mt M σd σ H) (hP : H P = some (.tbl ps)) (ht : TriplesOk (ps ++ more).toList) : Mt M σd σ (upd H P (.tbl (ps ++ more))) ∧ Ext H (upd H P (.tbl (ps ++ more))) := by
  have ne : ∀ b o, H b = some o → (∀ q, o ≠ .tbl q) → b ≠ P := fun b o e k z => by
    rw [z, hP] at e
    exact k ps (Option.some.inj e).symm
  have ex : Ext H (upd H P (.tbl (ps ++ more))) := ⟨fun b xs e => by rw [upd_ne (ne b _ e (fun q z => by cases z))]; exact e, fun b o u e => by rw [upd_ne (ne b _ e (fun q z => by cases z))]; exact e⟩
  refine ⟨⟨m.len, fun i d e => ?_, fun i es e => ?_, fun i es e => ?_, m.dj, fun b o e1 e2 => ?_, fun Q hQ => ?_, m.tape, m.tapOne, m.dic.mono ex fun b o q io => by rw [upd_ne (ne b o q io.ntbl)]; exact q⟩, ex⟩
  · obtain ⟨v, h1, h2⟩ := m.val i d e
    exact ⟨v, h1, h2.ext ex⟩
  · obtain ⟨p, xs, h1, h2, h3, h4⟩ := m.own i es e
    exact ⟨p, xs, h1, by rw [upd_ne (ne p _ h2 (fun q z => by cases z))]; exact h2, h3.ext ex, h4⟩
  · obtain ⟨p, xs, h1, h2, h3, h4⟩ := m.tap i es e
    exact ⟨p, xs, h1, by rw [upd_ne (ne p _ h2 (fun q z => by cases z))]; exact h2, h3.ext ex, h4⟩
  · refine (m.kept b o e1 e2).trans fun o' h' => ?_
    by_cases hb : b = P
    · subst hb
      rw [hP] at h'
      cases h'
      rw [upd_same]
      exact .inr ⟨ps, more, rfl, rfl⟩
    · rw [upd_ne hb]
      exact .inl h'
  · by_cases hb : Q = P
    · subst hb
      exact ⟨_, upd_same, ht⟩
    · obtain ⟨qs, e, t⟩ := m.tabs Q hQ
      exact ⟨qs, by rw [upd_ne hb]; exact e, t⟩

/-- any(..), all(..) of data -/
def qE (stop : Bool) (vs : List Nat) (src : DEnv → R (List D)) (g : D → DEnv → Option DEnv) (f : DEnv → R D) : DEnv → R D := fun σ =>
  (src σ).bind fun ds σ1 => match qF stop vs g f ds (wipeD σ1 vs) with
    | .ok b σ2 => .ok (.bool b) (backD σ1 σ2 vs)
    | _ => .bad

/-- the around of the generator's frame -/
def arG (A : Around) (elt tg iter : Expr) (scope : Scope) (pos : Pos) (it : Value) (cenv : PySem.Env) : Around := A.in1.in1.over (.compLoop (.GeneratorExp elt [⟨tg, iter, [], 0⟩] scope pos) 0 it .none cenv) []
theorem arG_room {A : Around} {elt tg iter : Expr} {scope : Scope} {pos : Pos} {it : Value} {cenv : PySem.Env} {k : Nat} (h : Room (k + 1) A) : Room k (arG A elt tg iter scope pos it cenv) := by
  refine ⟨h.hd, ?_, ?_⟩
  · have := h.dp
    show A.depth + 1 + 3 * k + 5 < _
    omega
  · have := h.un
    show A.units + 1 + 1 + 0 + 3 + 16 * k + 200 < _
    omega
theorem arG_frames {A : Around} {elt tg iter : Expr} {scope : Scope} {pos : Pos} {it : Value} {cenv : PySem.Env} {l : List PySem.Env} (h : A.frames = some l) : (arG A elt tg iter scope pos it cenv).frames = some (cenv :: l) := by
  show pushEnvs [cenv] (pushEnvs [] A.frames) = _
  rw [h]
  rfl

/-- the generator at g is made, ready to be walked -/
def Born (X : Cx) (M : Mx) (pins : List (Addr × Obj)) (σ : L2.St) (H : Hp) (vs : List Nat) (g : D → DEnv → Option DEnv) (f : DEnv → R D) (Rd : List D → DEnv → Prop) (u : Value) (s5 : Shared) : Prop :=
  ∃ (Xg : Cx) (H1 : Hp) (fp : List Addr) (tn : Nat → Heap → Prop) (p : Addr × Obj) (gn : Nat) (J : It) (it : Addr) (tg : Expr) (ds : List D) (σ1 : DEnv),
    u = .ref p.1 ∧ Xg.prog = X.prog ∧ Xg.w = X.w ∧ GnObj p.2 gn ∧ Turn Xg.prog Xg.w Xg.K tg J fp it tn ∧ GAt Xg (M.blk M.H0) (wipe σ vs) H1 fp tn p vs g f ds (wipeD σ1 vs) X.A.in1.in1 gn 0 (wipeD σ1 vs) s5 ∧ Rd ds σ1 ∧
    ∀ (σb : DEnv) (H' : Hp) (s' : Shared), Inv Xg [p] (wipe σ vs) H' s' → Mt (M.blk M.H0) σb (wipe σ vs) H' → Ext H1 H' → Inv X pins σ H' s' ∧ Mt M (backD σ1 σb vs) σ H' ∧ Ext H H'

section
variable {X : Cx} {M : Mx} {elt tg iter : Expr} {scope : Scope} {own : List (Str × Nat)} {gpos : Pos} {is : List Nat} {src : DEnv → R (List D)} {g : D → DEnv → Option DEnv} {f : DEnv → R D} {kk : Nat} {c P : Addr}
theorem gen_born {pins : List (Addr × Obj)} {s : Shared} {σ : L2.St} {H : Hp} {Rd : List D → DEnv → Prop} {Q' : Value → Shared → Prop} (o : Ok X M (kk + 1)) (TB : GxR.TabB X.base X.mg c P) (hP : P ∈ M.tabs) (hcode : X.env.code = .ref c) (hi : SI X M tg iter src) (gok : GenOk X.env scope) (ok : BlkOk X.N X.env.scope scope own)
    (hok : lcOk M (own.map (·.2))) (his : ∀ i ∈ is, i ∈ own.map (·.2))
    (hg : ∀ (s : Shared) (H : Hp) (C : Addr) (cl : List (Str × Addr)) (cd : Value) (bi : Addr) (fp : List Addr) (A : Around), Room kk A → SG (CxGen X s H (genEnv scope cl C cd bi X.env) fp A) (M.blk M.H0) is tg g)
    (he : ∀ (s : Shared) (H : Hp) (C : Addr) (cl : List (Str × Addr)) (cd : Value) (bi : Addr) (fp : List Addr) (A : Around), Room kk A → SE (CxGen X s H (genEnv scope cl C cd bi X.env) fp A) (M.blk M.H0) elt f)
    (hs : ∀ v, genFold iter X.env v = pure v) (I : Inv X pins σ H s) {σd : DEnv} (m : Mt M σd σ H) (hq : wpR (src σd) Rd M.W)
    (hQ : ∀ u s5, Born X M pins σ H (own.map (·.2)) g f Rd u s5 → Q' u s5) :
    wpAny (model X.prog X.w) X.A (eval (.GeneratorExp elt [⟨tg, iter, [], 0⟩] scope gpos) X.env) Q' X.xe s := by
  have hfree : ∀ y ∈ scope.names, y.2 = .free → ∃ c, X.env.cells.lookup y.1 = some c := fun y hy e => by
    rcases ok.free y hy e with k | k
    · exact I.ok.has _ (.inl k)
    · exact I.ok.has _ (.inr k)
  refine gen_make gok.co (closure_ok hfree) gok.dot ok.kind o.room.depth ?_ hs
  refine thn (hi.run pins s σ H (fun J H1 => ∃ ds σ1, Ext H H1 ∧ Mt M σ1 σ H1 ∧ ItD M.K H1 J ds ∧ Rd ds σ1) I ⟨σd, m, wpR_mono hq fun ds σ1 hr J H1 e1 m1 hJ => ⟨ds, σ1, e1, m1, hJ, hr⟩⟩) fun xv s1 hx => thn hx fun itv s2 h2 => ?_
  obtain ⟨it, fp, tn, J, H2, rfl, I2, T, st2, f2, ds, σ1, e2, m2, hJ, hr⟩ := h2
  obtain ⟨ps, hPs, ht⟩ := m2.tabs P hP
  have hPh : s2.heap.get? P = some { cls := .none, data := .fields ps } := I2.hok P _ hPs
  have cd : PySem.W.CodeHd s2.heap c P := TB.code.keeps fun b u e => I2.bk b u e
  refine ⟨I2.nolimit, ?_⟩
  have cont : ∀ (code : Value) (h3 : Heap) (tk : Nat) (ps' : Array Value), Heap.ExtBut P s2.heap h3 → h3.get? P = some { cls := .none, data := .fields ps' } → (∃ more, ps' = ps ++ more) → TriplesOk ps'.toList →
      wpAny (model X.prog X.w) X.A (builtinsFor X.env.globals X.env.builtins) (fun bi s₄ =>
        ∀ h', h'.Ns s₄.heap.objs.size (fun y => if y = ".0" then some (.ref it) else none) → Heap.SameBut s₄.heap.objs.size (pushCells (s₄.heap.push { cls := .type "frame", data := .dict #[] }) scope.names) h' →
          Q' (.ref h'.objs.size) { s₄ with
            gens := s₄.gens.push (.fresh (.compStart (.GeneratorExp elt [⟨tg, iter, [], 0⟩] scope gpos) 0 (.ref it) .none (genEnv scope (cellsFrom (s₄.heap.objs.size + 1) scope.names (cloFrom X.env.cells scope.names [])) s₄.heap.objs.size code bi X.env))),
            toks := s₄.toks + 1 + 1 + 1,
            heap := h'.push { cls := .type "generator", data := .fields #[.int s₄.gens.size 0, .str "<genexpr>" (s₄.toks + 1), .str (X.env.qual ++ "<genexpr>") (s₄.toks + 1 + 1)] } }) X.xe { s2 with heap := h3, toks := tk } := by
    intro code h3 tk ps' hx hP3 hmore ht3
    obtain ⟨more, em⟩ := hmore
    subst em
    have I3 : Inv X pins σ (upd H2 P (.tbl (ps ++ more))) { s2 with heap := h3, toks := tk } := GxR.inv_tab (h' := h3) (g' := s2.gens) (d' := s2.drawn) (t' := tk) I2 hPs (fun b u hb e => hx b u hb e) hP3 I2.bare
    obtain ⟨m3, e3⟩ := m2.tabbed (more := more) hPs ht3
    obtain ⟨bm, ob, b1, b2, b3, b4, b5, b6, b7, b8⟩ := TB.bm
    refine wpAny_builtinsFor (m := X.mg) (by rw [I3.ok.glob]; exact (I2.mod.glob.keeps I2.bk).extBut hx TB.gP) b1 b2 (hx _ _ b4 (I2.bk _ _ b5)) b6 b7 b8 ?_
    intro h' hn' hs'
    have f3 : ∀ b ∈ fp, FpOk X pins (upd H2 P (.tbl (ps ++ more))) b ∧ b < h3.objs.size := fun b hb => by
      obtain ⟨ob', eb, _⟩ := T.obj _ _ st2 b hb
      have nbP : b ≠ P := fun z => by
        have := (f2 b hb).1
        rw [z, hPs] at this
        cases this
      refine ⟨⟨by rw [upd_ne nbP]; exact (f2 b hb).1, (f2 b hb).2⟩, ?_⟩
      exact Heap.lt_size (hx b ob' nbP eb)
    generalize hgo : ({ cls := .type "generator", data := .fields #[.int s2.gens.size 0, .str "<genexpr>" (tk + 1), .str (X.env.qual ++ "<genexpr>") (tk + 1 + 1)] } : Obj) = go
    have gno : GnObj go s2.gens.size := by subst hgo; exact ⟨rfl, ⟨_, _, rfl⟩, rfl⟩
    have hgz : ∀ h : Heap, (h.push go).get? h.objs.size = some go := fun h => by subst hgo; exact Heap.get?_push_size _ rfl
    have hgc : ∀ v, go.data ≠ .cell v := fun v z => by subst hgo; cases z
    generalize hcv : genEnv scope (cellsFrom (h3.objs.size + 1) scope.names (cloFrom X.env.cells scope.names [])) h3.objs.size code builtinsNs X.env = cenv
    have hAf : (arG X.A elt tg iter scope gpos (.ref it) cenv).frames = some (cenv :: X.stack) := arG_frames I.ok.frames
    have hbare : AllBare (s2.gens.push (.fresh (.compStart (.GeneratorExp elt [⟨tg, iter, [], 0⟩] scope gpos) 0 (.ref it) .none cenv))) := I2.bare.push rfl
    have I4 := gen_start (G := s2.gens.push (.fresh (.compStart (.GeneratorExp elt [⟨tg, iter, [], 0⟩] scope gpos) 0 (.ref it) .none cenv))) (tk := tk + 1 + 1 + 1) (A' := arG X.A elt tg iter scope gpos (.ref it) cenv) (code := code) (go := go) (h' := h') (it := .ref it) I3 ok gok o.nd f3 rfl
      (by rw [← hcv] at hAf; rw [← hcv]; exact hAf) (o.room.hd : X.A.handled = none) hn' hs' hgc hgz hbare
    have I4 : Inv (CxGen X { s2 with heap := h3, toks := tk } (upd H2 P (.tbl (ps ++ more))) (genEnv scope (cellsFrom (h3.objs.size + 1) scope.names (cloFrom X.env.cells scope.names [])) h3.objs.size code builtinsNs X.env) fp (arG X.A elt tg iter scope gpos (.ref it) cenv)) [(h'.objs.size, go)] (wipe σ (own.map (·.2))) (upd H2 P (.tbl (ps ++ more))) { s2 with heap := h'.push go, gens := s2.gens.push (.fresh (.compStart (.GeneratorExp elt [⟨tg, iter, [], 0⟩] scope gpos) 0 (.ref it) .none cenv)), toks := tk + 1 + 1 + 1 } := I4
    have hr' : Room kk (arG X.A elt tg iter scope gpos (.ref it) cenv) := arG_room o.room
    have pg := hg { s2 with heap := h3, toks := tk } (upd H2 P (.tbl (ps ++ more))) h3.objs.size (cellsFrom (h3.objs.size + 1) scope.names (cloFrom X.env.cells scope.names [])) code builtinsNs fp _ hr'
    have pe := he { s2 with heap := h3, toks := tk } (upd H2 P (.tbl (ps ++ more))) h3.objs.size (cellsFrom (h3.objs.size + 1) scope.names (cloFrom X.env.cells scope.names [])) code builtinsNs fp _ hr'
    have hco : cenv.scope.isCoroutine = false := by rw [← hcv]; exact gok.co
    have cL : cenv.locals = h3.objs.size := by rw [← hcv]; rfl
    rw [hcv] at I4 pg pe
    have sz' : h3.objs.size + 1 ≤ h'.objs.size := by rw [hs'.1]; refine Nat.le_trans ?_ (pushCells_size _ _); rw [Heap.size_push]; exact Nat.le_refl _
    have keep4 : ∀ b ob', h3.get? b = some ob' → (h'.push go).get? b = some ob' := fun b ob' e => Heap.get?_push_of_some _ (hs'.extBut b ob' (Nat.ne_of_lt (Heap.lt_size e)) (pushCells_keeps _ _ _ _ (Heap.get?_push_of_some _ e)))
    have st4 : tn 0 (h'.push go) := T.keep _ _ _ st2 fun b hb ob' e => keep4 b ob' (hx b ob' (fun z => by
      have := (f2 b hb).1
      rw [z, hPs] at this
      cases this) e)
    have hpf : h'.objs.size ∉ fp := fun z => by
      have := (f3 _ z).2
      exact Nat.not_lt.mpr (Nat.le_of_succ_le sz') this
    have G0 : GP (CxGen X { s2 with heap := h3, toks := tk } (upd H2 P (.tbl (ps ++ more))) cenv fp (arG X.A elt tg iter scope gpos (.ref it) cenv)) (M.blk M.H0) (wipe σ (own.map (·.2))) (upd H2 P (.tbl (ps ++ more))) fp tn (h'.objs.size, go) 0 (wipeD σ1 (own.map (·.2))) (upd H2 P (.tbl (ps ++ more))) _ :=
      ⟨I4, (m3.wiped hok).blkOf, Ext.refl _, st4, fun b hb => (f3 b hb).1.1⟩
    have hJ3 : ItD (M.blk M.H0).K (upd H2 P (.tbl (ps ++ more))) J ds := ⟨fun H' i d x => hJ.go H' i d (e3.trans x), fun H' i d x H2' y => hJ.yld H' i d x H2' (e3.trans y), fun H' x => hJ.stop H' (e3.trans x)⟩
    refine hQ _ _ ⟨CxGen X { s2 with heap := h3, toks := tk } (upd H2 P (.tbl (ps ++ more))) cenv fp (arG X.A elt tg iter scope gpos (.ref it) cenv), upd H2 P (.tbl (ps ++ more)), fp, tn, (h'.objs.size, go), s2.gens.size, J, it, tg, ds, σ1, rfl, rfl, rfl, gno, T, ⟨⟨upd H2 P (.tbl (ps ++ more)), ?_⟩, .fresh (.compStart (.GeneratorExp elt [⟨tg, iter, [], 0⟩] scope gpos) 0 (.ref it) .none cenv), ?_, fun s'' z hrd => ⟨rfl, ?_⟩⟩, hr, fun σb H' s' Ig mb xb => ?_⟩
    · first
        | exact G0
        | (subst hgo; subst hcv; exact G0)
    · subst hcv
      exact Array.getElem?_push_size ..
    · have := gen_begin (X := CxGen X { s2 with heap := h3, toks := tk } (upd H2 P (.tbl (ps ++ more))) cenv fp (arG X.A elt tg iter scope gpos (.ref it) cenv)) (M := M.blk M.H0) (fp := fp) (tn := tn) (p := (h'.objs.size, go)) (σ := σ) (vs := own.map (·.2)) (σ0 := wipeD σ1 (own.map (·.2))) (Aw := X.A.in1.in1) (pos := gpos) (s₀ := s'') o.hK o.calm rfl rfl rfl hpf hco (show lcOk (M.blk M.H0) (own.map (·.2)) from hok) his rfl T hJ3 pg pe hrd (G0.susp T (by
        first
          | exact z
          | (subst hgo; subst hcv; exact z)))
      subst hcv
      exact this
    · have nC : H' cenv.locals = none := Ig.free
      refine ⟨I3.call' (ch := fp) Ig.os Ig.base Ig.hok Ig.bare fun b hb => ⟨(f3 b hb).1.2.2.2.1, (f3 b hb).1.2.1, (f3 b hb).1.2.2.2.2.1, (f3 b hb).1.2.2.2.2.2⟩, ?_, e2.trans (e3.trans xb)⟩
      exact m3.back xb mb.ofBlk hok
  cases hf : codeAmong gpos ps.toList with
  | none =>
    refine wpAny_genexprCodeX hcode (cd.code hPh ht) (cd.tab hPh) hf fun c' h' tk hx hge hlt hco' _ htab' _ => ?_
    obtain ⟨o1, us, f1, tf, fl, tg', inF, tx, tt, op, _, _, _, _, _, _, _, _, _, htr, _⟩ := hco'
    exact cont _ h' tk _ hx htab'.2 ⟨_, rfl⟩ htr
  | some cv =>
    refine wpAny_genexprCode_hit hcode (cd.code hPh ht) hf ?_
    exact cont cv s2.heap s2.toks ps (Heap.ExtBut.refl _ _) hPh ⟨#[], by simp⟩ ht

theorem Ok.gen (o : Ok X M (kk + 1)) (H0 : Hp) (s : Shared) (H : Hp) (cenv : PySem.Env) (fp : List Addr) (A : Around) (h : Room kk A) : Ok (CxGen X s H cenv fp A) (M.blk H0) kk :=
  ⟨o.hK, o.calm, o.nd, h, takes_none fun _ _ _ _ ⟨_, _, _, _, _, z⟩ => z, PassesOwn.never⟩
variable {p pos : Pos}
theorem quant_end {σ : L2.St} {H : Hp} {Q : VK} {stop : Bool} {vs : List Nat} {ds : List D} {σ1 : DEnv} (q : wpR (match qF stop vs g f ds (wipeD σ1 vs) with | .ok b σ2 => R.ok (PyData.bool b) (backD σ1 σ2 vs) | _ => .bad) (fun d σ2 => ∀ v H', Ext H H' → Rep M.K H' v d → Mt M σ2 σ H' → Q v H') M.W) :
    ∃ b σb, qF stop vs g f ds (wipeD σ1 vs) = .ok b σb ∧ ∀ H', Ext H H' → Mt M (backD σ1 σb vs) σ H' → Q (.bl b) H' := by
  cases e : qF stop vs g f ds (wipeD σ1 vs) with
  | ok b σ2 =>
    rw [e] at q
    exact ⟨b, σ2, rfl, fun H' x m => q (.bl b) H' x (.bl _) m⟩
  | exc c σ2 => rw [e] at q; exact q.elim
  | bad => rw [e] at q; exact q.elim
/-- any(elt for tg in iter) -/
theorem se_any (o : Ok X M (kk + 1)) (hgl : Gl X "any") (hm : X.mg "any" = none) (TB : GxR.TabB X.base X.mg c P) (hP : P ∈ M.tabs) (hcode : X.env.code = .ref c) (hi : SI X M tg iter src) (gok : GenOk X.env scope) (ok : BlkOk X.N X.env.scope scope own)
    (hok : lcOk M (own.map (·.2))) (his : ∀ i ∈ is, i ∈ own.map (·.2))
    (hg : ∀ (s : Shared) (H : Hp) (C : Addr) (cl : List (Str × Addr)) (cd : Value) (bi : Addr) (fp : List Addr) (A : Around), Room kk A → SG (CxGen X s H (genEnv scope cl C cd bi X.env) fp A) (M.blk M.H0) is tg g)
    (he : ∀ (s : Shared) (H : Hp) (C : Addr) (cl : List (Str × Addr)) (cd : Value) (bi : Addr) (fp : List Addr) (A : Around), Room kk A → SE (CxGen X s H (genEnv scope cl C cd bi X.env) fp A) (M.blk M.H0) elt f)
    (hs : ∀ v, genFold iter X.env v = pure v := by intro _; rfl)
    (hst : starEach [.GeneratorExp elt [⟨tg, iter, [], 0⟩] scope gpos] X.env = (false, eval (.GeneratorExp elt [⟨tg, iter, [], 0⟩] scope gpos) X.env) :: starEach [] X.env := by rfl) :
    SE X M (.Call (.Name "any" p) [.GeneratorExp elt [⟨tg, iter, [], 0⟩] scope gpos] [] pos) (qE true (own.map (·.2)) src g f) := by
  refine ⟨fun pins s σ H Q I ⟨σd, m, q⟩ => ?_⟩
  refine wpAny_Call_Name_kw (ld_blt I hgl hm boot_any ?_)
  refine PyProof.Rows.callWith_builtin1 ?_ hst (by rfl)
  rw [hst]
  show wpAny _ _ (spliced ((false, eval (.GeneratorExp elt [⟨tg, iter, [], 0⟩] scope gpos) X.env) :: backTo pos (starEach [] X.env))) _ _ s
  refine Calls.spliced_cons (gen_born o TB hP hcode hi gok ok hok his hg he hs I m (wpR_bind.mp q) fun u s5 hB => ?_)
  obtain ⟨Xg, H1, fp, tn, pp, gn, J, it, tg', ds, σ1, rfl, hp, hw, go, T, G, hr, back⟩ := hB
  obtain ⟨b, σb, e, hQ⟩ := quant_end hr
  refine Calls.spliced_nil ?_
  refine call_function_tree F.kind_any F.plain_any F.entry_any (F.args_any1 _) ?_
  unfold Builtin.«any»
  refine wpAny_bind (m := oneArg "any" _) (wpAny_pure ?_)
  obtain ⟨H0, G0⟩ := G.1
  refine wpAny_bind (wpAny_pyIter_gen (go.at (inv_pin G0.inv)) (wpAny_pure ⟨plainId_quiet F.plain_any_loop _, ?_⟩))
  rw [← hp, ← hw]
  refine any_loopD (A := X.A) go o.room.hd o.room.depth T (b := b) (σb := σb) (fun H' s' Ig mb x => ?_) ds.length 0 _ s5 (Nat.zero_add _) rfl G (by rw [List.drop_zero]; exact e)
  obtain ⟨I', m', x'⟩ := back σb H' s' Ig mb x
  exact ⟨.bl b, H', I', rfl, hQ H' x' m'⟩
/-- all(elt for tg in iter) -/
theorem se_all (o : Ok X M (kk + 1)) (hgl : Gl X "all") (hm : X.mg "all" = none) (TB : GxR.TabB X.base X.mg c P) (hP : P ∈ M.tabs) (hcode : X.env.code = .ref c) (hi : SI X M tg iter src) (gok : GenOk X.env scope) (ok : BlkOk X.N X.env.scope scope own)
    (hok : lcOk M (own.map (·.2))) (his : ∀ i ∈ is, i ∈ own.map (·.2))
    (hg : ∀ (s : Shared) (H : Hp) (C : Addr) (cl : List (Str × Addr)) (cd : Value) (bi : Addr) (fp : List Addr) (A : Around), Room kk A → SG (CxGen X s H (genEnv scope cl C cd bi X.env) fp A) (M.blk M.H0) is tg g)
    (he : ∀ (s : Shared) (H : Hp) (C : Addr) (cl : List (Str × Addr)) (cd : Value) (bi : Addr) (fp : List Addr) (A : Around), Room kk A → SE (CxGen X s H (genEnv scope cl C cd bi X.env) fp A) (M.blk M.H0) elt f)
    (hb : bootBuiltins "all" = some (.builtin "all") := by decide +kernel)
    (hs : ∀ v, genFold iter X.env v = pure v := by intro _; rfl)
    (hst : starEach [.GeneratorExp elt [⟨tg, iter, [], 0⟩] scope gpos] X.env = (false, eval (.GeneratorExp elt [⟨tg, iter, [], 0⟩] scope gpos) X.env) :: starEach [] X.env := by rfl) :
    SE X M (.Call (.Name "all" p) [.GeneratorExp elt [⟨tg, iter, [], 0⟩] scope gpos] [] pos) (qE false (own.map (·.2)) src g f) := by
  refine ⟨fun pins s σ H Q I ⟨σd, m, q⟩ => ?_⟩
  refine wpAny_Call_Name_kw (ld_blt I hgl hm hb ?_)
  refine PyProof.Rows.callWith_builtin1 ?_ hst (by rfl)
  rw [hst]
  show wpAny _ _ (spliced ((false, eval (.GeneratorExp elt [⟨tg, iter, [], 0⟩] scope gpos) X.env) :: backTo pos (starEach [] X.env))) _ _ s
  refine Calls.spliced_cons (gen_born o TB hP hcode hi gok ok hok his hg he hs I m (wpR_bind.mp q) fun u s5 hB => ?_)
  obtain ⟨Xg, H1, fp, tn, pp, gn, J, it, tg', ds, σ1, rfl, hp, hw, go, T, G, hr, back⟩ := hB
  obtain ⟨b, σb, e, hQ⟩ := quant_end hr
  refine Calls.spliced_nil ?_
  refine call_function_tree F.kind_all F.plain_all F.entry_all (F.args_all1 _) ?_
  unfold Builtin.«all»
  refine wpAny_bind (m := oneArg "all" _) (wpAny_pure ?_)
  obtain ⟨H0, G0⟩ := G.1
  refine wpAny_bind (wpAny_pyIter_gen (go.at (inv_pin G0.inv)) (wpAny_pure ⟨plainId_quiet F.plain_all_loop _, ?_⟩))
  rw [← hp, ← hw]
  refine all_loopD (A := X.A) go o.room.hd o.room.depth T (b := b) (σb := σb) (fun H' s' Ig mb x => ?_) ds.length 0 _ s5 (Nat.zero_add _) rfl G (by rw [List.drop_zero]; exact e)
  obtain ⟨I', m', x'⟩ := back σb H' s' Ig mb x
  exact ⟨.bl b, H', I', rfl, hQ H' x' m'⟩
end
end PL
set_option Elab.async false
set_option linter.all false
set_option maxRecDepth 100000
set_option maxHeartbeats 1000000
set_option autoImplicit false
/-! Built-in functions, more assignments. -/
namespace PL
open PySem PySem.Spec PyProof.Rows L2

/-! ### isinstance(x, T) -/
inductive PyT where
  | int | bool | str | list | tuple | dict
def PyT.name : PyT → String
  | .int => "int"
  | .bool => "bool"
  | .str => "str"
  | .list => "list"
  | .tuple => "tuple"
  | .dict => "dict"
def isN : D → String
  | .none => "NoneType"
  | .bool _ => "bool"
  | .int _ => "int"
  | .str _ => "str"
  | .list _ => "list"
  | .tuple _ => "tuple"
  | .dict _ => "dict"
def isD : PyT → D → Bool
  | .int, .int _ => true
  | .int, .bool _ => true
  | .bool, .bool _ => true
  | .str, .str _ => true
  | .list, .list _ => true
  | .tuple, .tuple _ => true
  | .dict, .dict _ => true
  | _, _ => false
theorem kit_isD (T : PyT) (d : D) : kitB (isN d) T.name = some (isD T d) := by
  cases T <;> cases d <;> (simp only [isN, PyT.name, isD]; decide +kernel)
theorem Rep.ty {K : PySem.W.Frag} {H : Hp} {v : V} {d : D} (r : Rep K H v d) : TyX K H v (.type (isN d)) := by
  cases r with
  | non => exact .base .non
  | bl b => exact .base (.bl b)
  | int i => exact .base (.int i)
  | str x => exact .base (.str x)
  | lst h _ =>
    rcases h with ⟨o, h⟩ | ⟨o, its, n, h1, h2, _⟩
    · exact .base (.frz h)
    · exact .kList h1 h2
  | tup h _ =>
    rcases h with (h | ⟨o, h⟩) | ⟨o, its, n, h1, h2, _⟩
    · exact .base (.tup h)
    · exact .fTuple h
    · exact .kTuple h1 h2
section
variable {X : Cx} {M : Mx} {e : Expr} {f : DEnv → R D} {p pt pos : Pos} {x : Str}
@[simp] def isE (T : PyT) (f : DEnv → R D) : DEnv → R D := fun σ => (f σ).bind fun d σ1 => .ok (.bool (isD T d)) σ1
theorem se_isi (T : PyT) (hK : X.K = M.K) (hg : Gl X "isinstance") (hm : X.mg "isinstance" = none) (hgx : Gl X x) (hmx : X.mg x = none) (hx : bootBuiltins x = some (.type T.name)) (h : SE X M e f)
    (hv : bootBuiltins "isinstance" = some (.builtin "isinstance") := by decide +kernel) (hn : x ≠ "__name__" := by decide) (hdb : (x == ("__debug__" : Str)) = false := by decide)
    (h1 : starEach [e, .Name x pt] X.env = (false, eval e X.env) :: starEach [.Name x pt] X.env := by rfl) (h2 : starEach [.Name x pt] X.env = (false, eval (.Name x pt) X.env) :: starEach [] X.env := by rfl) (hpl : (backTo pos (starEach [.Name x pt] X.env)).any (·.1) = false := by rfl) :
    SE X M (.Call (.Name "isinstance" p) [e, .Name x pt] [] pos) (isE T f) := by
  have base : PE X (.Name x pt) (tC (.ty T.name)) := pe_bltn hgx hmx hx rfl hn hdb
  refine PE.weak (pe_callB (call_isi (X := X)) hg hm hv (pa_cons h (pa_cons base pa_nil h2) h1) (by decide) (by decide) h1 hpl) fun σ H Q ⟨σd, m, q⟩ => ⟨σd, m, wpR_mono (wpR_bind.mp q) fun d σ1 q1 v H1 e1 r1 m1 => ?_⟩
  exact ⟨v, .ty T.name, .type (isN d), .type T.name, isD T d, rfl, .ty _, by rw [hK]; exact r1.ty, kit_ty (kit_isD T d), q1 (.bl _) H1 e1 (.bl _) m1⟩

/-! ### functions of data -/
def cAbs : List D → Option D
  | [.int i] => some (.int i.natAbs)
  | _ => none
theorem cd_abs : CallD X (.builtin "abs") cAbs := CallR.weak call_abs fun xs H Q ⟨ds, z, r, hz, q⟩ => by
  unfold cAbs at hz
  split at hz
  · cases hz
    cases r with
    | cons r1 r2 =>
      cases r2
      cases r1
      refine ⟨_, rfl, ?_⟩
      have e : ∀ i : Int, (if i < 0 then -i else i) = (i.natAbs : Int) := fun i => by split <;> omega
      rw [e]
      exact q _ H (Same.refl _) (.int _)
  · cases hz
def cLen : List D → Option D
  | [.list ds] => some (.int ds.length)
  | [.tuple ds] => some (.int ds.length)
  | [.str z] => if z.length ≤ 1000000 then some (.int z.length) else none
  | _ => none
theorem cd_len : CallD X (.builtin "len") cLen := CallR.weak (CallR.or call_len_seq call_len_str) fun xs H Q ⟨ds, z, r, hz, q⟩ => by
  unfold cLen at hz
  split at hz
  · cases hz
    cases r with
    | cons r1 r2 =>
      cases r2
      cases r1 with
      | lst h1 h2 => exact .inl ⟨_, _, rfl, .inl h1.sq, q _ H (Same.refl _) (by rw [h2.length]; exact .int _)⟩
  · cases hz
    cases r with
    | cons r1 r2 =>
      cases r2
      cases r1 with
      | tup h1 h2 => exact .inl ⟨_, _, rfl, .inr h1, q _ H (Same.refl _) (by rw [h2.length]; exact .int _)⟩
  · split at hz
    · rename_i hl
      cases hz
      cases r with
      | cons r1 r2 =>
        cases r2
        cases r1
        exact .inr ⟨_, rfl, Nat.le_of_lt (mil hl), q _ H (Same.refl _) (.int _)⟩
    · cases hz
  · cases hz
def cInt : List D → Option D
  | [.int i] => some (.int i)
  | [.bool b] => some (.int (if b then 1 else 0))
  | _ => none
theorem cd_int : CallD X (.type "int") cInt := CallR.weak call_int1 fun xs H Q ⟨ds, z, r, hz, q⟩ => by
  unfold cInt at hz
  split at hz
  · cases hz
    cases r with
    | cons r1 r2 =>
      cases r2
      cases r1
      exact .inl ⟨_, rfl, q _ H (Same.refl _) (.int _)⟩
  · cases hz
    cases r with
    | cons r1 r2 =>
      cases r2
      cases r1
      exact .inr ⟨_, rfl, q _ H (Same.refl _) (.int _)⟩
  · cases hz
def cMax2 : List D → Option D
  | [.int i, .int j] => some (.int (max i j))
  | _ => none
def cMin2 : List D → Option D
  | [.int i, .int j] => some (.int (min i j))
  | _ => none
theorem cd_max2 (hc : X.calm = true) : CallD X (.builtin "max") cMax2 := CallR.weak (call_max2 hc) fun xs H Q ⟨ds, z, r, hz, q⟩ => by
  unfold cMax2 at hz
  split at hz
  · cases hz
    cases r with
    | cons r1 r2 =>
      cases r2 with
      | cons r2 r3 =>
        cases r3
        cases r1
        cases r2
        refine ⟨_, _, rfl, ?_⟩
        have e : ∀ i j : Int, (if j > i then j else i) = max i j := fun i j => by omega
        rw [e]
        exact q _ H (Same.refl _) (.int _)
  · cases hz
theorem cd_min2 (hc : X.calm = true) : CallD X (.builtin "min") cMin2 := CallR.weak (call_min2 hc) fun xs H Q ⟨ds, z, r, hz, q⟩ => by
  unfold cMin2 at hz
  split at hz
  · cases hz
    cases r with
    | cons r1 r2 =>
      cases r2 with
      | cons r2 r3 =>
        cases r3
        cases r1
        cases r2
        refine ⟨_, _, rfl, ?_⟩
        have e : ∀ i j : Int, (if j < i then j else i) = min i j := fun i j => by omega
        rw [e]
        exact q _ H (Same.refl _) (.int _)
  · cases hz
/-- a function that lays a new list -/
theorem CallR.newL {fv : Value} {r : List D → Option (List D)} (h : CallR X fv (fun xs H Q => ∃ ds z, RepAll X.K H xs ds ∧ r ds = some z ∧ ∀ p ys H', Same H H' → H' p = none → RepAll X.K H' ys z → Q (.ref p) (upd H' p (.lst ys)))) :
    CallD X fv (fun ds => (r ds).map .list) := by
  intro pins s σ H xs us Q I rx ⟨ds, z, ra, hz, q⟩
  simp only [Option.map_eq_some_iff] at hz
  obtain ⟨zs, hz, rfl⟩ := hz
  exact thn (h pins s σ H xs us (fun v H' => ∃ p ys H1, v = .ref p ∧ Same H H1 ∧ H1 p = none ∧ H' = upd H1 p (.lst ys) ∧ RepAll X.K H1 ys zs) I rx ⟨ds, zs, ra, hz, fun p ys H' sm hp ry => ⟨p, ys, H', rfl, sm, hp, rfl, ry⟩⟩) fun u s' hu => lock_new X.K hu q
def cSeq : List D → Option (List D)
  | [.list ds] => some ds
  | [.tuple ds] => some ds
  | _ => none
theorem cn_list : CallR X (.type "list") (fun xs H Q => ∃ ds z, RepAll X.K H xs ds ∧ cSeq ds = some z ∧ ∀ p ys H', Same H H' → H' p = none → RepAll X.K H' ys z → Q (.ref p) (upd H' p (.lst ys))) :=
  CallR.weak call_list_of fun xs H Q ⟨ds, z, r, hz, q⟩ => by
    unfold cSeq at hz
    split at hz
    · cases hz
      cases r with
      | cons r1 r2 =>
        cases r2
        cases r1 with
        | lst h1 h2 => exact ⟨_, _, rfl, .inl h1.sq, fun l hl => q l _ H (Same.refl _) hl h2⟩
    · cases hz
      cases r with
      | cons r1 r2 =>
        cases r2
        cases r1 with
        | tup h1 h2 => exact ⟨_, _, rfl, .inr h1, fun l hl => q l _ H (Same.refl _) hl h2⟩
    · cases hz
def cList (ds : List D) : Option D := (cSeq ds).map .list
theorem cd_list : CallD X (.type "list") cList := CallR.newL cn_list
def cTuple : List D → Option D
  | [.list ds] => some (.tuple ds)
  | [.tuple ds] => some (.tuple ds)
  | _ => none
theorem cd_tuple : CallD X (.type "tuple") cTuple := CallR.weak call_tuple_of fun xs H Q ⟨ds, z, r, hz, q⟩ => by
  unfold cTuple at hz
  split at hz
  · cases hz
    cases r with
    | cons r1 r2 =>
      cases r2
      cases r1 with
      | @lst a ys _ h1 h2 =>
        refine ⟨_, _, rfl, .inl ⟨h1.sq, fun l hl => ?_⟩⟩
        have sm : Same H (upd H l (.tup ys)) := same_upd hl
        exact q _ _ sm (.tup (SqT.of upd_same) (h2.ext (Ext.same sm)))
  · cases hz
    cases r with
    | cons r1 r2 =>
      cases r2
      cases r1 with
      | tup h1 h2 => exact ⟨_, _, rfl, .inr ⟨h1, q _ H (Same.refl _) (.tup h1 h2)⟩⟩
  · cases hz
def cGcd : List D → Option D
  | [.int i, .int j] => some (.int (Nat.gcd i.natAbs j.natAbs : Nat))
  | _ => none
theorem cd_gcd : CallD X (.builtin "math.gcd") cGcd := CallR.weak cr_gcd fun xs H Q ⟨ds, z, r, hz, q⟩ => by
  unfold cGcd at hz
  split at hz
  · cases hz
    cases r with
    | cons r1 r2 =>
      cases r2 with
      | cons r2 r3 =>
        cases r3
        cases r1
        cases r2
        exact ⟨_, _, rfl, q _ H (Same.refl _) (.int _)⟩
  · cases hz
/-- f(e, ..), f a module's name for a built-in function -/
theorem se_callM {es : List Expr} {fs : DEnv → R (List D)} {id : String} {r : List D → Option D} (hK : X.K = M.K) (hc : CallD X (.builtin id) r) (hg : Gl X x) (hm : X.mg x = some (.builtin id)) (ha : SA X M (e :: es) fs) (hdb : (x == ("__debug__" : Str)) = false := by decide)
    (he : starEach (e :: es) X.env = (false, eval e X.env) :: starEach es X.env := by rfl) (hpl : (backTo pos (starEach es X.env)).any (·.1) = false := by rfl) : SE X M (.Call (.Name x p) (e :: es) [] pos) (callD r fs) :=
  PE.weak (pe_callBfun hc hg hm ha hdb he hpl) fun σ H Q h => tCB_of hK h

/-! ### sorted -/
def isTC : D → Bool
  | .tuple (_ :: _) => true
  | _ => false
def isNT : D → Bool
  | .none => false
  | .tuple _ => false
  | _ => true
/-- what sorted takes: alike data, of depth at most 60 -/
def okSort (ds : List D) : Bool := (ds.all fun a => ds.all fun b => PySem.W.alike a b) && (ds.all isTC || ds.all isNT) && (ds.all fun d => decide (d.depth ≤ 60)) && decide (ds.length ≤ 1000000)
def sortD (ds : List D) : List D := ds.mergeSort (PySem.W.dataLe false id)
def cSort : List D → Option (List D)
  | [.list ds] => if okSort ds = true then some (sortD ds) else none
  | _ => none
theorem each_of {K : PySem.W.Frag} {H : Hp} : ∀ {xs : List V} {us : List Value} {ds : List D}, Vals xs us → RepAll K H xs ds → PySem.W.EachIs (fun u d => ∃ x, RelV x u ∧ Rep K H x d) us ds
  | _, _, _, .nil, .nil => .nil
  | _, _, _, .cons r rs, .cons q qs => .cons ⟨_, r, q⟩ (each_of rs qs)
theorem of_each {K : PySem.W.Frag} {H : Hp} : ∀ {us : List Value} {ds : List D}, PySem.W.EachIs (fun u d => ∃ x, RelV x u ∧ Rep K H x d) us ds → ∃ xs, Vals xs us ∧ RepAll K H xs ds
  | _, _, .nil => ⟨[], .nil, .nil⟩
  | _, _, .cons ⟨x, r, q⟩ t => by
    obtain ⟨xs, h1, h2⟩ := of_each t
    exact ⟨x :: xs, .cons r h1, .cons q h2⟩
theorem each_reads {pins : List (Addr × Obj)} {σ : L2.St} {H : Hp} {s : Shared} (I : Inv X pins σ H s) : ∀ {us : List Value} {ds : List D}, PySem.W.EachIs (fun u d => ∃ x, RelV x u ∧ Rep X.K H x d) us ds → PySem.W.EachIs (fun u d => ∃ as, Reads s.heap u (id d) as) us ds
  | _, _, .nil => .nil
  | _, _, .cons ⟨x, r, q⟩ t => .cons (Dp.reads I _ x _ (q.dp _ _) r) (each_reads I t)
theorem cn_sorted (hu : X.A.units + 64 < cLine) : CallR X (.builtin "sorted") (fun xs H Q => ∃ ds z, RepAll X.K H xs ds ∧ cSort ds = some z ∧ ∀ p ys H', Same H H' → H' p = none → RepAll X.K H' ys z → Q (.ref p) (upd H' p (.lst ys))) := by
  intro pins s σ H xs us Q I rx ⟨ds, z, r, hz, q⟩
  unfold cSort at hz
  split at hz
  · rename_i es
    split at hz
    · rename_i hok
      cases hz
      cases r with
      | cons r1 r2 =>
        cases r2
        cases r1 with
        | @lst a ys _ h1 h2 =>
          obtain ⟨its, rv, pl, hlen⟩ := I.list h1.sq
          rw [Vals.ref1 rx]
          unfold okSort at hok
          simp only [Bool.and_eq_true, List.all_eq_true, decide_eq_true_eq, Bool.or_eq_true] at hok
          obtain ⟨⟨⟨k1, k2⟩, k3⟩, k4⟩ := hok
          have e := each_of rv h2
          refine PySem.W.sorted_data (enc := id) pl.isList e (each_reads I e) (fun d hd d' hd' => ?_) ?_ (Nat.le_of_lt (mil k4)) (fun b hb => ?_) fun out ho eo => ?_
          · rw [List.map_id] at hd hd'
            exact k1 d hd d' hd'
          · rw [List.map_id]
            rcases k2 with k | k
            · refine .inl fun d hd => ?_
              have := k d hd
              unfold isTC at this
              split at this
              · exact ⟨_, _, rfl⟩
              · cases this
            · refine .inr fun d hd => ?_
              have := k d hd
              unfold isNT at this
              split at this
              · cases this
              · cases this
              · rename_i z1 z2
                exact ⟨z1, z2⟩
          · have := k3 b hb
            show X.A.units + 2 + b.depth < cLine
            omega
          · obtain ⟨ys', v', r'⟩ := of_each eo
            obtain ⟨ep, he'⟩ := PyProof.Rows.sortedAll_at s.heap its out.toArray
            have hl' : ys'.length ≤ sizeLine := by
              rw [v'.length, ho]
              exact Nat.le_of_lt (mil k4)
            refine ⟨.ref _, upd H (s.heap.objs.size + 1) (.lst ys'), I.laid (t' := s.toks) (fun _ _ => PyProof.Rows.sortedAll_old) (Nat.le_succ _) ⟨hl', out, ep, v', by simpa using he'⟩, rfl, q _ ys' H (Same.refl _) (I.hok.fresh (Nat.le_succ _)) r'⟩
    · cases hz
  · cases hz
def cSorted (ds : List D) : Option D := (cSort ds).map .list
theorem cd_sorted (hu : X.A.units + 64 < cLine) : CallD X (.builtin "sorted") cSorted := CallR.newL (cn_sorted hu)
end
end PL
set_option Elab.async false
set_option linter.all false
set_option maxRecDepth 100000
set_option maxHeartbeats 1000000
set_option autoImplicit false
/-! More assignments; comprehensions of two clauses; [::-1]. -/
namespace PL
open PySem PySem.Spec PyProof.Rows L2

section
variable {X : Cx} {M : Mx} {e : Expr} {f : DEnv → R D} {p pos : Pos}
/-- (a, b, ..) = e -/
theorem ss_asgT {tg : Expr} {is : List Nat} {g : D → DEnv → Option DEnv} (he : SE X M e f) (hg : SG X M is tg g) (hs : swapsWithSole [tg] e pos.line X.env = pure false := by rfl) (hw : swappedStores [tg] e X.env = pure none := by rfl)
    (h1 : (assignEach [tg] X.env).map (·.2) = [assign tg X.env] := by rfl) : SS X M (.Assign [tg] e pos) (fun σ => (f σ).thn fun d σ1 => match g d σ1 with
      | some σ2 => .nx σ2
      | none => .bad) :=
  PS.weak (ps_asg he hg hs hw h1) fun D σ H ⟨σd, m, q⟩ => ⟨σd, m, wpR_mono (wpR_thn q) fun d σ1 q1 v H1 e1 r1 m1 => by
    cases hg2 : g d σ1 with
    | none => simp only [hg2] at q1; exact q1.elim
    | some σ2 =>
      simp only [hg2] at q1
      exact ⟨d, σ1, σ2, r1, m1, hg2, fun σ' H' e2 m2 _ => q1 σ' H' (e1.trans e2) m2⟩⟩
/-- a, b, .. = x, the list of x -/
theorem ss_unp {i k n : Nat} {x : Str} {px pt : Pos} {es : List Expr} {is : List Nat} {gs : List D → DEnv → Option DEnv} (hK : X.K = M.K) (hc : X.calm = true) (hN : X.N[i]? = some x) (hv : Vis X.env.scope x) (hg : SGs X M is es gs) (hd : (x == ("__debug__" : Str)) = false := by decide) (hcd : (x == ("__classdict__" : Str)) = false := by decide)
    (hn : (assignEach es X.env).length = n := by rfl) (hst : (assignEach es X.env).findIdx? (·.1) = none := by rfl)
    (hs : swapsWithSole [.Tuple es k pt] (.Name x px) pos.line X.env = pure false := by rfl) (hw : swappedStores [.Tuple es k pt] (.Name x px) X.env = pure none := by rfl)
    (h1 : (assignEach [.Tuple es k pt] X.env).map (·.2) = [assign (.Tuple es k pt) X.env] := by rfl) :
    SS X M (.Assign [.Tuple es k pt] (.Name x px) pos) (fun σ => match lstOf i σ with
      | some ds => if ds.length = n then (match gs ds σ with
        | some σ2 => .nx σ2
        | none => .bad) else .bad
      | none => .bad) := by
  have base : PE X (.Name x px) (tVar i) := pe_var hN hv hd hcd
  refine PS.weak (ps_asg base (pg_lst (pos := pt) (k := k) hc hg hn hst) hs hw h1) fun D σ H ⟨σd, m, q⟩ => ?_
  cases hl : lstOf i σd with
  | none => simp only [hl] at q; exact q.elim
  | some ds =>
    simp only [hl] at q
    obtain ⟨a, xs, h2, h3, h4⟩ := m.lstOf hl
    split at q
    · rename_i hlen
      cases hg2 : gs ds σd with
      | none => simp only [hg2] at q; exact q.elim
      | some σ2 =>
        simp only [hg2] at q
        refine ⟨.ref a, h2, a, xs, rfl, SqL.of h3, h4.length.trans hlen, ds, σd, σ2, h4, m, hg2, fun σ' H' e2 m2 _ => q σ' H' e2 m2⟩
    · exact q.elim
@[simp] def set2 (i j : Nat) (ds : List D) (σ : DEnv) : O := match ds with
  | [a, b] => match setC i (.val a) σ with
    | none => .bad
    | some σ1 => match setC j (.val b) σ1 with
      | none => .bad
      | some σ2 => .nx σ2
  | _ => .bad
/-- a, b = x, y with plain local names -/
theorem ss_par {i j : Nat} {x y : Str} {a b : Expr} {fs : DEnv → R (List D)} {px py pt : Pos} {kt k2 : Nat} {pt2 : Pos} (hc : X.calm = true) (hN : X.N.Nodup) (hi : X.N[i]? = some x) (hj : X.N[j]? = some y) (hij : i ≠ j)
    (hx : X.env.scope.names.lookup x = some .local) (hy : X.env.scope.names.lookup y = some .local) (ha : SA X M [a, b] fs)
    (hw : swappedStores [.Tuple [.Name x px, .Name y py] kt pt] (.Tuple [a, b] k2 pt2) X.env = pure (some [x, y]))
    (hs : swapsWithSole [.Tuple [.Name x px, .Name y py] kt pt] (.Tuple [a, b] k2 pt2) pos.line X.env = pure false := by rfl) :
    SS X M (.Assign [.Tuple [.Name x px, .Name y py] kt pt] (.Tuple [a, b] k2 pt2) pos) (fun σ => (fs σ).thn (set2 i j)) :=
  PS.weak (ps_par hc hN hi hj hij hx hy ha hw hs) fun D σ H ⟨σd, m, q⟩ => ⟨σd, m, wpR_mono (wpR_thn q) fun ds σ1 q1 vs H1 e1 r1 m1 => by
    unfold set2 at q1
    split at q1
    · cases r1 with
      | cons r1 r2 =>
        cases r2 with
        | cons r2 r3 =>
          cases r3
          split at q1
          · exact q1.elim
          · rename_i σ2 h2
            split at q1
            · exact q1.elim
            · rename_i σ3 h3
              exact ⟨_, _, rfl, q1 _ H1 e1 ((m1.setVal h2 r1).setVal h3 r2)⟩
    · exact q1.elim⟩
@[simp] def set3 (i j l : Nat) (ds : List D) (σ : DEnv) : O := match ds with
  | [a, b, c] => match setC i (.val a) σ with
    | none => .bad
    | some σ1 => match setC j (.val b) σ1 with
      | none => .bad
      | some σ2 => match setC l (.val c) σ2 with
        | none => .bad
        | some σ3 => .nx σ3
  | _ => .bad
theorem ss_par3 {i j l : Nat} {x y z : Str} {a b c : Expr} {fs : DEnv → R (List D)} {px py pz pt : Pos} {kt k2 : Nat} {pt2 : Pos} (hc : X.calm = true) (hN : X.N.Nodup) (hi : X.N[i]? = some x) (hj : X.N[j]? = some y) (hl : X.N[l]? = some z) (hij : i ≠ j) (hil : i ≠ l) (hjl : j ≠ l)
    (hx : X.env.scope.names.lookup x = some .local) (hy : X.env.scope.names.lookup y = some .local) (hz : X.env.scope.names.lookup z = some .local) (ha : SA X M [a, b, c] fs)
    (hw : swappedStores [.Tuple [.Name x px, .Name y py, .Name z pz] kt pt] (.Tuple [a, b, c] k2 pt2) X.env = pure (some [x, y, z]))
    (hs : swapsWithSole [.Tuple [.Name x px, .Name y py, .Name z pz] kt pt] (.Tuple [a, b, c] k2 pt2) pos.line X.env = pure false := by rfl) :
    SS X M (.Assign [.Tuple [.Name x px, .Name y py, .Name z pz] kt pt] (.Tuple [a, b, c] k2 pt2) pos) (fun σ => (fs σ).thn (set3 i j l)) :=
  PS.weak (ps_par3 hc hN hi hj hl hij hil hjl hx hy hz ha hw hs) fun D σ H ⟨σd, m, q⟩ => ⟨σd, m, wpR_mono (wpR_thn q) fun ds σ1 q1 vs H1 e1 r1 m1 => by
    unfold set3 at q1
    split at q1
    · cases r1 with
      | cons r1 r2 =>
        cases r2 with
        | cons r2 r3 =>
          cases r3 with
          | cons r3 r4 =>
            cases r4
            split at q1
            · exact q1.elim
            · rename_i σ2 h2
              split at q1
              · exact q1.elim
              · rename_i σ3 h3
                split at q1
                · exact q1.elim
                · rename_i σ4 h4
                  exact ⟨_, _, _, rfl, q1 _ H1 e1 (((m1.setVal h2 r1).setVal h3 r2).setVal h4 r3)⟩
    · exact q1.elim⟩

/-! ### x op= e -/
@[simp] def augF (r : D → D → Option D) (i : Nat) (f : DEnv → R D) : DEnv → O := fun σ => match σ[i]? with
  | some (.val a) => (f σ).thn fun b σ1 => match r a b with
    | some z => setV i z σ1
    | none => .bad
  | _ => .bad
theorem ss_aug {i : Nat} {x : Str} {op : Operator} {r : D → D → Option D} {p1 : Pos} (hK : X.K = M.K) (hN : X.N.Nodup) (hi : X.N[i]? = some x) (hx : Loc X.env.scope x) (h : SE X M e f) (ho : OpD X (inplaceOp op) r) (hf : X.fn x = true ∨ X.env.scope.names.lookup x = some .local := by first | exact .inl rfl | exact .inr rfl | assumption) :
    SS X M (.AugAssign (.Name x p1) op e pos) (augF r i f) :=
  PS.weak (ps_aug hN hi hx h ho hf) fun D σ H ⟨σd, m, q⟩ => by
    unfold augF at q
    split at q
    · rename_i a ea
      obtain ⟨v, hv, rv⟩ := m.val i a ea
      refine ⟨v, hv, σd, m, wpR_mono (wpR_thn q) fun b σ1 q1 w H1 e1 r1 m1 => ?_⟩
      split at q1
      · rename_i z hz
        refine ⟨a, b, z, by rw [hK]; exact rv.ext e1, by rw [hK]; exact r1, hz, fun u H2 s2 r2 => ?_⟩
        exact wpO_setV q1 (e1.trans (Ext.same s2)) (by rw [← hK]; exact r2) (m1.same s2)
      · exact q1.elim
    · exact q.elim
def iAdd : D → D → Option D
  | .int a, .int b => some (.int (a + b))
  | _, _ => none
def iSub : D → D → Option D
  | .int a, .int b => some (.int (a - b))
  | _, _ => none
theorem id_add : OpD X (inplaceOp .Add) iAdd := OpR.weak iop_add fun x y H Q ⟨d, e, z, h1, h2, hz, q⟩ => by
  unfold iAdd at hz
  split at hz
  · cases hz
    cases h1
    cases h2
    exact ⟨_, _, rfl, rfl, q _ _ (Same.refl _) (.int _)⟩
  · cases hz
theorem id_sub : OpD X (inplaceOp .Sub) iSub := OpR.weak iop_sub fun x y H Q ⟨d, e, z, h1, h2, hz, q⟩ => by
  unfold iSub at hz
  split at hz
  · cases hz
    cases h1
    cases h2
    exact ⟨_, _, rfl, rfl, q _ _ (Same.refl _) (.int _)⟩
  · cases hz

/-! ### two clauses -/
def lcF2 (vs vs1 : List Nat) (g : D → DEnv → Option DEnv) (t : DEnv → R Bool) (src1 : DEnv → R (List D)) (g1 : D → DEnv → Option DEnv) (t1 : DEnv → R Bool) (f : DEnv → R D) : List D → List D → DEnv → R (List D)
  | [], acc, σ => .ok acc σ
  | d :: ds, acc, σ => match g d σ with
    | none => .bad
    | some σ1 => (t σ1).noX.bind fun c σ2 => if c = true then (src1 σ2).noX.bind fun es σ3 => (lcF vs1 g1 t1 f es acc (wipeD σ3 vs1)).noX.bind fun acc1 σ4 => lcF2 vs vs1 g t src1 g1 t1 f ds acc1 (wipeD σ4 vs) else lcF2 vs vs1 g t src1 g1 t1 f ds acc (wipeD σ2 vs)
def lc2 (vs vs1 : List Nat) (src : DEnv → R (List D)) (g : D → DEnv → Option DEnv) (t : DEnv → R Bool) (src1 : DEnv → R (List D)) (g1 : D → DEnv → Option DEnv) (t1 : DEnv → R Bool) (f : DEnv → R D) : DEnv → R (List D) := fun σ =>
  (src σ).bind fun ds σ1 => (lcF2 vs vs1 g t src1 g1 t1 f ds [] (wipeD σ1 vs)).bind fun acc σ2 => .ok acc (backD σ1 σ2 vs)
theorem wipe_in {σ : L2.St} {vs vs1 : List Nat} (h : ∀ i ∈ vs1, i ∈ vs) : wipe (wipe σ vs1) vs = wipe σ vs := wipe_ext (wipe_length σ vs1) fun j hj => wipe_out' fun z => hj (h j z)
theorem R.noX_ok {α : Type} {x : R α} {Q : α → DEnv → Prop} {W : Nat → DEnv → Prop} (q : wpR x.noX Q W) : ∃ a σ, x = .ok a σ ∧ Q a σ := by
  cases x with
  | ok a σ => exact ⟨a, σ, rfl, q⟩
  | exc c σ => exact q.elim
  | bad => exact q.elim
theorem Mt.fromBlk {H0 : Hp} {σd : DEnv} {σ : L2.St} {H : Hp} (h : H0 = M.H0) (m : Mt (M.blk H0) σd σ H) : Mt M σd σ H := by
  subst h
  exact m.ofBlk
/-- where a turn stands: the list at D, what is in it -/
structure LSt (M : Mx) (D : Addr) (σd : DEnv) (acc : List PyData) (σ : L2.St) (H : Hp) : Prop where
  mt : Mt M σd σ H
  fr : Fresh M σd σ D
  at_ : ∃ xs, H D = some (.lst xs) ∧ RepAll M.K H xs acc
theorem LSt.ofGuard {D : Addr} {xs : List V} {acc : List PyData} {σd σ0 : DEnv} {σ σ' : L2.St} {H H' : Hp} (fr : Fresh M σ0 σ' D) (m : Mt (M.blk (upd M.H0 D (.lst xs))) σd σ H') (ra : RepAll M.K H xs acc) (e : Ext H H') : LSt M D σd acc σ H' := by
  obtain ⟨m7, fr7, hD7⟩ := Mt.unguard fr.ent fr.tap m
  exact ⟨m7, fr7, xs, hD7, ra.ext e⟩
theorem LSt.wiped {D : Addr} {acc : List PyData} {σd : DEnv} {σ : L2.St} {H : Hp} {vs : List Nat} (h : LSt M D σd acc σ H) (hok : lcOk M vs) : LSt M D (wipeD σd vs) acc (wipe σ vs) H := by
  refine ⟨h.mt.wiped hok, ⟨h.fr.ent, h.fr.tap, fun j es e z => ?_⟩, h.at_⟩
  obtain ⟨h1, h2⟩ := wipeD_get (by intro z; cases z) e
  rw [wipe_out' h2] at z
  exact h.fr.own j es h1 z
theorem LSt.push {D : Addr} {acc : List PyData} {σd : DEnv} {σ : L2.St} {H : Hp} {v : V} {y : PyData} (h : LSt M D σd acc σ H) (r : Rep M.K H v y) : ∃ xs, H D = some (.lst xs) ∧ xs.length = acc.length ∧ LSt M D σd (acc ++ [y]) σ (upd H D (.lst (xs ++ [v]))) ∧ Ext H (upd H D (.lst (xs ++ [v]))) := by
  obtain ⟨xs, hD, ra⟩ := h.at_
  refine ⟨xs, hD, ra.length, ⟨h.mt.grown h.fr hD, h.fr, xs ++ [v], upd_same, (ra.ext (Ext.wr hD)).app (.cons (r.ext (Ext.wr hD)) .nil)⟩, Ext.wr hD⟩
theorem tLc2_of {is is1 vs vs1 : List Nat} {src src1 : DEnv → R (List D)} {g g1 : D → DEnv → Option DEnv} {t t1 : DEnv → R Bool} {f : DEnv → R D} {wi wi1 : TI} {gg gg1 : TG} {tt tt1 : TT} {te : TE} (hok : lcOk M vs) (his : ∀ i ∈ is, i ∈ vs) (hok1 : lcOk M vs1) (his1 : ∀ i ∈ is1, i ∈ vs1) (hsub : ∀ i ∈ vs1, i ∈ vs)
    (hwi : ∀ σ H Q, iD M src σ H Q → wi σ H Q) (hgg : ∀ H0 v σ H Q, gD (M.blk H0) is g v σ H Q → gg v σ H Q) (htt : ∀ H0 σ H Q, tT (M.blk H0) t σ H Q → tt σ H Q)
    (hwi1 : ∀ H0 σ H Q, iD (M.blk H0) src1 σ H Q → wi1 σ H Q) (hgg1 : ∀ H0 v σ H Q, gD (M.blk H0) is1 g1 v σ H Q → gg1 v σ H Q) (htt1 : ∀ H0 σ H Q, tT (M.blk H0) t1 σ H Q → tt1 σ H Q) (hte : ∀ H0 σ H Q, tE (M.blk H0) f σ H Q → te σ H Q)
    {σ : L2.St} {H : Hp} {Q : VK} (h : tF M (lc2 vs vs1 src g t src1 g1 t1 f) σ H Q) : tLc2 wi gg tt wi1 gg1 tt1 te vs vs1 σ H Q := by
  obtain ⟨σd, m, q⟩ := h
  refine hwi _ _ _ ⟨σd, m, wpR_mono (wpR_bind.mp q) fun ds σ1 q1 J H1 e1 m1 hJ D hD => ?_⟩
  have fr0 : Fresh M (wipeD σ1 vs) (wipe σ vs) D := (m1.wiped hok).fresh hD
  have sm : Same H1 (upd H1 D (.lst [])) := same_upd hD
  refine ⟨fun i k H' => ∃ σ2 acc, k + i = ds.length ∧ Ext H1 H' ∧ LSt M D σ2 acc (wipe σ vs) H' ∧
      wpR (lcF2 vs vs1 g t src1 g1 t1 f (ds.drop i) acc σ2) (fun acc' σ3 => ∀ p ys H'', Ext H H'' → H'' p = some (.lst ys) → RepAll M.K H'' ys acc' → Mt M (backD σ1 σ3 vs) σ H'' → Fresh M (backD σ1 σ3 vs) σ p → Q (.ref p) H'') M.W,
    ⟨ds.length, wipeD σ1 vs, [], Nat.add_zero _, Ext.same sm, ⟨(m1.wiped hok).same sm, fr0, [], upd_same, .nil⟩, by rw [List.drop_zero]; exact wpR_bind.mp q1⟩, fun i k H' ⟨σ2, acc, hk, e2, L2', q2⟩ => ?_⟩
  have fr := L2'.fr
  obtain ⟨xs, hDx, ra⟩ := L2'.at_
  cases k with
  | zero =>
    have hi : i = ds.length := by omega
    subst hi
    rw [List.drop_length] at q2
    refine .inl ⟨hJ.stop H' e2, q2 D xs H' (e1.trans e2) hDx ra (m1.back e2 L2'.mt hok) ⟨fr.ent, fr.tap, fun j es e z => ?_⟩⟩
    rcases backD_get e with ⟨h1, h2 | h2⟩ | ⟨h1, h2⟩
    · obtain ⟨d', h3, h4⟩ := h2
      cases h4
    · cases h2
    · exact fr.own j es h2 (by rw [wipe_out' h1]; exact z)
  | succ k =>
    have hi : i < ds.length := by omega
    have hd : ds[i]? = some ds[i] := List.getElem?_eq_getElem hi
    rw [List.drop_eq_getElem_cons hi] at q2
    refine .inr ⟨hJ.go H' i _ e2 hd, fun H3 => ∃ σ4 acc4, Ext H1 H3 ∧ LSt M D σ4 acc4 (wipe σ vs) H3 ∧ wpR (lcF2 vs vs1 g t src1 g1 t1 f (ds.drop (i + 1)) acc4 σ4) _ M.W,
      fun H3 ⟨σ4, acc4, z1, z2, z6⟩ => ⟨k, Nat.lt_succ_self k, σ4, acc4, by omega, z1, z2, z6⟩, fun x H3 hy => ?_⟩
    obtain ⟨s3, r3⟩ := hJ.yld H' i _ x H3 e2 hd hy
    unfold lcF2 at q2
    cases hg2 : g ds[i] σ2 with
    | none => rw [hg2] at q2; exact q2.elim
    | some σ3 =>
      rw [hg2] at q2
      have mg : Mt (M.blk (upd M.H0 D (.lst xs))) σ2 (wipe σ vs) H3 := ((L2'.mt.guard fr hDx).same s3)
      refine hgg _ _ _ _ _ ⟨ds[i], σ2, σ3, r3, mg, hg2, fun σ4 H4 e4 m4 l4 => ?_⟩
      have hw4 : wipe σ4 vs = wipe σ vs := by
        rw [wipe_ext (σ := wipe σ vs) (σ' := σ4) l4.1 fun j hj => l4.2 j fun z => hj (his j z)]
        exact wipe_wipe
      refine ⟨hw4, htt _ _ _ _ ⟨σ3, m4, ?_⟩⟩
      have q3 := wpR_bind.mp q2
      obtain ⟨c, σ5, hts, q3⟩ := R.noX_ok q3
      rw [hts]
      intro H5 e5 m5
      cases c with
      | false =>
        rw [if_neg Bool.false_ne_true] at q3
        have e35 : Ext H' H5 := (Ext.same s3).trans (e4.trans e5)
        refine iteF ⟨wipeD σ5 vs, acc, e2.trans e35, ?_, q3⟩
        have := (LSt.ofGuard fr m5 ra e35).wiped (vs := vs) hok
        rw [hw4] at this
        exact this
      | true =>
        rw [if_pos rfl] at q3
        refine iteT (hwi1 _ _ _ _ ⟨σ5, m5, ?_⟩)
        have q4 := wpR_bind.mp q3
        obtain ⟨es, σ6, hss, q4⟩ := R.noX_ok q4
        rw [hss]
        intro J1 H6 e6 m6 hJ1
        have e36 : Ext H' H6 := (Ext.same s3).trans (e4.trans (e5.trans e6))
        obtain ⟨acc1, σ7, hli, q5⟩ := R.noX_ok (wpR_bind.mp q4)
        have L6 : LSt M D (wipeD σ6 vs1) acc (wipe σ4 vs1) H6 := (LSt.ofGuard fr m6 ra e36).wiped (vs := vs1) hok1
        refine ⟨fun j k1 H7 => ∃ σ8 acc8, k1 + j = es.length ∧ Ext H6 H7 ∧ LSt M D σ8 acc8 (wipe σ4 vs1) H7 ∧ lcF vs1 g1 t1 f (es.drop j) acc8 σ8 = .ok acc1 σ7,
          ⟨es.length, wipeD σ6 vs1, acc, Nat.add_zero _, Ext.refl _, L6, by rw [List.drop_zero]; exact hli⟩, fun j k1 H7 ⟨σ8, acc8, hk1, e7, L8, q8⟩ => ?_⟩
        have fr8 := L8.fr
        obtain ⟨xs8, hD8, ra8⟩ := L8.at_
        cases k1 with
        | zero =>
          have hj : j = es.length := by omega
          subst hj
          rw [List.drop_length] at q8
          cases q8
          refine .inl ⟨hJ1.stop H7 e7, wipeD σ7 vs, acc1, e2.trans (e36.trans e7), ?_, q5⟩
          have := L8.wiped (vs := vs) hok
          rw [wipe_in hsub, hw4] at this
          exact this
        | succ k1 =>
          have hj : j < es.length := by omega
          have hd1 : es[j]? = some es[j] := List.getElem?_eq_getElem hj
          rw [List.drop_eq_getElem_cons hj] at q8
          refine .inr ⟨hJ1.go H7 j _ e7 hd1, fun H9 => ∃ σ9 acc9, Ext H6 H9 ∧ LSt M D σ9 acc9 (wipe σ4 vs1) H9 ∧ lcF vs1 g1 t1 f (es.drop (j + 1)) acc9 σ9 = .ok acc1 σ7,
            fun H9 ⟨σ9, acc9, z1, z2, z3⟩ => ⟨k1, Nat.lt_succ_self k1, σ9, acc9, by omega, z1, z2, z3⟩, fun x1 H9 hy1 => ?_⟩
          obtain ⟨s9, r9⟩ := hJ1.yld H7 j _ x1 H9 e7 hd1 hy1
          unfold lcF at q8
          cases hg3 : g1 es[j] σ8 with
          | none => rw [hg3] at q8; cases q8
          | some σ9 =>
            rw [hg3] at q8
            have mg1 : Mt (M.blk (upd M.H0 D (.lst xs8))) σ8 (wipe σ4 vs1) H9 := ((L8.mt.guard fr8 hD8).same s9)
            refine hgg1 (upd M.H0 D (.lst xs8)) _ _ _ _ ⟨es[j], σ8, σ9, r9, mg1, hg3, fun σA HA eA mA lA => ?_⟩
            have hwA : wipe σA vs1 = wipe σ4 vs1 := by
              rw [wipe_ext (σ := wipe σ4 vs1) (σ' := σA) lA.1 fun j hj => lA.2 j fun z => hj (his1 j z)]
              exact wipe_wipe
            refine ⟨hwA, htt1 _ _ _ _ ⟨σ9, mA, ?_⟩⟩
            have q8 : (t1 σ9).noX.bind _ = _ := q8
            cases hts1 : t1 σ9 with
            | bad => rw [hts1] at q8; cases q8
            | exc c σB => rw [hts1] at q8; cases q8
            | ok c σB =>
              rw [hts1] at q8
              intro HB eB mB
              have q8 : (if c = true then _ else _) = _ := q8
              cases c with
              | false =>
                rw [if_neg Bool.false_ne_true] at q8
                have e7B : Ext H7 HB := (Ext.same s9).trans (eA.trans eB)
                refine iteF ⟨wipeD σB vs1, acc8, e7.trans e7B, ?_, q8⟩
                have := (LSt.ofGuard fr8 mB ra8 e7B).wiped (vs := vs1) hok1
                rw [hwA] at this
                exact this
              | true =>
                rw [if_pos rfl] at q8
                refine iteT (hte _ _ _ _ ⟨σB, mB, ?_⟩)
                have q8 : (f σB).noX.bind _ = _ := q8
                cases hfs : f σB with
                | bad => rw [hfs] at q8; cases q8
                | exc c σC => rw [hfs] at q8; cases q8
                | ok y σC =>
                  rw [hfs] at q8
                  intro v HC eC rC mC
                  have q8 : (if acc8.length < 1000000 then _ else _) = _ := q8
                  split at q8
                  · rename_i hlen
                    have e7C : Ext H7 HC := (Ext.same s9).trans (eA.trans (eB.trans eC))
                    obtain ⟨zs, hDC, hzl, LC, eP⟩ := (LSt.ofGuard fr8 mC ra8 e7C).push rC
                    refine ⟨zs, hDC, mil (by omega), wipeD σC vs1, acc8 ++ [y], e7.trans (e7C.trans eP), ?_, q8⟩
                    have := LC.wiped (vs := vs1) hok1
                    rw [hwA] at this
                    exact this
                  · cases q8
end
end PL
set_option Elab.async false
set_option linter.all false
set_option maxRecDepth 100000
set_option maxHeartbeats 1000000
set_option autoImplicit false
/-! [::-1]; methods of lists; comprehensions of two clauses, the rules. -/
namespace PL
open PySem PySem.Spec PyProof.Rows L2
section
variable {prog : Program} {w : World} {A : Around} {E : Value → Shared → Prop} {s : Shared}
theorem sliceApplied_rev {sl : Addr} {vs : Value} {n : Nat} {Q : Int × Int × Nat → Shared → Prop} (hs : s.heap.IsSliceOf sl .none .none vs) (ps : IsPart vs (some (-1))) (h : Q ((n : Int) - 1, -1, n) s) :
    wpAny (model prog w) A (Builtin.Slice.sliceApplied (.ref sl) (pure (n : Int))) Q E s := by
  obtain ⟨os, hos, hcs, hds⟩ := id hs
  unfold Builtin.Slice.sliceApplied Builtin.Slice.sliceFields
  refine wpAny_bind (wpAny_bind (wpAny_field hos hds (x := .none) rfl (wpAny_bind (wpAny_field hos hds (x := .none) rfl (wpAny_bind (wpAny_field hos hds (x := vs) rfl (wpAny_pure ?_)))))))
  refine wpAny_bind (HT.slicePart_ ps ?_)
  show wpAny _ _ (if ((-1 : Int) == 0) = true then _ else _) _ _ s
  rw [if_neg (by decide)]
  refine wpAny_bind (slicePart_none (wpAny_bind (slicePart_none (wpAny_bind (wpAny_pure ?_)))))
  have e1 : Builtin.Slice.sliceAdjust none none (-1) (n : Int) = ((n : Int) - 1, -1) := by
    unfold Builtin.Slice.sliceAdjust
    simp
  have e2 : Builtin.Slice.slicePlaces ((n : Int) - 1) (-1) (-1) = n := by
    unfold Builtin.Slice.slicePlaces
    have h1 : ¬ (-1 : Int) > 0 := by omega
    simp only [h1, if_false]
    have e3 : - (-1 : Int) = 1 := rfl
    simp only [e3, Int.ediv_one]
    split <;> omega
  show wpAny _ _ (match Builtin.Slice.sliceAdjust none none (-1) (n : Int) with | (lo, hi) => pure (lo, (-1 : Int), Builtin.Slice.slicePlaces lo hi (-1))) _ _ s
  rw [e1]
  show wpAny _ _ (pure ((n : Int) - 1, (-1 : Int), Builtin.Slice.slicePlaces ((n : Int) - 1) (-1) (-1))) _ _ s
  rw [e2]
  exact wpAny_pure h
theorem filterMap_some {α β : Type} {F : α → Option β} {G : α → β} : ∀ {l : List α}, (∀ m ∈ l, F m = some (G m)) → l.filterMap F = l.map G
  | [], _ => rfl
  | a :: l, h => by
    rw [List.filterMap_cons, h a List.mem_cons_self, List.map_cons, filterMap_some fun m hm => h m (List.mem_cons_of_mem _ hm)]
theorem pick_rev (xs : Array Value) : ((List.range xs.size).filterMap fun (m : Nat) => xs[((xs.size : Int) - 1 + (m : Int) * (-1)).toNat]?).toArray = xs.toList.reverse.toArray := by
  congr 1
  apply List.ext_getElem?
  intro i
  have e : (List.range xs.size).filterMap (fun (m : Nat) => xs[((xs.size : Int) - 1 + (m : Int) * (-1)).toNat]?) = (List.range xs.size).map (fun m => xs.toList.reverse[m]?.getD .none) := by
    refine filterMap_some fun m hm => ?_
    have hm := List.mem_range.mp hm
    have e1 : ((xs.size : Int) - 1 + (m : Int) * (-1)).toNat = xs.size - 1 - m := by omega
    rw [e1]
    have h2 : m < xs.toList.reverse.length := by simp; exact hm
    rw [List.getElem?_eq_getElem h2, Option.getD_some, List.getElem_reverse]
    have h3 : xs.size - 1 - m < xs.size := by omega
    rw [Array.getElem?_eq_getElem h3]
    simp
  rw [e]
  by_cases hi : i < xs.size
  · have h2 : i < xs.toList.reverse.length := by simp; exact hi
    simp only [List.getElem?_map, List.getElem?_range hi, Option.map_some, List.getElem?_eq_getElem h2, Option.getD_some]
  · rw [List.getElem?_eq_none (by simp; omega), List.getElem?_eq_none (by simp; omega)]
theorem getItem_tuple_rev {t sl : Addr} {items : Array Value} {vs : Value} {Q : Value → Shared → Prop} (ht : IsTup s.heap t items) (hs : s.heap.IsSliceOf sl .none .none vs) (ps : IsPart vs (some (-1)))
    (h : Q (.ref s.heap.objs.size) { s with heap := s.heap.push { cls := .type "tuple", data := .seq items.toList.reverse.toArray } })
    (hsz : items.size ≤ sizeLine) : wpAny (model prog w) A (getItem (.ref t) (.ref sl)) Q E s := by
  have hk : sizeOk (.seq items.toList.reverse.toArray) := by
    show items.toList.reverse.toArray.size ≤ sizeLine
    simpa using hsz
  obtain ⟨os, hos, hcs, hds⟩ := id hs
  have hTs : s.TypeIs (.ref sl) "slice" := ⟨os, hos, hcs⟩
  unfold getItem
  try with_reducible refine wpAny_holding ?_
  first | refine wpAny_bind (wpAny_pure ?_) | skip
  refine wpAny_bind (wpAny_sequenceKey ht.typeIs (by decide) ?_)
  refine wpAny_bind (wpAny_callSpecial?_slot (name := Str.ofString "__getitem__") ht.typeIs PyProof.Rows.slot_tuple_getitem
    (wpAny_call_entry PyProof.Rows.slot_tuple_getitem ht.typeIs PyProof.Rows.entry_tuple_getitem ?_ (PyProof.Rows.args_tuple_getitem _ _)))
  show wpAny _ _ (Builtin.Tuple.tupleItemsOf (.ref t) >>= _) _ _ s
  refine wpAny_bind (PyProof.Rows.tupleItemsOf_ ht ?_)
  refine wpAny_bind (wpAny_typeOf hTs ?_)
  rw [if_pos (by decide)]
  refine wpAny_bind (sliceApplied_rev hs ps ?_)
  have hno : ¬ (((items.size : Int) - 1 == 0 && (-1 : Int) == 1 && items.size == items.size) = true) := by
    intro q
    rw [Bool.and_eq_true, Bool.and_eq_true] at q
    exact absurd q.1.2 (by decide)
  show wpAny _ _ (if ((items.size : Int) - 1 == 0 && (-1 : Int) == 1 && items.size == items.size) = true then _ else _) _ _ s
  rw [if_neg hno, pick_rev]
  first
    | exact wpAny_bind (m := Builtin.Tuple.tupleExact _) (wpAny_newObj_type (wpAny_pure ⟨_, rfl, wpAny_pure h⟩) hk)
    | exact wpAny_bind (m := Builtin.Tuple.tupleExact _) (wpAny_newObj_type (wpAny_bind (wpAny_pure (wpAny_pure ⟨_, rfl, wpAny_pure h⟩))) hk)
    | exact wpAny_bind (wpAny_bind (m := Builtin.Tuple.tupleExact _) (wpAny_newObj_type (wpAny_pure (wpAny_pure ⟨_, rfl, wpAny_pure h⟩)) hk))
    | exact wpAny_bind (wpAny_bind (m := Builtin.Tuple.tupleExact _) (wpAny_newObj_type (wpAny_pure ⟨_, rfl, wpAny_pure h⟩) hk))
end
section
variable {X : Cx} {M : Mx} {e : Expr} {f : DEnv → R D} {p pos : Pos}
def tRevT (K : PySem.W.Frag) (te : TE) : TE := fun σ H Q => te σ H fun x H1 => ∃ a xs, x = .ref a ∧ ((SqL K H1 a xs ∧ ∀ p, H1 p = none → Q (.ref p) (upd H1 p (.lst xs.reverse))) ∨ (SqT K H1 a xs ∧ ∀ p, H1 p = none → Q (.ref p) (upd H1 p (.tup xs.reverse))))
theorem pe_revA {te : TE} {k : Nat} {p1 p2 p3 : Pos} (he : PE X e te) : PE X (.Subscript e (.Slice none none (some (.UnaryOp .USub (.Constant (.int 1) k p1) p2)) p3) pos) (tRevT X.K te) := by
  refine ⟨fun pins s σ H Q I h => ?_⟩
  refine Subscript_ (thn (he.run pins s σ H _ I h) fun v s1 hv => ?_)
  obtain ⟨x, H1, I1, r1, a, xs, ex, hx⟩ := hv
  subst ex
  cases r1
  have step : PO X (some (.UnaryOp .USub (.Constant (.int 1) k p1) p2)) (tPart (tUn (L2.rU fun i => .int (-i)) (tC (.int 1)))) := po_some (pe_un un_neg pe_int)
  refine wpAny_Slice (thn (po_none.run pins s1 σ H1 (fun o H2 => o = none ∧ H2 = H1) I1 ⟨rfl, rfl⟩) fun vl s2 hl => ?_)
  obtain ⟨l, H2, I2, pl, el, e2⟩ := hl
  subst el e2
  refine thn (po_none.run pins s2 σ H2 (fun o H3 => o = none ∧ H3 = H2) I2 ⟨rfl, rfl⟩) fun vu s3 hu => ?_
  obtain ⟨u, H3, I3, pu, eu, e3⟩ := hu
  subst eu e3
  refine thn (step.run pins s3 σ H3 (fun o H4 => o = some (-1) ∧ H4 = H3) I3 ⟨1, rfl, -1, rfl, rfl, rfl⟩) fun vs s4 hs => ?_
  obtain ⟨o, H4, I4, ps, eo, e4⟩ := hs
  subst eo e4
  have I5 : Inv X pins σ H4 { s4 with heap := s4.heap.push { cls := .type "slice", data := .fields #[vl, vu, vs] } } := I4.kept (t' := s4.toks) fun b ob q => Heap.get?_push_of_some _ q
  show wpAny (model X.prog X.w) X.A (subscriptTail e (.Slice none none (some (.UnaryOp .USub (.Constant (.int 1) k p1) p2)) p3) (.ref a) (.ref s4.heap.objs.size)) (EP X pins σ Q) X.xe { s4 with heap := s4.heap.push { cls := .type "slice", data := .fields #[vl, vu, vs] } }
  rcases hx with ⟨hx, q⟩ | ⟨hx, q⟩
  · obtain ⟨its, r, ht, hz⟩ := I5.list hx
    have hlen := r.length
    refine tail_any (ops := [.ref a, .ref s4.heap.objs.size]) ht.isList.typeIs (PySem.slot_list_getitem.lookup) ?_ (by with_unfolding_all rfl)
    refine wpAny_getItem_list_slice ht.isList (Heap.IsSliceOf.new _ vl vu vs) pl pu ps (by decide) ?_ (by rw [List.size_toArray]; omega)
    rw [PySem.W.krv_pick]
    exact ⟨.ref _, _, I5.laid (t' := s4.toks) (o := .lst xs.reverse) (fun b ob q => Heap.get?_push_of_some _ q) (Nat.le_refl _) ⟨by rw [List.length_reverse]; exact hz, _, 0, r.reverse, Heap.get?_push_size _ rfl⟩, rfl, q _ (I5.hok.fresh (Nat.le_refl _))⟩
  · obtain ⟨its, r, ht, hz⟩ := I5.tuple hx
    have hlen := r.length
    cases pl
    cases pu
    refine tail_any (ops := [.ref a, .ref s4.heap.objs.size]) ht.typeIs (PyProof.Rows.slot_tuple_getitem.lookup) ?_ (by with_unfolding_all rfl)
    refine getItem_tuple_rev ht (Heap.IsSliceOf.new _ .none .none vs) ps ?_ (by rw [List.size_toArray]; omega)
    exact ⟨.ref _, _, I5.laid (t' := s4.toks) (o := .tup xs.reverse) (fun b ob q => Heap.get?_push_of_some _ q) (Nat.le_refl _) ⟨by rw [List.length_reverse]; exact hz, _, r.reverse, IsTup.new _ _⟩, rfl, q _ (I5.hok.fresh (Nat.le_refl _))⟩
theorem RepAll.reverse {K : PySem.W.Frag} {H : Hp} : ∀ {xs : List V} {ds : List D}, RepAll K H xs ds → RepAll K H xs.reverse ds.reverse
  | _, _, .nil => .nil
  | _, _, .cons r t => by
    rw [List.reverse_cons, List.reverse_cons]
    exact (RepAll.reverse t).app (.cons r .nil)
def dRev : D → Option D
  | .list ds => some (.list ds.reverse)
  | .tuple ds => some (.tuple ds.reverse)
  | _ => none
@[simp] def revE (f : DEnv → R D) : DEnv → R D := fun σ => (f σ).bind fun d σ1 => lift (dRev d) σ1
/-- x[::-1] -/
theorem se_rev {k : Nat} {p1 p2 p3 : Pos} (hK : X.K = M.K) (he : SE X M e f) : SE X M (.Subscript e (.Slice none none (some (.UnaryOp .USub (.Constant (.int 1) k p1) p2)) p3) pos) (revE f) := by
  refine ⟨fun pins s σ H Q I ⟨σd, m, q⟩ => ?_⟩
  refine thn ((pe_revA he).run pins s σ H (fun v H' => ∃ d z σ1 H1, Ext H H1 ∧ Mt M σ1 σ H1 ∧ dRev d = some z ∧ wpR (lift (dRev d) σ1) (fun d σ2 => ∀ v H', Ext H H' → Rep M.K H' v d → Mt M σ2 σ H' → Q v H') M.W ∧
    ((∃ p ys es, v = .ref p ∧ H1 p = none ∧ H' = upd H1 p (.lst ys) ∧ RepAll M.K H1 ys es ∧ z = .list es) ∨ (∃ p ys es, v = .ref p ∧ H1 p = none ∧ H' = upd H1 p (.tup ys) ∧ RepAll M.K H1 ys es ∧ z = .tuple es))) I
    ⟨σd, m, wpR_mono (wpR_bind.mp q) fun d σ1 q1 v H1 e1 r1 m1 => ?_⟩) fun u s1 hu => ?_
  · cases r1 with
    | @lst a xs ds h1 h2 =>
      exact ⟨a, xs, rfl, .inl ⟨by rw [hK]; exact h1.sq, fun p hp => ⟨_, _, σ1, H1, e1, m1, rfl, q1, .inl ⟨p, _, _, rfl, hp, rfl, h2.reverse, rfl⟩⟩⟩⟩
    | @tup a xs ds h1 h2 =>
      exact ⟨a, xs, rfl, .inr ⟨by rw [hK]; exact h1, fun p hp => ⟨_, _, σ1, H1, e1, m1, rfl, q1, .inr ⟨p, _, _, rfl, hp, rfl, h2.reverse, rfl⟩⟩⟩⟩
    | _ => exact q1.elim
  · obtain ⟨v, H', I1, rv, d, z, σ1, H1, e1, m1, hz, q1, hh⟩ := hu
    rw [hz] at q1
    rcases hh with ⟨p, ys, es, rfl, hp, rfl, ra, rfl⟩ | ⟨p, ys, es, rfl, hp, rfl, ra, rfl⟩
    · obtain ⟨od, I2⟩ := I1.lock (d := p) (u := .lst ys) upd_same trivial
      rw [upd_upd] at I2
      have s2 : Same H1 (upd H1 p (.frz od (.lst ys))) := same_upd hp
      exact ⟨.ref p, _, I2, rv, q1 _ _ (e1.trans (Ext.same s2)) (.lst (.inl ⟨od, upd_same⟩) (ra.ext (Ext.same s2))) (m1.same s2)⟩
    · have s2 : Same H1 (upd H1 p (.tup ys)) := same_upd hp
      exact ⟨.ref p, _, I1, rv, q1 _ _ (e1.trans (Ext.same s2)) (.tup (SqT.of upd_same) (ra.ext (Ext.same s2))) (m1.same s2)⟩

/-! ### methods of lists -/
/-- x.m(e, ..), x a list; the answer a datum -/
@[simp] def metL (r : List D → List D → Option D) (f : DEnv → R D) (fs : DEnv → R (List D)) : DEnv → R D := fun σ => (f σ).bind fun d σ1 => match d with
  | .list es => (fs σ1).bind fun ds σ2 => lift (r es ds) σ2
  | _ => .bad
abbrev MtD (X : Cx) (id : String) (r : List D → List D → Option D) : Prop := MtR X id (fun x xs H Q => ∃ a ys es ds z, x = .ref a ∧ FzL X.K H a ys ∧ RepAll X.K H ys es ∧ RepAll X.K H xs ds ∧ r es ds = some z ∧ ∀ v H', Same H H' → Rep X.K H' v z → Q v H')
theorem se_metL {o e : Expr} {es : List Expr} {f : DEnv → R D} {fs : DEnv → R (List D)} {name : Str} {apos cpos : Pos} {id : String} {r : List D → List D → Option D} (hK : X.K = M.K) (slot : Slot "list" name id) (hty : typeOf (.builtin id) = pure (.type "method_descriptor")) (hm : MtD X id r) (ho : SE X M o f) (ha : SA X M (e :: es) fs)
    (hbase : attributeBase o name X.env (eval o X.env) = eval o X.env := by rfl)
    (hfew : ((backTo cpos (starEach (e :: es) X.env)).all (fun x => !x.1) && (backToKw cpos (keywordEach [] X.env)).all (fun x => x.1.isSome)
      && decide ((e :: es).length + ([] : List Keyword).length + (if ([] : List Keyword).isEmpty then 0 else 1) < 30)) = true := by rfl)
    (hline : (apos.endLine == cpos.line) = true := by rfl) (hs : starEach (e :: es) X.env = (false, eval e X.env) :: starEach es X.env := by rfl) (hplain : (backTo cpos (starEach es X.env)).any (·.1) = false := by rfl) :
    SE X M (.Call (.Attribute o name apos) (e :: es) [] cpos) (metL r f fs) :=
  PE.weak (pe_bm PySem.F.plainAttrs_list slot hty hm ho ha hbase hfew hline hs hplain) fun σ H Q ⟨σd, m, q⟩ => ⟨σd, m, wpR_mono (wpR_bind.mp q) fun d σ1 q1 v H1 e1 r1 m1 => by
    cases r1 with
    | @lst a xs ds h1 h2 =>
      refine ⟨.inl ⟨rfl, xs, by rw [hK]; exact h1.sq⟩, σ1, m1, wpR_mono (wpR_bind.mp q1) fun es σ2 q2 vs H2 e2 r2 m2 => ?_⟩
      obtain ⟨z, hz, q3⟩ := wpR_lift.mp q2
      exact ⟨a, xs, ds, es, z, rfl, by rw [hK]; exact h1.mono e2, by rw [hK]; exact h2.ext e2, by rw [hK]; exact r2, hz, fun u H3 s3 r3 => q3 u H3 (e1.trans (e2.trans (Ext.same s3))) (by rw [← hK]; exact r3) (m2.same s3)⟩
    | _ => exact q1.elim⟩
end
end PL
set_option Elab.async false
set_option linter.all false
set_option maxRecDepth 100000
set_option maxHeartbeats 1000000
set_option autoImplicit false
/-! Methods of lists; comprehensions of two clauses, the rules; new lists by calls. -/
namespace PL
open PySem PySem.Spec PyProof.Rows L2
section
variable {X : Cx} {M : Mx}
def mCount (es : List D) : List D → Option D
  | [d] => if SeqAt.shaped d = true ∧ SeqAt.shaped (.list es) = true then some (.int (es.countP fun y => PyData.eqv y d : Nat)) else none
  | _ => none
theorem countP_map {α β : Type} (p : β → Bool) (g : α → β) : ∀ l : List α, l.countP (fun a => p (g a)) = (l.map g).countP p := fun l => by
  rw [List.countP_map]; rfl
theorem md_count (hu : X.A.units + 65 < cLine) : MtD X "list.count" mCount := by
  intro pins s σ H x xs v us Q I rx rxs ⟨a, ys, es, ds, z, ex, h1, h2, h3, hz, q⟩
  subst ex
  cases rx
  unfold mCount at hz
  split at hz
  · rename_i d
    split at hz
    · rename_i hsh
      cases hz
      cases h3 with
      | cons r1 r2 =>
        cases r2
        cases rxs with
        | cons ry rt =>
          rename_i uy ut
          cases rt
          obtain ⟨bs, g1⟩ := Dp.reads I d _ uy (r1.dp _ _) ry
          have hxs : PyData.canLayAll0 es = true := SeqAt.canLay_of_shaped hsh.2
          have hroom : X.A.units + 1 + min (PyData.depthAll es) d.depth < cLine := room_in_shaped hsh.1 hu
          obtain ⟨its, rv, ⟨⟨cls, dd, data, sls⟩, n, ho, hc, hdn, hdt⟩, hlen⟩ := I.list h1.sq
          simp only at hc hdn hdt
          subst hc hdt
          obtain ⟨as, h4⟩ := Dp.readsAll I es _ its (h2.dp _ _) rv
          have hmap : its.map (SeqAt.readOf s.heap) = es := SeqAt.readsAll_map es its as hxs h4
          refine call_meets PySem.F.slot_list_count ⟨_, ho, rfl⟩ PySem.F.entry_list_count (PySem.F.args_list_count_2 _ _)
            (SeqAt.list_countAt a its.toArray n dd sls uy (fun u => PyData.eqv (SeqAt.readOf s.heap u) d)) ⟨ho, SeqAt.items_eqAt (vs := its.toArray) (show ReadsAll s.heap its.toArray.toList es as from h4) g1 hxs (SeqAt.canLay_of_shaped hsh.1) hroom, ?_⟩
          have ec : its.toArray.toList.countP (fun u => PyData.eqv (SeqAt.readOf s.heap u) d) = es.countP fun y => PyData.eqv y d := by
            rw [← hmap]
            show its.countP _ = _
            exact countP_map (fun y => PyData.eqv y d) (SeqAt.readOf s.heap) its
          refine ⟨.int (es.countP fun y => PyData.eqv y d : Nat), H, I.tok _, ⟨s.toks, ?_⟩, q _ H (Same.refl _) (.int _)⟩
          rw [ec]
    · cases hz
  · cases hz
/-- the first place -/
def idxD (d : D) : List D → Option Nat
  | [] => none
  | y :: ys => if PyData.eqv y d = true then some 0 else (idxD d ys).map (· + 1)
theorem idxD_spec {d : D} : ∀ {ys : List D} {j : Nat}, idxD d ys = some j → ∃ z, ys[j]? = some z ∧ PyData.eqv z d = true ∧ ∀ (m : Nat) (z' : D), m < j → ys[m]? = some z' → PyData.eqv z' d = false
  | [], _, h => by cases h
  | y :: ys, j, h => by
    unfold idxD at h
    split at h
    · rename_i e
      cases h
      exact ⟨y, rfl, e, fun m z' hm => absurd hm (Nat.not_lt_zero _)⟩
    · rename_i e
      simp only [Option.map_eq_some_iff] at h
      obtain ⟨i, h1, rfl⟩ := h
      obtain ⟨z, g1, g2, g3⟩ := idxD_spec h1
      refine ⟨z, by simpa using g1, g2, fun m z' hm hz => ?_⟩
      cases m with
      | zero =>
        simp at hz
        subst hz
        simpa using e
      | succ m => exact g3 m z' (by omega) (by simpa using hz)
def mIndex (es : List D) : List D → Option D
  | [d] => if SeqAt.shaped d = true ∧ SeqAt.shaped (.list es) = true then (idxD d es).map fun j => .int (j : Nat) else none
  | _ => none
theorem md_index (hu : X.A.units + 65 < cLine) : MtD X "list.index" mIndex := by
  intro pins s σ H x xs v us Q I rx rxs ⟨a, ys, es, ds, z, ex, h1, h2, h3, hz, q⟩
  subst ex
  unfold mIndex at hz
  split at hz
  · rename_i d
    split at hz
    · rename_i hsh
      simp only [Option.map_eq_some_iff] at hz
      obtain ⟨j, hj, rfl⟩ := hz
      obtain ⟨w, g1, g2, g3⟩ := idxD_spec hj
      cases h3 with
      | cons r1 r2 =>
        cases r2
        refine mt_indexD hu pins s σ H _ _ v us Q I rx rxs ⟨a, _, d, es, j, w, rfl, rfl, ?_, r1.dp _ _, hsh.2, hsh.1, g1, g2, g3, q _ H (Same.refl _) (.int _)⟩
        exact (Rep.lst h1 h2).dp _ _
    · cases hz
  · cases hz

/-! ### new lists by calls -/
@[simp] def newF (r : List D → Option (List D)) (fs : DEnv → R (List D)) : DEnv → R (List D) := fun σ => (fs σ).bind fun ds σ1 => lift (r ds) σ1
abbrev NewR (X : Cx) (fv : Value) (r : List D → Option (List D)) : Prop := CallR X fv (fun xs H Q => ∃ ds z, RepAll X.K H xs ds ∧ r ds = some z ∧ ∀ p ys H', Same H H' → H' p = none → RepAll X.K H' ys z → Q (.ref p) (upd H' p (.lst ys)))
theorem tCB_new {K : PySem.W.Frag} {r : List D → Option (List D)} {fs : DEnv → R (List D)} {σ : L2.St} {H : Hp} {Q : VK} (hK : K = M.K) (h : tF M (newF r fs) σ H Q) :
    tCB (fun xs H Q => ∃ ds z, RepAll K H xs ds ∧ r ds = some z ∧ ∀ p ys H', Same H H' → H' p = none → RepAll K H' ys z → Q (.ref p) (upd H' p (.lst ys))) (tA M fs) σ H Q := by
  subst hK
  obtain ⟨σd, m, q⟩ := h
  refine ⟨σd, m, wpR_mono (wpR_bind.mp q) fun ds σ1 q1 xs H1 e1 r1 m1 => ?_⟩
  obtain ⟨z, hz, q2⟩ := wpR_lift.mp q1
  refine ⟨ds, z, r1, hz, fun p ys H2 s2 hp ra => ?_⟩
  have s3 : Same H2 (upd H2 p (.lst ys)) := same_upd hp
  exact q2 p ys _ (e1.trans ((Ext.same s2).trans (Ext.same s3))) upd_same (ra.ext (Ext.same s3)) ((m1.same s2).same s3) ((m1.same s2).fresh hp)
variable {e : Expr} {es : List Expr} {fs : DEnv → R (List D)} {x : Str} {p pos : Pos} {id T : String} {r : List D → Option (List D)}
theorem sf_callB (hK : X.K = M.K) (hc : NewR X (.builtin id) r) (hg : Gl X x) (hm : X.mg x = none) (hv : bootBuiltins x = some (.builtin id)) (ha : SA X M (e :: es) fs) (hn : x ≠ "__name__" := by decide) (hdb : (x == ("__debug__" : Str)) = false := by decide)
    (he : starEach (e :: es) X.env = (false, eval e X.env) :: starEach es X.env := by rfl) (hpl : (backTo pos (starEach es X.env)).any (·.1) = false := by rfl) : SF X M (.Call (.Name x p) (e :: es) [] pos) (newF r fs) :=
  PE.weak (pe_callB hc hg hm hv ha hn hdb he hpl) fun σ H Q h => tCB_new hK h
theorem sf_callTy (hK : X.K = M.K) (hc : NewR X (.type T) r) (hg : Gl X x) (hm : X.mg x = none) (hv : bootBuiltins x = some (.type T)) (ha : SA X M (e :: es) fs) (hn : x ≠ "__name__" := by decide) (hdb : (x == ("__debug__" : Str)) = false := by decide)
    (he : starEach (e :: es) X.env = (false, eval e X.env) :: starEach es X.env := by rfl) (hpl : (backTo pos (starEach es X.env)).any (·.1) = false := by rfl) : SF X M (.Call (.Name x p) (e :: es) [] pos) (newF r fs) :=
  PE.weak (pe_callTy hc hg hm hv ha hn hdb he hpl) fun σ H Q h => tCB_new hK h
end

section
variable {X : Cx} {M : Mx} {elt tg it tg1 it1 : Expr} {ifs ifs1 : List Expr} {scope : Scope} {own : List (Str × Nat)} {pos spos py : Pos} {is is1 vs1 : List Nat} {src src1 : DEnv → R (List D)} {g g1 : D → DEnv → Option DEnv} {t t1 : DEnv → R Bool} {f : DEnv → R D}
/-- what the clauses are over -/
structure Lc2 (X : Cx) (M : Mx) (elt tg it tg1 it1 : Expr) (ifs ifs1 : List Expr) (scope : Scope) (own : List (Str × Nat)) (is is1 vs1 : List Nat) (src src1 : DEnv → R (List D)) (g g1 : D → DEnv → Option DEnv) (t t1 : DEnv → R Bool) (f : DEnv → R D) : Prop where
  hi : SI X M tg it src
  ok : BlkOk X.N X.env.scope scope own
  hok : lcOk M (own.map (·.2))
  his : ∀ i ∈ is, i ∈ own.map (·.2)
  hok1 : lcOk M vs1
  his1 : ∀ i ∈ is1, i ∈ vs1
  sub : ∀ i ∈ vs1, i ∈ own.map (·.2)
  hg : ∀ (H0 : Hp) (s : Shared) (H : Hp) (C : Addr) (cl : List (Str × Addr)) (fp : List Addr), SG (X.blk s H scope (compEnvC scope cl C X.env) fp) (M.blk H0) is tg g
  ht : ∀ (H0 : Hp) (s : Shared) (H : Hp) (C : Addr) (cl : List (Str × Addr)) (fp : List Addr), STs (X.blk s H scope (compEnvC scope cl C X.env) fp) (M.blk H0) ifs t
  hi1 : ∀ (H0 : Hp) (s : Shared) (H : Hp) (C : Addr) (cl : List (Str × Addr)) (fp : List Addr), SI (X.blk s H scope (compEnvC scope cl C X.env) fp) (M.blk H0) tg1 it1 src1
  hg1 : ∀ (H0 : Hp) (s : Shared) (H : Hp) (C : Addr) (cl : List (Str × Addr)) (fp : List Addr), SG (X.blk s H scope (compEnvC scope cl C X.env) fp) (M.blk H0) is1 tg1 g1
  ht1 : ∀ (H0 : Hp) (s : Shared) (H : Hp) (C : Addr) (cl : List (Str × Addr)) (fp : List Addr), STs (X.blk s H scope (compEnvC scope cl C X.env) fp) (M.blk H0) ifs1 t1
  he : ∀ (H0 : Hp) (s : Shared) (H : Hp) (C : Addr) (cl : List (Str × Addr)) (fp : List Addr), SE (X.blk s H scope (compEnvC scope cl C X.env) fp) (M.blk H0) elt f
theorem sf_lc2 (hc : X.calm = true) (hN : X.N.Nodup) (L : Lc2 X M elt tg it tg1 it1 ifs ifs1 scope own is is1 vs1 src src1 g g1 t t1 f) (hs : ∀ x, foldedSetIterable it X.env x = pure x := by intro _; rfl) (hs1 : ∀ env x, foldedSetIterable it1 env x = pure x := by intro _ _; rfl) :
    SF X M (.ListComp elt [⟨tg, it, ifs, 0⟩, ⟨tg1, it1, ifs1, 0⟩] scope pos) (lc2 (own.map (·.2)) vs1 src g t src1 g1 t1 f) :=
  PE.weak (pe_lc2 (g := fun v σ H Q => ∃ H0, gD (M.blk H0) is g v σ H Q) (tt := fun σ H Q => ∃ H0, tT (M.blk H0) t σ H Q) (wi1 := fun σ H Q => ∃ H0, iD (M.blk H0) src1 σ H Q) (g1 := fun v σ H Q => ∃ H0, gD (M.blk H0) is1 g1 v σ H Q) (tt1 := fun σ H Q => ∃ H0, tT (M.blk H0) t1 σ H Q) (te := fun σ H Q => ∃ H0, tE (M.blk H0) f σ H Q) hc hN L.hi L.ok L.sub
    (fun s H C cl fp => ⟨fun pins s' σ H' v u Q I r ⟨H0, q⟩ => (L.hg H0 s H C cl fp).run pins s' σ H' v u Q I r q⟩)
    (fun s H C cl fp => ⟨fun pins s' σ H' Q I ⟨H0, q⟩ => (L.ht H0 s H C cl fp).run pins s' σ H' Q I q⟩)
    (fun s H C cl fp => ⟨fun pins s' σ H' Q I ⟨H0, q⟩ => (L.hi1 H0 s H C cl fp).run pins s' σ H' Q I q⟩)
    (fun s H C cl fp => ⟨fun pins s' σ H' v u Q I r ⟨H0, q⟩ => (L.hg1 H0 s H C cl fp).run pins s' σ H' v u Q I r q⟩)
    (fun s H C cl fp => ⟨fun pins s' σ H' Q I ⟨H0, q⟩ => (L.ht1 H0 s H C cl fp).run pins s' σ H' Q I q⟩)
    (fun s H C cl fp => ⟨fun pins s' σ H' Q I ⟨H0, q⟩ => (L.he H0 s H C cl fp).run pins s' σ H' Q I q⟩) hs hs1)
    fun σ H Q h => tLc2_of L.hok L.his L.hok1 L.his1 L.sub (fun _ _ _ z => z) (fun H0 _ _ _ _ z => ⟨H0, z⟩) (fun H0 _ _ _ z => ⟨H0, z⟩) (fun H0 _ _ _ z => ⟨H0, z⟩) (fun H0 _ _ _ _ z => ⟨H0, z⟩) (fun H0 _ _ _ z => ⟨H0, z⟩) (fun H0 _ _ _ z => ⟨H0, z⟩) h
theorem ss_setLc2 {i : Nat} {y : Str} (hc : X.calm = true) (hN : X.N.Nodup) (hy : X.N[i]? = some y) (hyl : X.env.scope.names.lookup y = some .local)
    (hsw : swapsWith (.ListComp elt [⟨tg, it, ifs, 0⟩, ⟨tg1, it1, ifs1, 0⟩] scope pos) (some (.Name y py)) spos.line X.env = pure true) (L : Lc2 X M elt tg it tg1 it1 ifs ifs1 scope own is is1 vs1 src src1 g g1 t t1 f) (hs : ∀ x, foldedSetIterable it X.env x = pure x := by intro _; rfl) (hs1 : ∀ env x, foldedSetIterable it1 env x = pure x := by intro _ _; rfl) :
    SS X M (.Assign [.Name y py] (.ListComp elt [⟨tg, it, ifs, 0⟩, ⟨tg1, it1, ifs1, 0⟩] scope pos) spos) (fun σ => (lc2 (own.map (·.2)) vs1 src g t src1 g1 t1 f σ).thn (setF i)) :=
  PS.weak (ps_setLc2 (g := fun v σ H Q => ∃ H0, gD (M.blk H0) is g v σ H Q) (tt := fun σ H Q => ∃ H0, tT (M.blk H0) t σ H Q) (wi1 := fun σ H Q => ∃ H0, iD (M.blk H0) src1 σ H Q) (g1 := fun v σ H Q => ∃ H0, gD (M.blk H0) is1 g1 v σ H Q) (tt1 := fun σ H Q => ∃ H0, tT (M.blk H0) t1 σ H Q) (te := fun σ H Q => ∃ H0, tE (M.blk H0) f σ H Q) hc hN hy hyl hsw L.hi L.ok L.sub
    (fun s H C cl fp => ⟨fun pins s' σ H' v u Q I r ⟨H0, q⟩ => (L.hg H0 s H C cl fp).run pins s' σ H' v u Q I r q⟩)
    (fun s H C cl fp => ⟨fun pins s' σ H' Q I ⟨H0, q⟩ => (L.ht H0 s H C cl fp).run pins s' σ H' Q I q⟩)
    (fun s H C cl fp => ⟨fun pins s' σ H' Q I ⟨H0, q⟩ => (L.hi1 H0 s H C cl fp).run pins s' σ H' Q I q⟩)
    (fun s H C cl fp => ⟨fun pins s' σ H' v u Q I r ⟨H0, q⟩ => (L.hg1 H0 s H C cl fp).run pins s' σ H' v u Q I r q⟩)
    (fun s H C cl fp => ⟨fun pins s' σ H' Q I ⟨H0, q⟩ => (L.ht1 H0 s H C cl fp).run pins s' σ H' Q I q⟩)
    (fun s H C cl fp => ⟨fun pins s' σ H' Q I ⟨H0, q⟩ => (L.he H0 s H C cl fp).run pins s' σ H' Q I q⟩) hs hs1)
    fun D σ H ⟨σd, m, q⟩ => tLc2_of L.hok L.his L.hok1 L.his1 L.sub (fun _ _ _ z => z) (fun H0 _ _ _ _ z => ⟨H0, z⟩) (fun H0 _ _ _ z => ⟨H0, z⟩) (fun H0 _ _ _ z => ⟨H0, z⟩) (fun H0 _ _ _ _ z => ⟨H0, z⟩) (fun H0 _ _ _ z => ⟨H0, z⟩) (fun H0 _ _ _ z => ⟨H0, z⟩) ⟨σd, m, wpR_mono (wpR_thn q) fun ds σ1 q1 p xs H1 e1 hp ra m1 fr => wpO_setF q1 e1 hp ra m1 fr⟩
end
end PL
set_option Elab.async false
set_option linter.all false
set_option maxRecDepth 100000
set_option maxHeartbeats 2000000
set_option autoImplicit false
/-! list(reversed(x)), x a list. -/
namespace PL
open PySem PySem.Spec PyProof.Rows L2 RT
section
variable {prog : Program} {w : World} {A : Around} {s : Shared} {R : Result → Shared → Prop} {it l : Addr} {items : Array Value}
theorem extend_rv (hnd : A.in1.handled = none) (hi : s.heap.IsRevIter it l ((items.size : Int) - 1)) (hli : s.heap.IsList l items) (hne : l ≠ it) (hn : items.size ≤ sizeLine) (Z : Addr) (res : Value) (c0 : Nat) (hZi : Z ≠ it) (hZl : Z ≠ l)
    (hZ : s.heap.get? Z = some { cls := .type "list", data := .seq #[] c0 })
    (fin : ∀ (s' : Shared) (acc : Array Value) (c' : Nat), (∀ b o, b ≠ it → b ≠ Z → s.heap.get? b = some o → s'.heap.get? b = some o) → s' = { s with heap := s'.heap, toks := s'.toks } → s'.heap.get? Z = some { cls := .type "list", dict := none, data := .seq acc c', slots := #[] } → ItemsOf (fun i v => items[items.size - 1 - i]? = some v) acc items.size → R (.ok (.ret res)) s') :
    wpAny (model prog w) A.in1 (Builtin.List.listExtendWith (.ref Z) (.ref it) res)
      (fun fl s' => match fl with | .done f => R (.ok f) s' | .again c' => c'.quiet = true ∧ codeAny (model prog w) A c' R s') (fun e s' => R (.error e) s') s := by
  have WW := (Walks.listRev (prog := prog) (w := w) (A := A.in1) hnd it l hne items).toS
  have nin : Z ∉ [it, l] := by
    intro z
    rcases List.mem_cons.mp z with z | z
    · exact hZi z
    · exact hZl (List.mem_singleton.mp z)
  have tyI : s.TypeIs (.ref it) "list_reverseiterator" := Heap.IsRevIter.typeIs (s := s) hi
  have same0 : Builtin.List.listSameRef (.ref Z) (.ref it) = false := by
    simp [Builtin.List.listSameRef, hZi]
  have n1 : (Value.type "list_reverseiterator" == Value.type "list") = false := by decide
  have n2 : (Value.type "list_reverseiterator" == Value.type "tuple") = false := by decide
  unfold Builtin.List.listExtendWith
  refine wpAny_bind (wpAny_typeOf tyI ?_)
  simp only [same0, n1, n2, Bool.or_false, Bool.false_eq_true, if_false]
  refine wpAny_bind (wpAny_pyIter_revIter (s := s) hi ?_)
  refine wpAny_bind (wpAny_holding ?_)
  unfold Builtin.List.listLengthHint
  refine wpAny_bind (wpAny_specialOf tyI nolen_lri ?_)
  show wpAny _ A.in1 (specialOf (Value.ref it) (Str.ofString "__length_hint__") >>= _) _ _ _
  refine wpAny_bind (wpAny_specialOf tyI hint_lri ?_)
  generalize hid : ("list_reverseiterator.__length_hint__" : String) = idz
  wp_delta
  rw [show splitId idz = some ("list_reverseiterator", "__length_hint__") from by subst hid; decide +kernel]
  subst hid
  refine wpAny_bind (wpAny_isInstance (b := true) tyI (by rw [isSubtype_type]; kernel_rfl) ?_)
  refine wpAny_pure ?_
  rw [if_neg (by decide)]
  have z0 : (items.size : Int) - 1 - ((0 : Nat) : Int) = (items.size : Int) - 1 := by omega
  refine wpAny_pure ⟨plainId_quiet F.plain_extend_loop _, codeAny_extend_loopS WW hn _ nin _ items.size 0 _ _ _ rfl (Nat.zero_le _) ⟨Nat.zero_le _, by rw [z0]; exact hi, hli⟩ hZ (ItemsOf.nil _) fun s' acc c' hm hS' hacc => ?_⟩
  refine fin s' acc c' (fun b o nb nz e => hm.heap b o (fun hmem => ?_) e) (Moved.eq_with hm) hS' hacc
  rcases List.mem_cons.mp hmem with e' | hmem
  · exact nz e'
  · exact nb (List.mem_singleton.mp hmem)
theorem init_rv (hnd : A.in1.handled = none) (hi : s.heap.IsRevIter it l ((items.size : Int) - 1)) (hli : s.heap.IsList l items) (hne : l ≠ it) (hn : items.size ≤ sizeLine) (Z : Addr) (hZi : Z ≠ it) (hZl : Z ≠ l)
    (hZ : s.heap.get? Z = some { cls := .type "list", data := .seq #[] })
    (fin : ∀ (s' : Shared) (acc : Array Value) (c' : Nat), (∀ b o, b ≠ it → b ≠ Z → s.heap.get? b = some o → s'.heap.get? b = some o) → s' = { s with heap := s'.heap, toks := s'.toks } → s'.heap.get? Z = some { cls := .type "list", dict := none, data := .seq acc c', slots := #[] } → ItemsOf (fun i v => items[items.size - 1 - i]? = some v) acc items.size → R (.ok (.ret .none)) s') :
    wpAny (model prog w) A.in1 (Builtin.«list.__init__» ⟨[.ref Z, .ref it], []⟩)
      (fun fl s' => match fl with | .done f => R (.ok f) s' | .again c' => c'.quiet = true ∧ codeAny (model prog w) A c' R s') (fun e s' => R (.error e) s') s := by
  show wpAny _ A.in1 (do let had ← Builtin.List.listItems (.ref Z); Builtin.List.listUpdate (.ref Z) (fun _ => #[]); letGo had.toList.reverse; Builtin.List.listExtendWith (.ref Z) (.ref it) .none) _ _ s
  refine wpAny_bind ?_
  unfold Builtin.List.listItems
  refine wpAny_bind (wpAny_seqItems hZ rfl (wpAny_pure ?_))
  show wpAny _ A.in1 (updateSeq Z (fun _ => #[]) >>= fun _ => letGo (#[] : Array Value).toList.reverse >>= fun _ => Builtin.List.listExtendWith (.ref Z) (.ref it) .none) _ _ s
  refine wpAny_bind (wpAny_updateSeq hZ rfl ?_)
  have hZ2 := Heap.get?_update_self (Obj.mapSeq (fun _ => (#[] : Array Value))) hZ rfl
  have elsewhere : ∀ b o, b ≠ Z → s.heap.get? b = some o → (s.heap.update Z (Obj.mapSeq (fun _ => (#[] : Array Value)))).get? b = some o :=
    fun b o nb e => (Heap.get?_update_other _ _ (Ne.symm nb)).trans e
  refine wpAny_bind (wpAny_letGo ?_)
  refine extend_rv (s := { s with heap := s.heap.update Z (Obj.mapSeq (fun _ => (#[] : Array Value))) }) hnd (hi.at fun o e => elsewhere _ _ (Ne.symm hZi) e) (hli.at fun o e => elsewhere _ _ (Ne.symm hZl) e) hne hn Z .none _ hZi hZl hZ2 fun s' acc c' k1 k2 k3 k4 => fin s' acc c' (fun b o nb nz e => k1 b o nb nz (elsewhere _ _ nz e)) ?_ k3 k4
  rw [k2]
theorem call_list_rv {E : Value → Shared → Prop} {Q : Value → Shared → Prop} (hnd : A.handled = none) (hi : s.heap.IsRevIter it l ((items.size : Int) - 1)) (hli : s.heap.IsList l items) (hne : l ≠ it) (hn : items.size ≤ sizeLine)
    (fin : ∀ (s' : Shared) (acc : Array Value) (c' : Nat), (∀ b o, b ≠ it → s.heap.get? b = some o → s'.heap.get? b = some o) → s' = { s with heap := s'.heap, toks := s'.toks } → s'.heap.get? s.heap.objs.size = some { cls := .type "list", dict := none, data := .seq acc c', slots := #[] } → ItemsOf (fun i v => items[items.size - 1 - i]? = some v) acc items.size → Q (.ref s.heap.objs.size) s') :
    wpAny (model prog w) A (call (.type "list") [.ref it]) Q E s := by
  obtain ⟨oi, hoi, _⟩ := id hi
  obtain ⟨ol, hol, _⟩ := id hli
  have hZi : s.heap.objs.size ≠ it := Nat.ne_of_gt (Heap.lt_size hoi)
  have hZl : s.heap.objs.size ≠ l := Nat.ne_of_gt (Heap.lt_size hol)
  refine callType_codes (Q₁ := fun ob sh => ob = .ref s.heap.objs.size ∧ sh = { s with heap := s.heap.push { cls := .type "list", data := .seq #[] } }) F.called_list (F.typeCall_list_1 _) F.entry_list_init
    (code_list_new _ ⟨rfl, rfl⟩) fun ob sh h1 => ?_
  obtain ⟨rfl, rfl⟩ := h1
  have hZ : (s.heap.push { cls := .type "list", data := .seq #[] }).get? s.heap.objs.size = some { cls := .type "list", data := .seq #[] } := Heap.get?_push_size _ rfl
  refine ⟨⟨_, hZ, rfl⟩, F.args_list_init_2 _ _, init_rv (s := { s with heap := s.heap.push { cls := .type "list", data := .seq #[] } }) (A := A.in1) hnd (hi.at fun o e => Heap.get?_push_of_some _ e) (hli.push _) hne hn _ hZi hZl hZ fun s' acc c' k1 k2 k3 k4 => ?_⟩
  refine ⟨rfl, fin s' acc c' (fun b o nb e => k1 b o nb (fun z => ?_) (Heap.get?_push_of_some _ e)) (by rw [k2]) k3 k4⟩
  subst z
  exact absurd (Heap.lt_size e) (Nat.lt_irrefl _)
end
section
variable {X : Cx} {M : Mx}
def tLstRev (K : PySem.W.Frag) (te : TE) : TE := fun σ H Q => te σ H fun v H1 => ∃ (a : Addr) (xs : List V), v = .ref a ∧ SqL K H1 a xs ∧ ∀ q, H1 q = none → Q (.ref q) (upd H1 q (.lst xs.reverse))
theorem pe_lstRev {e : Expr} {te : TE} {p p2 pos pos2 : Pos} (hc : X.calm = true) (hg : Gl X "list") (hm : X.mg "list" = none) (hg2 : Gl X "reversed") (hm2 : X.mg "reversed" = none) (he : PE X e te)
    (hs : starEach [e] X.env = (false, eval e X.env) :: starEach [] X.env := by rfl)
    (hs2 : starEach [.Call (.Name "reversed" p2) [e] [] pos2] X.env = (false, eval (.Call (.Name "reversed" p2) [e] [] pos2) X.env) :: starEach [] X.env := by rfl) :
    PE X (.Call (.Name "list" p) [.Call (.Name "reversed" p2) [e] [] pos2] [] pos) (tLstRev X.K te) := by
  refine ⟨fun pins s σ H Q I h => ?_⟩
  refine Call_ (ld_blt I hg hm boot_list (PyProof.Rows.callWith_type1 (args_cons (Call_ (ld_blt I hg2 hm2 PyProof.Rows.boot_reversed (PyProof.Rows.callWith_type1 (args_cons (thn (he.run pins s σ H _ I h) fun u s1 ⟨v, H1, I1, r1, q1⟩ => args_nil ?_) hs) hs rfl))) hs2) hs2 rfl))
  obtain ⟨a, xs, rfl, hq, q⟩ := q1
  obtain rfl : u = Value.ref a := r1
  obtain ⟨its, rv, pl, hz⟩ := I1.list hq
  refine call_reversed_list pl.isList (args_nil ?_)
  have up0 : ∀ b o, s1.heap.get? b = some o → (s1.heap.push (revObj a ((its.toArray.size : Int) - 1))).get? b = some o := fun b o e => Heap.get?_push_of_some _ e
  have I2 : Inv X pins σ H1 { s1 with heap := s1.heap.push (revObj a ((its.toArray.size : Int) - 1)) } := I1.kept (t' := s1.toks) up0
  obtain ⟨g0, g1, g2, g3, g4, g5⟩ := I1.fpOk (H' := H1) (b := s1.heap.objs.size) (Nat.le_refl _) (I1.hok.fresh (Nat.le_refl _))
  obtain ⟨ol, hol, _⟩ := id pl.isList
  have hne : a ≠ s1.heap.objs.size := Nat.ne_of_lt (Heap.lt_size hol)
  have hn : its.toArray.size ≤ sizeLine := by
    rw [List.size_toArray, ← rv.length]; exact hz
  refine call_list_rv (s := { s1 with heap := s1.heap.push (revObj a ((its.toArray.size : Int) - 1)) }) (I1.ok.hd hc) ⟨_, Heap.get?_push_size _ rfl, rfl, rfl⟩ (pl.isList.push _) hne hn fun s' acc c' k1 k2 k3 k4 => ?_
  have size1 : (s1.heap.push (revObj a ((its.toArray.size : Int) - 1))).objs.size = s1.heap.objs.size + 1 := by simp [Heap.push]
  have keep : ∀ b o, s1.heap.get? b = some o → s'.heap.get? b = some o := fun b o e => k1 b o (Nat.ne_of_lt (Heap.lt_size e)) (up0 b o e)
  have far : s1.heap.objs.size ≤ (s1.heap.push (revObj a ((its.toArray.size : Int) - 1))).objs.size := by rw [size1]; exact Nat.le_succ _
  have I3 := I1.laid (h' := s'.heap) (t' := s'.toks) keep far (show ObjOk X.prog X.w _ _ _ (.lst xs.reverse) from ⟨by rw [List.length_reverse]; exact hz, acc.toList, c', vals_rev rv k4, by rw [Array.toArray_toList]; exact k3⟩)
  refine ⟨.ref _, _, ?_, rfl, q _ (I1.hok.fresh far)⟩
  rw [k2]
  exact I3
/-- .. over data -/
@[simp] def newRev (f : DEnv → R D) : DEnv → R (List D) := fun σ => (f σ).bind fun d σ1 => match d with
  | .list ds => .ok ds.reverse σ1
  | _ => .bad
theorem sf_listRev {e : Expr} {f : DEnv → R D} {p p2 pos pos2 : Pos} (hK : X.K = M.K) (hc : X.calm = true) (hg : Gl X "list") (hm : X.mg "list" = none) (hg2 : Gl X "reversed") (hm2 : X.mg "reversed" = none) (he : SE X M e f)
    (hs : starEach [e] X.env = (false, eval e X.env) :: starEach [] X.env := by rfl)
    (hs2 : starEach [.Call (.Name "reversed" p2) [e] [] pos2] X.env = (false, eval (.Call (.Name "reversed" p2) [e] [] pos2) X.env) :: starEach [] X.env := by rfl) :
    SF X M (.Call (.Name "list" p) [.Call (.Name "reversed" p2) [e] [] pos2] [] pos) (newRev f) :=
  PE.weak (pe_lstRev hc hg hm hg2 hm2 he hs hs2) fun σ H Q ⟨σd, m, q⟩ => ⟨σd, m, wpR_mono (wpR_bind.mp q) fun d σ1 q1 v H1 e1 r1 m1 => by
    cases r1 with
    | @lst a xs ds h1 h2 =>
      refine ⟨a, xs, rfl, by rw [hK]; exact h1.sq, fun p hp => ?_⟩
      have sm : Same H1 (upd H1 p (.lst xs.reverse)) := same_upd hp
      exact q1 p _ _ (e1.trans (Ext.same sm)) upd_same (h2.rev.ext (Ext.same sm)) (m1.same sm) (m1.fresh hp)
    | _ => exact q1.elim⟩
end
end PL
set_option Elab.async false
set_option linter.all false
set_option maxRecDepth 100000
set_option maxHeartbeats 2000000
set_option autoImplicit false
/-! enumerate(x), x a list or a tuple; zip; range with a step; stars; extend. -/
namespace PL
open PySem PySem.Spec PyProof.Rows L2 StX RZ
theorem new_enum1 {v : Value} {o : Obj} {H : Heap → Prop} (B : Begins v o H) :
    Meets (Builtin.«enumerate.__new__» ⟨[.type "enumerate", v], []⟩) (fun _ R s => H s.heap ∧
      R (.ok (.ret (.ref (s.heap.push o).objs.size))) { s with heap := (s.heap.push o).push { cls := .type "enumerate", data := .fields #[.none, .bool false, .ref s.heap.objs.size, rawInt 0, .none, .none] } }) :=
  .of_wp fun prog w A R s hh => by
    obtain ⟨hp, gg, dd, tk, os⟩ := s
    obtain ⟨hH, hR⟩ := hh
    have isSub := sub_enumerate
    have begins : ∀ {A' : Around} {E : Value → Shared → Prop} {Q : Value → Shared → Prop}, Q (.ref hp.objs.size) ⟨hp.push o, gg, dd, tk, os⟩ → wpAny (model prog w) A' (pyIter v) Q E ⟨hp, gg, dd, tk, os⟩ :=
      fun q => B.iter prog w _ _ ⟨hp, gg, dd, tk, os⟩ _ hH q
    wp_walk using begins
    refine wpAny_stack_any fun st => wpAny_pure ?_
    split
    · rename_i c _ _ _ _ _
      cases (c == Value.type "enumerate")
      · wp_walk using begins
        exact ⟨_, rfl, hR⟩
      · wp_walk using begins
        exact ⟨_, rfl, hR⟩
    · wp_walk using begins
      exact ⟨_, rfl, hR⟩
section
variable {prog : Program} {w : World} {A : Around} {E : Value → Shared → Prop} {s : Shared}
theorem call_enum1 {v : Value} {o : Obj} {H : Heap → Prop} {Q : Value → Shared → Prop} (B : Begins v o H) (h1 : H s.heap)
    (h : ∀ h', IsEnum h' (s.heap.objs.size + 1) s.heap.objs.size 0 .none → h'.get? s.heap.objs.size = some o → h'.objs.size = s.heap.objs.size + 2 →
      (∀ b o, s.heap.get? b = some o → h'.get? b = some o) → Q (.ref (s.heap.objs.size + 1)) { s with heap := h' }) :
    wpAny (model prog w) A (call (.type "enumerate") [v]) Q E s := by
  refine callType_new F.called_enumerate (by decide) (F.typeCall_enumerate_1 _) (F.newCall_enumerate_1 _) (fun obj => F.args_object_init_2 obj _) F.entry_enumerate_new
    (new_enum1 B) ⟨h1, ?_⟩
  have sz : (s.heap.push o).objs.size = s.heap.objs.size + 1 := Heap.size_push ..
  show _ ∧ _
  rw [sz]
  refine ⟨⟨_, by rw [← sz]; exact Heap.get?_push_size _ rfl, rfl⟩, h _ ?_ ?_ ?_ ?_⟩
  · show Heap.get? _ _ = _
    rw [← sz]
    exact Heap.get?_push_size _ rfl
  · exact Heap.get?_push_of_some _ (Heap.get?_push_size _ B.free)
  · rw [Heap.size_push, sz]
  · exact fun b ob e => Heap.get?_push_of_some _ (Heap.get?_push_of_some _ e)
end
/-- the pairs of a tuple's items with their places -/
def IteT (K : PySem.W.Frag) (a : Addr) (n : Nat) : It :=
  ⟨fun i H => i < n ∧ ∃ (xs : List V) (x : V), SqT K H a xs ∧ xs[i]? = some x, fun i H v H' => ∃ T x, v = .ref T ∧ H T = none ∧ H' = upd H T (.tup [.int (i : Nat), x]) ∧ ∀ xs, SqT K H a xs → xs[i]? = some x, fun i H => ∃ xs : List V, SqT K H a xs ∧ xs.length = n ∧ n ≤ i⟩
theorem turn_enumT {P : Program} {w : World} {K : PySem.W.Frag} {elts : List Expr} {kk : Nat} {tpos : Pos} (a e it : Addr) (n : Nat) :
    Turn P w K (.Tuple elts kk tpos) (IteT K a n) [e, it] e (fun i h => (∃ old, IsEnum h e it ((i : Nat) : Int) old) ∧ h.IsTupleIter it a i ∧ e ≠ it ∧ a ≠ it ∧ e ≠ a ∧ i ≤ n) where
  mem := by simp
  obj := fun i h st b hb => by
    obtain ⟨⟨old, he⟩, ⟨o, ho, hc, hd⟩, _⟩ := st
    have hb2 : b = e ∨ b = it := by simpa using hb
    rcases hb2 with z | z
    · rw [z]; exact ⟨_, he, fun v q => nomatch q⟩
    · rw [z]; exact ⟨o, ho, fun v q => by rw [hd] at q; cases q⟩
  keep := fun i h h' st k => let ⟨⟨old, he⟩, hi, hne, h2, h3, h4⟩ := st; ⟨⟨old, k e (by simp) _ he⟩, hi.at fun o q => k it (by simp) o q, hne, h2, h3, h4⟩
  item := by
    intro X hP hw hK hc i pins s σ H E I hf st hg
    subst hP hw hK
    obtain ⟨⟨old, he⟩, hit, hne, hai, hea, hin⟩ := st
    obtain ⟨hlt, xs, x, hq, hx⟩ := hg
    obtain ⟨its, rv, pl, hz⟩ := I.tuple hq
    obtain ⟨u, hu, ru⟩ := rv.get hx
    have eLt : e < s.heap.objs.size := Heap.lt_size he
    have iLt : it < s.heap.objs.size := by obtain ⟨_, q, _⟩ := hit; exact Heap.lt_size q
    have hi : i < its.toArray.size := by
      rw [List.size_toArray]
      exact (List.getElem?_eq_some_iff.mp hu).1
    refine wpAny_pyNext_enum_itemC (Draws.tuple (prog := X.prog) (w := X.w) (A := X.A.in1) (I.ok.hd hc) it a hai its.toArray) he ⟨hit, pl⟩ hi hne (by simp [hne, hea]) fun y h' tk hy ho hst' hT hsz hk => ?_
    have ey : y = u := by
      have : its.toArray[i]? = some u := by simpa using hu
      rw [this] at hy
      exact (Option.some.inj hy).symm
    subst ey
    refine ⟨_, rfl, wpAny_letOwnedTupleGo_enum (s := { s with heap := h', toks := tk + 1 }) ho fun h'' he' sb => ?_⟩
    have hT2 : h''.get? s.heap.objs.size = some { cls := .type "tuple", data := .seq #[.int i tk, y] } := (sb.2 _ (Nat.ne_of_gt eLt)).trans hT
    have new : ObjOk X.prog X.w (upd H s.heap.objs.size (.tup [.int (i : Nat), x])) h'' s.heap.objs.size (.tup [.int (i : Nat), x]) :=
      ⟨by show 2 ≤ sizeLine; decide, [.int i tk, y], .cons ⟨_, rfl⟩ (.cons ru .nil), ⟨_, hT2, rfl, _, rfl⟩⟩
    have I1 : Inv X pins σ (upd H s.heap.objs.size (.tup [.int (i : Nat), x])) { s with heap := h'', toks := tk + 1 } :=
      I.turnedNew (ch := [e, it]) (fun b ob hb q => (sb.2 b (fun z => hb (by simp [z]))).trans (hk b ob (fun z => hb (by simp [z])) (fun z => hb (by simp [z])) q)) hf (Nat.le_refl _) new
    refine ⟨.ref s.heap.objs.size, _, I1, rfl, ⟨_, x, rfl, I.hok.fresh (Nat.le_refl _), rfl, fun ys hy => by rw [I.tuple_inj hy hq]; exact hx⟩, ⟨⟨y, ?_⟩, hst'.1.at fun o q => (sb.2 it (Ne.symm hne)).trans q, hne, hai, hea, hlt⟩, fun b hb => ?_⟩
    · have e1 : ((i + 1 : Nat) : Int) = (i : Int) + 1 := by omega
      rw [e1]; exact he'
    · have hb' : b < s.heap.objs.size := by
        have hb2 : b = e ∨ b = it := by simpa using hb
        rcases hb2 with z | z
        · rw [z]; exact eLt
        · rw [z]; exact iLt
      rw [upd_ne (Nat.ne_of_lt hb')]
      exact (hf b hb).1
  done := by
    intro X hP hw hK hc i pins s σ H E I hf st hg
    subst hP hw hK
    obtain ⟨⟨old, he⟩, hit, hne, hai, hea, hin⟩ := st
    obtain ⟨xs, hq, hx, hx2⟩ := hg
    obtain ⟨its, rv, pl, hz⟩ := I.tuple hq
    obtain ⟨f0, f1, f2, f3, f4, f5⟩ := hf it (by simp)
    have hl := rv.length
    have en : i = its.toArray.size := by rw [List.size_toArray]; omega
    refine wpAny_pyNext_enum_endD (Draws.tuple (prog := X.prog) (w := X.w) (A := X.A.in1) (I.ok.hd hc) it a hai its.toArray) he ⟨by rw [← en]; exact hit, pl⟩ fun h' eb => ⟨rfl, I.turned (t' := s.toks) (fun b o hb q => eb b o hb q) f0 f1 f3 f4 f5⟩
  self := fun A i s Q E st h => let ⟨⟨_, he⟩, _⟩ := st; wpAny_pyIter_enum he h
section
variable {X : Cx} {M : Mx} {fs : DEnv → R (List D)}
def iEnumA (K : PySem.W.Frag) (ta : TA) : TI := fun σ H R => ta σ H fun vs H1 => ∃ a xs, vs = [.ref a] ∧ ((SqL K H1 a xs ∧ R (Ite K a) H1) ∨ (SqT K H1 a xs ∧ R (IteT K a xs.length) H1))
theorem pi_enumA {e : Expr} {ta : TA} {p pos tpos : Pos} {elts : List Expr} {kk : Nat} (hg : Gl X "enumerate") (hm : X.mg "enumerate" = none) (ha : PA X [e] ta) (hs : starEach [e] X.env = [(false, eval e X.env)] := by rfl) :
    PI X (.Tuple elts kk tpos) (.Call (.Name "enumerate" p) [e] [] pos) (iEnumA X.K ta) := by
  refine ⟨fun pins s σ H R I h => ?_⟩
  refine Call_ (ld_blt I hg hm boot_enumerate (PyProof.Rows.callWith_type1 (thn (ha.run pos pins s σ H _ I h) fun us s1 ⟨vs, H1, I1, r1, q1⟩ => ?_) hs rfl))
  obtain ⟨a, xs, rfl, q⟩ := q1
  have two : ∀ b : Addr, b ∈ [s1.heap.objs.size + 1, s1.heap.objs.size] → s1.heap.objs.size ≤ b := fun b hb => by
    rcases List.mem_cons.mp hb with z | z
    · rw [z]; exact Nat.le_succ _
    · rw [List.mem_singleton.mp z]; exact Nat.le_refl _
  cases r1 with
  | cons r rr =>
    cases rr
    cases r
    rcases q with ⟨hq, q⟩ | ⟨hq, q⟩
    · obtain ⟨its, rv, pl, hz⟩ := I1.list hq
      refine call_enumerate_list pl.isList fun h' he hit hsz hk => wpAny_pyIter_enum he ?_
      refine ⟨s1.heap.objs.size + 1, [s1.heap.objs.size + 1, s1.heap.objs.size], _, _, H1, rfl, I1.kept (t' := s1.toks) hk, turn_enum a (s1.heap.objs.size + 1) s1.heap.objs.size, ⟨⟨.none, he⟩, hit, Nat.succ_ne_self _⟩, fun b hb => I1.fpOk (two b hb) (I1.hok.fresh (two b hb)), q⟩
    · obtain ⟨its, rv, pl, hz⟩ := I1.tuple hq
      have aLt : a < s1.heap.objs.size := by obtain ⟨o, ho, _⟩ := id pl; exact Heap.lt_size ho
      refine call_enum1 (begins_tuple a its.toArray) pl fun h' he hit hsz hk => wpAny_pyIter_enum he ?_
      refine ⟨s1.heap.objs.size + 1, [s1.heap.objs.size + 1, s1.heap.objs.size], _, _, H1, rfl, I1.kept (t' := s1.toks) hk, turn_enumT a (s1.heap.objs.size + 1) s1.heap.objs.size xs.length, ⟨⟨.none, he⟩, ⟨_, hit, rfl, rfl⟩, Nat.succ_ne_self _, Nat.ne_of_lt aLt, Nat.ne_of_gt (Nat.lt_succ_of_lt aLt), Nat.zero_le _⟩, fun b hb => I1.fpOk (two b hb) (I1.hok.fresh (two b hb)), q⟩
/-- the pairs (place, item) -/
def enumD (ds : List D) : List D := ds.mapIdx fun i d => .tuple [.int (i : Nat), d]
def enumS : List D → Option (List D)
  | [d] => (itemsS d).map enumD
  | _ => none
theorem enumD_get {ds : List D} {i : Nat} {d : D} (h : (enumD ds)[i]? = some d) : ∃ x, ds[i]? = some x ∧ d = .tuple [.int (i : Nat), x] := by
  unfold enumD at h
  rw [List.getElem?_mapIdx] at h
  cases hx : ds[i]? with
  | none => rw [hx] at h; cases h
  | some x => rw [hx] at h; exact ⟨x, rfl, (Option.some.inj h).symm⟩
theorem enumD_len {ds : List D} : (enumD ds).length = ds.length := by simp [enumD]
theorem itE {K : PySem.W.Frag} {H : Hp} {a : Addr} {xs : List V} {ds : List D} (h : FzL K H a xs) (r : RepAll K H xs ds) : ItD K H (Ite K a) (enumD ds) where
  go := fun H' i d e q => by
    obtain ⟨x, h1, _⟩ := enumD_get q
    obtain ⟨v, h2, _⟩ := r.get h1
    exact ⟨xs, v, (h.mono e).sq, h2⟩
  yld := fun H' i d v H2 e q y => by
    obtain ⟨T, x, rfl, hT, rfl, y⟩ := y
    obtain ⟨z, h1, rfl⟩ := enumD_get q
    obtain ⟨u, h2, h3⟩ := r.get h1
    have h4 := y xs (h.mono e).sq
    rw [h2] at h4
    cases h4
    have sm : Same H' (upd H' T (.tup [.int (i : Nat), x])) := same_upd hT
    exact ⟨sm, .tup (SqT.of upd_same) (.cons (.int _) (.cons (h3.ext (e.trans (Ext.same sm))) .nil))⟩
  stop := fun H' e => ⟨xs, (h.mono e).sq, by rw [enumD_len, r.length]; exact Nat.le_refl _⟩
theorem itET {K : PySem.W.Frag} {H : Hp} {a : Addr} {xs : List V} {ds : List D} (h : SqT K H a xs) (r : RepAll K H xs ds) : ItD K H (IteT K a xs.length) (enumD ds) where
  go := fun H' i d e q => by
    obtain ⟨x, h1, _⟩ := enumD_get q
    obtain ⟨v, h2, _⟩ := r.get h1
    exact ⟨(List.getElem?_eq_some_iff.mp h2).1, xs, v, sqT_mono e h, h2⟩
  yld := fun H' i d v H2 e q y => by
    obtain ⟨T, x, rfl, hT, rfl, y⟩ := y
    obtain ⟨z, h1, rfl⟩ := enumD_get q
    obtain ⟨u, h2, h3⟩ := r.get h1
    have h4 := y xs (sqT_mono e h)
    rw [h2] at h4
    cases h4
    have sm : Same H' (upd H' T (.tup [.int (i : Nat), x])) := same_upd hT
    exact ⟨sm, .tup (SqT.of upd_same) (.cons (.int _) (.cons (h3.ext (e.trans (Ext.same sm))) .nil))⟩
  stop := fun H' e => ⟨xs, sqT_mono e h, rfl, by rw [enumD_len, r.length]; exact Nat.le_refl _⟩
theorem si_enum {e : Expr} {p pos tpos : Pos} {elts : List Expr} {kk : Nat} (hK : X.K = M.K) (hg : Gl X "enumerate") (hm : X.mg "enumerate" = none) (ha : SA X M [e] fs) (hs : starEach [e] X.env = [(false, eval e X.env)] := by rfl) :
    SI X M (.Tuple elts kk tpos) (.Call (.Name "enumerate" p) [e] [] pos) (onA enumS fs) := by
  refine PI.weak (pi_enumA hg hm ha hs) fun σ H Q ⟨σd, m, q⟩ => ⟨σd, m, wpR_mono (wpR_bind.mp q) fun ds σ1 q1 vs H1 e1 r1 m1 => ?_⟩
  obtain ⟨es, hes, q2⟩ := wpR_lift.mp q1
  unfold enumS at hes
  split at hes
  · rename_i d
    cases r1 with
    | cons r rr =>
      cases rr
      cases r with
      | lst h1 h2 =>
        cases hes
        exact ⟨_, _, rfl, .inl ⟨by rw [hK]; exact h1.sq, by rw [hK]; exact q2 _ H1 e1 m1 (itE h1 h2)⟩⟩
      | tup h1 h2 =>
        cases hes
        exact ⟨_, _, rfl, .inr ⟨by rw [hK]; exact h1, by rw [hK]; exact q2 _ H1 e1 m1 (itET h1 h2)⟩⟩
      | _ => cases hes
  · cases hes
/-! ### zip -/
def zipD : List D → List D → List D
  | a :: as, b :: bs => .tuple [a, b] :: zipD as bs
  | _, _ => []
def zipS : List D → Option (List D)
  | [.list as, .list bs] => some (zipD as bs)
  | [.tuple as, .tuple bs] => some (zipD as bs)
  | _ => none
theorem zipD_get : ∀ {as bs : List D} {i : Nat} {d : D}, (zipD as bs)[i]? = some d → ∃ a b, as[i]? = some a ∧ bs[i]? = some b ∧ d = .tuple [a, b]
  | a :: as, b :: bs, 0, d, h => by simp [zipD] at h; exact ⟨a, b, rfl, rfl, h.symm⟩
  | a :: as, b :: bs, i + 1, d, h => by
    obtain ⟨x, y, h1, h2, h3⟩ := zipD_get (as := as) (bs := bs) (i := i) (by simpa [zipD] using h)
    exact ⟨x, y, by simpa using h1, by simpa using h2, h3⟩
  | [], _, _, _, h => by simp [zipD] at h
  | _ :: _, [], _, _, h => by simp [zipD] at h
theorem zipD_len : ∀ {as bs : List D}, (zipD as bs).length = min as.length bs.length
  | a :: as, b :: bs => by simp only [zipD, List.length_cons, zipD_len]; omega
  | [], _ => by simp [zipD]
  | _ :: _, [] => by simp [zipD]
theorem itZ {K : PySem.W.Frag} {H : Hp} {a b : Addr} {xs ys : List V} {as bs : List D} (h : FzL K H a xs) (r : RepAll K H xs as) (h' : FzL K H b ys) (r' : RepAll K H ys bs) : ItD K H (Itz K a b) (zipD as bs) where
  go := fun H' i d e q => by
    obtain ⟨x, y, h1, h2, _⟩ := zipD_get q
    obtain ⟨v, h3, _⟩ := r.get h1
    obtain ⟨w, h4, _⟩ := r'.get h2
    exact ⟨xs, ys, v, w, (h.mono e).sq, (h'.mono e).sq, h3, h4⟩
  yld := fun H' i d v H2 e q y => by
    obtain ⟨T, x, w, rfl, hT, rfl, y1, y2⟩ := y
    obtain ⟨z1, z2, h1, h2, rfl⟩ := zipD_get q
    obtain ⟨u, h3, h4⟩ := r.get h1
    obtain ⟨u2, h5, h6⟩ := r'.get h2
    have e1 := y1 xs (h.mono e).sq
    have e2 := y2 ys (h'.mono e).sq
    rw [h3] at e1
    rw [h5] at e2
    cases e1
    cases e2
    have sm : Same H' (upd H' T (.tup [x, w])) := same_upd hT
    exact ⟨sm, .tup (SqT.of upd_same) (.cons (h4.ext (e.trans (Ext.same sm))) (.cons (h6.ext (e.trans (Ext.same sm))) .nil))⟩
  stop := fun H' e => ⟨xs, ys, (h.mono e).sq, (h'.mono e).sq, by rw [zipD_len, r.length, r'.length]; omega⟩
theorem itZT {K : PySem.W.Frag} {H : Hp} {a b : Addr} {xs ys : List V} {as bs : List D} (h : SqT K H a xs) (r : RepAll K H xs as) (h' : SqT K H b ys) (r' : RepAll K H ys bs) : ItD K H (ItzT K a b) (zipD as bs) where
  go := fun H' i d e q => by
    obtain ⟨x, y, h1, h2, _⟩ := zipD_get q
    obtain ⟨v, h3, _⟩ := r.get h1
    obtain ⟨w, h4, _⟩ := r'.get h2
    exact ⟨xs, ys, v, w, sqT_mono e h, sqT_mono e h', h3, h4⟩
  yld := fun H' i d v H2 e q y => by
    obtain ⟨T, x, w, rfl, hT, rfl, y1, y2⟩ := y
    obtain ⟨z1, z2, h1, h2, rfl⟩ := zipD_get q
    obtain ⟨u, h3, h4⟩ := r.get h1
    obtain ⟨u2, h5, h6⟩ := r'.get h2
    have e1 := y1 xs (sqT_mono e h)
    have e2 := y2 ys (sqT_mono e h')
    rw [h3] at e1
    rw [h5] at e2
    cases e1
    cases e2
    have sm : Same H' (upd H' T (.tup [x, w])) := same_upd hT
    exact ⟨sm, .tup (SqT.of upd_same) (.cons (h4.ext (e.trans (Ext.same sm))) (.cons (h6.ext (e.trans (Ext.same sm))) .nil))⟩
  stop := fun H' e => ⟨xs, ys, sqT_mono e h, sqT_mono e h', by rw [zipD_len, r.length, r'.length]; omega⟩
theorem si_zip {e e2 : Expr} {p pos tpos : Pos} {elts : List Expr} {kk : Nat} (hK : X.K = M.K) (hg : Gl X "zip") (hm : X.mg "zip" = none) (ha : SA X M [e, e2] fs) (hs : starEach [e, e2] X.env = (false, eval e X.env) :: starEach [e2] X.env := by rfl) (hpl : (backTo pos (starEach [e2] X.env)).any (·.1) = false := by rfl) :
    SI X M (.Tuple elts kk tpos) (.Call (.Name "zip" p) [e, e2] [] pos) (onA zipS fs) := by
  refine PI.weak (pi_zipA hg hm ha hs hpl) fun σ H Q ⟨σd, m, q⟩ => ⟨σd, m, wpR_mono (wpR_bind.mp q) fun ds σ1 q1 vs H1 e1 r1 m1 => ?_⟩
  obtain ⟨es, hes, q2⟩ := wpR_lift.mp q1
  unfold zipS at hes
  split at hes
  · cases hes
    cases r1 with
    | cons r rr =>
      cases rr with
      | cons r' rr =>
        cases rr
        cases r with
        | lst h1 h2 =>
          cases r' with
          | lst h3 h4 => exact ⟨_, _, _, _, rfl, .inl ⟨by rw [hK]; exact h1.sq, by rw [hK]; exact h3.sq, by rw [hK]; exact q2 _ H1 e1 m1 (itZ h1 h2 h3 h4)⟩⟩
  · cases hes
    cases r1 with
    | cons r rr =>
      cases rr with
      | cons r' rr =>
        cases rr
        cases r with
        | tup h1 h2 =>
          cases r' with
          | tup h3 h4 => exact ⟨_, _, _, _, rfl, .inr ⟨by rw [hK]; exact h1, by rw [hK]; exact h3, by rw [hK]; exact q2 _ H1 e1 m1 (itZT h1 h2 h3 h4)⟩⟩
  · cases hes
/-! ### range with a step -/
def rng3 : List D → Option (List D)
  | [.int i, .int j, .int c] => if c ≠ 0 ∧ c.natAbs < 1073741824 ∧ Builtin.Range.small i j c = true ∧ 0 ≤ Builtin.Range.rangeSize i j c then some ((List.range (Builtin.Range.rangeSize i j c).toNat).map fun k : Nat => .int (i + k * c)) else none
  | _ => none
theorem rangeC_get {lo c : Int} {n i : Nat} {d : D} (h : ((List.range n).map fun k : Nat => PyData.int (lo + k * c))[i]? = some d) : i < n ∧ d = .int (lo + i * c) := by
  rw [List.getElem?_map] at h
  by_cases hi : i < n
  · rw [List.getElem?_range hi] at h
    exact ⟨hi, (Option.some.inj h).symm⟩
  · rw [List.getElem?_eq_none (by simpa using hi)] at h
    cases h
theorem itC {K : PySem.W.Frag} {H : Hp} {lo c : Int} {n : Nat} : ItD K H (Itc lo c n) ((List.range n).map fun k : Nat => .int (lo + k * c)) where
  go := fun H' i d e q => (rangeC_get q).1
  yld := fun H' i d x H2 e q y => by
    obtain ⟨rfl, rfl⟩ := y
    obtain ⟨_, rfl⟩ := rangeC_get q
    exact ⟨Same.refl _, .int _⟩
  stop := fun H' e => by simp [Itc]
theorem si_range3 {tg e e2 e3 : Expr} {p pos : Pos} (hg : Gl X "range") (hm : X.mg "range" = none) (ha : SA X M [e, e2, e3] fs) (hs : starEach [e, e2, e3] X.env = (false, eval e X.env) :: starEach [e2, e3] X.env := by rfl) (hpl : (backTo pos (starEach [e2, e3] X.env)).any (·.1) = false := by rfl) : SI X M tg (.Call (.Name "range" p) [e, e2, e3] [] pos) (onA rng3 fs) := by
  refine PI.weak (pi_range3 hg hm ha hs hpl) fun σ H Q ⟨σd, m, q⟩ => ⟨σd, m, wpR_mono (wpR_bind.mp q) fun ds σ1 q1 vs H1 e1 r1 m1 => ?_⟩
  obtain ⟨z, hz, q2⟩ := wpR_lift.mp q1
  unfold rng3 at hz
  split at hz
  · rename_i i j c
    split at hz
    · rename_i hc
      cases hz
      cases r1 with
      | cons r1 r2 =>
        cases r2 with
        | cons r2 r3 =>
          cases r3 with
          | cons r3 r4 =>
            cases r1
            cases r2
            cases r3
            cases r4
            exact ⟨i, j, c, _, rfl, ⟨hc.1, hc.2.1, hc.2.2.1, (Int.toNat_of_nonneg hc.2.2.2).symm⟩, q2 _ H1 e1 m1 itC⟩
    · cases hz
  · cases hz
/-! ### *e in a display -/
@[simp] def starA (f : DEnv → R D) (fs : DEnv → R (List D)) : DEnv → R (List D) := fun σ => (f σ).bind fun d σ1 => (lift (itemsS d) σ1).bind fun es σ2 => (fs σ2).bind fun ds σ3 => .ok (es ++ ds) σ3
theorem sa_star {e : Expr} {f : DEnv → R D} {es : List Expr} {p : Pos} (hK : X.K = M.K) (he : SE X M e f) (hr : SA X M es fs) (hs : starEach (.Starred e p :: es) X.env = (true, eval e X.env) :: starEach es X.env := by rfl) : SA X M (.Starred e p :: es) (starA f fs) :=
  PA.weak (StX.pa_star he hr hs) fun σ H Q ⟨σd, m, q⟩ => ⟨σd, m, wpR_mono (wpR_bind.mp q) fun d σ1 q1 v H1 e1 r1 m1 => by
    obtain ⟨zs, hz, q2⟩ := wpR_lift.mp (wpR_bind.mp q1)
    cases r1 with
    | lst h1 h2 =>
      cases hz
      exact ⟨_, _, rfl, .inr (by rw [hK]; exact h1.sq), σ1, m1, wpR_mono (wpR_bind.mp q2) fun ds σ2 q3 vs H2 e2 r2 m2 => q3 _ H2 (e1.trans e2) ((h2.ext e2).app r2) m2⟩
    | tup h1 h2 =>
      cases hz
      exact ⟨_, _, rfl, .inl (by rw [hK]; exact h1), σ1, m1, wpR_mono (wpR_bind.mp q2) fun ds σ2 q3 vs H2 e2 r2 m2 => q3 _ H2 (e1.trans e2) ((h2.ext e2).app r2) m2⟩
    | _ => cases hz⟩
end
end PL
set_option Elab.async false
set_option linter.all false
set_option maxRecDepth 100000
set_option maxHeartbeats 2000000
set_option autoImplicit false
/-! list(range(..)), tuple(range(..)); x.extend(new list). -/
namespace PL
open PySem PySem.Spec PyProof.Rows L2
section
variable {X : Cx} {M : Mx} {fs : DEnv → R (List D)}
/-- the data of range's arguments: from, to, step, how many -/
def rngO : List D → Option (List D)
  | [.int j] => if small62 j = true ∧ j.toNat ≤ 1000000 then some (rangeD 0 j.toNat) else none
  | [.int i, .int j] => if small62 i = true ∧ small62 j = true ∧ (j - i).toNat ≤ 1000000 then some (rangeD i (j - i).toNat) else none
  | [.int i, .int j, .int c] => if c ≠ 0 ∧ c.natAbs < 1073741824 ∧ Builtin.Range.small i j c = true ∧ 0 ≤ Builtin.Range.rangeSize i j c ∧ (Builtin.Range.rangeSize i j c).toNat ≤ 1000000 then some ((List.range (Builtin.Range.rangeSize i j c).toNat).map fun k : Nat => .int (i + k * c)) else none
  | _ => none
def RgIs (h : Heap) (v : Value) (ds : List D) : Prop := ∃ (r : Addr) (i j c : Int) (t u w : Tok) (n : Nat), v = .ref r ∧ IsRange h r i j c t u w ∧ Builtin.Range.small i j c = true ∧ Builtin.Range.rangeSize i j c = n ∧ n ≤ 1000000 ∧ ds = (List.range n).map fun k : Nat => PyData.int (i + k * c)
theorem mkRange {pins : List (Addr × Obj)} {σ : L2.St} {H : Hp} {s : Shared} {vs : List V} {us : List Value} {ds es : List D} {E : Value → Shared → Prop} {Q : Value → Shared → Prop} (I : Inv X pins σ H s) (r : Vals vs us) (ra : RepAll X.K H vs ds) (h : rngO ds = some es)
    (k : ∀ v s', Inv X pins σ H s' → RgIs s'.heap v es → Q v s') : wpAny (model X.prog X.w) X.A (call (.type "range") us) Q E s := by
  unfold rngO at h
  split at h
  · rename_i j
    split at h
    · rename_i hc
      cases h
      cases ra with
      | cons ra rr =>
        cases rr
        cases ra
        cases r with
        | cons r rr =>
          cases rr
          obtain ⟨t, rfl⟩ := r
          obtain ⟨h1, h2⟩ := small62_spec hc.1
          refine call_range_1 (k _ _ (I.kept fun b u e => Heap.get?_push_of_some _ e) ⟨_, 0, j, 1, _, _, _, j.toNat, rfl, IsRange.new _ _ _ _ _ _ _, small_one (by omega) (by omega) h1 h2, by have := rangeSize_nat 0 j; simpa using this, hc.2, ?_⟩)
          simp [rangeD]
    · cases h
  · rename_i i j
    split at h
    · rename_i hc
      cases h
      cases ra with
      | cons ra rr =>
        cases rr with
        | cons ra2 rr =>
          cases rr
          cases ra
          cases ra2
          cases r with
          | cons r rr =>
            cases rr with
            | cons r2 rr =>
              cases rr
              obtain ⟨t, rfl⟩ := r
              obtain ⟨t', rfl⟩ := r2
              obtain ⟨h1, h2⟩ := small62_spec hc.1
              obtain ⟨h3, h4⟩ := small62_spec hc.2.1
              refine call_range_2 (k _ _ (I.kept fun b u e => Heap.get?_push_of_some _ e) ⟨_, i, j, 1, _, _, _, (j - i).toNat, rfl, IsRange.new _ _ _ _ _ _ _, small_one h1 h2 h3 h4, rangeSize_nat i j, hc.2.2, ?_⟩)
              simp [rangeD]
    · cases h
  · rename_i i j c
    split at h
    · rename_i hc
      cases h
      cases ra with
      | cons ra rr =>
        cases rr with
        | cons ra2 rr =>
          cases rr with
          | cons ra3 rr =>
            cases rr
            cases ra
            cases ra2
            cases ra3
            cases r with
            | cons r rr =>
              cases rr with
              | cons r2 rr =>
                cases rr with
                | cons r3 rr =>
                  cases rr
                  obtain ⟨t, rfl⟩ := r
                  obtain ⟨t', rfl⟩ := r2
                  obtain ⟨t'', rfl⟩ := r3
                  refine call_range_3 hc.1 (k _ _ (I.kept fun b u e => Heap.get?_push_of_some _ e) ⟨_, i, j, c, _, _, _, (Builtin.Range.rangeSize i j c).toNat, rfl, IsRange.new _ _ _ _ _ _ _, hc.2.2.1, (Int.toNat_of_nonneg hc.2.2.2.1).symm, hc.2.2.2.2, rfl⟩) (.inl (PyProof.noPylong_small hc.2.1))
    · cases h
  · cases h
/-- an expression that makes a range -/
def PRgD (X : Cx) (M : Mx) (e : Expr) (f : DEnv → R (List D)) : Prop := ∀ (pins : List (Addr × Obj)) (s : Shared) (σ : L2.St) (H : Hp) (Q : List D → Hp → Prop), Inv X pins σ H s → (∃ σd, Mt M σd σ H ∧ wpR (f σd) (fun es σ1 => ∀ H1, Ext H H1 → Mt M σ1 σ H1 → Q es H1) M.W) →
  wpAny (model X.prog X.w) X.A (eval e X.env) (fun v s' => ∃ es H', Inv X pins σ H' s' ∧ RgIs s'.heap v es ∧ Q es H') X.xe s
theorem prg_D {a : Expr} {as : List Expr} {p pos : Pos} (hK : X.K = M.K) (hg : Gl X "range") (hm : X.mg "range" = none) (ha : SA X M (a :: as) fs) (hs : starEach (a :: as) X.env = (false, eval a X.env) :: starEach as X.env := by rfl) (hpl : (backTo pos (starEach as X.env)).any (·.1) = false := by rfl) :
    PRgD X M (.Call (.Name "range" p) (a :: as) [] pos) (onA rngO fs) := by
  intro pins s σ H Q I ⟨σd, m, q⟩
  refine Call_ (ld_blt I hg hm boot_range (PyProof.Rows.callWith_type1 (thn (ha.run pos pins s σ H (fun vs H1 => ∃ ds σ1 es, RepAll M.K H1 vs ds ∧ Ext H H1 ∧ Mt M σ1 σ H1 ∧ rngO ds = some es ∧ ∀ H2, Ext H H2 → Mt M σ1 σ H2 → Q es H2) I ⟨σd, m, wpR_mono (wpR_bind.mp q) fun ds σ1 q1 vs H1 e1 r1 m1 => ?_⟩) fun us s1 ⟨vs, H1, I1, r1, q1⟩ => ?_) hs hpl))
  · obtain ⟨es, he, q2⟩ := wpR_lift.mp q1
    exact ⟨ds, σ1, es, r1, e1, m1, he, q2⟩
  · obtain ⟨ds, σ1, es, r2, e1, m1, he, q2⟩ := q1
    exact mkRange I1 r1 (by rw [hK]; exact r2) he fun v s' I2 hr => ⟨es, H1, I2, hr, q2 H1 e1 m1⟩
theorem vals_rgc {i c : Int} {n : Nat} {acc : Array Value} (h : ItemsOf (fun j v => ∃ t, v = .int (i + j * c) t) acc n) : Vals ((List.range n).map fun k : Nat => V.int (i + k * c)) acc.toList := by
  have e : acc.toList.length = n := by rw [Array.length_toList]; exact h.1
  rw [← e]
  refine vals_of_get acc.toList _ fun j u hj => ?_
  obtain ⟨t, rfl⟩ := h.2 j u (by rw [← hj, Array.getElem?_toList])
  exact ⟨t, rfl⟩
theorem rep_rgc {K : PySem.W.Frag} {H : Hp} {i c : Int} : ∀ {l : List Nat}, RepAll K H (l.map fun k : Nat => V.int (i + k * c)) (l.map fun k : Nat => PyData.int (i + k * c))
  | [] => .nil
  | _ :: _ => .cons (.int _) rep_rgc
theorem million : (1000000 : Nat) ≤ 2 ^ 24 := by decide
theorem sf_listRg {e : Expr} {f : DEnv → R (List D)} {p pos : Pos} (hc : X.calm = true) (hg : Gl X "list") (hm : X.mg "list" = none) (he : PRgD X M e f) (na : starEach [e] X.env = (false, eval e X.env) :: starEach [] X.env := by rfl) : SF X M (.Call (.Name "list" p) [e] [] pos) f := by
  refine ⟨fun pins s σ H Q I ⟨σd, m, q⟩ => ?_⟩
  refine Call_ (ld_blt I hg hm boot_list (PyProof.Rows.callWith_type1 (args_cons (thn (he pins s σ H (fun es H1 => ∃ σ1, Mt M σ1 σ H1 ∧ Ext H H1 ∧ ∀ p xs H', Ext H H' → H' p = some (.lst xs) → RepAll M.K H' xs es → Mt M σ1 σ H' → Fresh M σ1 σ p → Q (.ref p) H') I ⟨σd, m, wpR_mono q fun es σ1 q1 H1 e1 m1 => ⟨σ1, m1, e1, q1⟩⟩) fun x s1 hx => args_nil ?_) na) na))
  obtain ⟨es, H1, I1, ⟨r, i, j, c, t, u, w, n, rfl, hr, h1, h2, h3, rfl⟩, σ1, m1, e1, q1⟩ := hx
  refine call_list_range (n := n) (I1.ok.hd hc) hr h1 h2 (Nat.le_trans h3 million) fun h' tk acc c' hk e' hi => ?_
  have hn : H1 s1.heap.objs.size = none := I1.hok.fresh (Nat.le_refl _)
  have sm : Same H1 (upd H1 s1.heap.objs.size (.lst ((List.range n).map fun k : Nat => V.int (i + k * c)))) := same_upd hn
  refine ⟨.ref s1.heap.objs.size, _, I1.laid hk (Nat.le_refl _) (show ObjOk X.prog X.w _ _ _ (.lst ((List.range n).map fun k : Nat => V.int (i + k * c))) from ⟨?_, acc.toList, c', vals_rgc hi, ?_⟩), rfl, q1 _ _ _ (e1.trans (Ext.same sm)) upd_same rep_rgc (m1.same sm) (m1.fresh hn)⟩
  · rw [List.length_map, List.length_range, sizeLine_eq]; omega
  · rw [Array.toArray_toList]; exact e'
theorem se_tupRg {e : Expr} {f : DEnv → R (List D)} {p pos : Pos} (hc : X.calm = true) (hg : Gl X "tuple") (hm : X.mg "tuple" = none) (he : PRgD X M e f) (na : starEach [e] X.env = (false, eval e X.env) :: starEach [] X.env := by rfl) : SE X M (.Call (.Name "tuple" p) [e] [] pos) (fun σ => (f σ).bind fun ds σ1 => .ok (.tuple ds) σ1) := by
  refine ⟨fun pins s σ H Q I ⟨σd, m, q⟩ => ?_⟩
  refine Call_ (ld_blt I hg hm boot_tuple (PyProof.Rows.callWith_type1 (args_cons (thn (he pins s σ H (fun es H1 => ∃ σ1, Mt M σ1 σ H1 ∧ Ext H H1 ∧ ∀ v H', Ext H H' → Rep M.K H' v (.tuple es) → Mt M σ1 σ H' → Q v H') I ⟨σd, m, wpR_mono (wpR_bind.mp q) fun es σ1 q1 H1 e1 m1 => ⟨σ1, m1, e1, q1⟩⟩) fun x s1 hx => args_nil ?_) na) na))
  obtain ⟨es, H1, I1, ⟨r, i, j, c, t, u, w, n, rfl, hr, h1, h2, h3, rfl⟩, σ1, m1, e1, q1⟩ := hx
  refine call_tuple_range (n := n) (I1.ok.hd hc) hr h1 h2 (Nat.le_trans h3 million) fun h' tk acc hk hi => ?_
  have I2 : Inv X pins σ H1 { s1 with heap := h', toks := tk } := I1.kept hk
  have hn : H1 h'.objs.size = none := I2.hok.fresh (Nat.le_refl _)
  have sm : Same H1 (upd H1 h'.objs.size (.tup ((List.range n).map fun k : Nat => V.int (i + k * c)))) := same_upd hn
  refine ⟨.ref h'.objs.size, _, I2.laid (t' := tk) (fun c o e => Heap.get?_push_of_some _ e) (Nat.le_refl _) (show ObjOk X.prog X.w _ _ _ (.tup ((List.range n).map fun k : Nat => V.int (i + k * c))) from ⟨?_, acc.toList, vals_rgc hi, ?_⟩), rfl, q1 _ _ (e1.trans (Ext.same sm)) (.tup (SqT.of upd_same) rep_rgc) (m1.same sm)⟩
  · rw [List.length_map, List.length_range, sizeLine_eq]; omega
  · rw [Array.toArray_toList]; exact IsTup.new _ _
/-- x.extend(new list), x a list of its own -/
@[simp] def extL (i : Nat) (es : List D) : DEnv → O := fun σ => match lstOf i σ with
  | some ds => if ds.length + es.length ≤ 1000000 then .nx (putL i (ds ++ es) σ) else .bad
  | none => .bad
@[simp] abbrev oExt (i : Nat) (f : DEnv → R (List D)) : DEnv → O := fun σ => match lstOf i σ with
  | some _ => (f σ).thn (extL i)
  | none => .bad
theorem fresh_ne {σd : DEnv} {σ : L2.St} {H : Hp} {i : Nat} {ds : List D} {p q : Addr} {xs : List V} (m : Mt M σd σ H) (h : PL.lstOf i σd = some ds) (hp : σ[i]? = some (some (.ref p))) (fr : Fresh M σd σ q) : p ≠ q := by
  intro z
  subst z
  unfold PL.lstOf at h
  split at h
  · rename_i e
    exact fr.own i _ e hp
  · rename_i e
    obtain ⟨p', _, h1, _, _, h4⟩ := m.tap i _ e
    rw [hp] at h1
    cases h1
    exact fr.tap h4
  · cases h
theorem ss_extend {i : Nat} {x : Str} {e : Expr} {p1 p2 p3 pos : Pos} (hN : X.N[i]? = some x) (hv : Vis X.env.scope x) (h : SF X M e fs) (hd : (x == ("__debug__" : Str)) = false := by decide) (hcd : (x == ("__classdict__" : Str)) = false := by decide)
    (hbase : attributeBase (.Name x p1) ("extend" : Str) X.env (eval (.Name x p1) X.env) = eval (.Name x p1) X.env := by rfl) (hfew : ((backTo p3 (starEach [e] X.env)).all (fun x => !x.1) && (backToKw p3 (keywordEach [] X.env)).all (fun x => x.1.isSome)
      && decide ([e].length + ([] : List Keyword).length + (if ([] : List Keyword).isEmpty then 0 else 1) < 30)) = true := by rfl)
    (hline : (p2.endLine == p3.line) = true := by rfl) (hse : starEach [e] X.env = (false, eval e X.env) :: starEach [] X.env := by rfl) (hs : swapsWith (.Call (.Attribute (.Name x p1) ("extend" : Str) p2) [e] [] p3) none pos.line X.env = pure false := by rfl) :
    SS X M (.Expr (.Call (.Attribute (.Name x p1) ("extend" : Str) p2) [e] [] p3) pos) (oExt i fs) := by
  have base : PE X (.Name x p1) (tVar i) := pe_var hN hv hd hcd
  refine PS.weak (ps_expr (pe_bm PySem.F.plainAttrs_list PySem.F.slot_list_extend PySem.F.type_list_extend mt_extend base (pa_cons h pa_nil hse) hbase hfew hline hse rfl) hs) fun D σ H ⟨σd, m, q⟩ => ?_
  simp only [oExt] at q
  cases hl : lstOf i σd with
  | none => simp only [hl] at q; exact q.elim
  | some ds0 =>
    simp only [hl] at q
    obtain ⟨p, xs, h1, h2, h3⟩ := m.lstOf hl
    refine ⟨.ref p, h1, .inl ⟨rfl, xs, SqL.of h2⟩, σd, m, wpR_mono (wpR_thn q) fun es σ1 q1 b zs H1 e1 hb rb m1 fr => ?_⟩
    unfold extL at q1
    cases hl1 : lstOf i σ1 with
    | none => simp only [hl1] at q1; exact q1.elim
    | some ds =>
      simp only [hl1] at q1
      split at q1
      · rename_i hlen
        obtain ⟨p', ys, g1, g2, g3⟩ := m1.lstOf hl1
        rw [h1] at g1
        cases g1
        have l1 := g3.length
        have l2 := rb.length
        refine ⟨p, b, ys, zs, rfl, rfl, g2, hb, ?_, ?_⟩
        · exact Nat.le_of_lt (mil (by omega))
        · exact q1 σ _ (e1.trans (Ext.wr g2)) (m1.putL hl1 h1 g2 (g3.app rb))
      · exact q1.elim
end
end PL
set_option Elab.async false
set_option linter.all false
set_option maxRecDepth 100000
set_option maxHeartbeats 1000000
set_option autoImplicit false
/-! len of a list of its own; a def that is asked nothing -/
namespace PL
open PySem PySem.Spec PyProof.Rows L2
section
variable {X : Cx} {M : Mx}
@[simp] def lenV (i : Nat) : DEnv → R D := fun σ => match lstOf i σ with
  | some ds => .ok (.int ds.length) σ
  | none => match σ[i]? with
    | some (.val (.list ds)) => .ok (.int ds.length) σ
    | _ => .bad
theorem se_lenV {i : Nat} {x : Str} {px p pos : Pos} (hK : X.K = M.K) (hg : Gl X "len") (hm : X.mg "len" = none) (hb : bootBuiltins "len" = some (.builtin "len")) (hN : X.N[i]? = some x) (hv : Vis X.env.scope x) (hd : (x == ("__debug__" : Str)) = false := by decide) (hcd : (x == ("__classdict__" : Str)) = false := by decide)
    (he : starEach [.Name x px] X.env = (false, eval (.Name x px) X.env) :: starEach [] X.env := by rfl) :
    SE X M (.Call (.Name "len" p) [.Name x px] [] pos) (lenV i) := by
  have base : PE X (.Name x px) (tVar i) := pe_var hN hv hd hcd
  refine PE.weak (pe_callB call_len_seq hg hm hb (pa_cons base pa_nil he) (by decide) (by decide) he (by rfl)) fun σ H Q ⟨σd, m, q⟩ => ?_
  unfold lenV at q
  cases hl : lstOf i σd with
  | some ds =>
    simp only [hl] at q
    obtain ⟨a, xs, h2, h3, h4⟩ := m.lstOf hl
    exact ⟨.ref a, h2, a, xs, rfl, .inl (SqL.of h3), by rw [h4.length]; exact q _ H (Ext.refl H) (.int _) m⟩
  | none =>
    simp only [hl] at q
    split at q
    · rename_i ds e
      obtain ⟨v, h1, h2⟩ := m.val i _ e
      cases h2 with
      | @lst a xs ds h3 h4 => exact ⟨.ref a, h1, a, xs, rfl, .inl (by rw [hK]; exact h3.sq), by rw [h4.length]; exact q _ H (Ext.refl H) (.int _) m⟩
    · exact q.elim
/-- tuple(range(..)) by name -/
@[simp] def tupR (fs : DEnv → R (List D)) : DEnv → R D := fun σ => (fs σ).bind fun ds σ1 => .ok (.tuple ds) σ1
theorem se_tupRgn {e : Expr} {f : DEnv → R (List D)} {p pos : Pos} (hc : X.calm = true) (hg : Gl X "tuple") (hm : X.mg "tuple" = none) (he : PRgD X M e f) (na : starEach [e] X.env = (false, eval e X.env) :: starEach [] X.env := by rfl) : SE X M (.Call (.Name "tuple" p) [e] [] pos) (tupR f) := se_tupRg hc hg hm he na
end
section
variable {P : Program} {w : World} {K : PySem.W.Frag} {mg : Str → Option Value} {base : Heap} {tabs : List Addr} {cls : Nat → Addr} {x qual : Str} {st : Stmt} {f : Addr} {fd : FuncData} {cp : Value → Prop} {N ps : List Str}
theorem fnD_bad (FN : FunP K x qual st f fd cp) (hmg : mg x = some (.ref f)) (hbi : Binds K fd ps []) (S : FnScope N ps (defScope st)) : FnD P w K mg base tabs cls (0 + 1) x (fun _ => .bad) :=
  ⟨f, fd, ps, hmg, FN.kp, hbi, FN.okX S (fun vs H Q E ⟨_, _, _, q⟩ => q.elim) fun cdv hcp A outer s H vs Q E hr ⟨_, _, _, q⟩ => q.elim⟩
end
end PL
set_option Elab.async false
set_option linter.all false
set_option maxRecDepth 100000
set_option maxHeartbeats 1000000
set_option autoImplicit false
/-! Dicts of a name's own. -/
namespace PL
open PySem PySem.Spec PyProof.Rows L2
/-! ### data: keys, looking, putting -/
mutual
def keyN : D → Option NestedKey
  | .none => some .none
  | .int i => some (.num i)
  | .str x => some (.text x)
  | .tuple ds => match keyNs ds with
    | some ks => some (.tup ks)
    | none => none
  | _ => none
def keyNs : List D → Option (List NestedKey)
  | [] => some []
  | d :: ds => match keyN d with
    | some k => match keyNs ds with
      | some ks => some (k :: ks)
      | none => none
    | none => none
end
def kEq (a b : D) : Bool := match keyN a, keyN b with
  | some x, some y => decide (x = y)
  | _, _ => false
def dGet (kvs : List (D × D)) (k : D) : Option D := (kvs.find? fun p => kEq p.1 k).map (·.2)
def dHas (kvs : List (D × D)) (k : D) : Bool := kvs.any fun p => kEq p.1 k
def dPutD (kvs : List (D × D)) (k d : D) : List (D × D) := if dHas kvs k = true then kvs.map (fun p => if kEq p.1 k = true then (p.1, d) else p) else kvs ++ [(k, d)]
theorem keyD_eq {a b : D} {x y : L2.Key} (ha : keyD a = some x) (hb : keyD b = some y) : kEq a b = decide (x = y) := by
  cases a <;> simp only [keyD, Option.some.injEq, reduceCtorEq] at ha
  all_goals cases b <;> simp only [keyD, Option.some.injEq, reduceCtorEq] at hb
  all_goals (subst ha; subst hb; simp [kEq, keyN])
theorem keyD_rep {K : PySem.W.Frag} {H : Hp} {v : V} {d : D} {k : L2.Key} (r : Rep K H v d) (h : keyD d = some k) : v = kV k := by
  cases r <;> simp only [keyD, Option.some.injEq, reduceCtorEq] at h
  all_goals (subst h; rfl)
section
variable {K : PySem.W.Frag} {H : Hp}
theorem RepKs.find {kd : D} {k : L2.Key} (hk : keyD kd = some k) : ∀ {ks : List (L2.Key × V)} {kvs : List (D × D)}, RepKs K H ks kvs → (∃ v d, valV ks k = some v ∧ dGet kvs kd = some d ∧ Rep K H v d) ∨ (valV ks k = none ∧ dGet kvs kd = none)
  | _, _, .nil => .inr ⟨rfl, rfl⟩
  | _, _, @RepKs.cons _ _ k' v ks kd' d ds q r s => by
    have e : kEq kd' kd = decide (k' = k) := keyD_eq q hk
    by_cases h : k' = k
    · refine .inl ⟨v, d, valV_pos h, ?_, r⟩
      unfold dGet
      rw [List.find?_cons, e, decide_eq_true h]
      rfl
    · have := s.find hk
      have e2 : dGet ((kd', d) :: ds) kd = dGet ds kd := by
        unfold dGet
        rw [List.find?_cons, e, decide_eq_false h]
      rw [e2, valV_neg h]
      exact this
theorem RepKs.has {kd : D} {k : L2.Key} (hk : keyD kd = some k) {ks : List (L2.Key × V)} {kvs : List (D × D)} (r : RepKs K H ks kvs) : (ks.any fun p => decide (p.1 = k)) = dHas kvs kd := by
  unfold dHas
  induction r with
  | nil => rfl
  | cons q r s ih => rw [List.any_cons, List.any_cons, ih, keyD_eq q hk]
theorem RepKs.app {kd d : D} {k : L2.Key} {v : V} (hk : keyD kd = some k) (r0 : Rep K H v d) : ∀ {ks : List (L2.Key × V)} {kvs : List (D × D)}, RepKs K H ks kvs → RepKs K H (ks ++ [(k, v)]) (kvs ++ [(kd, d)])
  | _, _, .nil => .cons hk r0 .nil
  | _, _, .cons q r s => .cons q r (s.app hk r0)
theorem RepKs.over {kd d : D} {k : L2.Key} {v : V} (hk : keyD kd = some k) (r0 : Rep K H v d) : ∀ {ks : List (L2.Key × V)} {kvs : List (D × D)}, RepKs K H ks kvs → RepKs K H (ks.map fun p => if p.1 = k then (p.1, v) else p) (kvs.map fun p => if kEq p.1 kd = true then (p.1, d) else p)
  | _, _, .nil => .nil
  | _, _, @RepKs.cons _ _ k' v' ks kd' d' ds q r s => by
    have e : kEq kd' kd = decide (k' = k) := keyD_eq q hk
    have ih := s.over hk r0
    rw [List.map_cons, List.map_cons]
    by_cases h : k' = k
    · rw [if_pos h, if_pos (by rw [e]; exact decide_eq_true h)]
      exact .cons q r0 ih
    · rw [if_neg h, if_neg (by rw [e]; simpa using h)]
      exact .cons q r ih
theorem RepKs.put {kd d : D} {k : L2.Key} {v : V} (hk : keyD kd = some k) (r0 : Rep K H v d) {ks : List (L2.Key × V)} {kvs : List (D × D)} (r : RepKs K H ks kvs) : RepKs K H (putK ks k v) (dPutD kvs kd d) := by
  unfold putK dPutD
  rw [r.has hk]
  split
  · exact r.over hk r0
  · exact r.app hk r0
theorem dPutD_len {kvs : List (D × D)} {k d : D} : (dPutD kvs k d).length ≤ kvs.length + 1 := by
  unfold dPutD
  split
  · rw [List.length_map]; omega
  · rw [List.length_append]; simp
end
/-! ### the cell -/
@[simp] def dicOf (i : Nat) (σ : DEnv) : Option (Bool × List (D × D)) := match σ[i]? with
  | some (.dic lk kvs) => some (lk, kvs)
  | _ => none
section
variable {X : Cx} {M : Mx} {σd : DEnv} {σ : L2.St} {H : Hp}
theorem dicOf_eq {i : Nat} {lk : Bool} {kvs : List (D × D)} (h : dicOf i σd = some (lk, kvs)) : σd[i]? = some (.dic lk kvs) := by
  unfold dicOf at h
  split at h
  · rename_i e; cases h; exact e
  · cases h
theorem lk_rd {lk : Bool} {o u : HO} {p : Addr} (h : LkO lk o u) (hp : H p = some u) : Rd H p o := by
  unfold LkO at h
  split at h
  · obtain ⟨od, rfl⟩ := h
    exact .inr ⟨od, hp⟩
  · subst h
    exact .inl hp
/-- what a name's dict holds at a key -/
theorem RepD.get {o : HO} {kvs : List (D × D)} {p : Addr} {y : V} {kd : D} (r : RepD M.K H o kvs) (rd : Rd H p o) (ry : Rep M.K H y kd) (hk : (keyD kd).isSome = true) :
    ∃ ov, DGet H p y ov ∧ ((∃ v d, ov = some v ∧ dGet kvs kd = some d ∧ Rep M.K H v d) ∨ (ov = none ∧ dGet kvs kd = none)) := by
  obtain ⟨k, hk⟩ := Option.isSome_iff_exists.mp hk
  cases r with
  | @dk ks _ r =>
    refine ⟨valV ks k, .inl ⟨ks, k, rd, keyD_rep ry hk, rfl⟩, ?_⟩
    rcases r.find hk with ⟨v, d, h1, h2, h3⟩ | ⟨h1, h2⟩
    · exact .inl ⟨v, d, h1, h2, h3⟩
    · exact .inr ⟨h1, h2⟩
theorem Ext.wrD {p : Addr} {o u : HO} (h : H p = some o) (io : IsDic o) : Ext H (upd H p u) :=
  ⟨fun b ys q => by rw [upd_ne (ne_of q h (by intro z; subst z; exact io))]; exact q, fun b ob w q => by rw [upd_ne (ne_of q h (by intro z; subst z; exact io))]; exact q⟩
/-- the dict at i written over -/
theorem Mt.putD {i : Nat} {lk lk' : Bool} {kvs kvs' : List (D × D)} {p : Addr} {o o' u' : HO} (m : Mt M σd σ H) (hi : σd[i]? = some (.dic lk kvs)) (hp : σ[i]? = some (some (.ref p))) (hH : H p = some o) (io : IsDic o) (hl : LkO lk' o' u') (r : RepD M.K (upd H p u') o' kvs') :
    Mt M (σd.set i (.dic lk' kvs')) σ (upd H p u') := by
  have ex : Ext H (upd H p u') := Ext.wrD hH io
  obtain ⟨p0, o0, u0, g1, g2, g3, g4, g5⟩ := m.dic.gt i lk kvs hi
  rw [hp] at g1
  cases g1
  have hlen : i < σd.length := (List.getElem?_eq_some_iff.mp hi).1
  refine ⟨by rw [List.length_set]; exact m.len, fun j d e => ?_, fun j es e => ?_, fun j es e => ?_, fun j k a b q e1 e2 e3 e4 => ?_, fun b ob e1 e2 => ?_, fun P hP => ?_, fun t e => ?_, fun j k a b e1 e2 => ?_, ⟨fun j l ks e => ?_, fun j k l l' a b q e1 e2 e3 e4 => ?_⟩⟩
  · rcases getset e with ⟨rfl, e0⟩ | ⟨ne, e⟩
    · cases e0
    · obtain ⟨v, h1, h2⟩ := m.val j d e
      exact ⟨v, h1, h2.ext ex⟩
  · rcases getset e with ⟨rfl, e0⟩ | ⟨ne, e⟩
    · cases e0
    · obtain ⟨q, ys, h1, h2, h3, h4⟩ := m.own j es e
      exact ⟨q, ys, h1, by rw [upd_ne (ne_of h2 hH (by intro z; subst z; exact io))]; exact h2, h3.ext ex, h4⟩
  · rcases getset e with ⟨rfl, e0⟩ | ⟨ne, e⟩
    · cases e0
    · obtain ⟨q, ys, h1, h2, h3, h4⟩ := m.tap j es e
      exact ⟨q, ys, h1, by rw [upd_ne (ne_of h2 hH (by intro z; subst z; exact io))]; exact h2, h3.ext ex, h4⟩
  · rcases getset e1 with ⟨rfl, e0⟩ | ⟨_, e1⟩
    · cases e0
    · rcases getset e2 with ⟨rfl, e0⟩ | ⟨_, e2⟩
      · cases e0
      · exact m.dj j k a b q e1 e2 e3 e4
  · rw [upd_ne (fun z => by subst z; rw [g5] at e1; cases e1)]
    exact m.kept b ob e1 e2
  · obtain ⟨ps, e, t⟩ := m.tabs P hP
    exact ⟨ps, by rw [upd_ne (ne_of e hH (by intro z; subst z; exact io))]; exact e, t⟩
  · obtain ⟨es, q⟩ := m.tape t e
    refine ⟨es, ?_⟩
    rw [List.getElem?_set_ne (fun z => by subst z; rw [hi] at q; cases q)]
    exact q
  · rcases getset e1 with ⟨rfl, e0⟩ | ⟨_, e1⟩
    · cases e0
    · rcases getset e2 with ⟨rfl, e0⟩ | ⟨_, e2⟩
      · cases e0
      · exact m.tapOne j k a b e1 e2
  · rcases getset e with ⟨rfl, e0⟩ | ⟨ne, e⟩
    · cases e0
      exact ⟨p, o', u', hp, upd_same, hl, r, g5⟩
    · obtain ⟨q, oq, uq, h1, h2, h3, h4, h5⟩ := m.dic.gt j l ks e
      refine ⟨q, oq, uq, h1, ?_, h3, h4.ext ex, h5⟩
      rw [upd_ne (fun z => ne (by subst z; exact m.dic.dj i j _ _ _ _ _ hi e hp h1))]
      exact h2
  · have f1 : ∃ x y, σd[j]? = some (.dic x y) := by
      rcases getset e1 with ⟨rfl, _⟩ | ⟨_, e1⟩
      · exact ⟨_, _, hi⟩
      · exact ⟨_, _, e1⟩
    have f2 : ∃ x y, σd[k]? = some (.dic x y) := by
      rcases getset e2 with ⟨rfl, _⟩ | ⟨_, e2⟩
      · exact ⟨_, _, hi⟩
      · exact ⟨_, _, e2⟩
    obtain ⟨x1, y1, f1⟩ := f1
    obtain ⟨x2, y2, f2⟩ := f2
    exact m.dic.dj j k x1 x2 y1 y2 q f1 f2 e3 e4
/-- a new dict gets a name -/
theorem Mt.newD {i : Nat} {σd' : DEnv} {kvs : List (D × D)} {p : Addr} {o : HO} (m : Mt M σd σ H) (hc : setC i (.dic false kvs) σd = some σd') (hp : H p = none) (r : RepD M.K (upd H p o) o kvs) : Mt M σd' (σ.set i (some (.ref p))) (upd H p o) := by
  have m1 := m.same (same_upd (o := o) hp)
  have fr := m.fresh hp
  obtain ⟨rfl, hi, hn⟩ := setC_spec hc
  have hi' : i < σ.length := by rw [← m.len]; exact hi
  have look : ∀ j, i ≠ j → (σ.set i (some (.ref p)))[j]? = σ[j]? := fun j ne => List.getElem?_set_ne ne
  have noD : ∀ (j : Nat) (l : Bool) (k : List (D × D)), σd[j]? = some (Cell.dic l k) → σ[j]? ≠ some (some (V.ref p)) := fun j l k e z => by
    obtain ⟨q, oq, uq, h1, h2, _⟩ := m.dic.gt j l k e
    rw [z] at h1
    cases h1
    rw [hp] at h2
    cases h2
  refine ⟨by rw [List.length_set, List.length_set]; exact m.len, fun j e q => ?_, fun j es q => ?_, fun j es q => ?_, fun j k a b p' q1 q2 q3 q4 => ?_, m1.kept, m1.tabs, fun t ht => ?_, fun j k a b q1 q2 => ?_, ⟨fun j l ks e => ?_, fun j k l l' a b q e1 e2 e3 e4 => ?_⟩⟩
  · rcases getset q with ⟨rfl, e0⟩ | ⟨ne, q⟩
    · cases e0
    · obtain ⟨w, h1, h2⟩ := m1.val j e q
      exact ⟨w, by rw [look j ne]; exact h1, h2⟩
  · rcases getset q with ⟨rfl, e0⟩ | ⟨ne, q⟩
    · cases e0
    · obtain ⟨p', xs, h1, h2⟩ := m1.own j es q
      exact ⟨p', xs, by rw [look j ne]; exact h1, h2⟩
  · rcases getset q with ⟨rfl, e0⟩ | ⟨ne, q⟩
    · cases e0
    · obtain ⟨p', xs, h1, h2⟩ := m1.tap j es q
      exact ⟨p', xs, by rw [look j ne]; exact h1, h2⟩
  · rcases getset q1 with ⟨rfl, e0⟩ | ⟨n1, q1⟩
    · cases e0
    · rcases getset q2 with ⟨rfl, e0⟩ | ⟨n2, q2⟩
      · cases e0
      · rw [look j n1] at q3
        rw [look k n2] at q4
        exact m.dj j k a b p' q1 q2 q3 q4
  · obtain ⟨ds, q⟩ := m.tape t ht
    refine ⟨ds, ?_⟩
    rw [List.getElem?_set_ne (fun z => by subst z; exact hn ds q)]
    exact q
  · rcases getset q1 with ⟨rfl, e0⟩ | ⟨_, q1⟩
    · cases e0
    · rcases getset q2 with ⟨rfl, e0⟩ | ⟨_, q2⟩
      · cases e0
      · exact m.tapOne j k a b q1 q2
  · rcases getset e with ⟨rfl, e0⟩ | ⟨ne, e⟩
    · cases e0
      exact ⟨p, o, o, List.getElem?_set_self hi', upd_same, rfl, r, fr.ent⟩
    · obtain ⟨q, oq, uq, h1, h2, h3, h4, h5⟩ := m1.dic.gt j l ks e
      exact ⟨q, oq, uq, by rw [look j ne]; exact h1, h2, h3, h4, h5⟩
  · rcases getset e1 with ⟨rfl, e0⟩ | ⟨n1, e1⟩
    · rcases getset e2 with ⟨rfl, _⟩ | ⟨n2, e2⟩
      · rfl
      · rw [List.getElem?_set_self hi'] at e3
        cases e3
        rw [look k n2] at e4
        exact absurd e4 (noD k _ _ e2)
    · rcases getset e2 with ⟨rfl, _⟩ | ⟨n2, e2⟩
      · rw [List.getElem?_set_self hi'] at e4
        cases e4
        rw [look j n1] at e3
        exact absurd e3 (noD j _ _ e1)
      · rw [look j n1] at e3
        rw [look k n2] at e4
        exact m.dic.dj j k _ _ _ _ q e1 e2 e3 e4
end
end PL
set_option Elab.async false
set_option linter.all false
set_option maxRecDepth 100000
set_option maxHeartbeats 1000000
set_option autoImplicit false
/-! Rules for dicts of a name's own. -/
namespace PL
open PySem PySem.Spec PyProof.Rows L2
section
variable {X : Cx} {M : Mx} {e k : Expr} {f g : DEnv → R D} {pos p1 p2 p3 : Pos} {i : Nat} {x : Str}
@[simp] def setDic (i : Nat) (kvs : List (D × D)) : DEnv → O := fun σ => match setC i (.dic false kvs) σ with
  | some σ' => .nx σ'
  | none => .bad
/-- x = {} -/
theorem ss_dnew (hN : X.N.Nodup) (hi : X.N[i]? = some x) (hx : Loc X.env.scope x) (hs : swapsWith (.Dict [] [] p1) (some (.Name x p2)) pos.line X.env = pure false := by rfl) (hf : X.fn x = true ∨ X.env.scope.names.lookup x = some .local := by first | exact .inl rfl | exact .inr rfl | assumption) :
    SS X M (.Assign [.Name x p2] (.Dict [] [] p1) pos) (setDic i []) :=
  PS.weak (ps_set hN hi hx pe_dnewK hs hf) fun D σ H ⟨σd, m, q⟩ => fun p hp => by
    unfold setDic at q
    split at q
    · rename_i σ' hc
      exact q _ _ (Ext.new hp) (m.newD hc hp (.dk .nil))
    · exact q.elim
@[simp] def putDic (i : Nat) (k d : D) : DEnv → O := fun σ => match dicOf i σ with
  | some (false, kvs) => if (keyD k).isSome = true ∧ kvs.length < 1000000 then .nx (σ.set i (.dic false (dPutD kvs k d))) else .bad
  | _ => .bad
@[simp] abbrev oDput (i : Nat) (f g : DEnv → R D) : DEnv → O := fun σ => (f σ).thn fun d σ1 => match dicOf i σ1 with
  | some _ => (g σ1).thn fun kd σ2 => putDic i kd d σ2
  | none => .bad
theorem million_lt {n : Nat} (h : n < 1000000) : n < sizeLine := by rw [sizeLine_eq]; omega
/-- x[k] = e -/
theorem ss_dput (hu : X.A.units + 64 < cLine) (hN : X.N[i]? = some x) (hv : Vis X.env.scope x) (h : SE X M e f) (hk : SE X M k g) (hd : (x == ("__debug__" : Str)) = false := by decide) (hcd : (x == ("__classdict__" : Str)) = false := by decide)
    (hs : swapsWith e (some (.Subscript (.Name x p1) k p2)) pos.line X.env = pure false := by rfl) :
    SS X M (.Assign [.Subscript (.Name x p1) k p2] e pos) (oDput i f g) := by
  have base : PE X (.Name x p1) (tVar i) := pe_var hN hv hd hcd
  refine PS.weak (ps_dput (by omega) base hk h hs) fun D σ H ⟨σd, m, q⟩ => ⟨σd, m, wpR_mono (wpR_thn q) fun d σ1 q1 v H1 e1 r1 m1 => ?_⟩
  cases hl : dicOf i σ1 with
  | none => simp only [hl] at q1; exact q1.elim
  | some lk =>
    simp only [hl] at q1
    obtain ⟨p, o, u, h1, h2, h3, h4, h5⟩ := m1.dic.gt i lk.1 lk.2 (dicOf_eq hl)
    refine ⟨.ref p, h1, σ1, m1, wpR_mono (wpR_thn q1) fun kd σ2 q2 y H2 e2 ry m2 => ?_⟩
    unfold putDic at q2
    split at q2
    · rename_i kvs hc
      split at q2
      · rename_i hcond
        obtain ⟨p', o', u', g1, g2, g3, g4, g5⟩ := m2.dic.gt i false kvs (dicOf_eq hc)
        rw [h1] at g1
        cases g1
        obtain rfl : u' = o' := g3
        obtain ⟨κ, hκ⟩ := Option.isSome_iff_exists.mp hcond.1
        cases g4 with
        | @dk ks _ rk =>
          have hlen : ks.length < sizeLine := million_lt (by rw [rk.length]; exact hcond.2)
          have ex : Ext H2 (upd H2 p (.dK (putK ks κ v))) := Ext.wrD g2 True.intro
          refine ⟨p, _, rfl, .inl ⟨ks, κ, g2, keyD_rep ry hκ, hlen, rfl⟩, ?_⟩
          exact q2 σ _ ((e1.trans e2).trans ex) (m2.putD (dicOf_eq hc) h1 g2 True.intro (lk' := false) rfl (.dk ((rk.ext ex).put hκ ((r1.ext e2).ext ex))))
      · exact q2.elim
    · exact q2.elim
/-- x[k] of a dict -/
@[simp] def dgV (i : Nat) (g : DEnv → R D) : DEnv → R D := fun σ => match dicOf i σ with
  | some _ => (g σ).bind fun kd σ1 => match dicOf i σ1 with
    | some (_, kvs) => if (keyD kd).isSome = true then lift (dGet kvs kd) σ1 else .bad
    | none => .bad
  | none => .bad
theorem se_dget (hK : X.K = M.K) (hu : X.A.units + 64 < cLine) (hN : X.N[i]? = some x) (hv : Vis X.env.scope x) (hk : SE X M k g) (hd : (x == ("__debug__" : Str)) = false := by decide) (hcd : (x == ("__classdict__" : Str)) = false := by decide) (hs : NoSl k := by intro _ _; rfl) :
    SE X M (.Subscript (.Name x p1) k pos) (dgV i g) := by
  have base : PE X (.Name x p1) (tVar i) := pe_var hN hv hd hcd
  refine PE.weak (pe_dget (by omega) base hk hs) fun σ H Q ⟨σd, m, q⟩ => ?_
  unfold dgV at q
  cases hl : dicOf i σd with
  | none => simp only [hl] at q; exact q.elim
  | some lk =>
    simp only [hl] at q
    obtain ⟨p, o, u, h1, h2, h3, h4, h5⟩ := m.dic.gt i lk.1 lk.2 (dicOf_eq hl)
    refine ⟨.ref p, h1, σd, m, wpR_mono (wpR_bind.mp q) fun kd σ1 q1 y H1 e1 ry m1 => ?_⟩
    cases hl1 : dicOf i σ1 with
    | none => simp only [hl1] at q1; exact q1.elim
    | some lk1 =>
      simp only [hl1] at q1
      split at q1
      · rename_i hks
        obtain ⟨d, hdg, q2⟩ := wpR_lift.mp q1
        obtain ⟨p', o', u', g1, g2, g3, g4, g5⟩ := m1.dic.gt i lk1.1 lk1.2 (dicOf_eq hl1)
        rw [h1] at g1
        cases g1
        obtain ⟨ov, hg, hcase⟩ := g4.get (lk_rd g3 g2) ry hks
        rcases hcase with ⟨v, d', rfl, k2, k3⟩ | ⟨rfl, k2⟩
        · rw [hdg] at k2
          cases k2
          exact ⟨p, v, rfl, hg, q2 v H1 e1 k3 m1⟩
        · rw [hdg] at k2
          cases k2
      · exact q1.elim
theorem dHas_get {kvs : List (D × D)} {kd : D} : dHas kvs kd = (dGet kvs kd).isSome := by
  unfold dHas dGet
  rw [Option.isSome_map]
  induction kvs with
  | nil => rfl
  | cons p kvs ih =>
    rw [List.any_cons, List.find?_cons]
    cases kEq p.1 kd with
    | true => rfl
    | false => exact ih
@[simp] def dinV (neg : Bool) (i : Nat) (g : DEnv → R D) : DEnv → R D := fun σ => (g σ).bind fun kd σ1 => match dicOf i σ1 with
  | some (_, kvs) => if (keyD kd).isSome = true then .ok (.bool (if neg = true then !dHas kvs kd else dHas kvs kd)) σ1 else .bad
  | none => .bad
theorem din_of {neg : Bool} {σ : L2.St} {H : Hp} {Q : VK} (h : tE M (dinV neg i g) σ H Q) : tE M g σ H fun y H1 => tVar i σ H1 fun z H2 => ∃ a o, z = .ref a ∧ DGet H2 a y o ∧ Q (.bl (if neg = true then !o.isSome else o.isSome)) H2 := by
  obtain ⟨σd, m, q⟩ := h
  refine ⟨σd, m, wpR_mono (wpR_bind.mp q) fun kd σ1 q1 y H1 e1 ry m1 => ?_⟩
  cases hl1 : dicOf i σ1 with
  | none => simp only [hl1] at q1; exact q1.elim
  | some lk1 =>
    simp only [hl1] at q1
    split at q1
    · rename_i hks
      obtain ⟨p, o, u, h1, h2, h3, h4, h5⟩ := m1.dic.gt i lk1.1 lk1.2 (dicOf_eq hl1)
      obtain ⟨ov, hg, hcase⟩ := h4.get (lk_rd h3 h2) ry hks
      refine ⟨.ref p, h1, p, ov, rfl, hg, ?_⟩
      have e2 : ov.isSome = dHas lk1.2 kd := by
        rw [dHas_get]
        rcases hcase with ⟨v, d', rfl, k2, k3⟩ | ⟨rfl, k2⟩ <;> rw [k2] <;> rfl
      rw [e2]
      exact q1 _ H1 e1 (.bl _) m1
    · exact q1.elim
theorem pc_dinV (hu : X.A.units + 64 < cLine) (hN : X.N[i]? = some x) (hv : Vis X.env.scope x) (hk : SE X M k g) (hd : (x == ("__debug__" : Str)) = false := by decide) (hcd : (x == ("__classdict__" : Str)) = false := by decide) :
    PC X .In k (.Name x p1) (tE M (dinV false i g)) := by
  have base : PE X (.Name x p1) (tVar i) := pe_var hN hv hd hcd
  exact ⟨fun pins s σ H Q I h => (pc_din (by omega) hk base).run pins s σ H Q I (din_of h)⟩
theorem pc_dninV (hu : X.A.units + 64 < cLine) (hN : X.N[i]? = some x) (hv : Vis X.env.scope x) (hk : SE X M k g) (hd : (x == ("__debug__" : Str)) = false := by decide) (hcd : (x == ("__classdict__" : Str)) = false := by decide) :
    PC X .NotIn k (.Name x p1) (tE M (dinV true i g)) := by
  have base : PE X (.Name x p1) (tVar i) := pe_var hN hv hd hcd
  exact ⟨fun pins s σ H Q I h => (pc_dnotin (by omega) hk base).run pins s σ H Q I (din_of h)⟩
theorem se_pc {op : CmpOp} {F : DEnv → R D} {b : Expr} (h : PC X op k b (tE M F)) (h1 : behindInMarks op b = false := by rfl) : SE X M (.Compare k [op] [b] pos) F := pe_cmp h h1
theorem st_pc {op : CmpOp} {F : DEnv → R D} {b : Expr} (h : PC X op k b (tE M F)) (h1 : behindInMarks op b = false := by rfl) : ST X M (.Compare k [op] [b] pos) (fun σ => toB (F σ)) :=
  PT.weak (pt_cmp h h1) fun σ H Q hq => tB_of (fun _ _ _ z => z) hq
/-- len(x) of a dict -/
@[simp] def dlenV (i : Nat) : DEnv → R D := fun σ => match dicOf i σ with
  | some (_, kvs) => .ok (.int kvs.length) σ
  | none => .bad
theorem se_dlen {p px : Pos} (hg : Gl X "len") (hm : X.mg "len" = none) (hb : bootBuiltins "len" = some (.builtin "len")) (hN : X.N[i]? = some x) (hv : Vis X.env.scope x) (hd : (x == ("__debug__" : Str)) = false := by decide) (hcd : (x == ("__classdict__" : Str)) = false := by decide)
    (he : starEach [.Name x px] X.env = (false, eval (.Name x px) X.env) :: starEach [] X.env := by rfl) : SE X M (.Call (.Name "len" p) [.Name x px] [] pos) (dlenV i) := by
  have base : PE X (.Name x px) (tVar i) := pe_var hN hv hd hcd
  have cl : CallR X (.builtin "len") (fun xs H Q => ∃ a kvs, xs = [V.ref a] ∧ Rd H a (.dK kvs) ∧ Q (.int kvs.length) H) := by
    intro pins s σ H xs us Q I r h
    obtain ⟨a, kvs, rfl, rd, q⟩ := h
    obtain ⟨u, rfl, rx⟩ := vals1 r
    obtain rfl : u = Value.ref a := rx
    exact d_len I rd fun t s' I' => ⟨.int kvs.length, H, I', ⟨t, rfl⟩, q⟩
  refine PE.weak (pe_callB cl hg hm hb (pa_cons base pa_nil he) (by decide) (by decide) he (by rfl)) fun σ H Q ⟨σd, m, q⟩ => ?_
  unfold dlenV at q
  cases hl : dicOf i σd with
  | none => simp only [hl] at q; exact q.elim
  | some lk =>
    simp only [hl] at q
    obtain ⟨a, o, u, h1, h2, h3, h4, h5⟩ := m.dic.gt i lk.1 lk.2 (dicOf_eq hl)
    cases h4 with
    | @dk ks _ rk => exact ⟨.ref a, h1, a, ks, rfl, lk_rd h3 h2, by rw [rk.length]; exact q _ H (Ext.refl H) (.int _) m⟩
/-- x.get(k), x.get(k, e) -/
@[simp] def dget1V (i : Nat) (g : DEnv → R D) : DEnv → R D := fun σ => match dicOf i σ with
  | some _ => (g σ).bind fun kd σ1 => match dicOf i σ1 with
    | some (_, kvs) => if (keyD kd).isSome = true then .ok ((dGet kvs kd).getD .none) σ1 else .bad
    | none => .bad
  | none => .bad
@[simp] def dget2V (i : Nat) (g f : DEnv → R D) : DEnv → R D := fun σ => match dicOf i σ with
  | some _ => (g σ).bind fun kd σ1 => (f σ1).bind fun d σ2 => match dicOf i σ2 with
    | some (_, kvs) => if (keyD kd).isSome = true then .ok ((dGet kvs kd).getD d) σ2 else .bad
    | none => .bad
  | none => .bad
theorem RepD.isD {o : HO} {kvs : List (D × D)} {p : Addr} {H : Hp} (r : RepD M.K H o kvs) (rd : Rd H p o) : IsD H p := by
  cases r with
  | @dk ks _ rk => exact .inl ⟨ks, rd⟩
theorem se_dget1 (hu : X.A.units + 64 < cLine) (hN : X.N[i]? = some x) (hv : Vis X.env.scope x) (hk : SE X M k g) (hd : (x == ("__debug__" : Str)) = false := by decide) (hcd : (x == ("__classdict__" : Str)) = false := by decide)
    (m1 : M1 X (.Name x p1) "get" p2 k p3 := by exact ⟨rfl, rfl, rfl, rfl⟩) : SE X M (.Call (.Attribute (.Name x p1) "get" p2) [k] [] p3) (dget1V i g) := by
  have base : PE X (.Name x p1) (tVar i) := pe_var hN hv hd hcd
  refine PE.weak (pe_dget1 (by omega) base hk m1) fun σ H Q ⟨σd, m, q⟩ => ?_
  unfold dget1V at q
  cases hl : dicOf i σd with
  | none => simp only [hl] at q; exact q.elim
  | some lk =>
    simp only [hl] at q
    obtain ⟨p, o, u, h1, h2, h3, h4, h5⟩ := m.dic.gt i lk.1 lk.2 (dicOf_eq hl)
    refine ⟨.ref p, h1, p, rfl, h4.isD (lk_rd h3 h2), σd, m, wpR_mono (wpR_bind.mp q) fun kd σ1 q1 y H1 e1 ry m1 => ?_⟩
    cases hl1 : dicOf i σ1 with
    | none => simp only [hl1] at q1; exact q1.elim
    | some lk1 =>
      simp only [hl1] at q1
      split at q1
      · rename_i hks
        obtain ⟨p', o', u', g1, g2, g3, g4, g5⟩ := m1.dic.gt i lk1.1 lk1.2 (dicOf_eq hl1)
        rw [h1] at g1
        cases g1
        obtain ⟨ov, hg, hcase⟩ := g4.get (lk_rd g3 g2) ry hks
        refine ⟨ov, hg, ?_⟩
        rcases hcase with ⟨v, d', rfl, k2, k3⟩ | ⟨rfl, k2⟩
        · rw [k2] at q1
          exact q1 v H1 e1 k3 m1
        · rw [k2] at q1
          exact q1 .non H1 e1 .non m1
      · exact q1.elim
theorem se_dget2 (hu : X.A.units + 64 < cLine) (hN : X.N[i]? = some x) (hv : Vis X.env.scope x) (hk : SE X M k g) (he : SE X M e f) (hd : (x == ("__debug__" : Str)) = false := by decide) (hcd : (x == ("__classdict__" : Str)) = false := by decide)
    (m1 : M2 X (.Name x p1) "get" p2 k e p3 := by exact ⟨rfl, rfl, rfl, rfl⟩) : SE X M (.Call (.Attribute (.Name x p1) "get" p2) [k, e] [] p3) (dget2V i g f) := by
  have base : PE X (.Name x p1) (tVar i) := pe_var hN hv hd hcd
  refine PE.weak (pe_dget2 (by omega) base hk he m1) fun σ H Q ⟨σd, m, q⟩ => ?_
  unfold dget2V at q
  cases hl : dicOf i σd with
  | none => simp only [hl] at q; exact q.elim
  | some lk =>
    simp only [hl] at q
    obtain ⟨p, o, u, h1, h2, h3, h4, h5⟩ := m.dic.gt i lk.1 lk.2 (dicOf_eq hl)
    refine ⟨.ref p, h1, p, rfl, h4.isD (lk_rd h3 h2), σd, m, wpR_mono (wpR_bind.mp q) fun kd σ1 q1 y H1 e1 ry m1 => ⟨σ1, m1, wpR_mono (wpR_bind.mp q1) fun d σ2 q2 z H2 e2 rz m2 => ?_⟩⟩
    cases hl1 : dicOf i σ2 with
    | none => simp only [hl1] at q2; exact q2.elim
    | some lk1 =>
      simp only [hl1] at q2
      split at q2
      · rename_i hks
        obtain ⟨p', o', u', g1, g2, g3, g4, g5⟩ := m2.dic.gt i lk1.1 lk1.2 (dicOf_eq hl1)
        rw [h1] at g1
        cases g1
        obtain ⟨ov, hg, hcase⟩ := g4.get (lk_rd g3 g2) (ry.ext e2) hks
        refine ⟨ov, hg, ?_⟩
        rcases hcase with ⟨v, d', rfl, k2, k3⟩ | ⟨rfl, k2⟩
        · rw [k2] at q2
          exact q2 v H2 (e1.trans e2) k3 m2
        · rw [k2] at q2
          exact q2 z H2 (e1.trans e2) rz m2
      · exact q2.elim
end
end PL
set_option Elab.async false
set_option linter.all false
set_option maxRecDepth 100000
set_option maxHeartbeats 1000000
set_option autoImplicit false
/-! A dict locked while it is walked. -/
namespace PL
open PySem PySem.Spec PyProof.Rows L2
/-- tuples and locked lists stay -/
structure ExtL (H H' : Hp) : Prop where
  tup : ∀ b xs, H b = some (.tup xs) → H' b = some (.tup xs)
  frz : ∀ b o xs, H b = some (.frz o (.lst xs)) → H' b = some (.frz o (.lst xs))
  frt : ∀ b o xs, H b = some (.frz o (.tup xs)) → H' b = some (.frz o (.tup xs))
section
variable {K : PySem.W.Frag} {H H' : Hp}
theorem FzL.monoL {a : Addr} {xs : List V} (e : ExtL H H') (h : FzL K H a xs) : FzL K H' a xs := by
  rcases h with ⟨o, h⟩ | h
  · exact .inl ⟨o, e.frz _ _ _ h⟩
  · exact .inr h
theorem sqT_monoL {a : Addr} {xs : List V} (e : ExtL H H') (h : SqT K H a xs) : SqT K H' a xs := by
  rcases h with (h | ⟨o, h⟩) | h
  · exact .inl (.inl (e.tup _ _ h))
  · exact .inl (.inr ⟨o, e.frt _ _ _ h⟩)
  · exact .inr h
mutual
theorem Rep.monoL (e : ExtL H H') : ∀ (d : D) (v : V), Rep K H v d → Rep K H' v d
  | .none, _, h => by cases h; exact .non
  | .bool _, _, h => by cases h; exact .bl _
  | .int _, _, h => by cases h; exact .int _
  | .str _, _, h => by cases h; exact .str _
  | .list ds, _, h => by
    cases h with
    | lst q r => exact .lst (q.monoL e) (RepAll.monoL e ds _ r)
  | .tuple ds, _, h => by
    cases h with
    | tup q r => exact .tup (sqT_monoL e q) (RepAll.monoL e ds _ r)
  | .dict _, _, h => by cases h
theorem RepAll.monoL (e : ExtL H H') : ∀ (ds : List D) (vs : List V), RepAll K H vs ds → RepAll K H' vs ds
  | [], _, h => by cases h; exact .nil
  | d :: ds, _, h => by
    cases h with
    | cons q r => exact .cons (Rep.monoL e d _ q) (RepAll.monoL e ds _ r)
end
theorem RepKs.monoL (e : ExtL H H') : ∀ {ks : List (L2.Key × V)} {ds : List (D × D)}, RepKs K H ks ds → RepKs K H' ks ds
  | _, _, .nil => .nil
  | _, _, .cons q r s => .cons q (Rep.monoL e _ _ r) (s.monoL e)
theorem RepD.monoL {o : HO} {kvs : List (D × D)} (e : ExtL H H') (r : RepD K H o kvs) : RepD K H' o kvs := by
  cases r with
  | dk r => exact .dk (r.monoL e)
/-- a locked dict set free -/
theorem ExtL.free {p : Addr} {od : Obj} {o : HO} (h : H p = some (.frz od o)) (io : IsDic o) : ExtL H (upd H p o) :=
  ⟨fun b xs q => by rw [upd_ne (ne_of q h (by intro z; cases z))]; exact q, fun b ob xs q => by rw [upd_ne (ne_of q h (by intro z; cases z; exact io))]; exact q, fun b ob xs q => by rw [upd_ne (ne_of q h (by intro z; cases z; exact io))]; exact q⟩
end
section
variable {X : Cx} {M : Mx} {σd : DEnv} {σ : L2.St} {H : Hp}
/-- the dict at i set free -/
theorem Mt.freeD {i : Nat} {kvs : List (D × D)} {p : Addr} {od : Obj} {o : HO} (m : Mt M σd σ H) (hi : σd[i]? = some (.dic true kvs)) (hp : σ[i]? = some (some (.ref p))) (hH : H p = some (.frz od o)) : IsDic o ∧ Mt M (σd.set i (.dic false kvs)) σ (upd H p o) := by
  obtain ⟨p0, o0, u0, g1, g2, g3, g4, g5⟩ := m.dic.gt i true kvs hi
  rw [hp] at g1
  cases g1
  obtain ⟨od', rfl⟩ := (show ∃ od, u0 = .frz od o0 from g3)
  rw [hH] at g2
  cases g2
  have io := g4.isDic
  have ex : ExtL H (upd H p o) := ExtL.free hH io
  have hlen : i < σd.length := (List.getElem?_eq_some_iff.mp hi).1
  refine ⟨io, by rw [List.length_set]; exact m.len, fun j d e => ?_, fun j es e => ?_, fun j es e => ?_, fun j k a b q e1 e2 e3 e4 => ?_, fun b ob e1 e2 => ?_, fun P hP => ?_, fun t e => ?_, fun j k a b e1 e2 => ?_, ⟨fun j l ks e => ?_, fun j k l l' a b q e1 e2 e3 e4 => ?_⟩⟩
  · rcases getset e with ⟨rfl, e0⟩ | ⟨ne, e⟩
    · cases e0
    · obtain ⟨v, h1, h2⟩ := m.val j d e
      exact ⟨v, h1, Rep.monoL ex _ _ h2⟩
  · rcases getset e with ⟨rfl, e0⟩ | ⟨ne, e⟩
    · cases e0
    · obtain ⟨q, ys, h1, h2, h3, h4⟩ := m.own j es e
      exact ⟨q, ys, h1, by rw [upd_ne (ne_of h2 hH (by intro z; cases z))]; exact h2, RepAll.monoL ex _ _ h3, h4⟩
  · rcases getset e with ⟨rfl, e0⟩ | ⟨ne, e⟩
    · cases e0
    · obtain ⟨q, ys, h1, h2, h3, h4⟩ := m.tap j es e
      exact ⟨q, ys, h1, by rw [upd_ne (ne_of h2 hH (by intro z; cases z))]; exact h2, RepAll.monoL ex _ _ h3, h4⟩
  · rcases getset e1 with ⟨rfl, e0⟩ | ⟨_, e1⟩
    · cases e0
    · rcases getset e2 with ⟨rfl, e0⟩ | ⟨_, e2⟩
      · cases e0
      · exact m.dj j k a b q e1 e2 e3 e4
  · rw [upd_ne (fun z => by subst z; rw [g5] at e1; cases e1)]
    exact m.kept b ob e1 e2
  · obtain ⟨ps, e, t⟩ := m.tabs P hP
    exact ⟨ps, by rw [upd_ne (ne_of e hH (by intro z; cases z))]; exact e, t⟩
  · obtain ⟨es, q⟩ := m.tape t e
    refine ⟨es, ?_⟩
    rw [List.getElem?_set_ne (fun z => by subst z; rw [hi] at q; cases q)]
    exact q
  · rcases getset e1 with ⟨rfl, e0⟩ | ⟨_, e1⟩
    · cases e0
    · rcases getset e2 with ⟨rfl, e0⟩ | ⟨_, e2⟩
      · cases e0
      · exact m.tapOne j k a b e1 e2
  · rcases getset e with ⟨rfl, e0⟩ | ⟨ne, e⟩
    · cases e0
      exact ⟨p, o, o, hp, upd_same, rfl, g4.monoL ex, g5⟩
    · obtain ⟨q, oq, uq, h1, h2, h3, h4, h5⟩ := m.dic.gt j l ks e
      refine ⟨q, oq, uq, h1, ?_, h3, h4.monoL ex, h5⟩
      rw [upd_ne (fun z => ne (by subst z; exact m.dic.dj i j _ _ _ _ _ hi e hp h1))]
      exact h2
  · have f1 : ∃ x y, σd[j]? = some (.dic x y) := by
      rcases getset e1 with ⟨rfl, _⟩ | ⟨_, e1⟩
      · exact ⟨_, _, hi⟩
      · exact ⟨_, _, e1⟩
    have f2 : ∃ x y, σd[k]? = some (.dic x y) := by
      rcases getset e2 with ⟨rfl, _⟩ | ⟨_, e2⟩
      · exact ⟨_, _, hi⟩
      · exact ⟨_, _, e2⟩
    obtain ⟨x1, y1, f1⟩ := f1
    obtain ⟨x2, y2, f2⟩ := f2
    exact m.dic.dj j k x1 x2 y1 y2 q f1 f2 e3 e4
theorem mut_dic {K : PySem.W.Frag} {o : HO} {kvs : List (D × D)} (r : RepD K H o kvs) : Mut (some o) := by
  cases r with
  | dk r => exact True.intro
/-- what is read while the dict at i is locked -/
def lockV {α : Type} (i : Nat) (f : DEnv → R α) : DEnv → R α := fun σ => match dicOf i σ with
  | some (false, kvs) => match f (σ.set i (.dic true kvs)) with
    | .ok a σ' => match dicOf i σ' with
      | some (true, kvs') => .ok a (σ'.set i (.dic false kvs'))
      | _ => .bad
    | _ => .bad
  | _ => .bad
theorem lock_in {α : Type} {i : Nat} {f : DEnv → R α} {Q : α → DEnv → Prop} {W : Nat → DEnv → Prop} (m : Mt M σd σ H) (h : wpR (lockV i f σd) Q W) :
    ∃ (d : Addr) (u : HO), H d = some u ∧ Mut (some u) ∧ σ[i]? = some (some (.ref d)) ∧ ∀ od, ∃ σd1, Mt M σd1 σ (upd H d (.frz od u)) ∧ IsDic u ∧
      wpR (f σd1) (fun a σ' => ∃ kvs', σ'[i]? = some (.dic true kvs') ∧ Q a (σ'.set i (.dic false kvs'))) W := by
  unfold lockV at h
  split at h
  · rename_i kvs hc
    have hi := dicOf_eq hc
    obtain ⟨p, o, u, h1, h2, h3, h4, h5⟩ := m.dic.gt i false kvs hi
    obtain rfl : u = o := h3
    refine ⟨p, u, h2, mut_dic h4, h1, fun od => ⟨_, m.putD hi h1 h2 h4.isDic (lk' := true) (o' := u) (show ∃ od', HO.frz od u = .frz od' u from ⟨od, rfl⟩) (h4.ext (Ext.wrD h2 h4.isDic)), h4.isDic, ?_⟩⟩
    split at h
    · rename_i a σ' hf
      rw [hf]
      split at h
      · rename_i kvs' hc'
        exact ⟨kvs', dicOf_eq hc', h⟩
      · exact h.elim
    · exact h.elim
  · exact h.elim
theorem ext_free {d : Addr} {u : HO} {od : Obj} {H H' : Hp} (h : H d = some u) (io : IsDic u) (ex : Ext (upd H d (.frz od u)) H') : H' d = some (.frz od u) ∧ Ext H (upd H' d u) := by
  refine ⟨ex.frz _ _ _ upd_same, fun b xs q => ?_, fun b o w q => ?_⟩
  · have nb : b ≠ d := ne_of q h (by intro z; subst z; exact io)
    rw [upd_ne nb]
    exact ex.tup _ _ (by rw [upd_ne nb]; exact q)
  · have nb : b ≠ d := ne_of q h (by intro z; subst z; exact io)
    rw [upd_ne nb]
    exact ex.frz _ _ _ (by rw [upd_ne nb]; exact q)
variable {e : Expr}
theorem sf_lockD {i : Nat} {f : DEnv → R (List D)} (h : SF X M e f) : SF X M e (lockV i f) :=
  PE.weak (pe_lock h) fun σ H Q ⟨σd, m, q⟩ => by
    obtain ⟨d, u, hd, mu, hs, q2⟩ := lock_in m q
    refine ⟨d, u, hd, mu, fun od => ?_⟩
    obtain ⟨σd1, m1, io, q3⟩ := q2 od
    refine ⟨σd1, m1, wpR_mono q3 fun ds σ' ⟨kvs', hk, q4⟩ p xs H' ex hp ra m' fr => ?_⟩
    obtain ⟨f1, f2⟩ := ext_free hd io ex
    have m2 := (m'.freeD hk hs f1).2
    refine ⟨f1, q4 p xs (upd H' d u) f2 ?_ (RepAll.monoL (ExtL.free f1 io) _ _ ra) m2 ⟨fr.ent, fr.tap, fun j es e => ?_⟩⟩
    · rw [upd_ne (ne_of hp f1 (by intro z; cases z))]; exact hp
    · rcases getset e with ⟨rfl, e0⟩ | ⟨_, e⟩
      · cases e0
      · exact fr.own j es e
theorem se_lockD {i : Nat} {f : DEnv → R D} (h : SE X M e f) : SE X M e (lockV i f) :=
  PE.weak (pe_lock h) fun σ H Q ⟨σd, m, q⟩ => by
    obtain ⟨d, u, hd, mu, hs, q2⟩ := lock_in m q
    refine ⟨d, u, hd, mu, fun od => ?_⟩
    obtain ⟨σd1, m1, io, q3⟩ := q2 od
    refine ⟨σd1, m1, wpR_mono q3 fun a σ' ⟨kvs', hk, q4⟩ v H' ex rv m' => ?_⟩
    obtain ⟨f1, f2⟩ := ext_free hd io ex
    exact ⟨f1, q4 v (upd H' d u) f2 (Rep.monoL (ExtL.free f1 io) _ _ rv) (m'.freeD hk hs f1).2⟩
/-! ### the keys walked -/
theorem rep_key {K : PySem.W.Frag} {kd : D} {k : L2.Key} (h : keyD kd = some k) : Rep K H (kV k) kd := by
  cases kd <;> simp only [keyD, Option.some.injEq, reduceCtorEq] at h
  · subst h; exact .int _
  · subst h; exact .str _
theorem RepKs.at {K : PySem.W.Frag} : ∀ {ks : List (L2.Key × V)} {kvs : List (D × D)} {n : Nat} {k : L2.Key} {v : V}, RepKs K H ks kvs → ks[n]? = some (k, v) → ∃ kd d, kvs[n]? = some (kd, d) ∧ keyD kd = some k ∧ Rep K H v d
  | _, _, _, _, _, .nil, e => by simp at e
  | _, _, 0, _, _, .cons q r s, e => by
    simp only [List.getElem?_cons_zero, Option.some.injEq, Prod.mk.injEq] at e
    obtain ⟨rfl, rfl⟩ := e
    exact ⟨_, _, rfl, q, r⟩
  | _, _, n + 1, _, _, .cons q r s, e => by
    obtain ⟨kd, d, h1, h2⟩ := s.at (n := n) (by simpa using e)
    exact ⟨kd, d, by simpa using h1, h2⟩
theorem itK {K : PySem.W.Frag} {p : Addr} {od : Obj} {ks : List (L2.Key × V)} {kvs : List (D × D)} (hp : H p = some (.frz od (.dK ks))) (r : RepKs K H ks kvs) : ItD K H (Itk p od ks) (kvs.map (·.1)) where
  go := fun H' n d ex e => by
    have hn : n < ks.length := by
      have := (List.getElem?_eq_some_iff.mp e).1
      rw [List.length_map] at this
      rw [r.length]; exact this
    exact ⟨ex.frz _ _ _ hp, hn⟩
  yld := fun H' n d v H2 ex e y => by
    obtain ⟨rfl, k, w, h1, rfl⟩ := y
    obtain ⟨kd, d', g1, g2, g3⟩ := r.at h1
    rw [List.getElem?_map, g1] at e
    cases e
    exact ⟨Same.refl _, rep_key g2⟩
  stop := fun H' ex => ⟨ex.frz _ _ _ hp, by rw [List.length_map, r.length]; exact Nat.le_refl _⟩
@[simp] def dkeysV (i : Nat) : DEnv → R (List D) := fun σ => match dicOf i σ with
  | some (true, kvs) => .ok (kvs.map (·.1)) σ
  | _ => .bad
theorem si_dkeys {i : Nat} {x : Str} {tg : Expr} {p1 : Pos} (hK : X.K = M.K) (hN : X.N[i]? = some x) (hv : Vis X.env.scope x) (hd : (x == ("__debug__" : Str)) = false := by decide) (hcd : (x == ("__classdict__" : Str)) = false := by decide) :
    SI X M tg (.Name x p1) (dkeysV i) := by
  have base : PE X (.Name x p1) (tVar i) := pe_var hN hv hd hcd
  refine PI.weak (pi_keys base) fun σ H Q ⟨σd, m, q⟩ => ?_
  unfold dkeysV at q
  split at q
  · rename_i kvs hc
    obtain ⟨p, o, u, h1, h2, h3, h4, h5⟩ := m.dic.gt i true kvs (dicOf_eq hc)
    obtain ⟨od, rfl⟩ := (show ∃ od, u = .frz od o from h3)
    cases h4 with
    | @dk ks _ rk => exact ⟨.ref p, h1, p, od, rfl, .inl ⟨ks, h2, q _ H (Ext.refl H) m (itK h2 rk)⟩⟩
  · exact q.elim
/-! ### {k: e} -/
/-- no exception leaves -/
@[simp] def calmR {α : Type} (x : R α) : R α := match x with
  | .ok a σ => .ok a σ
  | _ => .bad
theorem wpR_calm {α : Type} {x : R α} {Q : α → DEnv → Prop} {W W' : Nat → DEnv → Prop} (h : wpR (calmR x) Q W) : wpR x Q W' := by
  cases x with
  | ok a σ => exact h
  | exc c σ => exact h.elim
  | bad => exact h.elim
@[simp] def oDic1 (i : Nat) (g f : DEnv → R D) : DEnv → O := fun σ => (calmR (g σ)).thn fun kd σ1 => (calmR (f σ1)).thn fun d σ2 => if (keyD kd).isSome = true then setDic i [(kd, d)] σ2 else .bad
/-- the empty dict at p is to stay as it is -/
theorem Mt.guardD {p : Addr} (m : Mt M σd σ H) (hp : H p = none) : Mt (M.blk (upd M.H0 p (.dK []))) σd σ (upd H p (.dK [])) := by
  have m1 := m.same (same_upd (o := .dK []) hp)
  have ne : ∀ q o, H q = some o → q ≠ p := fun q o h z => by rw [z, hp] at h; cases h
  exact ⟨m1.len, m1.val, fun i ds e => by
    obtain ⟨q, ys, h1, h2, h3, h4, h5⟩ := m1.own i ds e
    obtain ⟨q', ys', h1', h2', _⟩ := m.own i ds e
    rw [h1] at h1'
    cases h1'
    refine ⟨q, ys, h1, h2, h3, ?_, h5⟩
    show upd M.H0 p (.dK []) q = none
    rw [upd_ne (ne q _ h2')]
    exact h4, m1.tap, m1.dj, fun b o e ht => by
    have e : upd M.H0 p (.dK []) b = some o := e
    by_cases hb : b = p
    · subst hb
      rw [upd_same] at e
      cases e
      exact .inl upd_same
    · rw [upd_ne hb] at e
      exact m1.kept b o e ht, m1.tabs, m1.tape, m1.tapOne, ⟨fun i l ks e => by
    obtain ⟨q, o, u, h1, h2, h3, h4, h5⟩ := m1.dic.gt i l ks e
    obtain ⟨q', _, _, h1', h2', _⟩ := m.dic.gt i l ks e
    rw [h1] at h1'
    cases h1'
    refine ⟨q, o, u, h1, h2, h3, h4, ?_⟩
    show upd M.H0 p (.dK []) q = none
    rw [upd_ne (ne q _ h2')]
    exact h5, m1.dic.dj⟩⟩
/-- .. and is filled and named behind that -/
theorem Mt.fillD {i : Nat} {σd' : DEnv} {p : Addr} {ks : List (L2.Key × V)} {kvs : List (D × D)} (m : Mt (M.blk (upd M.H0 p (.dK []))) σd σ H) (h0 : M.H0 p = none) (hT : M.tape ≠ some p) (hc : setC i (.dic false kvs) σd = some σd') (r : RepKs M.K H ks kvs) :
    H p = some (.dK []) ∧ Ext H (upd H p (.dK ks)) ∧ Mt M σd' (σ.set i (some (.ref p))) (upd H p (.dK ks)) := by
  have hH : H p = some (.dK []) := by
    rcases m.kept p (.dK []) (show upd M.H0 p (.dK []) p = _ from upd_same) hT with q | ⟨_, _, e, _⟩
    · exact q
    · cases e
  have ex : Ext H (upd H p (.dK ks)) := Ext.wrD hH True.intro
  have ne0 : ∀ q, upd M.H0 p (.dK []) q = none → q ≠ p ∧ M.H0 q = none := fun q n => by
    have : q ≠ p := fun z => by subst z; rw [upd_same] at n; cases n
    rw [upd_ne this] at n
    exact ⟨this, n⟩
  obtain ⟨rfl, hi, hn⟩ := setC_spec hc
  have hi' : i < σ.length := by rw [← m.len]; exact hi
  have look : ∀ j, i ≠ j → (σ.set i (some (.ref p)))[j]? = σ[j]? := fun j ne => List.getElem?_set_ne ne
  have noD : ∀ (j : Nat) (l : Bool) (k : List (D × D)), σd[j]? = some (Cell.dic l k) → σ[j]? ≠ some (some (V.ref p)) := fun j l k e z => by
    obtain ⟨q, _, _, h1, _, _, _, h5⟩ := m.dic.gt j l k e
    rw [z] at h1
    cases h1
    exact (ne0 p h5).1 rfl
  refine ⟨hH, ex, by rw [List.length_set, List.length_set]; exact m.len, fun j e q => ?_, fun j es q => ?_, fun j es q => ?_, fun j k a b p' q1 q2 q3 q4 => ?_, fun b o e1 e2 => ?_, fun P hP => ?_, fun t ht => ?_, fun j k a b q1 q2 => ?_, ⟨fun j l ks e => ?_, fun j k l l' a b q e1 e2 e3 e4 => ?_⟩⟩
  · rcases getset q with ⟨rfl, e0⟩ | ⟨ne, q⟩
    · cases e0
    · obtain ⟨w, h1, h2⟩ := m.val j e q
      exact ⟨w, by rw [look j ne]; exact h1, h2.ext ex⟩
  · rcases getset q with ⟨rfl, e0⟩ | ⟨ne, q⟩
    · cases e0
    · obtain ⟨p', xs, h1, h2, h3, h4, h5⟩ := m.own j es q
      exact ⟨p', xs, by rw [look j ne]; exact h1, by rw [upd_ne (ne_of h2 hH (by intro z; cases z))]; exact h2, h3.ext ex, (ne0 p' h4).2, h5⟩
  · rcases getset q with ⟨rfl, e0⟩ | ⟨ne, q⟩
    · cases e0
    · obtain ⟨p', xs, h1, h2, h3, h4⟩ := m.tap j es q
      exact ⟨p', xs, by rw [look j ne]; exact h1, by rw [upd_ne (ne_of h2 hH (by intro z; cases z))]; exact h2, h3.ext ex, h4⟩
  · rcases getset q1 with ⟨rfl, e0⟩ | ⟨n1, q1⟩
    · cases e0
    · rcases getset q2 with ⟨rfl, e0⟩ | ⟨n2, q2⟩
      · cases e0
      · rw [look j n1] at q3
        rw [look k n2] at q4
        exact m.dj j k a b p' q1 q2 q3 q4
  · have hb : b ≠ p := fun z => by subst z; rw [h0] at e1; cases e1
    rw [upd_ne hb]
    exact m.kept b o (show upd M.H0 p (.dK []) b = some o by rw [upd_ne hb]; exact e1) e2
  · obtain ⟨ps, e, t⟩ := m.tabs P hP
    exact ⟨ps, by rw [upd_ne (ne_of e hH (by intro z; cases z))]; exact e, t⟩
  · obtain ⟨ds, q⟩ := m.tape t ht
    refine ⟨ds, ?_⟩
    rw [List.getElem?_set_ne (fun z => by subst z; exact hn ds q)]
    exact q
  · rcases getset q1 with ⟨rfl, e0⟩ | ⟨_, q1⟩
    · cases e0
    · rcases getset q2 with ⟨rfl, e0⟩ | ⟨_, q2⟩
      · cases e0
      · exact m.tapOne j k a b q1 q2
  · rcases getset e with ⟨rfl, e0⟩ | ⟨ne, e⟩
    · cases e0
      exact ⟨p, _, _, List.getElem?_set_self hi', upd_same, rfl, .dk (r.ext ex), h0⟩
    · obtain ⟨q, oq, uq, h1, h2, h3, h4, h5⟩ := m.dic.gt j l ks e
      have := ne0 q h5
      exact ⟨q, oq, uq, by rw [look j ne]; exact h1, by rw [upd_ne this.1]; exact h2, h3, h4.ext ex, this.2⟩
  · rcases getset e1 with ⟨rfl, e0⟩ | ⟨n1, e1⟩
    · rcases getset e2 with ⟨rfl, _⟩ | ⟨n2, e2⟩
      · rfl
      · rw [List.getElem?_set_self hi'] at e3
        cases e3
        rw [look k n2] at e4
        exact absurd e4 (noD k _ _ e2)
    · rcases getset e2 with ⟨rfl, _⟩ | ⟨n2, e2⟩
      · rw [List.getElem?_set_self hi'] at e4
        cases e4
        rw [look j n1] at e3
        exact absurd e3 (noD j _ _ e1)
      · rw [look j n1] at e3
        rw [look k n2] at e4
        exact m.dic.dj j k _ _ _ _ q e1 e2 e3 e4
theorem Ok.blkM {kk : Nat} (o : Ok X M kk) (H0 : Hp) : Ok X (M.blk H0) kk := ⟨o.hK, o.calm, o.nd, o.room, takes_none fun _ _ _ _ ⟨_, _, _, _, _, z⟩ => z, o.own⟩
theorem w_dic1 {i kk : Nat} {x : Str} {kx vx : Expr} {g f : DEnv → R D} {pos p1 p2 : Pos} (o : Ok X M kk) (hi : X.N[i]? = some x) (hx : Loc X.env.scope x) (hk : ∀ H0, Ok X (M.blk H0) kk → SE X (M.blk H0) kx g) (hv : ∀ H0, Ok X (M.blk H0) kk → SE X (M.blk H0) vx f)
    (hs : swapsWith (.Dict [some kx] [vx] p1) (some (.Name x p2)) pos.line X.env = pure false := by rfl) (hf : X.fn x = true ∨ X.env.scope.names.lookup x = some .local := by first | exact .inl rfl | exact .inr rfl | assumption) :
    SS X M (.Assign [.Name x p2] (.Dict [some kx] [vx] p1) pos) (oDic1 i g f) := by
  have any : ∀ {y : Expr} {h : DEnv → R D}, (∀ H0, Ok X (M.blk H0) kk → SE X (M.blk H0) y h) → PE X y (fun σ H Q => ∃ H0, tE (M.blk H0) h σ H Q) := fun k => ⟨fun pins s σ H Q I ⟨H0, z⟩ => (k H0 (o.blkM H0)).run pins s σ H Q I z⟩
  have disp := pe_disp (pos := p1) (pps_cons (pos := p1) (any hk) (any hv) pps_nil) rfl rfl (by intro z; cases z) (show 1 ≤ 15 by decide)
  refine PS.weak (ps_set o.nd hi hx disp hs hf) fun D σ H ⟨σd, m, q⟩ => fun p hp => ?_
  have fr := m.fresh hp
  unfold oDic1 at q
  refine ⟨upd M.H0 p (.dK []), σd, m.guardD hp, wpR_mono (wpR_calm (wpR_thn q)) fun kd σ1 q1 y H1 e1 ry m1 => ?_⟩
  refine ⟨upd M.H0 p (.dK []), σ1, m1, wpR_mono (wpR_calm (wpR_thn q1)) fun d σ2 q2 z H2 e2 rz m2 => ?_⟩
  split at q2
  · rename_i hks
    obtain ⟨κ, hκ⟩ := Option.isSome_iff_exists.mp hks
    unfold setDic at q2
    split at q2
    · rename_i σ' hc
      have one : RepKs M.K H2 [(κ, z)] [(kd, d)] := .cons hκ rz .nil
      obtain ⟨h1, h2, h3⟩ := m2.fillD fr.ent fr.tap hc one
      refine ⟨h1, [(κ, z)], by rw [keyD_rep ry hκ]; rfl, by simp, ?_⟩
      have eH : Ext H (upd H2 p (.dK [(κ, z)])) := (Ext.new hp).trans (e1.trans (e2.trans h2))
      exact q2 _ _ eH h3
    · exact q2.elim
  · exact q2.elim
end
end PL
set_option Elab.async false
set_option linter.all false
set_option maxRecDepth 100000
set_option maxHeartbeats 1000000
set_option autoImplicit false
/-! A new list held while something else is read; list * int. -/
namespace PL
open PySem PySem.Spec PyProof.Rows L2
section
variable {X : Cx} {M : Mx} {σd : DEnv} {σ : L2.St} {H : Hp} {kk : Nat}
/-- the new list at p is to stay as it is -/
theorem Mt.guardL {p : Addr} {xs : List V} (m : Mt M σd σ H) (hp : H p = some (.lst xs)) (fr : Fresh M σd σ p) : Mt (M.blk (upd M.H0 p (.lst xs))) σd σ H where
  len := m.len
  val := m.val
  own := fun i ds e => by
    obtain ⟨q, ys, h1, h2, h3, h4, h5⟩ := m.own i ds e
    refine ⟨q, ys, h1, h2, h3, ?_, h5⟩
    show upd M.H0 p (.lst xs) q = none
    rw [upd_ne fun z => by subst z; exact fr.own i ds e h1]
    exact h4
  tap := m.tap
  dj := m.dj
  kept := fun b o e ht => by
    have e : upd M.H0 p (.lst xs) b = some o := e
    by_cases hb : b = p
    · subst hb
      rw [upd_same] at e
      cases e
      exact .inl hp
    · rw [upd_ne hb] at e
      exact m.kept b o e ht
  tabs := m.tabs
  tape := m.tape
  tapOne := m.tapOne
  dic := m.dic.h0 fun q u hu nl h0 => by
    show upd M.H0 p (.lst xs) q = none
    rw [upd_ne fun z => by subst z; rw [hp] at hu; cases hu; exact nl _ rfl]
    exact h0
theorem Mt.unguardL {p : Addr} {xs : List V} (m : Mt (M.blk (upd M.H0 p (.lst xs))) σd σ H) (h0 : M.H0 p = none) (hT : M.tape ≠ some p) : H p = some (.lst xs) ∧ Fresh M σd σ p ∧ Mt M σd σ H := by
  have ne0 : ∀ q, upd M.H0 p (.lst xs) q = none → q ≠ p ∧ M.H0 q = none := fun q n => by
    have : q ≠ p := fun z => by subst z; rw [upd_same] at n; cases n
    rw [upd_ne this] at n
    exact ⟨this, n⟩
  have hp : H p = some (.lst xs) := by
    rcases m.kept p (.lst xs) (show upd M.H0 p (.lst xs) p = _ from upd_same) hT with q | ⟨_, _, e, _⟩
    · exact q
    · cases e
  refine ⟨hp, ⟨h0, hT, fun i ds e z => ?_⟩, ⟨m.len, m.val, fun i ds e => ?_, m.tap, m.dj, fun b o e ht => ?_, m.tabs, m.tape, m.tapOne, m.dic.h0 fun q u _ _ k => (ne0 q k).2⟩⟩
  · obtain ⟨q, ys, h1, h2, h3, h4, h5⟩ := m.own i ds e
    rw [z] at h1
    cases h1
    exact (ne0 p h4).1 rfl
  · obtain ⟨q, ys, h1, h2, h3, h4, h5⟩ := m.own i ds e
    exact ⟨q, ys, h1, h2, h3, (ne0 q h4).2, h5⟩
  · refine m.kept b o (show upd M.H0 p (.lst xs) b = some o from ?_) ht
    rw [upd_ne fun z => by subst z; rw [h0] at e; cases e]
    exact e
@[simp] def repF (fs : DEnv → R (List D)) (g : DEnv → R D) : DEnv → R (List D) := fun σ => (fs σ).bind fun ds σ1 => (calmR (g σ1)).bind fun d σ2 => match d with
  | .int k => if (decide (0 ≤ k) && decide (k ≤ 1000000) && decide (ds.length * k.toNat ≤ 1000000)) = true then .ok (List.replicate k.toNat ds).flatten σ2 else .bad
  | _ => .bad
/-- [..] * k -/
theorem w_rep {a b : Expr} {fs : DEnv → R (List D)} {g : DEnv → R D} {pos : Pos} (o : Ok X M kk) (ha : SF X M a fs) (hb : ∀ H0, Ok X (M.blk H0) kk → SE X (M.blk H0) b g) : SF X M (.BinOp a .Mult b pos) (repF fs g) := by
  have hb2 : PE X b (fun σ H Q => ∃ H0, tE (M.blk H0) g σ H Q) := ⟨fun pins s σ H Q I ⟨H0, z⟩ => (hb H0 (o.blkM H0)).run pins s σ H Q I z⟩
  refine PE.weak (pe_op op_rep ha hb2) fun σ H Q ⟨σd, m, q⟩ => ⟨σd, m, wpR_mono (wpR_bind.mp q) fun ds σ1 q1 p xs H1 e1 hp ra m1 fr => ?_⟩
  refine ⟨upd M.H0 p (.lst xs), σ1, m1.guardL hp fr, wpR_mono (wpR_calm (W' := fun _ _ => False) (wpR_bind.mp q1)) fun d σ2 q2 v H2 e2 rv m2 => ?_⟩
  split at q2
  · rename_i k
    split at q2
    · rename_i hc
      simp only [Bool.and_eq_true, decide_eq_true_eq] at hc
      obtain ⟨h1, f1, m3⟩ := m2.unguardL fr.ent fr.tap
      cases rv
      have hl := ra.length
      have sl := sizeLine_eq
      refine ⟨p, k, xs, rfl, rfl, h1, by omega, by omega, by rw [hl]; omega, fun p2 hp2 => ?_⟩
      have sm : Same H2 (upd H2 p2 (.lst (List.replicate k.toNat xs).flatten)) := same_upd hp2
      exact q2 p2 _ _ (e1.trans (e2.trans (Ext.same sm))) upd_same (((ra.ext e2).rep _).ext (Ext.same sm)) (m3.same sm) (m3.fresh hp2)
    · exact q2.elim
  · exact q2.elim
end
end PL
set_option Elab.async false
set_option linter.all false
set_option maxRecDepth 100000
set_option maxHeartbeats 1000000
set_option autoImplicit false
/-! min, max of a list or tuple of data; sum of whole numbers. -/
namespace PL
open PySem PySem.Spec PyProof.Rows L2
mutual
theorem reads_one {h : Heap} : ∀ (d d' : D) (v : Value) (as as' : List Addr), Reads h v d as → Reads h v d' as' → d = d'
  | .none, _, _, _, _, a, b => by cases a; cases b; rfl
  | .bool x, _, _, _, _, a, b => by cases a; cases b; rfl
  | .int i, _, _, _, _, a, b => by cases a; cases b; rfl
  | .str x, _, _, _, _, a, b => by cases a; cases b; rfl
  | .list xs, _, _, _, _, a, b => by
    cases a with
    | list g1 g2 g3 g4 =>
      cases b with
      | list k1 k2 k3 k4 =>
        rw [g1] at k1; cases k1
        rw [g3] at k3; cases k3
        rw [reads_all xs _ _ _ _ g4 k4]
      | tuple k1 k2 k3 k4 =>
        rw [g1] at k1; cases k1
        rw [g2] at k2; exact absurd k2 (by simp)
      | dict k1 k2 k3 k4 k5 =>
        rw [g1] at k1; cases k1
        rw [g2] at k2; exact absurd k2 (by simp)
  | .tuple xs, _, _, _, _, a, b => by
    cases a with
    | tuple g1 g2 g3 g4 =>
      cases b with
      | tuple k1 k2 k3 k4 =>
        rw [g1] at k1; cases k1
        rw [g3] at k3; cases k3
        rw [reads_all xs _ _ _ _ g4 k4]
      | list k1 k2 k3 k4 =>
        rw [g1] at k1; cases k1
        rw [g2] at k2; exact absurd k2 (by simp)
      | dict k1 k2 k3 k4 k5 =>
        rw [g1] at k1; cases k1
        rw [g2] at k2; exact absurd k2 (by simp)
  | .dict kvs, d', _, _, _, a, b => by
    cases a with
    | dict g1 g2 g3 g4 g5 =>
      cases b with
      | tuple k1 k2 k3 k4 =>
        rw [g1] at k1; cases k1
        rw [g2] at k2; exact absurd k2 (by simp)
      | list k1 k2 k3 k4 =>
        rw [g1] at k1; cases k1
        rw [g2] at k2; exact absurd k2 (by simp)
      | @dict _ _ _ _ kvs' _ _ k1 k2 k3 k4 k5 =>
        rw [g1] at k1; cases k1
        rw [g3] at k3; cases k3
        rw [reads_two kvs kvs' _ _ _ _ _ _ g4 g5 k4 k5]
theorem reads_all {h : Heap} : ∀ (ds ds' : List D) (vs : List Value) (as as' : List Addr), ReadsAll h vs ds as → ReadsAll h vs ds' as' → ds = ds'
  | [], _, _, _, _, a, b => by cases a; cases b; rfl
  | d :: ds, _, _, _, _, a, b => by
    cases a with
    | cons a1 a2 =>
      cases b with
      | cons b1 b2 => rw [reads_one d _ _ _ _ a1 b1, reads_all ds _ _ _ _ a2 b2]
theorem reads_two {h : Heap} : ∀ (kvs kvs' : List (D × D)) (ks vs : List Value) (a1 a2 b1 b2 : List Addr), ReadsAll h ks (kvs.map (·.1)) a1 → ReadsAll h vs (kvs.map (·.2)) a2 → ReadsAll h ks (kvs'.map (·.1)) b1 → ReadsAll h vs (kvs'.map (·.2)) b2 → kvs = kvs'
  | [], kvs', _, _, _, _, _, _, p, q, r, s => by
    cases p
    cases kvs' with
    | nil => rfl
    | cons x xs => cases r
  | (k, v) :: kvs, kvs', _, _, _, _, _, _, p, q, r, s => by
    cases p with
    | cons p1 p2 =>
      cases q with
      | cons q1 q2 =>
        cases kvs' with
        | nil => cases r
        | cons x xs =>
          cases r with
          | cons r1 r2 =>
            cases s with
            | cons s1 s2 =>
              have e1 := reads_one k _ _ _ _ p1 r1
              have e2 := reads_one v _ _ _ _ q1 s1
              rw [reads_two kvs xs _ _ _ _ _ _ p2 q2 r2 s2, e1, e2]
end
/-- what can be compared -/
def okCmp (ds : List D) : Bool := (ds.all fun a => ds.all fun b => PySem.W.alike a b) && (ds.all fun d => match d with | .none => false | _ => true) && decide (PyData.depthAll ds ≤ 60)
def cMinL : List D → Option D
  | [.list (x :: xs)] => if okCmp (x :: xs) = true then some (PySem.W.minD x xs) else none
  | [.tuple (x :: xs)] => if okCmp (x :: xs) = true then some (PySem.W.minD x xs) else none
  | _ => none
def cMaxL : List D → Option D
  | [.list (x :: xs)] => if okCmp (x :: xs) = true then some (PySem.W.maxD x xs) else none
  | [.tuple (x :: xs)] => if okCmp (x :: xs) = true then some (PySem.W.maxD x xs) else none
  | _ => none
theorem okCmp_of {ds : List D} (h : okCmp ds = true) : PySem.W.AlikeAll ds ∧ PyData.depthAll ds ≤ 60 := by
  unfold okCmp at h
  simp only [Bool.and_eq_true, List.all_eq_true, decide_eq_true_eq] at h
  refine ⟨⟨fun x hx y hy => h.1.1 x hx y hy, fun x hx e => ?_⟩, h.2⟩
  have := h.1.2 x hx
  rw [e] at this
  cases this
section
variable {X : Cx}
theorem vals_rep {K : PySem.W.Frag} {H : Hp} : ∀ {xs : List V} {us : List Value} {ds : List D} {i : Nat} {u : Value}, Vals xs us → RepAll K H xs ds → us[i]? = some u → ∃ x d, RelV x u ∧ Rep K H x d ∧ ds[i]? = some d
  | _, _, _, _, _, .nil, _, e => by simp at e
  | _, _, _, 0, _, .cons r rs, .cons q qs, e => by
    simp only [List.getElem?_cons_zero, Option.some.injEq] at e
    subst e
    exact ⟨_, _, r, q, rfl⟩
  | _, _, _, i + 1, _, .cons r rs, .cons q qs, e => by
    obtain ⟨x, d, h1, h2, h3⟩ := vals_rep (i := i) rs qs (by simpa using e)
    exact ⟨x, d, h1, h2, by simpa using h3⟩
theorem best_ok {pins : List (Addr × Obj)} {σ : L2.St} {H : Hp} {s : Shared} {Q : VK} {xs : List V} {us : List Value} {ds : List D} {z : D} (I : Inv X pins σ H s) (rv : Vals xs us) (ra : RepAll X.K H xs ds) (q : ∀ v H', Same H H' → Rep X.K H' v z → Q v H')
    (i : Nat) (v : Value) (h' : Heap) (tk : Nat) (bs : List Addr) (hv : us.toArray[i]? = some v) (hr : Reads h' v z bs) (hk : ∀ b o, s.heap.get? b = some o → h'.get? b = some o) : EP X pins σ Q v { s with heap := h', toks := tk } := by
  obtain ⟨x, d, h1, h2, h3⟩ := vals_rep (i := i) rv ra (by simpa using hv)
  have I2 : Inv X pins σ H { s with heap := h', toks := tk } := I.kept hk
  obtain ⟨as, r2⟩ := Dp.reads I2 d x v (h2.dp _ _) h1
  have e := reads_one d z v as bs r2 hr
  subst e
  exact ⟨x, H, I2, h1, q x H (Same.refl _) h2⟩
theorem cd_minL (hc : X.calm = true) (hu : X.A.units + 64 < cLine) : CallD X (.builtin "min") cMinL := by
  intro pins s σ H xs us Q I rx ⟨ds, z, r, hz, q⟩
  unfold cMinL at hz
  split at hz
  · split at hz
    · rename_i hok
      cases hz
      obtain ⟨al, dp⟩ := okCmp_of hok
      cases r with
      | cons r1 r2 =>
        cases r2
        cases r1 with
        | @lst a ys _ h1 h2 =>
          obtain ⟨its, rv, pl, hlen⟩ := I.list h1.sq
          rw [Vals.ref1 rx]
          obtain ⟨as, hra⟩ := Dp.readsAll I _ _ _ (h2.dp _ _) rv
          exact PySem.W.min_list_data (I.ok.hd hc) pl.isList (by simpa using hra) al (by omega) fun i v h' tk bs hv hr hk => best_ok I rv h2 q i v h' tk bs hv hr hk
    · cases hz
  · split at hz
    · rename_i hok
      cases hz
      obtain ⟨al, dp⟩ := okCmp_of hok
      cases r with
      | cons r1 r2 =>
        cases r2
        cases r1 with
        | @tup a ys _ h1 h2 =>
          obtain ⟨its, rv, pl, hlen⟩ := I.tuple h1
          rw [Vals.ref1 rx]
          obtain ⟨as, hra⟩ := Dp.readsAll I _ _ _ (h2.dp _ _) rv
          exact PySem.W.min_tuple_data (I.ok.hd hc) (show s.heap.IsTuple a its.toArray from pl) (by simpa using hra) al (by omega) fun i v h' tk bs hv hr hk => best_ok I rv h2 q i v h' tk bs hv hr hk
    · cases hz
  · cases hz
theorem cd_maxL (hc : X.calm = true) (hu : X.A.units + 64 < cLine) : CallD X (.builtin "max") cMaxL := by
  intro pins s σ H xs us Q I rx ⟨ds, z, r, hz, q⟩
  unfold cMaxL at hz
  split at hz
  · split at hz
    · rename_i hok
      cases hz
      obtain ⟨al, dp⟩ := okCmp_of hok
      cases r with
      | cons r1 r2 =>
        cases r2
        cases r1 with
        | @lst a ys _ h1 h2 =>
          obtain ⟨its, rv, pl, hlen⟩ := I.list h1.sq
          rw [Vals.ref1 rx]
          obtain ⟨as, hra⟩ := Dp.readsAll I _ _ _ (h2.dp _ _) rv
          exact PySem.W.max_list_data (I.ok.hd hc) pl.isList (by simpa using hra) al (by omega) fun i v h' tk bs hv hr hk => best_ok I rv h2 q i v h' tk bs hv hr hk
    · cases hz
  · split at hz
    · rename_i hok
      cases hz
      obtain ⟨al, dp⟩ := okCmp_of hok
      cases r with
      | cons r1 r2 =>
        cases r2
        cases r1 with
        | @tup a ys _ h1 h2 =>
          obtain ⟨its, rv, pl, hlen⟩ := I.tuple h1
          rw [Vals.ref1 rx]
          obtain ⟨as, hra⟩ := Dp.readsAll I _ _ _ (h2.dp _ _) rv
          exact PySem.W.max_tuple_data (I.ok.hd hc) (show s.heap.IsTuple a its.toArray from pl) (by simpa using hra) al (by omega) fun i v h' tk bs hv hr hk => best_ok I rv h2 q i v h' tk bs hv hr hk
    · cases hz
  · cases hz
/-- sum of a list of whole numbers -/
def cSum : List D → Option D
  | [.list ds] => (ints? ds).map fun ns => .int ns.sum
  | _ => none
theorem ints_rep {K : PySem.W.Frag} {H : Hp} : ∀ {xs : List V} {ds : List D} {ns : List Int}, RepAll K H xs ds → ints? ds = some ns → xs = ns.map V.int
  | _, _, _, .nil, h => by
    simp only [ints?, Option.some.injEq] at h
    subst h
    rfl
  | _, _, ns, @RepAll.cons _ _ v vs d ds r rs, h => by
    cases d with
    | int i =>
      cases r
      cases hi : ints? ds with
      | none => simp [ints?, hi] at h
      | some ms =>
        simp only [ints?, hi, Option.some.injEq] at h
        first
          | (subst h; rw [ints_rep rs hi]; rfl)
          | (simp at h; subst h; rw [ints_rep rs hi]; rfl)
    | _ => simp [ints?] at h
theorem cd_sum (hc : X.calm = true) : CallD X (.builtin "sum") cSum := CallR.weak (cr_sum hc) fun xs H Q ⟨ds, z, r, hz, q⟩ => by
  unfold cSum at hz
  split at hz
  · rename_i es
    obtain ⟨ns, hn, rfl⟩ := Option.map_eq_some_iff.mp hz
    cases r with
    | cons r1 r2 =>
      cases r2
      cases r1 with
      | @lst a ys _ h1 h2 =>
        have e := ints_rep h2 hn
        subst e
        exact ⟨a, ns, rfl, h1.sq, q _ H (Same.refl _) (.int _)⟩
  · cases hz
end
end PL
set_option Elab.async false
set_option linter.all false
set_option maxRecDepth 100000
set_option maxHeartbeats 1000000
set_option autoImplicit false
/-! What the printed texts lean on. -/
namespace PL
open PySem PySem.Spec PyProof.Rows L2
def visB (sc : Scope) (x : Str) : Bool := match sc.names.lookup x with
  | some .local => true
  | some .cell => true
  | some .free => true
  | _ => false
theorem vis_of {sc : Scope} {x : Str} (h : visB sc x = true) : Vis sc x := by
  unfold visB at h
  split at h
  · rename_i e; exact .inl e
  · rename_i e; exact .inr (.inl e)
  · rename_i e; exact .inr (.inr e)
  · cases h
def locB (sc : Scope) (x : Str) : Bool := match sc.names.lookup x with
  | some .local => true
  | some .cell => true
  | _ => false
theorem loc_of {sc : Scope} {x : Str} (h : locB sc x = true) : Loc sc x := by
  unfold locB at h
  split at h
  · rename_i e; exact .inl e
  · rename_i e; exact .inr e
  · cases h
@[simp] abbrev kI (i : Int) : DEnv → R D := fun σ => .ok (.int i) σ
@[simp] abbrev kB (b : Bool) : DEnv → R D := fun σ => .ok (.bool b) σ
@[simp] abbrev kN : DEnv → R D := fun σ => .ok .none σ
@[simp] abbrev kS (x : Str) : DEnv → R D := fun σ => .ok (.str x) σ
@[simp] abbrev kD (d : D) : DEnv → R D := fun σ => .ok d σ
/-! ### statements, by name -/
@[simp] abbrev oRet (f : DEnv → R D) : DEnv → O := fun σ => (f σ).thn fun d σ1 => .ret d σ1
@[simp] abbrev oRetF (f : DEnv → R (List D)) : DEnv → O := fun σ => (f σ).thn fun d σ1 => .retF d σ1
@[simp] abbrev oRetN : DEnv → O := fun σ => .ret .none σ
@[simp] abbrev oNx : DEnv → O := fun σ => .nx σ
@[simp] abbrev oBrk : DEnv → O := fun σ => .brk σ
@[simp] abbrev oCnt : DEnv → O := fun σ => .cnt σ
@[simp] abbrev oExpr (f : DEnv → R D) : DEnv → O := fun σ => (f σ).thn fun _ σ1 => .nx σ1
@[simp] abbrev oSeq (F G : DEnv → O) : DEnv → O := fun σ => (F σ).seq G
@[simp] abbrev oIf (t : DEnv → R Bool) (F G : DEnv → O) : DEnv → O := fun σ => (t σ).thn fun c σ1 => if c = true then F σ1 else G σ1
@[simp] abbrev oSet (i : Nat) (f : DEnv → R D) : DEnv → O := fun σ => (f σ).thn (setV i)
@[simp] abbrev oSetF (i : Nat) (f : DEnv → R (List D)) : DEnv → O := fun σ => (f σ).thn (setF i)
@[simp] abbrev oSetL (i : Nat) (f : DEnv → R (List D)) : DEnv → O := fun σ => (f σ).thn fun ds σ1 => setV i (.list ds) σ1
@[simp] abbrev oApp (i : Nat) (f : DEnv → R D) : DEnv → O := fun σ => match lstOf i σ with
  | some _ => (f σ).thn (appL i)
  | none => .bad
@[simp] abbrev oFor (src : DEnv → R (List D)) (g : D → DEnv → Option DEnv) (F : DEnv → O) : DEnv → O := fun σ => (src σ).thn fun ds σ1 => forF g F ds σ1
@[simp] def oAsg (f : DEnv → R D) (g : D → DEnv → Option DEnv) : DEnv → O := fun σ => (f σ).thn fun d σ1 => match g d σ1 with
  | some σ2 => .nx σ2
  | none => .bad
@[simp] abbrev oUnp (i n : Nat) (gs : List D → DEnv → Option DEnv) : DEnv → O := fun σ => match lstOf i σ with
  | some ds => if ds.length = n then (match gs ds σ with
    | some σ2 => .nx σ2
    | none => .bad) else .bad
  | none => .bad
@[simp] abbrev oSet2 (i j : Nat) (fs : DEnv → R (List D)) : DEnv → O := fun σ => (fs σ).thn (set2 i j)
@[simp] abbrev oSet3 (i j l : Nat) (fs : DEnv → R (List D)) : DEnv → O := fun σ => (fs σ).thn (set3 i j l)
@[simp] abbrev bV (f : DEnv → R D) : DEnv → R Bool := fun σ => toB (f σ)
/-! ### defs -/
@[simp] def defD (n N : Nat) (B : DEnv → O) : List D → Ans := fun ds => if ds.length = n then answers (B (startD N ds)) else .bad
@[simp] def defT (n N : Nat) (B : DEnv → O) : List D → List D → AnsT := fun tp ds => if ds.length = n then answersT (B (startT N tp ds)) else .bad
@[simp] def defF (n N : Nat) (B : DEnv → O) : List D → AnsF := fun ds => if ds.length = n then answersF (B (startD N ds)) else .bad
section
variable {P : Program} {w : World} {K : PySem.W.Frag} {mg : Str → Option Value} {base : Heap} {tabs : List Addr} {cls : Nat → Addr} {x qual : Str} {st : Stmt} {f : Addr} {fd : FuncData} {cp : Value → Prop} {N ps : List Str} {k : Nat} {B : DEnv → O}
theorem fnD_b (FN : FunP K x qual st f fd cp) (hmg : mg x = some (.ref f)) (hbi : Binds K fd ps []) (S : FnScope N ps (defScope st))
    (hB : ∀ (cdv : Value), cp cdv → ∀ (A : Around) (outer : List PySem.Env) (s : Shared) (H H0 : Hp) (E : XK) (W : Nat → DEnv → Prop) (tp : Option Addr), Ok (cxD P w K mg base N qual st f cdv A outer s H E) ⟨K, H0, tp, tabs, cls, W⟩ k →
      SSs (cxD P w K mg base N qual st f cdv A outer s H E) ⟨K, H0, tp, tabs, cls, W⟩ (defBody st) B) (n m : Nat) (hn : ps.length = n := by rfl) (hm : N.length = m := by rfl) : FnD P w K mg base tabs cls (k + 1) x (defD n m B) := by
  subst hn hm
  refine fnD_of (B := fun _ => B) FN hmg hbi S (fun ds h => ?_) (fun ds h => ⟨0, ?_⟩) fun n cdv hcp A outer s H E W o => hB cdv hcp A outer s H H E W none o
  · unfold defD at h
    split at h
    · assumption
    · exact absurd rfl h
  · unfold defD at h ⊢
    split at h
    · rename_i hl
      rw [if_pos hl]
    · exact absurd rfl h
theorem fnT_b (FN : FunP K x qual st f fd cp) (hmg : mg x = some (.ref f)) (hbi : Binds K fd ps []) (S : FnScope N ps (defScope st))
    (hB : ∀ (cdv : Value), cp cdv → ∀ (A : Around) (outer : List PySem.Env) (s : Shared) (H H0 : Hp) (E : XK) (W : Nat → DEnv → Prop) (tp : Option Addr), Ok (cxD P w K mg base N qual st f cdv A outer s H E) ⟨K, H0, tp, tabs, cls, W⟩ k →
      SSs (cxD P w K mg base N qual st f cdv A outer s H E) ⟨K, H0, tp, tabs, cls, W⟩ (defBody st) B) (n m : Nat) (hn : ps.length = n + 1 := by rfl) (hm : N.length = m := by rfl) : FnT P w K mg base tabs (k + 1) x (defT n m B) := by
  subst hm
  refine fnT_of (cls := cls) (B := fun _ => B) FN hmg hbi S (fun tp ds h => ?_) (fun tp ds h => ⟨0, ?_⟩) fun n cdv hcp A outer s H E W t o => hB cdv hcp A outer s H H E W (some t) o
  · unfold defT at h
    split at h
    · omega
    · exact absurd rfl h
  · unfold defT at h ⊢
    split at h
    · rename_i hl
      rw [if_pos hl]
    · exact absurd rfl h
theorem fnF_b (FN : FunP K x qual st f fd cp) (hmg : mg x = some (.ref f)) (hbi : Binds K fd ps []) (S : FnScope N ps (defScope st))
    (hB : ∀ (cdv : Value), cp cdv → ∀ (A : Around) (outer : List PySem.Env) (s : Shared) (H H0 : Hp) (E : XK) (W : Nat → DEnv → Prop) (tp : Option Addr), Ok (cxD P w K mg base N qual st f cdv A outer s H E) ⟨K, H0, tp, tabs, cls, W⟩ k →
      SSs (cxD P w K mg base N qual st f cdv A outer s H E) ⟨K, H0, tp, tabs, cls, W⟩ (defBody st) B) (n m : Nat) (hn : ps.length = n := by rfl) (hm : N.length = m := by rfl) : FnF P w K mg base tabs (k + 1) x (defF n m B) := by
  subst hn hm
  refine fnF_of (cls := cls) (B := fun _ => B) FN hmg hbi S (fun ds h => ?_) (fun ds h => ⟨0, ?_⟩) fun n cdv hcp A outer s H E W o => hB cdv hcp A outer s H H E W none o
  · unfold defF at h
    split at h
    · assumption
    · exact absurd rfl h
  · unfold defF at h ⊢
    split at h
    · rename_i hl
      rw [if_pos hl]
    · exact absurd rfl h

/-! ### the law -/
theorem PSs.locked {X : Cx} {M : Mx} {body : List Stmt} {B : DEnv → O} (h : SSs X M body B) {pins : List (Addr × Obj)} {s : Shared} {σ : L2.St} {H : Hp} {a : Addr} {xs : List V} {D : Ends} (I : Inv X pins σ H s) (hS : SqL X.K H a xs)
    (q : ∀ H1, Ext H H1 → (∀ P, TabG H P → TabG H1 P) → FzL X.K H1 a xs → tS M B D σ H1) : wpAny (model X.prog X.w) X.A (execs body X.env) (SP X pins D) X.xe s := by
  rcases hS with (h1 | h1) | h1
  · obtain ⟨od, I2⟩ := I.lock (d := a) (u := .lst xs) h1 trivial
    refine h.run pins s σ _ D I2 (q _ (Ext.wr h1) (fun P ⟨ps, e, t⟩ => ⟨ps, by rw [upd_ne (ne_of e h1 (by intro z; cases z))]; exact e, t⟩) (.inl ⟨od, upd_same⟩))
  · exact h.run pins s σ H D I (q H (Ext.refl H) (fun _ z => z) (.inl h1))
  · exact h.run pins s σ H D I (q H (Ext.refl H) (fun _ z => z) (.inr h1))
def spL (K : PySem.W.Frag) (tabs : List Addr) (n : Nat) (good : List Int → Prop) : Sp := fun vs H Q E => ∃ (a : Addr) (ns : List Int), vs = [.ref a] ∧ SqL K H a (ns.map V.int) ∧ ns.length ≤ n ∧ good ns ∧ (∀ P ∈ tabs, TabG H P) ∧ ∀ H', Q (.bl true) H'
theorem RepAll.ints {K : PySem.W.Frag} {H : Hp} : ∀ ns : List Int, RepAll K H (ns.map V.int) (ns.map PyData.int)
  | [] => .nil
  | n :: ns => .cons (.int n) (RepAll.ints ns)
/-- law(script) -/
theorem fnLaw {n : Nat} {good : List Int → Prop} (FN : FunP K x qual st f fd cp) (S : FnScope N ps (defScope st)) (hps : ps.length = 1) (h1 : 1 ≤ N.length)
    (hB : ∀ (cdv : Value), cp cdv → ∀ (A : Around) (outer : List PySem.Env) (s : Shared) (H H0 : Hp) (E : XK) (W : Nat → DEnv → Prop) (tp : Option Addr), Ok (cxD P w K mg base N qual st f cdv A outer s H E) ⟨K, H0, tp, tabs, cls, W⟩ k →
      SSs (cxD P w K mg base N qual st f cdv A outer s H E) ⟨K, H0, tp, tabs, cls, W⟩ (defBody st) B)
    (hL : ∀ ns : List Int, ns.length ≤ n → good ns → answers (B (startD N.length [.list (ns.map .int)])) = .ok (.bool true)) : FnOk P w K mg base (L2N.CX P w) (k + 1) f fd ps (spL K tabs n good) := by
  refine FN.okX S (fun vs H Q E h => ?_) fun cdv hcp A outer s H vs Q E hr h => ?_
  · obtain ⟨a, ns, rfl, _⟩ := h
    exact hps.symm
  obtain ⟨a, ns, rfl, hS, hn, hg, htb, hQ⟩ := h
  have hb := hB cdv hcp A outer s H (fun _ => none) E (fun _ _ => False) none (Ok.cx S rfl hr fun c σd σ H' m z => z.elim)
  have hl := hL ns hn hg
  refine ⟨fun D σ H' => σ = L2.start N [.ref a] ∧ H' = H ∧ D.rt = Q, ⟨fun pins s' σ H' D I hh => ?_⟩, rfl, rfl, rfl⟩
  obtain ⟨rfl, rfl, hD⟩ := hh
  refine PSs.locked hb I hS fun H1 e1 tb hF => ?_
  refine ⟨startD N.length [.list (ns.map .int)], ?_, ?_⟩
  · have r : RepAll K H1 [.ref a] [.list (ns.map .int)] := .cons (.lst hF (RepAll.ints ns)) .nil
    have m := Mt.start (K := K) (tabs := tabs) (cls := cls) (W := fun _ _ => False) (N := N) r (by simpa using h1) (fun P hP => tb P (htb P hP))
    exact ⟨m.len, m.val, fun i ds e => by
      obtain ⟨p, ys, g1, g2, g3, g4, g5⟩ := m.own i ds e
      exact ⟨p, ys, g1, g2, g3, rfl, g5⟩, m.tap, m.dj, fun b o e _ => absurd e (by intro z; cases z), m.tabs, m.tape, m.tapOne, m.dic.h0 fun _ _ _ _ _ => rfl⟩
  · cases hbx : B (startD N.length [.list (ns.map .int)]) with
    | ret d σ1 =>
      rw [hbx] at hl
      cases hl
      intro v σ' H' e r m
      cases r
      rw [hD]
      exact hQ H'
    | nx σ1 => rw [hbx] at hl; cases hl
    | exc c σ1 => rw [hbx] at hl; cases hl
    | retF d σ1 => rw [hbx] at hl; cases hl
    | brk σ1 => rw [hbx] at hl; cases hl
    | cnt σ1 => rw [hbx] at hl; cases hl
    | bad => rw [hbx] at hl; cases hl
end
end PL
set_option Elab.async false
set_option linter.all false
set_option maxRecDepth 100000
set_option maxHeartbeats 1000000
set_option autoImplicit false
/-! Rules with the place handed on; the end. -/
namespace PL
open PySem PySem.Spec PyProof.Rows L2
section
variable {X : Cx} {M : Mx} {k : Nat} {elt tg it tg1 it1 : Expr} {ifs ifs1 : List Expr} {scope : Scope} {own : List (Str × Nat)} {pos spos py : Pos} {is is1 vs1 : List Nat} {src src1 : DEnv → R (List D)} {g g1 : D → DEnv → Option DEnv} {t t1 : DEnv → R Bool} {f : DEnv → R D}
/-- under a comprehension's block -/
abbrev InBlk (X : Cx) (M : Mx) (scope : Scope) (k : Nat) (p : Cx → Mx → Prop) : Prop := ∀ (H0 : Hp) (s : Shared) (H : Hp) (C : Addr) (cl : List (Str × Addr)) (fp : List Addr),
  Ok (X.blk s H scope (compEnvC scope cl C X.env) fp) (M.blk H0) k → p (X.blk s H scope (compEnvC scope cl C X.env) fp) (M.blk H0)
theorem w_lc (o : Ok X M k) (own : List (Str × Nat)) (hi : SI X M tg it src) (ok : BlkOk X.N X.env.scope scope own) (hok : 0 ∉ own.map (·.2)) (his : ∀ i ∈ is, i ∈ own.map (·.2))
    (hg : InBlk X M scope k fun X M => SG X M is tg g) (ht : InBlk X M scope k fun X M => STs X M ifs t) (he : InBlk X M scope k fun X M => SE X M elt f) (hs : ∀ x, foldedSetIterable it X.env x = pure x := by intro _; rfl) :
    SF X M (.ListComp elt [⟨tg, it, ifs, 0⟩] scope pos) (lc (own.map (·.2)) src g t f) :=
  sf_lc o.calm o.nd hi ok (fun _ => hok) his (fun H0 s H C cl fp => hg H0 s H C cl fp (o.blk H0 s H scope _ fp)) (fun H0 s H C cl fp => ht H0 s H C cl fp (o.blk H0 s H scope _ fp)) (fun H0 s H C cl fp => he H0 s H C cl fp (o.blk H0 s H scope _ fp)) hs
theorem w_setLc {i : Nat} {y : Str} (o : Ok X M k) (own : List (Str × Nat)) (hy : X.N[i]? = some y) (hyl : X.env.scope.names.lookup y = some .local)
    (hsw : swapsWith (.ListComp elt [⟨tg, it, ifs, 0⟩] scope pos) (some (.Name y py)) spos.line X.env = pure true) (hi : SI X M tg it src) (ok : BlkOk X.N X.env.scope scope own) (hok : 0 ∉ own.map (·.2)) (his : ∀ i ∈ is, i ∈ own.map (·.2))
    (hg : InBlk X M scope k fun X M => SG X M is tg g) (ht : InBlk X M scope k fun X M => STs X M ifs t) (he : InBlk X M scope k fun X M => SE X M elt f) (hs : ∀ x, foldedSetIterable it X.env x = pure x := by intro _; rfl) :
    SS X M (.Assign [.Name y py] (.ListComp elt [⟨tg, it, ifs, 0⟩] scope pos) spos) (oSetF i (lc (own.map (·.2)) src g t f)) :=
  ss_setLc o.calm o.nd hy hyl hsw hi ok (fun _ => hok) his (fun H0 s H C cl fp => hg H0 s H C cl fp (o.blk H0 s H scope _ fp)) (fun H0 s H C cl fp => ht H0 s H C cl fp (o.blk H0 s H scope _ fp)) (fun H0 s H C cl fp => he H0 s H C cl fp (o.blk H0 s H scope _ fp)) hs
theorem w_l2 (o : Ok X M k) (own : List (Str × Nat)) (vs1 : List Nat) (hi : SI X M tg it src) (ok : BlkOk X.N X.env.scope scope own) (hok : 0 ∉ own.map (·.2)) (his : ∀ i ∈ is, i ∈ own.map (·.2)) (his1 : ∀ i ∈ is1, i ∈ vs1) (sub : ∀ i ∈ vs1, i ∈ own.map (·.2))
    (hg : InBlk X M scope k fun X M => SG X M is tg g) (ht : InBlk X M scope k fun X M => STs X M ifs t) (hi1 : InBlk X M scope k fun X M => SI X M tg1 it1 src1) (hg1 : InBlk X M scope k fun X M => SG X M is1 tg1 g1) (ht1 : InBlk X M scope k fun X M => STs X M ifs1 t1) (he : InBlk X M scope k fun X M => SE X M elt f) :
    Lc2 X M elt tg it tg1 it1 ifs ifs1 scope own is is1 vs1 src src1 g g1 t t1 f :=
  ⟨hi, ok, fun _ => hok, his, fun _ z => hok (sub 0 z), his1, sub, fun H0 s H C cl fp => hg H0 s H C cl fp (o.blk H0 s H scope _ fp), fun H0 s H C cl fp => ht H0 s H C cl fp (o.blk H0 s H scope _ fp),
    fun H0 s H C cl fp => hi1 H0 s H C cl fp (o.blk H0 s H scope _ fp), fun H0 s H C cl fp => hg1 H0 s H C cl fp (o.blk H0 s H scope _ fp), fun H0 s H C cl fp => ht1 H0 s H C cl fp (o.blk H0 s H scope _ fp), fun H0 s H C cl fp => he H0 s H C cl fp (o.blk H0 s H scope _ fp)⟩
/-- under a generator expression's frame -/
abbrev InGen (X : Cx) (M : Mx) (scope : Scope) (k : Nat) (p : Cx → Mx → Prop) : Prop := ∀ (s : Shared) (H : Hp) (C : Addr) (cl : List (Str × Addr)) (cd : Value) (bi : Addr) (fp : List Addr) (A : Around),
  Ok (CxGen X s H (genEnv scope cl C cd bi X.env) fp A) (M.blk M.H0) k → p (CxGen X s H (genEnv scope cl C cd bi X.env) fp A) (M.blk M.H0)
variable {c P : Addr} {p gpos : Pos}
theorem w_any (o : Ok X M (k + 1)) (own : List (Str × Nat)) (hgl : Gl X "any") (hm : X.mg "any" = none) (TB : GxR.TabB X.base X.mg c P) (hP : P ∈ M.tabs) (hcode : X.env.code = .ref c) (hi : SI X M tg it src) (gok : GenOk X.env scope) (ok : BlkOk X.N X.env.scope scope own) (hok : 0 ∉ own.map (·.2)) (his : ∀ i ∈ is, i ∈ own.map (·.2))
    (hg : InGen X M scope k fun X M => SG X M is tg g) (he : InGen X M scope k fun X M => SE X M elt f) (hs : ∀ v, genFold it X.env v = pure v := by intro _; rfl)
    (hst : starEach [.GeneratorExp elt [⟨tg, it, [], 0⟩] scope gpos] X.env = (false, eval (.GeneratorExp elt [⟨tg, it, [], 0⟩] scope gpos) X.env) :: starEach [] X.env := by rfl) :
    SE X M (.Call (.Name "any" p) [.GeneratorExp elt [⟨tg, it, [], 0⟩] scope gpos] [] pos) (qE true (own.map (·.2)) src g f) :=
  se_any o hgl hm TB hP hcode hi gok ok (fun _ => hok) his (fun s H C cl cd bi fp A h => hg s H C cl cd bi fp A (o.gen _ s H _ fp A h)) (fun s H C cl cd bi fp A h => he s H C cl cd bi fp A (o.gen _ s H _ fp A h)) hs hst
theorem w_all (o : Ok X M (k + 1)) (own : List (Str × Nat)) (hgl : Gl X "all") (hm : X.mg "all" = none) (TB : GxR.TabB X.base X.mg c P) (hP : P ∈ M.tabs) (hcode : X.env.code = .ref c) (hi : SI X M tg it src) (gok : GenOk X.env scope) (ok : BlkOk X.N X.env.scope scope own) (hok : 0 ∉ own.map (·.2)) (his : ∀ i ∈ is, i ∈ own.map (·.2))
    (hg : InGen X M scope k fun X M => SG X M is tg g) (he : InGen X M scope k fun X M => SE X M elt f) (hb : bootBuiltins "all" = some (.builtin "all")) (hs : ∀ v, genFold it X.env v = pure v := by intro _; rfl)
    (hst : starEach [.GeneratorExp elt [⟨tg, it, [], 0⟩] scope gpos] X.env = (false, eval (.GeneratorExp elt [⟨tg, it, [], 0⟩] scope gpos) X.env) :: starEach [] X.env := by rfl) :
    SE X M (.Call (.Name "all" p) [.GeneratorExp elt [⟨tg, it, [], 0⟩] scope gpos] [] pos) (qE false (own.map (·.2)) src g f) :=
  se_all o hgl hm TB hP hcode hi gok ok (fun _ => hok) his (fun s H C cl cd bi fp A h => hg s H C cl cd bi fp A (o.gen _ s H _ fp A h)) (fun s H C cl cd bi fp A h => he s H C cl cd bi fp A (o.gen _ s H _ fp A h)) hb hs hst
theorem Ok.u64 (o : Ok X M k) : X.A.units + 64 < cLine := o.room.units
theorem Ok.u65 (o : Ok X M k) : X.A.units + 65 < cLine := by have := o.room.un; omega
theorem Ok.u0 (o : Ok X M k) : X.A.units < cLine := o.room.units0
theorem st_e {e : Expr} {f : DEnv → R D} (h : SE X M e f) (he : ∀ whole, isTrue e X.env whole = (do let v ← whole; standAt e.pos; holding [v] (truthy v)) := by intro _; rfl) : ST X M e (bV f) := st_val h he
end
/-! ### built-in names -/
theorem bt_isinstance : bootBuiltins "isinstance" = some (.builtin "isinstance") := by decide +kernel
theorem bt_abs : bootBuiltins "abs" = some (.builtin "abs") := by decide +kernel
theorem bt_len : bootBuiltins "len" = some (.builtin "len") := by decide +kernel
theorem bt_min : bootBuiltins "min" = some (.builtin "min") := by decide +kernel
theorem bt_max : bootBuiltins "max" = some (.builtin "max") := by decide +kernel
theorem bt_sum : bootBuiltins "sum" = some (.builtin "sum") := by decide +kernel
theorem bt_all : bootBuiltins "all" = some (.builtin "all") := by decide +kernel
theorem bt_sorted : bootBuiltins "sorted" = some (.builtin "sorted") := by decide +kernel
theorem bt_int : bootBuiltins "int" = some (.type PyT.int.name) := by decide +kernel
theorem bt_bool : bootBuiltins "bool" = some (.type PyT.bool.name) := by decide +kernel
theorem bt_str : bootBuiltins "str" = some (.type PyT.str.name) := by decide +kernel
theorem bt_list : bootBuiltins "list" = some (.type PyT.list.name) := by decide +kernel
theorem bt_tuple : bootBuiltins "tuple" = some (.type PyT.tuple.name) := by decide +kernel
theorem bt_dict : bootBuiltins "dict" = some (.type PyT.dict.name) := by decide +kernel

/-! ### the end -/
theorem funP_mk {K : PySem.W.Frag} {x qual : Str} {st : Stmt} {f : Addr} {oc : Value} {od an : Option Addr} {osl : Array (Option Value)} {kV doc pm cdv ct : Value} {cp : Value → Prop} (l : K.lookup f = some ⟨oc, od, .func (PySem.W.fnOf x qual (defArgs st) (defBody st) (defScope st) .none kV doc pm an cdv ct), osl⟩)
    (c : PySem.W.codeIn K cdv qual = true) (h : cp cdv) (k : PySem.W.keepIn K (.ref f) = true) : FunP K x qual st f (PySem.W.fnOf x qual (defArgs st) (defBody st) (defScope st) .none kV doc pm an cdv ct) cp := ⟨⟨oc, od, kV, doc, pm, an, cdv, ct, osl, rfl, l, c, h⟩, k⟩
theorem FunP.binds {K : PySem.W.Frag} {x qual : Str} {st : Stmt} {f : Addr} {fd : FuncData} {cp : Value → Prop} {ps : List Str} (F : FunP K x qual st f fd cp)
    (h : ∀ (kV doc pm : Value) (an : Option Addr) (cdv ct : Value) (us : List Value), us.length = ps.length → bindArgs (PySem.W.fnOf x qual (defArgs st) (defBody st) (defScope st) .none kV doc pm an cdv ct) ⟨us, []⟩ = pure (ps.zip us)) : Binds K fd ps [] := F.fun.binds h
/-- the goal that k_head leaves, from the law's promise; T: what is known of the top -/
theorem walk_T {l : PySem.W.OpenLaw} {n k : Nat} {q : Program} {loose : List Str} {XP : (Str → Option Value) → Heap → Prop} {YP : World → Heap → Prop} {d : DefRec} {K : Params → PySem.W.Frag} {x : Str}
    (hn : l.most = some n) (hn2 : n ≤ sizeLine) (hdf : d.params.defaults = []) (hr : Room k callerA) (hY : ∀ (w : World) (h : Heap), YP w h → (K w.params).In h)
    (F : ∀ (w : World) (mg mb : Str → Option Value) (fa : Addr) (h : Heap) (loose' : List Str) (mean : ExcName → Option Value), Top q loose' mean mg mb h → (K w.params).In h → h.Ns mainGlobals mg → mg d.name = some (.ref fa) → LamX.LawAtS l w (K w.params) (L2N.CX l.prog w) k n x mg fa h) :
    PySem.W.WalkO q loose XP YP l.row.toRowW d [] (fun f vs => PySem.call f vs) := by
  refine Att.attach_callB hn hdf fun w s₀ s₁ mg mb fa o pm cd doc a vs ns G Y ho hd hcd hmg hobj hints hlen hbits hg => ?_
  have KX := hY w _ Y
  obtain ⟨fd, cs, sp, hT, nT, C, hb, hsp, hF⟩ := F w mg mb fa _ _ _ G.T KX G.T.g hmg
  exact LamX.law_callTs KX G.T.g G.T.b G.T.builtins G.T.nolimit hg hT nT C G.T.bmain hobj hints (Nat.le_trans hlen hn2) hr hF hb (fun H hH hS => hsp H a ns hlen hbits hH hS) fun H e s' h => by
    obtain ⟨_, _, _, _, _, _, _, _, _, _, _, _, z⟩ := h
    exact z
end PL
set_option Elab.async false
set_option linter.all false
set_option maxRecDepth 100000
set_option autoImplicit false
namespace PL
open PySem PySem.Spec PyProof.Rows L2
def genB (scope : Scope) : Bool := (!scope.isCoroutine) && (match scope.names.lookup (".0" : Str) with | some .local => true | _ => false)
theorem genOk_by {env : PySem.Env} {scope : Scope} (h : genB scope = true) : GenOk env scope := by
  unfold genB at h
  rw [Bool.and_eq_true] at h
  refine ⟨by simpa using h.1, ?_⟩
  have h3 := h.2
  split at h3
  · assumption
  · cases h3
section
variable {X : Cx} {M : Mx} {x : Str} {pos : Pos}
theorem se_gint {i : Int} (hg : Gl X x) (h : ∃ t, X.mg x = some (.int i t)) (hd : (x == ("__debug__" : Str)) = false := by decide) : SE X M (.Name x pos) (kI i) := by
  obtain ⟨t, h⟩ := h
  exact se_glob (v := .int i) hg h ⟨t, rfl⟩ (fun _ => .int i) hd
end
def cMulS (i j : Int) : Bool := decide (i.natAbs < 2 ^ 64) || decide (j.natAbs < 2 ^ 64)
def iMul : D → D → Option D := dII cMulS fun a b => .int (a * b)
theorem id_mul {X : Cx} : OpD X (inplaceOp .Mult) iMul := od_int iop_mul (fun i j h => by
  simp only [cMulS, Bool.or_eq_true, decide_eq_true_eq] at h
  rcases h with h | h
  · exact .inl (by omega)
  · exact .inr (by omega)) fun _ _ _ _ => .int _
@[simp] abbrev oSto (i : Nat) (f g : DEnv → R D) : DEnv → O := fun σ => (f σ).thn fun d σ1 => match lstOf i σ1 with
  | some _ => (g σ1).thn fun kd σ2 => stoL i kd d σ2
  | none => .bad
theorem w_asg {X : Cx} {M : Mx} {e tg : Expr} {f : DEnv → R D} {pos : Pos} {is : List Nat} {g : D → DEnv → Option DEnv} (he : SE X M e f) (hg : SG X M is tg g) (hs : swapsWithSole [tg] e pos.line X.env = pure false) (hw : swappedStores [tg] e X.env = pure none)
    (h1 : (assignEach [tg] X.env).map (·.2) = [assign tg X.env]) : SS X M (.Assign [tg] e pos) (oAsg f g) := ss_asgT he hg hs hw h1
theorem tabIn_of {K : PySem.W.Frag} {x : Str} {f c P : Addr} {oc od2 : Value} {od oe : Option Addr} {fd : FuncData} {sl sl2 : Array (Option Value)} {vs : Array Value} (a : PySem.W.nsIn K mainGlobals x = some (some (.ref f))) (l : K.lookup f = some ⟨oc, od, .func fd, sl⟩) (hc : fd.code = .ref c)
    (b : K.lookup c = some ⟨od2, oe, .fields vs, sl2⟩) (w : vs[11]? = some (.ref P)) : PySem.W.tabIn K x = some (c, P) := by
  unfold PySem.W.tabIn
  simp only [a, l, hc, b, w]
theorem triples_nil : TriplesOk (#[] : Array Value).toList := by first | exact .nil | trivial | (show TriplesOk []; first | exact True.intro | simp [TriplesOk])
theorem law_at {l : PySem.W.OpenLaw} {w : World} {K : PySem.W.Frag} {mg : Str → Option Value} {fa : Addr} {h : Heap} {k n : Nat} {x : Str} {fd : FuncData} (cs : List (Addr × Addr)) (hT : ∀ p ∈ cs, PySem.W.CodeHd h p.1 p.2 ∧ h.get? p.2 = some (PySem.W.tabObj #[])) (nT : ∀ p ∈ cs, K.lookup p.2 = none)
    (hb : ∀ (s : Shared) (u : Value), BindsTo s fd ⟨[u], []⟩ [(x, u)]) (F : ∀ base : Heap, K.In base → base.Ns mainGlobals mg → (∀ p ∈ cs, GxR.TabB base mg p.1 p.2) → FnOk l.prog w K mg base (L2N.CX l.prog w) k fa fd [x] (spL K (cs.map (·.2)) n fun ns => ∀ z ∈ ns, Builtin.Int.intBits z ≤ 1048576)) :
    LamX.LawAtS l w K (L2N.CX l.prog w) k n x mg fa h := by
  refine ⟨fd, cs, _, fun p hp => (hT p hp).2, nT, fun p hp => (hT p hp).1, hb, fun H a ns hl hbits hH hS => ?_, fun base h1 h2 h3 => F base h1 h2 fun p hp => ⟨(h3 p hp).code, (h3 p hp).bm, (h3 p hp).gP⟩⟩
  refine ⟨a, ns, rfl, hS, hl, hbits, fun P hP => ?_, fun _ => rfl⟩
  obtain ⟨p, hp, rfl⟩ := List.mem_map.mp hP
  exact ⟨#[], hH p hp, triples_nil⟩
end PL
set_option Elab.async false
set_option linter.all false
set_option maxRecDepth 100000
set_option maxHeartbeats 2000000
set_option autoImplicit false
/-! A list walked while an exception is handled. -/
namespace PL
open PySem PySem.Spec PyProof.Rows L2 L2H HotX
section
variable {prog : Program} {w : World} {A : Around} {E : Value → Shared → Prop} {s : Shared}
theorem next_end_hot {it l x1 : Addr} {i : Nat} {its : Array Value} {Q : Option Value → Shared → Prop} (hot : HotAt A x1 s.heap) (ne : x1 ≠ it) (hit : s.heap.IsListIter it l i) (hl : s.heap.IsList l its) (hx : its[i]? = none)
    (hQ : ∀ h', (∀ b o, b ≠ it → s.heap.get? b = some o → h'.get? b = some o) → Q none { s with heap := h' }) : wpAny (model prog w) A (pyNext (.ref it)) Q E s := by
  obtain ⟨oi, g1, -, g2⟩ := id hit
  obtain ⟨ol, g3, -, nl, g4⟩ := hl
  obtain ⟨hh, o1, v1, g5, g6, g7⟩ := hot
  unfold pyNext
  apply wpAny_bind
  apply wpAny_attempt
  refine wpAny_callSpecial?_slot (name := Str.ofString "__next__") hit.typeIs slot_listiter_next ?_
  refine wpAny_call_entry slot_listiter_next hit.typeIs entry_listiter_next ?_ (args_listiter_next _)
  show wpAny (model prog w) _ (field (Value.ref it) 0 >>= _) _ _ s
  refine wpAny_bind (wpAny_field g1 g2 (x := .ref l) rfl ?_)
  have nn : ¬ ((Value.ref l == Value.none) = true) := Bool.false_ne_true
  show wpAny (model prog w) _ (if (Value.ref l == Value.none) = true then _ else _) _ _ s
  rw [if_neg nn]
  show wpAny (model prog w) _ (field (Value.ref it) 1 >>= _) _ _ s
  refine wpAny_bind (wpAny_field g1 g2 (x := .int i 0) rfl ?_)
  show wpAny (model prog w) _ (seqItems? (Value.ref l) >>= _) _ _ s
  refine wpAny_bind (wpAny_seqItems g3 g4 ?_)
  simp only [Int.toNat_natCast, hx]
  apply wpAny_bind
  apply wpAny_rule
  apply wpAny_bind
  refine wpAny_setField g1 g2 (by simp) ?_
  have k1 : ∀ b o, b ≠ it → s.heap.get? b = some o → (s.heap.update it (Obj.mapFields (·.setIfInBounds 0 .none))).get? b = some o := fun b o hb e => (Heap.get?_update_other _ _ (Ne.symm hb)).trans e
  show wpAny (model prog w) _ (newExc (Value.type "StopIteration") [] >>= _) _ _ _
  apply wpAny_bind
  simp only [newExc, newTuple]
  apply wpAny_bind
  refine wpAny_newObj_type ?_ (by size_fits)
  refine wpAny_bind (m := firstArgMember _ _) (wpAny_of_eq (a := Value.none) (by simp only [firstArgMember]; rfl) ?_)
  refine wpAny_newObj_type ?_ (by size_fits)
  have g5' := Heap.get?_push_of_some { cls := .type "tuple", data := .seq ([] : List Value).toArray } (k1 x1 o1 ne g5)
  refine raiseNew_hot ⟨hh, o1, v1, Heap.get?_push_of_some _ g5', g6, g7⟩ (Nat.ne_of_lt (Heap.lt_size g5')) (Heap.get?_push_size _ rfl) rfl (by simp; omega) ?_
  refine wpAny_bind (wpAny_isInstance (T := "StopIteration") (b := true) ⟨_, Heap.get?_update_self _ (Heap.get?_push_size _ rfl) rfl, rfl⟩ isSubtype_stop (wpAny_pure (hQ _ fun b o hb e => ?_)))
  have e1 := Heap.get?_push_of_some { cls := .type "tuple", data := .seq ([] : List Value).toArray } (k1 b o hb e)
  rw [Heap.get?_update_other _ _ (Nat.ne_of_gt (Heap.lt_size e1))]
  exact Heap.get?_push_of_some _ e1
end
end PL
set_option Elab.async false
set_option linter.all false
set_option maxRecDepth 100000
set_option maxHeartbeats 2000000
set_option autoImplicit false
/-! [y for y in x if y] of truth values, while an exception is handled. -/
namespace PL
open PySem PySem.Spec PyProof.Rows L2 L2H HotX
section
variable {X : Cx}
/-- the handled exception, pinned in a block -/
theorem pin_block {pins : List (Addr × Obj)} {σ : L2.St} {H : Hp} {s : Shared} {p : Addr × Obj} (I : Inv X pins σ H s) (hp : p ∈ X.pn) {fp : List Addr} {scope : Scope} {ce : PySem.Env} {vs : List Nat} {s' : Shared}
    (J : Inv (X.blk s H scope ce fp) [] (wipe σ vs) H s') (hs : s'.heap.get? p.1 = some p.2) (hl : ce.locals = s.heap.objs.size) : Inv (X.blk s H scope ce fp) [p] (wipe σ vs) H s' :=
  J.pins_of fun q hq => by
    rw [List.mem_singleton.mp hq]
    have z := I.pin p (List.mem_append_left _ hp)
    refine ⟨hs, z.2.1, ?_, fun hm => ?_, z.2.2.2.2⟩
    · show p.1 ≠ ce.locals
      rw [hl]
      exact Nat.ne_of_lt (Heap.lt_size z.1)
    · rcases List.mem_cons.mp (I.stkSub p.1 hm) with k | k
      · exact z.2.2.1 k
      · exact z.2.2.2.1 k
/-- the list so far -/
abbrev takenB (bs : List Bool) (k : Nat) : HO := .lst (((bs.take k).filter id).map V.bl)
theorem takenB_no {bs : List Bool} {k : Nat} (h : bs[k]? = some false) : takenB bs (k + 1) = takenB bs k := by
  unfold takenB
  rw [List.take_add_one, h]
  simp
theorem takenB_yes {bs : List Bool} {k : Nat} (h : bs[k]? = some true) : takenB bs (k + 1) = .lst (((bs.take k).filter id).map V.bl ++ [V.bl true]) := by
  unfold takenB
  rw [List.take_add_one, h]
  simp
theorem pe_lcB {i j : Nat} {x y : Str} {scope : Scope} {p1 p2 p3 p4 pos : Pos} (hot : HotC X) (ok : BlkOk X.N X.env.scope scope [(y, j)]) (hN : X.N.Nodup) (kn : X.N[i]? = some x) (vis : Vis X.env.scope x)
    (hg : ∀ (s : Shared) (H : Hp) (C : Addr) (cl : List (Str × Addr)) (fp : List Addr), PG (X.blk s H scope (compEnvC scope cl C X.env) fp) (.Name y p2) (gName j))
    (ht : ∀ (s : Shared) (H : Hp) (C : Addr) (cl : List (Str × Addr)) (fp : List Addr), PT (X.blk s H scope (compEnvC scope cl C X.env) fp) (.Name y p4) (tB (tVar j)))
    (he : ∀ (s : Shared) (H : Hp) (C : Addr) (cl : List (Str × Addr)) (fp : List Addr), PE (X.blk s H scope (compEnvC scope cl C X.env) fp) (.Name y p1) (tVar j))
    (hd : (x == ("__debug__" : Str)) = false := by decide) (hcd : (x == ("__classdict__" : Str)) = false := by decide) (hs : ∀ z, foldedSetIterable (.Name x p3) X.env z = pure z := by intro _; rfl) :
    PE X (.ListComp (.Name y p1) [⟨.Name y p2, .Name x p3, [.Name y p4], 0⟩] scope pos) (fun σ H Q => ∃ (a : Addr) (bs : List Bool), σ[i]? = some (some (.ref a)) ∧ H a = some (.lst (bs.map V.bl)) ∧ (bs.length ≤ 100) ∧ ∀ D, H D = none → Q (.ref D) (upd H D (.lst ((bs.filter id).map V.bl)))) := by
  refine ⟨fun pins s σ H Q I ⟨a, bs, e1, e2, hl, q⟩ => ?_⟩
  obtain ⟨pr, ⟨hnd, hv, hv1, hv2⟩, hpr⟩ := hot
  rw [eval_ListComp]
  have fr : ∀ z ∈ scope.names, z.2 = .free → ∃ c, X.env.cells.lookup z.1 = some c := fun z hz e => (ok.free z hz e).elim (fun k => I.ok.has _ (.inl k)) fun k => I.ok.has _ (.inr k)
  refine wpAny_comprehension_free (use := none) rfl hs (closure_ok fr) ok.kind (fun z hz e => by rw [ok.uniq z hz, e]) ?_
  refine thn ((pe_var kn vis hd hcd).run pins s σ H (fun v H1 => v = .ref a ∧ H1 = H) I ⟨_, e1, rfl, rfl⟩) fun u s1 hu => ?_
  obtain ⟨v, H1, I1, r1, rfl, rfl⟩ := hu
  cases r1
  obtain ⟨-, its, n0, rv, eo⟩ := I1.hok a _ e2
  have isl : s1.heap.IsList a its.toArray := ⟨_, eo, rfl, n0, rfl⟩
  refine wpAny_pyIter_list isl ?_
  -- the iterator
  generalize hs2 : ({ s1 with heap := s1.heap.push { cls := .type "list_iterator", data := .fields #[.ref a, .int 0 0] } } : Shared) = s2
  have k2 : ∀ b o, s1.heap.get? b = some o → s2.heap.get? b = some o := fun b o e => by rw [← hs2]; exact Heap.get?_push_of_some _ e
  have I2 : Inv X pins σ H1 s2 := by rw [← hs2]; exact I1.kept (t' := s1.toks) fun b o e => Heap.get?_push_of_some _ e
  have it2 : s2.heap.IsListIter s1.heap.objs.size a 0 := by rw [← hs2]; exact ⟨_, Heap.get?_push_size _ rfl, rfl, rfl⟩
  have nit : H1 s1.heap.objs.size = none := I1.hok.fresh (Nat.le_refl _)
  have fit := I1.fpOk (Nat.le_refl _) nit
  generalize s1.heap.objs.size = it at it2 nit fit
  -- the new list
  refine wpAny_newObj_type (newEnv_comp ?_) (by show 0 ≤ sizeLine; decide)
  generalize hD : s2.heap.objs.size = D
  have nD : H1 D = none := I2.hok.fresh (Nat.le_of_eq hD)
  have DneIt : it ≠ D := by
    obtain ⟨o, e, -⟩ := it2
    rw [← hD]
    exact Nat.ne_of_lt (Heap.lt_size e)
  have DneA : a ≠ D := fun z => by subst z; rw [e2] at nD; cases nD
  generalize hs3 : ({ s2 with heap := s2.heap.push { cls := .type "list", data := .seq ([] : List Value).toArray } } : Shared) = s3
  have k3 : ∀ b o, s2.heap.get? b = some o → s3.heap.get? b = some o := fun b o e => by rw [← hs3]; exact Heap.get?_push_of_some _ e
  have I3 : Inv X pins σ (upd H1 D (takenB bs 0)) s3 := by
    rw [← hs3]
    refine I2.laid (t' := s2.toks) (fun b o e => Heap.get?_push_of_some _ e) (Nat.le_of_eq hD) ⟨Nat.zero_le _, [], 0, .nil, ?_⟩
    rw [← hD]
    exact Heap.get?_push_size _ rfl
  have fit3 : FpOk X pins (upd H1 D (takenB bs 0)) it ∧ it < s3.heap.objs.size := by
    obtain ⟨o, e, -⟩ := it2
    exact ⟨⟨by rw [upd_ne DneIt]; exact nit, fit.2⟩, Heap.lt_size (k3 _ _ e)⟩
  have B0 := block_start (fp := [it]) I3 ok hN fun b hb => by rw [List.mem_singleton.mp hb]; exact fit3
  have pg := hg s3 (upd H1 D (takenB bs 0)) s3.heap.objs.size (cellsFrom (s3.heap.objs.size + 1) scope.names (cloFrom X.env.cells scope.names [])) [it]
  have pt := ht s3 (upd H1 D (takenB bs 0)) s3.heap.objs.size (cellsFrom (s3.heap.objs.size + 1) scope.names (cloFrom X.env.cells scope.names [])) [it]
  have pe := he s3 (upd H1 D (takenB bs 0)) s3.heap.objs.size (cellsFrom (s3.heap.objs.size + 1) scope.names (cloFrom X.env.cells scope.names [])) [it]
  show codeAny (model X.prog X.w) X.A (.compStart _ 0 (.ref it) (.ref D) (compEnvC scope (cellsFrom (s3.heap.objs.size + 1) scope.names (cloFrom X.env.cells scope.names [])) s3.heap.objs.size X.env)) _ _
  generalize hce : compEnvC scope (cellsFrom (s3.heap.objs.size + 1) scope.names (cloFrom X.env.cells scope.names [])) s3.heap.objs.size X.env = ce at B0 pg pt pe ⊢
  have cL : ce.locals = s3.heap.objs.size := by rw [← hce]; rfl
  generalize hs4 : ({ s3 with heap := pushCells (s3.heap.push { cls := .type "dict", data := .dict #[] }) scope.names } : Shared) = s4 at B0
  have k4 : ∀ b o, s3.heap.get? b = some o → s4.heap.get? b = some o := fun b o e => by rw [← hs4]; exact pushCells_keeps _ _ _ _ (Heap.get?_push_of_some _ e)
  have B1 := pin_block I3 hpr B0 (k4 _ _ (I3.pin pr (List.mem_append_left _ hpr)).1) cL
  have it4 : s4.heap.IsListIter it a 0 := it2.at fun o e => k4 _ _ (k3 _ _ e)
  obtain ⟨f0, f1, f2, f3, f4, f5⟩ := fit
  have prIt : pr.1 ≠ it := f5 pr (List.mem_append_left _ hpr)
  have aH : ∀ k, (upd H1 D (takenB bs k)) a = some (.lst (bs.map V.bl)) := fun k => by rw [upd_ne DneA]; exact e2
  have ilen : its.length = bs.length := by rw [← rv.length, List.length_map]
  -- what may be said of the iterator in the block
  have own : ∀ {H' : Hp}, H' it = none → ∀ b ∈ [it], FpOk (X.blk s3 (upd H1 D (takenB bs 0)) scope ce [it]) [pr] H' b := fun hn b hb => by
    rw [List.mem_singleton.mp hb]
    refine ⟨hn, (B1.ok.exf it (List.mem_singleton.mpr rfl)).1, B1.ok.exfs it (List.mem_singleton.mpr rfl), .inl (List.mem_singleton.mpr rfl), (B1.ok.exf it (List.mem_singleton.mpr rfl)).2, fun z hz => ?_⟩
    rw [List.mem_singleton.mp (show z ∈ [pr] from hz)]
    exact prIt
  have isl' : ∀ {s' : Shared} {k : Nat} {τ : L2.St} {P : List (Addr × Obj)}, Inv (X.blk s3 (upd H1 D (takenB bs 0)) scope ce [it]) P τ (upd H1 D (takenB bs k)) s' → ∃ us : List Value, Vals (bs.map V.bl) us ∧ s'.heap.IsList a us.toArray := fun {s' k τ P} J => by
    obtain ⟨-, us, n, ru, e⟩ := J.hok a _ (aH k)
    exact ⟨us, ru, _, e, rfl, n, rfl⟩
  have loop : codeAny (model X.prog X.w) X.A (.compLoop (.ListComp (.Name y p1) [⟨.Name y p2, .Name x p3, [.Name y p4], 0⟩] scope pos) 0 (.ref it) (.ref D) ce) (compPost (model X.prog X.w) X.A X.xe none (EP X pins σ Q) (.ref D) s3.heap.objs.size) s4 := by
    refine compLoop_any (fun n s' => ∃ k, k + n = bs.length ∧ Inv (X.blk s3 (upd H1 D (takenB bs 0)) scope ce [it]) [pr] (wipe σ [j]) (upd H1 D (takenB bs k)) s' ∧ s'.heap.IsListIter it a k) ?_ bs.length ⟨0, by omega, B1, it4⟩
    rintro n s5 ⟨k, hk, J5, t5⟩
    have p5 := J5.pin pr (List.mem_append_right _ (List.mem_singleton.mpr rfl))
    have nI : ∀ m, (upd H1 D (takenB bs m)) it = none := fun m => by rw [upd_ne DneIt]; exact nit
    obtain ⟨us, ru, il5⟩ := isl' J5
    have ul : us.length = bs.length := by rw [← ru.length, List.length_map]
    obtain ⟨g0, g1, g2, g3, g4, g5⟩ := own (nI k) it (List.mem_singleton.mpr rfl)
    by_cases last : k = bs.length
    · subst last
      refine thnF (next_end_hot (E := fun _ _ => False) ⟨hnd, pr.2, hv, p5.1, hv1, hv2⟩ prIt t5 il5 (by simp; omega) (Q := fun r s6 => r = none ∧ Inv (X.blk s3 (upd H1 D (takenB bs 0)) scope ce [it]) [pr] (wipe σ [j]) (upd H1 D (takenB bs bs.length)) s6) fun h' kp => ⟨rfl, J5.turned (t' := s5.toks) kp g0 g1 g3 g4 g5⟩) fun r s6 ⟨er, J6⟩ => ?_
      subst er
      have J7 : Inv X pins σ (upd H1 D (takenB bs bs.length)) s6 := I3.call' (ch := [it]) J6.os J6.base J6.hok J6.bare fun b hb => by
        rw [List.mem_singleton.mp hb]
        exact ⟨f3, f1, f4, f5⟩
      have nC : (upd H1 D (takenB bs bs.length)) s3.heap.objs.size = none := by
        have z : (upd H1 D (takenB bs bs.length)) ce.locals = none := J6.free
        rwa [cL] at z
      obtain ⟨m, hm, -⟩ := J6.loc
      have hm : s6.heap.Ns ce.locals m := hm
      rw [cL] at hm
      refine ⟨m, hm, fun h'' sb => ?_⟩
      obtain ⟨d0, d1, d2, d3, d4, d5⟩ := I3.fpOk (H' := upd H1 D (takenB bs bs.length)) (Nat.le_refl _) nC
      refine ⟨.ref D, _, J7.turned (t' := s6.toks) (fun b o hb e => (sb.2 b hb).trans e) d0 d1 d3 d4 d5, rfl, ?_⟩
      have : takenB bs bs.length = .lst ((bs.filter id).map V.bl) := by unfold takenB; rw [List.take_length]
      rw [this]
      exact q D nD
    · have hk2 : k < bs.length := by omega
      obtain ⟨c, hc⟩ : ∃ c, bs[k]? = some c := ⟨_, List.getElem?_eq_getElem hk2⟩
      obtain ⟨u, hu, rc⟩ := ru.get (x := V.bl c) (i := k) (by rw [List.getElem?_map, hc]; rfl)
      refine thnF (wpAny_pyNext_list_item (E := fun _ _ => False) t5 il5 (x := u) (by simpa using hu) (Q := fun r s6 => r = some u ∧ Inv (X.blk s3 (upd H1 D (takenB bs 0)) scope ce [it]) [pr] (wipe σ [j]) (upd H1 D (takenB bs k)) s6 ∧ s6.heap.IsListIter it a (k + 1)) fun h' t6 sb => ⟨rfl, J5.turned (t' := s5.toks) (fun b o hb e => (sb.2 b hb).trans e) g0 g1 g3 g4 g5, t6⟩) fun r s6 ⟨er, J6, t6⟩ => ?_
      subst er
      obtain ⟨oi, o1, o2, o3⟩ := id t6
      refine go_of o1 o2 o3 (by decide) ?_
      have J7 := J6.pinned (own (nI k)) fun b hb => by
        rw [List.mem_singleton.mp hb]
        exact ⟨oi, o1, fun v z => by rw [o3] at z; cases z⟩
      -- behind the turn
      have stay : ∀ {s' : Shared} {H' : Hp} {τ : L2.St}, Inv (X.blk s3 (upd H1 D (takenB bs 0)) scope ce [it]) ([pr] ++ pinsAt [it] s6.heap) τ H' s' → s'.heap.IsListIter it a (k + 1) := fun {s' H' τ} J => t6.at fun o e => (J.pin (it, o) (List.mem_append_right _ (List.mem_append_right _ (mem_pinsAt (List.mem_singleton.mpr rfl) e)))).1
      have wl : ∀ {s' : Shared} {H' : Hp}, Inv (X.blk s3 (upd H1 D (takenB bs 0)) scope ce [it]) ([pr] ++ pinsAt [it] s6.heap) ((wipe σ [j]).set j (some (V.bl c))) H' s' → Inv (X.blk s3 (upd H1 D (takenB bs 0)) scope ce [it]) [pr] (wipe σ [j]) H' s' := fun {s' H'} J =>
        J.unpinned.weak (by rw [List.length_set]) fun m v e => by
          by_cases hm : j = m
          · subst hm
            exact absurd (List.mem_singleton.mpr rfl) (wipe_some (vs := [j]) e).2
          · rw [List.getElem?_set_ne hm]
            exact e
      refine thnF (pg.run _ s6 _ (upd H1 D (takenB bs k)) (V.bl c) u (fun τ H' => τ = (wipe σ [j]).set j (some (V.bl c)) ∧ H' = upd H1 D (takenB bs k)) J7 rc ⟨rfl, rfl⟩) fun _ s7 h7 => ?_
      obtain ⟨τ, H7, J8, rfl, rfl⟩ := h7
      have jl : j < (wipe σ [j]).length := by
        have := (List.getElem?_eq_some_iff.mp (ok.ix (y, j) (List.mem_singleton.mpr rfl))).1
        rw [wipe_length, I.len]
        exact this
      have at_j : ((wipe σ [j]).set j (some (V.bl c)))[j]? = some (some (V.bl c)) := List.getElem?_set_self jl
      refine thnF ((pts_one pt).run _ s7 _ _ (fun b H' => b = c ∧ H' = upd H1 D (takenB bs k)) J8 ⟨_, at_j, c, rfl, rfl, rfl⟩) fun b s8 h8 => ?_
      obtain ⟨H8, J9, rfl, rfl⟩ := h8
      cases b with
      | false =>
        rw [if_neg Bool.false_ne_true]
        exact ⟨n - 1, by omega, k + 1, by omega, by rw [takenB_no hc]; exact wl J9, stay J9⟩
      | true =>
        rw [if_pos rfl]
        refine thnF (pe.run _ s8 _ _ (fun v H' => v = .bl true ∧ H' = upd H1 D (takenB bs k)) J9 ⟨_, at_j, rfl, rfl⟩) fun z s9 h9 => ?_
        obtain ⟨v, H9, J10, rz, rfl, rfl⟩ := h9
        refine app_ok (X := X.blk s3 (upd H1 D (takenB bs 0)) scope ce [it]) J10 (upd_same) (by
          rw [List.length_map]
          have h1 := List.length_filter_le id (bs.take k)
          have h2 := List.length_take_le k bs
          have := sizeLine_eq
          omega) rz fun s10 J11 => ?_
        refine ⟨n - 1, by omega, k + 1, by omega, ?_, stay J11⟩
        rw [upd_upd] at J11
        rw [takenB_yes hc]
        exact wl J11
  exact codeAny_compStart_list loop (wpAny_pyIter_listiter it4 loop)
end
end PL
set_option Elab.async false
set_option linter.all false
set_option maxRecDepth 100000
set_option maxHeartbeats 2000000
set_option autoImplicit false
/-! The word of an error: isinstance of the handled exception, the def's body. -/
namespace PL
open PySem PySem.Spec PyProof.Rows L2 L2H HotX
/-- what is known of an own class of exceptions -/
structure ErrC (K : PySem.W.Frag) (C : Addr) : Prop where
  ex : PySem.W.excIn K C [.type "ValueError", .type "Exception", .type "BaseException", .type "object"] "ValueError.__new__" = true
  kp : PySem.W.keepIn K (.ref C) = true
  bs : PySem.W.subIn K (.ref C) (.type "BaseException") = some true
  ty : PySem.W.typeIn K (.ref C) = some (.type "type")
  at_ : ExcC K C
/-- isinstance(e, c), e the handled exception -/
theorem call_isW {X : Cx} {D : Addr} {p : Addr × Obj} (C : ExcC X.K D) (hz : Zc (.ref D) none p.2) (hf : ∃ vs, p.2.data = .fields vs) (hp : p ∈ X.pn) : CallR X (.builtin "isinstance") (rIsE X.K D p.1) := fun pins s σ H xs us Q I r ⟨c, cv, b, ex, hcv, e, q⟩ => by
  subst ex
  obtain ⟨u1, u2, rfl, rx, rt⟩ := vals2 r
  have e1 : u1 = .ref p.1 := rx
  subst e1
  have ec := hcv _ rt
  subst ec
  have g := (I.pin p (List.mem_append_left _ hp)).1
  obtain ⟨vs, hv⟩ := hf
  obtain ⟨a, oc, od, oda, osl⟩ := p
  obtain ⟨h1, h2⟩ := hz
  simp only at h1 h2 hv g
  subst h1 h2 hv
  have J : PySem.W.InstAt s.heap a (⟨.ref D, none, .fields vs, osl⟩ : Obj) D none := ⟨g, rfl, rfl, trivial⟩
  exact PySem.W.kia_one (PySem.W.handS_kitx_exc C.hg C.hk C.hs C.hd C.ha C.hn C.ht C.hm) I.kIn J e (fun z => nomatch z) fun tk => ⟨.bl b, H, I.kept (t' := tk) fun _ _ z => z, rfl, q⟩
/-- the answers of isinstance, class by class, and where the one stands -/
structure Hot5 (K : PySem.W.Frag) (D : Addr) (cs : List Addr) (bs : List Bool) (j : Nat) : Prop where
  len : bs.length = cs.length
  is : ∀ (i : Nat) (c : Addr) (b : Bool), cs[i]? = some c → bs[i]? = some b → PySem.W.kitOne K (.ref D) (.ref c) = some b
  one : bs[j]? = some true ∧ ∀ i, i ≠ j → bs[i]? ≠ some true
  cnt : bs.filter id = [true]
section
variable {X : Cx} {p : Addr × Obj} {D c0 c1 c2 c3 c4 : Addr} {b0 b1 b2 b3 b4 : Bool} {j : Nat} {e y k n0 n1 n2 n3 n4 m t0 t1 t2 t3 t4 : Str} {scope : Scope}
theorem isW {n : Str} {c : Addr} {b : Bool} {pf pe' pn pos : Pos} (C : ExcC X.K D) (hz : Zc (.ref D) none p.2) (hf : ∃ vs, p.2.data = .fields vs) (hp : p ∈ X.pn) (g1 : Gl X "isinstance") (g2 : X.mg "isinstance" = none) (ge : X.N[(0 : Nat)]? = some e) (ve : Vis X.env.scope e)
    (gn : Gl X n) (mn : X.mg n = some (.ref c)) (hb : PySem.W.kitOne X.K (.ref D) (.ref c) = some b) (hd : (e == ("__debug__" : Str)) = false := by decide) (hcd : (e == ("__classdict__" : Str)) = false := by decide) (hn : (n == ("__debug__" : Str)) = false := by decide)
    (he : starEach [.Name e pe', .Name n pn] X.env = (false, eval (.Name e pe') X.env) :: starEach [.Name n pn] X.env := by rfl) (he2 : starEach [.Name n pn] X.env = (false, eval (.Name n pn) X.env) :: starEach [] X.env := by rfl) (hpl : (backTo pos (starEach [.Name n pn] X.env)).any (·.1) = false := by rfl) :
    PE X (.Call (.Name "isinstance" pf) [.Name e pe', .Name n pn] [] pos) (fun σ H Q => σ[(0 : Nat)]? = some (some (.ref p.1)) ∧ Q (.bl b) H) :=
  PE.weak (pe_callB (call_isW C hz hf hp) g1 g2 (by decide +kernel) (pa_cons (pe_var ge ve hd hcd) (pa_cons (pe_glob gn mn (v := .ref c) rfl hn) pa_nil he2) he) (by decide) (by decide) he hpl) fun σ H Q ⟨h1, h2⟩ =>
    ⟨.ref p.1, h1, .ref c, .ref c, b, rfl, fun u r => r, hb, h2⟩
/-- the def's body -/
theorem word_walk {pk pf0 pf1 pf2 pf3 pf4 pe0 pe1 pe2 pe3 pe4 q0 q1 q2 q3 q4 pc0 pc1 pc2 pc3 pc4 pl ps0 pi pt pln pls py1 py2 py3 pk2 pone pcm pm prm pt0 pt1 pt2 pt3 pt4 plt pk3 pa pca pcl psu pr : Pos} {j0 j1 j2 j3 j4 j5 j6 j7 : Nat} {bs : List Bool} {ts : List Str} {tj : Str}
    (C : ExcC X.K D) (hz : Zc (.ref D) none p.2) (hf : ∃ vs, p.2.data = .fields vs) (hp : p ∈ X.pn) (hot : HotC X) (hN : X.N.Nodup) (g1 : Gl X "isinstance") (g2 : X.mg "isinstance" = none) (gl : Gl X "len") (gl2 : X.mg "len" = none)
    (ge : X.N[(0 : Nat)]? = some e) (ve : Vis X.env.scope e) (gk : X.N[(1 : Nat)]? = some k) (vk : Vis X.env.scope k) (lk : Loc X.env.scope k) (fk : X.fn k = true ∨ X.env.scope.names.lookup k = some .local)
    (ok : BlkOk X.N X.env.scope scope [(y, 2)])
    (hg : ∀ (s : Shared) (H : Hp) (C : Addr) (cl : List (Str × Addr)) (fp : List Addr), PG (X.blk s H scope (compEnvC scope cl C X.env) fp) (.Name y py2) (gName 2))
    (ht : ∀ (s : Shared) (H : Hp) (C : Addr) (cl : List (Str × Addr)) (fp : List Addr), PT (X.blk s H scope (compEnvC scope cl C X.env) fp) (.Name y py3) (tB (tVar 2)))
    (he : ∀ (s : Shared) (H : Hp) (C : Addr) (cl : List (Str × Addr)) (fp : List Addr), PE (X.blk s H scope (compEnvC scope cl C X.env) fp) (.Name y py1) (tVar 2))
    (gn0 : Gl X n0) (mn0 : X.mg n0 = some (.ref c0)) (hb0 : PySem.W.kitOne X.K (.ref D) (.ref c0) = some b0)
    (gn1 : Gl X n1) (mn1 : X.mg n1 = some (.ref c1)) (hb1 : PySem.W.kitOne X.K (.ref D) (.ref c1) = some b1)
    (gn2 : Gl X n2) (mn2 : X.mg n2 = some (.ref c2)) (hb2 : PySem.W.kitOne X.K (.ref D) (.ref c2) = some b2)
    (gn3 : Gl X n3) (mn3 : X.mg n3 = some (.ref c3)) (hb3 : PySem.W.kitOne X.K (.ref D) (.ref c3) = some b3)
    (gn4 : Gl X n4) (mn4 : X.mg n4 = some (.ref c4)) (hb4 : PySem.W.kitOne X.K (.ref D) (.ref c4) = some b4)
    (hbs : [b0, b1, b2, b3, b4] = bs) (hcnt : bs.filter id = [true]) (hj : bs[j]? = some true) (hjn : ∀ i, i < j → bs[i]? ≠ some true) (hts : [t0, t1, t2, t3, t4] = ts) (htj : ts[j]? = some tj) (hln : (pa.endLine == pcl.line) = true)
    (hd0 : (n0 == ("__debug__" : Str)) = false := by decide) (hd1 : (n1 == ("__debug__" : Str)) = false := by decide) (hd2 : (n2 == ("__debug__" : Str)) = false := by decide) (hd3 : (n3 == ("__debug__" : Str)) = false := by decide) (hd4 : (n4 == ("__debug__" : Str)) = false := by decide)
    (hde : (e == ("__debug__" : Str)) = false := by decide) (hce : (e == ("__classdict__" : Str)) = false := by decide) (hdk : (k == ("__debug__" : Str)) = false := by decide) (hck : (k == ("__classdict__" : Str)) = false := by decide) :
    ∃ t, PSs X [.Assign [.Name k pk] (.List [.Call (.Name "isinstance" pf0) [.Name e pe0, .Name n0 q0] [] pc0, .Call (.Name "isinstance" pf1) [.Name e pe1, .Name n1 q1] [] pc1, .Call (.Name "isinstance" pf2) [.Name e pe2, .Name n2 q2] [] pc2, .Call (.Name "isinstance" pf3) [.Name e pe3, .Name n3 q3] [] pc3, .Call (.Name "isinstance" pf4) [.Name e pe4, .Name n4 q4] [] pc4] pl) ps0,
        .If (.Compare (.Call (.Name "len" pln) [.ListComp (.Name y py1) [⟨.Name y py2, .Name k pk2, [.Name y py3], 0⟩] scope pls] [] pi) [.NotEq] [.Constant (.int 1) j0 pone] pcm) [.Return (some (.Constant (.str m) j1 pm)) prm] [] pt,
        .Return (some (.Subscript (.List [.Constant (.str t0) j2 pt0, .Constant (.str t1) j3 pt1, .Constant (.str t2) j4 pt2, .Constant (.str t3) j5 pt3, .Constant (.str t4) j6 pt4] plt) (.Call (.Attribute (.Name k pk3) "index" pa) [.Constant (.bool true) j7 pca] [] pcl) psu)) pr] t ∧
      ∀ (Dn : Ends) (σ : L2.St) (H : Hp), σ[(0 : Nat)]? = some (some (.ref p.1)) → 1 < σ.length → (∀ H', (∀ b o, H b = some o → H' b = some o) → Dn.rt (.str tj) H') → t Dn σ H := by
  have w0 := isW (pf := pf0) (pe' := pe0) (pn := q0) (pos := pc0) C hz hf hp g1 g2 ge ve gn0 mn0 hb0 hde hce hd0
  have w1 := isW (pf := pf1) (pe' := pe1) (pn := q1) (pos := pc1) C hz hf hp g1 g2 ge ve gn1 mn1 hb1 hde hce hd1
  have w2 := isW (pf := pf2) (pe' := pe2) (pn := q2) (pos := pc2) C hz hf hp g1 g2 ge ve gn2 mn2 hb2 hde hce hd2
  have w3 := isW (pf := pf3) (pe' := pe3) (pn := q3) (pos := pc3) C hz hf hp g1 g2 ge ve gn3 mn3 hb3 hde hce hd3
  have w4 := isW (pf := pf4) (pe' := pe4) (pn := q4) (pos := pc4) C hz hf hp g1 g2 ge ve gn4 mn4 hb4 hde hce hd4
  refine ⟨_, pss_cons (ps_set hN gk lk (pe_lst (pa_cons w0 (pa_cons w1 (pa_cons w2 (pa_cons w3 (pa_cons w4 pa_nil)))))) (by rfl) fk)
    (pss_cons (ps_if (pt_cmpR op_ne (pe_callB call_len gl gl2 (by decide +kernel) (pa_cons (pe_lcB hot ok hN gk vk hg ht he hdk hck) pa_nil)) pe_int (by rfl)) (pss_one (ps_ret pe_str)) pss_nil)
      (pss_one (ps_ret (pe_ix ix_list (pe_lst (pa_cons pe_str (pa_cons pe_str (pa_cons pe_str (pa_cons pe_str (pa_cons pe_str pa_nil)))))) (pe_bm PySem.F.plainAttrs_list PySem.F.slot_list_index PySem.F.type_list_index mt_index (pe_var gk vk hdk hck) (pa_cons pe_bl pa_nil) rfl rfl hln) (fun _ _ => rfl))))), fun Dn σ H h0 hl q => ?_⟩
  have sl := sizeLine_eq
  have bl : bs.length = 5 := by rw [← hbs]; rfl
  have tl : ts.length = 5 := by rw [← hts]; rfl
  refine ⟨h0, h0, h0, h0, h0, by rw [sl]; simp, fun l nl => ?_⟩
  have s1 : (σ.set 1 (some (V.ref l)))[(1 : Nat)]? = some (some (V.ref l)) := List.getElem?_set_self hl
  have eb : [V.bl b0, V.bl b1, V.bl b2, V.bl b3, V.bl b4] = bs.map V.bl := by rw [← hbs]; rfl
  have et : [V.str t0, V.str t1, V.str t2, V.str t3, V.str t4] = ts.map V.str := by rw [← hts]; rfl
  rw [eb]
  refine ⟨l, bs, s1, upd_same, by omega, fun d nd => ⟨.ref d, 1, rfl, .inl ⟨[V.bl true], ?_, rfl⟩, rfl, false, rfl, ?_⟩⟩
  · refine .inl (.inl ?_)
    rw [upd_same, hcnt]
    rfl
  · simp only [Bool.false_eq_true, if_false]
    have ne1 : d ≠ l := fun z => by subst z; rw [upd_same] at nd; cases nd
    refine ⟨by rw [sl]; simp, fun r nr => ?_⟩
    have ne2 : r ≠ l := fun z => by
      subst z
      rw [upd_ne (Ne.symm ne1), upd_same] at nr
      cases nr
    rw [et]
    have hl2 : (upd (upd (upd H l (.lst (bs.map V.bl))) d (.lst (List.map V.bl (List.filter id bs)))) r (.lst (ts.map V.str))) l = some (.lst (bs.map V.bl)) := by
      rw [upd_ne (Ne.symm ne2), upd_ne (Ne.symm ne1), upd_same]
    refine ⟨.ref l, s1, .inl ⟨rfl, _, .inl (.inl hl2)⟩, ?_⟩
    refine ⟨l, bs.map V.bl, .bl true, j, .bl true, rfl, rfl, .inl (.inl hl2), rfl, ?_, ?_, rfl, ?_, ?_⟩
    · rw [List.all_map]
      exact List.all_eq_true.mpr fun _ _ => rfl
    · rw [List.getElem?_map, hj]; rfl
    · intro i z hi hz
      rw [List.getElem?_map] at hz
      cases hb : bs[i]? with
      | none => rw [hb] at hz; cases hz
      | some b =>
        rw [hb] at hz
        cases hz
        cases b with
        | true => exact absurd hb (hjn i hi)
        | false => rfl
    · refine ⟨r, ts.map V.str, (j : Nat), .str tj, rfl, rfl, .inl (.inl upd_same), atI_nat (by rw [List.getElem?_map, htj]; rfl), ?_⟩
      refine q _ fun b o ho => ?_
      rw [upd_ne (ne_of_none (H := upd (upd H l (.lst (bs.map V.bl))) d (.lst (List.map V.bl (List.filter id bs)))) (o := o) (by rw [upd_ne (ne_of_none (H := upd H l (.lst (bs.map V.bl))) (o := o) (by rw [upd_ne (ne_of_none ho nl)]; exact ho) nd), upd_ne (ne_of_none ho nl)]; exact ho) nr), upd_ne (ne_of_none (H := upd H l (.lst (bs.map V.bl))) (o := o) (by rw [upd_ne (ne_of_none ho nl)]; exact ho) nd), upd_ne (ne_of_none ho nl)]
      exact ho
end
end PL
set_option Elab.async false
set_option linter.all false
set_option maxRecDepth 100000
set_option maxHeartbeats 2000000
set_option autoImplicit false
/-! The def that tells the word of the handled error, called. -/
namespace PL
open PySem PySem.Spec PyProof.Rows L2 L2H HotX
/-- f(e) gives the text txt where the handled error e is of the class D -/
def RunW (P : Program) (w : World) (K : PySem.W.Frag) (mg : Str → Option Value) (base : Heap) (k : Nat) (f : Addr) (fd : FuncData) (ps : List Str) (D : Addr) (txt : Str) : Prop :=
  ∀ (A : Around) (outer : List PySem.Env) (s : Shared) (H : Hp) (args : Args) (Q : VK) (E : XK) (p : Addr × Obj), RoomH k A → Hot1 A p → Zc (.ref D) none p.2 → PinOk outer H s p → Env0 P w K mg base A outer s H →
    BindsTo s fd args (ps.zip [.ref p.1]) → (∀ H', (∀ b o, H b = some o → H' b = some o) → Q (.str txt) H') → codeAny (model P w) A (.call (.ref f) args) (CR (L2N.CX P w) outer P w H s Q E) s
theorem runW_of {P : Program} {w : World} {K : PySem.W.Frag} {mg : Str → Option Value} {base : Heap} {k : Nat} {x qual : Str} {st : Stmt} {f : Addr} {fd : FuncData} {cp : Value → Prop} {N : List Str} {e : Str} {D : Addr} {txt : Str}
    (FN : FunP K x qual st f fd cp) (S : FnScope N [e] (defScope st)) (hN : 1 < N.length)
    (hb : ∀ (cdv : Value) (A : Around) (outer : List PySem.Env) (s : Shared) (H : Hp) (E : XK) (p : Addr × Obj), Hot1 A p → Zc (.ref D) none p.2 → RoomH k (A.deeper (envOfC qual (defScope st) s.heap.objs.size f cdv)) →
      ∃ t, PSs (cxH (L2N.CX P w) P w K mg base N qual (defScope st) f cdv A outer s H E p) (defBody st) t ∧
        ∀ (Dn : Ends) (σ : L2.St) (H1 : Hp), σ[(0 : Nat)]? = some (some (.ref p.1)) → 1 < σ.length → (∀ H', (∀ b o, H1 b = some o → H' b = some o) → Dn.rt (.str txt) H') → t Dn σ H1) :
    RunW P w K mg base (k + 1) f fd [e] D txt := by
  intro A outer s H args Q E p room hot hz pin e0 bind q
  obtain ⟨oc, od, kV, doc, pm, an, cdv, ct, osl, rfl, lk, hcd, -⟩ := FN.ex
  have keep := fun (b : Addr) (o : Obj) (z : base.get? b = some o) => (e0.bs b o z).1
  have KX : K.In s.heap := e0.mod.kin.keeps keep
  have lim : s.heap.NoLimit := e0.mod.nolimit.keeps keep
  have names : ∀ z ∈ [e].zip [Value.ref p.1], (defScope st).names.lookup z.1 = some .local ∨ ((defScope st).names.lookup z.1 = some .cell ∧ ((cellsFrom (s.heap.objs.size + 1) (defScope st).names []).lookup z.1).isSome = true) := fun z hz => by
    have z1 : z.1 = e := by
      rw [List.mem_singleton.mp (show z ∈ [(e, Value.ref p.1)] from hz)]
    rw [z1]
    exact (S.par e (List.mem_singleton.mpr rfl)).imp id fun c => ⟨c, PySem.W.cellsFrom_some _ _ _ (.inl c)⟩
  have rel : Vals [V.ref p.1] [Value.ref p.1] := .cons rfl .nil
  refine codeAny_call_function room.depth (KX _ _ lk) rfl S.co S.gen rfl (PySem.W.codeRec_of KX hcd) (bind _ _ _ _ (wpAny_newFunctionEnv_cells S.kind names fun env he s1 x => ?_))
  rw [he] at x ⊢
  refine ⟨lim.keeps x.toInCall.keep, codeAny_func ?_⟩
  obtain ⟨t, ht, hq⟩ := hb cdv A outer s H E p hot hz (room.deeper _)
  have I : Inv (cxH (L2N.CX P w) P w K mg base N qual (defScope st) f cdv A outer s H E p) [] (L2.start N [V.ref p.1]) H s1 := inv_startH S pin e0 rfl rel x
  have s0 : (L2.start N [V.ref p.1])[(0 : Nat)]? = some (some (.ref p.1)) := rfl
  refine wpAny_mono (ht.run [] s1 _ H { nx := fun _ H' => False, rt := Q } I (hq _ _ H s0 (by rw [I.len]; exact hN) q)) (fun fl s' h => ?_) fun _ _ z => z
  cases fl with
  | next =>
    obtain ⟨_, _, _, z⟩ := h
    exact z.elim
  | ret u =>
    obtain ⟨v, σ', H', J, rv, z⟩ := h
    exact ⟨v, H', J.os, J.bare, J.base, J.hok, rv, z⟩
  | brk =>
    obtain ⟨_, _, _, z⟩ := h
    exact z.elim
  | cont =>
    obtain ⟨_, _, _, z⟩ := h
    exact z.elim
/-- f(e) in the suite -/
theorem pe_word {X : Cx} {i k : Nat} {n x : Str} {f : Addr} {fd : FuncData} {ps : List Str} {D : Addr} {txt : Str} {p : Addr × Obj} {q pe pos : Pos} (F : RunW X.prog X.w X.K X.mg X.base k f fd ps D txt) (hr : RoomH k X.A) (hot : Hot1 X.A p) (hp : p ∈ X.pn) (hz : Zc (.ref D) none p.2)
    (hg : Gl X x) (hm : X.mg x = some (.ref f)) (hk : PySem.W.keepIn X.K (.ref f) = true) (hl : ps.length = 1) (hb : Binds X.K fd ps []) (hN : X.N[i]? = some n) (hv : Vis X.env.scope n)
    (hdb : (x == ("__debug__" : Str)) = false := by decide) (hd : (n == ("__debug__" : Str)) = false := by decide) (hcd : (n == ("__classdict__" : Str)) = false := by decide)
    (he : starEach [.Name n pe] X.env = (false, eval (.Name n pe) X.env) :: starEach [] X.env := by rfl) (hpl : (backTo pos (starEach [] X.env)).any (·.1) = false := by rfl) :
    PE X (.Call (.Name x q) [.Name n pe] [] pos) (fun σ H Q => σ[i]? = some (some (.ref p.1)) ∧ ∀ H', (∀ b o, H b = some o → H' b = some o) → Q (.str txt) H') := by
  refine ⟨fun pins s σ H Q I ⟨h1, h2⟩ => ?_⟩
  refine wpAny_Call_Name_kw (ld_glob I hg hm ?_ hdb)
  have args : PA X [.Name n pe] _ := pa_cons (pe_var hN hv hd hcd) pa_nil he
  refine PySem.W.callWith_K (h₀ := X.base) I.ok.mod.kin hk (thn (args.run pos pins s σ H (fun vs H1 => vs = [V.ref p.1] ∧ H1 = H) I ⟨_, h1, rfl, rfl⟩) fun us s1 ⟨vs, H1, I1, r, e1, e2⟩ => ⟨I1.kIn, ?_⟩) he hpl
  subst e1 e2
  obtain ⟨u, rfl, ru⟩ := vals1 r
  have eu : u = Value.ref p.1 := ru
  subst eu
  have b := hb s1 [Value.ref p.1] I1.kIn (by rw [List.append_nil, hl]; rfl)
  rw [List.append_nil] at b
  have P1 := I1.pin p (List.mem_append_left _ hp)
  have pin : PinOk X.stack H1 s1 p := ⟨P1.1, P1.2.1, fun hm => (List.mem_cons.mp (I1.stkSub p.1 hm)).elim P1.2.2.1 P1.2.2.2.1, P1.2.2.2.2⟩
  refine wpAny_call (codeAny_mono (F X.A X.stack s1 H1 ⟨[.ref p.1], []⟩ Q (fun _ _ _ => False) p hr hot hz pin I1.env0 b h2) fun r s' hq => ?_)
  cases r with
  | error e =>
    obtain ⟨_, _, _, _, _, _, _, _, _, _, _, _, z⟩ := hq
    exact z.elim
  | ok fl =>
    cases fl with
    | ret u => exact I1.after hq
    | next => exact hq.elim
    | brk => exact hq.elim
    | cont => exact hq.elim
end PL
set_option Elab.async false
set_option linter.all false
set_option maxRecDepth 100000
set_option maxHeartbeats 2000000
set_option autoImplicit false
/-! raise, try. -/
namespace PL
open PySem PySem.Spec PyProof.Rows L2 L2H HotX
section
variable {X : Cx} {M : Mx} {kk : Nat}
/-- raise X('..') -/
theorem ss_raise {x m : Str} {j c : Nat} {p p2 pos pos' : Pos} (o : Ok X M kk) (hg : Gl X x) (gC : X.mg x = some (.ref (M.cls c))) (C : ErrC X.K (M.cls c)) (hdb : (x == ("__debug__" : Str)) = false := by decide) :
    SS X M (.Raise (some (.Call (.Name x p) [.Constant (.str m) j p2] [] pos)) none pos') (fun σ => .exc c σ) :=
  PS.weak (L2N.ps_raise o.calm o.tk (L2N.pmk_own PySem.F.excBase_ValueError C.ex gC C.kp (raises_own C.bs C.ty) hg hdb)) fun D σ H ⟨σd, m, q⟩ => ⟨c, σd, rfl, rfl, m, q⟩
/-- no list, no dict of its own yet -/
def plainC (σ : DEnv) : Bool := σ.all fun c => match c with
  | .val _ => true
  | .emp => true
  | _ => false
theorem plainC_at {σ : DEnv} (h : plainC σ = true) {i : Nat} {c : Cell} (e : σ[i]? = some c) : (∃ d, c = .val d) ∨ c = .emp := by
  have := List.all_eq_true.mp h c (List.mem_of_getElem? e)
  cases c <;> simp at this
  · exact .inr rfl
  · exact .inl ⟨_, rfl⟩
def Mx.tr (M : Mx) (n : Nat) (H0 : Hp) (W : WX) : Mx := { M with H0 := H0, W := fun c σd => ∀ σ H, Mt { M with H0 := H0 } σd σ H → σ.length = n → W (.ref (M.cls c)) none σ H }
theorem Mt.tape_no {σd : DEnv} {σ : L2.St} {H : Hp} (m : Mt M σd σ H) (h : plainC σd = true) : M.tape = none := by
  cases e : M.tape with
  | none => rfl
  | some t =>
    obtain ⟨ds, q⟩ := m.tape t e
    rcases plainC_at h q with ⟨d, z⟩ | z <;> cases z
theorem Mt.toTr {σd : DEnv} {σ : L2.St} {H : Hp} {W : WX} {n : Nat} (m : Mt M σd σ H) (h : plainC σd = true) : Mt (M.tr n H W) σd σ H where
  len := m.len
  val := m.val
  own := fun i ds e => by rcases plainC_at h e with ⟨d, z⟩ | z <;> cases z
  tap := fun i ds e => by rcases plainC_at h e with ⟨d, z⟩ | z <;> cases z
  dj := m.dj
  kept := fun b o e _ => .inl e
  tabs := m.tabs
  tape := m.tape
  tapOne := m.tapOne
  dic := DicAt.no fun i l k e => by rcases plainC_at h e with ⟨d, z⟩ | z <;> cases z
theorem Mt.ofTr {σd τd : DEnv} {σ τ : L2.St} {H H1 : Hp} {M' : Mx} (m : Mt M σd σ H) (h : plainC σd = true) (e : M' = { M with H0 := H, W := M'.W }) (m1 : Mt M' τd τ H1) : Ext H H1 ∧ Mt M τd τ H1 := by
  have tn := m.tape_no h
  have kp : ∀ b o, H b = some o → Kept o (H1 b) := fun b o q => m1.kept b o (by rw [e]; exact q) (by rw [e]; show M.tape ≠ _; rw [tn]; intro z; cases z)
  have h0 : ∀ p, H p = none → M.H0 p = none := fun p q => by
    cases z : M.H0 p with
    | none => rfl
    | some o =>
      rcases m.kept p o z (by rw [tn]; intro z; cases z) with k | ⟨_, _, _, k⟩
      · rw [q] at k; cases k
      · rw [q] at k; cases k
  have ex : Ext H H1 := by
    constructor
    · intro b xs q
      rcases kp b _ q with k | ⟨_, _, k, _⟩
      · exact k
      · cases k
    · intro b o u q
      rcases kp b _ q with k | ⟨_, _, k, _⟩
      · exact k
      · cases k
  obtain ⟨K', H0', tape', tabs', cls', W'⟩ := M'
  simp only [Mx.mk.injEq] at e
  obtain ⟨rfl, rfl, rfl, rfl, rfl, -⟩ := e
  refine ⟨ex, ⟨m1.len, m1.val, fun i ds q => ?_, m1.tap, m1.dj, fun b o q ht => ?_, m1.tabs, m1.tape, m1.tapOne, ⟨fun i l ks q => ?_, m1.dic.dj⟩⟩⟩
  · obtain ⟨p, xs, h1, h2, h3, h4, h5⟩ := m1.own i ds q
    exact ⟨p, xs, h1, h2, h3, h0 p h4, h5⟩
  · exact (m.kept b o q ht).trans fun o' h' => kp b o' h'
  · obtain ⟨p, o, u, h1, h2, h3, h4, h5⟩ := m1.dic.gt i l ks q
    exact ⟨p, o, u, h1, h2, h3, h4, h0 p h5⟩
/-- try: body except x as e: return f(e) -/
def tryF (B : DEnv → O) (w : Nat → Option Str) : DEnv → O := fun σ => if plainC σ = true then match B σ with
  | .exc c _ => match w c with
    | some t => .ret (.str t) σ
    | none => .bad
  | .ret d τ => .ret d τ
  | .nx τ => .nx τ
  | _ => .bad
  else .bad
/-- what a suite does that tells a text -/
def tTold (i : Nat) (a : Addr) (t : Str) : TS := fun D σ H => σ[i]? = some (some (.ref a)) ∧ ∀ H', (∀ b o, H b = some o → H' b = some o) → D.rt (.str t) H'
theorem w_try {B : DEnv → O} {w : Nat → Option Str} {i : Nat} {x n : Str} {C : Addr} {body suite : List Stmt} {b₀ : Stmt} {np pos pos' : Pos} (o : Ok X M kk) (hs : X.stack = X.env :: X.outer) (hf : X.env.frame = some X.env.locals) (hi : X.N[i]? = some n) (hln : X.env.kindOf n = some .local) (hc : Names X x (.ref C))
    (hex : ∀ c t, w c = some t → PySem.W.exmOne X.K (.ref (M.cls c)) (.ref C) = some true)
    (hb : ∀ (pn : List (Addr × Obj)) (xe : Value → Shared → Prop) (H0 : Hp) (W' : Nat → DEnv → Prop), Ok (X.tr pn xe) { M with H0 := H0, W := W' } kk → SSs (X.tr pn xe) { M with H0 := H0, W := W' } body B)
    (hsu : ∀ (a : Addr) (oe : Obj) (pn : List (Addr × Obj)) (c : Nat) (t : Str), w c = some t → L2N.Zn (.ref (M.cls c)) none oe → (∃ vs, oe.data = .fields vs) → PSs (X.suite a ((a, oe) :: pn)) (b₀ :: suite) (tTold i a t)) :
    SS X M (.Try body [.ExceptHandler (some (.Name x np)) (some n) (b₀ :: suite) pos'] [] [] pos) (tryF B w) := by
  refine PS.weak (L2N.ps_try_as (i := i) (ts := fun a cls d D σ H => ∃ c t, cls = .ref (M.cls c) ∧ d = none ∧ w c = some t ∧ tTold i a t D σ H) (tb := fun W D σ H => ∃ H0, tS (M.tr X.N.length H0 W) B D σ H) hs hf o.nd hi hln hc o.tk (fun W pn xe tk pa => ⟨fun pins s σ H D I ⟨H0, z⟩ => ?_⟩)
    (fun a oe cls d pn hz hd => ⟨fun pins s σ H D I ⟨c, t, e1, e2, e3, e4⟩ => by
      subst e1 e2
      exact (hsu a oe pn c t e3 hz hd).run pins s σ H D I e4⟩)) fun D σ H ⟨σd, m, q⟩ => ?_
  · refine (hb pn xe H0 _ ⟨o.hK, o.calm, o.nd, o.room, ?_, pa⟩).run pins s σ H D I z
    rintro u s' ⟨a, B0, sI, pins', τ, H1, cls, d, e, J, nb, up, sky, na, os, ag, c, τd, rfl, rfl, m1, q1⟩
    exact tk u s' ⟨a, B0, sI, pins', τ, H1, _, none, e, J, nb, up, sky, na, os, ag, q1 τ H1 ⟨m1.len, m1.val, m1.own, m1.tap, m1.dj, m1.kept, m1.tabs, m1.tape, m1.tapOne, m1.dic⟩ J.len⟩
  · unfold tryF at q
    by_cases pl : plainC σd = true
    · rw [if_pos pl] at q
      refine ⟨H, σd, m.toTr pl, ?_⟩
      cases hB : B σd with
      | nx τ =>
        rw [hB] at q
        exact fun σ' H' ex m' => q σ' H' ex (m.ofTr pl rfl m').2
      | ret d τ =>
        rw [hB] at q
        exact fun v σ' H' ex r m' => q v σ' H' ex r (m.ofTr pl rfl m').2
      | exc c τ =>
        rw [hB] at q
        cases hw : w c with
        | none => simp only [hw] at q; exact q.elim
        | some t =>
          simp only [hw] at q
          intro τ' H1 m1 hl
          have m2 := m.ofTr (M' := { M with H0 := H }) pl rfl m1
          have tn := m.tape_no pl
          refine ⟨true, hex c t hw, fun _ a na => ⟨c, t, rfl, rfl, hw, ?_, fun H2 kp => ?_⟩, fun z => Bool.noConfusion z⟩
          · exact List.getElem?_set_self (by rw [hl]; exact (List.getElem?_eq_some_iff.mp hi).1)
          · have ex2 : Ext H1 H2 := ⟨fun b xs z => kp b _ z, fun b o u z => kp b _ z⟩
            refine q (.str t) σ H2 (m2.1.trans ex2) (.str _) (m.behind (fun b o z => ?_) fun P hP => ?_)
            · rcases m1.kept b o z (by show M.tape ≠ _; rw [tn]; intro z; cases z) with k | ⟨ps, more, e1, k⟩
              · exact .inl (kp b o k)
              · exact .inr ⟨ps, more, e1, kp b _ k⟩
            · obtain ⟨ps, h1, h2⟩ := m1.tabs P hP
              exact ⟨ps, kp P _ h1, h2⟩
      | retF ds τ => rw [hB] at q; exact q.elim
      | brk τ => rw [hB] at q; exact q.elim
      | cnt τ => rw [hB] at q; exact q.elim
      | bad => rw [hB] at q; exact q.elim
    · rw [if_neg pl] at q
      exact q.elim
/-- return f(e) -/
theorem suite_word {wd : Nat → Option Str} {i k : Nat} {n x : Str} {f : Addr} {fd : FuncData} {ps : List Str} {q pe pos pr : Pos} {c : Nat} {t : Str} {a : Addr} {oe : Obj} {pn : List (Addr × Obj)} (hF : ∀ c t, wd c = some t → RunW X.prog X.w X.K X.mg X.base k f fd ps (M.cls c) t) (hr : RoomH k X.A) (hw : wd c = some t)
    (hz : L2N.Zn (.ref (M.cls c)) none oe) (hf : ∃ vs, oe.data = .fields vs)
    (hg : Gl X x) (hm : X.mg x = some (.ref f)) (hk : PySem.W.keepIn X.K (.ref f) = true) (hl : ps.length = 1) (hb : Binds X.K fd ps []) (hN : X.N[i]? = some n) (hv : Vis X.env.scope n)
    (hdb : (x == ("__debug__" : Str)) = false := by decide) (hd : (n == ("__debug__" : Str)) = false := by decide) (hcd : (n == ("__classdict__" : Str)) = false := by decide)
    (he : starEach [.Name n pe] X.env = (false, eval (.Name n pe) X.env) :: starEach [] X.env := by rfl) (hpl : (backTo pos (starEach [] X.env)).any (·.1) = false := by rfl) :
    PSs (X.suite a ((a, oe) :: pn)) [.Return (some (.Call (.Name x q) [.Name n pe] [] pos)) pr] (tTold i a t) := by
  obtain ⟨vs, hv2⟩ := hf
  have w := pe_word (X := X.suite a ((a, oe) :: pn)) (i := i) (pos := pos) (q := q) (pe := pe) (p := (a, oe)) (hF c t hw) ⟨hr.dp, hr.un⟩ ⟨rfl, vs, hv2, hz.2.2 vs hv2⟩ List.mem_cons_self hz.zc hg hm hk hl hb hN hv hdb hd hcd he hpl
  exact ⟨fun pins s σ H D I h => ((pss_one (ps_ret w)).run pins s σ H D I ⟨h.1, h.2⟩)⟩
/-- the def of the words, by its promise -/
structure FnW (P : Program) (w : World) (K : PySem.W.Frag) (mg : Str → Option Value) (base : Heap) (cls : Nat → Addr) (k : Nat) (x : Str) (wd : Nat → Option Str) : Prop where
  ex : ∃ (f : Addr) (fd : FuncData) (ps : List Str), mg x = some (.ref f) ∧ PySem.W.keepIn K (.ref f) = true ∧ ps.length = 1 ∧ Binds K fd ps [] ∧ ∀ c t, wd c = some t → RunW P w K mg base k f fd ps (cls c) t
theorem w_tryW {B : DEnv → O} {wd : Nat → Option Str} {i jj : Nat} {x y n : Str} {C : Addr} {body : List Stmt} {np pos pos' q pe pos2 pr : Pos} (o : Ok X M kk) (hs : X.stack = X.env :: X.outer) (hf : X.env.frame = some X.env.locals) (hi : X.N[i]? = some n) (hln : X.env.kindOf n = some .local) (hc : Names X x (.ref C))
    (hex : ∀ c t, wd c = some t → PySem.W.exmOne X.K (.ref (M.cls c)) (.ref C) = some true) (F : FnW X.prog X.w X.K X.mg X.base M.cls jj y wd) (hj : jj ≤ kk) (hg : Gl X y) (hv : Vis X.env.scope n)
    (hb : ∀ (pn : List (Addr × Obj)) (xe : Value → Shared → Prop) (H0 : Hp) (W' : Nat → DEnv → Prop), Ok (X.tr pn xe) { M with H0 := H0, W := W' } kk → SSs (X.tr pn xe) { M with H0 := H0, W := W' } body B)
    (hdb : (y == ("__debug__" : Str)) = false := by decide) (hd : (n == ("__debug__" : Str)) = false := by decide) (hcd : (n == ("__classdict__" : Str)) = false := by decide)
    (he : starEach [.Name n pe] X.env = (false, eval (.Name n pe) X.env) :: starEach [] X.env := by rfl) (hpl : (backTo pos2 (starEach [] X.env)).any (·.1) = false := by rfl) :
    SS X M (.Try body [.ExceptHandler (some (.Name x np)) (some n) [.Return (some (.Call (.Name y q) [.Name n pe] [] pos2)) pr] pos'] [] [] pos) (tryF B wd) := by
  obtain ⟨f, fd, ps, h1, h2, h3, h4, h5⟩ := F.ex
  exact w_try o hs hf hi hln hc hex hb fun a oe pn c t hw hz hd' => suite_word (M := M) h5 (roomH_of (o.room.mono hj)) hw hz hd' hg h1 h2 h3 h4 hi hv hdb hd hcd he hpl
end
@[simp] abbrev oRaise (c : Nat) : DEnv → O := fun σ => .exc c σ
/-- the words, class by class -/
def wdOf (l : List Str) : Nat → Option Str := fun c => l[c]?
end PL
set_option Elab.async false
set_option linter.all false
set_option maxRecDepth 100000
set_option maxHeartbeats 1000000
set_option autoImplicit false
/-! math.isqrt, math.lcm. -/
namespace PL
open PySem PySem.Spec PyProof.Rows L2
section
variable {X : Cx}
/-- the greatest whole number whose square is at most n -/
def rootN (n : Nat) : Nat := Float64.isqrt n
theorem rootN_spec (n : Nat) : rootN n * rootN n ≤ n ∧ n < (rootN n + 1) * (rootN n + 1) := Float64.isqrt_spec n
def cIsqrt : List D → Option D
  | [.int i] => if decide (0 ≤ i) && decide (i.natAbs.log2 < 60) then some (.int (rootN i.toNat : Nat)) else none
  | _ => none
theorem small60 {i : Int} (h0 : 0 ≤ i) (h : i.natAbs.log2 < 60) : i < 2 ^ 64 := by
  have : i.natAbs < 2 ^ 60 := by
    by_cases z : i.natAbs = 0
    · rw [z]; decide
    · exact (Nat.log2_lt z).mp h
  omega
theorem cd_isqrt : CallD X (.builtin "math.isqrt") cIsqrt := by
  intro pins s σ H xs us Q I r ⟨ds, z, ra, hz, q⟩
  unfold cIsqrt at hz
  split at hz
  · split at hz
    · rename_i i hc
      rw [Bool.and_eq_true, decide_eq_true_eq, decide_eq_true_eq] at hc
      cases hz
      cases ra with
      | cons r1 r2 =>
        cases r2
        cases r1
        obtain ⟨u, rfl, t, rfl⟩ := vals1 r
        exact PySem.W.mg_isqrt hc.1 (small60 hc.1 hc.2) ⟨.int _, H, I.tok _, ⟨_, rfl⟩, q _ H (Same.refl _) (.int _)⟩
    · cases hz
  · cases hz
def cLcm : List D → Option D
  | [.int i, .int j] => if decide (i.natAbs.log2 < 60) && decide (j.natAbs.log2 < 60) && decide (((((Nat.lcm 1 i.natAbs).lcm j.natAbs : Nat) : Int)).natAbs.log2 < bitsLine) then some (.int ((Nat.lcm 1 i.natAbs).lcm j.natAbs : Nat)) else none
  | _ => none
theorem abs60 {i : Int} (h : i.natAbs.log2 < 60) : i.natAbs < 2 ^ 64 := by
  have : i.natAbs < 2 ^ 60 := by
    by_cases z : i.natAbs = 0
    · rw [z]; decide
    · exact (Nat.log2_lt z).mp h
  omega
theorem cd_lcm : CallD X (.builtin "math.lcm") cLcm := by
  intro pins s σ H xs us Q I r ⟨ds, z, ra, hz, q⟩
  unfold cLcm at hz
  split at hz
  · split at hz
    · rename_i i j hc
      rw [Bool.and_eq_true, Bool.and_eq_true, decide_eq_true_eq, decide_eq_true_eq, decide_eq_true_eq] at hc
      cases hz
      cases ra with
      | cons r1 r2 =>
        cases r2 with
        | cons r2 r3 =>
          cases r3
          cases r1
          cases r2
          obtain ⟨t, u, rfl⟩ := Vals.int2 r
          exact PySem.W.mg_lcm (abs60 hc.1.1) (abs60 hc.1.2) hc.2 ⟨.int _, H, I.tok _, ⟨_, rfl⟩, q _ H (Same.refl _) (.int _)⟩
    · cases hz
  · cases hz
end
end PL
set_option Elab.async false
set_option linter.all false
set_option maxRecDepth 100000
set_option maxHeartbeats 4000000
set_option autoImplicit false
namespace PL
open PySem PySem.Spec PyProof.Rows L2
def wordsOf : Nat → Option Str := wdOf ["range", "form", "none", "refused", "much"]
/-- _law_draws(script); slots: 0 script 1 draws 2 cell 3 number 4 first 5 k 6 seed -/
def fb__law_draws : DEnv → O := (oSeq (oSetF 1 (chk nilA))
    (oSeq (oFor (onD itemsS (rdV 0)) (gN 2) (oSeq (oSet 3 (callD cAbs (consA (rdV 2) nilA)))
    (oSeq (oIf (bV (bin dLt (rdV 3) (bin dPow (kI 10) (kI 18)))) (oSeq (oSet 4 (bin dMod (callD cInt (consA (bin dAdd (bin dMul (rdV 3) (kI 48271)) (kI 11)) nilA)) (kI 2147483647)))
    (oSeq (oApp 1 (bin dMod (callD cInt (consA (bin dAdd (bin dMul (rdV 4) (kI 69621)) (rdV 3)) nilA)) (kI 2147483629)))
    (oSeq (oApp 1 (bin dMod (callD cInt (consA (bin dAdd (rdV 4) (bin dDiv (rdV 3) (kI 7))) nilA)) (kI 1000003)))
    (oSet 3 (kI 0))))) oNx)
    (oFor (onA rng1 (consA (kI 60) nilA)) (gN 5) (oIf (bV (bin dGtI (rdV 3) (kI 0))) (oSeq (oApp 1 (bin dMod (callD cInt (consA (rdV 3) nilA)) (kI 997)))
    (oSet 3 (bin dDiv (rdV 3) (kI 997)))) oNx)))))
    (oSeq (oSet 6 (kI 1))
    (oSeq (oIf (bV (bin dGtI (callD cLen (consA (rdV 0) nilA)) (kI 0))) (oSet 6 (bin dAdd (kI 1) (callD cAbs (consA (bin dIx (rdV 0) (kI 0)) nilA)))) oNx)
    (oSeq (oFor (onA rng1 (consA (kI 900) nilA)) (gN 5) (oSeq (oSet 6 (bin dMod (callD cInt (consA (bin dAdd (bin dMul (rdV 6) (kI 48271)) (kI 69621)) nilA)) (kI 2147483647)))
    (oApp 1 (bin dDiv (rdV 6) (kI 5)))))
    (oRetF (newRev (rdV 1))))))))
def FF__law_draws : List D → AnsF := defF 1 7 fb__law_draws
/-- is_number(value, least, most); slots: 0 value 1 least 2 most -/
def b_is_number : DEnv → O := (oRet (vAnd (isE .int (rdV 0)) (vAnd (vNot (isE .bool (rdV 0))) (chn dLeI dLeI (rdV 1) (rdV 0) (rdV 2)))))
def F_is_number : List D → Ans := defD 3 3 b_is_number
/-- check_bend(bend); slots: 0 bend -/
def b_check_bend : DEnv → O := (oIf (bNot (bV (callF F_is_number (consA (rdV 0) (consA (kI 1) (consA (kI 1000) nilA)))))) (oRaise 0) oNx)
def F_check_bend : List D → Ans := defD 1 1 b_check_bend
/-- check_height(height); slots: 0 height -/
def b_check_height : DEnv → O := (oIf (bNot (bV (callF F_is_number (consA (rdV 0) (consA (kI 0) (consA (kI 10000) nilA)))))) (oRaise 0) oNx)
def F_check_height : List D → Ans := defD 1 1 b_check_height
/-- check_distance(distance); slots: 0 distance -/
def b_check_distance : DEnv → O := (oIf (bNot (bV (callF F_is_number (consA (rdV 0) (consA (kI 0) (consA (kI 1000000) nilA)))))) (oRaise 0) oNx)
def F_check_distance : List D → Ans := defD 1 1 b_check_distance
/-- above(bend, height, eye, distance); slots: 0 bend 1 height 2 eye 3 distance 4 rest -/
def b_above : DEnv → O := (oSeq (oSet 4 (bin dSub (bin dMul (rdV 3) (rdV 3)) (bin dMul (rdV 0) (bin dAdd (rdV 1) (rdV 2)))))
    (oRet (vOr (bin dLeI (rdV 4) (kI 0)) (bin dLeI (bin dMul (rdV 4) (rdV 4)) (bin dMul (bin dMul (bin dMul (bin dMul (kI 4) (rdV 0)) (rdV 0)) (rdV 1)) (rdV 2))))))
def F_above : List D → Ans := defD 4 5 b_above
/-- is_above(bend, height, eye, distance); slots: 0 bend 1 height 2 eye 3 distance -/
def b_is_above : DEnv → O := (oSeq (oExpr (callF F_check_bend (consA (rdV 0) nilA)))
    (oSeq (oExpr (callF F_check_height (consA (rdV 1) nilA)))
    (oSeq (oExpr (callF F_check_height (consA (rdV 2) nilA)))
    (oSeq (oExpr (callF F_check_distance (consA (rdV 3) nilA)))
    (oRet (callF F_above (consA (rdV 0) (consA (rdV 1) (consA (rdV 2) (consA (rdV 3) nilA))))))))))
def F_is_above : List D → Ans := defD 4 4 b_is_above
/-- least_height(bend, eye, distance); slots: 0 bend 1 eye 2 distance 3 low 4 high 5 middle -/
def b_least_height : DEnv → O := (oSeq (oExpr (callF F_check_bend (consA (rdV 0) nilA)))
    (oSeq (oExpr (callF F_check_height (consA (rdV 1) nilA)))
    (oSeq (oExpr (callF F_check_distance (consA (rdV 2) nilA)))
    (oSeq (oIf (bNot (bV (callF F_above (consA (rdV 0) (consA (kI 10000) (consA (rdV 1) (consA (rdV 2) nilA))))))) (oRet kN) oNx)
    (oSeq (oSet2 3 4 (consA (kI 0) (consA (kI 10000) nilA)))
    (oSeq (whileF (bV (bin dLt (rdV 3) (rdV 4))) (oSeq (oSet 5 (bin dDiv (bin dAdd (rdV 3) (rdV 4)) (kI 2)))
    (oIf (bV (callF F_above (consA (rdV 0) (consA (rdV 5) (consA (rdV 1) (consA (rdV 2) nilA)))))) (oSet 4 (rdV 5)) (oSet 3 (bin dAdd (rdV 5) (kI 1))))) 100000)
    (oRet (rdV 3))))))))
def F_least_height : List D → Ans := defD 3 6 b_least_height
/-- greatest_distance(bend, height, eye); slots: 0 bend 1 height 2 eye 3 found -/
def b_greatest_distance : DEnv → O := (oSeq (oExpr (callF F_check_bend (consA (rdV 0) nilA)))
    (oSeq (oExpr (callF F_check_height (consA (rdV 1) nilA)))
    (oSeq (oExpr (callF F_check_height (consA (rdV 2) nilA)))
    (oSeq (oSet 3 (bin dAdd (callD cIsqrt (consA (bin dMul (rdV 0) (rdV 1)) nilA)) (callD cIsqrt (consA (bin dMul (rdV 0) (rdV 2)) nilA))))
    (oRet (ite' (bV (callF F_above (consA (rdV 0) (consA (rdV 1) (consA (rdV 2) (consA (bin dAdd (rdV 3) (kI 1)) nilA)))))) (bin dAdd (rdV 3) (kI 1)) (rdV 3)))))))
def F_greatest_distance : List D → Ans := defD 3 4 b_greatest_distance
/-- _law_told(which, bend, one, two, three); slots: 0 which 1 bend 2 one 3 two 4 three 5 e -/
def b__law_told : DEnv → O := (tryF (oSeq (oIf (bV (bin dEq (rdV 0) (kI 0))) (oRet (callF F_is_above (consA (rdV 1) (consA (rdV 2) (consA (rdV 3) (consA (rdV 4) nilA)))))) oNx)
    (oRet (ite' (bV (bin dEq (rdV 0) (kI 1))) (callF F_least_height (consA (rdV 1) (consA (rdV 2) (consA (rdV 4) nilA)))) (callF F_greatest_distance (consA (rdV 1) (consA (rdV 2) (consA (rdV 3) nilA))))))) wordsOf)
def F__law_told : List D → Ans := defD 5 6 b__law_told
/-- _law_take(draws, bound); slots: 0 draws 1 bound -/
def b__law_take : DEnv → O := (oSeq (oIf (bV (bin dEq (lenV 0) (kI 0))) (oRet (kI 0)) oNx)
    (oRet (bin dMod (callD cInt (consA (popE 0) nilA)) (rdV 1))))
def F__law_take : List D → List D → AnsT := defT 1 2 b__law_take
/-- _law_root(number); slots: 0 number 1 low 2 high 3 middle -/
def b__law_root : DEnv → O := (oSeq (oSet2 1 2 (consA (kI 0) (consA (bin dAdd (rdV 0) (kI 1)) nilA)))
    (oSeq (whileF (bV (bin dGtI (bin dSub (rdV 2) (rdV 1)) (kI 1))) (oSeq (oSet 3 (bin dDiv (bin dAdd (rdV 1) (rdV 2)) (kI 2)))
    (oIf (bV (bin dLeI (bin dMul (rdV 3) (rdV 3)) (rdV 0))) (oSet 1 (rdV 3)) (oSet 2 (rdV 3)))) 100000)
    (oRet (rdV 1))))
def F__law_root : List D → Ans := defD 1 4 b__law_root
/-- _law_above(bend, height, eye, distance); slots: 0 bend 1 height 2 eye 3 distance 4 first 5 second 6 goal -/
def b__law_above : DEnv → O := (oSeq (oSet2 4 5 (consA (callF F__law_root (consA (bin dMul (bin dMul (rdV 0) (rdV 1)) (bin dPow (kI 10) (kI 24))) nilA)) (consA (callF F__law_root (consA (bin dMul (bin dMul (rdV 0) (rdV 2)) (bin dPow (kI 10) (kI 24))) nilA)) nilA)))
    (oSeq (oSet 6 (bin dMul (rdV 3) (bin dPow (kI 10) (kI 12))))
    (oSeq (oIf (bV (bin dLeI (rdV 6) (bin dAdd (rdV 4) (rdV 5)))) (oRet (kB true)) oNx)
    (oSeq (oIf (bV (bin dGtI (rdV 6) (bin dAdd (bin dAdd (rdV 4) (rdV 5)) (kI 2)))) (oRet (kB false)) oNx)
    (oRet (vAnd (bin dEq (bin dMul (rdV 4) (rdV 4)) (bin dMul (bin dMul (rdV 0) (rdV 1)) (bin dPow (kI 10) (kI 24)))) (vAnd (bin dEq (bin dMul (rdV 5) (rdV 5)) (bin dMul (bin dMul (rdV 0) (rdV 2)) (bin dPow (kI 10) (kI 24)))) (bin dEq (rdV 6) (bin dAdd (rdV 4) (rdV 5))))))))))
def F__law_above : List D → Ans := defD 4 7 b__law_above
/-- _law_says(told, due); slots: 0 told 1 due -/
def b__law_says : DEnv → O := (oRet (vAnd (isE .bool (rdV 0)) (bin dEq (rdV 0) (rdV 1))))
def F__law_says : List D → Ans := defD 2 2 b__law_says
/-- law(script); slots: 0 script 1 draws 2 turn 3 bend 4 wide 5 height 6 eye 7 far 8 alone 9 distance 10 due 11 least 12 words 13 which -/
def b_law : DEnv → O := (oSeq (oSetF 1 (callNew FF__law_draws (consA (rdV 0) nilA)))
    (oSeq (oFor (onA rng1 (consA (kI 6) nilA)) (gN 2) (oSeq (oSet 3 (bin dAdd (kI 1) (callT F__law_take 1 (consA (bin dIx (asL (chk (consA (kI 4) (consA (kI 1000) nilA)))) (callT F__law_take 1 (consA (kI 2) nilA))) nilA))))
    (oSeq (oSet 4 (bin dIx (asL (chk (consA (kI 10) (consA (kI 200) (consA (kI 10001) nilA))))) (callT F__law_take 1 (consA (kI 3) nilA))))
    (oSeq (oSet2 5 6 (consA (callT F__law_take 1 (consA (rdV 4) nilA)) (consA (callT F__law_take 1 (consA (rdV 4) nilA)) nilA)))
    (oSeq (oSet 7 (callF F__law_told (consA (kI 2) (consA (rdV 3) (consA (rdV 5) (consA (rdV 6) (consA (kI 0) nilA)))))))
    (oSeq (oSet 8 (asL (chk (consA (callF F__law_root (consA (bin dMul (rdV 3) (rdV 5)) nilA)) (consA (callF F__law_root (consA (bin dMul (rdV 3) (rdV 6)) nilA)) nilA)))))
    (oSeq (oIf (bOr (bNot (bV (isE .int (rdV 7)))) (bNot (bV (chn dLeI dLeI (callD cSum (consA (rdV 8) nilA)) (rdV 7) (bin dAdd (callD cSum (consA (rdV 8) nilA)) (kI 1)))))) (oRet (kB false)) oNx)
    (oSeq (oIf (bOr (bNot (bV (callF F__law_above (consA (rdV 3) (consA (rdV 5) (consA (rdV 6) (consA (rdV 7) nilA))))))) (bV (callF F__law_above (consA (rdV 3) (consA (rdV 5) (consA (rdV 6) (consA (bin dAdd (rdV 7) (kI 1)) nilA))))))) (oRet (kB false)) oNx)
    (oFor (onD itemsS (asL (chk (consA (rdV 7) (consA (bin dAdd (rdV 7) (kI 1)) (consA (callD cMax2 (consA (kI 0) (consA (bin dSub (rdV 7) (kI 1)) nilA))) (consA (callT F__law_take 1 (consA (bin dAdd (bin dMul (kI 2) (rdV 7)) (kI 2)) nilA)) nilA))))))) (gN 9) (oSeq (oSet 10 (callF F__law_above (consA (rdV 3) (consA (rdV 5) (consA (rdV 6) (consA (rdV 9) nilA))))))
    (oSeq (oIf (bOr (bNot (bV (callF F__law_says (consA (callF F__law_told (consA (kI 0) (consA (rdV 3) (consA (rdV 5) (consA (rdV 6) (consA (rdV 9) nilA)))))) (consA (rdV 10) nilA))))) (bNot (bV (callF F__law_says (consA (callF F__law_told (consA (kI 0) (consA (rdV 3) (consA (rdV 6) (consA (rdV 5) (consA (rdV 9) nilA)))))) (consA (rdV 10) nilA)))))) (oRet (kB false)) oNx)
    (oSeq (oSet 11 (callF F__law_told (consA (kI 1) (consA (rdV 3) (consA (rdV 6) (consA (kI 0) (consA (rdV 9) nilA)))))))
    (oIf (bV (bin dIs (rdV 11) kN)) (oIf (bV (callF F__law_above (consA (rdV 3) (consA (kI 10000) (consA (rdV 6) (consA (rdV 9) nilA)))))) (oRet (kB false)) oNx) (oIf (bOr (bNot (bV (isE .int (rdV 11)))) (bOr (bNot (bV (chn dLeI dLeI (kI 0) (rdV 11) (kI 10000)))) (bOr (bNot (bV (callF F__law_above (consA (rdV 3) (consA (rdV 11) (consA (rdV 6) (consA (rdV 9) nilA))))))) (bAnd (bV (bin dGtI (rdV 11) (kI 0))) (bV (callF F__law_above (consA (rdV 3) (consA (bin dSub (rdV 11) (kI 1)) (consA (rdV 6) (consA (rdV 9) nilA)))))))))) (oRet (kB false)) oNx))))))))))))))
    (oSeq (oSet 12 (asL (chk (consA (callF F__law_told (consA (kI 0) (consA (kI 0) (consA (kI 1) (consA (kI 1) (consA (kI 1) nilA)))))) (consA (callF F__law_told (consA (kI 0) (consA (kI 1001) (consA (kI 1) (consA (kI 1) (consA (kI 1) nilA)))))) (consA (callF F__law_told (consA (kI 0) (consA (kI 1) (consA (un dNeg (kI 1)) (consA (kI 1) (consA (kI 1) nilA)))))) (consA (callF F__law_told (consA (kI 0) (consA (kI 1) (consA (kI 1) (consA (kI 10001) (consA (kI 1) nilA)))))) (consA (callF F__law_told (consA (kI 0) (consA (kI 1) (consA (kI 1) (consA (kI 1) (consA (un dNeg (kI 1)) nilA)))))) (consA (callF F__law_told (consA (kI 0) (consA (kI 1) (consA (kI 1) (consA (kI 1) (consA (kI 1000001) nilA)))))) nilA)))))))))
    (oRet (vAnd (bin dEq (rdV 12) (asL (repF (chk (consA (kS "range") nilA)) (kI 6)))) (bin dEq (bin dAdd (asL (lc [13] (onD itemsS (asL (chk (consA (kI 1) (consA (kI 2) nilA))))) (gN 13) yesB (callF F__law_told (consA (rdV 13) (consA (kI 0) (consA (kI 1) (consA (kI 1) (consA (kI 1) nilA)))))))) (asL (lc [13] (onD itemsS (asL (chk (consA (kI 1) (consA (kI 2) nilA))))) (gN 13) yesB (callF F__law_told (consA (rdV 13) (consA (kI 1) (consA (kI 10001) (consA (kI 1) (consA (kI 1) nilA))))))))) (asL (repF (chk (consA (kS "range") nilA)) (kI 4)))))))))
def F_law : List D → Ans := defD 1 14 b_law
end PL
set_option Elab.async false
set_option linter.all false
set_option maxRecDepth 100000
set_option maxHeartbeats 4000000
set_option autoImplicit false
namespace PL
open PySem PySem.Spec PyProof.Rows L2
def top (i : Nat) : Stmt := PySem.Challenge.pw_coastlit_k84_whole_horizons.main.body.getD i (.Pass ⟨0, 0, 0, 0⟩)
structure G0 (mg : Str → Option Value) : Prop where
  z_abs : mg "abs" = none
  z_bool : mg "bool" = none
  z_int : mg "int" = none
  z_isinstance : mg "isinstance" = none
  z_len : mg "len" = none
  z_list : mg "list" = none
  z_max : mg "max" = none
  z_range : mg "range" = none
  z_reversed : mg "reversed" = none
  z_sum : mg "sum" = none
  c_MOST_BEND : ∃ t, mg "MOST_BEND" = some (.int 1000 t)
  c_MOST_DISTANCE : ∃ t, mg "MOST_DISTANCE" = some (.int 1000000 t)
  c_MOST_HEIGHT : ∃ t, mg "MOST_HEIGHT" = some (.int 10000 t)
  m_isqrt : mg "isqrt" = some (.builtin "math.isqrt")
structure E0 (K : PySem.W.Frag) (mg : Str → Option Value) (cls : Nat → Addr) (L : Addr) : Prop where
  l : mg "LightError" = some (.ref L)
  e_OutOfRange : mg "OutOfRange" = some (.ref (cls 0))
  r_OutOfRange : ErrC K (cls 0)
  x_OutOfRange : PySem.W.exmOne K (.ref (cls 0)) (.ref L) = some true
  e_Malformed : mg "Malformed" = some (.ref (cls 1))
  r_Malformed : ErrC K (cls 1)
  x_Malformed : PySem.W.exmOne K (.ref (cls 1)) (.ref L) = some true
  e_NotThere : mg "NotThere" = some (.ref (cls 2))
  r_NotThere : ErrC K (cls 2)
  x_NotThere : PySem.W.exmOne K (.ref (cls 2)) (.ref L) = some true
  e_Refused : mg "Refused" = some (.ref (cls 3))
  r_Refused : ErrC K (cls 3)
  x_Refused : PySem.W.exmOne K (.ref (cls 3)) (.ref L) = some true
  e_TooMuch : mg "TooMuch" = some (.ref (cls 4))
  r_TooMuch : ErrC K (cls 4)
  x_TooMuch : PySem.W.exmOne K (.ref (cls 4)) (.ref L) = some true
  k_0_0 : PySem.W.kitOne K (.ref (cls 0)) (.ref (cls 0)) = some true
  k_0_1 : PySem.W.kitOne K (.ref (cls 0)) (.ref (cls 1)) = some false
  k_0_2 : PySem.W.kitOne K (.ref (cls 0)) (.ref (cls 2)) = some false
  k_0_3 : PySem.W.kitOne K (.ref (cls 0)) (.ref (cls 3)) = some false
  k_0_4 : PySem.W.kitOne K (.ref (cls 0)) (.ref (cls 4)) = some false
  k_1_0 : PySem.W.kitOne K (.ref (cls 1)) (.ref (cls 0)) = some false
  k_1_1 : PySem.W.kitOne K (.ref (cls 1)) (.ref (cls 1)) = some true
  k_1_2 : PySem.W.kitOne K (.ref (cls 1)) (.ref (cls 2)) = some false
  k_1_3 : PySem.W.kitOne K (.ref (cls 1)) (.ref (cls 3)) = some false
  k_1_4 : PySem.W.kitOne K (.ref (cls 1)) (.ref (cls 4)) = some false
  k_2_0 : PySem.W.kitOne K (.ref (cls 2)) (.ref (cls 0)) = some false
  k_2_1 : PySem.W.kitOne K (.ref (cls 2)) (.ref (cls 1)) = some false
  k_2_2 : PySem.W.kitOne K (.ref (cls 2)) (.ref (cls 2)) = some true
  k_2_3 : PySem.W.kitOne K (.ref (cls 2)) (.ref (cls 3)) = some false
  k_2_4 : PySem.W.kitOne K (.ref (cls 2)) (.ref (cls 4)) = some false
  k_3_0 : PySem.W.kitOne K (.ref (cls 3)) (.ref (cls 0)) = some false
  k_3_1 : PySem.W.kitOne K (.ref (cls 3)) (.ref (cls 1)) = some false
  k_3_2 : PySem.W.kitOne K (.ref (cls 3)) (.ref (cls 2)) = some false
  k_3_3 : PySem.W.kitOne K (.ref (cls 3)) (.ref (cls 3)) = some true
  k_3_4 : PySem.W.kitOne K (.ref (cls 3)) (.ref (cls 4)) = some false
  k_4_0 : PySem.W.kitOne K (.ref (cls 4)) (.ref (cls 0)) = some false
  k_4_1 : PySem.W.kitOne K (.ref (cls 4)) (.ref (cls 1)) = some false
  k_4_2 : PySem.W.kitOne K (.ref (cls 4)) (.ref (cls 2)) = some false
  k_4_3 : PySem.W.kitOne K (.ref (cls 4)) (.ref (cls 3)) = some false
  k_4_4 : PySem.W.kitOne K (.ref (cls 4)) (.ref (cls 4)) = some true
theorem E0.hex {K : PySem.W.Frag} {mg : Str → Option Value} {cls : Nat → Addr} {L : Addr} (x0 : E0 K mg cls L) : ∀ c t, wordsOf c = some t → PySem.W.exmOne K (.ref (cls c)) (.ref L) = some true
  | 0, _, _ => x0.x_OutOfRange
  | 1, _, _ => x0.x_Malformed
  | 2, _, _ => x0.x_NotThere
  | 3, _, _ => x0.x_Refused
  | 4, _, _ => x0.x_TooMuch
  | n + 5, _, h => by cases h
def clsN (a b c d e : Addr) : Nat → Addr
  | 0 => a
  | 1 => b
  | 2 => c
  | 3 => d
  | _ => e
abbrev s__law_draws : Stmt := top 22
theorem sc__law_draws : FnScope ["script", "draws", "cell", "number", "first", "k", "seed"] ["script"] (defScope s__law_draws) := ⟨rfl, rfl, rfl, by decide +kernel, rfl, by decide +kernel, by decide +kernel⟩
abbrev s_is_number : Stmt := top 9
theorem sc_is_number : FnScope ["value", "least", "most"] ["value", "least", "most"] (defScope s_is_number) := ⟨rfl, rfl, rfl, by decide +kernel, rfl, by decide +kernel, by decide +kernel⟩
abbrev s_check_bend : Stmt := top 14
theorem sc_check_bend : FnScope ["bend"] ["bend"] (defScope s_check_bend) := ⟨rfl, rfl, rfl, by decide +kernel, rfl, by decide +kernel, by decide +kernel⟩
abbrev s_check_height : Stmt := top 15
theorem sc_check_height : FnScope ["height"] ["height"] (defScope s_check_height) := ⟨rfl, rfl, rfl, by decide +kernel, rfl, by decide +kernel, by decide +kernel⟩
abbrev s_check_distance : Stmt := top 16
theorem sc_check_distance : FnScope ["distance"] ["distance"] (defScope s_check_distance) := ⟨rfl, rfl, rfl, by decide +kernel, rfl, by decide +kernel, by decide +kernel⟩
abbrev s_above : Stmt := top 17
theorem sc_above : FnScope ["bend", "height", "eye", "distance", "rest"] ["bend", "height", "eye", "distance"] (defScope s_above) := ⟨rfl, rfl, rfl, by decide +kernel, rfl, by decide +kernel, by decide +kernel⟩
abbrev s_is_above : Stmt := top 18
theorem sc_is_above : FnScope ["bend", "height", "eye", "distance"] ["bend", "height", "eye", "distance"] (defScope s_is_above) := ⟨rfl, rfl, rfl, by decide +kernel, rfl, by decide +kernel, by decide +kernel⟩
abbrev s_least_height : Stmt := top 19
theorem sc_least_height : FnScope ["bend", "eye", "distance", "low", "high", "middle"] ["bend", "eye", "distance"] (defScope s_least_height) := ⟨rfl, rfl, rfl, by decide +kernel, rfl, by decide +kernel, by decide +kernel⟩
abbrev s_greatest_distance : Stmt := top 20
theorem sc_greatest_distance : FnScope ["bend", "height", "eye", "found"] ["bend", "height", "eye"] (defScope s_greatest_distance) := ⟨rfl, rfl, rfl, by decide +kernel, rfl, by decide +kernel, by decide +kernel⟩
abbrev s__law_word : Stmt := top 26
theorem sc__law_word : FnScope ["e", "kinds", "one"] ["e"] (defScope s__law_word) := ⟨rfl, rfl, rfl, by decide +kernel, rfl, by decide +kernel, by decide +kernel⟩
abbrev s__law_told : Stmt := top 27
theorem sc__law_told : FnScope ["which", "bend", "one", "two", "three", "e"] ["which", "bend", "one", "two", "three"] (defScope s__law_told) := ⟨rfl, rfl, rfl, by decide +kernel, rfl, by decide +kernel, by decide +kernel⟩
abbrev s__law_take : Stmt := top 23
theorem sc__law_take : FnScope ["draws", "bound"] ["draws", "bound"] (defScope s__law_take) := ⟨rfl, rfl, rfl, by decide +kernel, rfl, by decide +kernel, by decide +kernel⟩
abbrev s__law_root : Stmt := top 28
theorem sc__law_root : FnScope ["number", "low", "high", "middle"] ["number"] (defScope s__law_root) := ⟨rfl, rfl, rfl, by decide +kernel, rfl, by decide +kernel, by decide +kernel⟩
abbrev s__law_above : Stmt := top 29
theorem sc__law_above : FnScope ["bend", "height", "eye", "distance", "first", "second", "goal"] ["bend", "height", "eye", "distance"] (defScope s__law_above) := ⟨rfl, rfl, rfl, by decide +kernel, rfl, by decide +kernel, by decide +kernel⟩
abbrev s__law_says : Stmt := top 25
theorem sc__law_says : FnScope ["told", "due"] ["told", "due"] (defScope s__law_says) := ⟨rfl, rfl, rfl, by decide +kernel, rfl, by decide +kernel, by decide +kernel⟩
abbrev s_law : Stmt := top 30
theorem sc_law : FnScope ["script", "draws", "turn", "bend", "wide", "height", "eye", "far", "alone", "distance", "due", "least", "words", "which"] ["script"] (defScope s_law) := ⟨rfl, rfl, rfl, by decide +kernel, rfl, by decide +kernel, by decide +kernel⟩
section
variable {P : Program} {w : World} {K : PySem.W.Frag} {mg : Str → Option Value} {base : Heap} {tabs : List Addr} {cls : Nat → Addr} {f : Addr} {fd : FuncData} {c tp L : Addr}
theorem df__law_draws (g : G0 mg)  (FN : FunP K "_law_draws" "_law_draws" s__law_draws f fd (fun _ => True)) (hmg : mg "_law_draws" = some (.ref f)) : FnF P w K mg base tabs 1 "_law_draws" FF__law_draws :=
  fnF_b (cls := fun _ => 0) (k := 0) (B := fb__law_draws) FN hmg (FN.binds fun _ _ _ _ _ _ us hl => match us, hl with | [_], _ => rfl) sc__law_draws (fun cdv hcd A outer s H H0 E W tp o =>
    (ss_cons (ss_setF (i := 1) o.nd (by rfl) (loc_of (by rfl)) (sf_lst sa_nil))
      (ss_cons (ss_for o.own o.calm (si_seq (se_var (i := 0) (by rfl) (vis_of (by rfl))) o.hK) (sg_name o.nd (by rfl) (loc_of (by rfl))) (ss_cons (ss_set (i := 3) o.nd (by rfl) (loc_of (by rfl)) (se_callB o.hK cd_abs (by rfl) g.z_abs bt_abs (sa_cons (se_var (i := 2) (by rfl) (vis_of (by rfl))) sa_nil)))
      (ss_cons (ss_if (st_cmp o.hK (od_ltA o.u0) (se_var (i := 3) (by rfl) (vis_of (by rfl))) (se_op o.hK od_pow se_int se_int) (nomark _)) (ss_cons (ss_set (i := 4) o.nd (by rfl) (loc_of (by rfl)) (se_op o.hK od_mod (se_callTy o.hK cd_int (by rfl) g.z_int bt_int (sa_cons (se_op o.hK od_add (se_op o.hK od_mul (se_var (i := 3) (by rfl) (vis_of (by rfl))) se_int) se_int) sa_nil)) se_int))
      (ss_cons (ss_append (i := 1) (by rfl) (vis_of (by rfl)) (se_op o.hK od_mod (se_callTy o.hK cd_int (by rfl) g.z_int bt_int (sa_cons (se_op o.hK od_add (se_op o.hK od_mul (se_var (i := 4) (by rfl) (vis_of (by rfl))) se_int) (se_var (i := 3) (by rfl) (vis_of (by rfl)))) sa_nil)) se_int))
      (ss_cons (ss_append (i := 1) (by rfl) (vis_of (by rfl)) (se_op o.hK od_mod (se_callTy o.hK cd_int (by rfl) g.z_int bt_int (sa_cons (se_op o.hK od_add (se_var (i := 4) (by rfl) (vis_of (by rfl))) (se_op o.hK od_div (se_var (i := 3) (by rfl) (vis_of (by rfl))) se_int)) sa_nil)) se_int))
      (ss_one (ss_set (i := 3) o.nd (by rfl) (loc_of (by rfl)) se_int))))) ss_nil)
      (ss_one (ss_for o.own o.calm (si_range1 (by rfl) g.z_range (sa_cons se_int sa_nil)) (sg_name o.nd (by rfl) (loc_of (by rfl))) (ss_one (ss_if (st_cmp o.hK od_gtI (se_var (i := 3) (by rfl) (vis_of (by rfl))) se_int (nomark _)) (ss_cons (ss_append (i := 1) (by rfl) (vis_of (by rfl)) (se_op o.hK od_mod (se_callTy o.hK cd_int (by rfl) g.z_int bt_int (sa_cons (se_var (i := 3) (by rfl) (vis_of (by rfl))) sa_nil)) se_int))
      (ss_one (ss_set (i := 3) o.nd (by rfl) (loc_of (by rfl)) (se_op o.hK od_div (se_var (i := 3) (by rfl) (vis_of (by rfl))) se_int)))) ss_nil)))))))
      (ss_cons (ss_set (i := 6) o.nd (by rfl) (loc_of (by rfl)) se_int)
      (ss_cons (ss_if (st_cmp o.hK od_gtI (se_callB o.hK cd_len (by rfl) g.z_len bt_len (sa_cons (se_var (i := 0) (by rfl) (vis_of (by rfl))) sa_nil)) se_int (nomark _)) (ss_one (ss_set (i := 6) o.nd (by rfl) (loc_of (by rfl)) (se_op o.hK od_add se_int (se_callB o.hK cd_abs (by rfl) g.z_abs bt_abs (sa_cons (se_ix o.hK (se_var (i := 0) (by rfl) (vis_of (by rfl))) se_int) sa_nil))))) ss_nil)
      (ss_cons (ss_for o.own o.calm (si_range1 (by rfl) g.z_range (sa_cons se_int sa_nil)) (sg_name o.nd (by rfl) (loc_of (by rfl))) (ss_cons (ss_set (i := 6) o.nd (by rfl) (loc_of (by rfl)) (se_op o.hK od_mod (se_callTy o.hK cd_int (by rfl) g.z_int bt_int (sa_cons (se_op o.hK od_add (se_op o.hK od_mul (se_var (i := 6) (by rfl) (vis_of (by rfl))) se_int) se_int) sa_nil)) se_int))
      (ss_one (ss_append (i := 1) (by rfl) (vis_of (by rfl)) (se_op o.hK od_div (se_var (i := 6) (by rfl) (vis_of (by rfl))) se_int)))))
      (ss_one (ss_retF (sf_listRev o.hK o.calm (by rfl) g.z_list (by rfl) g.z_reversed (se_var (i := 1) (by rfl) (vis_of (by rfl)))))))))))) 1 7
theorem d_is_number (g : G0 mg)  (FN : FunP K "is_number" "is_number" s_is_number f fd (fun _ => True)) (hmg : mg "is_number" = some (.ref f)) : FnD P w K mg base tabs cls 1 "is_number" F_is_number :=
  fnD_b (k := 0) (B := b_is_number) FN hmg (FN.binds fun _ _ _ _ _ _ us hl => match us, hl with | [_, _, _], _ => rfl) sc_is_number (fun cdv hcd A outer s H H0 E W tp o =>
    (ss_one (ss_ret (se_and (se_isi .int o.hK (by rfl) g.z_isinstance (by rfl) g.z_int bt_int (se_var (i := 0) (by rfl) (vis_of (by rfl))) bt_isinstance) (se_and (se_not (se_isi .bool o.hK (by rfl) g.z_isinstance (by rfl) g.z_bool bt_bool (se_var (i := 0) (by rfl) (vis_of (by rfl))) bt_isinstance)) (se_one (se_chain o.hK od_leI od_leI (se_var (i := 1) (by rfl) (vis_of (by rfl))) (se_var (i := 0) (by rfl) (vis_of (by rfl))) (se_var (i := 2) (by rfl) (vis_of (by rfl)))))))))) 3 3
theorem d_check_bend (g : G0 mg) (x0 : E0 K mg cls L) (h_is_number : FnD P w K mg base tabs cls 1 "is_number" F_is_number) (FN : FunP K "check_bend" "check_bend" s_check_bend f fd (fun _ => True)) (hmg : mg "check_bend" = some (.ref f)) : FnD P w K mg base tabs cls 2 "check_bend" F_check_bend :=
  fnD_b (k := 1) (B := b_check_bend) FN hmg (FN.binds fun _ _ _ _ _ _ us hl => match us, hl with | [_], _ => rfl) sc_check_bend (fun cdv hcd A outer s H H0 E W tp o =>
    (ss_one (ss_if (st_not (st_e (se_call o h_is_number (by decide) (by rfl) (sa_cons (se_var (i := 0) (by rfl) (vis_of (by rfl))) (sa_cons se_int (sa_cons (se_gint (by rfl) g.c_MOST_BEND) sa_nil)))))) (ss_one (ss_raise o (by rfl) x0.e_OutOfRange x0.r_OutOfRange)) ss_nil))) 1 1
theorem d_check_height (g : G0 mg) (x0 : E0 K mg cls L) (h_is_number : FnD P w K mg base tabs cls 1 "is_number" F_is_number) (FN : FunP K "check_height" "check_height" s_check_height f fd (fun _ => True)) (hmg : mg "check_height" = some (.ref f)) : FnD P w K mg base tabs cls 2 "check_height" F_check_height :=
  fnD_b (k := 1) (B := b_check_height) FN hmg (FN.binds fun _ _ _ _ _ _ us hl => match us, hl with | [_], _ => rfl) sc_check_height (fun cdv hcd A outer s H H0 E W tp o =>
    (ss_one (ss_if (st_not (st_e (se_call o h_is_number (by decide) (by rfl) (sa_cons (se_var (i := 0) (by rfl) (vis_of (by rfl))) (sa_cons se_int (sa_cons (se_gint (by rfl) g.c_MOST_HEIGHT) sa_nil)))))) (ss_one (ss_raise o (by rfl) x0.e_OutOfRange x0.r_OutOfRange)) ss_nil))) 1 1
theorem d_check_distance (g : G0 mg) (x0 : E0 K mg cls L) (h_is_number : FnD P w K mg base tabs cls 1 "is_number" F_is_number) (FN : FunP K "check_distance" "check_distance" s_check_distance f fd (fun _ => True)) (hmg : mg "check_distance" = some (.ref f)) : FnD P w K mg base tabs cls 2 "check_distance" F_check_distance :=
  fnD_b (k := 1) (B := b_check_distance) FN hmg (FN.binds fun _ _ _ _ _ _ us hl => match us, hl with | [_], _ => rfl) sc_check_distance (fun cdv hcd A outer s H H0 E W tp o =>
    (ss_one (ss_if (st_not (st_e (se_call o h_is_number (by decide) (by rfl) (sa_cons (se_var (i := 0) (by rfl) (vis_of (by rfl))) (sa_cons se_int (sa_cons (se_gint (by rfl) g.c_MOST_DISTANCE) sa_nil)))))) (ss_one (ss_raise o (by rfl) x0.e_OutOfRange x0.r_OutOfRange)) ss_nil))) 1 1
theorem d_above (g : G0 mg)  (FN : FunP K "above" "above" s_above f fd (fun _ => True)) (hmg : mg "above" = some (.ref f)) : FnD P w K mg base tabs cls 1 "above" F_above :=
  fnD_b (k := 0) (B := b_above) FN hmg (FN.binds fun _ _ _ _ _ _ us hl => match us, hl with | [_, _, _, _], _ => rfl) sc_above (fun cdv hcd A outer s H H0 E W tp o =>
    (ss_cons (ss_set (i := 4) o.nd (by rfl) (loc_of (by rfl)) (se_op o.hK od_sub (se_op o.hK od_mul (se_var (i := 3) (by rfl) (vis_of (by rfl))) (se_var (i := 3) (by rfl) (vis_of (by rfl)))) (se_op o.hK od_mul (se_var (i := 0) (by rfl) (vis_of (by rfl))) (se_op o.hK od_add (se_var (i := 1) (by rfl) (vis_of (by rfl))) (se_var (i := 2) (by rfl) (vis_of (by rfl)))))))
      (ss_one (ss_ret (se_or (se_cmp o.hK od_leI (se_var (i := 4) (by rfl) (vis_of (by rfl))) se_int (nomark _)) (se_one (se_cmp o.hK od_leI (se_op o.hK od_mul (se_var (i := 4) (by rfl) (vis_of (by rfl))) (se_var (i := 4) (by rfl) (vis_of (by rfl)))) (se_op o.hK od_mul (se_op o.hK od_mul (se_op o.hK od_mul (se_op o.hK od_mul se_int (se_var (i := 0) (by rfl) (vis_of (by rfl)))) (se_var (i := 0) (by rfl) (vis_of (by rfl)))) (se_var (i := 1) (by rfl) (vis_of (by rfl)))) (se_var (i := 2) (by rfl) (vis_of (by rfl)))) (nomark _)))))))) 4 5
theorem d_is_above (g : G0 mg) (h_above : FnD P w K mg base tabs cls 1 "above" F_above) (h_check_bend : FnD P w K mg base tabs cls 2 "check_bend" F_check_bend) (h_check_distance : FnD P w K mg base tabs cls 2 "check_distance" F_check_distance) (h_check_height : FnD P w K mg base tabs cls 2 "check_height" F_check_height) (FN : FunP K "is_above" "is_above" s_is_above f fd (fun _ => True)) (hmg : mg "is_above" = some (.ref f)) : FnD P w K mg base tabs cls 3 "is_above" F_is_above :=
  fnD_b (k := 2) (B := b_is_above) FN hmg (FN.binds fun _ _ _ _ _ _ us hl => match us, hl with | [_, _, _, _], _ => rfl) sc_is_above (fun cdv hcd A outer s H H0 E W tp o =>
    (ss_cons (ss_expr (se_call o h_check_bend (by decide) (by rfl) (sa_cons (se_var (i := 0) (by rfl) (vis_of (by rfl))) sa_nil)))
      (ss_cons (ss_expr (se_call o h_check_height (by decide) (by rfl) (sa_cons (se_var (i := 1) (by rfl) (vis_of (by rfl))) sa_nil)))
      (ss_cons (ss_expr (se_call o h_check_height (by decide) (by rfl) (sa_cons (se_var (i := 2) (by rfl) (vis_of (by rfl))) sa_nil)))
      (ss_cons (ss_expr (se_call o h_check_distance (by decide) (by rfl) (sa_cons (se_var (i := 3) (by rfl) (vis_of (by rfl))) sa_nil)))
      (ss_one (ss_ret (se_call o h_above (by decide) (by rfl) (sa_cons (se_var (i := 0) (by rfl) (vis_of (by rfl))) (sa_cons (se_var (i := 1) (by rfl) (vis_of (by rfl))) (sa_cons (se_var (i := 2) (by rfl) (vis_of (by rfl))) (sa_cons (se_var (i := 3) (by rfl) (vis_of (by rfl))) sa_nil)))))))))))) 4 4
theorem d_least_height (g : G0 mg) (h_above : FnD P w K mg base tabs cls 1 "above" F_above) (h_check_bend : FnD P w K mg base tabs cls 2 "check_bend" F_check_bend) (h_check_distance : FnD P w K mg base tabs cls 2 "check_distance" F_check_distance) (h_check_height : FnD P w K mg base tabs cls 2 "check_height" F_check_height) (FN : FunP K "least_height" "least_height" s_least_height f fd (fun _ => True)) (hmg : mg "least_height" = some (.ref f)) : FnD P w K mg base tabs cls 3 "least_height" F_least_height :=
  fnD_b (k := 2) (B := b_least_height) FN hmg (FN.binds fun _ _ _ _ _ _ us hl => match us, hl with | [_, _, _], _ => rfl) sc_least_height (fun cdv hcd A outer s H H0 E W tp o =>
    (ss_cons (ss_expr (se_call o h_check_bend (by decide) (by rfl) (sa_cons (se_var (i := 0) (by rfl) (vis_of (by rfl))) sa_nil)))
      (ss_cons (ss_expr (se_call o h_check_height (by decide) (by rfl) (sa_cons (se_var (i := 1) (by rfl) (vis_of (by rfl))) sa_nil)))
      (ss_cons (ss_expr (se_call o h_check_distance (by decide) (by rfl) (sa_cons (se_var (i := 2) (by rfl) (vis_of (by rfl))) sa_nil)))
      (ss_cons (ss_if (st_not (st_e (se_call o h_above (by decide) (by rfl) (sa_cons (se_var (i := 0) (by rfl) (vis_of (by rfl))) (sa_cons (se_gint (by rfl) g.c_MOST_HEIGHT) (sa_cons (se_var (i := 1) (by rfl) (vis_of (by rfl))) (sa_cons (se_var (i := 2) (by rfl) (vis_of (by rfl))) sa_nil))))))) (ss_one (ss_ret se_non)) ss_nil)
      (ss_cons (ss_par (i := 3) (j := 4) o.calm o.nd (by rfl) (by rfl) (by decide) (by rfl) (by rfl) (sa_cons se_int (sa_cons (se_gint (by rfl) g.c_MOST_HEIGHT) sa_nil)) (by rfl))
      (ss_cons (ss_while 100000 o.own (st_cmp o.hK (od_ltA o.u0) (se_var (i := 3) (by rfl) (vis_of (by rfl))) (se_var (i := 4) (by rfl) (vis_of (by rfl))) (nomark _)) (ss_cons (ss_set (i := 5) o.nd (by rfl) (loc_of (by rfl)) (se_op o.hK od_div (se_op o.hK od_add (se_var (i := 3) (by rfl) (vis_of (by rfl))) (se_var (i := 4) (by rfl) (vis_of (by rfl)))) se_int))
      (ss_one (ss_if (st_e (se_call o h_above (by decide) (by rfl) (sa_cons (se_var (i := 0) (by rfl) (vis_of (by rfl))) (sa_cons (se_var (i := 5) (by rfl) (vis_of (by rfl))) (sa_cons (se_var (i := 1) (by rfl) (vis_of (by rfl))) (sa_cons (se_var (i := 2) (by rfl) (vis_of (by rfl))) sa_nil)))))) (ss_one (ss_set (i := 4) o.nd (by rfl) (loc_of (by rfl)) (se_var (i := 5) (by rfl) (vis_of (by rfl))))) (ss_one (ss_set (i := 3) o.nd (by rfl) (loc_of (by rfl)) (se_op o.hK od_add (se_var (i := 5) (by rfl) (vis_of (by rfl))) se_int)))))))
      (ss_one (ss_ret (se_var (i := 3) (by rfl) (vis_of (by rfl)))))))))))) 3 6
theorem d_greatest_distance (g : G0 mg) (h_above : FnD P w K mg base tabs cls 1 "above" F_above) (h_check_bend : FnD P w K mg base tabs cls 2 "check_bend" F_check_bend) (h_check_height : FnD P w K mg base tabs cls 2 "check_height" F_check_height) (FN : FunP K "greatest_distance" "greatest_distance" s_greatest_distance f fd (fun _ => True)) (hmg : mg "greatest_distance" = some (.ref f)) : FnD P w K mg base tabs cls 3 "greatest_distance" F_greatest_distance :=
  fnD_b (k := 2) (B := b_greatest_distance) FN hmg (FN.binds fun _ _ _ _ _ _ us hl => match us, hl with | [_, _, _], _ => rfl) sc_greatest_distance (fun cdv hcd A outer s H H0 E W tp o =>
    (ss_cons (ss_expr (se_call o h_check_bend (by decide) (by rfl) (sa_cons (se_var (i := 0) (by rfl) (vis_of (by rfl))) sa_nil)))
      (ss_cons (ss_expr (se_call o h_check_height (by decide) (by rfl) (sa_cons (se_var (i := 1) (by rfl) (vis_of (by rfl))) sa_nil)))
      (ss_cons (ss_expr (se_call o h_check_height (by decide) (by rfl) (sa_cons (se_var (i := 2) (by rfl) (vis_of (by rfl))) sa_nil)))
      (ss_cons (ss_set (i := 3) o.nd (by rfl) (loc_of (by rfl)) (se_op o.hK od_add (se_callM o.hK cd_isqrt (by rfl) g.m_isqrt (sa_cons (se_op o.hK od_mul (se_var (i := 0) (by rfl) (vis_of (by rfl))) (se_var (i := 1) (by rfl) (vis_of (by rfl)))) sa_nil)) (se_callM o.hK cd_isqrt (by rfl) g.m_isqrt (sa_cons (se_op o.hK od_mul (se_var (i := 0) (by rfl) (vis_of (by rfl))) (se_var (i := 2) (by rfl) (vis_of (by rfl)))) sa_nil))))
      (ss_one (ss_ret (se_if (st_e (se_call o h_above (by decide) (by rfl) (sa_cons (se_var (i := 0) (by rfl) (vis_of (by rfl))) (sa_cons (se_var (i := 1) (by rfl) (vis_of (by rfl))) (sa_cons (se_var (i := 2) (by rfl) (vis_of (by rfl))) (sa_cons (se_op o.hK od_add (se_var (i := 3) (by rfl) (vis_of (by rfl))) se_int) sa_nil)))))) (se_op o.hK od_add (se_var (i := 3) (by rfl) (vis_of (by rfl))) se_int) (se_var (i := 3) (by rfl) (vis_of (by rfl))))))))))) 3 4
theorem dw__law_word (g : G0 mg) (x0 : E0 K mg cls L) (FN : FunP K "_law_word" "_law_word" s__law_word f fd (fun _ => True)) (hmg : mg "_law_word" = some (.ref f)) : FnW P w K mg base cls 1 "_law_word" wordsOf :=
  ⟨f, fd, ["e"], hmg, FN.kp, rfl, FN.binds fun _ _ _ _ _ _ us hl => match us, hl with | [_], _ => rfl, fun c t hw => by
    have lt : c < 5 := (List.getElem?_eq_some_iff.mp (show (["range", "form", "none", "refused", "much"] : List Str)[c]? = some t from hw)).1
    refine runW_of (k := 0) FN sc__law_word (by decide) fun cdv A outer s H E p hot hz room => ?_
    have hf : ∃ vs, p.2.data = .fields vs := ⟨_, hot.2.choose_spec.1⟩
    match c, lt with
    | 0, _ =>
      cases hw
      exact word_walk (j := 0) (D := cls 0) (bs := [true, false, false, false, false]) (ts := ["range", "form", "none", "refused", "much"]) x0.r_OutOfRange.at_ hz hf (List.mem_singleton.mpr rfl) ⟨p, hot, List.mem_singleton.mpr rfl⟩ sc__law_word.nd (by rfl) g.z_isinstance (by rfl) g.z_len (by rfl) (vis_of (by rfl)) (by rfl) (vis_of (by rfl)) (loc_of (by rfl)) (.inl rfl) (blkOk_by rfl) (fun s H C cl fp => pg_name sc__law_word.nd (by rfl) (loc_of (by rfl))) (fun s H C cl fp => pt_val (pe_var (by rfl) (vis_of (by rfl)))) (fun s H C cl fp => pe_var (by rfl) (vis_of (by rfl))) (by rfl) x0.e_OutOfRange x0.k_0_0 (by rfl) x0.e_Malformed x0.k_0_1 (by rfl) x0.e_NotThere x0.k_0_2 (by rfl) x0.e_Refused x0.k_0_3 (by rfl) x0.e_TooMuch x0.k_0_4 rfl rfl rfl (by decide) rfl rfl (by rfl)
    | 1, _ =>
      cases hw
      exact word_walk (j := 1) (D := cls 1) (bs := [false, true, false, false, false]) (ts := ["range", "form", "none", "refused", "much"]) x0.r_Malformed.at_ hz hf (List.mem_singleton.mpr rfl) ⟨p, hot, List.mem_singleton.mpr rfl⟩ sc__law_word.nd (by rfl) g.z_isinstance (by rfl) g.z_len (by rfl) (vis_of (by rfl)) (by rfl) (vis_of (by rfl)) (loc_of (by rfl)) (.inl rfl) (blkOk_by rfl) (fun s H C cl fp => pg_name sc__law_word.nd (by rfl) (loc_of (by rfl))) (fun s H C cl fp => pt_val (pe_var (by rfl) (vis_of (by rfl)))) (fun s H C cl fp => pe_var (by rfl) (vis_of (by rfl))) (by rfl) x0.e_OutOfRange x0.k_1_0 (by rfl) x0.e_Malformed x0.k_1_1 (by rfl) x0.e_NotThere x0.k_1_2 (by rfl) x0.e_Refused x0.k_1_3 (by rfl) x0.e_TooMuch x0.k_1_4 rfl rfl rfl (by decide) rfl rfl (by rfl)
    | 2, _ =>
      cases hw
      exact word_walk (j := 2) (D := cls 2) (bs := [false, false, true, false, false]) (ts := ["range", "form", "none", "refused", "much"]) x0.r_NotThere.at_ hz hf (List.mem_singleton.mpr rfl) ⟨p, hot, List.mem_singleton.mpr rfl⟩ sc__law_word.nd (by rfl) g.z_isinstance (by rfl) g.z_len (by rfl) (vis_of (by rfl)) (by rfl) (vis_of (by rfl)) (loc_of (by rfl)) (.inl rfl) (blkOk_by rfl) (fun s H C cl fp => pg_name sc__law_word.nd (by rfl) (loc_of (by rfl))) (fun s H C cl fp => pt_val (pe_var (by rfl) (vis_of (by rfl)))) (fun s H C cl fp => pe_var (by rfl) (vis_of (by rfl))) (by rfl) x0.e_OutOfRange x0.k_2_0 (by rfl) x0.e_Malformed x0.k_2_1 (by rfl) x0.e_NotThere x0.k_2_2 (by rfl) x0.e_Refused x0.k_2_3 (by rfl) x0.e_TooMuch x0.k_2_4 rfl rfl rfl (by decide) rfl rfl (by rfl)
    | 3, _ =>
      cases hw
      exact word_walk (j := 3) (D := cls 3) (bs := [false, false, false, true, false]) (ts := ["range", "form", "none", "refused", "much"]) x0.r_Refused.at_ hz hf (List.mem_singleton.mpr rfl) ⟨p, hot, List.mem_singleton.mpr rfl⟩ sc__law_word.nd (by rfl) g.z_isinstance (by rfl) g.z_len (by rfl) (vis_of (by rfl)) (by rfl) (vis_of (by rfl)) (loc_of (by rfl)) (.inl rfl) (blkOk_by rfl) (fun s H C cl fp => pg_name sc__law_word.nd (by rfl) (loc_of (by rfl))) (fun s H C cl fp => pt_val (pe_var (by rfl) (vis_of (by rfl)))) (fun s H C cl fp => pe_var (by rfl) (vis_of (by rfl))) (by rfl) x0.e_OutOfRange x0.k_3_0 (by rfl) x0.e_Malformed x0.k_3_1 (by rfl) x0.e_NotThere x0.k_3_2 (by rfl) x0.e_Refused x0.k_3_3 (by rfl) x0.e_TooMuch x0.k_3_4 rfl rfl rfl (by decide) rfl rfl (by rfl)
    | 4, _ =>
      cases hw
      exact word_walk (j := 4) (D := cls 4) (bs := [false, false, false, false, true]) (ts := ["range", "form", "none", "refused", "much"]) x0.r_TooMuch.at_ hz hf (List.mem_singleton.mpr rfl) ⟨p, hot, List.mem_singleton.mpr rfl⟩ sc__law_word.nd (by rfl) g.z_isinstance (by rfl) g.z_len (by rfl) (vis_of (by rfl)) (by rfl) (vis_of (by rfl)) (loc_of (by rfl)) (.inl rfl) (blkOk_by rfl) (fun s H C cl fp => pg_name sc__law_word.nd (by rfl) (loc_of (by rfl))) (fun s H C cl fp => pt_val (pe_var (by rfl) (vis_of (by rfl)))) (fun s H C cl fp => pe_var (by rfl) (vis_of (by rfl))) (by rfl) x0.e_OutOfRange x0.k_4_0 (by rfl) x0.e_Malformed x0.k_4_1 (by rfl) x0.e_NotThere x0.k_4_2 (by rfl) x0.e_Refused x0.k_4_3 (by rfl) x0.e_TooMuch x0.k_4_4 rfl rfl rfl (by decide) rfl rfl (by rfl)⟩
theorem d__law_told (g : G0 mg) (x0 : E0 K mg cls L) (h__law_word : FnW P w K mg base cls 1 "_law_word" wordsOf) (h_greatest_distance : FnD P w K mg base tabs cls 3 "greatest_distance" F_greatest_distance) (h_is_above : FnD P w K mg base tabs cls 3 "is_above" F_is_above) (h_least_height : FnD P w K mg base tabs cls 3 "least_height" F_least_height) (FN : FunP K "_law_told" "_law_told" s__law_told f fd (fun _ => True)) (hmg : mg "_law_told" = some (.ref f)) : FnD P w K mg base tabs cls 4 "_law_told" F__law_told :=
  fnD_b (k := 3) (B := b__law_told) FN hmg (FN.binds fun _ _ _ _ _ _ us hl => match us, hl with | [_, _, _, _, _], _ => rfl) sc__law_told (fun cdv hcd A outer s H H0 E W tp o =>
    (ss_one (w_tryW (i := 5) o (by rfl) (by rfl) (by rfl) (by rfl) ⟨rfl, by decide, .inl x0.l⟩ x0.hex h__law_word (by decide) (by rfl) (vis_of (by rfl)) (fun pn xe H0 W o => (ss_cons (ss_if (st_cmp o.hK (od_eq o.u64) (se_var (i := 0) (by rfl) (vis_of (by rfl))) se_int (nomark _)) (ss_one (ss_ret (se_call o h_is_above (by decide) (by rfl) (sa_cons (se_var (i := 1) (by rfl) (vis_of (by rfl))) (sa_cons (se_var (i := 2) (by rfl) (vis_of (by rfl))) (sa_cons (se_var (i := 3) (by rfl) (vis_of (by rfl))) (sa_cons (se_var (i := 4) (by rfl) (vis_of (by rfl))) sa_nil))))))) ss_nil)
      (ss_one (ss_ret (se_if (st_cmp o.hK (od_eq o.u64) (se_var (i := 0) (by rfl) (vis_of (by rfl))) se_int (nomark _)) (se_call o h_least_height (by decide) (by rfl) (sa_cons (se_var (i := 1) (by rfl) (vis_of (by rfl))) (sa_cons (se_var (i := 2) (by rfl) (vis_of (by rfl))) (sa_cons (se_var (i := 4) (by rfl) (vis_of (by rfl))) sa_nil)))) (se_call o h_greatest_distance (by decide) (by rfl) (sa_cons (se_var (i := 1) (by rfl) (vis_of (by rfl))) (sa_cons (se_var (i := 2) (by rfl) (vis_of (by rfl))) (sa_cons (se_var (i := 3) (by rfl) (vis_of (by rfl))) sa_nil)))))))))))) 5 6
theorem d__law_take (g : G0 mg)  (FN : FunP K "_law_take" "_law_take" s__law_take f fd (fun _ => True)) (hmg : mg "_law_take" = some (.ref f)) : FnT P w K mg base tabs 1 "_law_take" F__law_take :=
  fnT_b (cls := fun _ => 0) (k := 0) (B := b__law_take) FN hmg (FN.binds fun _ _ _ _ _ _ us hl => match us, hl with | [_, _], _ => rfl) sc__law_take (fun cdv hcd A outer s H H0 E W tp o =>
    (ss_cons (ss_if (st_cmp o.hK (od_eq o.u64) (se_lenV (i := 0) o.hK (by rfl) g.z_len bt_len (by rfl) (vis_of (by rfl))) se_int (nomark _)) (ss_one (ss_ret se_int)) ss_nil)
      (ss_one (ss_ret (se_op o.hK od_mod (se_callTy o.hK cd_int (by rfl) g.z_int bt_int (sa_cons (se_pop (i := 0) (by rfl) (vis_of (by rfl))) sa_nil)) (se_var (i := 1) (by rfl) (vis_of (by rfl)))))))) 1 2
theorem d__law_root (g : G0 mg)  (FN : FunP K "_law_root" "_law_root" s__law_root f fd (fun _ => True)) (hmg : mg "_law_root" = some (.ref f)) : FnD P w K mg base tabs cls 1 "_law_root" F__law_root :=
  fnD_b (k := 0) (B := b__law_root) FN hmg (FN.binds fun _ _ _ _ _ _ us hl => match us, hl with | [_], _ => rfl) sc__law_root (fun cdv hcd A outer s H H0 E W tp o =>
    (ss_cons (ss_par (i := 1) (j := 2) o.calm o.nd (by rfl) (by rfl) (by decide) (by rfl) (by rfl) (sa_cons se_int (sa_cons (se_op o.hK od_add (se_var (i := 0) (by rfl) (vis_of (by rfl))) se_int) sa_nil)) (by rfl))
      (ss_cons (ss_while 100000 o.own (st_cmp o.hK od_gtI (se_op o.hK od_sub (se_var (i := 2) (by rfl) (vis_of (by rfl))) (se_var (i := 1) (by rfl) (vis_of (by rfl)))) se_int (nomark _)) (ss_cons (ss_set (i := 3) o.nd (by rfl) (loc_of (by rfl)) (se_op o.hK od_div (se_op o.hK od_add (se_var (i := 1) (by rfl) (vis_of (by rfl))) (se_var (i := 2) (by rfl) (vis_of (by rfl)))) se_int))
      (ss_one (ss_if (st_cmp o.hK od_leI (se_op o.hK od_mul (se_var (i := 3) (by rfl) (vis_of (by rfl))) (se_var (i := 3) (by rfl) (vis_of (by rfl)))) (se_var (i := 0) (by rfl) (vis_of (by rfl))) (nomark _)) (ss_one (ss_set (i := 1) o.nd (by rfl) (loc_of (by rfl)) (se_var (i := 3) (by rfl) (vis_of (by rfl))))) (ss_one (ss_set (i := 2) o.nd (by rfl) (loc_of (by rfl)) (se_var (i := 3) (by rfl) (vis_of (by rfl)))))))))
      (ss_one (ss_ret (se_var (i := 1) (by rfl) (vis_of (by rfl)))))))) 1 4
theorem d__law_above (g : G0 mg) (h__law_root : FnD P w K mg base tabs cls 1 "_law_root" F__law_root) (FN : FunP K "_law_above" "_law_above" s__law_above f fd (fun _ => True)) (hmg : mg "_law_above" = some (.ref f)) : FnD P w K mg base tabs cls 2 "_law_above" F__law_above :=
  fnD_b (k := 1) (B := b__law_above) FN hmg (FN.binds fun _ _ _ _ _ _ us hl => match us, hl with | [_, _, _, _], _ => rfl) sc__law_above (fun cdv hcd A outer s H H0 E W tp o =>
    (ss_cons (ss_par (i := 4) (j := 5) o.calm o.nd (by rfl) (by rfl) (by decide) (by rfl) (by rfl) (sa_cons (se_call o h__law_root (by decide) (by rfl) (sa_cons (se_op o.hK od_mul (se_op o.hK od_mul (se_var (i := 0) (by rfl) (vis_of (by rfl))) (se_var (i := 1) (by rfl) (vis_of (by rfl)))) (se_op o.hK od_pow se_int se_int)) sa_nil)) (sa_cons (se_call o h__law_root (by decide) (by rfl) (sa_cons (se_op o.hK od_mul (se_op o.hK od_mul (se_var (i := 0) (by rfl) (vis_of (by rfl))) (se_var (i := 2) (by rfl) (vis_of (by rfl)))) (se_op o.hK od_pow se_int se_int)) sa_nil)) sa_nil)) (by rfl))
      (ss_cons (ss_set (i := 6) o.nd (by rfl) (loc_of (by rfl)) (se_op o.hK od_mul (se_var (i := 3) (by rfl) (vis_of (by rfl))) (se_op o.hK od_pow se_int se_int)))
      (ss_cons (ss_if (st_cmp o.hK od_leI (se_var (i := 6) (by rfl) (vis_of (by rfl))) (se_op o.hK od_add (se_var (i := 4) (by rfl) (vis_of (by rfl))) (se_var (i := 5) (by rfl) (vis_of (by rfl)))) (nomark _)) (ss_one (ss_ret se_bl)) ss_nil)
      (ss_cons (ss_if (st_cmp o.hK od_gtI (se_var (i := 6) (by rfl) (vis_of (by rfl))) (se_op o.hK od_add (se_op o.hK od_add (se_var (i := 4) (by rfl) (vis_of (by rfl))) (se_var (i := 5) (by rfl) (vis_of (by rfl)))) se_int) (nomark _)) (ss_one (ss_ret se_bl)) ss_nil)
      (ss_one (ss_ret (se_and (se_cmp o.hK (od_eq o.u64) (se_op o.hK od_mul (se_var (i := 4) (by rfl) (vis_of (by rfl))) (se_var (i := 4) (by rfl) (vis_of (by rfl)))) (se_op o.hK od_mul (se_op o.hK od_mul (se_var (i := 0) (by rfl) (vis_of (by rfl))) (se_var (i := 1) (by rfl) (vis_of (by rfl)))) (se_op o.hK od_pow se_int se_int)) (nomark _)) (se_and (se_cmp o.hK (od_eq o.u64) (se_op o.hK od_mul (se_var (i := 5) (by rfl) (vis_of (by rfl))) (se_var (i := 5) (by rfl) (vis_of (by rfl)))) (se_op o.hK od_mul (se_op o.hK od_mul (se_var (i := 0) (by rfl) (vis_of (by rfl))) (se_var (i := 2) (by rfl) (vis_of (by rfl)))) (se_op o.hK od_pow se_int se_int)) (nomark _)) (se_one (se_cmp o.hK (od_eq o.u64) (se_var (i := 6) (by rfl) (vis_of (by rfl))) (se_op o.hK od_add (se_var (i := 4) (by rfl) (vis_of (by rfl))) (se_var (i := 5) (by rfl) (vis_of (by rfl)))) (nomark _)))))))))))) 4 7
theorem d__law_says (g : G0 mg)  (FN : FunP K "_law_says" "_law_says" s__law_says f fd (fun _ => True)) (hmg : mg "_law_says" = some (.ref f)) : FnD P w K mg base tabs cls 1 "_law_says" F__law_says :=
  fnD_b (k := 0) (B := b__law_says) FN hmg (FN.binds fun _ _ _ _ _ _ us hl => match us, hl with | [_, _], _ => rfl) sc__law_says (fun cdv hcd A outer s H H0 E W tp o =>
    (ss_one (ss_ret (se_and (se_isi .bool o.hK (by rfl) g.z_isinstance (by rfl) g.z_bool bt_bool (se_var (i := 0) (by rfl) (vis_of (by rfl))) bt_isinstance) (se_one (se_cmp o.hK (od_eq o.u64) (se_var (i := 0) (by rfl) (vis_of (by rfl))) (se_var (i := 1) (by rfl) (vis_of (by rfl))) (nomark _))))))) 2 2
theorem d_law (g : G0 mg) (h__law_above : FnD P w K mg base tabs cls 2 "_law_above" F__law_above) (hf__law_draws : FnF P w K mg base tabs 1 "_law_draws" FF__law_draws) (h__law_root : FnD P w K mg base tabs cls 1 "_law_root" F__law_root) (h__law_says : FnD P w K mg base tabs cls 1 "_law_says" F__law_says) (h__law_take : FnT P w K mg base tabs 1 "_law_take" F__law_take) (h__law_told : FnD P w K mg base tabs cls 4 "_law_told" F__law_told) (FN : FunP K "law" "law" s_law f fd (fun _ => True)) {n : Nat} {good : List Int → Prop} (hL : ∀ ns : List Int, ns.length ≤ n → good ns → F_law [.list (ns.map .int)] = .ok (.bool true)) : FnOk P w K mg base (L2N.CX P w) 5 f fd ["script"] (spL K tabs n good) :=
  fnLaw (cls := cls) (k := 4) (B := b_law) FN sc_law rfl (by decide) (fun cdv hcd A outer s H H0 E W tp o =>
    (ss_cons (ss_setF (i := 1) o.nd (by rfl) (loc_of (by rfl)) (sf_call o hf__law_draws (by decide) (by rfl) (sa_cons (se_var (i := 0) (by rfl) (vis_of (by rfl))) sa_nil)))
      (ss_cons (ss_for o.own o.calm (si_range1 (by rfl) g.z_range (sa_cons se_int sa_nil)) (sg_name o.nd (by rfl) (loc_of (by rfl))) (ss_cons (ss_set (i := 3) o.nd (by rfl) (loc_of (by rfl)) (se_op o.hK od_add se_int (se_callT (i := 1) o h__law_take (by decide) (by rfl) (by rfl) (vis_of (by rfl)) (sa_cons (se_ix o.hK (se_fz (sf_lst (sa_cons se_int (sa_cons se_int sa_nil)))) (se_callT (i := 1) o h__law_take (by decide) (by rfl) (by rfl) (vis_of (by rfl)) (sa_cons se_int sa_nil))) sa_nil))))
      (ss_cons (ss_set (i := 4) o.nd (by rfl) (loc_of (by rfl)) (se_ix o.hK (se_fz (sf_lst (sa_cons se_int (sa_cons se_int (sa_cons se_int sa_nil))))) (se_callT (i := 1) o h__law_take (by decide) (by rfl) (by rfl) (vis_of (by rfl)) (sa_cons se_int sa_nil))))
      (ss_cons (ss_par (i := 5) (j := 6) o.calm o.nd (by rfl) (by rfl) (by decide) (by rfl) (by rfl) (sa_cons (se_callT (i := 1) o h__law_take (by decide) (by rfl) (by rfl) (vis_of (by rfl)) (sa_cons (se_var (i := 4) (by rfl) (vis_of (by rfl))) sa_nil)) (sa_cons (se_callT (i := 1) o h__law_take (by decide) (by rfl) (by rfl) (vis_of (by rfl)) (sa_cons (se_var (i := 4) (by rfl) (vis_of (by rfl))) sa_nil)) sa_nil)) (by rfl))
      (ss_cons (ss_set (i := 7) o.nd (by rfl) (loc_of (by rfl)) (se_call o h__law_told (by decide) (by rfl) (sa_cons se_int (sa_cons (se_var (i := 3) (by rfl) (vis_of (by rfl))) (sa_cons (se_var (i := 5) (by rfl) (vis_of (by rfl))) (sa_cons (se_var (i := 6) (by rfl) (vis_of (by rfl))) (sa_cons se_int sa_nil)))))))
      (ss_cons (ss_set (i := 8) o.nd (by rfl) (loc_of (by rfl)) (se_fz (sf_lst (sa_cons (se_call o h__law_root (by decide) (by rfl) (sa_cons (se_op o.hK od_mul (se_var (i := 3) (by rfl) (vis_of (by rfl))) (se_var (i := 5) (by rfl) (vis_of (by rfl)))) sa_nil)) (sa_cons (se_call o h__law_root (by decide) (by rfl) (sa_cons (se_op o.hK od_mul (se_var (i := 3) (by rfl) (vis_of (by rfl))) (se_var (i := 6) (by rfl) (vis_of (by rfl)))) sa_nil)) sa_nil)))))
      (ss_cons (ss_if (st_w (sw_or (st_not (st_e (se_isi .int o.hK (by rfl) g.z_isinstance (by rfl) g.z_int bt_int (se_var (i := 7) (by rfl) (vis_of (by rfl))) bt_isinstance))) (sw_oneO (st_not (st_chain o.hK od_leI od_leI (se_callB o.hK (cd_sum o.calm) (by rfl) g.z_sum bt_sum (sa_cons (se_var (i := 8) (by rfl) (vis_of (by rfl))) sa_nil)) (se_var (i := 7) (by rfl) (vis_of (by rfl))) (se_op o.hK od_add (se_callB o.hK (cd_sum o.calm) (by rfl) g.z_sum bt_sum (sa_cons (se_var (i := 8) (by rfl) (vis_of (by rfl))) sa_nil)) se_int)))))) (ss_one (ss_ret se_bl)) ss_nil)
      (ss_cons (ss_if (st_w (sw_or (st_not (st_e (se_call o h__law_above (by decide) (by rfl) (sa_cons (se_var (i := 3) (by rfl) (vis_of (by rfl))) (sa_cons (se_var (i := 5) (by rfl) (vis_of (by rfl))) (sa_cons (se_var (i := 6) (by rfl) (vis_of (by rfl))) (sa_cons (se_var (i := 7) (by rfl) (vis_of (by rfl))) sa_nil))))))) (sw_oneO (st_e (se_call o h__law_above (by decide) (by rfl) (sa_cons (se_var (i := 3) (by rfl) (vis_of (by rfl))) (sa_cons (se_var (i := 5) (by rfl) (vis_of (by rfl))) (sa_cons (se_var (i := 6) (by rfl) (vis_of (by rfl))) (sa_cons (se_op o.hK od_add (se_var (i := 7) (by rfl) (vis_of (by rfl))) se_int) sa_nil))))))))) (ss_one (ss_ret se_bl)) ss_nil)
      (ss_one (ss_for o.own o.calm (si_seq (se_fz (sf_lst (sa_cons (se_var (i := 7) (by rfl) (vis_of (by rfl))) (sa_cons (se_op o.hK od_add (se_var (i := 7) (by rfl) (vis_of (by rfl))) se_int) (sa_cons (se_callB o.hK (cd_max2 o.calm) (by rfl) g.z_max bt_max (sa_cons se_int (sa_cons (se_op o.hK od_sub (se_var (i := 7) (by rfl) (vis_of (by rfl))) se_int) sa_nil))) (sa_cons (se_callT (i := 1) o h__law_take (by decide) (by rfl) (by rfl) (vis_of (by rfl)) (sa_cons (se_op o.hK od_add (se_op o.hK od_mul se_int (se_var (i := 7) (by rfl) (vis_of (by rfl)))) se_int) sa_nil)) sa_nil)))))) o.hK) (sg_name o.nd (by rfl) (loc_of (by rfl))) (ss_cons (ss_set (i := 10) o.nd (by rfl) (loc_of (by rfl)) (se_call o h__law_above (by decide) (by rfl) (sa_cons (se_var (i := 3) (by rfl) (vis_of (by rfl))) (sa_cons (se_var (i := 5) (by rfl) (vis_of (by rfl))) (sa_cons (se_var (i := 6) (by rfl) (vis_of (by rfl))) (sa_cons (se_var (i := 9) (by rfl) (vis_of (by rfl))) sa_nil))))))
      (ss_cons (ss_if (st_w (sw_or (st_not (st_e (se_call o h__law_says (by decide) (by rfl) (sa_cons (se_call o h__law_told (by decide) (by rfl) (sa_cons se_int (sa_cons (se_var (i := 3) (by rfl) (vis_of (by rfl))) (sa_cons (se_var (i := 5) (by rfl) (vis_of (by rfl))) (sa_cons (se_var (i := 6) (by rfl) (vis_of (by rfl))) (sa_cons (se_var (i := 9) (by rfl) (vis_of (by rfl))) sa_nil)))))) (sa_cons (se_var (i := 10) (by rfl) (vis_of (by rfl))) sa_nil))))) (sw_oneO (st_not (st_e (se_call o h__law_says (by decide) (by rfl) (sa_cons (se_call o h__law_told (by decide) (by rfl) (sa_cons se_int (sa_cons (se_var (i := 3) (by rfl) (vis_of (by rfl))) (sa_cons (se_var (i := 6) (by rfl) (vis_of (by rfl))) (sa_cons (se_var (i := 5) (by rfl) (vis_of (by rfl))) (sa_cons (se_var (i := 9) (by rfl) (vis_of (by rfl))) sa_nil)))))) (sa_cons (se_var (i := 10) (by rfl) (vis_of (by rfl))) sa_nil)))))))) (ss_one (ss_ret se_bl)) ss_nil)
      (ss_cons (ss_set (i := 11) o.nd (by rfl) (loc_of (by rfl)) (se_call o h__law_told (by decide) (by rfl) (sa_cons se_int (sa_cons (se_var (i := 3) (by rfl) (vis_of (by rfl))) (sa_cons (se_var (i := 6) (by rfl) (vis_of (by rfl))) (sa_cons se_int (sa_cons (se_var (i := 9) (by rfl) (vis_of (by rfl))) sa_nil)))))))
      (ss_one (ss_if (st_cmp o.hK od_is (se_var (i := 11) (by rfl) (vis_of (by rfl))) se_non (nomark _)) (ss_one (ss_if (st_e (se_call o h__law_above (by decide) (by rfl) (sa_cons (se_var (i := 3) (by rfl) (vis_of (by rfl))) (sa_cons se_int (sa_cons (se_var (i := 6) (by rfl) (vis_of (by rfl))) (sa_cons (se_var (i := 9) (by rfl) (vis_of (by rfl))) sa_nil)))))) (ss_one (ss_ret se_bl)) ss_nil)) (ss_one (ss_if (st_w (sw_or (st_not (st_e (se_isi .int o.hK (by rfl) g.z_isinstance (by rfl) g.z_int bt_int (se_var (i := 11) (by rfl) (vis_of (by rfl))) bt_isinstance))) (sw_or (st_not (st_chain o.hK od_leI od_leI se_int (se_var (i := 11) (by rfl) (vis_of (by rfl))) se_int)) (sw_or (st_not (st_e (se_call o h__law_above (by decide) (by rfl) (sa_cons (se_var (i := 3) (by rfl) (vis_of (by rfl))) (sa_cons (se_var (i := 11) (by rfl) (vis_of (by rfl))) (sa_cons (se_var (i := 6) (by rfl) (vis_of (by rfl))) (sa_cons (se_var (i := 9) (by rfl) (vis_of (by rfl))) sa_nil))))))) (sw_oneO (st_w (sw_and (st_cmp o.hK od_gtI (se_var (i := 11) (by rfl) (vis_of (by rfl))) se_int (nomark _)) (sw_one (st_e (se_call o h__law_above (by decide) (by rfl) (sa_cons (se_var (i := 3) (by rfl) (vis_of (by rfl))) (sa_cons (se_op o.hK od_sub (se_var (i := 11) (by rfl) (vis_of (by rfl))) se_int) (sa_cons (se_var (i := 6) (by rfl) (vis_of (by rfl))) (sa_cons (se_var (i := 9) (by rfl) (vis_of (by rfl))) sa_nil)))))))))))))) (ss_one (ss_ret se_bl)) ss_nil)))))))))))))))))
      (ss_cons (ss_set (i := 12) o.nd (by rfl) (loc_of (by rfl)) (se_fz (sf_lst (sa_cons (se_call o h__law_told (by decide) (by rfl) (sa_cons se_int (sa_cons se_int (sa_cons se_int (sa_cons se_int (sa_cons se_int sa_nil)))))) (sa_cons (se_call o h__law_told (by decide) (by rfl) (sa_cons se_int (sa_cons se_int (sa_cons se_int (sa_cons se_int (sa_cons se_int sa_nil)))))) (sa_cons (se_call o h__law_told (by decide) (by rfl) (sa_cons se_int (sa_cons se_int (sa_cons (se_un o.hK ud_neg se_int) (sa_cons se_int (sa_cons se_int sa_nil)))))) (sa_cons (se_call o h__law_told (by decide) (by rfl) (sa_cons se_int (sa_cons se_int (sa_cons se_int (sa_cons se_int (sa_cons se_int sa_nil)))))) (sa_cons (se_call o h__law_told (by decide) (by rfl) (sa_cons se_int (sa_cons se_int (sa_cons se_int (sa_cons se_int (sa_cons (se_un o.hK ud_neg se_int) sa_nil)))))) (sa_cons (se_call o h__law_told (by decide) (by rfl) (sa_cons se_int (sa_cons se_int (sa_cons se_int (sa_cons se_int (sa_cons se_int sa_nil)))))) sa_nil)))))))))
      (ss_one (ss_ret (se_and (se_cmp o.hK (od_eq o.u64) (se_var (i := 12) (by rfl) (vis_of (by rfl))) (se_fz (w_rep o (sf_lst (sa_cons se_str sa_nil)) (fun H0 o => se_int))) (nomark _)) (se_one (se_cmp o.hK (od_eq o.u64) (se_op o.hK od_add (se_fz (w_lc o [("which", 13)] (si_seq (se_fz (sf_lst (sa_cons se_int (sa_cons se_int sa_nil)))) o.hK) (blkOk_by rfl) (by decide) (by decide) (fun H0 s H C cl fp o => (sg_name o.nd (by rfl) (loc_of (by rfl)))) (fun H0 s H C cl fp o => sts_nil) (fun H0 s H C cl fp o => (se_call o h__law_told (by decide) (by rfl) (sa_cons (se_var (i := 13) (by rfl) (vis_of (by rfl))) (sa_cons se_int (sa_cons se_int (sa_cons se_int (sa_cons se_int sa_nil))))))))) (se_fz (w_lc o [("which", 13)] (si_seq (se_fz (sf_lst (sa_cons se_int (sa_cons se_int sa_nil)))) o.hK) (blkOk_by rfl) (by decide) (by decide) (fun H0 s H C cl fp o => (sg_name o.nd (by rfl) (loc_of (by rfl)))) (fun H0 s H C cl fp o => sts_nil) (fun H0 s H C cl fp o => (se_call o h__law_told (by decide) (by rfl) (sa_cons (se_var (i := 13) (by rfl) (vis_of (by rfl))) (sa_cons se_int (sa_cons se_int (sa_cons se_int (sa_cons se_int sa_nil)))))))))) (se_fz (w_rep o (sf_lst (sa_cons se_str sa_nil)) (fun H0 o => se_int))) (nomark _)))))))))) hL
end
end PL
set_option Elab.async false
set_option linter.all false
set_option maxRecDepth 100000
set_option maxHeartbeats 4000000
set_option autoImplicit false
namespace PL
open PySem PySem.Spec PyProof.Rows L2
theorem all_mk {l : PySem.W.OpenLaw} {w : World} {q : Program} {loose : List Str} {mean : ExcName → Option Value} {K : PySem.W.Frag} {h : Heap} {mg mb : Str → Option Value} {fa : Addr} (T : Top q loose mean mg mb h) (X : K.In h) (G : h.Ns mainGlobals mg) (hfa : mg "law" = some (.ref fa))
    (hL : ∀ ns : List Int, ns.length ≤ 63 → (∀ z ∈ ns, Builtin.Int.intBits z ≤ 1048576) → F_law [.list (ns.map .int)] = .ok (.bool true))
    {f0 : Addr} {od0 an0 : Option Addr} {sl0 : Array (Option Value)} {oc0 kV0 dc0 pm0 ct0 : Value} {cd0 : Value}
    (a0 : PySem.W.nsIn K mainGlobals "_law_draws" = some (some (.ref f0))) (l0 : K.lookup f0 = some ⟨oc0, od0, .func (PySem.W.fnOf "_law_draws" "_law_draws" (defArgs s__law_draws) (defBody s__law_draws) (defScope s__law_draws) .none kV0 dc0 pm0 an0 cd0 ct0), sl0⟩) (e0 : PySem.W.codeIn K cd0 "_law_draws" = true) (k0 : PySem.W.keepIn K (.ref f0) = true)
    {f1 : Addr} {od1 an1 : Option Addr} {sl1 : Array (Option Value)} {oc1 kV1 dc1 pm1 ct1 : Value} {cd1 : Value}
    (a1 : PySem.W.nsIn K mainGlobals "is_number" = some (some (.ref f1))) (l1 : K.lookup f1 = some ⟨oc1, od1, .func (PySem.W.fnOf "is_number" "is_number" (defArgs s_is_number) (defBody s_is_number) (defScope s_is_number) .none kV1 dc1 pm1 an1 cd1 ct1), sl1⟩) (e1 : PySem.W.codeIn K cd1 "is_number" = true) (k1 : PySem.W.keepIn K (.ref f1) = true)
    {f2 : Addr} {od2 an2 : Option Addr} {sl2 : Array (Option Value)} {oc2 kV2 dc2 pm2 ct2 : Value} {cd2 : Value}
    (a2 : PySem.W.nsIn K mainGlobals "check_bend" = some (some (.ref f2))) (l2 : K.lookup f2 = some ⟨oc2, od2, .func (PySem.W.fnOf "check_bend" "check_bend" (defArgs s_check_bend) (defBody s_check_bend) (defScope s_check_bend) .none kV2 dc2 pm2 an2 cd2 ct2), sl2⟩) (e2 : PySem.W.codeIn K cd2 "check_bend" = true) (k2 : PySem.W.keepIn K (.ref f2) = true)
    {f3 : Addr} {od3 an3 : Option Addr} {sl3 : Array (Option Value)} {oc3 kV3 dc3 pm3 ct3 : Value} {cd3 : Value}
    (a3 : PySem.W.nsIn K mainGlobals "check_height" = some (some (.ref f3))) (l3 : K.lookup f3 = some ⟨oc3, od3, .func (PySem.W.fnOf "check_height" "check_height" (defArgs s_check_height) (defBody s_check_height) (defScope s_check_height) .none kV3 dc3 pm3 an3 cd3 ct3), sl3⟩) (e3 : PySem.W.codeIn K cd3 "check_height" = true) (k3 : PySem.W.keepIn K (.ref f3) = true)
    {f4 : Addr} {od4 an4 : Option Addr} {sl4 : Array (Option Value)} {oc4 kV4 dc4 pm4 ct4 : Value} {cd4 : Value}
    (a4 : PySem.W.nsIn K mainGlobals "check_distance" = some (some (.ref f4))) (l4 : K.lookup f4 = some ⟨oc4, od4, .func (PySem.W.fnOf "check_distance" "check_distance" (defArgs s_check_distance) (defBody s_check_distance) (defScope s_check_distance) .none kV4 dc4 pm4 an4 cd4 ct4), sl4⟩) (e4 : PySem.W.codeIn K cd4 "check_distance" = true) (k4 : PySem.W.keepIn K (.ref f4) = true)
    {f5 : Addr} {od5 an5 : Option Addr} {sl5 : Array (Option Value)} {oc5 kV5 dc5 pm5 ct5 : Value} {cd5 : Value}
    (a5 : PySem.W.nsIn K mainGlobals "above" = some (some (.ref f5))) (l5 : K.lookup f5 = some ⟨oc5, od5, .func (PySem.W.fnOf "above" "above" (defArgs s_above) (defBody s_above) (defScope s_above) .none kV5 dc5 pm5 an5 cd5 ct5), sl5⟩) (e5 : PySem.W.codeIn K cd5 "above" = true) (k5 : PySem.W.keepIn K (.ref f5) = true)
    {f6 : Addr} {od6 an6 : Option Addr} {sl6 : Array (Option Value)} {oc6 kV6 dc6 pm6 ct6 : Value} {cd6 : Value}
    (a6 : PySem.W.nsIn K mainGlobals "is_above" = some (some (.ref f6))) (l6 : K.lookup f6 = some ⟨oc6, od6, .func (PySem.W.fnOf "is_above" "is_above" (defArgs s_is_above) (defBody s_is_above) (defScope s_is_above) .none kV6 dc6 pm6 an6 cd6 ct6), sl6⟩) (e6 : PySem.W.codeIn K cd6 "is_above" = true) (k6 : PySem.W.keepIn K (.ref f6) = true)
    {f7 : Addr} {od7 an7 : Option Addr} {sl7 : Array (Option Value)} {oc7 kV7 dc7 pm7 ct7 : Value} {cd7 : Value}
    (a7 : PySem.W.nsIn K mainGlobals "least_height" = some (some (.ref f7))) (l7 : K.lookup f7 = some ⟨oc7, od7, .func (PySem.W.fnOf "least_height" "least_height" (defArgs s_least_height) (defBody s_least_height) (defScope s_least_height) .none kV7 dc7 pm7 an7 cd7 ct7), sl7⟩) (e7 : PySem.W.codeIn K cd7 "least_height" = true) (k7 : PySem.W.keepIn K (.ref f7) = true)
    {f8 : Addr} {od8 an8 : Option Addr} {sl8 : Array (Option Value)} {oc8 kV8 dc8 pm8 ct8 : Value} {cd8 : Value}
    (a8 : PySem.W.nsIn K mainGlobals "greatest_distance" = some (some (.ref f8))) (l8 : K.lookup f8 = some ⟨oc8, od8, .func (PySem.W.fnOf "greatest_distance" "greatest_distance" (defArgs s_greatest_distance) (defBody s_greatest_distance) (defScope s_greatest_distance) .none kV8 dc8 pm8 an8 cd8 ct8), sl8⟩) (e8 : PySem.W.codeIn K cd8 "greatest_distance" = true) (k8 : PySem.W.keepIn K (.ref f8) = true)
    {f9 : Addr} {od9 an9 : Option Addr} {sl9 : Array (Option Value)} {oc9 kV9 dc9 pm9 ct9 : Value} {cd9 : Value}
    (a9 : PySem.W.nsIn K mainGlobals "_law_word" = some (some (.ref f9))) (l9 : K.lookup f9 = some ⟨oc9, od9, .func (PySem.W.fnOf "_law_word" "_law_word" (defArgs s__law_word) (defBody s__law_word) (defScope s__law_word) .none kV9 dc9 pm9 an9 cd9 ct9), sl9⟩) (e9 : PySem.W.codeIn K cd9 "_law_word" = true) (k9 : PySem.W.keepIn K (.ref f9) = true)
    {f10 : Addr} {od10 an10 : Option Addr} {sl10 : Array (Option Value)} {oc10 kV10 dc10 pm10 ct10 : Value} {cd10 : Value}
    (a10 : PySem.W.nsIn K mainGlobals "_law_told" = some (some (.ref f10))) (l10 : K.lookup f10 = some ⟨oc10, od10, .func (PySem.W.fnOf "_law_told" "_law_told" (defArgs s__law_told) (defBody s__law_told) (defScope s__law_told) .none kV10 dc10 pm10 an10 cd10 ct10), sl10⟩) (e10 : PySem.W.codeIn K cd10 "_law_told" = true) (k10 : PySem.W.keepIn K (.ref f10) = true)
    {f11 : Addr} {od11 an11 : Option Addr} {sl11 : Array (Option Value)} {oc11 kV11 dc11 pm11 ct11 : Value} {cd11 : Value}
    (a11 : PySem.W.nsIn K mainGlobals "_law_take" = some (some (.ref f11))) (l11 : K.lookup f11 = some ⟨oc11, od11, .func (PySem.W.fnOf "_law_take" "_law_take" (defArgs s__law_take) (defBody s__law_take) (defScope s__law_take) .none kV11 dc11 pm11 an11 cd11 ct11), sl11⟩) (e11 : PySem.W.codeIn K cd11 "_law_take" = true) (k11 : PySem.W.keepIn K (.ref f11) = true)
    {f12 : Addr} {od12 an12 : Option Addr} {sl12 : Array (Option Value)} {oc12 kV12 dc12 pm12 ct12 : Value} {cd12 : Value}
    (a12 : PySem.W.nsIn K mainGlobals "_law_root" = some (some (.ref f12))) (l12 : K.lookup f12 = some ⟨oc12, od12, .func (PySem.W.fnOf "_law_root" "_law_root" (defArgs s__law_root) (defBody s__law_root) (defScope s__law_root) .none kV12 dc12 pm12 an12 cd12 ct12), sl12⟩) (e12 : PySem.W.codeIn K cd12 "_law_root" = true) (k12 : PySem.W.keepIn K (.ref f12) = true)
    {f13 : Addr} {od13 an13 : Option Addr} {sl13 : Array (Option Value)} {oc13 kV13 dc13 pm13 ct13 : Value} {cd13 : Value}
    (a13 : PySem.W.nsIn K mainGlobals "_law_above" = some (some (.ref f13))) (l13 : K.lookup f13 = some ⟨oc13, od13, .func (PySem.W.fnOf "_law_above" "_law_above" (defArgs s__law_above) (defBody s__law_above) (defScope s__law_above) .none kV13 dc13 pm13 an13 cd13 ct13), sl13⟩) (e13 : PySem.W.codeIn K cd13 "_law_above" = true) (k13 : PySem.W.keepIn K (.ref f13) = true)
    {f14 : Addr} {od14 an14 : Option Addr} {sl14 : Array (Option Value)} {oc14 kV14 dc14 pm14 ct14 : Value} {cd14 : Value}
    (a14 : PySem.W.nsIn K mainGlobals "_law_says" = some (some (.ref f14))) (l14 : K.lookup f14 = some ⟨oc14, od14, .func (PySem.W.fnOf "_law_says" "_law_says" (defArgs s__law_says) (defBody s__law_says) (defScope s__law_says) .none kV14 dc14 pm14 an14 cd14 ct14), sl14⟩) (e14 : PySem.W.codeIn K cd14 "_law_says" = true) (k14 : PySem.W.keepIn K (.ref f14) = true)
    {f15 : Addr} {od15 an15 : Option Addr} {sl15 : Array (Option Value)} {oc15 kV15 dc15 pm15 ct15 : Value} {cd15 : Value}
    (a15 : PySem.W.nsIn K mainGlobals "law" = some (some (.ref f15))) (l15 : K.lookup f15 = some ⟨oc15, od15, .func (PySem.W.fnOf "law" "law" (defArgs s_law) (defBody s_law) (defScope s_law) .none kV15 dc15 pm15 an15 cd15 ct15), sl15⟩) (e15 : PySem.W.codeIn K cd15 "law" = true) (k15 : PySem.W.keepIn K (.ref f15) = true)
    (z_abs : PySem.W.nsIn K mainGlobals "abs" = some none)
    (z_bool : PySem.W.nsIn K mainGlobals "bool" = some none)
    (z_int : PySem.W.nsIn K mainGlobals "int" = some none)
    (z_isinstance : PySem.W.nsIn K mainGlobals "isinstance" = some none)
    (z_len : PySem.W.nsIn K mainGlobals "len" = some none)
    (z_list : PySem.W.nsIn K mainGlobals "list" = some none)
    (z_max : PySem.W.nsIn K mainGlobals "max" = some none)
    (z_range : PySem.W.nsIn K mainGlobals "range" = some none)
    (z_reversed : PySem.W.nsIn K mainGlobals "reversed" = some none)
    (z_sum : PySem.W.nsIn K mainGlobals "sum" = some none)
    {u_MOST_BEND : Value} (y_MOST_BEND : PySem.W.nsIn K mainGlobals "MOST_BEND" = some (some u_MOST_BEND)) (v_MOST_BEND : ∃ t, u_MOST_BEND = .int 1000 t)
    {u_MOST_DISTANCE : Value} (y_MOST_DISTANCE : PySem.W.nsIn K mainGlobals "MOST_DISTANCE" = some (some u_MOST_DISTANCE)) (v_MOST_DISTANCE : ∃ t, u_MOST_DISTANCE = .int 1000000 t)
    {u_MOST_HEIGHT : Value} (y_MOST_HEIGHT : PySem.W.nsIn K mainGlobals "MOST_HEIGHT" = some (some u_MOST_HEIGHT)) (v_MOST_HEIGHT : ∃ t, u_MOST_HEIGHT = .int 10000 t)
    (m_isqrt : PySem.W.nsIn K mainGlobals "isqrt" = some (some (.builtin "math.isqrt")))
    {LX : Addr} (q_L : PySem.W.nsIn K mainGlobals "LightError" = some (some (.ref LX)))
    {D0 : Addr} (q_OutOfRange : PySem.W.nsIn K mainGlobals "OutOfRange" = some (some (.ref D0))) (r_OutOfRange : ErrC K D0) (x_OutOfRange : PySem.W.exmOne K (.ref D0) (.ref LX) = some true)
    {D1 : Addr} (q_Malformed : PySem.W.nsIn K mainGlobals "Malformed" = some (some (.ref D1))) (r_Malformed : ErrC K D1) (x_Malformed : PySem.W.exmOne K (.ref D1) (.ref LX) = some true)
    {D2 : Addr} (q_NotThere : PySem.W.nsIn K mainGlobals "NotThere" = some (some (.ref D2))) (r_NotThere : ErrC K D2) (x_NotThere : PySem.W.exmOne K (.ref D2) (.ref LX) = some true)
    {D3 : Addr} (q_Refused : PySem.W.nsIn K mainGlobals "Refused" = some (some (.ref D3))) (r_Refused : ErrC K D3) (x_Refused : PySem.W.exmOne K (.ref D3) (.ref LX) = some true)
    {D4 : Addr} (q_TooMuch : PySem.W.nsIn K mainGlobals "TooMuch" = some (some (.ref D4))) (r_TooMuch : ErrC K D4) (x_TooMuch : PySem.W.exmOne K (.ref D4) (.ref LX) = some true)
    (k_0_0 : PySem.W.kitOne K (.ref D0) (.ref D0) = some true)
    (k_0_1 : PySem.W.kitOne K (.ref D0) (.ref D1) = some false)
    (k_0_2 : PySem.W.kitOne K (.ref D0) (.ref D2) = some false)
    (k_0_3 : PySem.W.kitOne K (.ref D0) (.ref D3) = some false)
    (k_0_4 : PySem.W.kitOne K (.ref D0) (.ref D4) = some false)
    (k_1_0 : PySem.W.kitOne K (.ref D1) (.ref D0) = some false)
    (k_1_1 : PySem.W.kitOne K (.ref D1) (.ref D1) = some true)
    (k_1_2 : PySem.W.kitOne K (.ref D1) (.ref D2) = some false)
    (k_1_3 : PySem.W.kitOne K (.ref D1) (.ref D3) = some false)
    (k_1_4 : PySem.W.kitOne K (.ref D1) (.ref D4) = some false)
    (k_2_0 : PySem.W.kitOne K (.ref D2) (.ref D0) = some false)
    (k_2_1 : PySem.W.kitOne K (.ref D2) (.ref D1) = some false)
    (k_2_2 : PySem.W.kitOne K (.ref D2) (.ref D2) = some true)
    (k_2_3 : PySem.W.kitOne K (.ref D2) (.ref D3) = some false)
    (k_2_4 : PySem.W.kitOne K (.ref D2) (.ref D4) = some false)
    (k_3_0 : PySem.W.kitOne K (.ref D3) (.ref D0) = some false)
    (k_3_1 : PySem.W.kitOne K (.ref D3) (.ref D1) = some false)
    (k_3_2 : PySem.W.kitOne K (.ref D3) (.ref D2) = some false)
    (k_3_3 : PySem.W.kitOne K (.ref D3) (.ref D3) = some true)
    (k_3_4 : PySem.W.kitOne K (.ref D3) (.ref D4) = some false)
    (k_4_0 : PySem.W.kitOne K (.ref D4) (.ref D0) = some false)
    (k_4_1 : PySem.W.kitOne K (.ref D4) (.ref D1) = some false)
    (k_4_2 : PySem.W.kitOne K (.ref D4) (.ref D2) = some false)
    (k_4_3 : PySem.W.kitOne K (.ref D4) (.ref D3) = some false)
    (k_4_4 : PySem.W.kitOne K (.ref D4) (.ref D4) = some true)
    : LamX.LawAtS l w K (L2N.CX l.prog w) 5 63 "script" mg fa h := by
  have hfa2 := hfa.symm.trans (PySem.W.mg_of X G a15)
  cases hfa2
  have g : G0 mg := ⟨PySem.W.mg_none_of X G z_abs, PySem.W.mg_none_of X G z_bool, PySem.W.mg_none_of X G z_int, PySem.W.mg_none_of X G z_isinstance, PySem.W.mg_none_of X G z_len, PySem.W.mg_none_of X G z_list, PySem.W.mg_none_of X G z_max, PySem.W.mg_none_of X G z_range, PySem.W.mg_none_of X G z_reversed, PySem.W.mg_none_of X G z_sum, (by obtain ⟨t, e⟩ := v_MOST_BEND; subst e; exact ⟨t, PySem.W.mg_of X G y_MOST_BEND⟩), (by obtain ⟨t, e⟩ := v_MOST_DISTANCE; subst e; exact ⟨t, PySem.W.mg_of X G y_MOST_DISTANCE⟩), (by obtain ⟨t, e⟩ := v_MOST_HEIGHT; subst e; exact ⟨t, PySem.W.mg_of X G y_MOST_HEIGHT⟩), PySem.W.mg_of X G m_isqrt⟩
  have x0 : E0 K mg (clsN D0 D1 D2 D3 D4) LX := ⟨PySem.W.mg_of X G q_L, PySem.W.mg_of X G q_OutOfRange, r_OutOfRange, x_OutOfRange, PySem.W.mg_of X G q_Malformed, r_Malformed, x_Malformed, PySem.W.mg_of X G q_NotThere, r_NotThere, x_NotThere, PySem.W.mg_of X G q_Refused, r_Refused, x_Refused, PySem.W.mg_of X G q_TooMuch, r_TooMuch, x_TooMuch, k_0_0, k_0_1, k_0_2, k_0_3, k_0_4, k_1_0, k_1_1, k_1_2, k_1_3, k_1_4, k_2_0, k_2_1, k_2_2, k_2_3, k_2_4, k_3_0, k_3_1, k_3_2, k_3_3, k_3_4, k_4_0, k_4_1, k_4_2, k_4_3, k_4_4⟩
  have F0 := funP_mk (cp := fun _ => True) (st := s__law_draws) l0 e0 True.intro k0
  have F1 := funP_mk (cp := fun _ => True) (st := s_is_number) l1 e1 True.intro k1
  have F2 := funP_mk (cp := fun _ => True) (st := s_check_bend) l2 e2 True.intro k2
  have F3 := funP_mk (cp := fun _ => True) (st := s_check_height) l3 e3 True.intro k3
  have F4 := funP_mk (cp := fun _ => True) (st := s_check_distance) l4 e4 True.intro k4
  have F5 := funP_mk (cp := fun _ => True) (st := s_above) l5 e5 True.intro k5
  have F6 := funP_mk (cp := fun _ => True) (st := s_is_above) l6 e6 True.intro k6
  have F7 := funP_mk (cp := fun _ => True) (st := s_least_height) l7 e7 True.intro k7
  have F8 := funP_mk (cp := fun _ => True) (st := s_greatest_distance) l8 e8 True.intro k8
  have F9 := funP_mk (cp := fun _ => True) (st := s__law_word) l9 e9 True.intro k9
  have F10 := funP_mk (cp := fun _ => True) (st := s__law_told) l10 e10 True.intro k10
  have F11 := funP_mk (cp := fun _ => True) (st := s__law_take) l11 e11 True.intro k11
  have F12 := funP_mk (cp := fun _ => True) (st := s__law_root) l12 e12 True.intro k12
  have F13 := funP_mk (cp := fun _ => True) (st := s__law_above) l13 e13 True.intro k13
  have F14 := funP_mk (cp := fun _ => True) (st := s__law_says) l14 e14 True.intro k14
  have F15 := funP_mk (cp := fun _ => True) (st := s_law) l15 e15 True.intro k15
  refine law_at ([] : List (Addr × Addr)) (fun p hp => ?_) (fun p hp => ?_) (fun s u => .of_eq rfl) (fun base _ _ TB => ?_) (fd := PySem.W.fnOf "law" "law" (defArgs s_law) (defBody s_law) (defScope s_law) .none kV15 dc15 pm15 an15 cd15 ct15)
  · cases hp
  · cases hp
  show FnOk l.prog w K mg base (L2N.CX l.prog w) 5 _ _ ["script"] (spL K (List.map (·.2) ([] : List (Addr × Addr))) 63 _)
  have Hf__law_draws := df__law_draws (P := l.prog) (w := w) (base := base) (tabs := List.map (·.2) ([] : List (Addr × Addr))) g  F0 (PySem.W.mg_of X G a0)
  have H_is_number := d_is_number (P := l.prog) (w := w) (base := base) (tabs := List.map (·.2) ([] : List (Addr × Addr))) (cls := (clsN D0 D1 D2 D3 D4)) g  F1 (PySem.W.mg_of X G a1)
  have H_check_bend := d_check_bend (P := l.prog) (w := w) (base := base) (tabs := List.map (·.2) ([] : List (Addr × Addr))) (cls := (clsN D0 D1 D2 D3 D4)) g x0 H_is_number F2 (PySem.W.mg_of X G a2)
  have H_check_height := d_check_height (P := l.prog) (w := w) (base := base) (tabs := List.map (·.2) ([] : List (Addr × Addr))) (cls := (clsN D0 D1 D2 D3 D4)) g x0 H_is_number F3 (PySem.W.mg_of X G a3)
  have H_check_distance := d_check_distance (P := l.prog) (w := w) (base := base) (tabs := List.map (·.2) ([] : List (Addr × Addr))) (cls := (clsN D0 D1 D2 D3 D4)) g x0 H_is_number F4 (PySem.W.mg_of X G a4)
  have H_above := d_above (P := l.prog) (w := w) (base := base) (tabs := List.map (·.2) ([] : List (Addr × Addr))) (cls := (clsN D0 D1 D2 D3 D4)) g  F5 (PySem.W.mg_of X G a5)
  have H_is_above := d_is_above (P := l.prog) (w := w) (base := base) (tabs := List.map (·.2) ([] : List (Addr × Addr))) (cls := (clsN D0 D1 D2 D3 D4)) g H_above H_check_bend H_check_distance H_check_height F6 (PySem.W.mg_of X G a6)
  have H_least_height := d_least_height (P := l.prog) (w := w) (base := base) (tabs := List.map (·.2) ([] : List (Addr × Addr))) (cls := (clsN D0 D1 D2 D3 D4)) g H_above H_check_bend H_check_distance H_check_height F7 (PySem.W.mg_of X G a7)
  have H_greatest_distance := d_greatest_distance (P := l.prog) (w := w) (base := base) (tabs := List.map (·.2) ([] : List (Addr × Addr))) (cls := (clsN D0 D1 D2 D3 D4)) g H_above H_check_bend H_check_height F8 (PySem.W.mg_of X G a8)
  have H__law_word := dw__law_word (P := l.prog) (w := w) (base := base) g x0 F9 (PySem.W.mg_of X G a9)
  have H__law_told := d__law_told (P := l.prog) (w := w) (base := base) (tabs := List.map (·.2) ([] : List (Addr × Addr))) (cls := (clsN D0 D1 D2 D3 D4)) g x0 H__law_word H_greatest_distance H_is_above H_least_height F10 (PySem.W.mg_of X G a10)
  have H__law_take := d__law_take (P := l.prog) (w := w) (base := base) (tabs := List.map (·.2) ([] : List (Addr × Addr))) g  F11 (PySem.W.mg_of X G a11)
  have H__law_root := d__law_root (P := l.prog) (w := w) (base := base) (tabs := List.map (·.2) ([] : List (Addr × Addr))) (cls := (clsN D0 D1 D2 D3 D4)) g  F12 (PySem.W.mg_of X G a12)
  have H__law_above := d__law_above (P := l.prog) (w := w) (base := base) (tabs := List.map (·.2) ([] : List (Addr × Addr))) (cls := (clsN D0 D1 D2 D3 D4)) g H__law_root F13 (PySem.W.mg_of X G a13)
  have H__law_says := d__law_says (P := l.prog) (w := w) (base := base) (tabs := List.map (·.2) ([] : List (Addr × Addr))) (cls := (clsN D0 D1 D2 D3 D4)) g  F14 (PySem.W.mg_of X G a14)
  exact d_law (cls := (clsN D0 D1 D2 D3 D4)) g H__law_above Hf__law_draws H__law_root H__law_says H__law_take H__law_told F15 (n := 63) hL
end PL
set_option Elab.async false
set_option linter.all false
set_option maxRecDepth 100000
set_option autoImplicit false
/-! Evaluation of readings by simp; bounds. -/
namespace PL
open PySem PySem.Spec PyProof.Rows L2
@[simp] theorem forF_nil {g : D → DEnv → Option DEnv} {b : DEnv → O} {σ : DEnv} : forF g b [] σ = .nx σ := rfl
/-! operations, case by case -/
@[simp] theorem dIx_list {ds : List D} {i : Int} : dIx (.list ds) (.int i) = (ixN ds.length i).bind fun j => ds[j]? := rfl
@[simp] theorem dIx_tuple {ds : List D} {i : Int} : dIx (.tuple ds) (.int i) = (ixN ds.length i).bind fun j => ds[j]? := rfl
@[simp] theorem dAdd_int {a b : Int} : dAdd (.int a) (.int b) = some (.int (a + b)) := rfl
@[simp] theorem dAdd_tuple {a b : List D} : dAdd (.tuple a) (.tuple b) = if a.length + b.length ≤ sizeLine then some (.tuple (a ++ b)) else none := rfl
@[simp] theorem dAdd_list {a b : List D} : dAdd (.list a) (.list b) = if a.length + b.length ≤ sizeLine then some (.list (a ++ b)) else none := rfl
@[simp] theorem dMul_int {a b : Int} : dMul (.int a) (.int b) = if cMul a b = true then some (.int (a * b)) else none := rfl
@[simp] theorem dMul_tuple {xs : List D} {k : Int} : dMul (.tuple xs) (.int k) = if 2 ≤ k ∧ k ≤ 1000 ∧ 1 ≤ xs.length ∧ xs.length ≤ 1000 then some (.tuple (List.replicate k.toNat xs).flatten) else none := rfl
@[simp] theorem dII_int {C : Int → Int → Bool} {g : Int → Int → D} {a b : Int} : dII C g (.int a) (.int b) = if C a b = true then some (g a b) else none := rfl
@[simp] theorem iMul_int {a b : Int} : iMul (.int a) (.int b) = if cMulS a b = true then some (.int (a * b)) else none := rfl
@[simp] theorem iAdd_int {a b : Int} : iAdd (.int a) (.int b) = some (.int (a + b)) := rfl
@[simp] theorem iSub_int {a b : Int} : iSub (.int a) (.int b) = some (.int (a - b)) := rfl
@[simp] theorem dNeg_int {a : Int} : dNeg (.int a) = some (.int (-a)) := rfl
@[simp] theorem cAbs_int {a : Int} : cAbs [.int a] = some (.int a.natAbs) := rfl
@[simp] theorem cLen_list {ds : List D} : cLen [.list ds] = some (.int ds.length) := rfl
@[simp] theorem cLen_tuple {ds : List D} : cLen [.tuple ds] = some (.int ds.length) := rfl
@[simp] theorem cInt_int {a : Int} : cInt [.int a] = some (.int a) := rfl
@[simp] theorem cInt_bool {b : Bool} : cInt [.bool b] = some (.int (if b then 1 else 0)) := rfl
@[simp] theorem cMax2_int {a b : Int} : cMax2 [.int a, .int b] = some (.int (max a b)) := rfl
@[simp] theorem cMin2_int {a b : Int} : cMin2 [.int a, .int b] = some (.int (min a b)) := rfl
@[simp] theorem cSeq_list {ds : List D} : cSeq [.list ds] = some ds := rfl
@[simp] theorem cSeq_tuple {ds : List D} : cSeq [.tuple ds] = some ds := rfl
@[simp] theorem cList_list {ds : List D} : cList [.list ds] = some (.list ds) := rfl
@[simp] theorem cList_tuple {ds : List D} : cList [.tuple ds] = some (.list ds) := rfl
@[simp] theorem cTuple_list {ds : List D} : cTuple [.list ds] = some (.tuple ds) := rfl
@[simp] theorem cTuple_tuple {ds : List D} : cTuple [.tuple ds] = some (.tuple ds) := rfl
@[simp] theorem cGcd_int {a b : Int} : cGcd [.int a, .int b] = some (.int (Nat.gcd a.natAbs b.natAbs : Nat)) := rfl
@[simp] theorem cSorted_list {ds : List D} : cSorted [.list ds] = if okSort ds = true then some (.list (sortD ds)) else none := by
  unfold cSorted cSort
  simp only
  split <;> rfl
@[simp] theorem itemsS_list {ds : List D} : itemsS (.list ds) = some ds := rfl
@[simp] theorem itemsS_tuple {ds : List D} : itemsS (.tuple ds) = some ds := rfl
@[simp] theorem dRev_list {ds : List D} : dRev (.list ds) = some (.list ds.reverse) := rfl
@[simp] theorem dRev_tuple {ds : List D} : dRev (.tuple ds) = some (.tuple ds.reverse) := rfl
@[simp] theorem dSl_list {ds : List D} {l h : Option Int} : dSl (.list ds) l h = some (.list (cutD ds l h)) := rfl
@[simp] theorem dSl_tuple {ds : List D} {l h : Option Int} : dSl (.tuple ds) l h = some (.tuple (cutD ds l h)) := rfl
theorem dNotIn_of {d e : D} {b : Bool} (h : dIn d e = some (.bool b)) : dNotIn d e = some (.bool (!b)) := by
  unfold dNotIn
  rw [h]
/-- no lent list stands there -/
def Cell.free : Cell → Bool
  | .tap _ => false
  | _ => true
@[simp] theorem free_tap {ds : List D} : (Cell.tap ds).free = false := rfl
@[simp] theorem free_own {ds : List D} : (Cell.own ds).free = true := rfl
@[simp] theorem free_val {d : D} : (Cell.val d).free = true := rfl
@[simp] theorem free_emp : Cell.emp.free = true := rfl
@[simp] theorem setC_eq {i : Nat} {c : Cell} {σ : DEnv} : setC i c σ = match σ[i]? with
    | some x => if x.free = true then some (σ.set i c) else none
    | none => none := by
  unfold setC
  cases σ[i]? with
  | none => rfl
  | some x => cases x <;> rfl
theorem cMul_r {a b : Int} (h : b.natAbs < 2 ^ 64) : cMul a b = true := by unfold cMul; rw [decide_eq_true h, Bool.or_true]
theorem cMul_of {a b : Int} {n : Nat} (ha : a.natAbs < 2 ^ n) (hb : b.natAbs < 2 ^ n) (hn : 2 * n ≤ 1000000 := by decide) : cMul a b = true := by
  unfold cMul
  rw [Bool.or_eq_true, decide_eq_true_eq]
  left
  have l1 : a.natAbs.log2 ≤ n := by
    by_cases h : a.natAbs = 0
    · rw [h]; simp
    · have := (Nat.log2_lt h).mpr ha
      omega
  have l2 : b.natAbs.log2 < n ∨ b.natAbs.log2 = 0 := by
    by_cases h : b.natAbs = 0
    · right; rw [h]; simp
    · left; exact (Nat.log2_lt h).mpr hb
  by_cases h : a.natAbs = 0
  · have : a.natAbs.log2 = 0 := by rw [h]; simp
    rcases l2 with l2 | l2 <;> omega
  · have := (Nat.log2_lt h).mpr ha
    rcases l2 with l2 | l2 <;> omega
theorem cDiv_of {a b : Int} (h0 : 0 < b) (hb : b.natAbs < 2 ^ 9000) : cDiv a b = true := by
  unfold cDiv
  simp only [Bool.and_eq_true, decide_eq_true_eq]
  exact ⟨h0, (Nat.log2_lt (by omega)).mpr hb⟩
theorem cMod_of {a b : Int} (h0 : 0 < b) : cMod a b = true := by
  unfold cMod
  simpa using h0
theorem rng1_ok {n : Int} (h1 : n.natAbs < 2 ^ 61) : rng1 [.int n] = some (rangeD 0 n.toNat) := by
  show (if small62 n = true then some (rangeD 0 n.toNat) else none) = _
  rw [if_pos (small62_of h1)]
theorem rng1_nat {m : Nat} (h : m < 2 ^ 61) : rng1 [.int (m : Int)] = some (rangeD 0 m) := by
  have := rng1_ok (n := (m : Int)) (by simpa using h)
  rw [Int.toNat_natCast] at this
  exact this
theorem rng2_ok {a b : Int} (h1 : a.natAbs < 2 ^ 61) (h2 : b.natAbs < 2 ^ 61) : rng2 [.int a, .int b] = some (rangeD a (b - a).toNat) := by
  show (if small62 a = true ∧ small62 b = true then some (rangeD a (b - a).toNat) else none) = _
  rw [if_pos ⟨small62_of h1, small62_of h2⟩]
theorem sizeLine_mil : 1000000 ≤ sizeLine := by decide

/-! ### data that == takes -/
def Sh (n : Nat) (d : D) : Prop := d.canLay0 = true ∧ d.depth ≤ n
theorem Sh.int {n : Nat} {i : Int} : Sh n (.int i) := ⟨by simp [PyData.canLay0], by simp [PyData.depth]⟩
theorem Sh.bool {n : Nat} {b : Bool} : Sh n (.bool b) := ⟨by simp [PyData.canLay0], by simp [PyData.depth]⟩
theorem Sh.none {n : Nat} : Sh n .none := ⟨by simp [PyData.canLay0], by simp [PyData.depth]⟩
theorem Sh.all {n : Nat} : ∀ {ds : List D}, (∀ d ∈ ds, Sh n d) → PyData.canLayAll0 ds = true ∧ PyData.depthAll ds ≤ n
  | [], _ => ⟨by simp [PyData.canLayAll0], by simp [PyData.depthAll]⟩
  | d :: ds, h => by
    obtain ⟨h1, h2⟩ := h d List.mem_cons_self
    obtain ⟨h3, h4⟩ := Sh.all fun e he => h e (List.mem_cons_of_mem _ he)
    exact ⟨by simp [PyData.canLayAll0, h1, h3], by simp only [PyData.depthAll]; omega⟩
theorem Sh.tuple {n : Nat} {ds : List D} (h : ∀ d ∈ ds, Sh n d) : Sh (n + 1) (.tuple ds) := by
  obtain ⟨h1, h2⟩ := Sh.all h
  exact ⟨by simp [PyData.canLay0, h1], by simp only [PyData.depth]; omega⟩
theorem Sh.list {n : Nat} {ds : List D} (h : ∀ d ∈ ds, Sh n d) : Sh (n + 1) (.list ds) := by
  obtain ⟨h1, h2⟩ := Sh.all h
  exact ⟨by simp [PyData.canLay0, h1], by simp only [PyData.depth]; omega⟩
theorem Sh.mono {n m : Nat} {d : D} (h : Sh n d) (hm : n ≤ m) : Sh m d := ⟨h.1, Nat.le_trans h.2 hm⟩
theorem Sh.ok {n : Nat} {d : D} (h : Sh n d) (hn : n ≤ 64 := by decide) : SeqAt.shaped d = true := by
  unfold SeqAt.shaped
  rw [h.1, Bool.true_and, decide_eq_true_eq]
  exact Nat.le_trans h.2 hn
theorem dEq_sh {n m : Nat} {d e : D} (h : Sh n d) (h' : Sh m e) (hn : n ≤ 64 := by decide) (hm : m ≤ 64 := by decide) : dEq d e = some (.bool (PyData.eqv d e)) := by
  unfold dEq
  rw [if_pos ⟨h.ok hn, h'.ok hm⟩]
theorem dNe_sh {n m : Nat} {d e : D} (h : Sh n d) (h' : Sh m e) (hn : n ≤ 64 := by decide) (hm : m ≤ 64 := by decide) : dNe d e = some (.bool (!PyData.eqv d e)) := by
  unfold dNe
  rw [if_pos ⟨h.ok hn, h'.ok hm⟩]
theorem dIn_list {n m : Nat} {d : D} {ds : List D} (h : Sh n d) (h' : ∀ e ∈ ds, Sh m e) (hn : n ≤ 64 := by decide) (hm : m + 1 ≤ 64 := by decide) : dIn d (.list ds) = some (.bool (ds.any fun z => PyData.eqv z d)) := by
  unfold dIn
  simp only
  rw [if_pos ⟨h.ok hn, (Sh.list h').ok hm⟩]
theorem dIn_tuple {n m : Nat} {d : D} {ds : List D} (h : Sh n d) (h' : ∀ e ∈ ds, Sh m e) (hn : n ≤ 64 := by decide) (hm : m + 1 ≤ 64 := by decide) : dIn d (.tuple ds) = some (.bool (ds.any fun z => PyData.eqv z d)) := by
  unfold dIn
  simp only
  rw [if_pos ⟨h.ok hn, (Sh.tuple h').ok hm⟩]
@[simp] theorem dEq_int {a b : Int} : dEq (.int a) (.int b) = some (.bool (a == b)) := by
  rw [dEq_sh (n := 0) (m := 0) Sh.int Sh.int]; simp [PyData.eqv]
@[simp] theorem dNe_int {a b : Int} : dNe (.int a) (.int b) = some (.bool (!(a == b))) := by
  rw [dNe_sh (n := 0) (m := 0) Sh.int Sh.int]; simp [PyData.eqv]
@[simp] theorem dLt_int {a b : Int} : dLt (.int a) (.int b) = some (.bool (decide (a < b))) := rfl
theorem eqvAll_map {α : Type} [DecidableEq α] {enc : α → D} (h : ∀ a b, PyData.eqv (enc a) (enc b) = decide (a = b)) : ∀ xs ys : List α, PyData.eqvAll (xs.map enc) (ys.map enc) = decide (xs = ys)
  | [], [] => by simp [PyData.eqvAll]
  | [], _ :: _ => by simp [PyData.eqvAll]
  | _ :: _, [] => by simp [PyData.eqvAll]
  | x :: xs, y :: ys => by
    rw [List.map_cons, List.map_cons, PyData.eqvAll, h x y, eqvAll_map h xs ys, ← Bool.decide_and]
    exact decide_eq_decide.mpr (by rw [List.cons.injEq])
end PL
set_option Elab.async false
set_option linter.all false
set_option maxRecDepth 100000
set_option maxHeartbeats 1000000
set_option autoImplicit false
/-! Comprehensions, quantifiers, loops, turn by turn. -/
namespace PL
open PySem PySem.Spec PyProof.Rows L2

/-- one turn of a comprehension -/
def turnL (vs : List Nat) (g : D → DEnv → Option DEnv) (t : DEnv → R Bool) (f : DEnv → R D) (d : D) (σ : DEnv) : R (Option D) := match g d σ with
  | none => .bad
  | some σ1 => (t σ1).noX.bind fun c σ2 => if c = true then (f σ2).noX.bind fun y σ3 => .ok (some y) (wipeD σ3 vs) else .ok none (wipeD σ2 vs)
theorem lcF_cons {vs : List Nat} {g : D → DEnv → Option DEnv} {t : DEnv → R Bool} {f : DEnv → R D} {d : D} {ds acc : List D} {σ : DEnv} (h : acc.length < 1000000) :
    lcF vs g t f (d :: ds) acc σ = match turnL vs g t f d σ with
      | .ok (some y) σ1 => lcF vs g t f ds (acc ++ [y]) σ1
      | .ok none σ1 => lcF vs g t f ds acc σ1
      | .exc c σ1 => .exc c σ1
      | .bad => .bad := by
  rw [lcF, turnL]
  cases g d σ with
  | none => rfl
  | some σ1 =>
    cases ht : t σ1 with
    | exc c σ2 => simp [ht]
    | bad => simp [ht]
    | ok c σ2 =>
      cases c with
      | false => simp [ht]
      | true =>
        cases hf : f σ2 with
        | exc c σ3 => simp [ht, hf]
        | bad => simp [ht, hf]
        | ok y σ3 => simp [ht, hf, h]
theorem lcF_map {vs : List Nat} {g : D → DEnv → Option DEnv} {t : DEnv → R Bool} {f : DEnv → R D} {σ : DEnv} {k : D → Option D} : ∀ {ds acc : List D}, (∀ d ∈ ds, turnL vs g t f d σ = .ok (k d) σ) → acc.length + ds.length ≤ 1000000 → lcF vs g t f ds acc σ = .ok (acc ++ ds.filterMap k) σ
  | [], acc, _, _ => by rw [lcF]; simp
  | d :: ds, acc, h, hl => by
    simp only [List.length_cons] at hl
    rw [lcF_cons (by omega), h d List.mem_cons_self]
    cases hk : k d with
    | none =>
      simp only
      rw [lcF_map (fun e he => h e (List.mem_cons_of_mem _ he)) (by omega), List.filterMap_cons_none hk]
    | some y =>
      simp only
      rw [lcF_map (fun e he => h e (List.mem_cons_of_mem _ he)) (by simp; omega), List.filterMap_cons_some hk, List.append_assoc]
      rfl
/-- a comprehension whose elements change the state -/
theorem lcF_inv {vs : List Nat} {g : D → DEnv → Option DEnv} {t : DEnv → R Bool} {f : DEnv → R D} {I : Nat → DEnv → Prop} {Pd : D → Prop} {N : Nat} : ∀ {ds acc : List D} {n : Nat} {σ : DEnv}, (∀ d ∈ ds, ∀ n < N, ∀ σ, I n σ → ∃ y σ', turnL vs g t f d σ = .ok (some y) σ' ∧ I (n + 1) σ' ∧ Pd y) → I n σ → acc.length + ds.length ≤ 1000000 → n + ds.length ≤ N →
    ∃ ys σ', lcF vs g t f ds acc σ = .ok (acc ++ ys) σ' ∧ ys.length = ds.length ∧ I (n + ds.length) σ' ∧ ∀ y ∈ ys, Pd y
  | [], acc, n, σ, _, hi, _, _ => ⟨[], σ, by rw [lcF]; simp, rfl, hi, by simp⟩
  | d :: ds, acc, n, σ, h, hi, hl, hN => by
    simp only [List.length_cons] at hl hN
    obtain ⟨y, σ1, e, i1, p1⟩ := h d List.mem_cons_self n (by omega) σ hi
    obtain ⟨ys, σ2, e2, l2, i2, p2⟩ := lcF_inv (acc := acc ++ [y]) (fun e he => h e (List.mem_cons_of_mem _ he)) i1 (by simp; omega) (by omega)
    refine ⟨y :: ys, σ2, ?_, by simp [l2], ?_, fun z hz => ?_⟩
    · rw [lcF_cons (by omega), e]
      simp only
      rw [e2, List.append_assoc]
      rfl
    · have e3 : n + (d :: ds).length = n + 1 + ds.length := by simp; omega
      rw [e3]
      exact i2
    · rcases List.mem_cons.mp hz with rfl | hz
      · exact p1
      · exact p2 z hz
theorem lc_eq {vs : List Nat} {src : DEnv → R (List D)} {g : D → DEnv → Option DEnv} {t : DEnv → R Bool} {f : DEnv → R D} {σ σ1 : DEnv} {ds acc : List D} {σ2 : DEnv} (h1 : src σ = .ok ds σ1) (h2 : lcF vs g t f ds [] (wipeD σ1 vs) = .ok acc σ2) : lc vs src g t f σ = .ok acc (backD σ1 σ2 vs) := by
  unfold lc
  rw [h1]
  simp only [R.bind]
  rw [h2]
/-- any, all -/
theorem qF_eq {stop : Bool} {vs : List Nat} {g : D → DEnv → Option DEnv} {f : DEnv → R D} {σ : DEnv} {k : D → Bool} : ∀ {ds : List D}, (∀ d ∈ ds, stG vs g f d σ = some (.bool (k d), σ)) → qF stop vs g f ds σ = .ok (if stop then ds.any k else ds.all k) σ
  | [], _ => by cases stop <;> rfl
  | d :: ds, h => by
    rw [qF, h d List.mem_cons_self]
    have ih := qF_eq (stop := stop) (ds := ds) fun e he => h e (List.mem_cons_of_mem _ he)
    simp only
    rw [ih]
    cases stop <;> cases hk : k d <;> simp [hk]
theorem qE_eq {stop : Bool} {vs : List Nat} {src : DEnv → R (List D)} {g : D → DEnv → Option DEnv} {f : DEnv → R D} {σ σ1 : DEnv} {ds : List D} {k : D → Bool} (h1 : src σ = .ok ds σ1) (h2 : ∀ d ∈ ds, stG vs g f d (wipeD σ1 vs) = some (.bool (k d), wipeD σ1 vs)) :
    qE stop vs src g f σ = .ok (.bool (if stop then ds.any k else ds.all k)) (backD σ1 (wipeD σ1 vs) vs) := by
  unfold qE
  rw [h1]
  simp only [R.bind]
  rw [qF_eq h2]
/-- the first item that stops decides -/
theorem qF_all_pre {vs : List Nat} {g : D → DEnv → Option DEnv} {f : DEnv → R D} {σ : DEnv} {d : D} : ∀ {pre post : List D}, (∀ e ∈ pre, stG vs g f e σ = some (.bool true, σ)) → stG vs g f d σ = some (.bool false, σ) → qF false vs g f (pre ++ d :: post) σ = .ok false σ
  | [], _, _, h => by rw [List.nil_append, qF, h]; rfl
  | e :: pre, post, h1, h2 => by
    rw [List.cons_append, qF, h1 e List.mem_cons_self]
    simp only
    rw [if_neg (by decide)]
    exact qF_all_pre (fun a ha => h1 a (List.mem_cons_of_mem _ ha)) h2

/-- one turn of a loop -/
def turnF (g : D → DEnv → Option DEnv) (b : DEnv → O) (d : D) (σ : DEnv) : O := match g d σ with
  | none => .bad
  | some σ1 => b σ1
theorem forF_cons {g : D → DEnv → Option DEnv} {b : DEnv → O} {d : D} {ds : List D} {σ : DEnv} : forF g b (d :: ds) σ = match turnF g b d σ with
    | .nx σ2 => forF g b ds σ2
    | .cnt σ2 => forF g b ds σ2
    | .brk σ2 => .nx σ2
    | x => x := by
  rw [forF, turnF]
  cases g d σ with
  | none => rfl
  | some σ1 => cases hb : b σ1 <;> simp [hb]
theorem forF_rel {S : Type} {g : D → DEnv → Option DEnv} {b : DEnv → O} {Rel : S → DEnv → Prop} {step : S → D → S} : ∀ {ds : List D} {s : S} {σ : DEnv}, (∀ d ∈ ds, ∀ s σ, Rel s σ → ∃ σ', turnF g b d σ = .nx σ' ∧ Rel (step s d) σ') → Rel s σ → ∃ σ', forF g b ds σ = .nx σ' ∧ Rel (ds.foldl step s) σ'
  | [], s, σ, _, h => ⟨σ, rfl, h⟩
  | d :: ds, s, σ, h, hr => by
    obtain ⟨σ1, e1, r1⟩ := h d List.mem_cons_self s σ hr
    obtain ⟨σ2, e2, r2⟩ := forF_rel (fun e he => h e (List.mem_cons_of_mem _ he)) r1
    exact ⟨σ2, by rw [forF_cons, e1]; exact e2, r2⟩

/-! ### two clauses; cells behind a block -/
theorem lcF2_flat {vs vs1 : List Nat} {g g1 : D → DEnv → Option DEnv} {t t1 : DEnv → R Bool} {src1 : DEnv → R (List D)} {f : DEnv → R D} {σ : DEnv} {k : D → List D} : ∀ {ds acc : List D},
    (∀ d ∈ ds, ∃ σ1 σ2 es σ3 σ4, g d σ = some σ1 ∧ t σ1 = .ok true σ2 ∧ src1 σ2 = .ok es σ3 ∧ (∀ acc : List D, acc.length + (k d).length ≤ 900000 → lcF vs1 g1 t1 f es acc (wipeD σ3 vs1) = .ok (acc ++ k d) σ4) ∧ wipeD σ4 vs = σ) →
    acc.length + (ds.flatMap k).length ≤ 900000 → lcF2 vs vs1 g t src1 g1 t1 f ds acc σ = .ok (acc ++ ds.flatMap k) σ
  | [], acc, _, _ => by rw [lcF2]; simp
  | d :: ds, acc, h, hl => by
    obtain ⟨σ1, σ2, es, σ3, σ4, e1, e2, e3, e4, e5⟩ := h d List.mem_cons_self
    simp only [List.flatMap_cons, List.length_append] at hl
    have e6 := e4 acc (by omega)
    rw [lcF2, e1]
    simp only [e2, R.noX, R.bind, if_true, e3, e6, e5]
    rw [lcF2_flat (fun e he => h e (List.mem_cons_of_mem _ he)) (by rw [List.length_append]; omega), List.append_assoc]
    rfl
theorem lc2_eq {vs vs1 : List Nat} {src src1 : DEnv → R (List D)} {g g1 : D → DEnv → Option DEnv} {t t1 : DEnv → R Bool} {f : DEnv → R D} {σ σ1 σ2 : DEnv} {ds acc : List D} (h1 : src σ = .ok ds σ1) (h2 : lcF2 vs vs1 g t src1 g1 t1 f ds [] (wipeD σ1 vs) = .ok acc σ2) : lc2 vs vs1 src g t src1 g1 t1 f σ = .ok acc (backD σ1 σ2 vs) := by
  unfold lc2
  rw [h1]
  simp only [R.bind]
  rw [h2]
/-- what a block leaves of a name that is its own -/
def backC : Option Cell → Cell
  | some (.val d) => .val d
  | _ => .emp
@[simp] theorem backC_free {o : Option Cell} : (backC o).free = true := by
  unfold backC
  split <;> rfl
@[simp] theorem backC_val {d : D} : backC (some (.val d)) = .val d := rfl
@[simp] theorem backC_emp : backC (some .emp) = .emp := rfl
theorem backD_cons {σ0 σ1 : DEnv} {v : Nat} {vs : List Nat} : backD σ0 σ1 (v :: vs) = (backD σ0 σ1 vs).set v (backC σ0[v]?) := by
  rw [backD]
  cases h : σ0[v]? with
  | none => simp [backC]
  | some c => cases c <;> simp [backC]
theorem backD_nil {σ0 σ1 : DEnv} : backD σ0 σ1 [] = σ1 := rfl
theorem wipeD_cons {σ : DEnv} {v : Nat} {vs : List Nat} : wipeD σ (v :: vs) = (wipeD σ vs).set v .emp := rfl
theorem wipeD_nil {σ : DEnv} : wipeD σ [] = σ := rfl
end PL
set_option Elab.async false
set_option linter.all false
set_option maxRecDepth 100000
set_option maxHeartbeats 1000000
set_option autoImplicit false
/-! The typed layer: plain Lean functions in Ex, patterns of environments, what it is to follow. -/
namespace PL
open PySem PySem.Spec PyProof.Rows L2
inductive Ex (α : Type) where
  | ok (a : α)
  | exc (c : Nat)
  | bad
namespace Ex
def bind {α β : Type} (x : Ex α) (f : α → Ex β) : Ex β := match x with
  | .ok a => f a
  | .exc c => .exc c
  | .bad => .bad
@[simp] theorem bind_ok {α β : Type} {a : α} {f : α → Ex β} : (Ex.ok a).bind f = f a := rfl
@[simp] theorem bind_exc {α β : Type} {c : Nat} {f : α → Ex β} : (Ex.exc c : Ex α).bind f = .exc c := rfl
@[simp] theorem bind_bad {α β : Type} {f : α → Ex β} : (Ex.bad : Ex α).bind f = .bad := rfl
theorem bind_assoc {α β γ : Type} (x : Ex α) (f : α → Ex β) (g : β → Ex γ) : (x.bind f).bind g = x.bind fun a => (f a).bind g := by cases x <;> rfl
theorem bind_eq_ok {α β : Type} {x : Ex α} {f : α → Ex β} {b : β} (h : x.bind f = .ok b) : ∃ a, x = .ok a ∧ f a = .ok b := by
  cases x with
  | ok a => exact ⟨a, rfl, h⟩
  | exc c => cases h
  | bad => cases h
def guard {α : Type} (c : Bool) (a : α) : Ex α := if c = true then .ok a else .bad
theorem guard_eq {α : Type} {c : Bool} {a b : α} (h : guard c a = .ok b) : c = true ∧ a = b := by
  unfold guard at h
  split at h
  · cases h; exact ⟨by assumption, rfl⟩
  · cases h
@[simp] theorem guard_true {α : Type} {a : α} : guard true a = .ok a := rfl
theorem guard_of {α : Type} {c : Bool} {a : α} (h : c = true) : guard c a = .ok a := by rw [h]; rfl
def ofO {α : Type} : Option α → Ex α
  | some a => .ok a
  | none => .bad
@[simp] theorem ofO_some {α : Type} {a : α} : ofO (some a) = .ok a := rfl
theorem ofO_eq {α : Type} {o : Option α} {a : α} (h : ofO o = .ok a) : o = some a := by
  cases o with
  | none => cases h
  | some b => cases h; rfl
end Ex

/-! ### patterns -/
abbrev Pt := List (Option Cell)
def FitC (o : Option Cell) (c : Cell) : Prop := match o with
  | some d => c = d
  | none => c.free = true
def Fits : Pt → DEnv → Prop
  | [], [] => True
  | o :: p, c :: σ => FitC o c ∧ Fits p σ
  | _, _ => False
theorem Fits.len : ∀ {p : Pt} {σ : DEnv}, Fits p σ → σ.length = p.length
  | [], [], _ => rfl
  | _ :: _, _ :: _, h => congrArg (· + 1) (Fits.len h.2)
  | [], _ :: _, h => h.elim
  | _ :: _, [], h => h.elim
theorem Fits.get : ∀ {p : Pt} {σ : DEnv} {i : Nat} {o : Option Cell}, Fits p σ → p[i]? = some o → ∃ c, σ[i]? = some c ∧ FitC o c
  | o :: p, c :: σ, 0, o', h, e => by simp at e; subst e; exact ⟨c, rfl, h.1⟩
  | _ :: p, _ :: σ, i + 1, o', h, e => by
    obtain ⟨c, e1, e2⟩ := Fits.get (p := p) (σ := σ) (i := i) h.2 (by simpa using e)
    exact ⟨c, by simpa using e1, e2⟩
  | [], [], _, _, _, e => by simp at e
  | [], _ :: _, _, _, h, _ => h.elim
  | _ :: _, [], _, _, h, _ => h.elim
theorem Fits.at {p : Pt} {σ : DEnv} {i : Nat} {c : Cell} (h : Fits p σ) (e : p[i]? = some (some c)) : σ[i]? = some c := by
  obtain ⟨c', e1, e2⟩ := h.get e
  cases e2
  exact e1
theorem Fits.set : ∀ {p : Pt} {σ : DEnv} {o : Option Cell} {c : Cell} (i : Nat), Fits p σ → FitC o c → Fits (p.set i o) (σ.set i c)
  | [], [], _, _, _, _, _ => True.intro
  | _ :: _, _ :: _, _, _, 0, h, k => ⟨k, h.2⟩
  | _ :: _, _ :: _, _, _, i + 1, h, k => ⟨h.1, Fits.set i h.2 k⟩
  | [], _ :: _, _, _, _, h, _ => h.elim
  | _ :: _, [], _, _, _, h, _ => h.elim
def okSet (p : Pt) (i : Nat) : Bool := match p[i]? with
  | some (some c) => c.free
  | some none => true
  | none => false
theorem Fits.setC {p : Pt} {σ : DEnv} {i : Nat} {c : Cell} (h : Fits p σ) (k : okSet p i = true) : setC i c σ = some (σ.set i c) := by
  unfold okSet at k
  rw [setC_eq]
  cases e : p[i]? with
  | none => rw [e] at k; cases k
  | some o =>
    rw [e] at k
    obtain ⟨c', e1, e2⟩ := h.get e
    rw [e1]
    cases o with
    | none => simp only; have e2 : c'.free = true := e2; rw [if_pos e2]
    | some d => cases e2; simp only at k ⊢; rw [if_pos k]
/-- q says no more than p -/
def LeC (o o' : Option Cell) : Prop := o' = o ∨ (o' = none ∧ (match o with | some c => c.free | none => true) = true)
def PLe : Pt → Pt → Prop
  | [], [] => True
  | o :: p, o' :: q => LeC o o' ∧ PLe p q
  | _, _ => False
theorem LeC.fit {o o' : Option Cell} {c : Cell} (h : LeC o o') (k : FitC o c) : FitC o' c := by
  rcases h with rfl | ⟨rfl, h⟩
  · exact k
  · cases o with
    | none => exact k
    | some d => cases k; exact h
theorem Fits.le : ∀ {p q : Pt} {σ : DEnv}, Fits p σ → PLe p q → Fits q σ
  | [], [], [], _, _ => True.intro
  | _ :: _, _ :: _, _ :: _, h, k => ⟨k.1.fit h.1, Fits.le h.2 k.2⟩
  | [], [], _ :: _, h, _ => h.elim
  | _ :: _, _ :: _, [], h, _ => h.elim
  | [], _ :: _, _, _, k => k.elim
  | _ :: _, [], _, _, k => k.elim
theorem PLe.refl : ∀ p : Pt, PLe p p
  | [] => True.intro
  | o :: p => ⟨.inl rfl, PLe.refl p⟩
/-- computed: which places may be forgotten -/
def forget (p : Pt) (is : List Nat) : Pt := is.foldl (fun q i => q.set i none) p
def okForget (p : Pt) (is : List Nat) : Bool := is.all fun i => okSet p i
theorem okSet_set {p : Pt} {i j : Nat} (h : okSet p j = true) : okSet (p.set i none) j = true := by
  unfold okSet at h ⊢
  by_cases e : i = j
  · subst e
    cases e2 : p[i]? with
    | none => rw [e2] at h; cases h
    | some o =>
      have hl : i < p.length := (List.getElem?_eq_some_iff.mp e2).1
      rw [List.getElem?_set_self hl]
  · rw [List.getElem?_set_ne e]
    exact h
theorem Fits.setNone {p : Pt} {σ : DEnv} {i : Nat} (h : Fits p σ) (k : okSet p i = true) : Fits (p.set i none) σ := by
  have hs : σ.set i (σ[i]?.getD .emp) = σ := by
    apply List.ext_getElem?
    intro j
    by_cases e : i = j
    · subst e
      cases e2 : σ[i]? with
      | none => rw [List.getElem?_eq_none_iff] at e2; rw [List.getElem?_eq_none (by rw [List.length_set]; exact e2)]
      | some c => rw [List.getElem?_set_self (List.getElem?_eq_some_iff.mp e2).1]; rfl
    · rw [List.getElem?_set_ne e]
  have := Fits.set (o := none) (c := σ[i]?.getD .emp) i h (by
    unfold okSet at k
    cases e : p[i]? with
    | none => rw [e] at k; cases k
    | some o =>
      rw [e] at k
      obtain ⟨c, e1, e2⟩ := h.get e
      rw [e1]
      cases o with
      | none => exact e2
      | some d => cases e2; exact k)
  rwa [hs] at this
theorem Fits.forget {σ : DEnv} : ∀ (is : List Nat) {p : Pt}, Fits p σ → okForget p is = true → Fits (PL.forget p is) σ
  | [], p, h, _ => h
  | i :: is, p, h, k => by
    unfold okForget at k
    rw [List.all_cons, Bool.and_eq_true] at k
    refine Fits.forget is (p := p.set i none) (h.setNone k.1) ?_
    unfold okForget
    rw [List.all_eq_true]
    intro j hj
    exact okSet_set (List.all_eq_true.mp k.2 j hj)

/-! ### to follow -/
/-- a total reading -/
def SimP {β : Type} (p q : Pt) (f : DEnv → R β) (b : β) : Prop := ∀ σ, Fits p σ → ∃ σ', f σ = .ok b σ' ∧ Fits q σ'
/-- a reading with its meaning -/
def Sim {α β : Type} (p : Pt) (f : DEnv → R β) (t : Ex α) (k : α → β × Pt) : Prop := ∀ σ, Fits p σ → match t with
  | .ok a => ∃ σ', f σ = .ok (k a).1 σ' ∧ Fits (k a).2 σ'
  | .exc c => ∃ σ', f σ = .exc c σ'
  | .bad => True
theorem SimP.sim {α β : Type} {p q : Pt} {f : DEnv → R β} {b : β} {k : α → β × Pt} {a : α} (h : SimP p q f b) (hk : k a = (b, q) := by rfl) : Sim p f (.ok a) k := fun σ hσ => by
  obtain ⟨σ', e, g⟩ := h σ hσ
  simp only [hk]
  exact ⟨σ', e, g⟩
theorem Sim.map {α α' β : Type} {p : Pt} {f : DEnv → R β} {t : Ex α} {k : α → β × Pt} {k' : α' → β × Pt} {m : α → α'} (h : Sim p f t k) (hk : ∀ a, k' (m a) = k a) : Sim p f (t.bind fun a => .ok (m a)) k' := fun σ hσ => by
  have := h σ hσ
  cases t with
  | ok a => simp only [Ex.bind_ok, hk]; exact this
  | exc c => exact this
  | bad => exact this
/-- the general step: first f, then what is made of it -/
theorem Sim.then {α α' β β' : Type} {p : Pt} {f : DEnv → R β} {t : Ex α} {k : α → β × Pt} {g : β → DEnv → R β'} {u : α → Ex α'} {k' : α' → β' × Pt} (h : Sim p f t k) (hg : ∀ a, Sim (k a).2 (g (k a).1) (u a) k') : Sim p (fun σ => (f σ).bind g) (t.bind u) k' := fun σ hσ => by
  have h1 := h σ hσ
  cases t with
  | ok a =>
    obtain ⟨σ1, e1, g1⟩ := h1
    have h2 := hg a σ1 g1
    simp only [Ex.bind_ok, e1, R.bind]
    exact h2
  | exc c =>
    obtain ⟨σ1, e1⟩ := h1
    exact ⟨σ1, by simp only [e1, R.bind]⟩
  | bad => exact True.intro
theorem SimP.then {α' β β' : Type} {p q : Pt} {f : DEnv → R β} {b : β} {g : β → DEnv → R β'} {u : Ex α'} {k' : α' → β' × Pt} (h : SimP p q f b) (hg : Sim q (g b) u k') : Sim p (fun σ => (f σ).bind g) u k' := fun σ hσ => by
  obtain ⟨σ1, e1, g1⟩ := h σ hσ
  have h2 := hg σ1 g1
  simp only [e1, R.bind]
  exact h2
theorem SimP.thenP {β β' : Type} {p q r : Pt} {f : DEnv → R β} {b : β} {g : β → DEnv → R β'} {b' : β'} (h : SimP p q f b) (hg : SimP q r (g b) b') : SimP p r (fun σ => (f σ).bind g) b' := fun σ hσ => by
  obtain ⟨σ1, e1, g1⟩ := h σ hσ
  obtain ⟨σ2, e2, g2⟩ := hg σ1 g1
  exact ⟨σ2, by simp only [e1, R.bind]; exact e2, g2⟩
theorem simP_lift {β : Type} {p : Pt} {o : Option β} {b : β} (h : o = some b) : SimP p p (lift o) b := fun σ hσ => ⟨σ, by rw [h]; rfl, hσ⟩
theorem sim_lift {α β : Type} {p : Pt} {o : Option β} {t : Ex α} {k : α → β × Pt} (h : ∀ a, t = .ok a → o = some (k a).1 ∧ (k a).2 = p) (hx : ∀ c, t ≠ .exc c) : Sim p (lift o) t k := fun σ hσ => by
  cases t with
  | ok a =>
    obtain ⟨h1, h2⟩ := h a rfl
    exact ⟨σ, by rw [h1]; rfl, by rw [h2]; exact hσ⟩
  | exc c => exact absurd rfl (hx c)
  | bad => exact True.intro
theorem SimP.ok {β : Type} {p : Pt} {b : β} : SimP p p (fun σ => .ok b σ) b := fun σ hσ => ⟨σ, rfl, hσ⟩
/-! ### encoders -/
abbrev eI : Int → D := PyData.int
abbrev eB : Bool → D := PyData.bool
abbrev eS : Str → D := PyData.str
abbrev eD : D → D := fun d => d
@[reducible] def eN : Unit → D := fun _ => .none
@[reducible] def eL {α : Type} (e : α → D) : List α → D := fun xs => .list (xs.map e)
@[reducible] def eT {α : Type} (e : α → D) : List α → D := fun xs => .tuple (xs.map e)
@[reducible] def eP {α β : Type} (e : α → D) (f : β → D) : α × β → D := fun x => .tuple [e x.1, f x.2]
@[reducible] def eP3 {α β γ : Type} (e : α → D) (f : β → D) (g : γ → D) : α × β × γ → D := fun x => .tuple [e x.1, f x.2.1, g x.2.2]
@[reducible] def eP4 {α β γ δ : Type} (e : α → D) (f : β → D) (g : γ → D) (h : δ → D) : α × β × γ × δ → D := fun x => .tuple [e x.1, f x.2.1, g x.2.2.1, h x.2.2.2]
@[reducible] def eO {α : Type} (e : α → D) : Option α → D := fun o => match o with
  | some a => e a
  | none => .none
/-- what == tells of the encoded -/
structure EqE {α : Type} [DecidableEq α] (e : α → D) (n : Nat) : Prop where
  sh : ∀ a, Sh n (e a)
  eqv : ∀ a b, PyData.eqv (e a) (e b) = decide (a = b)
theorem EqE.mono {α : Type} [DecidableEq α] {e : α → D} {n m : Nat} (h : EqE e n) (k : n ≤ m) : EqE e m := ⟨fun a => (h.sh a).mono k, h.eqv⟩
theorem q_int : EqE eI 0 := ⟨fun _ => Sh.int, fun a b => by simp [PyData.eqv]; rfl⟩
theorem q_bool : EqE eB 0 := ⟨fun _ => Sh.bool, fun a b => by cases a <;> cases b <;> simp [PyData.eqv]⟩
theorem q_unit : EqE eN 0 := ⟨fun _ => Sh.none, fun a b => by simp [PyData.eqv]⟩
section
variable {α β γ δ : Type} [DecidableEq α] [DecidableEq β] [DecidableEq γ] [DecidableEq δ] {e : α → D} {f : β → D} {g : γ → D} {h : δ → D} {n m l k : Nat}
theorem q_list (h : EqE e n) : EqE (eL e) (n + 1) := ⟨fun xs => Sh.list fun d hd => by
  obtain ⟨a, _, rfl⟩ := List.mem_map.mp hd
  exact h.sh a, fun xs ys => by
    simp only [eL, PyData.eqv]
    exact eqvAll_map h.eqv xs ys⟩
theorem q_tup (h : EqE e n) : EqE (eT e) (n + 1) := ⟨fun xs => Sh.tuple fun d hd => by
  obtain ⟨a, _, rfl⟩ := List.mem_map.mp hd
  exact h.sh a, fun xs ys => by
    simp only [eT, PyData.eqv]
    exact eqvAll_map h.eqv xs ys⟩
theorem q_pair (h1 : EqE e n) (h2 : EqE f m) : EqE (eP e f) (max n m + 1) := ⟨fun x => Sh.tuple fun d hd => by
  simp at hd
  rcases hd with rfl | rfl
  · exact (h1.sh _).mono (by omega)
  · exact (h2.sh _).mono (by omega), fun x y => by
    obtain ⟨a, b⟩ := x
    obtain ⟨c, d⟩ := y
    simp only [eP, PyData.eqv, PyData.eqvAll, h1.eqv, h2.eqv, Bool.and_true, ← Bool.decide_and]
    exact decide_eq_decide.mpr (by simp)⟩
theorem q_p3 (h1 : EqE e n) (h2 : EqE f m) (h3 : EqE g l) : EqE (eP3 e f g) (max n (max m l) + 1) := ⟨fun x => Sh.tuple fun d hd => by
  simp at hd
  rcases hd with rfl | rfl | rfl
  · exact (h1.sh _).mono (by omega)
  · exact (h2.sh _).mono (by omega)
  · exact (h3.sh _).mono (by omega), fun x y => by
    obtain ⟨a, b, c⟩ := x
    obtain ⟨a', b', c'⟩ := y
    simp only [eP3, PyData.eqv, PyData.eqvAll, h1.eqv, h2.eqv, h3.eqv, Bool.and_true, ← Bool.decide_and]
    exact decide_eq_decide.mpr (by simp)⟩
theorem q_opt (h : EqE e n) (hn : ∀ a, PyData.eqv (e a) .none = false ∧ PyData.eqv .none (e a) = false) : EqE (eO e) n := ⟨fun o => by
  cases o with
  | none => exact Sh.none
  | some a => exact h.sh a, fun x y => by
    cases x with
    | none => cases y with
      | none => simp [PyData.eqv]
      | some b => simp [(hn b).2]
    | some a => cases y with
      | none => simp [(hn a).1]
      | some b => simp [h.eqv]⟩
end
end PL
set_option Elab.async false
set_option linter.all false
set_option maxRecDepth 100000
set_option maxHeartbeats 1000000
set_option autoImplicit false
/-! Expressions of the typed layer. -/
namespace PL
open PySem PySem.Spec PyProof.Rows L2
section
variable {α α' β β' γ : Type} {p q r : Pt}
theorem Sim.thenP {f : DEnv → R β} {t : Ex α} {k : α → β × Pt} {g : β → DEnv → R β'} {b : α → β'} {q : α → Pt} (h : Sim p f t k) (hg : ∀ a, SimP (k a).2 (q a) (g (k a).1) (b a)) : Sim p (fun σ => (f σ).bind g) t (fun a => (b a, q a)) := fun σ hσ => by
  have h1 := h σ hσ
  cases t with
  | ok a =>
    obtain ⟨σ1, e1, g1⟩ := h1
    obtain ⟨σ2, e2, g2⟩ := hg a σ1 g1
    exact ⟨σ2, by simp only [e1, R.bind]; exact e2, g2⟩
  | exc c =>
    obtain ⟨σ1, e1⟩ := h1
    exact ⟨σ1, by simp only [e1, R.bind]⟩
  | bad => exact True.intro
theorem Sim.then2 {f : DEnv → R β} {t : Ex α} {k : α → β × Pt} {g : β → DEnv → R β'} {u : α → Ex α'} {k' : α → α' → β' × Pt} (h : Sim p f t k) (hg : ∀ a, Sim (k a).2 (g (k a).1) (u a) (k' a)) : Sim p (fun σ => (f σ).bind g) (t.bind fun a => (u a).bind fun b => .ok (a, b)) (fun x => k' x.1 x.2) :=
  h.then fun a => (hg a).map (m := fun b => (a, b)) fun _ => rfl
theorem Sim.thenE {f : DEnv → R β} {t : Ex α} {b : α → β} {q : Pt} {g : β → DEnv → R β'} {u : α → Ex α'} {k' : α' → β' × Pt} (h : Sim p f t (fun a => (b a, q))) (hg : ∀ a, Sim q (g (b a)) (u a) k') : Sim p (fun σ => (f σ).bind g) (t.bind u) k' := h.then hg
theorem Sim.then2E {f : DEnv → R β} {t : Ex α} {b : α → β} {q : Pt} {g : β → DEnv → R β'} {u : α → Ex α'} {k' : α → α' → β' × Pt} (h : Sim p f t (fun a => (b a, q))) (hg : ∀ a, Sim q (g (b a)) (u a) (k' a)) : Sim p (fun σ => (f σ).bind g) (t.bind fun a => (u a).bind fun b => .ok (a, b)) (fun x => k' x.1 x.2) := h.then2 hg
theorem Sim.cast {f f' : DEnv → R β} {t t' : Ex α} {k k' : α → β × Pt} (h : Sim p f t k) (e1 : f' = f := by rfl) (e2 : t' = t := by rfl) (e3 : k' = k := by rfl) : Sim p f' t' k' := by subst e1 e2 e3; exact h
theorem SimP.cast {f f' : DEnv → R β} {b b' : β} (h : SimP p q f b) (e1 : b' = b) : SimP p q f b' := by subst e1; exact h
/-- how a partial operation of data is followed -/
def Ex.All (t : Ex α) (φ : α → Prop) : Prop := match t with
  | .ok a => φ a
  | .exc _ => False
  | .bad => True
theorem Ex.All.imp {t : Ex α} {φ ψ : α → Prop} (h : t.All φ) (k : ∀ a, φ a → ψ a) : t.All ψ := by
  cases t with
  | ok a => exact k a h
  | exc c => exact h
  | bad => exact True.intro
theorem all_guard {c : Bool} {a : α} {φ : α → Prop} (h : c = true → φ a) : (Ex.guard c a).All φ := by
  unfold Ex.guard
  split
  · exact h (by assumption)
  · exact True.intro
theorem all_ofO {o : Option α} {φ : α → Prop} (h : ∀ a, o = some a → φ a) : (Ex.ofO o).All φ := by
  cases o with
  | none => exact True.intro
  | some a => exact h a rfl
theorem sim_lift' {o : Option β} {t : Ex α} {e : α → β} (h : t.All fun a => o = some (e a)) : Sim p (lift o) t (fun a => (e a, p)) := fun σ hσ => by
  cases t with
  | ok a => exact ⟨σ, by rw [show o = _ from h]; rfl, hσ⟩
  | exc c => exact h.elim
  | bad => exact True.intro
theorem simP_if {c : Prop} [Decidable c] {b : β} (h : c) : SimP p p (fun σ => if c then .ok b σ else .bad) b := fun σ hσ => ⟨σ, if_pos h, hσ⟩
/-! ### names -/
theorem simP_val {i : Nat} {d : D} (h : p[i]? = some (some (.val d))) : SimP p p (rdV i) d := fun σ hσ => ⟨σ, by simp only [rdV, hσ.at h], hσ⟩
theorem simP_own {i : Nat} {ds : List D} (h : p[i]? = some (some (.own ds))) : SimP p (p.set i (some (.val (.list ds)))) (rdV i) (.list ds) := fun σ hσ => ⟨σ.set i (.val (.list ds)), by simp only [rdV, hσ.at h], hσ.set i rfl⟩
/-- x[k] of a name's list, own or lent -/
theorem simP_ixV {i : Nat} {d kd z : D} {g : DEnv → R D} (hr : ∀ σ, Fits p σ → rd i σ = some d) (hq : ∀ σ, Fits q σ → rd i σ = some d) (hg : SimP p q g kd) (h : dIx d kd = some z) : SimP p q (ixV i g) z := fun σ hσ => by
  obtain ⟨σ1, e1, g1⟩ := hg σ hσ
  exact ⟨σ1, by simp only [ixV, hr σ hσ, e1, R.bind, hq σ1 g1, h, lift], g1⟩
theorem rd_own {i : Nat} {ds : List D} (h : p[i]? = some (some (.own ds))) : ∀ σ, Fits p σ → rd i σ = some (.list ds) := fun σ hσ => by simp only [rd, hσ.at h]
theorem rd_tap {i : Nat} {ds : List D} (h : p[i]? = some (some (.tap ds))) : ∀ σ, Fits p σ → rd i σ = some (.list ds) := fun σ hσ => by simp only [rd, hσ.at h]
theorem rd_val {i : Nat} {d : D} (h : p[i]? = some (some (.val d))) : ∀ σ, Fits p σ → rd i σ = some d := fun σ hσ => by simp only [rd, hσ.at h]
theorem sim_ixV {i : Nat} {d kd : D} {g : DEnv → R D} {t : Ex α} {e : α → D} (hr : ∀ σ, Fits p σ → rd i σ = some d) (hq : ∀ σ, Fits q σ → rd i σ = some d) (hg : SimP p q g kd) (h : t.All fun a => dIx d kd = some (e a)) : Sim p (ixV i g) t (fun a => (e a, q)) := fun σ hσ => by
  obtain ⟨σ1, e1, g1⟩ := hg σ hσ
  cases t with
  | ok a => exact ⟨σ1, by simp only [ixV, hr σ hσ, e1, R.bind, hq σ1 g1, show dIx d kd = _ from h, lift], g1⟩
  | exc c => exact h.elim
  | bad => exact True.intro
/-! ### total ones, by name -/
theorem simP_bin {f g : DEnv → R D} {a b c : D} {op : D → D → Option D} (h1 : SimP p q f a) (h2 : SimP q r g b) (h : op a b = some c) : SimP p r (bin op f g) c := h1.thenP (h2.thenP (simP_lift h))
theorem simP_un {f : DEnv → R D} {a c : D} {op : D → Option D} (h1 : SimP p q f a) (h : op a = some c) : SimP p q (un op f) c := h1.thenP (simP_lift h)
theorem simP_nilA : SimP p p nilA [] := .ok
theorem simP_consA {f : DEnv → R D} {fs : DEnv → R (List D)} {d : D} {ds : List D} (h1 : SimP p q f d) (h2 : SimP q r fs ds) : SimP p r (consA f fs) (d :: ds) := h1.thenP (h2.thenP .ok)
theorem simP_mkT {fs : DEnv → R (List D)} {ds : List D} (h : SimP p q fs ds) (hl : decide (ds.length ≤ 1000) = true) : SimP p q (mkT fs) (.tuple ds) := h.thenP (simP_if (of_decide_eq_true hl))
theorem simP_chk {fs : DEnv → R (List D)} {ds : List D} (h : SimP p q fs ds) (hl : decide (ds.length ≤ 1000) = true) : SimP p q (chk fs) ds := h.thenP (simP_if (of_decide_eq_true hl))
theorem simP_asL {fs : DEnv → R (List D)} {ds : List D} (h : SimP p q fs ds) : SimP p q (asL fs) (.list ds) := h.thenP .ok
theorem simP_bV {f : DEnv → R D} {b : Bool} (h : SimP p q f (.bool b)) : SimP p q (bV f) b := h.thenP .ok
theorem simP_callD {c : List D → Option D} {fs : DEnv → R (List D)} {ds : List D} {z : D} (h : SimP p q fs ds) (hz : c ds = some z) : SimP p q (callD c fs) z := h.thenP (simP_lift hz)
theorem simP_isE {T : PyT} {f : DEnv → R D} {d : D} (h : SimP p q f d) : SimP p q (isE T f) (.bool (isD T d)) := h.thenP .ok
theorem simP_not {f : DEnv → R Bool} {b : Bool} (h : SimP p q f b) : SimP p q (bNot f) (!b) := h.thenP .ok
theorem simP_vNot {f : DEnv → R D} {b : Bool} (h : SimP p q f (.bool b)) : SimP p q (vNot f) (.bool (!b)) := h.thenP .ok
theorem simP_and {f g : DEnv → R Bool} {a b : Bool} (h1 : SimP p q f a) (h2 : SimP q q g b) : SimP p q (bAnd f g) (a && b) := h1.thenP fun σ hσ => by
  cases a with
  | true =>
    obtain ⟨σ1, e1, g1⟩ := h2 σ hσ
    exact ⟨σ1, by simp only [if_true, e1, Bool.true_and], g1⟩
  | false => exact ⟨σ, rfl, hσ⟩
theorem simP_or {f g : DEnv → R Bool} {a b : Bool} (h1 : SimP p q f a) (h2 : SimP q q g b) : SimP p q (bOr f g) (a || b) := h1.thenP fun σ hσ => by
  cases a with
  | false =>
    obtain ⟨σ1, e1, g1⟩ := h2 σ hσ
    exact ⟨σ1, by simp only [Bool.false_eq_true, if_false, e1, Bool.false_or], g1⟩
  | true => exact ⟨σ, rfl, hσ⟩
theorem simP_vAnd {f g : DEnv → R D} {a b : Bool} (h1 : SimP p q f (.bool a)) (h2 : SimP q q g (.bool b)) : SimP p q (vAnd f g) (.bool (a && b)) := h1.thenP fun σ hσ => by
  cases a with
  | true => exact h2 σ hσ
  | false => exact ⟨σ, rfl, hσ⟩
theorem simP_vOr {f g : DEnv → R D} {a b : Bool} (h1 : SimP p q f (.bool a)) (h2 : SimP q q g (.bool b)) : SimP p q (vOr f g) (.bool (a || b)) := h1.thenP fun σ hσ => by
  cases a with
  | true => exact ⟨σ, rfl, hσ⟩
  | false => exact h2 σ hσ
theorem simP_ite {t : DEnv → R Bool} {f g : DEnv → R D} {c : Bool} {a b : α} {e : α → D} (h1 : SimP p q t c) (h2 : SimP q q f (e a)) (h3 : SimP q q g (e b)) : SimP p q (ite' t f g) (e (if c = true then a else b)) := h1.thenP fun σ hσ => by
  cases c with
  | true => exact h2 σ hσ
  | false => exact h3 σ hσ
/-! partial ones within and, or, if -/
theorem sim_and {f g : DEnv → R Bool} {a : Bool} {t : Ex α} {v : α → Bool} (h1 : SimP p q f a) (h2 : Sim q g t (fun x => (v x, q))) : Sim p (bAnd f g) (if a = true then t.bind fun x => .ok (v x) else .ok false) (fun b => (b, q)) := h1.then fun σ hσ => by
  cases a with
  | true => exact (h2.map (m := v) fun _ => rfl) σ hσ
  | false => exact ⟨σ, rfl, hσ⟩
theorem sim_or {f g : DEnv → R Bool} {a : Bool} {t : Ex α} {v : α → Bool} (h1 : SimP p q f a) (h2 : Sim q g t (fun x => (v x, q))) : Sim p (bOr f g) (if a = true then .ok true else t.bind fun x => .ok (v x)) (fun b => (b, q)) := h1.then fun σ hσ => by
  cases a with
  | true => exact ⟨σ, rfl, hσ⟩
  | false => exact (h2.map (m := v) fun _ => rfl) σ hσ
theorem sim_vAnd {f g : DEnv → R D} {a : Bool} {t : Ex α} {v : α → Bool} (h1 : SimP p q f (.bool a)) (h2 : Sim q g t (fun x => (.bool (v x), q))) : Sim p (vAnd f g) (if a = true then t.bind fun x => .ok (v x) else .ok false) (fun b => (.bool b, q)) := h1.then fun σ hσ => by
  cases a with
  | true => exact (h2.map (m := v) fun _ => rfl) σ hσ
  | false => exact ⟨σ, rfl, hσ⟩
theorem sim_vOr {f g : DEnv → R D} {a : Bool} {t : Ex α} {v : α → Bool} (h1 : SimP p q f (.bool a)) (h2 : Sim q g t (fun x => (.bool (v x), q))) : Sim p (vOr f g) (if a = true then .ok true else t.bind fun x => .ok (v x)) (fun b => (.bool b, q)) := h1.then fun σ hσ => by
  cases a with
  | true => exact ⟨σ, rfl, hσ⟩
  | false => exact (h2.map (m := v) fun _ => rfl) σ hσ
theorem sim_ite {tt : DEnv → R Bool} {f g : DEnv → R D} {c : Bool} {t u : Ex α} {k : α → D × Pt} (h1 : SimP p q tt c) (h2 : Sim q f t k) (h3 : Sim q g u k) : Sim p (ite' tt f g) (if c = true then t else u) k := h1.then fun σ hσ => by
  cases c with
  | true => exact h2 σ hσ
  | false => exact h3 σ hσ
/-- a < b < c -/
theorem simP_chn {f g k : DEnv → R D} {op op' : D → D → Option D} {x y z : D} {a b : Bool} {s : Pt} (h1 : SimP p q f x) (h2 : SimP q r g y) (e1 : op x y = some (.bool a)) (h3 : SimP r r k z) (e2 : op' y z = some (.bool b)) : SimP p r (chn op op' f g k) (.bool (a && b)) := h1.thenP (h2.thenP fun σ hσ => by
  cases a with
  | true =>
    obtain ⟨σ1, e3, g3⟩ := h3 σ hσ
    exact ⟨σ1, by simp only [e1, lift, R.bind, e3, e2, Bool.true_and], g3⟩
  | false => exact ⟨σ, by simp only [e1, lift, R.bind, Bool.false_and], hσ⟩)
/-! ### slices -/
theorem simP_noPart : SimP p p noPart none := .ok
theorem simP_part {f : DEnv → R D} {i : Int} (h : SimP p q f (.int i)) : SimP p q (part f) (some i) := h.thenP .ok
theorem simP_slE {f : DEnv → R D} {lo hi : DEnv → R (Option Int)} {d z : D} {l h : Option Int} {s : Pt} (h1 : SimP p q f d) (h2 : SimP q r lo l) (h3 : SimP r s hi h) (e : dSl d l h = some z) : SimP p s (slE f lo hi) z := h1.thenP (h2.thenP (h3.thenP (simP_lift e)))
theorem cutD_map {e : α → D} {xs : List α} {l h : Option Int} : cutD (xs.map e) l h = (cutD xs l h).map e := by
  unfold cutD
  simp only [← List.map_drop, ← List.map_take, List.length_map]
theorem sl_list {e : α → D} {xs : List α} {l h : Option Int} : dSl (eL e xs) l h = some (eL e (cutD xs l h)) := by simp [eL, dSl, cutD_map]
theorem sl_tuple {e : α → D} {xs : List α} {l h : Option Int} : dSl (eT e xs) l h = some (eT e (cutD xs l h)) := by simp [eT, dSl, cutD_map]
theorem simP_revE {f : DEnv → R D} {d z : D} (h : SimP p q f d) (e : dRev d = some z) : SimP p q (revE f) z := h.thenP (simP_lift e)
/-! ### calls of defs -/
def Ref {β : Type} (x : Ans) (t : Ex β) (e : β → D) : Prop := match t with
  | .ok a => x = .ok (e a)
  | .exc c => x = .exc c
  | .bad => True
def RefT {β : Type} (x : AnsT) (t : Ex (β × List D)) (e : β → D) : Prop := match t with
  | .ok a => x = .ok (e a.1) a.2
  | .exc _ => True
  | .bad => True
def RefF {β : Type} (x : AnsF) (t : Ex β) (e : β → List D) : Prop := match t with
  | .ok a => x = .ok (e a)
  | .exc _ => True
  | .bad => True
theorem sim_ans {x : Ans} {t : Ex α} {e : α → D} (h : Ref x t e) : Sim p (fun σ1 => match x with
    | .ok d => .ok d σ1
    | .exc c => .exc c σ1
    | .bad => .bad) t (fun a => (e a, p)) := fun σ hσ => by
  cases t with
  | ok a => exact ⟨σ, by rw [show x = _ from h], hσ⟩
  | exc c => exact ⟨σ, by rw [show x = _ from h]⟩
  | bad => exact True.intro
theorem sim_callF {F : List D → Ans} {fs : DEnv → R (List D)} {ds : List D} {t : Ex α} {e : α → D} (h : SimP p q fs ds) (hF : Ref (F ds) t e) : Sim p (callF F fs) t (fun a => (e a, q)) := h.then (sim_ans hF)
theorem simP_callF {F : List D → Ans} {fs : DEnv → R (List D)} {ds : List D} {d : D} (h : SimP p q fs ds) (hF : F ds = .ok d) : SimP p q (callF F fs) d := h.thenP fun σ hσ => ⟨σ, by simp only [hF], hσ⟩
/-- a call that is lent the list in slot i -/
theorem sim_callT {F : List D → List D → AnsT} {i : Nat} {fs : DEnv → R (List D)} {ds tp tq : List D} {t : Ex (α × List D)} {e : α → D} (hi : ∀ σ, Fits p σ → lstOf i σ = some tp) (h : SimP p q fs ds) (hj : ∀ σ, Fits q σ → lstOf i σ = some tq)
    (hF : RefT (F tq ds) t e) (hx : ∀ c, t ≠ .exc c) {Q : List D → Pt} (hp : ∀ tr σ, Fits q σ → Fits (Q tr) (putL i tr σ)) : Sim p (callT F i fs) t (fun a => (e a.1, Q a.2)) := fun σ hσ => by
  obtain ⟨σ1, e1, g1⟩ := h σ hσ
  cases t with
  | ok a => exact ⟨putL i a.2 σ1, by simp only [callT, hi σ hσ, e1, R.bind, hj σ1 g1, show F tq ds = _ from hF], hp _ _ g1⟩
  | exc c => exact absurd rfl (hx c)
  | bad => exact True.intro
theorem lstOf_own {i : Nat} {ds : List D} (h : p[i]? = some (some (.own ds))) : ∀ σ, Fits p σ → lstOf i σ = some ds := fun σ hσ => by simp only [lstOf, hσ.at h]
theorem lstOf_tap {i : Nat} {ds : List D} (h : p[i]? = some (some (.tap ds))) : ∀ σ, Fits p σ → lstOf i σ = some ds := fun σ hσ => by simp only [lstOf, hσ.at h]
theorem putL_own {i : Nat} {ds : List D} (h : p[i]? = some (some (.own ds))) : ∀ tr σ, Fits p σ → Fits (p.set i (some (.own tr))) (putL i tr σ) := fun tr σ hσ => by
  simp only [putL, hσ.at h]
  exact hσ.set i rfl
theorem putL_tap {i : Nat} {ds : List D} (h : p[i]? = some (some (.tap ds))) : ∀ tr σ, Fits p σ → Fits (p.set i (some (.tap tr))) (putL i tr σ) := fun tr σ hσ => by
  simp only [putL, hσ.at h]
  exact hσ.set i rfl
/-- a call that hands over a new list -/
theorem sim_callNew {F : List D → AnsF} {fs : DEnv → R (List D)} {ds : List D} {t : Ex α} {e : α → List D} (h : SimP p q fs ds) (hF : RefF (F ds) t e) (hx : ∀ c, t ≠ .exc c) : Sim p (callNew F fs) t (fun a => (e a, q)) := h.then fun σ hσ => by
  cases t with
  | ok a => exact ⟨σ, by simp only [show F ds = _ from hF], hσ⟩
  | exc c => exact absurd rfl (hx c)
  | bad => exact True.intro
/-! ### what is walked -/
theorem simP_onD {rr : D → Option (List D)} {f : DEnv → R D} {d : D} {ds : List D} (h : SimP p q f d) (e : rr d = some ds) : SimP p q (onD rr f) ds := h.thenP (simP_lift e)
theorem simP_onA {rr : List D → Option (List D)} {fs : DEnv → R (List D)} {ds es : List D} (h : SimP p q fs ds) (e : rr ds = some es) : SimP p q (onA rr fs) es := h.thenP (simP_lift e)
end
end PL
set_option Elab.async false
set_option linter.all false
set_option maxRecDepth 100000
set_option maxHeartbeats 1000000
set_option autoImplicit false
/-! Statements of the typed layer. -/
namespace PL
open PySem PySem.Spec PyProof.Rows L2
def Ex.noX {α : Type} (t : Ex α) : Ex α := match t with
  | .ok a => .ok a
  | _ => .bad
@[simp] theorem Ex.noX_ok {α : Type} {a : α} : (Ex.ok a).noX = .ok a := rfl
theorem Ex.noX_ne {α : Type} {t : Ex α} (c : Nat) : t.noX ≠ .exc c := by cases t <;> (intro h; cases h)
/-- what a loop's turn leaves -/
inductive Ctl (σ ρ : Type) where
  | nx (s : σ)
  | brk (s : σ)
  | ret (r : ρ)
section
variable {α β ρ ρ' S A : Type} {p q : Pt}
/-- a block from where p fits: K tells what the answer r says of the end -/
def SimG (K : ρ → O → Prop) (p : Pt) (b : DEnv → O) (t : Ex ρ) : Prop := ∀ σ, Fits p σ → match t with
  | .ok r => K r (b σ)
  | .exc c => ∃ σ', b σ = .exc c σ'
  | .bad => True
def KN (P : S → Pt) (s : S) (o : O) : Prop := ∃ σ', o = .nx σ' ∧ Fits (P s) σ'
def KL (P : S → Pt) (s : S) (o : O) : Prop := ∃ σ', (o = .nx σ' ∨ o = .cnt σ') ∧ Fits (P s) σ'
def KC (P : S → Pt) (Q : S → Pt) (Kr : ρ → O → Prop) (c : Ctl S ρ) (o : O) : Prop := match c with
  | .nx s => ∃ σ', (o = .nx σ' ∨ o = .cnt σ') ∧ Fits (P s) σ'
  | .brk s => ∃ σ', o = .brk σ' ∧ Fits (Q s) σ'
  | .ret r => Kr r o
def KD (e : ρ → D) (r : ρ) (o : O) : Prop := ∃ σ', o = .ret (e r) σ'
def KT (e : ρ → D) (r : ρ × List D) (o : O) : Prop := ∃ σ', o = .ret (e r.1) σ' ∧ σ'[(0 : Nat)]? = some (.tap r.2)
def KF (e : ρ → List D) (r : ρ) (o : O) : Prop := ∃ σ', o = .retF (e r) σ'
/-- K speaks of ends that leave the block -/
class Leaves (K : ρ → O → Prop) : Prop where
  out : ∀ r o, K r o → (∃ d σ, o = .ret d σ) ∨ (∃ d σ, o = .retF d σ)
instance {e : ρ → D} : Leaves (KD e) := ⟨fun r o ⟨σ, h⟩ => .inl ⟨_, _, h⟩⟩
instance {e : ρ → D} : Leaves (KT e) := ⟨fun r o ⟨σ, h, _⟩ => .inl ⟨_, _, h⟩⟩
instance {e : ρ → List D} : Leaves (KF e) := ⟨fun r o ⟨σ, h⟩ => .inr ⟨_, _, h⟩⟩
variable {K : ρ → O → Prop}
/-- the end of a block -/
theorem g_end {r : ρ} (h : ∀ σ, Fits p σ → K r (.nx σ)) : SimG K p oNx (.ok r) := fun σ hσ => h σ hσ
theorem kn_end {P : S → Pt} {s : S} (h : PLe p (P s)) : SimG (KN P) p oNx (.ok s) := fun σ hσ => ⟨σ, rfl, hσ.le h⟩
theorem kl_end {P : S → Pt} {s : S} (h : PLe p (P s)) : SimG (KL P) p oNx (.ok s) := fun σ hσ => ⟨σ, .inl rfl, hσ.le h⟩
theorem kl_cnt {P : S → Pt} {s : S} {r : DEnv → O} (h : PLe p (P s)) : SimG (KL P) p (oSeq oCnt r) (.ok s) := fun σ hσ => ⟨σ, .inr rfl, hσ.le h⟩
theorem kc_end {P Q : S → Pt} {Kr : ρ → O → Prop} {s : S} (h : PLe p (P s)) : SimG (KC P Q Kr) p oNx (.ok (.nx s)) := fun σ hσ => ⟨σ, .inl rfl, hσ.le h⟩
theorem kc_cnt {P Q : S → Pt} {Kr : ρ → O → Prop} {s : S} {r : DEnv → O} (h : PLe p (P s)) : SimG (KC P Q Kr) p (oSeq oCnt r) (.ok (.nx s)) := fun σ hσ => ⟨σ, .inr rfl, hσ.le h⟩
theorem kc_brk {P Q : S → Pt} {Kr : ρ → O → Prop} {s : S} {r : DEnv → O} (h : PLe p (Q s)) : SimG (KC P Q Kr) p (oSeq oBrk r) (.ok (.brk s)) := fun σ hσ => ⟨σ, rfl, hσ.le h⟩
/-- the last statement -/
theorem g_last {b : DEnv → O} {t : Ex ρ} (h : SimG K p (oSeq b oNx) t) : SimG K p b t := fun σ hσ => by
  have := h σ hσ
  have e : oSeq b oNx σ = b σ := by
    show (b σ).seq _ = b σ
    cases b σ <;> rfl
  rw [e] at this
  exact this
/-- a statement, then the rest -/
theorem g_seq {P : S → Pt} {a r : DEnv → O} {t : Ex S} {u : S → Ex ρ} (h : SimG (KN P) p a t) (hr : ∀ s, SimG K (P s) r (u s)) : SimG K p (oSeq a r) (t.bind u) := fun σ hσ => by
  have h1 := h σ hσ
  cases t with
  | ok s =>
    obtain ⟨σ1, e1, g1⟩ := h1
    have h2 := hr s σ1 g1
    simp only [oSeq, e1, O.seq, Ex.bind_ok]
    exact h2
  | exc c =>
    obtain ⟨σ1, e1⟩ := h1
    exact ⟨σ1, by simp only [oSeq, e1, O.seq]⟩
  | bad => exact True.intro
theorem g_seqP {a r : DEnv → O} {u : Ex ρ} (h : ∀ σ, Fits p σ → ∃ σ', a σ = .nx σ' ∧ Fits q σ') (hr : SimG K q r u) : SimG K p (oSeq a r) u := fun σ hσ => by
  obtain ⟨σ1, e1, g1⟩ := h σ hσ
  have h2 := hr σ1 g1
  simp only [oSeq, e1, O.seq]
  exact h2
theorem O.seq_assoc (x : O) (f g : DEnv → O) : (x.seq f).seq g = x.seq fun σ => (f σ).seq g := by cases x <;> rfl
/-- what runs behind a reading -/
theorem g_thn {f : DEnv → R β} {t : Ex A} {k : A → β × Pt} {g : β → DEnv → O} {r : DEnv → O} {u : A → Ex ρ} (h : Sim p f t k) (hr : ∀ a, SimG K (k a).2 (oSeq (g (k a).1) r) (u a)) : SimG K p (oSeq (fun σ => (f σ).thn g) r) (t.bind u) := fun σ hσ => by
  have h1 := h σ hσ
  cases t with
  | ok a =>
    obtain ⟨σ1, e1, g1⟩ := h1
    have h2 := hr a σ1 g1
    simp only [oSeq, e1, R.thn, Ex.bind_ok] at h2 ⊢
    exact h2
  | exc c =>
    obtain ⟨σ1, e1⟩ := h1
    exact ⟨σ1, by simp only [oSeq, e1, R.thn, O.seq]⟩
  | bad => exact True.intro
theorem g_thnP {f : DEnv → R β} {b : β} {g : β → DEnv → O} {r : DEnv → O} {u : Ex ρ} (h : SimP p q f b) (hr : SimG K q (oSeq (g b) r) u) : SimG K p (oSeq (fun σ => (f σ).thn g) r) u := fun σ hσ => by
  obtain ⟨σ1, e1, g1⟩ := h σ hσ
  have h2 := hr σ1 g1
  simp only [oSeq, e1, R.thn] at h2 ⊢
  exact h2
theorem Fits.setS {σ : DEnv} {c : Cell} (i : Nat) (h : Fits p σ) : Fits (p.set i (some c)) (σ.set i c) := h.set i rfl
/-! ### x = e -/
theorem g_setV {i : Nat} {d : D} {r : DEnv → O} {u : Ex ρ} (k : okSet p i = true) (hr : SimG K (p.set i (some (.val d))) r u) : SimG K p (oSeq (setV i d) r) u :=
  g_seqP (fun σ hσ => ⟨σ.set i (.val d), by simp only [setV, hσ.setC k], hσ.setS i⟩) hr
theorem g_setF {i : Nat} {ds : List D} {r : DEnv → O} {u : Ex ρ} (k : okSet p i = true) (hr : SimG K (p.set i (some (.own ds))) r u) : SimG K p (oSeq (setF i ds) r) u :=
  g_seqP (fun σ hσ => ⟨σ.set i (.own ds), by simp only [setF, hσ.setC k], hσ.setS i⟩) hr
theorem g_setP {i : Nat} {f : DEnv → R D} {d : D} {r : DEnv → O} {u : Ex ρ} (h : SimP p q f d) (k : okSet q i = true) (hr : SimG K (q.set i (some (.val d))) r u) : SimG K p (oSeq (oSet i f) r) u := g_thnP h (g_setV k hr)
theorem g_setE {i : Nat} {f : DEnv → R D} {t : Ex A} {k : A → D × Pt} {r : DEnv → O} {u : A → Ex ρ} (h : Sim p f t k) (ok : ∀ a, okSet (k a).2 i = true) (hr : ∀ a, SimG K ((k a).2.set i (some (.val (k a).1))) r (u a)) : SimG K p (oSeq (oSet i f) r) (t.bind u) := g_thn h fun a => g_setV (ok a) (hr a)
theorem g_setFP {i : Nat} {f : DEnv → R (List D)} {ds : List D} {r : DEnv → O} {u : Ex ρ} (h : SimP p q f ds) (k : okSet q i = true) (hr : SimG K (q.set i (some (.own ds))) r u) : SimG K p (oSeq (oSetF i f) r) u := g_thnP h (g_setF k hr)
theorem g_setFE {i : Nat} {f : DEnv → R (List D)} {t : Ex A} {k : A → List D × Pt} {r : DEnv → O} {u : A → Ex ρ} (h : Sim p f t k) (ok : ∀ a, okSet (k a).2 i = true) (hr : ∀ a, SimG K ((k a).2.set i (some (.own (k a).1))) r (u a)) : SimG K p (oSeq (oSetF i f) r) (t.bind u) := g_thn h fun a => g_setF (ok a) (hr a)
theorem g_setLP {i : Nat} {f : DEnv → R (List D)} {ds : List D} {r : DEnv → O} {u : Ex ρ} (h : SimP p q f ds) (k : okSet q i = true) (hr : SimG K (q.set i (some (.val (.list ds)))) r u) : SimG K p (oSeq (oSetL i f) r) u := g_thnP h (g_setV k hr)
theorem g_setLE {i : Nat} {f : DEnv → R (List D)} {t : Ex A} {k : A → List D × Pt} {r : DEnv → O} {u : A → Ex ρ} (h : Sim p f t k) (ok : ∀ a, okSet (k a).2 i = true) (hr : ∀ a, SimG K ((k a).2.set i (some (.val (.list (k a).1)))) r (u a)) : SimG K p (oSeq (oSetL i f) r) (t.bind u) := g_thn h fun a => g_setV (ok a) (hr a)
/-- a, b = e, e -/
theorem g_set2 {i j : Nat} {a b : D} {r : DEnv → O} {u : Ex ρ} (k1 : okSet p i = true) (k2 : okSet (p.set i (some (.val a))) j = true) (hr : SimG K ((p.set i (some (.val a))).set j (some (.val b))) r u) : SimG K p (oSeq (set2 i j [a, b]) r) u :=
  g_seqP (fun σ hσ => ⟨(σ.set i (.val a)).set j (.val b), by
    have h1 : Fits (p.set i (some (.val a))) (σ.set i (.val a)) := hσ.set i rfl
    simp only [set2, hσ.setC k1, h1.setC k2], (hσ.setS i).setS j⟩) hr
theorem g_set3 {i j l : Nat} {a b c : D} {r : DEnv → O} {u : Ex ρ} (k1 : okSet p i = true) (k2 : okSet (p.set i (some (.val a))) j = true) (k3 : okSet ((p.set i (some (.val a))).set j (some (.val b))) l = true)
    (hr : SimG K (((p.set i (some (.val a))).set j (some (.val b))).set l (some (.val c))) r u) : SimG K p (oSeq (set3 i j l [a, b, c]) r) u :=
  g_seqP (fun σ hσ => ⟨((σ.set i (.val a)).set j (.val b)).set l (.val c), by
    have h1 : Fits (p.set i (some (.val a))) (σ.set i (.val a)) := hσ.set i rfl
    have h2 : Fits ((p.set i (some (.val a))).set j (some (.val b))) ((σ.set i (.val a)).set j (.val b)) := h1.set j rfl
    simp only [set3, hσ.setC k1, h1.setC k2, h2.setC k3], ((hσ.setS i).setS j).setS l⟩) hr
/-- targets -/
def Tgt (p q : Pt) (g : D → DEnv → Option DEnv) (d : D) : Prop := ∀ σ, Fits p σ → ∃ σ', g d σ = some σ' ∧ Fits q σ'
def Tgts (p q : Pt) (g : List D → DEnv → Option DEnv) (ds : List D) : Prop := ∀ σ, Fits p σ → ∃ σ', g ds σ = some σ' ∧ Fits q σ'
theorem tg_name {i : Nat} {d : D} (k : okSet p i = true) : Tgt p (p.set i (some (.val d))) (gN i) d := fun σ hσ => ⟨σ.set i (.val d), hσ.setC k, hσ.set i rfl⟩
theorem tgs_nil : Tgts p p gNil [] := fun σ hσ => ⟨σ, rfl, hσ⟩
theorem tgs_cons {r : Pt} {g : D → DEnv → Option DEnv} {gs : List D → DEnv → Option DEnv} {d : D} {ds : List D} (h : Tgt p q g d) (hs : Tgts q r gs ds) : Tgts p r (gCons g gs) (d :: ds) := fun σ hσ => by
  obtain ⟨σ1, e1, g1⟩ := h σ hσ
  obtain ⟨σ2, e2, g2⟩ := hs σ1 g1
  exact ⟨σ2, by simp only [gCons, e1, Option.bind_some, e2], g2⟩
theorem tg_tup {n : Nat} {gs : List D → DEnv → Option DEnv} {d : D} {ds : List D} (hd : itemsS d = some ds) (hl : ds.length = n) (h : Tgts p q gs ds) : Tgt p q (gT n gs) d := fun σ hσ => by
  obtain ⟨σ1, e1, g1⟩ := h σ hσ
  exact ⟨σ1, by simp only [gT, hd, hl, if_true, e1], g1⟩
theorem g_asgP {f : DEnv → R D} {d : D} {g : D → DEnv → Option DEnv} {r : DEnv → O} {u : Ex ρ} {q' : Pt} (h : SimP p q f d) (hg : Tgt q q' g d) (hr : SimG K q' r u) : SimG K p (oSeq (oAsg f g) r) u := g_thnP h (g_seqP (fun σ hσ => by
  obtain ⟨σ1, e1, g1⟩ := hg σ hσ
  exact ⟨σ1, by simp only [e1], g1⟩) hr)
theorem g_asgE {f : DEnv → R D} {t : Ex A} {k : A → D × Pt} {g : D → DEnv → Option DEnv} {r : DEnv → O} {u : A → Ex ρ} {q' : A → Pt} (h : Sim p f t k) (hg : ∀ a, Tgt (k a).2 (q' a) g (k a).1) (hr : ∀ a, SimG K (q' a) r (u a)) : SimG K p (oSeq (oAsg f g) r) (t.bind u) := g_thn h fun a => g_seqP (fun σ hσ => by
  obtain ⟨σ1, e1, g1⟩ := hg a σ hσ
  exact ⟨σ1, by simp only [e1], g1⟩) (hr a)
theorem g_unp {i n : Nat} {gs : List D → DEnv → Option DEnv} {ds : List D} {r : DEnv → O} {u : Ex ρ} (hi : ∀ σ, Fits p σ → lstOf i σ = some ds) (hl : ds.length = n) (hg : Tgts p q gs ds) (hr : SimG K q r u) : SimG K p (oSeq (oUnp i n gs) r) u :=
  g_seqP (fun σ hσ => by
    obtain ⟨σ1, e1, g1⟩ := hg σ hσ
    exact ⟨σ1, by simp only [oUnp, hi σ hσ, hl, if_true, e1], g1⟩) hr
/-! ### own lists -/
def capE {α : Type} (xs : List α) (x : α) : Ex (List α) := Ex.guard (decide (xs.length < 1000000)) (xs ++ [x])
theorem g_app {i : Nat} {f : DEnv → R D} {e : α → D} {xs : List α} {x : α} {r : DEnv → O} {u : List α → Ex ρ} (h0 : ∃ ds, p[i]? = some (some (.own ds))) (h : SimP p q f (e x)) (hq : q[i]? = some (some (.own (xs.map e)))) (hr : ∀ l : List α, SimG K (q.set i (some (.own (l.map e)))) r (u l)) : SimG K p (oSeq (oApp i f) r) ((capE xs x).bind u) := fun σ hσ => by
  obtain ⟨ds, h0⟩ := h0
  obtain ⟨σ1, e1, g1⟩ := h σ hσ
  unfold capE Ex.guard
  by_cases hl : xs.length < 1000000
  · simp only [hl, decide_true, if_true, Ex.bind_ok]
    have e2 : oSeq (oApp i f) r σ = r (σ1.set i (.own ((xs ++ [x]).map e))) := by
      simp only [oSeq, oApp, lstOf, hσ.at h0, e1, R.thn, appL, g1.at hq, List.length_map, hl, if_true, O.seq, putL, List.map_append, List.map_cons, List.map_nil]
    rw [e2]
    exact hr _ _ (g1.set i rfl)
  · simp only [hl, decide_false, Bool.false_eq_true, if_false, Ex.bind_bad]
theorem g_appE {i : Nat} {f : DEnv → R D} {e : α → D} {t : Ex A} {k : A → D × Pt} {x : A → α} {xs : List α} {r : DEnv → O} {u : A → List α → Ex ρ} (h0 : ∃ ds, p[i]? = some (some (.own ds))) (h : Sim p f t k) (hk : ∀ a, (k a).1 = e (x a)) (hq : ∀ a, (k a).2[i]? = some (some (.own (xs.map e)))) (hr : ∀ a (l : List α), SimG K ((k a).2.set i (some (.own (l.map e)))) r (u a l)) :
    SimG K p (oSeq (oApp i f) r) (t.bind fun a => (capE xs (x a)).bind (u a)) := fun σ hσ => by
  obtain ⟨ds, h0⟩ := h0
  have h1 := h σ hσ
  cases t with
  | ok a =>
    obtain ⟨σ1, e1, g1⟩ := h1
    simp only [Ex.bind_ok]
    unfold capE Ex.guard
    by_cases hl : xs.length < 1000000
    · simp only [hl, decide_true, if_true, Ex.bind_ok]
      have e2 : oSeq (oApp i f) r σ = r (σ1.set i (.own ((xs ++ [x a]).map e))) := by
        simp only [oSeq, oApp, lstOf, hσ.at h0, e1, hk a, R.thn, appL, g1.at (hq a), List.length_map, hl, if_true, O.seq, putL, List.map_append, List.map_cons, List.map_nil]
      rw [e2]
      exact hr _ _ _ (g1.set i rfl)
    · simp only [hl, decide_false, Bool.false_eq_true, if_false, Ex.bind_bad]
  | exc c =>
    obtain ⟨σ1, e1⟩ := h1
    exact ⟨σ1, by simp only [oSeq, oApp, lstOf, hσ.at h0, e1, R.thn, O.seq]⟩
  | bad => exact True.intro
theorem ixN_lt {n : Nat} {z : Int} {j : Nat} (h : ixN n z = some j) : j < n := by
  unfold ixN at h
  split at h
  · split at h
    · cases h; omega
    · cases h
  · split at h
    · cases h; omega
    · cases h
/-- x[k] = e -/
def stoE {α : Type} (xs : List α) (z : Int) (x : α) : Ex (List α) := match ixN xs.length z with
  | some j => .ok (xs.set j x)
  | none => .bad
theorem map_set {e : α → D} : ∀ {xs : List α} {j : Nat} {x : α}, (xs.set j x).map e = (xs.map e).set j (e x)
  | [], _, _ => rfl
  | _ :: _, 0, _ => rfl
  | a :: xs, j + 1, x => by
    show e a :: (xs.set j x).map e = e a :: (xs.map e).set j (e x)
    rw [map_set]
theorem g_stoP {i : Nat} {f g : DEnv → R D} {e : α → D} {xs : List α} {x : α} {z : Int} {q' : Pt} {r : DEnv → O} {u : List α → Ex ρ} (h : SimP p q f (e x)) (h0 : ∃ ds, q[i]? = some (some (.own ds))) (hk : SimP q q' g (.int z)) (hq : q'[i]? = some (some (.own (xs.map e)))) (hr : ∀ l : List α, SimG K (q'.set i (some (.own (l.map e)))) r (u l)) : SimG K p (oSeq (oSto i f g) r) ((stoE xs z x).bind u) := fun σ hσ => by
  obtain ⟨ds, h0⟩ := h0
  obtain ⟨σ1, e1, g1⟩ := h σ hσ
  obtain ⟨σ2, e2, g2⟩ := hk σ1 g1
  unfold stoE
  cases hj : ixN xs.length z with
  | none => exact True.intro
  | some j =>
    simp only [Ex.bind_ok]
    have e3 : oSeq (oSto i f g) r σ = r (σ2.set i (.own ((xs.set j x).map e))) := by
      simp only [oSeq, oSto, e1, R.thn, lstOf, g1.at h0, e2, stoL, g2.at hq, ixD, List.length_map, hj, O.seq, putL, map_set]
    rw [e3]
    exact hr _ _ (g2.set i rfl)
/-- x += e and its like -/
theorem g_augP {i : Nat} {op : D → D → Option D} {f : DEnv → R D} {a b c : D} {r : DEnv → O} {u : Ex ρ} (hp : p[i]? = some (some (.val a))) (h : SimP p q f b) (e : op a b = some c) (k : okSet q i = true) (hr : SimG K (q.set i (some (.val c))) r u) : SimG K p (oSeq (augF op i f) r) u := fun σ hσ => by
  obtain ⟨σ1, e1, g1⟩ := h σ hσ
  have e2 : oSeq (augF op i f) r σ = r (σ1.set i (.val c)) := by
    simp only [oSeq, augF, hσ.at hp, e1, R.bind, R.thn, e, lift, setV, g1.setC k, O.seq]
  rw [e2]
  exact hr _ (g1.set i rfl)
/-! ### return -/
theorem g_retP {f : DEnv → R D} {d : D} {x : ρ} {r : DEnv → O} (h : SimP p q f d) (hk : ∀ σ', Fits q σ' → K x (.ret d σ')) : SimG K p (oSeq (oRet f) r) (.ok x) := fun σ hσ => by
  obtain ⟨σ1, e1, g1⟩ := h σ hσ
  have := hk σ1 g1
  simp only [oSeq, oRet, e1, R.thn, O.seq]
  exact this
theorem g_retE {f : DEnv → R D} {t : Ex A} {k : A → D × Pt} {x : A → ρ} {r : DEnv → O} (h : Sim p f t k) (hk : ∀ a σ', Fits (k a).2 σ' → K (x a) (.ret (k a).1 σ')) : SimG K p (oSeq (oRet f) r) (t.bind fun a => .ok (x a)) := fun σ hσ => by
  have h1 := h σ hσ
  cases t with
  | ok a =>
    obtain ⟨σ1, e1, g1⟩ := h1
    have := hk a σ1 g1
    simp only [oSeq, oRet, e1, R.thn, O.seq, Ex.bind_ok]
    exact this
  | exc c =>
    obtain ⟨σ1, e1⟩ := h1
    exact ⟨σ1, by simp only [oSeq, oRet, e1, R.thn, O.seq]⟩
  | bad => exact True.intro
theorem g_retFP {f : DEnv → R (List D)} {ds : List D} {x : ρ} {r : DEnv → O} (h : SimP p q f ds) (hk : ∀ σ', Fits q σ' → K x (.retF ds σ')) : SimG K p (oSeq (oRetF f) r) (.ok x) := fun σ hσ => by
  obtain ⟨σ1, e1, g1⟩ := h σ hσ
  have := hk σ1 g1
  simp only [oSeq, oRetF, e1, R.thn, O.seq]
  exact this
theorem g_retFE {f : DEnv → R (List D)} {t : Ex A} {k : A → List D × Pt} {x : A → ρ} {r : DEnv → O} (h : Sim p f t k) (hk : ∀ a σ', Fits (k a).2 σ' → K (x a) (.retF (k a).1 σ')) : SimG K p (oSeq (oRetF f) r) (t.bind fun a => .ok (x a)) := fun σ hσ => by
  have h1 := h σ hσ
  cases t with
  | ok a =>
    obtain ⟨σ1, e1, g1⟩ := h1
    have := hk a σ1 g1
    simp only [oSeq, oRetF, e1, R.thn, O.seq, Ex.bind_ok]
    exact this
  | exc c =>
    obtain ⟨σ1, e1⟩ := h1
    exact ⟨σ1, by simp only [oSeq, oRetF, e1, R.thn, O.seq]⟩
  | bad => exact True.intro
theorem kd_ret {e : ρ → D} {x : ρ} {q : Pt} : ∀ σ', Fits q σ' → KD e x (.ret (e x) σ') := fun σ' _ => ⟨σ', rfl⟩
theorem kt_ret {e : ρ → D} {x : ρ} {tp : List D} {q : Pt} (h : q[(0 : Nat)]? = some (some (.tap tp))) : ∀ σ', Fits q σ' → KT e (x, tp) (.ret (e x) σ') := fun σ' hσ => ⟨σ', rfl, hσ.at h⟩
theorem kf_ret {e : ρ → List D} {x : ρ} {q : Pt} : ∀ σ', Fits q σ' → KF e x (.retF (e x) σ') := fun σ' _ => ⟨σ', rfl⟩
theorem kc_ret {P Q : S → Pt} {Kr : ρ → O → Prop} {x : ρ} {o : O} (h : Kr x o) : KC P Q Kr (.ret x) o := h
/-! ### if -/
theorem g_ifP {t : DEnv → R Bool} {F G r : DEnv → O} {c : Bool} {u v : Ex ρ} (h : SimP p q t c) (hF : SimG K q (oSeq F r) u) (hG : SimG K q (oSeq G r) v) : SimG K p (oSeq (oIf t F G) r) (if c = true then u else v) := fun σ hσ => by
  obtain ⟨σ1, e1, g1⟩ := h σ hσ
  cases c with
  | true =>
    have := hF σ1 g1
    simp only [oSeq, oIf, e1, R.thn, if_true] at this ⊢
    exact this
  | false =>
    have := hG σ1 g1
    simp only [oSeq, oIf, e1, R.thn, if_false, Bool.false_eq_true] at this ⊢
    exact this
theorem g_ifE {t : DEnv → R Bool} {F G r : DEnv → O} {tt : Ex A} {k : A → Bool × Pt} {u v : A → Ex ρ} (h : Sim p t tt k) (hF : ∀ a, SimG K (k a).2 (oSeq F r) (u a)) (hG : ∀ a, SimG K (k a).2 (oSeq G r) (v a)) : SimG K p (oSeq (oIf t F G) r) (tt.bind fun a => if (k a).1 = true then u a else v a) := fun σ hσ => by
  have h1 := h σ hσ
  cases tt with
  | ok a =>
    obtain ⟨σ1, e1, g1⟩ := h1
    simp only [Ex.bind_ok]
    cases hc : (k a).1 with
    | true =>
      have := hF a σ1 g1
      rw [hc] at e1
      simp only [oSeq, oIf, e1, R.thn, if_true] at this ⊢
      exact this
    | false =>
      have := hG a σ1 g1
      rw [hc] at e1
      simp only [oSeq, oIf, e1, R.thn, if_false, Bool.false_eq_true] at this ⊢
      exact this
  | exc c =>
    obtain ⟨σ1, e1⟩ := h1
    exact ⟨σ1, by simp only [oSeq, oIf, e1, R.thn, O.seq]⟩
  | bad => exact True.intro
/-- a block within a block -/
theorem g_flat {a b r : DEnv → O} {t : Ex ρ} (h : SimG K p (oSeq a (oSeq b r)) t) : SimG K p (oSeq (oSeq a b) r) t := fun σ hσ => by
  have e : oSeq (oSeq a b) r σ = oSeq a (oSeq b r) σ := O.seq_assoc _ _ _
  rw [e]
  exact h σ hσ
theorem g_nx {r : DEnv → O} {t : Ex ρ} (h : SimG K p r t) : SimG K p (oSeq oNx r) t := fun σ hσ => h σ hσ
/-! ### for -/
def forE {α S : Type} (tb : α → S → Ex S) : List α → S → Ex S
  | [], s => .ok s
  | a :: as, s => (tb a s).bind (forE tb as)
theorem forF_E {P : S → Pt} {e : α → D} {g : D → DEnv → Option DEnv} {b : DEnv → O} {tb : α → S → Ex S} {G : α → S → Pt} (hg : ∀ a s, Tgt (P s) (G a s) g (e a)) (hb : ∀ a s, SimG (KL P) (G a s) b (tb a s)) : ∀ (xs : List α) (s : S) (σ : DEnv), Fits (P s) σ → match forE tb xs s with
    | .ok s' => ∃ σ', forF g b (xs.map e) σ = .nx σ' ∧ Fits (P s') σ'
    | .exc c => ∃ σ', forF g b (xs.map e) σ = .exc c σ'
    | .bad => True
  | [], s, σ, hσ => ⟨σ, rfl, hσ⟩
  | a :: xs, s, σ, hσ => by
    obtain ⟨σ1, e1, g1⟩ := hg a s σ hσ
    have h1 := hb a s σ1 g1
    rw [forE]
    cases ht : tb a s with
    | bad => exact True.intro
    | exc c =>
      rw [ht] at h1
      obtain ⟨σ2, e2⟩ := h1
      exact ⟨σ2, by rw [List.map_cons, forF, e1]; simp only [e2]⟩
    | ok s' =>
      rw [ht] at h1
      obtain ⟨σ2, e2, g2⟩ := h1
      have ih := forF_E hg hb xs s' σ2 g2
      simp only [Ex.bind_ok]
      have e3 : forF g b ((a :: xs).map e) σ = forF g b (xs.map e) σ2 := by
        rw [List.map_cons, forF, e1]
        rcases e2 with e2 | e2 <;> simp only [e2]
      rw [e3]
      exact ih
theorem g_forP {P : S → Pt} {e : α → D} {src : DEnv → R (List D)} {g : D → DEnv → Option DEnv} {b r : DEnv → O} {xs : List α} {s0 : S} {tb : α → S → Ex S} {G : α → S → Pt} {u : S → Ex ρ} (hs : SimP p q src (xs.map e)) (h0 : PLe q (P s0)) (hg : ∀ a s, Tgt (P s) (G a s) g (e a)) (hb : ∀ a s, SimG (KL P) (G a s) b (tb a s)) (hr : ∀ s, SimG K (P s) r (u s)) :
    SimG K p (oSeq (oFor src g b) r) ((forE tb xs s0).bind u) := g_seq (P := P) (fun σ hσ => by
  obtain ⟨σ1, e1, g1⟩ := hs σ hσ
  have := forF_E hg hb xs s0 σ1 (g1.le h0)
  simp only [oFor, e1, R.thn]
  exact this) hr
theorem g_forE {P : A → S → Pt} {e : α → D} {src : DEnv → R (List D)} {ts : Ex A} {k : A → List D × Pt} {g : D → DEnv → Option DEnv} {b r : DEnv → O} {xs : A → List α} {s0 : A → S} {tb : A → α → S → Ex S} {G : A → α → S → Pt} {u : A → S → Ex ρ} (hs : Sim p src ts k) (hx : ∀ c, (k c).1 = (xs c).map e) (h0 : ∀ c, PLe (k c).2 (P c (s0 c))) (hg : ∀ c a s, Tgt (P c s) (G c a s) g (e a)) (hb : ∀ c a s, SimG (KL (P c)) (G c a s) b (tb c a s)) (hr : ∀ c s, SimG K (P c s) r (u c s)) :
    SimG K p (oSeq (oFor src g b) r) (ts.bind fun c => (forE (tb c) (xs c) (s0 c)).bind (u c)) := g_thn hs fun c => g_seq (P := P c) (fun σ hσ => by
  have := forF_E (hg c) (hb c) (xs c) (s0 c) σ (hσ.le (h0 c))
  rw [hx c]
  exact this) (hr c)
/-- .. with return, break -/
def forC {α S ρ : Type} (tb : α → S → Ex (Ctl S ρ)) : List α → S → Ex (Ctl S ρ)
  | [], s => .ok (.nx s)
  | a :: as, s => (tb a s).bind fun c => match c with
    | .nx s' => forC tb as s'
    | .brk s' => .ok (.brk s')
    | .ret r => .ok (.ret r)
theorem forF_C {P Q : S → Pt} {Kr : ρ → O → Prop} [L : Leaves Kr] {e : α → D} {g : D → DEnv → Option DEnv} {b : DEnv → O} {tb : α → S → Ex (Ctl S ρ)} {G : α → S → Pt} (hg : ∀ a s, Tgt (P s) (G a s) g (e a)) (hb : ∀ a s, SimG (KC P Q Kr) (G a s) b (tb a s)) : ∀ (xs : List α) (s : S) (σ : DEnv), Fits (P s) σ → match forC tb xs s with
    | .ok (.nx s') => ∃ σ', forF g b (xs.map e) σ = .nx σ' ∧ Fits (P s') σ'
    | .ok (.brk s') => ∃ σ', forF g b (xs.map e) σ = .nx σ' ∧ Fits (Q s') σ'
    | .ok (.ret r) => Kr r (forF g b (xs.map e) σ)
    | .exc c => ∃ σ', forF g b (xs.map e) σ = .exc c σ'
    | .bad => True
  | [], s, σ, hσ => ⟨σ, rfl, hσ⟩
  | a :: xs, s, σ, hσ => by
    obtain ⟨σ1, e1, g1⟩ := hg a s σ hσ
    have h1 := hb a s σ1 g1
    rw [forC]
    cases ht : tb a s with
    | bad => exact True.intro
    | exc c =>
      rw [ht] at h1
      obtain ⟨σ2, e2⟩ := h1
      exact ⟨σ2, by rw [List.map_cons, forF, e1]; simp only [e2]⟩
    | ok c =>
      rw [ht] at h1
      simp only [Ex.bind_ok]
      cases c with
      | nx s' =>
        obtain ⟨σ2, e2, g2⟩ := h1
        have ih := forF_C hg hb xs s' σ2 g2
        have e3 : forF g b ((a :: xs).map e) σ = forF g b (xs.map e) σ2 := by
          rw [List.map_cons, forF, e1]
          rcases e2 with e2 | e2 <;> simp only [e2]
        rw [e3]
        exact ih
      | brk s' =>
        obtain ⟨σ2, e2, g2⟩ := h1
        exact ⟨σ2, by rw [List.map_cons, forF, e1]; simp only [e2], g2⟩
      | ret r =>
        have h1 : Kr r (b σ1) := h1
        show Kr r (forF g b ((a :: xs).map e) σ)
        have e3 : forF g b ((a :: xs).map e) σ = b σ1 := by
          rw [List.map_cons, forF, e1]
          rcases L.out _ _ h1 with ⟨d, σ2, e2⟩ | ⟨d, σ2, e2⟩ <;> simp only [e2]
        rw [e3]
        exact h1
/-- what stands behind such a loop -/
def Ctl.after {S ρ ρ' : Type} (c : Ctl S ρ) (u : S → Ex ρ') (v : S → Ex ρ') (h : ρ → ρ') : Ex ρ' := match c with
  | .nx s => u s
  | .brk s => v s
  | .ret r => .ok (h r)
@[simp] theorem Ctl.after_nx {S ρ ρ' : Type} {s : S} {u v : S → Ex ρ'} {h : ρ → ρ'} : (Ctl.nx s : Ctl S ρ).after u v h = u s := rfl
@[simp] theorem Ctl.after_brk {S ρ ρ' : Type} {s : S} {u v : S → Ex ρ'} {h : ρ → ρ'} : (Ctl.brk s : Ctl S ρ).after u v h = v s := rfl
@[simp] theorem Ctl.after_ret {S ρ ρ' : Type} {r : ρ} {u v : S → Ex ρ'} {h : ρ → ρ'} : (Ctl.ret r : Ctl S ρ).after u v h = .ok (h r) := rfl
theorem g_forCP {P Q : S → Pt} {Kr : ρ' → O → Prop} [L : Leaves Kr] {e : α → D} {src : DEnv → R (List D)} {g : D → DEnv → Option DEnv} {b r : DEnv → O} {xs : List α} {s0 : S} {tb : α → S → Ex (Ctl S ρ')} {G : α → S → Pt} {u v : S → Ex ρ} {h : ρ' → ρ} (hs : SimP p q src (xs.map e)) (h0 : PLe q (P s0)) (hg : ∀ a s, Tgt (P s) (G a s) g (e a)) (hb : ∀ a s, SimG (KC P Q Kr) (G a s) b (tb a s)) (hr : ∀ s, SimG K (P s) r (u s)) (hv : ∀ s, SimG K (Q s) r (v s)) (hh : ∀ x o, Kr x o → K (h x) o) :
    SimG K p (oSeq (oFor src g b) r) ((forC tb xs s0).bind fun c => c.after u v h) := fun σ hσ => by
  obtain ⟨σ1, e1, g1⟩ := hs σ hσ
  have h1 := forF_C (L := L) hg hb xs s0 σ1 (g1.le h0)
  have e2 : oSeq (oFor src g b) r σ = (forF g b (xs.map e) σ1).seq r := by simp only [oSeq, oFor, e1, R.thn]
  rw [e2]
  cases hc : forC tb xs s0 with
  | bad => exact True.intro
  | exc c =>
    rw [hc] at h1
    obtain ⟨σ2, e3⟩ := h1
    exact ⟨σ2, by rw [e3]; rfl⟩
  | ok c =>
    rw [hc] at h1
    simp only [Ex.bind_ok]
    cases c with
    | nx s =>
      obtain ⟨σ2, e3, g3⟩ := h1
      rw [e3]
      exact hr s σ2 g3
    | brk s =>
      obtain ⟨σ2, e3, g3⟩ := h1
      rw [e3]
      exact hv s σ2 g3
    | ret x =>
      have h1 : Kr x (forF g b (xs.map e) σ1) := h1
      simp only [Ctl.after_ret]
      have e3 : (forF g b (xs.map e) σ1).seq r = forF g b (xs.map e) σ1 := by
        rcases L.out _ _ h1 with ⟨d, σ2, e2⟩ | ⟨d, σ2, e2⟩ <;> rw [e2] <;> rfl
      rw [e3]
      exact hh x _ h1
theorem g_forCE {P Q : A → S → Pt} {Kr : ρ' → O → Prop} [L : Leaves Kr] {e : α → D} {src : DEnv → R (List D)} {ts : Ex A} {k : A → List D × Pt} {g : D → DEnv → Option DEnv} {b r : DEnv → O} {xs : A → List α} {s0 : A → S} {tb : A → α → S → Ex (Ctl S ρ')} {G : A → α → S → Pt} {u v : A → S → Ex ρ} {h : ρ' → ρ} (hs : Sim p src ts k) (hx : ∀ c, (k c).1 = (xs c).map e) (h0 : ∀ c, PLe (k c).2 (P c (s0 c))) (hg : ∀ c a s, Tgt (P c s) (G c a s) g (e a)) (hb : ∀ c a s, SimG (KC (P c) (Q c) Kr) (G c a s) b (tb c a s)) (hr : ∀ c s, SimG K (P c s) r (u c s)) (hv : ∀ c s, SimG K (Q c s) r (v c s)) (hh : ∀ x o, Kr x o → K (h x) o) :
    SimG K p (oSeq (oFor src g b) r) (ts.bind fun c => (forC (tb c) (xs c) (s0 c)).bind fun z => z.after (u c) (v c) h) := g_thn hs fun c => by
  have h2 := g_forCP (K := K) (L := L) (src := fun σ => .ok (k c).1 σ) (p := (k c).2) (by rw [hx c]; exact SimP.ok) (h0 c) (hg c) (hb c) (hr c) (hv c) hh
  exact h2
/-! ### while -/
def whileE {S : Type} (t : S → Ex Bool) (b : S → Ex S) : Nat → S → Ex S
  | 0, _ => .bad
  | n + 1, s => (t s).bind fun c => if c = true then (b s).bind (whileE t b n) else .ok s
theorem whileF_E {P Q : S → Pt} {t : DEnv → R Bool} {b : DEnv → O} {tt : S → Ex Bool} {tb : S → Ex S} (ht : ∀ s, Sim (P s) t (tt s) (fun c => (c, Q s))) (hb : ∀ s, SimG (KL P) (Q s) b (tb s)) (hQ : ∀ s, PLe (Q s) (P s)) : ∀ (n : Nat) (s : S) (σ : DEnv), Fits (P s) σ → match whileE tt tb n s with
    | .ok s' => ∃ σ', whileF t b n σ = .nx σ' ∧ Fits (P s') σ'
    | .exc c => ∃ σ', whileF t b n σ = .exc c σ'
    | .bad => True
  | 0, s, σ, hσ => True.intro
  | n + 1, s, σ, hσ => by
    have h1 := ht s σ hσ
    rw [whileE, whileF]
    cases h2 : tt s with
    | bad => exact True.intro
    | exc c =>
      rw [h2] at h1
      obtain ⟨σ1, e1⟩ := h1
      exact ⟨σ1, by simp only [e1, R.thn]⟩
    | ok c =>
      rw [h2] at h1
      obtain ⟨σ1, e1, g1⟩ := h1
      simp only [Ex.bind_ok, e1, R.thn]
      cases c with
      | false => exact ⟨σ1, rfl, g1.le (hQ s)⟩
      | true =>
        simp only [if_true]
        have h3 := hb s σ1 g1
        cases h4 : tb s with
        | bad => exact True.intro
        | exc c =>
          rw [h4] at h3
          obtain ⟨σ2, e2⟩ := h3
          exact ⟨σ2, by simp only [e2]⟩
        | ok s' =>
          rw [h4] at h3
          obtain ⟨σ2, e2, g2⟩ := h3
          have ih := whileF_E ht hb hQ n s' σ2 g2
          simp only [Ex.bind_ok]
          rcases e2 with e2 | e2 <;> simp only [e2] <;> exact ih
theorem g_while {P Q : S → Pt} {t : DEnv → R Bool} {b r : DEnv → O} {tt : S → Ex Bool} {tb : S → Ex S} {n : Nat} {s0 : S} {u : S → Ex ρ} (h0 : PLe p (P s0)) (ht : ∀ s, Sim (P s) t (tt s) (fun c => (c, Q s))) (hb : ∀ s, SimG (KL P) (Q s) b (tb s)) (hQ : ∀ s, PLe (Q s) (P s)) (hr : ∀ s, SimG K (P s) r (u s)) :
    SimG K p (oSeq (whileF t b n) r) ((whileE tt tb n s0).bind u) := g_seq (P := P) (fun σ hσ => whileF_E ht hb hQ n s0 σ (hσ.le h0)) hr
end
/-! ### defs -/
section
variable {ρ : Type}
theorem fits_start : ∀ (ds : List D) (n : Nat), Fits (ds.map (fun d => some (Cell.val d)) ++ List.replicate n none) (ds.map Cell.val ++ List.replicate n Cell.emp)
  | [], 0 => True.intro
  | [], n + 1 => ⟨rfl, fits_start [] n⟩
  | d :: ds, n => ⟨rfl, fits_start ds n⟩
/-- the pattern at the start of a def of N names -/
def pat0 (N : Nat) (ds : List D) : Pt := ds.map (fun d => some (Cell.val d)) ++ List.replicate (N - ds.length) none
theorem ref_def {n N : Nat} {B : DEnv → O} {ds : List D} {t : Ex ρ} {e : ρ → D} (hl : ds.length = n) (h : SimG (KD e) (pat0 N ds) B t) : Ref (defD n N B ds) t e := by
  have h1 := h (startD N ds) (fits_start ds (N - ds.length))
  unfold defD
  rw [if_pos hl]
  cases t with
  | ok r =>
    obtain ⟨σ1, e1⟩ := h1
    show answers _ = _
    rw [e1]
    rfl
  | exc c =>
    obtain ⟨σ1, e1⟩ := h1
    show answers _ = _
    rw [e1]
    rfl
  | bad => exact True.intro
theorem ref_defT {n N : Nat} {B : DEnv → O} {tp ds : List D} {t : Ex (ρ × List D)} {e : ρ → D} (hl : ds.length = n) (h : SimG (KT e) (some (.tap tp) :: pat0 (N - 1) ds) B t) : RefT (defT n N B tp ds) t e := by
  have h1 := h (startT N tp ds) ⟨rfl, fits_start ds (N - 1 - ds.length)⟩
  unfold defT
  rw [if_pos hl]
  cases t with
  | ok r =>
    obtain ⟨σ1, e1, g1⟩ := h1
    show answersT _ = _
    rw [e1]
    simp only [answersT, g1]
  | exc c => exact True.intro
  | bad => exact True.intro
theorem ref_defF {n N : Nat} {B : DEnv → O} {ds : List D} {t : Ex ρ} {e : ρ → List D} (hl : ds.length = n) (h : SimG (KF e) (pat0 N ds) B t) : RefF (defF n N B ds) t e := by
  have h1 := h (startD N ds) (fits_start ds (N - ds.length))
  unfold defF
  rw [if_pos hl]
  cases t with
  | ok r =>
    obtain ⟨σ1, e1⟩ := h1
    show answersF _ = _
    rw [e1]
    rfl
  | exc c => exact True.intro
  | bad => exact True.intro
end
end PL
set_option Elab.async false
set_option linter.all false
set_option maxRecDepth 100000
set_option maxHeartbeats 1000000
set_option autoImplicit false
/-! Comprehensions and quantifiers of the typed layer. -/
namespace PL
open PySem PySem.Spec PyProof.Rows L2
def wipeP (p : Pt) : List Nat → Pt
  | [] => p
  | v :: vs => (wipeP p vs).set v none
def backP (p q : Pt) : List Nat → Pt
  | [] => q
  | v :: vs => (backP p q vs).set v (match p[v]? with
    | some (some (.val d)) => some (.val d)
    | _ => none)
theorem Fits.wipe {p : Pt} {σ : DEnv} (h : Fits p σ) : ∀ vs : List Nat, Fits (wipeP p vs) (wipeD σ vs)
  | [] => h
  | v :: vs => (h.wipe vs).set v rfl
theorem Fits.back {p q : Pt} {σ τ : DEnv} (h : Fits p σ) (k : Fits q τ) : ∀ vs : List Nat, Fits (backP p q vs) (backD σ τ vs)
  | [] => k
  | v :: vs => by
    have ih := Fits.back h k vs
    unfold backP backD
    cases hp : p[v]? with
    | none =>
      simp only
      split <;> exact ih.set v rfl
    | some o =>
      obtain ⟨c, e1, e2⟩ := h.get hp
      rw [e1]
      cases o with
      | none =>
        simp only
        split <;> exact ih.set v rfl
      | some d =>
        cases e2
        cases c with
        | val d => exact ih.set v rfl
        | _ => exact ih.set v rfl
def capL {β : Type} (l : List β) : Ex (List β) := Ex.guard (decide (l.length ≤ 1000000)) l
theorem capL_ok {β : Type} {l : List β} (h : l.length ≤ 1000000) : capL l = .ok l := by unfold capL; rw [decide_eq_true h]; rfl
section
variable {α β γ τ A : Type} {p q : Pt}
theorem lcF_P {vs : List Nat} {e : α → D} {e' : β → D} {g : D → DEnv → Option DEnv} {t : DEnv → R Bool} {f : DEnv → R D} {c : α → Bool} {h : α → β} {qw : Pt} {G G1 G2 : α → Pt} (hg : ∀ a, Tgt qw (G a) g (e a)) (ht : ∀ a, SimP (G a) (G1 a) t (c a)) (hf : ∀ a, SimP (G1 a) (G2 a) f (e' (h a))) (w1 : ∀ a, PLe (wipeP (G1 a) vs) qw) (w2 : ∀ a, PLe (wipeP (G2 a) vs) qw) :
    ∀ (xs : List α) (acc : List D) (σ : DEnv), Fits qw σ → acc.length + ((xs.filter c).map h).length ≤ 1000000 → ∃ σ', lcF vs g t f (xs.map e) acc σ = .ok (acc ++ ((xs.filter c).map h).map e') σ' ∧ Fits qw σ'
  | [], acc, σ, hσ, _ => ⟨σ, by simp [lcF], hσ⟩
  | a :: xs, acc, σ, hσ, hl => by
    obtain ⟨σ1, e1, g1⟩ := hg a σ hσ
    obtain ⟨σ2, e2, g2⟩ := ht a σ1 g1
    rw [List.map_cons, lcF, e1]
    simp only [e2, R.noX, R.bind]
    cases hc : c a with
    | false =>
      rw [List.filter_cons_of_neg (by simp [hc])] at hl ⊢
      simp only [Bool.false_eq_true, if_false]
      exact lcF_P hg ht hf w1 w2 xs acc _ ((g2.wipe vs).le (w1 a)) hl
    | true =>
      rw [List.filter_cons_of_pos hc] at hl ⊢
      simp only [List.map_cons, List.length_cons] at hl ⊢
      obtain ⟨σ3, e3, g3⟩ := hf a σ2 g2
      obtain ⟨σ4, e4, g4⟩ := lcF_P hg ht hf w1 w2 xs (acc ++ [e' (h a)]) (wipeD σ3 vs) ((g3.wipe vs).le (w2 a)) (by simp only [List.length_append, List.length_cons, List.length_nil]; omega)
      have hlt : acc.length < 1000000 := by omega
      refine ⟨σ4, ?_, g4⟩
      simp only [if_true, e3, R.noX, R.bind, hlt, e4, List.append_assoc, List.singleton_append]
theorem sim_lcP {vs : List Nat} {e : α → D} {e' : β → D} {src : DEnv → R (List D)} {g : D → DEnv → Option DEnv} {t : DEnv → R Bool} {f : DEnv → R D} {xs : List α} {c : α → Bool} {h : α → β} {G G1 G2 : α → Pt} (hs : SimP p q src (xs.map e)) (hg : ∀ a, Tgt (wipeP q vs) (G a) g (e a)) (ht : ∀ a, SimP (G a) (G1 a) t (c a)) (hf : ∀ a, SimP (G1 a) (G2 a) f (e' (h a))) (w1 : ∀ a, PLe (wipeP (G1 a) vs) (wipeP q vs)) (w2 : ∀ a, PLe (wipeP (G2 a) vs) (wipeP q vs)) :
    Sim p (lc vs src g t f) (capL ((xs.filter c).map h)) (fun l => (l.map e', backP q (wipeP q vs) vs)) := hs.then fun σ hσ => by
  unfold capL Ex.guard
  by_cases hl : ((xs.filter c).map h).length ≤ 1000000
  · rw [decide_eq_true hl, if_pos rfl]
    obtain ⟨σ1, e1, g1⟩ := lcF_P hg ht hf w1 w2 xs [] (wipeD σ vs) (hσ.wipe vs) (by rw [List.length_nil]; omega)
    exact ⟨backD σ σ1 vs, by rw [e1]; simp only [R.bind, List.nil_append], hσ.back g1 vs⟩
  · rw [decide_eq_false hl, if_neg Bool.false_ne_true]
    exact True.intro
/-- without a test -/
theorem sim_lcM {vs : List Nat} {e : α → D} {e' : β → D} {src : DEnv → R (List D)} {g : D → DEnv → Option DEnv} {f : DEnv → R D} {xs : List α} {h : α → β} {G G2 : α → Pt} (hs : SimP p q src (xs.map e)) (hg : ∀ a, Tgt (wipeP q vs) (G a) g (e a)) (hf : ∀ a, SimP (G a) (G2 a) f (e' (h a))) (w1 : ∀ a, PLe (wipeP (G a) vs) (wipeP q vs)) (w2 : ∀ a, PLe (wipeP (G2 a) vs) (wipeP q vs)) :
    Sim p (lc vs src g yesB f) (capL (xs.map h)) (fun l => (l.map e', backP q (wipeP q vs) vs)) := by
  have := sim_lcP (c := fun _ => true) hs hg (fun a => .ok) hf w1 w2
  rw [List.filter_eq_self.mpr (fun _ _ => rfl)] at this
  exact this
/-- partial ones -/
def lcE {α β : Type} (c : α → Ex Bool) (h : α → Ex β) : List α → List β → Ex (List β)
  | [], acc => .ok acc
  | a :: as, acc => (c a).noX.bind fun b => if b = true then (h a).noX.bind fun y => if acc.length < 1000000 then lcE c h as (acc ++ [y]) else .bad else lcE c h as acc
theorem lcE_ok {c : α → Ex Bool} {h : α → Ex β} {c' : α → Bool} {h' : α → β} : ∀ {xs : List α} {acc : List β}, (∀ a ∈ xs, c a = .ok (c' a)) → (∀ a ∈ xs, c' a = true → h a = .ok (h' a)) → acc.length + ((xs.filter c').map h').length ≤ 1000000 → lcE c h xs acc = .ok (acc ++ (xs.filter c').map h')
  | [], acc, _, _, _ => by simp [lcE]
  | a :: xs, acc, hc, hh, hl => by
    rw [lcE, hc a List.mem_cons_self]
    simp only [Ex.noX_ok, Ex.bind_ok]
    cases hca : c' a with
    | false =>
      rw [List.filter_cons_of_neg (by simp [hca])] at hl ⊢
      simp only [Bool.false_eq_true, if_false]
      exact lcE_ok (fun b hb => hc b (List.mem_cons_of_mem _ hb)) (fun b hb => hh b (List.mem_cons_of_mem _ hb)) hl
    | true =>
      rw [List.filter_cons_of_pos hca] at hl ⊢
      simp only [List.map_cons, List.length_cons] at hl ⊢
      rw [hh a List.mem_cons_self hca]
      simp only [if_true, Ex.noX_ok, Ex.bind_ok]
      rw [if_pos (by omega), lcE_ok (fun b hb => hc b (List.mem_cons_of_mem _ hb)) (fun b hb => hh b (List.mem_cons_of_mem _ hb)) (by simp only [List.length_append, List.length_cons, List.length_nil]; omega), List.append_assoc]
      rfl
theorem noX_of {x : R γ} {t : Ex β} {φ : β → γ → DEnv → Prop} (h : match t with
    | .ok a => ∃ b σ, x = .ok b σ ∧ φ a b σ
    | .exc c => ∃ σ, x = .exc c σ
    | .bad => True) : match t.noX with
    | .ok a => ∃ b σ, x.noX = .ok b σ ∧ φ a b σ
    | .exc c => False
    | .bad => True := by
  cases t with
  | ok a =>
    obtain ⟨b, σ, rfl, h⟩ := h
    exact ⟨b, σ, rfl, h⟩
  | exc c => exact True.intro
  | bad => exact True.intro
theorem lcF_E {vs : List Nat} {e : α → D} {e' : β → D} {g : D → DEnv → Option DEnv} {t : DEnv → R Bool} {f : DEnv → R D} {c : α → Ex Bool} {h : α → Ex β} {qw : Pt} {G G1 G2 : α → Pt} (hg : ∀ a, Tgt qw (G a) g (e a)) (ht : ∀ a, Sim (G a) t (c a) (fun b => (b, G1 a))) (hf : ∀ a, Sim (G1 a) f (h a) (fun y => (e' y, G2 a))) (w1 : ∀ a, PLe (wipeP (G1 a) vs) qw) (w2 : ∀ a, PLe (wipeP (G2 a) vs) qw) :
    ∀ (xs : List α) (acc : List β) (σ : DEnv), Fits qw σ → match lcE c h xs acc with
      | .ok l => ∃ σ', lcF vs g t f (xs.map e) (acc.map e') σ = .ok (l.map e') σ' ∧ Fits qw σ'
      | .exc _ => False
      | .bad => True
  | [], acc, σ, hσ => ⟨σ, rfl, hσ⟩
  | a :: xs, acc, σ, hσ => by
    obtain ⟨σ1, e1, g1⟩ := hg a σ hσ
    have h1 := ht a σ1 g1
    rw [List.map_cons, lcF, e1, lcE]
    cases hca : c a with
    | bad => exact True.intro
    | exc k => exact True.intro
    | ok b =>
      rw [hca] at h1
      obtain ⟨σ2, e2, g2⟩ := h1
      simp only [Ex.noX_ok, Ex.bind_ok, e2, R.noX, R.bind]
      cases b with
      | false =>
        simp only [Bool.false_eq_true, if_false]
        exact lcF_E hg ht hf w1 w2 xs acc _ ((g2.wipe vs).le (w1 a))
      | true =>
        simp only [if_true]
        have h2 := hf a σ2 g2
        cases hha : h a with
        | bad => exact True.intro
        | exc k => exact True.intro
        | ok y =>
          rw [hha] at h2
          obtain ⟨σ3, e3, g3⟩ := h2
          simp only [Ex.noX_ok, Ex.bind_ok, e3, R.noX, R.bind, List.length_map]
          by_cases hl : acc.length < 1000000
          · simp only [hl, if_true]
            have ih := lcF_E hg ht hf w1 w2 xs (acc ++ [y]) (wipeD σ3 vs) ((g3.wipe vs).le (w2 a))
            simp only [List.map_append, List.map_cons, List.map_nil] at ih
            exact ih
          · simp only [hl, if_false]
theorem sim_lcE {vs : List Nat} {e : α → D} {e' : β → D} {src : DEnv → R (List D)} {g : D → DEnv → Option DEnv} {t : DEnv → R Bool} {f : DEnv → R D} {xs : List α} {c : α → Ex Bool} {h : α → Ex β} {G G1 G2 : α → Pt} (hs : SimP p q src (xs.map e)) (hg : ∀ a, Tgt (wipeP q vs) (G a) g (e a)) (ht : ∀ a, Sim (G a) t (c a) (fun b => (b, G1 a))) (hf : ∀ a, Sim (G1 a) f (h a) (fun y => (e' y, G2 a))) (w1 : ∀ a, PLe (wipeP (G1 a) vs) (wipeP q vs)) (w2 : ∀ a, PLe (wipeP (G2 a) vs) (wipeP q vs)) :
    Sim p (lc vs src g t f) (lcE c h xs []) (fun l => (l.map e', backP q (wipeP q vs) vs)) := hs.then fun σ hσ => by
  have := lcF_E hg ht hf w1 w2 xs [] (wipeD σ vs) (hσ.wipe vs)
  cases hl : lcE c h xs [] with
  | bad => exact True.intro
  | exc k => rw [hl] at this; exact this.elim
  | ok l =>
    rw [hl] at this
    obtain ⟨σ1, e1, g1⟩ := this
    exact ⟨backD σ σ1 vs, by simp only [List.map_nil] at e1; rw [e1]; simp only [R.bind], hσ.back g1 vs⟩
/-- with a tape that is drawn from -/
def lcD {α β τ : Type} (c : α → τ → Ex (Bool × τ)) (h : α → τ → Ex (β × τ)) : List α → List β → τ → Ex (List β × τ)
  | [], acc, tp => .ok (acc, tp)
  | a :: as, acc, tp => (c a tp).noX.bind fun b => if b.1 = true then (h a b.2).noX.bind fun y => if acc.length < 1000000 then lcD c h as (acc ++ [y.1]) y.2 else .bad else lcD c h as acc b.2
theorem lcF_D {vs : List Nat} {e : α → D} {e' : β → D} {g : D → DEnv → Option DEnv} {t : DEnv → R Bool} {f : DEnv → R D} {c : α → τ → Ex (Bool × τ)} {h : α → τ → Ex (β × τ)} {qw : τ → Pt} {G G1 G2 : α → τ → Pt} (hg : ∀ a s, Tgt (qw s) (G a s) g (e a)) (ht : ∀ a s, Sim (G a s) t (c a s) (fun b => (b.1, G1 a b.2))) (hf : ∀ a s, Sim (G1 a s) f (h a s) (fun y => (e' y.1, G2 a y.2))) (w1 : ∀ a s, PLe (wipeP (G1 a s) vs) (qw s)) (w2 : ∀ a s, PLe (wipeP (G2 a s) vs) (qw s)) :
    ∀ (xs : List α) (acc : List β) (s : τ) (σ : DEnv), Fits (qw s) σ → match lcD c h xs acc s with
      | .ok l => ∃ σ', lcF vs g t f (xs.map e) (acc.map e') σ = .ok (l.1.map e') σ' ∧ Fits (qw l.2) σ'
      | .exc _ => False
      | .bad => True
  | [], acc, s, σ, hσ => ⟨σ, rfl, hσ⟩
  | a :: xs, acc, s, σ, hσ => by
    obtain ⟨σ1, e1, g1⟩ := hg a s σ hσ
    have h1 := ht a s σ1 g1
    rw [List.map_cons, lcF, e1, lcD]
    cases hca : c a s with
    | bad => exact True.intro
    | exc k => exact True.intro
    | ok b =>
      rw [hca] at h1
      obtain ⟨σ2, e2, g2⟩ := h1
      obtain ⟨b, s1⟩ := b
      simp only [Ex.noX_ok, Ex.bind_ok, e2, R.noX, R.bind]
      cases b with
      | false =>
        simp only [Bool.false_eq_true, if_false]
        exact lcF_D hg ht hf w1 w2 xs acc s1 _ ((g2.wipe vs).le (w1 a s1))
      | true =>
        simp only [if_true]
        have h2 := hf a s1 σ2 g2
        cases hha : h a s1 with
        | bad => exact True.intro
        | exc k => exact True.intro
        | ok y =>
          rw [hha] at h2
          obtain ⟨σ3, e3, g3⟩ := h2
          obtain ⟨y, s2⟩ := y
          simp only [Ex.noX_ok, Ex.bind_ok, e3, R.noX, R.bind, List.length_map]
          by_cases hl : acc.length < 1000000
          · simp only [hl, if_true]
            have ih := lcF_D hg ht hf w1 w2 xs (acc ++ [y]) s2 (wipeD σ3 vs) ((g3.wipe vs).le (w2 a s2))
            simp only [List.map_append, List.map_cons, List.map_nil] at ih
            exact ih
          · simp only [hl, if_false]
theorem sim_lcD {vs : List Nat} {e : α → D} {e' : β → D} {src : DEnv → R (List D)} {g : D → DEnv → Option DEnv} {t : DEnv → R Bool} {f : DEnv → R D} {xs : List α} {q : τ → Pt} {s0 : τ} {c : α → τ → Ex (Bool × τ)} {h : α → τ → Ex (β × τ)} {G G1 G2 : α → τ → Pt} (hs : SimP p (q s0) src (xs.map e)) (hg : ∀ a s, Tgt (wipeP (q s) vs) (G a s) g (e a)) (ht : ∀ a s, Sim (G a s) t (c a s) (fun b => (b.1, G1 a b.2))) (hf : ∀ a s, Sim (G1 a s) f (h a s) (fun y => (e' y.1, G2 a y.2))) (w1 : ∀ a s, PLe (wipeP (G1 a s) vs) (wipeP (q s) vs)) (w2 : ∀ a s, PLe (wipeP (G2 a s) vs) (wipeP (q s) vs)) (hb : ∀ s, PLe (backP (q s0) (wipeP (q s) vs) vs) (q s)) :
    Sim p (lc vs src g t f) (lcD c h xs [] s0) (fun l => (l.1.map e', q l.2)) := hs.then fun σ hσ => by
  have := lcF_D (qw := fun s => wipeP (q s) vs) hg ht hf w1 w2 xs [] s0 (wipeD σ vs) (hσ.wipe vs)
  cases hl : lcD c h xs [] s0 with
  | bad => exact True.intro
  | exc k => rw [hl] at this; exact this.elim
  | ok l =>
    rw [hl] at this
    obtain ⟨σ1, e1, g1⟩ := this
    exact ⟨backD σ σ1 vs, by simp only [List.map_nil] at e1; rw [e1]; simp only [R.bind], (hσ.back g1 vs).le (hb l.2)⟩
theorem sim_yesD {s : τ} {q : τ → Pt} : Sim (q s) yesB (.ok (true, s)) (fun b => (b.1, q b.2)) := fun σ hσ => ⟨σ, rfl, hσ⟩
theorem sim_yes : Sim p yesB (.ok true) (fun b => (b, p)) := fun σ hσ => ⟨σ, rfl, hσ⟩
/-! ### two clauses -/
theorem lcF2_P {vs vs1 : List Nat} {e : α → D} {e1 : β → D} {e' : γ → D} {g g1 : D → DEnv → Option DEnv} {t t1 : DEnv → R Bool} {src1 : DEnv → R (List D)} {f : DEnv → R D} {c : α → Bool} {ys : α → List β} {c1 : α → β → Bool} {h : α → β → γ} {qw : Pt} {G G1 H : α → Pt} {J J1 J2 : α → β → Pt}
    (hg : ∀ a, Tgt qw (G a) g (e a)) (ht : ∀ a, SimP (G a) (G1 a) t (c a)) (hs : ∀ a, SimP (G1 a) (H a) src1 ((ys a).map e1)) (hg1 : ∀ a b, Tgt (wipeP (H a) vs1) (J a b) g1 (e1 b)) (ht1 : ∀ a b, SimP (J a b) (J1 a b) t1 (c1 a b)) (hf : ∀ a b, SimP (J1 a b) (J2 a b) f (e' (h a b)))
    (v1 : ∀ a b, PLe (wipeP (J1 a b) vs1) (wipeP (H a) vs1)) (v2 : ∀ a b, PLe (wipeP (J2 a b) vs1) (wipeP (H a) vs1)) (w1 : ∀ a, PLe (wipeP (G1 a) vs) qw) (w2 : ∀ a, PLe (wipeP (wipeP (H a) vs1) vs) qw) :
    ∀ (xs : List α) (acc : List D) (σ : DEnv), Fits qw σ → acc.length + ((xs.filter c).flatMap fun a => ((ys a).filter (c1 a)).map (h a)).length ≤ 1000000 →
      ∃ σ', lcF2 vs vs1 g t src1 g1 t1 f (xs.map e) acc σ = .ok (acc ++ ((xs.filter c).flatMap fun a => ((ys a).filter (c1 a)).map (h a)).map e') σ' ∧ Fits qw σ'
  | [], acc, σ, hσ, _ => ⟨σ, by simp [lcF2], hσ⟩
  | a :: xs, acc, σ, hσ, hl => by
    obtain ⟨σ1, e2, g2⟩ := hg a σ hσ
    obtain ⟨σ2, e3, g3⟩ := ht a σ1 g2
    rw [List.map_cons, lcF2, e2]
    simp only [e3, R.noX, R.bind]
    cases hc : c a with
    | false =>
      rw [List.filter_cons_of_neg (by simp [hc])] at hl ⊢
      simp only [Bool.false_eq_true, if_false]
      exact lcF2_P hg ht hs hg1 ht1 hf v1 v2 w1 w2 xs acc _ ((g3.wipe vs).le (w1 a)) hl
    | true =>
      rw [List.filter_cons_of_pos hc] at hl ⊢
      simp only [List.flatMap_cons, List.length_append, List.map_append] at hl ⊢
      obtain ⟨σ3, e4, g4⟩ := hs a σ2 g3
      obtain ⟨σ4, e5, g5⟩ := lcF_P (hg1 a) (ht1 a) (hf a) (v1 a) (v2 a) (ys a) acc (wipeD σ3 vs1) (g4.wipe vs1) (by omega)
      obtain ⟨σ5, e6, g6⟩ := lcF2_P hg ht hs hg1 ht1 hf v1 v2 w1 w2 xs (acc ++ (((ys a).filter (c1 a)).map (h a)).map e') (wipeD σ4 vs) ((g5.wipe vs).le (w2 a)) (by simp only [List.length_append, List.length_map] at hl ⊢; omega)
      refine ⟨σ5, ?_, g6⟩
      simp only [if_true, e4, R.noX, R.bind, e5, e6, List.append_assoc]
theorem sim_lc2P {vs vs1 : List Nat} {e : α → D} {e1 : β → D} {e' : γ → D} {src : DEnv → R (List D)} {g g1 : D → DEnv → Option DEnv} {t t1 : DEnv → R Bool} {src1 : DEnv → R (List D)} {f : DEnv → R D} {xs : List α} {c : α → Bool} {ys : α → List β} {c1 : α → β → Bool} {h : α → β → γ} {G G1 H : α → Pt} {J J1 J2 : α → β → Pt} (h0 : SimP p q src (xs.map e))
    (hg : ∀ a, Tgt (wipeP q vs) (G a) g (e a)) (ht : ∀ a, SimP (G a) (G1 a) t (c a)) (hs : ∀ a, SimP (G1 a) (H a) src1 ((ys a).map e1)) (hg1 : ∀ a b, Tgt (wipeP (H a) vs1) (J a b) g1 (e1 b)) (ht1 : ∀ a b, SimP (J a b) (J1 a b) t1 (c1 a b)) (hf : ∀ a b, SimP (J1 a b) (J2 a b) f (e' (h a b)))
    (v1 : ∀ a b, PLe (wipeP (J1 a b) vs1) (wipeP (H a) vs1)) (v2 : ∀ a b, PLe (wipeP (J2 a b) vs1) (wipeP (H a) vs1)) (w1 : ∀ a, PLe (wipeP (G1 a) vs) (wipeP q vs)) (w2 : ∀ a, PLe (wipeP (wipeP (H a) vs1) vs) (wipeP q vs)) :
    Sim p (lc2 vs vs1 src g t src1 g1 t1 f) (capL ((xs.filter c).flatMap fun a => ((ys a).filter (c1 a)).map (h a))) (fun l => (l.map e', backP q (wipeP q vs) vs)) := h0.then fun σ hσ => by
  unfold capL Ex.guard
  by_cases hl : ((xs.filter c).flatMap fun a => ((ys a).filter (c1 a)).map (h a)).length ≤ 1000000
  · rw [decide_eq_true hl, if_pos rfl]
    obtain ⟨σ1, e2, g2⟩ := lcF2_P hg ht hs hg1 ht1 hf v1 v2 w1 w2 xs [] (wipeD σ vs) (hσ.wipe vs) (by rw [List.length_nil]; omega)
    exact ⟨backD σ σ1 vs, by rw [e2]; simp only [R.bind, List.nil_append], hσ.back g2 vs⟩
  · rw [decide_eq_false hl, if_neg Bool.false_ne_true]
    exact True.intro
def lcE2 {α β γ : Type} (c : α → Ex Bool) (ys : α → Ex (List β)) (c1 : α → β → Ex Bool) (h : α → β → Ex γ) : List α → List γ → Ex (List γ)
  | [], acc => .ok acc
  | a :: as, acc => (c a).noX.bind fun b => if b = true then (ys a).noX.bind fun l => (lcE (c1 a) (h a) l acc).bind fun acc1 => lcE2 c ys c1 h as acc1 else lcE2 c ys c1 h as acc
theorem lcF2_E {vs vs1 : List Nat} {e : α → D} {e1 : β → D} {e' : γ → D} {g g1 : D → DEnv → Option DEnv} {t t1 : DEnv → R Bool} {src1 : DEnv → R (List D)} {f : DEnv → R D} {c : α → Ex Bool} {ys : α → Ex (List β)} {c1 : α → β → Ex Bool} {h : α → β → Ex γ} {qw : Pt} {G G1 H : α → Pt} {J J1 J2 : α → β → Pt}
    (hg : ∀ a, Tgt qw (G a) g (e a)) (ht : ∀ a, Sim (G a) t (c a) (fun b => (b, G1 a))) (hs : ∀ a, Sim (G1 a) src1 (ys a) (fun l => (l.map e1, H a))) (hg1 : ∀ a b, Tgt (wipeP (H a) vs1) (J a b) g1 (e1 b)) (ht1 : ∀ a b, Sim (J a b) t1 (c1 a b) (fun x => (x, J1 a b))) (hf : ∀ a b, Sim (J1 a b) f (h a b) (fun y => (e' y, J2 a b)))
    (v1 : ∀ a b, PLe (wipeP (J1 a b) vs1) (wipeP (H a) vs1)) (v2 : ∀ a b, PLe (wipeP (J2 a b) vs1) (wipeP (H a) vs1)) (w1 : ∀ a, PLe (wipeP (G1 a) vs) qw) (w2 : ∀ a, PLe (wipeP (wipeP (H a) vs1) vs) qw) :
    ∀ (xs : List α) (acc : List γ) (σ : DEnv), Fits qw σ → match lcE2 c ys c1 h xs acc with
      | .ok l => ∃ σ', lcF2 vs vs1 g t src1 g1 t1 f (xs.map e) (acc.map e') σ = .ok (l.map e') σ' ∧ Fits qw σ'
      | .exc _ => False
      | .bad => True
  | [], acc, σ, hσ => ⟨σ, rfl, hσ⟩
  | a :: xs, acc, σ, hσ => by
    obtain ⟨σ1, e2, g2⟩ := hg a σ hσ
    have h1 := ht a σ1 g2
    rw [List.map_cons, lcF2, e2, lcE2]
    cases hca : c a with
    | bad => exact True.intro
    | exc k => exact True.intro
    | ok b =>
      rw [hca] at h1
      obtain ⟨σ2, e3, g3⟩ := h1
      simp only [Ex.noX_ok, Ex.bind_ok, e3, R.noX, R.bind]
      cases b with
      | false =>
        simp only [Bool.false_eq_true, if_false]
        exact lcF2_E hg ht hs hg1 ht1 hf v1 v2 w1 w2 xs acc _ ((g3.wipe vs).le (w1 a))
      | true =>
        simp only [if_true]
        have h2 := hs a σ2 g3
        cases hya : ys a with
        | bad => exact True.intro
        | exc k => exact True.intro
        | ok l =>
          rw [hya] at h2
          obtain ⟨σ3, e4, g4⟩ := h2
          simp only [Ex.noX_ok, Ex.bind_ok, e4, R.noX, R.bind]
          have h3 := lcF_E (hg1 a) (ht1 a) (hf a) (v1 a) (v2 a) l acc (wipeD σ3 vs1) (g4.wipe vs1)
          cases hz : lcE (c1 a) (h a) l acc with
          | bad => exact True.intro
          | exc k => rw [hz] at h3; exact h3.elim
          | ok acc1 =>
            rw [hz] at h3
            obtain ⟨σ4, e5, g5⟩ := h3
            simp only [Ex.bind_ok, e5, R.noX, R.bind]
            exact lcF2_E hg ht hs hg1 ht1 hf v1 v2 w1 w2 xs acc1 _ ((g5.wipe vs).le (w2 a))
theorem sim_lc2E {vs vs1 : List Nat} {e : α → D} {e1 : β → D} {e' : γ → D} {src : DEnv → R (List D)} {g g1 : D → DEnv → Option DEnv} {t t1 : DEnv → R Bool} {src1 : DEnv → R (List D)} {f : DEnv → R D} {xs : List α} {c : α → Ex Bool} {ys : α → Ex (List β)} {c1 : α → β → Ex Bool} {h : α → β → Ex γ} {G G1 H : α → Pt} {J J1 J2 : α → β → Pt} (h0 : SimP p q src (xs.map e))
    (hg : ∀ a, Tgt (wipeP q vs) (G a) g (e a)) (ht : ∀ a, Sim (G a) t (c a) (fun b => (b, G1 a))) (hs : ∀ a, Sim (G1 a) src1 (ys a) (fun l => (l.map e1, H a))) (hg1 : ∀ a b, Tgt (wipeP (H a) vs1) (J a b) g1 (e1 b)) (ht1 : ∀ a b, Sim (J a b) t1 (c1 a b) (fun x => (x, J1 a b))) (hf : ∀ a b, Sim (J1 a b) f (h a b) (fun y => (e' y, J2 a b)))
    (v1 : ∀ a b, PLe (wipeP (J1 a b) vs1) (wipeP (H a) vs1)) (v2 : ∀ a b, PLe (wipeP (J2 a b) vs1) (wipeP (H a) vs1)) (w1 : ∀ a, PLe (wipeP (G1 a) vs) (wipeP q vs)) (w2 : ∀ a, PLe (wipeP (wipeP (H a) vs1) vs) (wipeP q vs)) :
    Sim p (lc2 vs vs1 src g t src1 g1 t1 f) (lcE2 c ys c1 h xs []) (fun l => (l.map e', backP q (wipeP q vs) vs)) := h0.then fun σ hσ => by
  have := lcF2_E hg ht hs hg1 ht1 hf v1 v2 w1 w2 xs [] (wipeD σ vs) (hσ.wipe vs)
  cases hl : lcE2 c ys c1 h xs [] with
  | bad => exact True.intro
  | exc k => rw [hl] at this; exact this.elim
  | ok l =>
    rw [hl] at this
    obtain ⟨σ1, e2, g2⟩ := this
    exact ⟨backD σ σ1 vs, by simp only [List.map_nil] at e2; rw [e2]; simp only [R.bind], hσ.back g2 vs⟩
/-! ### any, all -/
theorem qF_P {stop : Bool} {vs : List Nat} {e : α → D} {g : D → DEnv → Option DEnv} {f : DEnv → R D} {c : α → Bool} {qw : Pt} {G G1 : α → Pt} (hg : ∀ a, Tgt qw (G a) g (e a)) (hf : ∀ a, SimP (G a) (G1 a) f (.bool (c a))) (w1 : ∀ a, PLe (wipeP (G1 a) vs) qw) :
    ∀ (xs : List α) (σ : DEnv), Fits qw σ → ∃ σ', qF stop vs g f (xs.map e) σ = .ok (if stop = true then xs.any c else xs.all c) σ' ∧ Fits qw σ'
  | [], σ, hσ => ⟨σ, by cases stop <;> rfl, hσ⟩
  | a :: xs, σ, hσ => by
    obtain ⟨σ1, e1, g1⟩ := hg a σ hσ
    obtain ⟨σ2, e2, g2⟩ := hf a σ1 g1
    have g3 := (g2.wipe vs).le (w1 a)
    obtain ⟨σ3, e3, g4⟩ := qF_P (stop := stop) hg hf w1 xs (wipeD σ2 vs) g3
    have es : stG vs g f (e a) σ = some (.bool (c a), wipeD σ2 vs) := by simp only [stG, e1, e2]
    rw [List.map_cons, qF, es]
    simp only
    by_cases hc : c a = stop
    · rw [if_pos hc]
      refine ⟨_, ?_, g3⟩
      cases stop <;> simp [hc]
    · rw [if_neg hc]
      refine ⟨σ3, ?_, g4⟩
      rw [e3]
      cases stop <;> cases hca : c a <;> simp_all
theorem simP_q {stop : Bool} {vs : List Nat} {e : α → D} {src : DEnv → R (List D)} {g : D → DEnv → Option DEnv} {f : DEnv → R D} {xs : List α} {c : α → Bool} {G G1 : α → Pt} (hs : SimP p q src (xs.map e)) (hg : ∀ a, Tgt (wipeP q vs) (G a) g (e a)) (hf : ∀ a, SimP (G a) (G1 a) f (.bool (c a))) (w1 : ∀ a, PLe (wipeP (G1 a) vs) (wipeP q vs)) :
    SimP p (backP q (wipeP q vs) vs) (qE stop vs src g f) (.bool (if stop = true then xs.any c else xs.all c)) := hs.thenP fun σ hσ => by
  obtain ⟨σ1, e1, g1⟩ := qF_P (stop := stop) hg hf w1 xs (wipeD σ vs) (hσ.wipe vs)
  exact ⟨backD σ σ1 vs, by simp only [e1], hσ.back g1 vs⟩
theorem simP_any {vs : List Nat} {e : α → D} {src : DEnv → R (List D)} {g : D → DEnv → Option DEnv} {f : DEnv → R D} {xs : List α} {c : α → Bool} {G G1 : α → Pt} (hs : SimP p q src (xs.map e)) (hg : ∀ a, Tgt (wipeP q vs) (G a) g (e a)) (hf : ∀ a, SimP (G a) (G1 a) f (.bool (c a))) (w1 : ∀ a, PLe (wipeP (G1 a) vs) (wipeP q vs)) :
    SimP p (backP q (wipeP q vs) vs) (qE true vs src g f) (.bool (xs.any c)) := simP_q (stop := true) hs hg hf w1
theorem simP_all {vs : List Nat} {e : α → D} {src : DEnv → R (List D)} {g : D → DEnv → Option DEnv} {f : DEnv → R D} {xs : List α} {c : α → Bool} {G G1 : α → Pt} (hs : SimP p q src (xs.map e)) (hg : ∀ a, Tgt (wipeP q vs) (G a) g (e a)) (hf : ∀ a, SimP (G a) (G1 a) f (.bool (c a))) (w1 : ∀ a, PLe (wipeP (G1 a) vs) (wipeP q vs)) :
    SimP p (backP q (wipeP q vs) vs) (qE false vs src g f) (.bool (xs.all c)) := simP_q (stop := false) hs hg hf w1
/-- partial ones -/
def quantE {α : Type} (stop : Bool) (c : α → Ex Bool) : List α → Ex Bool
  | [] => .ok (!stop)
  | a :: as => (c a).noX.bind fun b => if b = stop then .ok stop else quantE stop c as
theorem quantE_ok {stop : Bool} {c : α → Ex Bool} {c' : α → Bool} : ∀ {xs : List α}, (∀ a ∈ xs, c a = .ok (c' a)) → quantE stop c xs = .ok (if stop = true then xs.any c' else xs.all c')
  | [], _ => by cases stop <;> rfl
  | a :: xs, h => by
    rw [quantE, h a List.mem_cons_self, quantE_ok fun b hb => h b (List.mem_cons_of_mem _ hb)]
    cases stop <;> cases hc : c' a <;> simp [hc]
theorem qF_E {stop : Bool} {vs : List Nat} {e : α → D} {g : D → DEnv → Option DEnv} {f : DEnv → R D} {c : α → Ex Bool} {qw : Pt} {G G1 : α → Pt} (hg : ∀ a, Tgt qw (G a) g (e a)) (hf : ∀ a, Sim (G a) f (c a) (fun b => (.bool b, G1 a))) (w1 : ∀ a, PLe (wipeP (G1 a) vs) qw) :
    ∀ (xs : List α) (σ : DEnv), Fits qw σ → match quantE stop c xs with
      | .ok b => ∃ σ', qF stop vs g f (xs.map e) σ = .ok b σ' ∧ Fits qw σ'
      | .exc _ => False
      | .bad => True
  | [], σ, hσ => ⟨σ, rfl, hσ⟩
  | a :: xs, σ, hσ => by
    obtain ⟨σ1, e1, g1⟩ := hg a σ hσ
    have h1 := hf a σ1 g1
    rw [quantE]
    cases hca : c a with
    | bad => exact True.intro
    | exc k => exact True.intro
    | ok b =>
      rw [hca] at h1
      obtain ⟨σ2, e2, g2⟩ := h1
      have g3 := (g2.wipe vs).le (w1 a)
      have es : stG vs g f (e a) σ = some (.bool b, wipeD σ2 vs) := by simp only [stG, e1, e2]
      simp only [Ex.noX_ok, Ex.bind_ok]
      rw [List.map_cons, qF, es]
      simp only
      by_cases hc : b = stop
      · rw [if_pos hc, if_pos hc]
        exact ⟨_, rfl, g3⟩
      · rw [if_neg hc, if_neg hc]
        exact qF_E hg hf w1 xs _ g3
theorem sim_q {stop : Bool} {vs : List Nat} {e : α → D} {src : DEnv → R (List D)} {g : D → DEnv → Option DEnv} {f : DEnv → R D} {xs : List α} {c : α → Ex Bool} {G G1 : α → Pt} (hs : SimP p q src (xs.map e)) (hg : ∀ a, Tgt (wipeP q vs) (G a) g (e a)) (hf : ∀ a, Sim (G a) f (c a) (fun b => (.bool b, G1 a))) (w1 : ∀ a, PLe (wipeP (G1 a) vs) (wipeP q vs)) :
    Sim p (qE stop vs src g f) (quantE stop c xs) (fun b => (.bool b, backP q (wipeP q vs) vs)) := hs.then fun σ hσ => by
  have := qF_E (stop := stop) hg hf w1 xs (wipeD σ vs) (hσ.wipe vs)
  cases hl : quantE stop c xs with
  | bad => exact True.intro
  | exc k => rw [hl] at this; exact this.elim
  | ok b =>
    rw [hl] at this
    obtain ⟨σ1, e1, g1⟩ := this
    exact ⟨backD σ σ1 vs, by simp only [e1], hσ.back g1 vs⟩
end
end PL
set_option Elab.async false
set_option linter.all false
set_option maxRecDepth 100000
set_option maxHeartbeats 1000000
set_option autoImplicit false
/-! Operations of the typed layer. -/
namespace PL
open PySem PySem.Spec PyProof.Rows L2
section
variable {α β γ : Type} {e : α → D} {f : β → D} {g : γ → D} {a b : Int}
/-! whole numbers -/
theorem o_add : dAdd (eI a) (eI b) = some (eI (a + b)) := rfl
theorem o_iadd : iAdd (eI a) (eI b) = some (eI (a + b)) := rfl
theorem o_sub : dSub (eI a) (eI b) = some (eI (a - b)) := rfl
theorem o_isub : iSub (eI a) (eI b) = some (eI (a - b)) := rfl
theorem o_neg : dNeg (eI a) = some (eI (-a)) := rfl
theorem o_xor : dXor (eI a) (eI b) = some (eI (Builtin.bitXor a b)) := rfl
theorem o_and : dAnd (eI a) (eI b) = some (eI (Builtin.bitAnd a b)) := rfl
theorem o_lt : dLt (eI a) (eI b) = some (eB (decide (a < b))) := rfl
theorem o_le : dLeI (eI a) (eI b) = some (eB (decide (a ≤ b))) := rfl
theorem o_gt : dGtI (eI a) (eI b) = some (eB (decide (b < a))) := rfl
theorem o_ge : dGeI (eI a) (eI b) = some (eB (decide (b ≤ a))) := rfl
def mulE (a b : Int) : Ex Int := Ex.guard (cMul a b) (a * b)
def mulSE (a b : Int) : Ex Int := Ex.guard (cMulS a b) (a * b)
def divE (a b : Int) : Ex Int := Ex.guard (cDiv a b) (a / b)
def modE (a b : Int) : Ex Int := Ex.guard (cMod a b) (a % b)
def powE (a b : Int) : Ex Int := Ex.guard (cPow a b) (a ^ b.toNat)
def shlE (a b : Int) : Ex Int := Ex.guard (cPow a b) (a * 2 ^ b.toNat)
def shrE (a b : Int) : Ex Int := Ex.guard (decide (0 ≤ b)) (a / 2 ^ b.toNat)
theorem a_mul : (mulE a b).All fun c => dMul (eI a) (eI b) = some (eI c) := all_guard fun h => by show (if cMul a b = true then _ else _) = _; rw [if_pos h]
theorem a_imul : (mulSE a b).All fun c => iMul (eI a) (eI b) = some (eI c) := all_guard fun h => by show (if cMulS a b = true then _ else _) = _; rw [if_pos h]
theorem a_div : (divE a b).All fun c => dDiv (eI a) (eI b) = some (eI c) := all_guard fun h => by show (if cDiv a b = true then _ else _) = _; rw [if_pos h]
theorem a_mod : (modE a b).All fun c => dMod (eI a) (eI b) = some (eI c) := all_guard fun h => by show (if cMod a b = true then _ else _) = _; rw [if_pos h]
theorem a_pow : (powE a b).All fun c => dPow (eI a) (eI b) = some (eI c) := all_guard fun h => by show (if cPow a b = true then _ else _) = _; rw [if_pos h]
theorem a_shl : (shlE a b).All fun c => dShl (eI a) (eI b) = some (eI c) := all_guard fun h => by show (if cPow a b = true then _ else _) = _; rw [if_pos h]
theorem a_shr : (shrE a b).All fun c => dShr (eI a) (eI b) = some (eI c) := all_guard fun h => by show (if decide (0 ≤ b) = true then _ else _) = _; rw [if_pos h]
/-- a written divisor -/
theorem o_div (h : cDiv 0 b = true) : dDiv (eI a) (eI b) = some (eI (a / b)) := by show (if cDiv a b = true then _ else _) = _; rw [show cDiv a b = cDiv 0 b from rfl, if_pos h]
theorem o_mod (h : decide (0 < b) = true) : dMod (eI a) (eI b) = some (eI (a % b)) := by show (if cMod a b = true then _ else _) = _; rw [show cMod a b = decide (0 < b) from rfl, if_pos h]
theorem o_pow {c : Int} (h : cPow a b = true) (hc : a ^ b.toNat = c) : dPow (eI a) (eI b) = some (eI c) := by show (if cPow a b = true then _ else _) = _; rw [if_pos h, ← hc]
theorem o_shr (h : decide (0 ≤ b) = true) : dShr (eI a) (eI b) = some (eI (a / 2 ^ b.toNat)) := by show (if decide (0 ≤ b) = true then _ else _) = _; rw [if_pos h]
theorem o_abs : cAbs [eI a] = some (eI (a.natAbs : Int)) := rfl
theorem o_max : cMax2 [eI a, eI b] = some (eI (max a b)) := rfl
theorem o_min : cMin2 [eI a, eI b] = some (eI (min a b)) := rfl
theorem o_gcd : cGcd [eI a, eI b] = some (eI ((Nat.gcd a.natAbs b.natAbs : Nat) : Int)) := rfl
theorem o_int : cInt [eI a] = some (eI a) := rfl
def b2z (b : Bool) : Int := if b = true then 1 else 0
theorem o_intb {b : Bool} : cInt [eB b] = some (eI (b2z b)) := rfl
/-! == -/
section
variable [DecidableEq α] {x y : α} {n : Nat}
theorem o_eq (h : EqE e n) (hn : decide (n ≤ 60) = true) : dEq (e x) (e y) = some (eB (decide (x = y))) := by
  have hn := of_decide_eq_true hn
  rw [dEq_sh (n := n) (m := n) (h.sh x) (h.sh y) (by omega) (by omega), h.eqv]
theorem o_ne (h : EqE e n) (hn : decide (n ≤ 60) = true) : dNe (e x) (e y) = some (eB (decide (x ≠ y))) := by
  have hn := of_decide_eq_true hn
  rw [dNe_sh (n := n) (m := n) (h.sh x) (h.sh y) (by omega) (by omega), h.eqv]
  simp only [ne_eq, decide_not]
theorem any_mem (h : EqE e n) (xs : List α) : ((xs.map e).any fun z => PyData.eqv z (e x)) = decide (x ∈ xs) := by
  induction xs with
  | nil => simp
  | cons a xs ih =>
    rw [List.map_cons, List.any_cons, ih, h.eqv]
    by_cases e : x = a
    · subst e; simp
    · have e' : ¬ a = x := fun z => e z.symm
      simp [e, e']
theorem sh_map (h : EqE e n) (xs : List α) : ∀ d ∈ xs.map e, Sh n d := fun d hd => by
  obtain ⟨a, _, rfl⟩ := List.mem_map.mp hd
  exact h.sh a
theorem o_inL {xs : List α} (h : EqE e n) (hn : decide (n ≤ 60) = true) : dIn (e x) (eL e xs) = some (eB (decide (x ∈ xs))) := by
  have hn := of_decide_eq_true hn
  show dIn (e x) (.list (xs.map e)) = _
  rw [dIn_list (n := n) (m := n) (h.sh x) (sh_map h xs) (by omega) (by omega), any_mem h]
theorem o_inT {xs : List α} (h : EqE e n) (hn : decide (n ≤ 60) = true) : dIn (e x) (eT e xs) = some (eB (decide (x ∈ xs))) := by
  have hn := of_decide_eq_true hn
  show dIn (e x) (.tuple (xs.map e)) = _
  rw [dIn_tuple (n := n) (m := n) (h.sh x) (sh_map h xs) (by omega) (by omega), any_mem h]
theorem o_ninL {xs : List α} (h : EqE e n) (hn : decide (n ≤ 60) = true) : dNotIn (e x) (eL e xs) = some (eB (!decide (x ∈ xs))) := by
  unfold dNotIn
  rw [o_inL h hn]
theorem o_ninT {xs : List α} (h : EqE e n) (hn : decide (n ≤ 60) = true) : dNotIn (e x) (eT e xs) = some (eB (!decide (x ∈ xs))) := by
  unfold dNotIn
  rw [o_inT h hn]
/-- list.count -/
theorem o_count {xs : List α} (h : EqE e n) (hn : decide (n ≤ 60) = true) : mCount (xs.map e) [e x] = some (eI (xs.count x : Nat)) := by
  have hn := of_decide_eq_true hn
  have hs := (Sh.list (sh_map h xs)).ok (show n + 1 ≤ 64 by omega)
  show (if SeqAt.shaped (e x) = true ∧ SeqAt.shaped (PyData.list (List.map e xs)) = true then some (PyData.int (List.countP (fun y => PyData.eqv y (e x)) (List.map e xs) : Nat)) else none) = _
  rw [if_pos ⟨(h.sh x).ok (by omega), hs⟩, List.countP_map]
  congr 3
  unfold List.count
  refine List.countP_congr fun a _ => ?_
  simp only [Function.comp_apply, h.eqv, decide_eq_true_eq, beq_iff_eq]
end
/-! dynamic == -/
def eqDE (d e : D) : Ex Bool := Ex.guard (SeqAt.shaped d && SeqAt.shaped e) (PyData.eqv d e)
theorem a_eqD {d e : D} : (eqDE d e).All fun b => dEq d e = some (eB b) := all_guard fun h => by
  rw [Bool.and_eq_true] at h
  show (if _ then _ else _) = _
  rw [if_pos h]
theorem a_neD {d e : D} : (eqDE d e).All fun b => dNe d e = some (eB (!b)) := all_guard fun h => by
  rw [Bool.and_eq_true] at h
  show (if _ then _ else _) = _
  rw [if_pos h]
/-! is -/
def NotN (e : α → D) : Prop := ∀ a, dIs (e a) .none = some (.bool false)
theorem nn_int : NotN eI := fun _ => rfl
theorem nn_bool : NotN eB := fun _ => rfl
theorem nn_list : NotN (eL e) := fun _ => rfl
theorem nn_tup : NotN (eT e) := fun _ => rfl
theorem nn_pair : NotN (eP e f) := fun _ => rfl
theorem nn_p3 : NotN (eP3 e f g) := fun _ => rfl
theorem o_isN {o : Option α} (h : NotN e) : dIs (eO e o) .none = some (eB o.isNone) := by
  cases o with
  | none => rfl
  | some a => exact h a
theorem o_isnN {o : Option α} (h : NotN e) : dIsNot (eO e o) .none = some (eB o.isSome) := by
  unfold dIsNot
  cases o with
  | none => rfl
  | some a => simp only [show dIs (eO e (some a)) .none = _ from h a]; rfl
theorem o_isB {a b : Bool} : dIs (eB a) (eB b) = some (eB (decide (a = b))) := rfl
theorem o_isnB {a b : Bool} : dIsNot (eB a) (eB b) = some (eB (!decide (a = b))) := rfl
/-! sequences -/
theorem o_lenL {xs : List α} : cLen [eL e xs] = some (eI (xs.length : Int)) := by simp [eL]
theorem o_lenT {xs : List α} : cLen [eT e xs] = some (eI (xs.length : Int)) := by simp [eT]
def catE {α : Type} (xs ys : List α) : Ex (List α) := Ex.guard (decide (xs.length + ys.length ≤ sizeLine)) (xs ++ ys)
theorem catE_ok {xs ys : List α} (h : xs.length + ys.length ≤ 1000000) : catE xs ys = .ok (xs ++ ys) := by
  have := sizeLine_mil
  exact Ex.guard_of (decide_eq_true (by omega))
theorem a_catL {xs ys : List α} : (catE xs ys).All fun zs => dAdd (eL e xs) (eL e ys) = some (eL e zs) := all_guard fun h => by
  have h := of_decide_eq_true h
  simp [eL, h]
theorem a_catT {xs ys : List α} : (catE xs ys).All fun zs => dAdd (eT e xs) (eT e ys) = some (eT e zs) := all_guard fun h => by
  have h := of_decide_eq_true h
  simp [eT, h]
/-- an item -/
def ixE {α : Type} (xs : List α) (i : Int) : Ex α := Ex.ofO ((ixN xs.length i).bind fun j => xs[j]?)
theorem ix_map {xs : List α} {i : Int} {x : α} (h : ((ixN xs.length i).bind fun j => xs[j]?) = some x) : ((ixN (xs.map e).length i).bind fun j => (xs.map e)[j]?) = some (e x) := by
  rw [List.length_map]
  cases hj : ixN xs.length i with
  | none => rw [hj] at h; cases h
  | some j =>
    rw [hj] at h
    simp only [Option.bind_some] at h ⊢
    rw [List.getElem?_map, h]
    rfl
theorem a_ixL {xs : List α} {i : Int} : (ixE xs i).All fun x => dIx (eL e xs) (eI i) = some (e x) := all_ofO fun x h => ix_map h
theorem a_ixT {xs : List α} {i : Int} : (ixE xs i).All fun x => dIx (eT e xs) (eI i) = some (e x) := all_ofO fun x h => ix_map h
theorem ixE_nat {xs : List α} {j : Nat} {x : α} (h : xs[j]? = some x) : ixE xs (j : Int) = .ok x := by
  have hl := (List.getElem?_eq_some_iff.mp h).1
  unfold ixE ixN
  rw [if_pos (by omega), if_pos (by omega)]
  simp [h]
theorem ixE_int {xs : List α} {i : Int} (h0 : 0 ≤ i) {x : α} (h : xs[i.toNat]? = some x) : ixE xs i = .ok x := by
  have := ixE_nat h
  rwa [Int.toNat_of_nonneg h0] at this
theorem ixE_last {xs : List α} {x : α} : ixE (xs ++ [x]) (-1) = .ok x := by
  unfold ixE ixN
  have : (-1 : Int) + ((xs ++ [x]).length : Int) = (xs.length : Int) := by simp; omega
  rw [if_neg (by decide), if_pos (by omega), this]
  simp
theorem o_fst {x : α × β} : dIx (eP e f x) (eI 0) = some (e x.1) := rfl
theorem o_snd {x : α × β} : dIx (eP e f x) (eI 1) = some (f x.2) := rfl
theorem o_p30 {x : α × β × γ} : dIx (eP3 e f g x) (eI 0) = some (e x.1) := rfl
theorem o_p31 {x : α × β × γ} : dIx (eP3 e f g x) (eI 1) = some (f x.2.1) := rfl
theorem o_p32 {x : α × β × γ} : dIx (eP3 e f g x) (eI 2) = some (g x.2.2) := rfl
/-- a tuple, some times over -/
def repE {α : Type} (xs : List α) (k : Int) : Ex (List α) := Ex.guard (decide (2 ≤ k ∧ k ≤ 1000 ∧ 1 ≤ xs.length ∧ xs.length ≤ 1000)) (List.replicate k.toNat xs).flatten
theorem a_rep {xs : List α} {k : Int} : (repE xs k).All fun zs => dMul (eT e xs) (eI k) = some (eT e zs) := all_guard fun h => by
  have h := of_decide_eq_true h
  simp only [eT, dMul_tuple, List.length_map, h, if_true, List.map_flatten, List.map_replicate]
  rfl
theorem o_listT {xs : List α} : cList [eT e xs] = some (eL e xs) := rfl
theorem o_listL {xs : List α} : cList [eL e xs] = some (eL e xs) := rfl
theorem o_tupL {xs : List α} : cTuple [eL e xs] = some (eT e xs) := rfl
theorem o_tupT {xs : List α} : cTuple [eT e xs] = some (eT e xs) := rfl
theorem o_revL {xs : List α} : dRev (eL e xs) = some (eL e xs.reverse) := by simp [eL]
theorem o_revT {xs : List α} : dRev (eT e xs) = some (eT e xs.reverse) := by simp [eT]
theorem o_itL {xs : List α} : itemsS (eL e xs) = some (xs.map e) := rfl
theorem o_itT {xs : List α} : itemsS (eT e xs) = some (xs.map e) := rfl
/-! ranges -/
def ranI (lo : Int) (n : Nat) : List Int := (List.range n).map fun k : Nat => lo + k
theorem ran_map {lo : Int} {n : Nat} : rangeD lo n = (ranI lo n).map eI := by simp [rangeD, ranI]
def rng1E (j : Int) : Ex (List Int) := Ex.guard (small62 j) (ranI 0 j.toNat)
def rng2E (i j : Int) : Ex (List Int) := Ex.guard (small62 i && small62 j) (ranI i (j - i).toNat)
theorem rng1E_ok {j : Int} (h : j.natAbs < 2 ^ 61) : rng1E j = .ok (ranI 0 j.toNat) := Ex.guard_of (small62_of h)
theorem rng2E_ok {i j : Int} (h : i.natAbs < 2 ^ 61) (h' : j.natAbs < 2 ^ 61) : rng2E i j = .ok (ranI i (j - i).toNat) := Ex.guard_of (by rw [small62_of h, small62_of h']; rfl)
theorem a_rng1 {j : Int} : (rng1E j).All fun l => rng1 [eI j] = some (l.map eI) := all_guard fun h => by
  show (if small62 j = true then _ else _) = _
  rw [if_pos h, ran_map]
theorem a_rng2 {i j : Int} : (rng2E i j).All fun l => rng2 [eI i, eI j] = some (l.map eI) := all_guard fun h => by
  rw [Bool.and_eq_true] at h
  show (if _ then _ else _) = _
  rw [if_pos h, ran_map]
theorem o_rng1 {j : Int} (h : small62 j = true) : rng1 [eI j] = some ((ranI 0 j.toNat).map eI) := by
  show (if small62 j = true then _ else _) = _
  rw [if_pos h, ran_map]
theorem o_rng2 {i j : Int} (h : small62 i = true) (h' : small62 j = true) : rng2 [eI i, eI j] = some ((ranI i (j - i).toNat).map eI) := by
  show (if _ then _ else _) = _
  rw [if_pos ⟨h, h'⟩, ran_map]
/-! order of tuples of whole numbers -/
def lexP (x y : Int × Int) : Bool := decide (x.1 < y.1) || (decide (x.1 = y.1) && decide (x.2 < y.2))
theorem o_ltP {x y : Int × Int} : dLt (eP eI eI x) (eP eI eI y) = some (eB (lexP x y)) := by
  simp [eP, dLt, ints?, HT.lexLt, lexP]
  rw [Bool.eq_iff_iff]
  split <;> simp <;> omega
theorem ints_map (ns : List Int) : ints? (ns.map eI) = some ns := by
  induction ns with
  | nil => rfl
  | cons n ns ih => rw [List.map_cons, ints?, ih]; rfl
theorem o_ltT {x y : List Int} : dLt (eT eI x) (eT eI y) = some (eB (HT.lexLt x y)) := by
  simp only [eT, dLt, ints_map]
end
end PL
set_option Elab.async false
set_option linter.all false
set_option maxRecDepth 100000
set_option maxHeartbeats 1000000
set_option autoImplicit false
/-! What the printed typed texts lean on. -/
namespace PL
open PySem PySem.Spec PyProof.Rows L2
theorem PLe.of {p q : Pt} (h : PLe p q) : ∀ σ, Fits p σ → Fits q σ := fun _ hσ => hσ.le h
theorem set_ple : ∀ (p : Pt) (i : Nat), okSet p i = true → PLe p (p.set i none)
  | [], i, h => by cases h
  | o :: p, 0, h => ⟨.inr ⟨rfl, by
      unfold okSet at h
      simp only [List.getElem?_cons_zero] at h
      cases o with
      | none => rfl
      | some c => exact h⟩, PLe.refl p⟩
  | o :: p, i + 1, h => ⟨.inl rfl, set_ple p i (by unfold okSet at h ⊢; simpa using h)⟩
theorem PLe.trans : ∀ {p q r : Pt}, PLe p q → PLe q r → PLe p r
  | [], [], [], _, _ => True.intro
  | o :: p, o' :: q, o'' :: r, h, k => ⟨by
      rcases k.1 with e | ⟨e, h2⟩
      · rw [e]; exact h.1
      · rcases h.1 with e1 | ⟨e1, h1⟩
        · rw [e1] at h2; exact .inr ⟨e, h2⟩
        · exact .inr ⟨e, h1⟩, PLe.trans h.2 k.2⟩
  | [], [], _ :: _, _, k => k.elim
  | [], _ :: _, _, h, _ => h.elim
  | _ :: _, [], _, h, _ => h.elim
  | _ :: _, _ :: _, [], _, k => k.elim
theorem forget_ple : ∀ (is : List Nat) (p : Pt), okForget p is = true → PLe p (forget p is)
  | [], p, _ => PLe.refl p
  | i :: is, p, h => by
    unfold okForget at h
    rw [List.all_cons, Bool.and_eq_true] at h
    refine (set_ple p i h.1).trans (forget_ple is (p.set i none) ?_)
    unfold okForget
    rw [List.all_eq_true]
    intro j hj
    exact okSet_set (List.all_eq_true.mp h.2 j hj)
theorem ple_forget {p q : Pt} (is : List Nat) (h : okForget p is = true) (e : q = forget p is) : PLe p q := by
  rw [e]; exact forget_ple is p h
section
variable {α β γ ρ S A : Type} {p q r : Pt} {K : ρ → O → Prop}
theorem g_ifJ {P : S → Pt} {t : DEnv → R Bool} {F G r : DEnv → O} {c : Bool} {u v : Ex S} {w : S → Ex ρ} (h : SimP p q t c) (hF : SimG (KN P) q F u) (hG : SimG (KN P) q G v) (hr : ∀ s, SimG K (P s) r (w s)) : SimG K p (oSeq (oIf t F G) r) ((if c = true then u else v : Ex S).bind w) := g_seq (P := P) (fun σ hσ => by
  obtain ⟨σ1, e1, g1⟩ := h σ hσ
  cases c with
  | true =>
    have := hF σ1 g1
    simp only [oIf, e1, R.thn, if_true]
    exact this
  | false =>
    have := hG σ1 g1
    simp only [oIf, e1, R.thn, if_false, Bool.false_eq_true]
    exact this) hr
theorem g_ifJE {P : A → S → Pt} {t : DEnv → R Bool} {F G r : DEnv → O} {tt : Ex A} {k : A → Bool × Pt} {u v : A → Ex S} {w : A → S → Ex ρ} (h : Sim p t tt k) (hF : ∀ a, SimG (KN (P a)) (k a).2 F (u a)) (hG : ∀ a, SimG (KN (P a)) (k a).2 G (v a)) (hr : ∀ a s, SimG K (P a s) r (w a s)) : SimG K p (oSeq (oIf t F G) r) (tt.bind fun a => (if (k a).1 = true then u a else v a : Ex S).bind (w a)) := g_thn h fun a => g_seq (P := P a) (fun σ hσ => by
  cases hc : (k a).1 with
  | true =>
    have := hF a σ hσ
    simp only [if_true]
    exact this
  | false =>
    have := hG a σ hσ
    simp only [if_false, Bool.false_eq_true]
    exact this) (hr a)
/-- x *= e, partial -/
theorem g_augA {i : Nat} {op : D → D → Option D} {f : DEnv → R D} {a b : D} {t : Ex α} {e : α → D} {r : DEnv → O} {u : α → Ex ρ} (hp : p[i]? = some (some (.val a))) (h : SimP p q f b) (ha : t.All fun c => op a b = some (e c)) (k : okSet q i = true) (hr : ∀ c, SimG K (q.set i (some (.val (e c)))) r (u c)) : SimG K p (oSeq (augF op i f) r) (t.bind u) := fun σ hσ => by
  cases t with
  | bad => exact True.intro
  | exc c => exact ha.elim
  | ok c => exact g_augP hp h ha k (hr c) σ hσ
theorem g_augE {i : Nat} {op : D → D → Option D} {f : DEnv → R D} {a : D} {tt : Ex A} {k : A → D × Pt} {t : A → Ex α} {e : α → D} {r : DEnv → O} {u : A → α → Ex ρ} (hp : p[i]? = some (some (.val a))) (h : Sim p f tt k) (ha : ∀ z, (t z).All fun c => op a (k z).1 = some (e c)) (ok : ∀ z, okSet (k z).2 i = true) (hr : ∀ z c, SimG K ((k z).2.set i (some (.val (e c)))) r (u z c)) : SimG K p (oSeq (augF op i f) r) (tt.bind fun z => (t z).bind (u z)) := fun σ hσ => by
  have h1 := h σ hσ
  cases tt with
  | bad => exact True.intro
  | exc c =>
    obtain ⟨σ1, e1⟩ := h1
    exact ⟨σ1, by simp only [oSeq, augF, hσ.at hp, e1, R.bind, R.thn, O.seq]⟩
  | ok z =>
    obtain ⟨σ1, e1, g1⟩ := h1
    simp only [Ex.bind_ok]
    have ha := ha z
    cases ht : t z with
    | bad => exact True.intro
    | exc c => rw [ht] at ha; exact ha.elim
    | ok c =>
      rw [ht] at ha
      simp only [Ex.bind_ok]
      have e2 : oSeq (augF op i f) r σ = r (σ1.set i (.val (e c))) := by
        simp only [oSeq, augF, hσ.at hp, e1, R.bind, R.thn, show op a (k z).1 = _ from ha, lift, setV, g1.setC (ok z), O.seq]
      rw [e2]
      exact hr z c _ (g1.setS i)
/-- and, or, if behind what is partial -/
theorem simP_andR {g : DEnv → R Bool} {a b : Bool} (h2 : SimP q q g b) : SimP q q (fun σ1 => if a = true then g σ1 else .ok false σ1) (a && b) := fun σ hσ => by
  cases a with
  | true => simpa using h2 σ hσ
  | false => exact ⟨σ, rfl, hσ⟩
theorem simP_orR {g : DEnv → R Bool} {a b : Bool} (h2 : SimP q q g b) : SimP q q (fun σ1 => if a = true then .ok true σ1 else g σ1) (a || b) := fun σ hσ => by
  cases a with
  | false => simpa using h2 σ hσ
  | true => exact ⟨σ, rfl, hσ⟩
theorem simP_vAndR {g : DEnv → R D} {a b : Bool} (h2 : SimP q q g (.bool b)) : SimP q q (fun σ1 => match (PyData.bool a) with
    | .bool true => g σ1
    | .bool false => .ok (.bool false) σ1
    | _ => .bad) (.bool (a && b)) := fun σ hσ => by
  cases a with
  | true => simpa using h2 σ hσ
  | false => exact ⟨σ, rfl, hσ⟩
theorem simP_vOrR {g : DEnv → R D} {a b : Bool} (h2 : SimP q q g (.bool b)) : SimP q q (fun σ1 => match (PyData.bool a) with
    | .bool true => .ok (.bool true) σ1
    | .bool false => g σ1
    | _ => .bad) (.bool (a || b)) := fun σ hσ => by
  cases a with
  | false => simpa using h2 σ hσ
  | true => exact ⟨σ, rfl, hσ⟩
theorem sim_andR {g : DEnv → R Bool} {a : Bool} {t : Ex α} {v : α → Bool} (h2 : Sim q g t (fun x => (v x, q))) : Sim q (fun σ1 => if a = true then g σ1 else .ok false σ1) (if a = true then t.bind fun x => .ok (v x) else .ok false) (fun b => (b, q)) := fun σ hσ => by
  cases a with
  | true => exact (h2.map (m := v) fun _ => rfl) σ hσ
  | false => exact ⟨σ, rfl, hσ⟩
theorem sim_orR {g : DEnv → R Bool} {a : Bool} {t : Ex α} {v : α → Bool} (h2 : Sim q g t (fun x => (v x, q))) : Sim q (fun σ1 => if a = true then .ok true σ1 else g σ1) (if a = true then .ok true else t.bind fun x => .ok (v x)) (fun b => (b, q)) := fun σ hσ => by
  cases a with
  | true => exact ⟨σ, rfl, hσ⟩
  | false => exact (h2.map (m := v) fun _ => rfl) σ hσ
theorem sim_vAndR {g : DEnv → R D} {a : Bool} {t : Ex α} {v : α → Bool} (h2 : Sim q g t (fun x => (.bool (v x), q))) : Sim q (fun σ1 => match (PyData.bool a) with
    | .bool true => g σ1
    | .bool false => .ok (.bool false) σ1
    | _ => .bad) (if a = true then t.bind fun x => .ok (v x) else .ok false) (fun b => (.bool b, q)) := fun σ hσ => by
  cases a with
  | true => exact (h2.map (m := v) fun _ => rfl) σ hσ
  | false => exact ⟨σ, rfl, hσ⟩
theorem sim_vOrR {g : DEnv → R D} {a : Bool} {t : Ex α} {v : α → Bool} (h2 : Sim q g t (fun x => (.bool (v x), q))) : Sim q (fun σ1 => match (PyData.bool a) with
    | .bool true => .ok (.bool true) σ1
    | .bool false => g σ1
    | _ => .bad) (if a = true then .ok true else t.bind fun x => .ok (v x)) (fun b => (.bool b, q)) := fun σ hσ => by
  cases a with
  | true => exact ⟨σ, rfl, hσ⟩
  | false => exact (h2.map (m := v) fun _ => rfl) σ hσ
theorem sim_iteR {f g : DEnv → R D} {c : Bool} {t u : Ex α} {k : α → D × Pt} (h2 : Sim q f t k) (h3 : Sim q g u k) : Sim q (fun σ1 => if c = true then f σ1 else g σ1) (if c = true then t else u) k := fun σ hσ => by
  cases c with
  | true => exact h2 σ hσ
  | false => exact h3 σ hσ
/-- a datum as a truth value -/
def boolE (d : D) : Ex Bool := match d with
  | .bool b => .ok b
  | _ => .bad
@[simp] theorem boolE_bool {b : Bool} : boolE (.bool b) = .ok b := rfl
theorem sim_boolE {d : D} : Sim p (fun σ => match d with
    | .bool b => R.ok b σ
    | _ => .bad) (boolE d) (fun b => (b, p)) := fun σ hσ => by
  cases d with
  | bool b => exact ⟨σ, rfl, hσ⟩
  | _ => exact True.intro
/-- a < b < c of any data -/
def chnE (op op' : D → D → Option D) (x y z : D) : Ex Bool := match op x y with
  | some (.bool true) => match op' y z with
    | some (.bool b) => .ok b
    | _ => .bad
  | some (.bool false) => .ok false
  | _ => .bad
theorem sim_chnDR {k : DEnv → R D} {op op' : D → D → Option D} {x y z : D} (h3 : SimP p p k z) : Sim p (fun σ2 => (lift (op x y) σ2).bind fun w σ3 => match w with
    | .bool true => (k σ3).bind fun u σ4 => lift (op' y u) σ4
    | .bool false => .ok (.bool false) σ3
    | _ => .bad) (chnE op op' x y z) (fun b => (.bool b, p)) := fun σ hσ => by
  unfold chnE
  cases e1 : op x y with
  | none => exact True.intro
  | some d =>
    cases d with
    | bool a =>
      cases a with
      | true =>
        simp only
        obtain ⟨σ1, e2, g2⟩ := h3 σ hσ
        cases e3 : op' y z with
        | none => exact True.intro
        | some d =>
          cases d with
          | bool b => exact ⟨σ1, by simp only [lift, R.bind, e2, e3], g2⟩
          | _ => exact True.intro
      | false => exact ⟨σ, by simp only [lift, R.bind], hσ⟩
    | _ => exact True.intro
theorem simP_chnR {k : DEnv → R D} {op op' : D → D → Option D} {x y z : D} {a b : Bool} (e1 : op x y = some (.bool a)) (h3 : SimP p p k z) (e2 : op' y z = some (.bool b)) : SimP p p (fun σ2 => (lift (op x y) σ2).bind fun w σ3 => match w with
    | .bool true => (k σ3).bind fun u σ4 => lift (op' y u) σ4
    | .bool false => .ok (.bool false) σ3
    | _ => .bad) (.bool (a && b)) := fun σ hσ => by
  cases a with
  | true =>
    obtain ⟨σ1, e3, g3⟩ := h3 σ hσ
    exact ⟨σ1, by simp only [e1, lift, R.bind, e3, e2, Bool.true_and], g3⟩
  | false => exact ⟨σ, by simp only [e1, lift, R.bind, Bool.false_and], hσ⟩
theorem sim_chnR {k : DEnv → R D} {op op' : D → D → Option D} {x y : D} {z : α → D} {a : Bool} {b : α → Bool} {t : Ex α} (e1 : op x y = some (.bool a)) (h3 : Sim p k t (fun w => (z w, p))) (e2 : ∀ w, op' y (z w) = some (.bool (b w))) : Sim p (fun σ2 => (lift (op x y) σ2).bind fun w σ3 => match w with
    | .bool true => (k σ3).bind fun u σ4 => lift (op' y u) σ4
    | .bool false => .ok (.bool false) σ3
    | _ => .bad) (if a = true then t.bind fun w => .ok (b w) else .ok false) (fun b => (.bool b, p)) := fun σ hσ => by
  cases a with
  | true =>
    have h4 := h3 σ hσ
    simp only [if_true]
    cases t with
    | bad => exact True.intro
    | exc c =>
      obtain ⟨σ1, e3⟩ := h4
      exact ⟨σ1, by simp only [e1, lift, R.bind, e3]⟩
    | ok w =>
      obtain ⟨σ1, e3, g3⟩ := h4
      exact ⟨σ1, by simp only [e1, lift, R.bind, e3, e2], g3⟩
  | false => exact ⟨σ, by simp only [e1, lift, R.bind], hσ⟩
theorem sim_some {f : DEnv → R D} {e : α → D} {o : Option α} (h : SimP p q f (eO e o)) : Sim p f (Ex.ofO o) (fun a => (e a, q)) := fun σ hσ => by
  cases o with
  | none => exact True.intro
  | some a => exact h σ hσ
theorem sim_someE {f : DEnv → R D} {e : α → D} {t : Ex A} {o : A → Option α} (h : Sim p f t (fun a => (eO e (o a), q))) : Sim p f (t.bind fun a => Ex.ofO (o a)) (fun a => (e a, q)) := fun σ hσ => by
  have h1 := h σ hσ
  cases t with
  | bad => exact True.intro
  | exc c => exact h1
  | ok a =>
    simp only [Ex.bind_ok]
    cases ho : o a with
    | none => exact True.intro
    | some b =>
      simp only [ho] at h1
      exact h1
/-- total calls -/
theorem simP_ans {x : Ans} {d : D} (h : x = .ok d) : SimP p p (fun σ1 => match x with
    | .ok d => .ok d σ1
    | .exc c => .exc c σ1
    | .bad => .bad) d := fun σ hσ => ⟨σ, by rw [h], hσ⟩
theorem sim_ansF {x : AnsF} {t : Ex α} {e : α → List D} (hF : RefF x t e) (hx : ∀ c, t ≠ .exc c) : Sim p (fun σ1 => match x with
    | .ok es => R.ok es σ1
    | .bad => .bad) t (fun a => (e a, p)) := fun σ hσ => by
  cases t with
  | ok a => exact ⟨σ, by rw [show x = _ from hF], hσ⟩
  | exc c => exact absurd rfl (hx c)
  | bad => exact True.intro
theorem sim_callTE {F : List D → List D → AnsT} {i : Nat} {fs : DEnv → R (List D)} {ds : A → List D} {tp : List D} {tq : A → List D} {t : Ex A} {k : A → List D × Pt} {u : A → Ex (α × List D)} {e : α → D} (hi : ∀ σ, Fits p σ → lstOf i σ = some tp) (h : Sim p fs t k) (hj : ∀ a σ, Fits (k a).2 σ → lstOf i σ = some (tq a))
    (hF : ∀ a, RefT (F (tq a) (k a).1) (u a) e) (hx : ∀ a c, u a ≠ .exc c) {Q : List D → Pt} (hp : ∀ a tr σ, Fits (k a).2 σ → Fits (Q tr) (putL i tr σ)) : Sim p (callT F i fs) (t.bind u) (fun a => (e a.1, Q a.2)) := fun σ hσ => by
  have h1 := h σ hσ
  cases t with
  | bad => exact True.intro
  | exc c =>
    obtain ⟨σ1, e1⟩ := h1
    exact ⟨σ1, by simp only [callT, hi σ hσ, e1, R.bind]⟩
  | ok a =>
    obtain ⟨σ1, e1, g1⟩ := h1
    simp only [Ex.bind_ok]
    cases hu : u a with
    | bad => exact True.intro
    | exc c => exact absurd hu (hx a c)
    | ok b =>
      have hF' := hF a
      rw [hu] at hF'
      exact ⟨putL i b.2 σ1, by simp only [callT, hi σ hσ, e1, R.bind, hj a σ1 g1, show F (tq a) (k a).1 = _ from hF'], hp a _ _ g1⟩
/-- behind a partial source -/
theorem sim_lcR {vs : List Nat} {ds : List D} {g : D → DEnv → Option DEnv} {t : DEnv → R Bool} {f : DEnv → R D} {T : Ex α} {k : α → List D × Pt} (h : Sim p (lc vs (fun σ => .ok ds σ) g t f) T k) : Sim p (fun σ1 => (lcF vs g t f ds [] (wipeD σ1 vs)).bind fun acc σ2 => .ok acc (backD σ1 σ2 vs)) T k := h
theorem sim_lc2R {vs vs1 : List Nat} {ds : List D} {g g1 : D → DEnv → Option DEnv} {t t1 : DEnv → R Bool} {src1 : DEnv → R (List D)} {f : DEnv → R D} {T : Ex α} {k : α → List D × Pt} (h : Sim p (lc2 vs vs1 (fun σ => .ok ds σ) g t src1 g1 t1 f) T k) : Sim p (fun σ1 => (lcF2 vs vs1 g t src1 g1 t1 f ds [] (wipeD σ1 vs)).bind fun acc σ2 => .ok acc (backD σ1 σ2 vs)) T k := h
theorem sim_qR {stop : Bool} {vs : List Nat} {ds : List D} {g : D → DEnv → Option DEnv} {f : DEnv → R D} {T : Ex α} {k : α → D × Pt} (h : Sim p (qE stop vs (fun σ => .ok ds σ) g f) T k) : Sim p (fun σ1 => match qF stop vs g f ds (wipeD σ1 vs) with
    | .ok b σ2 => .ok (.bool b) (backD σ1 σ2 vs)
    | _ => .bad) T k := h
theorem simP_qR {stop : Bool} {vs : List Nat} {ds : List D} {g : D → DEnv → Option DEnv} {f : DEnv → R D} {b : D} (h : SimP p q (qE stop vs (fun σ => .ok ds σ) g f) b) : SimP p q (fun σ1 => match qF stop vs g f ds (wipeD σ1 vs) with
    | .ok b σ2 => .ok (.bool b) (backD σ1 σ2 vs)
    | _ => .bad) b := h
theorem refT_noX {x : AnsT} {t : Ex (β × List D)} {e : β → D} (h : RefT x t e) : RefT x t.noX e := by
  cases t with
  | ok a => exact h
  | exc c => exact True.intro
  | bad => exact True.intro
theorem refF_noX {x : AnsF} {t : Ex β} {e : β → List D} (h : RefF x t e) : RefF x t.noX e := by
  cases t with
  | ok a => exact h
  | exc c => exact True.intro
  | bad => exact True.intro
end
end PL
set_option Elab.async false
set_option linter.all false
set_option maxRecDepth 100000
set_option maxHeartbeats 1000000
set_option autoImplicit false
/-! More of the typed layer: ranges with a step, enumerate, zip, stars, extend, sorted. -/
namespace PL
open PySem PySem.Spec PyProof.Rows L2
/-- a value, named (not unfolded by the elaborator) -/
@[irreducible] def Ex.put {α : Type} (a : α) : Ex α := .ok a
@[simp] theorem Ex.put_eq {α : Type} {a : α} : Ex.put a = .ok a := by unfold Ex.put; rfl
theorem SimP.put {α β : Type} {p : Pt} {f : DEnv → R β} {k : α → β × Pt} {a : α} (h : SimP p (k a).2 f (k a).1) : Sim p f (Ex.put a) k := by rw [Ex.put_eq]; exact SimP.sim h
section
variable {α β ρ A : Type} {p q : Pt} {e : α → D} {f : β → D}
theorem sim_callTG {F : List D → List D → AnsT} {i : Nat} {fs : DEnv → R (List D)} {tp : List D} {tq : A → List D} {t : Ex A} {k : A → List D × Pt} {u : A → Ex (α × List D)} {Q : List D → Pt} (hi : ∀ σ, Fits p σ → lstOf i σ = some tp) (h : Sim p fs t k) (hj : ∀ a σ, Fits (k a).2 σ → lstOf i σ = some (tq a))
    (hF : ∀ a, RefT (F (tq a) (k a).1) (u a) e) (hx : ∀ a c, u a ≠ .exc c) (hp : ∀ a tr σ, Fits (k a).2 σ → Fits (Q tr) (putL i tr σ)) : Sim p (callT F i fs) (t.bind u) (fun a => (e a.1, Q a.2)) := sim_callTE (ds := fun _ => []) hi h hj hF hx hp
/-! ### ranges with a step -/
def okR3 (i j c : Int) : Bool := decide (c ≠ 0) && decide (c.natAbs < 1073741824) && Builtin.Range.small i j c && decide (0 ≤ Builtin.Range.rangeSize i j c)
def ranS (i c : Int) (n : Nat) : List Int := (List.range n).map fun k : Nat => i + k * c
def rng3E (i j c : Int) : Ex (List Int) := Ex.guard (okR3 i j c) (ranS i c (Builtin.Range.rangeSize i j c).toNat)
theorem ranS_map {i c : Int} {n : Nat} : ((List.range n).map fun k : Nat => PyData.int (i + k * c)) = (ranS i c n).map eI := by simp [ranS]
theorem a_rng3 {i j c : Int} : (rng3E i j c).All fun l => rng3 [eI i, eI j, eI c] = some (l.map eI) := all_guard fun h => by
  simp only [okR3, Bool.and_eq_true, decide_eq_true_eq] at h
  show (if _ then _ else _) = _
  rw [if_pos ⟨h.1.1.1, h.1.1.2, h.1.2, h.2⟩, ranS_map]
/-- a range as a value: at most a million -/
def rgo1E (j : Int) : Ex (List Int) := Ex.guard (small62 j && decide (j.toNat ≤ 1000000)) (ranI 0 j.toNat)
def rgo2E (i j : Int) : Ex (List Int) := Ex.guard (small62 i && small62 j && decide ((j - i).toNat ≤ 1000000)) (ranI i (j - i).toNat)
def rgo3E (i j c : Int) : Ex (List Int) := Ex.guard (okR3 i j c && decide ((Builtin.Range.rangeSize i j c).toNat ≤ 1000000)) (ranS i c (Builtin.Range.rangeSize i j c).toNat)
theorem a_rgo1 {j : Int} : (rgo1E j).All fun l => rngO [eI j] = some (l.map eI) := all_guard fun h => by
  simp only [Bool.and_eq_true, decide_eq_true_eq] at h
  show (if _ then _ else _) = _
  rw [if_pos h, ran_map]
theorem a_rgo2 {i j : Int} : (rgo2E i j).All fun l => rngO [eI i, eI j] = some (l.map eI) := all_guard fun h => by
  simp only [Bool.and_eq_true, decide_eq_true_eq] at h
  show (if _ then _ else _) = _
  rw [if_pos ⟨h.1.1, h.1.2, h.2⟩, ran_map]
theorem a_rgo3 {i j c : Int} : (rgo3E i j c).All fun l => rngO [eI i, eI j, eI c] = some (l.map eI) := all_guard fun h => by
  simp only [okR3, Bool.and_eq_true, decide_eq_true_eq] at h
  show (if _ then _ else _) = _
  rw [if_pos ⟨h.1.1.1.1, h.1.1.1.2, h.1.1.2, h.1.2, h.2⟩, ranS_map]
/-! ### reversed, enumerate, zip, len -/
theorem simP_newRev {xs : List α} {σs : DEnv → R D} (h : SimP p q σs (eL e xs)) : SimP p q (newRev σs) ((xs.reverse).map e) := h.thenP fun σ hσ => ⟨σ, by simp [List.map_reverse], hσ⟩
theorem simP_rvR {xs : List α} : SimP p p (fun σ1 => match (eL e xs) with
  | .list ds => .ok ds.reverse σ1
  | _ => .bad) ((xs.reverse).map e) := fun σ hσ => ⟨σ, by simp [List.map_reverse], hσ⟩
def enumT {α : Type} (xs : List α) : List (Int × α) := xs.mapIdx fun i x => ((i : Int), x)
theorem enumD_map (xs : List α) : enumD (xs.map e) = (enumT xs).map (eP eI e) := by
  apply List.ext_getElem?
  intro i
  simp only [enumD, enumT, List.getElem?_map, List.getElem?_mapIdx]
  cases xs[i]? <;> rfl
theorem o_enumL {xs : List α} : enumS [eL e xs] = some ((enumT xs).map (eP eI e)) := by rw [← enumD_map]; rfl
theorem o_enumT {xs : List α} : enumS [eT e xs] = some ((enumT xs).map (eP eI e)) := by rw [← enumD_map]; rfl
theorem zipD_map : ∀ (xs : List α) (ys : List β), zipD (xs.map e) (ys.map f) = (xs.zip ys).map (eP e f)
  | [], _ => by simp [zipD]
  | _ :: _, [] => by simp [zipD]
  | x :: xs, y :: ys => by simp [zipD, zipD_map xs ys]
theorem simP_lenO {i : Nat} {xs : List α} (h : p[i]? = some (some (.own (xs.map e)))) : SimP p p (lenV i) (eI (xs.length : Int)) := fun σ hσ => ⟨σ, by simp only [lenV, lstOf, hσ.at h, List.length_map], hσ⟩
theorem simP_lenW {i : Nat} {ds : List D} (h : p[i]? = some (some (.own ds))) : SimP p p (lenV i) (eI (ds.length : Int)) := fun σ hσ => ⟨σ, by simp only [lenV, lstOf, hσ.at h], hσ⟩
theorem simP_lenT {i : Nat} {ds : List D} (h : p[i]? = some (some (.tap ds))) : SimP p p (lenV i) (eI (ds.length : Int)) := fun σ hσ => ⟨σ, by simp only [lenV, lstOf, hσ.at h], hσ⟩
theorem simP_lenL {i : Nat} {xs : List α} (h : p[i]? = some (some (.val (eL e xs)))) : SimP p p (lenV i) (eI (xs.length : Int)) := fun σ hσ => ⟨σ, by simp only [lenV, lstOf, hσ.at h, List.length_map], hσ⟩
/-! ### a tuple of parts that is not of a fixed size -/
def capT {α : Type} (l : List α) : Ex (List α) := Ex.guard (decide (l.length ≤ 1000)) l
theorem capT_ok {l : List α} (h : l.length ≤ 1000) : capT l = .ok l := by unfold capT; rw [decide_eq_true h]; rfl
theorem sim_mkT {ds : List D} {zs : List α} (h : ds = zs.map e) : Sim p (fun σ1 => if ds.length ≤ 1000 then .ok (PyData.tuple ds) σ1 else .bad) (capT zs) (fun l => (eT e l, p)) := fun σ hσ => by
  subst h
  unfold capT Ex.guard
  by_cases h : zs.length ≤ 1000
  · rw [if_pos (decide_eq_true h)]
    exact ⟨σ, by simp [h], hσ⟩
  · rw [if_neg (by simpa using h)]
    exact True.intro
theorem sim_chk {ds : List D} {zs : List α} (h : ds = zs.map e) : Sim p (fun σ1 => if ds.length ≤ 1000 then .ok ds σ1 else .bad) (capT zs) (fun l => (l.map e, p)) := fun σ hσ => by
  subst h
  unfold capT Ex.guard
  by_cases h : zs.length ≤ 1000
  · rw [if_pos (decide_eq_true h)]
    exact ⟨σ, by simp [h], hσ⟩
  · rw [if_neg (by simpa using h)]
    exact True.intro
/-! ### extend -/
variable {K : ρ → O → Prop}
def extE {α : Type} (xs ys : List α) : Ex (List α) := Ex.guard (decide (xs.length + ys.length ≤ 1000000)) (xs ++ ys)
theorem extE_ok {xs ys : List α} (h : xs.length + ys.length ≤ 1000000) : extE xs ys = .ok (xs ++ ys) := by unfold extE; rw [decide_eq_true h]; rfl
theorem g_extE {i : Nat} {fs : DEnv → R (List D)} {t : Ex A} {k : A → List D × Pt} {ys : A → List α} {xs : List α} {r : DEnv → O} {u : A → List α → Ex ρ} (h0 : ∃ ds, p[i]? = some (some (.own ds))) (h : Sim p fs t k) (hk : ∀ a, (k a).1 = (ys a).map e) (hq : ∀ a, (k a).2[i]? = some (some (.own (xs.map e))))
    (hr : ∀ a (l : List α), SimG K ((k a).2.set i (some (.own (l.map e)))) r (u a l)) : SimG K p (oSeq (oExt i fs) r) (t.bind fun a => (extE xs (ys a)).bind (u a)) := fun σ hσ => by
  obtain ⟨ds, h0⟩ := h0
  have h1 := h σ hσ
  cases t with
  | ok a =>
    obtain ⟨σ1, e1, g1⟩ := h1
    simp only [Ex.bind_ok]
    unfold extE Ex.guard
    by_cases hl : xs.length + (ys a).length ≤ 1000000
    · simp only [hl, decide_true, if_true, Ex.bind_ok]
      have e2 : oSeq (oExt i fs) r σ = r (σ1.set i (.own ((xs ++ ys a).map e))) := by
        simp only [oSeq, oExt, lstOf, hσ.at h0, e1, hk a, R.thn, extL, g1.at (hq a), List.length_map, hl, if_true, O.seq, putL, List.map_append]
      rw [e2]
      exact hr _ _ _ (g1.set i rfl)
    · simp only [hl, decide_false, Bool.false_eq_true, if_false, Ex.bind_bad]
  | exc c =>
    obtain ⟨σ1, e1⟩ := h1
    exact ⟨σ1, by simp only [oSeq, oExt, lstOf, hσ.at h0, e1, R.thn, O.seq]⟩
  | bad => exact True.intro
theorem g_extP {i : Nat} {fs : DEnv → R (List D)} {ys : List α} {xs : List α} {r : DEnv → O} {u : List α → Ex ρ} (h0 : ∃ ds, p[i]? = some (some (.own ds))) (h : SimP p q fs (ys.map e)) (hq : q[i]? = some (some (.own (xs.map e))))
    (hr : ∀ l : List α, SimG K (q.set i (some (.own (l.map e)))) r (u l)) : SimG K p (oSeq (oExt i fs) r) ((extE xs ys).bind u) :=
  g_extE (A := Unit) (t := .ok ()) (k := fun _ => (ys.map e, q)) (ys := fun _ => ys) (u := fun _ => u) h0 (fun σ hσ => h σ hσ) (fun _ => rfl) (fun _ => hq) fun _ => hr
/-! ### x[k] = e, parts drawn -/
theorem g_lst {i : Nat} {F r : DEnv → O} {t : Ex ρ} (h0 : ∃ ds, p[i]? = some (some (.own ds))) (h : SimG K p (oSeq F r) t) : SimG K p (oSeq (fun σ1 => match lstOf i σ1 with
  | some _ => F σ1
  | none => .bad) r) t := fun σ hσ => by
  obtain ⟨ds, h0⟩ := h0
  have := h σ hσ
  simp only [oSeq, lstOf, hσ.at h0] at this ⊢
  exact this
theorem g_stoL {i : Nat} {xs : List α} {x : α} {z : Int} {r : DEnv → O} {u : List α → Ex ρ} (hq : p[i]? = some (some (.own (xs.map e)))) (hr : ∀ l : List α, SimG K (p.set i (some (.own (l.map e)))) r (u l)) : SimG K p (oSeq (stoL i (.int z) (e x)) r) ((stoE xs z x).bind u) := fun σ hσ => by
  unfold stoE
  cases hj : ixN xs.length z with
  | none => exact True.intro
  | some j =>
    simp only [Ex.bind_ok]
    have e3 : oSeq (stoL i (.int z) (e x)) r σ = r (σ.set i (.own ((xs.set j x).map e))) := by
      simp only [oSeq, lstOf, stoL, hσ.at hq, ixD, List.length_map, hj, O.seq, putL, map_set]
    rw [e3]
    exact hr _ _ (hσ.set i rfl)
/-! ### sorted -/
/-- what stands before, by the data -/
def leT {α : Type} (e : α → D) (a b : α) : Bool := PySem.W.dataLe false id (e a) (e b)
def srtE {α : Type} (e : α → D) (xs : List α) : Ex (List α) := Ex.guard (okSort (xs.map e)) (xs.mergeSort (leT e))
theorem a_srt {xs : List α} : (srtE e xs).All fun l => cSorted [eL e xs] = some (eL e l) := all_guard fun h => by
  show Option.map _ (if okSort (xs.map e) = true then _ else _) = _
  rw [if_pos h]
  show some (PyData.list (sortD (xs.map e))) = _
  unfold sortD
  rw [← List.map_mergeSort (r := leT e) (s := PySem.W.dataLe false id) (fun a _ b _ => rfl)]
/-- .. of pairs of whole numbers -/
theorem lexI {a b : Int} {l m : List (Int ⊕ List Nat)} : PyProof.Rows.lexLt PyProof.Rows.itemOrd (.inl a :: l) (.inl b :: m) = (decide (a < b) || (decide (a = b) && PyProof.Rows.lexLt PyProof.Rows.itemOrd l m)) := by
  by_cases h : a = b
  · subst h
    rw [PyProof.Rows.lex_self (O := PyProof.Rows.itemOrd)]
    simp
  · rw [PySem.W.lex_atom (by intro z; cases z; exact h rfl)]
    simp [h, PyProof.Rows.lexLt, PyProof.Rows.itemLt]
end
end PL
set_option Elab.async false
set_option linter.all false
set_option maxRecDepth 100000
set_option maxHeartbeats 1000000
set_option autoImplicit false
/-! sorted, of typed lists: the order is one of data; an insertion sort gives the same. -/
namespace PL
open PySem PySem.Spec PyProof.Rows L2
section
variable {α β : Type} {e : α → D} {f : β → D}
theorem leT_total (a b : α) : (leT e a b || leT e b a) = true := by
  have := (PySem.W.sortLe_total (PyProof.Rows.listOrd PyProof.Rows.itemOrd) false fun d : D => PySem.W.keyToks d).total (e a) (e b)
  exact Bool.or_eq_true_iff.mpr this
theorem leT_trans (a b c : α) : leT e a b = true → leT e b c = true → leT e a c = true :=
  (PySem.W.sortLe_total (PyProof.Rows.listOrd PyProof.Rows.itemOrd) false fun d : D => PySem.W.keyToks d).trans (e a) (e b) (e c)
/-- the signs of a datum tell where it ends -/
def PF (e : α → D) : Prop := ∀ a b l m, PySem.W.keyToks (e a) ++ l = PySem.W.keyToks (e b) ++ m → a = b ∧ l = m
theorem pf_int : PF eI := fun a b l m h => by
  simp only [PySem.W.keyToks, List.cons_append, List.nil_append, List.cons.injEq, Sum.inl.injEq] at h
  exact h
theorem pf_pair (h : PF e) (k : PF f) : PF (eP e f) := fun a b l m q => by
  simp only [PySem.W.keyToks, PySem.W.keyToksAll, List.cons_append, List.append_assoc, List.nil_append, List.cons.injEq, true_and] at q
  obtain ⟨h1, q⟩ := h _ _ _ _ q
  simp only [List.cons.injEq, true_and] at q
  obtain ⟨h2, q⟩ := k _ _ _ _ q
  simp only [List.cons.injEq, true_and] at q
  exact ⟨Prod.ext h1 h2, q⟩
theorem pf_all (h : PF e) : ∀ (xs ys : List α) l m, PySem.W.keyToksAll (xs.map e) ++ l = PySem.W.keyToksAll (ys.map e) ++ m → xs = ys ∧ l = m
  | [], [], l, m, q => by
    simp only [List.map_nil, PySem.W.keyToksAll, List.cons_append, List.nil_append, List.cons.injEq, true_and] at q
    exact ⟨rfl, q⟩
  | [], y :: ys, l, m, q => by
    simp [PySem.W.keyToksAll] at q
  | x :: xs, [], l, m, q => by
    simp [PySem.W.keyToksAll] at q
  | x :: xs, y :: ys, l, m, q => by
    simp only [List.map_cons, PySem.W.keyToksAll, List.cons_append, List.append_assoc, List.cons.injEq, true_and] at q
    obtain ⟨h1, q⟩ := h _ _ _ _ q
    obtain ⟨h2, q⟩ := pf_all h xs ys l m q
    exact ⟨by rw [h1, h2], q⟩
theorem pf_tup (h : PF e) : PF (eT e) := fun a b l m q => pf_all h a b l m q
theorem pf_list (h : PF e) : PF (eL e) := fun a b l m q => pf_all h a b l m q
theorem leT_anti (h : PF e) {a b : α} (h1 : leT e a b = true) (h2 : leT e b a = true) : a = b := by
  by_cases q : PySem.W.keyToks (e a) = PySem.W.keyToks (e b)
  · exact (h a b [] [] (by rw [q])).1
  · have h1 : (!PyProof.Rows.lexLt PyProof.Rows.itemOrd (PySem.W.keyToks (e b)) (PySem.W.keyToks (e a))) = true := h1
    have h2 : (!PyProof.Rows.lexLt PyProof.Rows.itemOrd (PySem.W.keyToks (e a)) (PySem.W.keyToks (e b))) = true := h2
    have := PyProof.Rows.lex_total (O := PyProof.Rows.itemOrd) (PySem.W.keyToks (e a)) (PySem.W.keyToks (e b))
    simp_all
/-- an insertion sort -/
def insT (le : α → α → Bool) (a : α) : List α → List α
  | [] => [a]
  | b :: l => if le a b = true then a :: b :: l else b :: insT le a l
def isoT (le : α → α → Bool) : List α → List α
  | [] => []
  | a :: l => insT le a (isoT le l)
theorem insT_perm {le : α → α → Bool} {a : α} : ∀ l : List α, (insT le a l).Perm (a :: l)
  | [] => .refl _
  | b :: l => by
    unfold insT
    split
    · exact .refl _
    · exact (List.Perm.cons b (insT_perm l)).trans (List.Perm.swap a b l)
theorem isoT_perm {le : α → α → Bool} : ∀ l : List α, (isoT le l).Perm l
  | [] => .refl _
  | a :: l => (insT_perm _).trans ((isoT_perm l).cons a)
theorem insT_sorted {a : α} : ∀ {l : List α}, l.Pairwise (fun x y => leT e x y = true) → (insT (leT e) a l).Pairwise fun x y => leT e x y = true
  | [], _ => List.pairwise_singleton _ _
  | b :: l, h => by
    unfold insT
    rw [List.pairwise_cons] at h
    split
    · rename_i q
      refine List.pairwise_cons.mpr ⟨fun c hc => ?_, List.pairwise_cons.mpr h⟩
      rcases List.mem_cons.mp hc with rfl | hc
      · exact q
      · exact leT_trans _ _ _ q (h.1 c hc)
    · rename_i q
      refine List.pairwise_cons.mpr ⟨fun c hc => ?_, insT_sorted h.2⟩
      rcases List.mem_cons.mp ((insT_perm l).mem_iff.mp hc) with rfl | hc
      · have := leT_total (e := e) c b
        rw [show leT e c b = false by simpa using q] at this
        simpa using this
      · exact h.1 c hc
theorem isoT_sorted : ∀ l : List α, (isoT (leT e) l).Pairwise fun x y => leT e x y = true
  | [] => .nil
  | a :: l => insT_sorted (isoT_sorted l)
theorem srt_uniq (h : PF e) {xs ys : List α} (p : ys.Perm xs) (s : ys.Pairwise fun x y => leT e x y = true) : xs.mergeSort (leT e) = ys :=
  List.Perm.eq_of_pairwise (fun a b _ _ h1 h2 => leT_anti h h1 h2) (List.pairwise_mergeSort leT_trans leT_total xs) s ((List.mergeSort_perm xs (leT e)).trans p.symm)
theorem srt_iso (h : PF e) (xs : List α) : xs.mergeSort (leT e) = isoT (leT e) xs := srt_uniq h (isoT_perm xs) (isoT_sorted xs)
/-! what sorted takes -/
def Alk (e : α → D) : Prop := ∀ a b, PySem.W.alike (e a) (e b) = true
theorem alk_int : Alk eI := fun a b => rfl
theorem alk_pair (h : Alk e) (k : Alk f) : Alk (eP e f) := fun a b => by
  show (PySem.W.alike _ _ && (PySem.W.alike _ _ && true)) = true
  rw [h, k]; rfl
theorem alk_all (h : Alk e) : ∀ xs ys : List α, PySem.W.alikeAll (xs.map e) (ys.map e) = true
  | [], _ => by cases ‹List α› <;> rfl
  | _ :: _, [] => rfl
  | x :: xs, y :: ys => by
    show (PySem.W.alike _ _ && PySem.W.alikeAll _ _) = true
    rw [h, alk_all h xs ys]; rfl
theorem alk_tup (h : Alk e) : Alk (eT e) := fun a b => alk_all h a b
theorem okSort_of (h : Alk e) {xs : List α} (ht : ((xs.map e).all isTC || (xs.map e).all isNT) = true) (hd : ∀ x ∈ xs, (e x).depth ≤ 60) (hl : xs.length ≤ 1000000) : okSort (xs.map e) = true := by
  unfold okSort
  simp only [Bool.and_eq_true, List.all_eq_true, List.mem_map, decide_eq_true_eq, forall_exists_index, and_imp, forall_apply_eq_imp_iff₂]
  refine ⟨⟨⟨fun a _ b _ => h a b, by simpa using ht⟩, hd⟩, by simpa using hl⟩
/-- sorted, in a form that computes -/
def okK (ds : List D) : Bool := (ds.all isTC || ds.all isNT) && (ds.all fun d => decide (d.depth ≤ 60)) && decide (ds.length ≤ 1000000)
def srtK {α : Type} (e : α → D) (xs : List α) : Ex (List α) := Ex.guard (okK (xs.map e)) (isoT (leT e) xs)
theorem srtE_K (h : PF e) (k : Alk e) : srtE e = srtK e := by
  funext xs
  unfold srtE srtK
  rw [srt_iso h]
  congr 1
  unfold okSort okK
  rw [show ((xs.map e).all fun a => (xs.map e).all fun b => PySem.W.alike a b) = true by
    simp only [List.all_eq_true, List.mem_map, forall_exists_index, and_imp, forall_apply_eq_imp_iff₂]
    exact fun a _ b _ => k a b]
  rw [Bool.true_and]
end
end PL
set_option Elab.async false
set_option linter.all false
set_option maxRecDepth 100000
set_option maxHeartbeats 1000000
set_option autoImplicit false
/-! Dicts in the typed layer; min, max, sum. -/
namespace PL
open PySem PySem.Spec PyProof.Rows L2
section
variable {α β γ ρ A : Type} {p q r : Pt} {ek : α → D} {ev : β → D} [DecidableEq α]
@[reducible] def eKV {α β : Type} (ek : α → D) (ev : β → D) : α × β → D × D := fun x => (ek x.1, ev x.2)
/-- a kind of keys -/
structure KeyE [DecidableEq α] (ek : α → D) : Prop where
  eq : ∀ a b, kEq (ek a) (ek b) = decide (a = b)
  ok : ∀ a, (keyD (ek a)).isSome = true
theorem key_int : KeyE eI := ⟨fun a b => by simp [kEq, keyN], fun _ => rfl⟩
theorem key_str : KeyE eS := ⟨fun a b => by simp [kEq, keyN], fun _ => rfl⟩
def getT (xs : List (α × β)) (k : α) : Option β := (xs.find? fun x => decide (x.1 = k)).map (·.2)
def hasT (xs : List (α × β)) (k : α) : Bool := xs.any fun x => decide (x.1 = k)
def putT (xs : List (α × β)) (k : α) (v : β) : List (α × β) := if hasT xs k = true then xs.map (fun x => if x.1 = k then (x.1, v) else x) else xs ++ [(k, v)]
theorem get_map (h : KeyE ek) (k : α) : ∀ xs : List (α × β), dGet (xs.map (eKV ek ev)) (ek k) = (getT xs k).map ev
  | [] => rfl
  | x :: xs => by
    have ih := get_map h k xs
    unfold dGet getT at ih ⊢
    rw [List.map_cons, List.find?_cons, List.find?_cons]
    show (match kEq (ek x.1) (ek k) with | true => some (eKV ek ev x) | false => _).map _ = _
    rw [h.eq]
    cases decide (x.1 = k) with
    | true => rfl
    | false => exact ih
theorem has_map (h : KeyE ek) (k : α) : ∀ xs : List (α × β), dHas (xs.map (eKV ek ev)) (ek k) = hasT xs k
  | [] => rfl
  | x :: xs => by
    have ih := has_map h k xs
    unfold dHas hasT at ih ⊢
    rw [List.map_cons, List.any_cons, List.any_cons, ih, h.eq]
theorem put_map (h : KeyE ek) (k : α) (v : β) (xs : List (α × β)) : dPutD (xs.map (eKV ek ev)) (ek k) (ev v) = (putT xs k v).map (eKV ek ev) := by
  unfold dPutD putT
  rw [has_map h]
  split
  · rw [List.map_map, List.map_map]
    refine List.map_congr_left fun x _ => ?_
    simp only [Function.comp]
    rw [h.eq]
    by_cases e : x.1 = k
    · rw [if_pos (decide_eq_true e), if_pos e]
    · rw [if_neg (by simpa using e), if_neg e]
  · rw [List.map_append]; rfl
theorem dic_at {i : Nat} {lk : Bool} {kvs : List (D × D)} {σ : DEnv} (h : p[i]? = some (some (.dic lk kvs))) (hσ : Fits p σ) : dicOf i σ = some (lk, kvs) := by simp only [dicOf, hσ.at h]
/-- x[k] -/
theorem sim_dg {i : Nat} {lk lk' : Bool} {kvs : List (D × D)} {xs : List (α × β)} {g : DEnv → R D} {k : α} (hk : KeyE ek) (hp : p[i]? = some (some (.dic lk kvs))) (hg : SimP p q g (ek k)) (hq : q[i]? = some (some (.dic lk' (xs.map (eKV ek ev))))) :
    Sim p (dgV i g) (Ex.ofO (getT xs k)) (fun v => (ev v, q)) := fun σ hσ => by
  obtain ⟨σ1, e1, g1⟩ := hg σ hσ
  cases e : getT xs k with
  | none => exact True.intro
  | some v =>
    refine ⟨σ1, ?_, g1⟩
    simp only [dgV, dic_at hp hσ, e1, R.bind, dic_at hq g1, hk.ok, if_true, get_map hk, e, Option.map_some, lift]
theorem sim_dgE {i : Nat} {lk lk' : Bool} {kvs : List (D × D)} {xs : List (α × β)} {g : DEnv → R D} {t : Ex A} {kk : A → D × Pt} {k : A → α} (hk : KeyE ek) (hp : p[i]? = some (some (.dic lk kvs))) (hg : Sim p g t kk) (he : ∀ a, (kk a).1 = ek (k a)) (hq : ∀ a, (kk a).2[i]? = some (some (.dic lk' (xs.map (eKV ek ev))))) {k2 : A → β → D × Pt} (h2 : ∀ a v, k2 a v = (ev v, (kk a).2)) :
    Sim p (dgV i g) (t.bind fun a => (Ex.ofO (getT xs (k a))).bind fun v => .ok (a, v)) (fun x => k2 x.1 x.2) := fun σ hσ => by
  have h1 := hg σ hσ
  cases t with
  | bad => exact True.intro
  | exc c =>
    obtain ⟨σ1, e1⟩ := h1
    exact ⟨σ1, by simp only [dgV, dic_at hp hσ, e1, R.bind]⟩
  | ok a =>
    obtain ⟨σ1, e1, g1⟩ := h1
    simp only [Ex.bind_ok]
    cases e : getT xs (k a) with
    | none => exact True.intro
    | some v =>
      refine ⟨σ1, ?_, by rw [h2]; exact g1⟩
      simp only [dgV, dic_at hp hσ, e1, R.bind, dic_at (hq a) g1, he a, hk.ok, if_true, get_map hk, e, Option.map_some, lift, h2]
/-- k in x -/
theorem simP_din {neg : Bool} {i : Nat} {lk : Bool} {xs : List (α × β)} {g : DEnv → R D} {k : α} (hk : KeyE ek) (hg : SimP p q g (ek k)) (hq : q[i]? = some (some (.dic lk (xs.map (eKV ek ev))))) :
    SimP p q (dinV neg i g) (eB (if neg = true then !hasT xs k else hasT xs k)) := fun σ hσ => by
  obtain ⟨σ1, e1, g1⟩ := hg σ hσ
  exact ⟨σ1, by simp only [dinV, e1, R.bind, dic_at hq g1, hk.ok, if_true, has_map hk], g1⟩
theorem simP_dlen {i : Nat} {lk : Bool} {xs : List (α × β)} (hp : p[i]? = some (some (.dic lk (xs.map (eKV ek ev))))) : SimP p p (dlenV i) (eI (xs.length : Int)) := fun σ hσ => ⟨σ, by simp only [dlenV, dic_at hp hσ, List.length_map], hσ⟩
/-- x.get(k), x.get(k, e) -/
theorem simP_dget1 {i : Nat} {lk lk' : Bool} {kvs : List (D × D)} {xs : List (α × β)} {g : DEnv → R D} {k : α} (hk : KeyE ek) (hp : p[i]? = some (some (.dic lk kvs))) (hg : SimP p q g (ek k)) (hq : q[i]? = some (some (.dic lk' (xs.map (eKV ek ev))))) :
    SimP p q (dget1V i g) (eO ev (getT xs k)) := fun σ hσ => by
  obtain ⟨σ1, e1, g1⟩ := hg σ hσ
  refine ⟨σ1, ?_, g1⟩
  simp only [dget1V, dic_at hp hσ, e1, R.bind, dic_at hq g1, hk.ok, if_true, get_map hk]
  cases getT xs k <;> rfl
theorem simP_dget2 {i : Nat} {lk lk' : Bool} {kvs : List (D × D)} {xs : List (α × β)} {g f : DEnv → R D} {k : α} {d : β} (hk : KeyE ek) (hp : p[i]? = some (some (.dic lk kvs))) (hg : SimP p q g (ek k)) (hf : SimP q r f (ev d)) (hr : r[i]? = some (some (.dic lk' (xs.map (eKV ek ev))))) :
    SimP p r (dget2V i g f) (ev ((getT xs k).getD d)) := fun σ hσ => by
  obtain ⟨σ1, e1, g1⟩ := hg σ hσ
  obtain ⟨σ2, e2, g2⟩ := hf σ1 g1
  refine ⟨σ2, ?_, g2⟩
  simp only [dget2V, dic_at hp hσ, e1, R.bind, e2, dic_at hr g2, hk.ok, if_true, get_map hk]
  cases getT xs k <;> rfl
/-! ### statements -/
variable {K : ρ → O → Prop}
theorem g_dnew {i : Nat} {r : DEnv → O} {u : Ex ρ} (k : okSet p i = true) (hr : SimG K (p.set i (some (.dic false []))) r u) : SimG K p (oSeq (setDic i []) r) u :=
  g_seqP (q := p.set i (some (.dic false []))) (fun σ hσ => ⟨σ.set i (.dic false []), by simp only [setDic, hσ.setC k], hσ.set i rfl⟩) hr
theorem g_dic1 {i : Nat} {q1 q2 : Pt} {g f : DEnv → R D} {k : α} {v : β} {r : DEnv → O} {u : Ex ρ} (hk : KeyE ek) (hg : SimP p q1 g (ek k)) (hf : SimP q1 q2 f (ev v)) (ok : okSet q2 i = true) (hr : SimG K (q2.set i (some (.dic false (List.map (eKV ek ev) [(k, v)])))) r u) : SimG K p (oSeq (oDic1 i g f) r) u :=
  g_seqP (q := q2.set i (some (.dic false (List.map (eKV ek ev) [(k, v)])))) (fun σ hσ => by
    obtain ⟨σ1, e1, g1⟩ := hg σ hσ
    obtain ⟨σ2, e2, g2⟩ := hf σ1 g1
    exact ⟨σ2.set i (.dic false (List.map (eKV ek ev) [(k, v)])), by simp only [oDic1, e1, calmR, R.thn, e2, hk.ok, if_true, setDic, g2.setC ok]; rfl, g2.set i rfl⟩) hr
def putE {α β : Type} [DecidableEq α] (xs : List (α × β)) (k : α) (v : β) : Ex (List (α × β)) := Ex.guard (decide (xs.length < 1000000)) (putT xs k v)
theorem putE_ok {xs : List (α × β)} {k : α} {v : β} (h : xs.length < 1000000) : putE xs k v = .ok (putT xs k v) := by unfold putE; rw [decide_eq_true h]; rfl
theorem g_putD {i : Nat} {k : α} {v : β} {xs : List (α × β)} {r : DEnv → O} {u : List (α × β) → Ex ρ} (hk : KeyE ek) (hq : p[i]? = some (some (.dic false (xs.map (eKV ek ev))))) (hr : ∀ l : List (α × β), SimG K (p.set i (some (.dic false (l.map (eKV ek ev))))) r (u l)) :
    SimG K p (oSeq (putDic i (ek k) (ev v)) r) ((putE xs k v).bind u) := fun σ hσ => by
  unfold putE Ex.guard
  by_cases hl : xs.length < 1000000
  · simp only [hl, decide_true, if_true, Ex.bind_ok]
    have e3 : oSeq (putDic i (ek k) (ev v)) r σ = r (σ.set i (.dic false ((putT xs k v).map (eKV ek ev)))) := by
      simp only [oSeq, putDic, dic_at hq hσ, hk.ok, List.length_map, hl, and_self, if_true, put_map hk, O.seq]
    rw [e3]
    exact hr _ _ (hσ.set i rfl)
  · simp only [hl, decide_false, Bool.false_eq_true, if_false, Ex.bind_bad]
theorem g_dic {i : Nat} {F r : DEnv → O} {t : Ex ρ} (h0 : ∃ l ds, p[i]? = some (some (.dic l ds))) (h : SimG K p (oSeq F r) t) : SimG K p (oSeq (fun σ1 => match dicOf i σ1 with
  | some _ => F σ1
  | none => .bad) r) t := fun σ hσ => by
  obtain ⟨l, ds, h0⟩ := h0
  have := h σ hσ
  simp only [oSeq, dic_at h0 hσ] at this ⊢
  exact this
/-! ### walked under a lock -/
theorem simP_dkeys {i : Nat} {xs : List (α × β)} (hp : p[i]? = some (some (.dic true (xs.map (eKV ek ev))))) : SimP p p (dkeysV i) ((xs.map (·.1)).map ek) := fun σ hσ => ⟨σ, by simp only [dkeysV, dic_at hp hσ, List.map_map]; rfl, hσ⟩
theorem sim_lock {i : Nat} {kvs : List (D × D)} {f : DEnv → R γ} {t : Ex A} {k : A → γ × Pt} (hp : p[i]? = some (some (.dic false kvs))) (h : Sim (p.set i (some (.dic true kvs))) f t k) (hk : ∀ a, (k a).2[i]? = some (some (.dic true kvs))) (hx : ∀ c, t ≠ .exc c) :
    Sim p (lockV i f) t (fun a => ((k a).1, (k a).2.set i (some (.dic false kvs)))) := fun σ hσ => by
  have h1 := h (σ.set i (.dic true kvs)) (hσ.set i rfl)
  cases t with
  | bad => exact True.intro
  | exc c => exact absurd rfl (hx c)
  | ok a =>
    obtain ⟨σ1, e1, g1⟩ := h1
    refine ⟨σ1.set i (.dic false kvs), ?_, g1.set i rfl⟩
    simp only [lockV, dic_at hp hσ, e1, dic_at (hk a) g1]
theorem sim_lockN {i : Nat} {kvs : List (D × D)} {f : DEnv → R γ} {t : Ex A} {k : A → γ × Pt} (hp : p[i]? = some (some (.dic false kvs))) (h : Sim (p.set i (some (.dic true kvs))) f t k) (hk : ∀ a, (k a).2[i]? = some (some (.dic true kvs))) :
    Sim p (lockV i f) t.noX (fun a => ((k a).1, (k a).2.set i (some (.dic false kvs)))) := fun σ hσ => by
  have h1 := h (σ.set i (.dic true kvs)) (hσ.set i rfl)
  cases t with
  | bad => exact True.intro
  | exc c => exact True.intro
  | ok a =>
    obtain ⟨σ1, e1, g1⟩ := h1
    refine ⟨σ1.set i (.dic false kvs), ?_, g1.set i rfl⟩
    simp only [lockV, dic_at hp hσ, e1, dic_at (hk a) g1]
theorem sim_callS {F : List D → List D → AnsT} {i : Nat} {fs : DEnv → R (List D)} {ds tp tq : List D} {t : Ex (γ × List D)} {e : γ → D} {Q : List D → Pt} (hi : ∀ σ, Fits p σ → lstOf i σ = some tp) (h : SimP p q fs ds) (hj : ∀ σ, Fits q σ → lstOf i σ = some tq)
    (hF : RefT (F tq ds) t e) (hx : ∀ c, t ≠ .exc c) (hp : ∀ tr σ, Fits q σ → Fits (Q tr) (putL i tr σ)) : Sim p (callT F i fs) t (fun a => (e a.1, Q a.2)) := sim_callT hi h hj hF hx hp
/-- x in xs, by one instance -/
def memT {α : Type} [DecidableEq α] (x : α) (xs : List α) : Bool := decide (x ∈ xs)
theorem memT_eq {α : Type} [DecidableEq α] {x : α} {xs : List α} : memT x xs = decide (x ∈ xs) := rfl
theorem m_inL {e : α → D} {n : Nat} {x : α} {xs : List α} (h : EqE e n) (hn : decide (n ≤ 60) = true) : dIn (e x) (eL e xs) = some (eB (memT x xs)) := o_inL h hn
theorem m_inT {e : α → D} {n : Nat} {x : α} {xs : List α} (h : EqE e n) (hn : decide (n ≤ 60) = true) : dIn (e x) (eT e xs) = some (eB (memT x xs)) := o_inT h hn
theorem m_ninL {e : α → D} {n : Nat} {x : α} {xs : List α} (h : EqE e n) (hn : decide (n ≤ 60) = true) : dNotIn (e x) (eL e xs) = some (eB (!memT x xs)) := o_ninL h hn
theorem m_ninT {e : α → D} {n : Nat} {x : α} {xs : List α} (h : EqE e n) (hn : decide (n ≤ 60) = true) : dNotIn (e x) (eT e xs) = some (eB (!memT x xs)) := o_ninT h hn
/-- an operation that gives a truth value -/
def opB (o : Option D) : Ex Bool := match o with
  | some (.bool c) => .ok c
  | _ => .bad
theorem a_opB {o : Option D} : (opB o).All fun c => o = some (eB c) := by
  cases o with
  | none => exact True.intro
  | some d => cases d <;> first | exact True.intro | rfl
@[simp] theorem opB_some {c : Bool} : opB (some (.bool c)) = .ok c := rfl
/-! ### min, max, sum -/
def minT {α : Type} (e : α → D) : List α → Ex α
  | [] => .bad
  | x :: xs => Ex.guard (okCmp ((x :: xs).map e)) (xs.foldl (fun a y => if PySem.W.dataLt (e y) (e a) = true then y else a) x)
def maxT {α : Type} (e : α → D) : List α → Ex α
  | [] => .bad
  | x :: xs => Ex.guard (okCmp ((x :: xs).map e)) (xs.foldl (fun a y => if PySem.W.dataLt (e a) (e y) = true then y else a) x)
theorem minD_map {e : γ → D} (x : γ) (xs : List γ) : PySem.W.minD (e x) (xs.map e) = e (xs.foldl (fun a y => if PySem.W.dataLt (e y) (e a) = true then y else a) x) := by
  unfold PySem.W.minD
  induction xs generalizing x with
  | nil => rfl
  | cons y ys ih =>
    rw [List.map_cons, List.foldl_cons, List.foldl_cons, ← ih]
    congr 1
    split <;> rfl
theorem maxD_map {e : γ → D} (x : γ) (xs : List γ) : PySem.W.maxD (e x) (xs.map e) = e (xs.foldl (fun a y => if PySem.W.dataLt (e a) (e y) = true then y else a) x) := by
  unfold PySem.W.maxD
  induction xs generalizing x with
  | nil => rfl
  | cons y ys ih =>
    rw [List.map_cons, List.foldl_cons, List.foldl_cons, ← ih]
    congr 1
    split <;> rfl
theorem a_minL {e : γ → D} {xs : List γ} : (minT e xs).All fun z => cMinL [eL e xs] = some (e z) := by
  cases xs with
  | nil => exact True.intro
  | cons x xs =>
    refine all_guard fun h => ?_
    rw [List.map_cons] at h
    show (if okCmp _ = true then _ else _) = _
    rw [if_pos h]; exact congrArg some (minD_map x xs)
theorem a_minT {e : γ → D} {xs : List γ} : (minT e xs).All fun z => cMinL [eT e xs] = some (e z) := by
  cases xs with
  | nil => exact True.intro
  | cons x xs =>
    refine all_guard fun h => ?_
    rw [List.map_cons] at h
    show (if okCmp _ = true then _ else _) = _
    rw [if_pos h]; exact congrArg some (minD_map x xs)
theorem a_maxL {e : γ → D} {xs : List γ} : (maxT e xs).All fun z => cMaxL [eL e xs] = some (e z) := by
  cases xs with
  | nil => exact True.intro
  | cons x xs =>
    refine all_guard fun h => ?_
    rw [List.map_cons] at h
    show (if okCmp _ = true then _ else _) = _
    rw [if_pos h]; exact congrArg some (maxD_map x xs)
theorem a_maxT {e : γ → D} {xs : List γ} : (maxT e xs).All fun z => cMaxL [eT e xs] = some (e z) := by
  cases xs with
  | nil => exact True.intro
  | cons x xs =>
    refine all_guard fun h => ?_
    rw [List.map_cons] at h
    show (if okCmp _ = true then _ else _) = _
    rw [if_pos h]; exact congrArg some (maxD_map x xs)
theorem o_sum {xs : List Int} : cSum [eL eI xs] = some (eI xs.sum) := by
  show (ints? (xs.map eI)).map _ = _
  rw [ints_map]; rfl
end
end PL
set_option Elab.async false
set_option linter.all false
set_option maxRecDepth 100000
set_option maxHeartbeats 1000000
set_option autoImplicit false
/-! min of typed lists: the least one. -/
namespace PL
open PySem PySem.Spec PyProof.Rows L2
section
variable {α : Type} {e : α → D}
theorem leT_refl (a : α) : leT e a a = true := by
  have := leT_total (e := e) a a
  rwa [Bool.or_self] at this
theorem leT_lt {a b : α} : leT e a b = !PySem.W.dataLt (e b) (e a) := rfl
theorem leT_of_lt {a b : α} (h : PySem.W.dataLt (e a) (e b) = true) : leT e a b = true := by
  have := leT_total (e := e) a b
  rw [leT_lt (a := b) (b := a), h] at this
  simpa using this
def pick (e : α → D) (a y : α) : α := if PySem.W.dataLt (e y) (e a) = true then y else a
theorem pick_le (a y : α) : leT e (pick e a y) a = true ∧ leT e (pick e a y) y = true ∧ (pick e a y = a ∨ pick e a y = y) := by
  unfold pick
  split
  · rename_i h
    exact ⟨leT_of_lt h, leT_refl _, .inr rfl⟩
  · rename_i h
    exact ⟨leT_refl _, by rw [leT_lt]; simpa using h, .inl rfl⟩
theorem fold_least : ∀ (xs : List α) (x : α), xs.foldl (pick e) x ∈ x :: xs ∧ ∀ y ∈ x :: xs, leT e (xs.foldl (pick e) x) y = true
  | [], x => ⟨List.mem_singleton.mpr rfl, fun y hy => by rw [List.mem_singleton.mp hy]; exact leT_refl _⟩
  | z :: xs, x => by
    obtain ⟨h1, h2⟩ := fold_least xs (pick e x z)
    obtain ⟨p1, p2, p3⟩ := pick_le (e := e) x z
    rw [List.foldl_cons]
    refine ⟨?_, fun y hy => ?_⟩
    · rcases List.mem_cons.mp h1 with h | h
      · rw [h]
        rcases p3 with q | q <;> rw [q] <;> simp
      · exact List.mem_cons_of_mem _ (List.mem_cons_of_mem _ h)
    · have h0 := h2 _ List.mem_cons_self
      rcases List.mem_cons.mp hy with rfl | hy
      · exact leT_trans _ _ _ h0 p1
      · rcases List.mem_cons.mp hy with rfl | hy
        · exact leT_trans _ _ _ h0 p2
        · exact h2 y (List.mem_cons_of_mem _ hy)
/-- min(xs) is the one that stands before all -/
theorem minT_ok (hp : PF e) {xs : List α} {r : α} (hr : r ∈ xs) (hm : ∀ x ∈ xs, leT e r x = true) (hk : okCmp (xs.map e) = true) : minT e xs = .ok r := by
  cases xs with
  | nil => cases hr
  | cons x xs =>
    obtain ⟨h1, h2⟩ := fold_least (e := e) xs x
    have : xs.foldl (pick e) x = r := leT_anti hp (h2 r hr) (hm _ h1)
    unfold minT
    show Ex.guard (okCmp ((x :: xs).map e)) (xs.foldl (pick e) x) = _
    rw [hk, this]
    rfl
end
end PL
set_option Elab.async false
set_option linter.all false
set_option maxRecDepth 100000
set_option maxHeartbeats 1000000
set_option autoImplicit false
/-! raise, try in the typed layer; isqrt, lcm. -/
namespace PL
open PySem PySem.Spec PyProof.Rows L2
section
variable {ρ : Type} {K : ρ → O → Prop} {p : Pt}
theorem g_exc {c : Nat} {r : DEnv → O} : SimG K p (oSeq (oRaise c) r) (.exc c : Ex ρ) := fun σ hσ => ⟨σ, rfl⟩
/-- an exception told by its word -/
def tryE (w : Nat → Option Str) (inj : Str → ρ) (t : Ex ρ) : Ex ρ := match t with
  | .ok r => .ok r
  | .exc c => match w c with
    | some s => .ok (inj s)
    | none => .bad
  | .bad => .bad
theorem plainC_start (ds : List D) (N : Nat) : plainC (startD N ds) = true := by
  unfold plainC startD
  rw [List.all_append, Bool.and_eq_true]
  refine ⟨List.all_eq_true.mpr fun c hc => ?_, List.all_eq_true.mpr fun c hc => ?_⟩
  · obtain ⟨d, _, rfl⟩ := List.mem_map.mp hc
    rfl
  · rw [(List.mem_replicate.mp hc).2]
theorem ref_defTry {n N : Nat} {B : DEnv → O} {w : Nat → Option Str} {inj : Str → ρ} {ds : List D} {t : Ex ρ} {e : ρ → D} (hl : ds.length = n) (h : SimG (KD e) (pat0 N ds) B t) (he : ∀ s, e (inj s) = .str s) : Ref (defD n N (tryF B w) ds) (tryE w inj t) e := by
  have h1 := h (startD N ds) (fits_start ds (N - ds.length))
  unfold defD
  rw [if_pos hl]
  unfold tryF
  rw [if_pos (plainC_start ds N)]
  cases t with
  | ok r =>
    obtain ⟨σ1, e1⟩ := h1
    show answers (match B (startD N ds) with
      | .exc c _ => _
      | .ret d τ => _
      | .nx τ => _
      | _ => _) = .ok (e r)
    rw [e1]
    rfl
  | exc c =>
    obtain ⟨σ1, e1⟩ := h1
    rw [e1]
    show Ref (answers (match w c with
      | some t => .ret (.str t) (startD N ds)
      | none => .bad)) (match w c with
      | some s => .ok (inj s)
      | none => .bad) e
    cases w c with
    | none => exact True.intro
    | some s =>
      show Ans.ok (.str s) = .ok (e (inj s))
      rw [he]
  | bad => exact True.intro
end
def isqrtE (a : Int) : Ex Int := Ex.guard (decide (0 ≤ a) && decide (a.natAbs.log2 < 60)) (rootN a.toNat : Nat)
theorem a_isqrt {a : Int} : (isqrtE a).All fun c => cIsqrt [eI a] = some (eI c) := all_guard fun h => by
  show (if _ then _ else _) = _
  rw [if_pos h]
def lcmE (a b : Int) : Ex Int := Ex.guard (decide (a.natAbs.log2 < 60) && decide (b.natAbs.log2 < 60) && decide (((((Nat.lcm 1 a.natAbs).lcm b.natAbs : Nat) : Int)).natAbs.log2 < bitsLine)) ((Nat.lcm 1 a.natAbs).lcm b.natAbs : Nat)
theorem a_lcm {a b : Int} : (lcmE a b).All fun c => cLcm [eI a, eI b] = some (eI c) := all_guard fun h => by
  show (if _ then _ else _) = _
  rw [if_pos h]
/-! ### data read as typed -/
structure Dc {α : Type} (e : α → D) (dc : D → Option α) : Prop where
  h : ∀ d a, dc d = some a → e a = d
def dcI : D → Option Int
  | .int i => some i
  | _ => none
def dcB : D → Option Bool
  | .bool i => some i
  | _ => none
def dcS : D → Option Str
  | .str i => some i
  | _ => none
def dcN : D → Option Unit
  | .none => some ()
  | _ => none
theorem dc_int : Dc eI dcI := ⟨fun d a h => by cases d <;> cases h; rfl⟩
theorem dc_bool : Dc eB dcB := ⟨fun d a h => by cases d <;> cases h; rfl⟩
theorem dc_str : Dc eS dcS := ⟨fun d a h => by cases d <;> cases h; rfl⟩
theorem dc_unit : Dc eN dcN := ⟨fun d a h => by cases d <;> cases h; rfl⟩
def dcAll {α : Type} (dc : D → Option α) : List D → Option (List α)
  | [] => some []
  | d :: ds => match dc d with
    | some a => (dcAll dc ds).map (a :: ·)
    | none => none
theorem dcAll_eq {α : Type} {e : α → D} {dc : D → Option α} (h : Dc e dc) : ∀ (ds : List D) (as : List α), dcAll dc ds = some as → as.map e = ds
  | [], as, z => by cases z; rfl
  | d :: ds, as, z => by
    unfold dcAll at z
    cases hd : dc d with
    | none => rw [hd] at z; cases z
    | some a =>
      rw [hd] at z
      cases hs : dcAll dc ds with
      | none => simp only [hs, Option.map_none] at z; cases z
      | some bs =>
        simp only [hs, Option.map_some, Option.some.injEq] at z
        subst z
        rw [List.map_cons, h.h d a hd, dcAll_eq h ds bs hs]
def dcT {α : Type} (dc : D → Option α) : D → Option (List α)
  | .tuple ds => dcAll dc ds
  | _ => none
def dcL {α : Type} (dc : D → Option α) : D → Option (List α)
  | .list ds => dcAll dc ds
  | _ => none
theorem dc_tup {α : Type} {e : α → D} {dc : D → Option α} (h : Dc e dc) : Dc (eT e) (dcT dc) := ⟨fun d a z => by
  cases d <;> first | exact congrArg PyData.tuple (dcAll_eq h _ _ z) | cases z⟩
theorem dc_list {α : Type} {e : α → D} {dc : D → Option α} (h : Dc e dc) : Dc (eL e) (dcL dc) := ⟨fun d a z => by
  cases d <;> first | exact congrArg PyData.list (dcAll_eq h _ _ z) | cases z⟩
def dcO {α : Type} (dc : D → Option α) : D → Option (Option α)
  | .none => some none
  | d => (dc d).map some
theorem dc_opt {α : Type} {e : α → D} {dc : D → Option α} (h : Dc e dc) : Dc (eO e) (dcO dc) := ⟨fun d a z => by
  by_cases hn : d = .none
  · subst hn
    cases z
    rfl
  · have z2 : (dc d).map some = some a := by
      rw [← z]
      cases d <;> first | rfl | exact absurd rfl hn
    cases hd : dc d with
    | none => rw [hd] at z2; cases z2
    | some b =>
      rw [hd] at z2
      cases z2
      exact h.h d b hd⟩
def dcP {α β : Type} (dc : D → Option α) (dd : D → Option β) : D → Option (α × β)
  | .tuple [x, y] => match dc x, dd y with
    | some a, some b => some (a, b)
    | _, _ => none
  | _ => none
theorem dc_pair {α β : Type} {e : α → D} {f : β → D} {dc : D → Option α} {dd : D → Option β} (h : Dc e dc) (k : Dc f dd) : Dc (eP e f) (dcP dc dd) := ⟨fun d a z => by
  unfold dcP at z
  split at z
  · rename_i x y
    cases hx : dc x with
    | none => rw [hx] at z; cases z
    | some a =>
      cases hy : dd y with
      | none => rw [hx, hy] at z; cases z
      | some b =>
        rw [hx, hy] at z
        cases z
        show PyData.tuple [e a, f b] = _
        rw [h.h x a hx, k.h y b hy]
  · cases z⟩
section
variable {α A : Type} {p q : Pt} {e : α → D} {dc : D → Option α}
theorem sim_dc {f : DEnv → R D} {d : D} (h : Dc e dc) (hf : SimP p q f (eD d)) : Sim p f (Ex.ofO (dc d)) (fun a => (e a, q)) := fun σ hσ => by
  obtain ⟨σ1, e1, g1⟩ := hf σ hσ
  cases hd : dc d with
  | none => exact True.intro
  | some a => exact ⟨σ1, by rw [e1]; show R.ok d σ1 = R.ok (e a) σ1; rw [h.h d a hd], g1⟩
theorem sim_dcE {f : DEnv → R D} {t : Ex A} {k : A → D × Pt} (h : Dc e dc) (hf : Sim p f t k) : Sim p f (t.bind fun a => (Ex.ofO (dc (k a).1)).bind fun b => .ok (a, b)) (fun x => (e x.2, (k x.1).2)) := fun σ hσ => by
  have h1 := hf σ hσ
  cases t with
  | bad => exact True.intro
  | exc c => exact h1
  | ok a =>
    simp only [Ex.bind_ok]
    cases hd : dc (k a).1 with
    | none => exact True.intro
    | some b =>
      obtain ⟨σ1, e1, g1⟩ := h1
      exact ⟨σ1, by rw [e1]; show R.ok (k a).1 σ1 = R.ok (e b) σ1; rw [h.h _ b hd], g1⟩
end
/-! ### [..] * k; defs that give nothing -/
def repLE {α : Type} (xs : List α) (k : Int) : Ex (List α) := Ex.guard (decide (0 ≤ k) && decide (k ≤ 1000000) && decide (xs.length * k.toNat ≤ 1000000)) (List.replicate k.toNat xs).flatten
theorem repLE_ok {α : Type} {xs : List α} {k : Int} (h0 : 0 ≤ k) (h1 : k ≤ 1000000) (h2 : xs.length * k.toNat ≤ 1000000) : repLE xs k = .ok (List.replicate k.toNat xs).flatten := by unfold repLE; rw [decide_eq_true h0, decide_eq_true h1, decide_eq_true h2]; rfl
theorem sim_rep {α : Type} {p q r : Pt} {e : α → D} {fs : DEnv → R (List D)} {g : DEnv → R D} {xs : List α} {k : Int} (hf : SimP p q fs (xs.map e)) (hg : SimP q r g (eI k)) : Sim p (repF fs g) (repLE xs k) (fun l => (l.map e, r)) := fun σ hσ => by
  obtain ⟨σ1, e1, g1⟩ := hf σ hσ
  obtain ⟨σ2, e2, g2⟩ := hg σ1 g1
  unfold repLE Ex.guard
  by_cases h : (decide (0 ≤ k) && decide (k ≤ 1000000) && decide (xs.length * k.toNat ≤ 1000000)) = true
  · rw [if_pos h]
    exact ⟨σ2, by simp only [repF, e1, R.bind, e2, calmR, List.length_map, h, if_true, List.map_flatten, List.map_replicate], g2⟩
  · rw [if_neg h]
    exact True.intro
def KU (_ : Unit) (o : O) : Prop := ∃ σ', o = .ret .none σ' ∨ o = .nx σ'
theorem ku_end {p : Pt} : SimG KU p oNx (.ok ()) := fun σ hσ => ⟨σ, .inr rfl⟩
theorem ref_defU {n N : Nat} {B : DEnv → O} {ds : List D} {t : Ex Unit} (hl : ds.length = n) (h : SimG KU (pat0 N ds) B t) : Ref (defD n N B ds) t eN := by
  have h1 := h (startD N ds) (fits_start ds (N - ds.length))
  unfold defD
  rw [if_pos hl]
  cases t with
  | ok r =>
    obtain ⟨σ1, e1 | e1⟩ := h1
    · show answers _ = _
      rw [e1]
      rfl
    · show answers _ = _
      rw [e1]
      rfl
  | exc c =>
    obtain ⟨σ1, e1⟩ := h1
    show answers _ = _
    rw [e1]
    rfl
  | bad => exact True.intro
end PL
set_option Elab.async false
set_option linter.all false
set_option maxRecDepth 100000
set_option maxHeartbeats 1000000
set_option autoImplicit false
/-! Defs typed by hand: what they give, read back. -/
namespace PL
open PySem PySem.Spec PyProof.Rows L2
def T__law_take (tp : List D) (b : Int) : Ex (Int × List D) := Ex.noX (match F__law_take tp [eI b] with
  | .ok (.int v) tp' => .ok (v, tp')
  | _ => .bad)
theorem ref__law_take (tp : List D) (b : Int) : RefT (F__law_take tp [eI b]) (T__law_take tp b) eI := by
  unfold T__law_take
  refine refT_noX ?_
  cases h : F__law_take tp [eI b] with
  | bad => exact True.intro
  | ok d tp' => cases d <;> first | exact True.intro | rfl
end PL
set_option Elab.async false
set_option linter.all false
set_option maxRecDepth 100000
set_option maxHeartbeats 4000000
set_option autoImplicit false
namespace PL
open PySem PySem.Spec PyProof.Rows L2
def T_is_number (p_value : Int) (p_least : Int) (p_most : Int) : Ex Bool := .ok (((isD .int (eI p_value)) && ((!(isD .bool (eI p_value))) && ((decide (p_least ≤ p_value)) && (decide (p_value ≤ p_most))))))
theorem ref_is_number (p_value : Int) (p_least : Int) (p_most : Int) : Ref (F_is_number [eI p_value, eI p_least, eI p_most]) (T_is_number p_value p_least p_most) eB :=
  ref_def (N := 3) (B := b_is_number) rfl (g_last (g_retP (simP_vAnd (SimP.thenP (simP_val (i := 0) rfl) SimP.ok) (simP_vAnd (SimP.thenP (SimP.thenP (simP_val (i := 0) rfl) SimP.ok) SimP.ok) (SimP.thenP (simP_val (i := 1) rfl) (SimP.thenP (simP_val (i := 0) rfl) (simP_chnR o_le (simP_val (i := 2) rfl) o_le))))) (by exact kd_ret)))
def T_check_bend (p_bend : Int) : Ex Unit := (T_is_number (p_bend) ((1 : Int)) ((1000 : Int))).bind fun (a1 : Bool) => if (!a1) = true then .exc 0 else .ok ()
theorem ref_check_bend (p_bend : Int) : Ref (F_check_bend [eI p_bend]) (T_check_bend p_bend) eN :=
  ref_defU (N := 1) (B := b_check_bend) rfl (g_last (g_ifE (k := fun (a1 : Bool) => ((!a1), [some (.val (eI p_bend))])) (Sim.thenP (k := fun (a1 : Bool) => (a1, [some (.val (eI p_bend))])) (Sim.thenP (k := fun (a1 : Bool) => (eB a1, [some (.val (eI p_bend))])) (SimP.then (SimP.thenP (simP_val (i := 0) rfl) (SimP.thenP (SimP.thenP SimP.ok (SimP.thenP (SimP.thenP SimP.ok (SimP.thenP SimP.ok SimP.ok)) SimP.ok)) SimP.ok)) (sim_ans (e := eB) (ref_is_number (p_bend) ((1 : Int)) ((1000 : Int))))) (fun (a1 : Bool) => SimP.ok)) (fun (a1 : Bool) => SimP.ok)) (fun (a1 : Bool) => g_exc) fun (a1 : Bool) => (g_nx ku_end)))
def T_check_height (p_height : Int) : Ex Unit := (T_is_number (p_height) ((0 : Int)) ((10000 : Int))).bind fun (a2 : Bool) => if (!a2) = true then .exc 0 else .ok ()
theorem ref_check_height (p_height : Int) : Ref (F_check_height [eI p_height]) (T_check_height p_height) eN :=
  ref_defU (N := 1) (B := b_check_height) rfl (g_last (g_ifE (k := fun (a2 : Bool) => ((!a2), [some (.val (eI p_height))])) (Sim.thenP (k := fun (a2 : Bool) => (a2, [some (.val (eI p_height))])) (Sim.thenP (k := fun (a2 : Bool) => (eB a2, [some (.val (eI p_height))])) (SimP.then (SimP.thenP (simP_val (i := 0) rfl) (SimP.thenP (SimP.thenP SimP.ok (SimP.thenP (SimP.thenP SimP.ok (SimP.thenP SimP.ok SimP.ok)) SimP.ok)) SimP.ok)) (sim_ans (e := eB) (ref_is_number (p_height) ((0 : Int)) ((10000 : Int))))) (fun (a2 : Bool) => SimP.ok)) (fun (a2 : Bool) => SimP.ok)) (fun (a2 : Bool) => g_exc) fun (a2 : Bool) => (g_nx ku_end)))
def T_check_distance (p_distance : Int) : Ex Unit := (T_is_number (p_distance) ((0 : Int)) ((1000000 : Int))).bind fun (a3 : Bool) => if (!a3) = true then .exc 0 else .ok ()
theorem ref_check_distance (p_distance : Int) : Ref (F_check_distance [eI p_distance]) (T_check_distance p_distance) eN :=
  ref_defU (N := 1) (B := b_check_distance) rfl (g_last (g_ifE (k := fun (a3 : Bool) => ((!a3), [some (.val (eI p_distance))])) (Sim.thenP (k := fun (a3 : Bool) => (a3, [some (.val (eI p_distance))])) (Sim.thenP (k := fun (a3 : Bool) => (eB a3, [some (.val (eI p_distance))])) (SimP.then (SimP.thenP (simP_val (i := 0) rfl) (SimP.thenP (SimP.thenP SimP.ok (SimP.thenP (SimP.thenP SimP.ok (SimP.thenP SimP.ok SimP.ok)) SimP.ok)) SimP.ok)) (sim_ans (e := eB) (ref_is_number (p_distance) ((0 : Int)) ((1000000 : Int))))) (fun (a3 : Bool) => SimP.ok)) (fun (a3 : Bool) => SimP.ok)) (fun (a3 : Bool) => g_exc) fun (a3 : Bool) => (g_nx ku_end)))
def T_above (p_bend : Int) (p_height : Int) (p_eye : Int) (p_distance : Int) : Ex Bool := ((mulE p_distance p_distance).bind fun (a4 : Int) => (mulE p_bend (p_height + p_eye)).bind fun (a5 : Int) => .ok (a4, a5)).bind fun (c6 : (Int × Int)) => (if (decide ((c6.1 - c6.2) ≤ (0 : Int))) = true then .ok true else ((mulE (c6.1 - c6.2) (c6.1 - c6.2)).bind fun (a7 : Int) => ((((mulE (4 : Int) p_bend).bind fun (a8 : Int) => mulE a8 p_bend).bind fun (a9 : Int) => mulE a9 p_height).bind fun (a10 : Int) => mulE a10 p_eye).bind fun (a11 : Int) => .ok (a7, a11)).bind fun (c12 : (Int × Int)) => .ok ((decide (c12.1 ≤ c12.2)))).bind fun (a13 : Bool) => .ok (a13)
theorem ref_above (p_bend : Int) (p_height : Int) (p_eye : Int) (p_distance : Int) : Ref (F_above [eI p_bend, eI p_height, eI p_eye, eI p_distance]) (T_above p_bend p_height p_eye p_distance) eB :=
  ref_def (N := 5) (B := b_above) rfl (g_setE (i := 4) (k := fun (c6 : (Int × Int)) => (eI (c6.1 - c6.2), [some (.val (eI p_bend)), some (.val (eI p_height)), some (.val (eI p_eye)), some (.val (eI p_distance)), none])) (Sim.then2 (k := fun (a4 : Int) => (eI a4, [some (.val (eI p_bend)), some (.val (eI p_height)), some (.val (eI p_eye)), some (.val (eI p_distance)), none])) (k' := fun (a4 : Int) => fun (a5 : Int) => (eI (a4 - a5), [some (.val (eI p_bend)), some (.val (eI p_height)), some (.val (eI p_eye)), some (.val (eI p_distance)), none])) (SimP.then (simP_val (i := 3) rfl) (SimP.then (simP_val (i := 3) rfl) (sim_lift' a_mul))) (fun (a4 : Int) => (Sim.thenP (k := fun (a5 : Int) => (eI a5, [some (.val (eI p_bend)), some (.val (eI p_height)), some (.val (eI p_eye)), some (.val (eI p_distance)), none])) (SimP.then (simP_val (i := 0) rfl) (SimP.then (SimP.thenP (simP_val (i := 1) rfl) (SimP.thenP (simP_val (i := 2) rfl) (simP_lift o_add))) (sim_lift' a_mul))) (fun (a5 : Int) => (simP_lift o_sub))))) (fun _ => rfl) fun (c6 : (Int × Int)) => (g_last (g_retE (k := fun (a13 : Bool) => (eB a13, [some (.val (eI p_bend)), some (.val (eI p_height)), some (.val (eI p_eye)), some (.val (eI p_distance)), some (.val (eI (c6.1 - c6.2)))])) (sim_vOr (v := fun (c12 : (Int × Int)) => (decide (c12.1 ≤ c12.2))) (SimP.thenP (simP_val (i := 4) rfl) (SimP.thenP SimP.ok (simP_lift o_le))) (Sim.then2 (k := fun (a7 : Int) => (eI a7, [some (.val (eI p_bend)), some (.val (eI p_height)), some (.val (eI p_eye)), some (.val (eI p_distance)), some (.val (eI (c6.1 - c6.2)))])) (k' := fun (a7 : Int) => fun (a11 : Int) => (eB (decide (a7 ≤ a11)), [some (.val (eI p_bend)), some (.val (eI p_height)), some (.val (eI p_eye)), some (.val (eI p_distance)), some (.val (eI (c6.1 - c6.2)))])) (SimP.then (simP_val (i := 4) rfl) (SimP.then (simP_val (i := 4) rfl) (sim_lift' a_mul))) (fun (a7 : Int) => (Sim.thenP (k := fun (a11 : Int) => (eI a11, [some (.val (eI p_bend)), some (.val (eI p_height)), some (.val (eI p_eye)), some (.val (eI p_distance)), some (.val (eI (c6.1 - c6.2)))])) (Sim.then (k := fun (a10 : Int) => (eI a10, [some (.val (eI p_bend)), some (.val (eI p_height)), some (.val (eI p_eye)), some (.val (eI p_distance)), some (.val (eI (c6.1 - c6.2)))])) (k' := fun (a11 : Int) => (eI a11, [some (.val (eI p_bend)), some (.val (eI p_height)), some (.val (eI p_eye)), some (.val (eI p_distance)), some (.val (eI (c6.1 - c6.2)))])) (Sim.then (k := fun (a9 : Int) => (eI a9, [some (.val (eI p_bend)), some (.val (eI p_height)), some (.val (eI p_eye)), some (.val (eI p_distance)), some (.val (eI (c6.1 - c6.2)))])) (k' := fun (a10 : Int) => (eI a10, [some (.val (eI p_bend)), some (.val (eI p_height)), some (.val (eI p_eye)), some (.val (eI p_distance)), some (.val (eI (c6.1 - c6.2)))])) (Sim.then (k := fun (a8 : Int) => (eI a8, [some (.val (eI p_bend)), some (.val (eI p_height)), some (.val (eI p_eye)), some (.val (eI p_distance)), some (.val (eI (c6.1 - c6.2)))])) (k' := fun (a9 : Int) => (eI a9, [some (.val (eI p_bend)), some (.val (eI p_height)), some (.val (eI p_eye)), some (.val (eI p_distance)), some (.val (eI (c6.1 - c6.2)))])) (SimP.then SimP.ok (SimP.then (simP_val (i := 0) rfl) (sim_lift' a_mul))) (fun (a8 : Int) => (SimP.then (simP_val (i := 0) rfl) (sim_lift' a_mul)))) (fun (a9 : Int) => (SimP.then (simP_val (i := 1) rfl) (sim_lift' a_mul)))) (fun (a10 : Int) => (SimP.then (simP_val (i := 2) rfl) (sim_lift' a_mul)))) (fun (a11 : Int) => (simP_lift o_le)))))) (by exact (fun (a13 : Bool) => kd_ret)))))
def T_is_above (p_bend : Int) (p_height : Int) (p_eye : Int) (p_distance : Int) : Ex Bool := (T_check_bend (p_bend)).bind fun (a14 : Unit) => (T_check_height (p_height)).bind fun (a15 : Unit) => (T_check_height (p_eye)).bind fun (a16 : Unit) => (T_check_distance (p_distance)).bind fun (a17 : Unit) => (T_above (p_bend) (p_height) (p_eye) (p_distance)).bind fun (a18 : Bool) => .ok (a18)
theorem ref_is_above (p_bend : Int) (p_height : Int) (p_eye : Int) (p_distance : Int) : Ref (F_is_above [eI p_bend, eI p_height, eI p_eye, eI p_distance]) (T_is_above p_bend p_height p_eye p_distance) eB :=
  ref_def (N := 4) (B := b_is_above) rfl (g_thn (k := fun (a14 : Unit) => (eN a14, [some (.val (eI p_bend)), some (.val (eI p_height)), some (.val (eI p_eye)), some (.val (eI p_distance))])) (SimP.then (SimP.thenP (simP_val (i := 0) rfl) (SimP.thenP SimP.ok SimP.ok)) (sim_ans (e := eN) (ref_check_bend (p_bend)))) fun (a14 : Unit) => (g_nx (g_thn (k := fun (a15 : Unit) => (eN a15, [some (.val (eI p_bend)), some (.val (eI p_height)), some (.val (eI p_eye)), some (.val (eI p_distance))])) (SimP.then (SimP.thenP (simP_val (i := 1) rfl) (SimP.thenP SimP.ok SimP.ok)) (sim_ans (e := eN) (ref_check_height (p_height)))) fun (a15 : Unit) => (g_nx (g_thn (k := fun (a16 : Unit) => (eN a16, [some (.val (eI p_bend)), some (.val (eI p_height)), some (.val (eI p_eye)), some (.val (eI p_distance))])) (SimP.then (SimP.thenP (simP_val (i := 2) rfl) (SimP.thenP SimP.ok SimP.ok)) (sim_ans (e := eN) (ref_check_height (p_eye)))) fun (a16 : Unit) => (g_nx (g_thn (k := fun (a17 : Unit) => (eN a17, [some (.val (eI p_bend)), some (.val (eI p_height)), some (.val (eI p_eye)), some (.val (eI p_distance))])) (SimP.then (SimP.thenP (simP_val (i := 3) rfl) (SimP.thenP SimP.ok SimP.ok)) (sim_ans (e := eN) (ref_check_distance (p_distance)))) fun (a17 : Unit) => (g_nx (g_last (g_retE (k := fun (a18 : Bool) => (eB a18, [some (.val (eI p_bend)), some (.val (eI p_height)), some (.val (eI p_eye)), some (.val (eI p_distance))])) (SimP.then (SimP.thenP (simP_val (i := 0) rfl) (SimP.thenP (SimP.thenP (simP_val (i := 1) rfl) (SimP.thenP (SimP.thenP (simP_val (i := 2) rfl) (SimP.thenP (SimP.thenP (simP_val (i := 3) rfl) (SimP.thenP SimP.ok SimP.ok)) SimP.ok)) SimP.ok)) SimP.ok)) (sim_ans (e := eB) (ref_above (p_bend) (p_height) (p_eye) (p_distance)))) (by exact (fun (a18 : Bool) => kd_ret))))))))))))
def T_least_height (p_bend : Int) (p_eye : Int) (p_distance : Int) : Ex (Option Int) := (T_check_bend (p_bend)).bind fun (a19 : Unit) => (T_check_height (p_eye)).bind fun (a20 : Unit) => (T_check_distance (p_distance)).bind fun (a21 : Unit) => (T_above (p_bend) ((10000 : Int)) (p_eye) (p_distance)).bind fun (a22 : Bool) => if (!a22) = true then .ok (none) else (whileE (fun (s23 : (Int × Int)) => .ok (decide (s23.1 < s23.2))) (fun (s23 : (Int × Int)) => (Ex.put ((s23.1 + s23.2) / (2 : Int))).bind fun (v24 : Int) => (T_above (p_bend) (v24) (p_eye) (p_distance)).bind fun (a25 : Bool) => if a25 = true then .ok (s23.1, v24) else .ok ((v24 + (1 : Int)), s23.2)) 100000 ((0 : Int), (10000 : Int))).bind fun s23 => .ok ((some s23.1))
theorem ref_least_height (p_bend : Int) (p_eye : Int) (p_distance : Int) : Ref (F_least_height [eI p_bend, eI p_eye, eI p_distance]) (T_least_height p_bend p_eye p_distance) (eO eI) :=
  ref_def (N := 6) (B := b_least_height) rfl (g_thn (k := fun (a19 : Unit) => (eN a19, [some (.val (eI p_bend)), some (.val (eI p_eye)), some (.val (eI p_distance)), none, none, none])) (SimP.then (SimP.thenP (simP_val (i := 0) rfl) (SimP.thenP SimP.ok SimP.ok)) (sim_ans (e := eN) (ref_check_bend (p_bend)))) fun (a19 : Unit) => (g_nx (g_thn (k := fun (a20 : Unit) => (eN a20, [some (.val (eI p_bend)), some (.val (eI p_eye)), some (.val (eI p_distance)), none, none, none])) (SimP.then (SimP.thenP (simP_val (i := 1) rfl) (SimP.thenP SimP.ok SimP.ok)) (sim_ans (e := eN) (ref_check_height (p_eye)))) fun (a20 : Unit) => (g_nx (g_thn (k := fun (a21 : Unit) => (eN a21, [some (.val (eI p_bend)), some (.val (eI p_eye)), some (.val (eI p_distance)), none, none, none])) (SimP.then (SimP.thenP (simP_val (i := 2) rfl) (SimP.thenP SimP.ok SimP.ok)) (sim_ans (e := eN) (ref_check_distance (p_distance)))) fun (a21 : Unit) => (g_nx (g_ifE (k := fun (a22 : Bool) => ((!a22), [some (.val (eI p_bend)), some (.val (eI p_eye)), some (.val (eI p_distance)), none, none, none])) (Sim.thenP (k := fun (a22 : Bool) => (a22, [some (.val (eI p_bend)), some (.val (eI p_eye)), some (.val (eI p_distance)), none, none, none])) (Sim.thenP (k := fun (a22 : Bool) => (eB a22, [some (.val (eI p_bend)), some (.val (eI p_eye)), some (.val (eI p_distance)), none, none, none])) (SimP.then (SimP.thenP (simP_val (i := 0) rfl) (SimP.thenP (SimP.thenP SimP.ok (SimP.thenP (SimP.thenP (simP_val (i := 1) rfl) (SimP.thenP (SimP.thenP (simP_val (i := 2) rfl) (SimP.thenP SimP.ok SimP.ok)) SimP.ok)) SimP.ok)) SimP.ok)) (sim_ans (e := eB) (ref_above (p_bend) ((10000 : Int)) (p_eye) (p_distance)))) (fun (a22 : Bool) => SimP.ok)) (fun (a22 : Bool) => SimP.ok)) (fun (a22 : Bool) => (g_retP SimP.ok (by exact kd_ret))) fun (a22 : Bool) => (g_nx (g_thnP (SimP.thenP SimP.ok (SimP.thenP (SimP.thenP SimP.ok (SimP.thenP SimP.ok SimP.ok)) SimP.ok)) (g_set2 rfl rfl (g_while (P := (fun s23 : (Int × Int) => [some (.val (eI p_bend)), some (.val (eI p_eye)), some (.val (eI p_distance)), some (.val (eI s23.1)), some (.val (eI s23.2)), none])) (Q := (fun s23 : (Int × Int) => [some (.val (eI p_bend)), some (.val (eI p_eye)), some (.val (eI p_distance)), some (.val (eI s23.1)), some (.val (eI s23.2)), none])) (s0 := ((0 : Int), (10000 : Int))) (ple_forget [] rfl rfl) (fun s23 => (SimP.sim (k := fun (z0 : Bool) => (z0, [some (.val (eI p_bend)), some (.val (eI p_eye)), some (.val (eI p_distance)), some (.val (eI s23.1)), some (.val (eI s23.2)), none])) (a := (decide (s23.1 < s23.2))) (SimP.thenP (SimP.thenP (simP_val (i := 3) rfl) (SimP.thenP (simP_val (i := 4) rfl) (simP_lift o_lt))) SimP.ok))) (fun s23 => (g_setE (i := 5) (k := fun (v24 : Int) => (eI v24, [some (.val (eI p_bend)), some (.val (eI p_eye)), some (.val (eI p_distance)), some (.val (eI s23.1)), some (.val (eI s23.2)), none])) (SimP.put (k := fun (z0 : Int) => (eI z0, [some (.val (eI p_bend)), some (.val (eI p_eye)), some (.val (eI p_distance)), some (.val (eI s23.1)), some (.val (eI s23.2)), none])) (a := ((s23.1 + s23.2) / (2 : Int))) (SimP.thenP (SimP.thenP (simP_val (i := 3) rfl) (SimP.thenP (simP_val (i := 4) rfl) (simP_lift o_add))) (SimP.thenP SimP.ok (simP_lift (o_div (by decide)))))) (fun _ => rfl) fun v24 => (g_last (g_ifE (k := fun (a25 : Bool) => (a25, [some (.val (eI p_bend)), some (.val (eI p_eye)), some (.val (eI p_distance)), some (.val (eI s23.1)), some (.val (eI s23.2)), some (.val (eI v24))])) (Sim.thenP (k := fun (a25 : Bool) => (eB a25, [some (.val (eI p_bend)), some (.val (eI p_eye)), some (.val (eI p_distance)), some (.val (eI s23.1)), some (.val (eI s23.2)), some (.val (eI v24))])) (SimP.then (SimP.thenP (simP_val (i := 0) rfl) (SimP.thenP (SimP.thenP (simP_val (i := 5) rfl) (SimP.thenP (SimP.thenP (simP_val (i := 1) rfl) (SimP.thenP (SimP.thenP (simP_val (i := 2) rfl) (SimP.thenP SimP.ok SimP.ok)) SimP.ok)) SimP.ok)) SimP.ok)) (sim_ans (e := eB) (ref_above (p_bend) (v24) (p_eye) (p_distance)))) (fun (a25 : Bool) => SimP.ok)) (fun (a25 : Bool) => (g_setP (i := 4) (d := eI v24) (simP_val (i := 5) rfl) rfl (kl_end (s := (s23.1, v24)) (ple_forget [5] rfl rfl)))) fun (a25 : Bool) => (g_setP (i := 3) (d := eI (v24 + (1 : Int))) (SimP.thenP (simP_val (i := 5) rfl) (SimP.thenP SimP.ok (simP_lift o_add))) rfl (kl_end (s := ((v24 + (1 : Int)), s23.2)) (ple_forget [5] rfl rfl))))))) (fun _ => PLe.refl _) fun s23 => (g_last (g_retP (simP_val (i := 3) rfl) (by exact kd_ret))))))))))))))
def T_greatest_distance (p_bend : Int) (p_height : Int) (p_eye : Int) : Ex Int := (T_check_bend (p_bend)).bind fun (a26 : Unit) => (T_check_height (p_height)).bind fun (a27 : Unit) => (T_check_height (p_eye)).bind fun (a28 : Unit) => (((mulE p_bend p_height).bind fun (a29 : Int) => isqrtE a29).bind fun (a30 : Int) => ((mulE p_bend p_eye).bind fun (a31 : Int) => isqrtE a31).bind fun (a32 : Int) => .ok (a30, a32)).bind fun (c33 : (Int × Int)) => ((T_above (p_bend) (p_height) (p_eye) (((c33.1 + c33.2) + (1 : Int)))).bind fun (a34 : Bool) => if a34 = true then .ok ((c33.1 + c33.2) + (1 : Int)) else .ok (c33.1 + c33.2)).bind fun (a35 : Int) => .ok (a35)
theorem ref_greatest_distance (p_bend : Int) (p_height : Int) (p_eye : Int) : Ref (F_greatest_distance [eI p_bend, eI p_height, eI p_eye]) (T_greatest_distance p_bend p_height p_eye) eI :=
  ref_def (N := 4) (B := b_greatest_distance) rfl (g_thn (k := fun (a26 : Unit) => (eN a26, [some (.val (eI p_bend)), some (.val (eI p_height)), some (.val (eI p_eye)), none])) (SimP.then (SimP.thenP (simP_val (i := 0) rfl) (SimP.thenP SimP.ok SimP.ok)) (sim_ans (e := eN) (ref_check_bend (p_bend)))) fun (a26 : Unit) => (g_nx (g_thn (k := fun (a27 : Unit) => (eN a27, [some (.val (eI p_bend)), some (.val (eI p_height)), some (.val (eI p_eye)), none])) (SimP.then (SimP.thenP (simP_val (i := 1) rfl) (SimP.thenP SimP.ok SimP.ok)) (sim_ans (e := eN) (ref_check_height (p_height)))) fun (a27 : Unit) => (g_nx (g_thn (k := fun (a28 : Unit) => (eN a28, [some (.val (eI p_bend)), some (.val (eI p_height)), some (.val (eI p_eye)), none])) (SimP.then (SimP.thenP (simP_val (i := 2) rfl) (SimP.thenP SimP.ok SimP.ok)) (sim_ans (e := eN) (ref_check_height (p_eye)))) fun (a28 : Unit) => (g_nx (g_setE (i := 3) (k := fun (c33 : (Int × Int)) => (eI (c33.1 + c33.2), [some (.val (eI p_bend)), some (.val (eI p_height)), some (.val (eI p_eye)), none])) (Sim.then2 (k := fun (a30 : Int) => (eI a30, [some (.val (eI p_bend)), some (.val (eI p_height)), some (.val (eI p_eye)), none])) (k' := fun (a30 : Int) => fun (a32 : Int) => (eI (a30 + a32), [some (.val (eI p_bend)), some (.val (eI p_height)), some (.val (eI p_eye)), none])) (Sim.then (k := fun (a29 : Int) => ([eI a29], [some (.val (eI p_bend)), some (.val (eI p_height)), some (.val (eI p_eye)), none])) (k' := fun (a30 : Int) => (eI a30, [some (.val (eI p_bend)), some (.val (eI p_height)), some (.val (eI p_eye)), none])) (Sim.thenP (k := fun (a29 : Int) => (eI a29, [some (.val (eI p_bend)), some (.val (eI p_height)), some (.val (eI p_eye)), none])) (SimP.then (simP_val (i := 0) rfl) (SimP.then (simP_val (i := 1) rfl) (sim_lift' a_mul))) (fun (a29 : Int) => (SimP.thenP SimP.ok SimP.ok))) (fun (a29 : Int) => (sim_lift' a_isqrt))) (fun (a30 : Int) => (Sim.thenP (k := fun (a32 : Int) => (eI a32, [some (.val (eI p_bend)), some (.val (eI p_height)), some (.val (eI p_eye)), none])) (Sim.then (k := fun (a31 : Int) => ([eI a31], [some (.val (eI p_bend)), some (.val (eI p_height)), some (.val (eI p_eye)), none])) (k' := fun (a32 : Int) => (eI a32, [some (.val (eI p_bend)), some (.val (eI p_height)), some (.val (eI p_eye)), none])) (Sim.thenP (k := fun (a31 : Int) => (eI a31, [some (.val (eI p_bend)), some (.val (eI p_height)), some (.val (eI p_eye)), none])) (SimP.then (simP_val (i := 0) rfl) (SimP.then (simP_val (i := 2) rfl) (sim_lift' a_mul))) (fun (a31 : Int) => (SimP.thenP SimP.ok SimP.ok))) (fun (a31 : Int) => (sim_lift' a_isqrt))) (fun (a32 : Int) => (simP_lift o_add))))) (fun _ => rfl) fun (c33 : (Int × Int)) => (g_last (g_retE (k := fun (a35 : Int) => (eI a35, [some (.val (eI p_bend)), some (.val (eI p_height)), some (.val (eI p_eye)), some (.val (eI (c33.1 + c33.2)))])) (Sim.then (k := fun (a34 : Bool) => (a34, [some (.val (eI p_bend)), some (.val (eI p_height)), some (.val (eI p_eye)), some (.val (eI (c33.1 + c33.2)))])) (k' := fun (z : Int) => (eI z, [some (.val (eI p_bend)), some (.val (eI p_height)), some (.val (eI p_eye)), some (.val (eI (c33.1 + c33.2)))])) (Sim.thenP (k := fun (a34 : Bool) => (eB a34, [some (.val (eI p_bend)), some (.val (eI p_height)), some (.val (eI p_eye)), some (.val (eI (c33.1 + c33.2)))])) (SimP.then (SimP.thenP (simP_val (i := 0) rfl) (SimP.thenP (SimP.thenP (simP_val (i := 1) rfl) (SimP.thenP (SimP.thenP (simP_val (i := 2) rfl) (SimP.thenP (SimP.thenP (SimP.thenP (simP_val (i := 3) rfl) (SimP.thenP SimP.ok (simP_lift o_add))) (SimP.thenP SimP.ok SimP.ok)) SimP.ok)) SimP.ok)) SimP.ok)) (sim_ans (e := eB) (ref_above (p_bend) (p_height) (p_eye) (((c33.1 + c33.2) + (1 : Int)))))) (fun (a34 : Bool) => SimP.ok)) (fun (a34 : Bool) => sim_iteR (k := fun (z : Int) => (eI z, [some (.val (eI p_bend)), some (.val (eI p_height)), some (.val (eI p_eye)), some (.val (eI (c33.1 + c33.2)))])) (SimP.sim (k := fun (z0 : Int) => (eI z0, [some (.val (eI p_bend)), some (.val (eI p_height)), some (.val (eI p_eye)), some (.val (eI (c33.1 + c33.2)))])) (a := ((c33.1 + c33.2) + (1 : Int))) (SimP.thenP (simP_val (i := 3) rfl) (SimP.thenP SimP.ok (simP_lift o_add)))) (SimP.sim (k := fun (z0 : Int) => (eI z0, [some (.val (eI p_bend)), some (.val (eI p_height)), some (.val (eI p_eye)), some (.val (eI (c33.1 + c33.2)))])) (a := (c33.1 + c33.2)) (simP_val (i := 3) rfl)))) (by exact (fun (a35 : Int) => kd_ret)))))))))))
def TF__law_draws (p_script : (List Int)) : Ex (List Int) := Ex.noX ((forE (fun (x37 : Int) (s36 : (List Int)) => (Ex.put ((Int.natAbs x37 : Nat) : Int)).bind fun (v38 : Int) => ((if (decide (v38 < (1000000000000000000 : Int))) = true then (mulE v38 (48271 : Int)).bind fun (a44 : Int) => (mulE ((a44 + (11 : Int)) % (2147483647 : Int)) (69621 : Int)).bind fun (a45 : Int) => (capE s36 ((a45 + v38) % (2147483629 : Int))).bind fun l46 => (capE l46 ((((a44 + (11 : Int)) % (2147483647 : Int)) + (v38 / (7 : Int))) % (1000003 : Int))).bind fun l47 => .ok (l47, (0 : Int)) else .ok (s36, v38)) : Ex ((List Int) × Int)).bind fun s43 => (forE (fun (x49 : Int) (s48 : ((List Int) × Int)) => if (decide ((0 : Int) < s48.2)) = true then (capE s48.1 (s48.2 % (997 : Int))).bind fun l50 => .ok (l50, (s48.2 / (997 : Int))) else .ok (s48.1, s48.2)) (ranI 0 ((60 : Int)).toNat) (s43.1, s43.2)).bind fun s48 => .ok s48.1) p_script ([] : List Int)).bind fun s36 => ((if (decide ((0 : Int) < (List.length p_script : Int))) = true then (ixE p_script (0 : Int)).bind fun (a53 : Int) => .ok ((1 : Int) + ((Int.natAbs a53 : Nat) : Int)) else .ok (1 : Int)) : Ex Int).bind fun s52 => (forE (fun (x55 : Int) (s54 : ((List Int) × Int)) => (mulE s54.2 (48271 : Int)).bind fun (a56 : Int) => (capE s54.1 (((a56 + (69621 : Int)) % (2147483647 : Int)) / (5 : Int))).bind fun l57 => .ok (l57, ((a56 + (69621 : Int)) % (2147483647 : Int)))) (ranI 0 ((900 : Int)).toNat) (s36, s52)).bind fun s54 => .ok ((List.reverse s54.1)))
theorem reff__law_draws (p_script : (List Int)) : RefF (FF__law_draws [(eL eI) p_script]) (TF__law_draws p_script) (fun l => List.map eI l) :=
  refF_noX (ref_defF (N := 7) (B := fb__law_draws) rfl (g_setFP (i := 1) (simP_chk SimP.ok rfl) rfl (g_forP (P := (fun s36 : (List Int) => [some (.val ((eL eI) p_script)), some (.own (List.map eI s36)), none, none, none, none, none])) (e := eI) (G := (fun (x37 : Int) (s36 : (List Int)) => [some (.val ((eL eI) p_script)), some (.own (List.map eI s36)), some (.val (eI x37)), none, none, none, none])) (s0 := ([] : List Int)) (SimP.thenP (simP_val (i := 0) rfl) (simP_lift (o_itL (e := eI) (xs := p_script)))) (ple_forget [] rfl rfl) (fun x37 s36 => (tg_name (i := 2) rfl)) (fun x37 s36 => (g_setE (i := 3) (k := fun (v38 : Int) => (eI v38, [some (.val ((eL eI) p_script)), some (.own (List.map eI s36)), some (.val (eI x37)), none, none, none, none])) (SimP.put (k := fun (z0 : Int) => (eI z0, [some (.val ((eL eI) p_script)), some (.own (List.map eI s36)), some (.val (eI x37)), none, none, none, none])) (a := ((Int.natAbs x37 : Nat) : Int)) (SimP.thenP (SimP.thenP (simP_val (i := 2) rfl) (SimP.thenP SimP.ok SimP.ok)) (simP_lift o_abs))) (fun _ => rfl) fun v38 => (g_ifJ (P := (fun s43 : ((List Int) × Int) => [some (.val ((eL eI) p_script)), some (.own (List.map eI s43.1)), some (.val (eI x37)), some (.val (eI s43.2)), none, none, none])) (SimP.thenP (SimP.thenP (simP_val (i := 3) rfl) (SimP.thenP (SimP.thenP SimP.ok (SimP.thenP SimP.ok (simP_lift (o_pow (by decide) (by decide +kernel))))) (simP_lift o_lt))) SimP.ok) (g_setE (i := 4) (k := fun (a44 : Int) => (eI ((a44 + (11 : Int)) % (2147483647 : Int)), [some (.val ((eL eI) p_script)), some (.own (List.map eI s36)), some (.val (eI x37)), some (.val (eI v38)), none, none, none])) (Sim.thenP (k := fun (a44 : Int) => (eI (a44 + (11 : Int)), [some (.val ((eL eI) p_script)), some (.own (List.map eI s36)), some (.val (eI x37)), some (.val (eI v38)), none, none, none])) (Sim.thenP (k := fun (a44 : Int) => ([eI (a44 + (11 : Int))], [some (.val ((eL eI) p_script)), some (.own (List.map eI s36)), some (.val (eI x37)), some (.val (eI v38)), none, none, none])) (Sim.thenP (k := fun (a44 : Int) => (eI (a44 + (11 : Int)), [some (.val ((eL eI) p_script)), some (.own (List.map eI s36)), some (.val (eI x37)), some (.val (eI v38)), none, none, none])) (Sim.thenP (k := fun (a44 : Int) => (eI a44, [some (.val ((eL eI) p_script)), some (.own (List.map eI s36)), some (.val (eI x37)), some (.val (eI v38)), none, none, none])) (SimP.then (simP_val (i := 3) rfl) (SimP.then SimP.ok (sim_lift' a_mul))) (fun (a44 : Int) => (SimP.thenP SimP.ok (simP_lift o_add)))) (fun (a44 : Int) => (SimP.thenP SimP.ok SimP.ok))) (fun (a44 : Int) => (simP_lift o_int))) (fun (a44 : Int) => (SimP.thenP SimP.ok (simP_lift (o_mod (by decide)))))) (fun _ => rfl) fun (a44 : Int) => (g_appE (k := fun (a45 : Int) => (eI ((a45 + v38) % (2147483629 : Int)), [some (.val ((eL eI) p_script)), some (.own (List.map eI s36)), some (.val (eI x37)), some (.val (eI v38)), some (.val (eI ((a44 + (11 : Int)) % (2147483647 : Int)))), none, none])) (i := 1) (e := eI) (x := fun (a45 : Int) => ((a45 + v38) % (2147483629 : Int))) (xs := s36) ⟨_, rfl⟩ (Sim.thenP (k := fun (a45 : Int) => (eI (a45 + v38), [some (.val ((eL eI) p_script)), some (.own (List.map eI s36)), some (.val (eI x37)), some (.val (eI v38)), some (.val (eI ((a44 + (11 : Int)) % (2147483647 : Int)))), none, none])) (Sim.thenP (k := fun (a45 : Int) => ([eI (a45 + v38)], [some (.val ((eL eI) p_script)), some (.own (List.map eI s36)), some (.val (eI x37)), some (.val (eI v38)), some (.val (eI ((a44 + (11 : Int)) % (2147483647 : Int)))), none, none])) (Sim.thenP (k := fun (a45 : Int) => (eI (a45 + v38), [some (.val ((eL eI) p_script)), some (.own (List.map eI s36)), some (.val (eI x37)), some (.val (eI v38)), some (.val (eI ((a44 + (11 : Int)) % (2147483647 : Int)))), none, none])) (Sim.thenP (k := fun (a45 : Int) => (eI a45, [some (.val ((eL eI) p_script)), some (.own (List.map eI s36)), some (.val (eI x37)), some (.val (eI v38)), some (.val (eI ((a44 + (11 : Int)) % (2147483647 : Int)))), none, none])) (SimP.then (simP_val (i := 4) rfl) (SimP.then SimP.ok (sim_lift' a_mul))) (fun (a45 : Int) => (SimP.thenP (simP_val (i := 3) rfl) (simP_lift o_add)))) (fun (a45 : Int) => (SimP.thenP SimP.ok SimP.ok))) (fun (a45 : Int) => (simP_lift o_int))) (fun (a45 : Int) => (SimP.thenP SimP.ok (simP_lift (o_mod (by decide)))))) (fun _ => rfl) (fun _ => rfl) fun (a45 : Int) l46 => (g_app (i := 1) (e := eI) (x := ((((a44 + (11 : Int)) % (2147483647 : Int)) + (v38 / (7 : Int))) % (1000003 : Int))) (xs := l46) ⟨_, rfl⟩ (SimP.thenP (SimP.thenP (SimP.thenP (SimP.thenP (simP_val (i := 4) rfl) (SimP.thenP (SimP.thenP (simP_val (i := 3) rfl) (SimP.thenP SimP.ok (simP_lift (o_div (by decide))))) (simP_lift o_add))) (SimP.thenP SimP.ok SimP.ok)) (simP_lift o_int)) (SimP.thenP SimP.ok (simP_lift (o_mod (by decide))))) rfl fun l47 => (g_last (g_setP (i := 3) (d := eI (0 : Int)) SimP.ok rfl (kn_end (s := (l47, (0 : Int))) (ple_forget [4] rfl rfl))))))) (kn_end (s := (s36, v38)) (ple_forget [] rfl rfl)) fun s43 => (g_last (g_forP (P := (fun s48 : ((List Int) × Int) => [some (.val ((eL eI) p_script)), some (.own (List.map eI s48.1)), some (.val (eI x37)), some (.val (eI s48.2)), none, none, none])) (e := eI) (G := (fun (x49 : Int) (s48 : ((List Int) × Int)) => [some (.val ((eL eI) p_script)), some (.own (List.map eI s48.1)), some (.val (eI x37)), some (.val (eI s48.2)), none, some (.val (eI x49)), none])) (s0 := (s43.1, s43.2)) (SimP.thenP (SimP.thenP SimP.ok (SimP.thenP SimP.ok SimP.ok)) (simP_lift (o_rng1 (by decide)))) (ple_forget [] rfl rfl) (fun x49 s48 => (tg_name (i := 5) rfl)) (fun x49 s48 => (g_last (g_ifP (SimP.thenP (SimP.thenP (simP_val (i := 3) rfl) (SimP.thenP SimP.ok (simP_lift o_gt))) SimP.ok) (g_flat (g_app (i := 1) (e := eI) (x := (s48.2 % (997 : Int))) (xs := s48.1) ⟨_, rfl⟩ (SimP.thenP (SimP.thenP (SimP.thenP (simP_val (i := 3) rfl) (SimP.thenP SimP.ok SimP.ok)) (simP_lift o_int)) (SimP.thenP SimP.ok (simP_lift (o_mod (by decide))))) rfl fun l50 => (g_setP (i := 3) (d := eI (s48.2 / (997 : Int))) (SimP.thenP (simP_val (i := 3) rfl) (SimP.thenP SimP.ok (simP_lift (o_div (by decide))))) rfl (g_last (g_nx (kl_end (s := (l50, (s48.2 / (997 : Int)))) (ple_forget [5] rfl rfl))))))) (g_nx (kl_end (s := (s48.1, s48.2)) (ple_forget [5] rfl rfl)))))) fun s48 => (kl_end (s := s48.1) (ple_forget [2, 3] rfl rfl))))))) fun s36 => (g_setP (i := 6) (d := eI (1 : Int)) SimP.ok rfl (g_ifJ (P := (fun s52 : Int => [some (.val ((eL eI) p_script)), some (.own (List.map eI s36)), none, none, none, none, some (.val (eI s52))])) (SimP.thenP (SimP.thenP (SimP.thenP (SimP.thenP (simP_val (i := 0) rfl) (SimP.thenP SimP.ok SimP.ok)) (simP_lift (o_lenL (e := eI) (xs := p_script)))) (SimP.thenP SimP.ok (simP_lift o_gt))) SimP.ok) (g_last (g_setE (i := 6) (k := fun (a53 : Int) => (eI ((1 : Int) + ((Int.natAbs a53 : Nat) : Int)), [some (.val ((eL eI) p_script)), some (.own (List.map eI s36)), none, none, none, none, some (.val (eI (1 : Int)))])) (SimP.then SimP.ok (Sim.thenP (k := fun (a53 : Int) => (eI ((Int.natAbs a53 : Nat) : Int), [some (.val ((eL eI) p_script)), some (.own (List.map eI s36)), none, none, none, none, some (.val (eI (1 : Int)))])) (Sim.thenP (k := fun (a53 : Int) => ([eI a53], [some (.val ((eL eI) p_script)), some (.own (List.map eI s36)), none, none, none, none, some (.val (eI (1 : Int)))])) (Sim.thenP (k := fun (a53 : Int) => (eI a53, [some (.val ((eL eI) p_script)), some (.own (List.map eI s36)), none, none, none, none, some (.val (eI (1 : Int)))])) (SimP.then (simP_val (i := 0) rfl) (SimP.then SimP.ok (sim_lift' (e := eI) (a_ixL (xs := p_script))))) (fun (a53 : Int) => (SimP.thenP SimP.ok SimP.ok))) (fun (a53 : Int) => (simP_lift o_abs))) (fun (a53 : Int) => (simP_lift o_add)))) (fun _ => rfl) fun (a53 : Int) => (kn_end (s := ((1 : Int) + ((Int.natAbs a53 : Nat) : Int))) (ple_forget [] rfl rfl)))) (kn_end (s := (1 : Int)) (ple_forget [] rfl rfl)) fun s52 => (g_forP (P := (fun s54 : ((List Int) × Int) => [some (.val ((eL eI) p_script)), some (.own (List.map eI s54.1)), none, none, none, none, some (.val (eI s54.2))])) (e := eI) (G := (fun (x55 : Int) (s54 : ((List Int) × Int)) => [some (.val ((eL eI) p_script)), some (.own (List.map eI s54.1)), none, none, none, some (.val (eI x55)), some (.val (eI s54.2))])) (s0 := (s36, s52)) (SimP.thenP (SimP.thenP SimP.ok (SimP.thenP SimP.ok SimP.ok)) (simP_lift (o_rng1 (by decide)))) (ple_forget [] rfl rfl) (fun x55 s54 => (tg_name (i := 5) rfl)) (fun x55 s54 => (g_setE (i := 6) (k := fun (a56 : Int) => (eI ((a56 + (69621 : Int)) % (2147483647 : Int)), [some (.val ((eL eI) p_script)), some (.own (List.map eI s54.1)), none, none, none, some (.val (eI x55)), some (.val (eI s54.2))])) (Sim.thenP (k := fun (a56 : Int) => (eI (a56 + (69621 : Int)), [some (.val ((eL eI) p_script)), some (.own (List.map eI s54.1)), none, none, none, some (.val (eI x55)), some (.val (eI s54.2))])) (Sim.thenP (k := fun (a56 : Int) => ([eI (a56 + (69621 : Int))], [some (.val ((eL eI) p_script)), some (.own (List.map eI s54.1)), none, none, none, some (.val (eI x55)), some (.val (eI s54.2))])) (Sim.thenP (k := fun (a56 : Int) => (eI (a56 + (69621 : Int)), [some (.val ((eL eI) p_script)), some (.own (List.map eI s54.1)), none, none, none, some (.val (eI x55)), some (.val (eI s54.2))])) (Sim.thenP (k := fun (a56 : Int) => (eI a56, [some (.val ((eL eI) p_script)), some (.own (List.map eI s54.1)), none, none, none, some (.val (eI x55)), some (.val (eI s54.2))])) (SimP.then (simP_val (i := 6) rfl) (SimP.then SimP.ok (sim_lift' a_mul))) (fun (a56 : Int) => (SimP.thenP SimP.ok (simP_lift o_add)))) (fun (a56 : Int) => (SimP.thenP SimP.ok SimP.ok))) (fun (a56 : Int) => (simP_lift o_int))) (fun (a56 : Int) => (SimP.thenP SimP.ok (simP_lift (o_mod (by decide)))))) (fun _ => rfl) fun (a56 : Int) => (g_last (g_app (i := 1) (e := eI) (x := (((a56 + (69621 : Int)) % (2147483647 : Int)) / (5 : Int))) (xs := s54.1) ⟨_, rfl⟩ (SimP.thenP (simP_val (i := 6) rfl) (SimP.thenP SimP.ok (simP_lift (o_div (by decide))))) rfl fun l57 => (kl_end (s := (l57, ((a56 + (69621 : Int)) % (2147483647 : Int)))) (ple_forget [5] rfl rfl)))))) fun s54 => (g_last (g_retFP (SimP.thenP (simP_own (i := 1) rfl) (simP_rvR (e := eI) (xs := s54.1))) (by exact kf_ret)))))))))
def T__law_says (p_told : D) (p_due : Bool) : Ex Bool := (if (isD .bool p_told) = true then (eqDE p_told (eB p_due)).bind fun (a58 : Bool) => .ok (a58) else .ok false).bind fun (a59 : Bool) => .ok (a59)
theorem ref__law_says (p_told : D) (p_due : Bool) : Ref (F__law_says [eD p_told, eB p_due]) (T__law_says p_told p_due) eB :=
  ref_def (N := 2) (B := b__law_says) rfl (g_last (g_retE (k := fun (a59 : Bool) => (eB a59, [some (.val (eD p_told)), some (.val (eB p_due))])) (sim_vAnd (v := fun (a58 : Bool) => a58) (SimP.thenP (simP_val (i := 0) rfl) SimP.ok) (SimP.then (simP_val (i := 0) rfl) (SimP.then (simP_val (i := 1) rfl) (sim_lift' (e := eB) a_eqD)))) (by exact (fun (a59 : Bool) => kd_ret))))
def T__law_told (p_which : Int) (p_bend : Int) (p_one : Int) (p_two : Int) (p_three : Int) : Ex D := tryE wordsOf (fun s => (eS s)) (if (decide (p_which = (0 : Int))) = true then (T_is_above (p_bend) (p_one) (p_two) (p_three)).bind fun (a60 : Bool) => .ok ((eB a60)) else (if (decide (p_which = (1 : Int))) = true then (T_least_height (p_bend) (p_one) (p_three)).bind fun (a61 : (Option Int)) => .ok ((eO eI) a61) else (T_greatest_distance (p_bend) (p_one) (p_two)).bind fun (a62 : Int) => .ok (eI a62)).bind fun (a63 : D) => .ok (a63))
theorem ref__law_told (p_which : Int) (p_bend : Int) (p_one : Int) (p_two : Int) (p_three : Int) : Ref (F__law_told [eI p_which, eI p_bend, eI p_one, eI p_two, eI p_three]) (T__law_told p_which p_bend p_one p_two p_three) eD :=
  ref_defTry (N := 6) rfl (g_ifP (SimP.thenP (SimP.thenP (simP_val (i := 0) rfl) (SimP.thenP SimP.ok (simP_lift (o_eq (e := eI) (x := p_which) (y := (0 : Int)) q_int (by decide))))) SimP.ok) (g_retE (k := fun (a60 : Bool) => (eD (eB a60), [some (.val (eI p_which)), some (.val (eI p_bend)), some (.val (eI p_one)), some (.val (eI p_two)), some (.val (eI p_three)), none])) (SimP.then (SimP.thenP (simP_val (i := 1) rfl) (SimP.thenP (SimP.thenP (simP_val (i := 2) rfl) (SimP.thenP (SimP.thenP (simP_val (i := 3) rfl) (SimP.thenP (SimP.thenP (simP_val (i := 4) rfl) (SimP.thenP SimP.ok SimP.ok)) SimP.ok)) SimP.ok)) SimP.ok)) (sim_ans (e := eB) (ref_is_above (p_bend) (p_one) (p_two) (p_three)))) (by exact (fun (a60 : Bool) => kd_ret))) (g_nx (g_last (g_retE (k := fun (a63 : D) => (eD a63, [some (.val (eI p_which)), some (.val (eI p_bend)), some (.val (eI p_one)), some (.val (eI p_two)), some (.val (eI p_three)), none])) (sim_ite (k := fun (z : D) => (eD z, [some (.val (eI p_which)), some (.val (eI p_bend)), some (.val (eI p_one)), some (.val (eI p_two)), some (.val (eI p_three)), none])) (SimP.thenP (SimP.thenP (simP_val (i := 0) rfl) (SimP.thenP SimP.ok (simP_lift (o_eq (e := eI) (x := p_which) (y := (1 : Int)) q_int (by decide))))) SimP.ok) (Sim.map (k := fun (a61 : (Option Int)) => (eD ((eO eI) a61), [some (.val (eI p_which)), some (.val (eI p_bend)), some (.val (eI p_one)), some (.val (eI p_two)), some (.val (eI p_three)), none])) (m := fun (a61 : (Option Int)) => ((eO eI) a61)) (SimP.then (SimP.thenP (simP_val (i := 1) rfl) (SimP.thenP (SimP.thenP (simP_val (i := 2) rfl) (SimP.thenP (SimP.thenP (simP_val (i := 4) rfl) (SimP.thenP SimP.ok SimP.ok)) SimP.ok)) SimP.ok)) (sim_ans (e := (eO eI)) (ref_least_height (p_bend) (p_one) (p_three)))) fun _ => rfl) (Sim.map (k := fun (a62 : Int) => (eD (eI a62), [some (.val (eI p_which)), some (.val (eI p_bend)), some (.val (eI p_one)), some (.val (eI p_two)), some (.val (eI p_three)), none])) (m := fun (a62 : Int) => (eI a62)) (SimP.then (SimP.thenP (simP_val (i := 1) rfl) (SimP.thenP (SimP.thenP (simP_val (i := 2) rfl) (SimP.thenP (SimP.thenP (simP_val (i := 3) rfl) (SimP.thenP SimP.ok SimP.ok)) SimP.ok)) SimP.ok)) (sim_ans (e := eI) (ref_greatest_distance (p_bend) (p_one) (p_two)))) fun _ => rfl)) (by exact (fun (a63 : D) => kd_ret)))))) (fun _ => rfl)
def T__law_root (p_number : Int) : Ex Int := (whileE (fun (s64 : (Int × Int)) => .ok (decide ((1 : Int) < (s64.2 - s64.1)))) (fun (s64 : (Int × Int)) => (Ex.put ((s64.1 + s64.2) / (2 : Int))).bind fun (v65 : Int) => (mulE v65 v65).bind fun (a66 : Int) => if (decide (a66 ≤ p_number)) = true then .ok (v65, s64.2) else .ok (s64.1, v65)) 100000 ((0 : Int), (p_number + (1 : Int)))).bind fun s64 => .ok (s64.1)
theorem ref__law_root (p_number : Int) : Ref (F__law_root [eI p_number]) (T__law_root p_number) eI :=
  ref_def (N := 4) (B := b__law_root) rfl (g_thnP (SimP.thenP SimP.ok (SimP.thenP (SimP.thenP (SimP.thenP (simP_val (i := 0) rfl) (SimP.thenP SimP.ok (simP_lift o_add))) (SimP.thenP SimP.ok SimP.ok)) SimP.ok)) (g_set2 rfl rfl (g_while (P := (fun s64 : (Int × Int) => [some (.val (eI p_number)), some (.val (eI s64.1)), some (.val (eI s64.2)), none])) (Q := (fun s64 : (Int × Int) => [some (.val (eI p_number)), some (.val (eI s64.1)), some (.val (eI s64.2)), none])) (s0 := ((0 : Int), (p_number + (1 : Int)))) (ple_forget [] rfl rfl) (fun s64 => (SimP.sim (k := fun (z0 : Bool) => (z0, [some (.val (eI p_number)), some (.val (eI s64.1)), some (.val (eI s64.2)), none])) (a := (decide ((1 : Int) < (s64.2 - s64.1)))) (SimP.thenP (SimP.thenP (SimP.thenP (simP_val (i := 2) rfl) (SimP.thenP (simP_val (i := 1) rfl) (simP_lift o_sub))) (SimP.thenP SimP.ok (simP_lift o_gt))) SimP.ok))) (fun s64 => (g_setE (i := 3) (k := fun (v65 : Int) => (eI v65, [some (.val (eI p_number)), some (.val (eI s64.1)), some (.val (eI s64.2)), none])) (SimP.put (k := fun (z0 : Int) => (eI z0, [some (.val (eI p_number)), some (.val (eI s64.1)), some (.val (eI s64.2)), none])) (a := ((s64.1 + s64.2) / (2 : Int))) (SimP.thenP (SimP.thenP (simP_val (i := 1) rfl) (SimP.thenP (simP_val (i := 2) rfl) (simP_lift o_add))) (SimP.thenP SimP.ok (simP_lift (o_div (by decide)))))) (fun _ => rfl) fun v65 => (g_last (g_ifE (k := fun (a66 : Int) => ((decide (a66 ≤ p_number)), [some (.val (eI p_number)), some (.val (eI s64.1)), some (.val (eI s64.2)), some (.val (eI v65))])) (Sim.thenP (k := fun (a66 : Int) => (eB (decide (a66 ≤ p_number)), [some (.val (eI p_number)), some (.val (eI s64.1)), some (.val (eI s64.2)), some (.val (eI v65))])) (Sim.thenP (k := fun (a66 : Int) => (eI a66, [some (.val (eI p_number)), some (.val (eI s64.1)), some (.val (eI s64.2)), some (.val (eI v65))])) (SimP.then (simP_val (i := 3) rfl) (SimP.then (simP_val (i := 3) rfl) (sim_lift' a_mul))) (fun (a66 : Int) => (SimP.thenP (simP_val (i := 0) rfl) (simP_lift o_le)))) (fun (a66 : Int) => SimP.ok)) (fun (a66 : Int) => (g_setP (i := 1) (d := eI v65) (simP_val (i := 3) rfl) rfl (kl_end (s := (v65, s64.2)) (ple_forget [3] rfl rfl)))) fun (a66 : Int) => (g_setP (i := 2) (d := eI v65) (simP_val (i := 3) rfl) rfl (kl_end (s := (s64.1, v65)) (ple_forget [3] rfl rfl))))))) (fun _ => PLe.refl _) fun s64 => (g_last (g_retP (simP_val (i := 1) rfl) (by exact kd_ret))))))
def T__law_above (p_bend : Int) (p_height : Int) (p_eye : Int) (p_distance : Int) : Ex Bool := ((((mulE p_bend p_height).bind fun (a67 : Int) => mulE a67 (1000000000000000000000000 : Int)).bind fun (a68 : Int) => T__law_root (a68)).bind fun (a69 : Int) => (((mulE p_bend p_eye).bind fun (a70 : Int) => mulE a70 (1000000000000000000000000 : Int)).bind fun (a71 : Int) => T__law_root (a71)).bind fun (a72 : Int) => .ok (a69, a72)).bind fun (c73 : (Int × Int)) => (mulE p_distance (1000000000000 : Int)).bind fun (a74 : Int) => if (decide (a74 ≤ (c73.1 + c73.2))) = true then .ok (true) else if (decide (((c73.1 + c73.2) + (2 : Int)) < a74)) = true then .ok (false) else (((mulE c73.1 c73.1).bind fun (a75 : Int) => ((mulE p_bend p_height).bind fun (a76 : Int) => mulE a76 (1000000000000000000000000 : Int)).bind fun (a77 : Int) => .ok (a75, a77)).bind fun c78 => if (decide (c78.1 = c78.2)) = true then ((mulE c73.2 c73.2).bind fun (a79 : Int) => ((mulE p_bend p_eye).bind fun (a80 : Int) => mulE a80 (1000000000000000000000000 : Int)).bind fun (a81 : Int) => .ok (a79, a81)).bind fun (c82 : (Int × Int)) => .ok (((decide (c82.1 = c82.2)) && (decide (a74 = (c73.1 + c73.2))))) else .ok false).bind fun (a83 : Bool) => .ok (a83)
theorem ref__law_above (p_bend : Int) (p_height : Int) (p_eye : Int) (p_distance : Int) : Ref (F__law_above [eI p_bend, eI p_height, eI p_eye, eI p_distance]) (T__law_above p_bend p_height p_eye p_distance) eB :=
  ref_def (N := 7) (B := b__law_above) rfl (g_thn (k := fun (c73 : (Int × Int)) => ([eI c73.1, eI c73.2], [some (.val (eI p_bend)), some (.val (eI p_height)), some (.val (eI p_eye)), some (.val (eI p_distance)), none, none, none])) (Sim.then2 (k := fun (a69 : Int) => (eI a69, [some (.val (eI p_bend)), some (.val (eI p_height)), some (.val (eI p_eye)), some (.val (eI p_distance)), none, none, none])) (k' := fun (a69 : Int) => fun (a72 : Int) => ([eI a69, eI a72], [some (.val (eI p_bend)), some (.val (eI p_height)), some (.val (eI p_eye)), some (.val (eI p_distance)), none, none, none])) (Sim.then (k := fun (a68 : Int) => ([eI a68], [some (.val (eI p_bend)), some (.val (eI p_height)), some (.val (eI p_eye)), some (.val (eI p_distance)), none, none, none])) (k' := fun (a69 : Int) => (eI a69, [some (.val (eI p_bend)), some (.val (eI p_height)), some (.val (eI p_eye)), some (.val (eI p_distance)), none, none, none])) (Sim.thenP (k := fun (a68 : Int) => (eI a68, [some (.val (eI p_bend)), some (.val (eI p_height)), some (.val (eI p_eye)), some (.val (eI p_distance)), none, none, none])) (Sim.then (k := fun (a67 : Int) => (eI a67, [some (.val (eI p_bend)), some (.val (eI p_height)), some (.val (eI p_eye)), some (.val (eI p_distance)), none, none, none])) (k' := fun (a68 : Int) => (eI a68, [some (.val (eI p_bend)), some (.val (eI p_height)), some (.val (eI p_eye)), some (.val (eI p_distance)), none, none, none])) (SimP.then (simP_val (i := 0) rfl) (SimP.then (simP_val (i := 1) rfl) (sim_lift' a_mul))) (fun (a67 : Int) => (SimP.then (SimP.thenP SimP.ok (SimP.thenP SimP.ok (simP_lift (o_pow (by decide) (by decide +kernel))))) (sim_lift' a_mul)))) (fun (a68 : Int) => (SimP.thenP SimP.ok SimP.ok))) (fun (a68 : Int) => (sim_ans (e := eI) (ref__law_root (a68))))) (fun (a69 : Int) => (Sim.thenP (k := fun (a72 : Int) => ([eI a72], [some (.val (eI p_bend)), some (.val (eI p_height)), some (.val (eI p_eye)), some (.val (eI p_distance)), none, none, none])) (Sim.thenP (k := fun (a72 : Int) => (eI a72, [some (.val (eI p_bend)), some (.val (eI p_height)), some (.val (eI p_eye)), some (.val (eI p_distance)), none, none, none])) (Sim.then (k := fun (a71 : Int) => ([eI a71], [some (.val (eI p_bend)), some (.val (eI p_height)), some (.val (eI p_eye)), some (.val (eI p_distance)), none, none, none])) (k' := fun (a72 : Int) => (eI a72, [some (.val (eI p_bend)), some (.val (eI p_height)), some (.val (eI p_eye)), some (.val (eI p_distance)), none, none, none])) (Sim.thenP (k := fun (a71 : Int) => (eI a71, [some (.val (eI p_bend)), some (.val (eI p_height)), some (.val (eI p_eye)), some (.val (eI p_distance)), none, none, none])) (Sim.then (k := fun (a70 : Int) => (eI a70, [some (.val (eI p_bend)), some (.val (eI p_height)), some (.val (eI p_eye)), some (.val (eI p_distance)), none, none, none])) (k' := fun (a71 : Int) => (eI a71, [some (.val (eI p_bend)), some (.val (eI p_height)), some (.val (eI p_eye)), some (.val (eI p_distance)), none, none, none])) (SimP.then (simP_val (i := 0) rfl) (SimP.then (simP_val (i := 2) rfl) (sim_lift' a_mul))) (fun (a70 : Int) => (SimP.then (SimP.thenP SimP.ok (SimP.thenP SimP.ok (simP_lift (o_pow (by decide) (by decide +kernel))))) (sim_lift' a_mul)))) (fun (a71 : Int) => (SimP.thenP SimP.ok SimP.ok))) (fun (a71 : Int) => (sim_ans (e := eI) (ref__law_root (a71))))) (fun (a72 : Int) => (SimP.thenP SimP.ok SimP.ok))) (fun (a72 : Int) => SimP.ok)))) fun (c73 : (Int × Int)) => g_set2 rfl rfl (g_setE (i := 6) (k := fun (a74 : Int) => (eI a74, [some (.val (eI p_bend)), some (.val (eI p_height)), some (.val (eI p_eye)), some (.val (eI p_distance)), some (.val (eI c73.1)), some (.val (eI c73.2)), none])) (SimP.then (simP_val (i := 3) rfl) (SimP.then (SimP.thenP SimP.ok (SimP.thenP SimP.ok (simP_lift (o_pow (by decide) (by decide +kernel))))) (sim_lift' a_mul))) (fun _ => rfl) fun (a74 : Int) => (g_ifP (SimP.thenP (SimP.thenP (simP_val (i := 6) rfl) (SimP.thenP (SimP.thenP (simP_val (i := 4) rfl) (SimP.thenP (simP_val (i := 5) rfl) (simP_lift o_add))) (simP_lift o_le))) SimP.ok) (g_retP SimP.ok (by exact kd_ret)) (g_nx (g_ifP (SimP.thenP (SimP.thenP (simP_val (i := 6) rfl) (SimP.thenP (SimP.thenP (SimP.thenP (simP_val (i := 4) rfl) (SimP.thenP (simP_val (i := 5) rfl) (simP_lift o_add))) (SimP.thenP SimP.ok (simP_lift o_add))) (simP_lift o_gt))) SimP.ok) (g_retP SimP.ok (by exact kd_ret)) (g_nx (g_last (g_retE (k := fun (a83 : Bool) => (eB a83, [some (.val (eI p_bend)), some (.val (eI p_height)), some (.val (eI p_eye)), some (.val (eI p_distance)), some (.val (eI c73.1)), some (.val (eI c73.2)), some (.val (eI a74))])) (Sim.then (k := fun (c78 : (Int × Int)) => (eB (decide (c78.1 = c78.2)), [some (.val (eI p_bend)), some (.val (eI p_height)), some (.val (eI p_eye)), some (.val (eI p_distance)), some (.val (eI c73.1)), some (.val (eI c73.2)), some (.val (eI a74))])) (k' := fun (a83 : Bool) => (eB a83, [some (.val (eI p_bend)), some (.val (eI p_height)), some (.val (eI p_eye)), some (.val (eI p_distance)), some (.val (eI c73.1)), some (.val (eI c73.2)), some (.val (eI a74))])) (Sim.then2 (k := fun (a75 : Int) => (eI a75, [some (.val (eI p_bend)), some (.val (eI p_height)), some (.val (eI p_eye)), some (.val (eI p_distance)), some (.val (eI c73.1)), some (.val (eI c73.2)), some (.val (eI a74))])) (k' := fun (a75 : Int) => fun (a77 : Int) => (eB (decide (a75 = a77)), [some (.val (eI p_bend)), some (.val (eI p_height)), some (.val (eI p_eye)), some (.val (eI p_distance)), some (.val (eI c73.1)), some (.val (eI c73.2)), some (.val (eI a74))])) (SimP.then (simP_val (i := 4) rfl) (SimP.then (simP_val (i := 4) rfl) (sim_lift' a_mul))) (fun (a75 : Int) => (Sim.thenP (k := fun (a77 : Int) => (eI a77, [some (.val (eI p_bend)), some (.val (eI p_height)), some (.val (eI p_eye)), some (.val (eI p_distance)), some (.val (eI c73.1)), some (.val (eI c73.2)), some (.val (eI a74))])) (Sim.then (k := fun (a76 : Int) => (eI a76, [some (.val (eI p_bend)), some (.val (eI p_height)), some (.val (eI p_eye)), some (.val (eI p_distance)), some (.val (eI c73.1)), some (.val (eI c73.2)), some (.val (eI a74))])) (k' := fun (a77 : Int) => (eI a77, [some (.val (eI p_bend)), some (.val (eI p_height)), some (.val (eI p_eye)), some (.val (eI p_distance)), some (.val (eI c73.1)), some (.val (eI c73.2)), some (.val (eI a74))])) (SimP.then (simP_val (i := 0) rfl) (SimP.then (simP_val (i := 1) rfl) (sim_lift' a_mul))) (fun (a76 : Int) => (SimP.then (SimP.thenP SimP.ok (SimP.thenP SimP.ok (simP_lift (o_pow (by decide) (by decide +kernel))))) (sim_lift' a_mul)))) (fun (a77 : Int) => (simP_lift (o_eq (e := eI) (x := a75) (y := a77) q_int (by decide))))))) (fun (c78 : (Int × Int)) => sim_vAndR (v := fun (c82 : (Int × Int)) => ((decide (c82.1 = c82.2)) && (decide (a74 = (c73.1 + c73.2))))) (Sim.thenP (k := fun (c82 : (Int × Int)) => (eB (decide (c82.1 = c82.2)), [some (.val (eI p_bend)), some (.val (eI p_height)), some (.val (eI p_eye)), some (.val (eI p_distance)), some (.val (eI c73.1)), some (.val (eI c73.2)), some (.val (eI a74))])) (Sim.then2 (k := fun (a79 : Int) => (eI a79, [some (.val (eI p_bend)), some (.val (eI p_height)), some (.val (eI p_eye)), some (.val (eI p_distance)), some (.val (eI c73.1)), some (.val (eI c73.2)), some (.val (eI a74))])) (k' := fun (a79 : Int) => fun (a81 : Int) => (eB (decide (a79 = a81)), [some (.val (eI p_bend)), some (.val (eI p_height)), some (.val (eI p_eye)), some (.val (eI p_distance)), some (.val (eI c73.1)), some (.val (eI c73.2)), some (.val (eI a74))])) (SimP.then (simP_val (i := 5) rfl) (SimP.then (simP_val (i := 5) rfl) (sim_lift' a_mul))) (fun (a79 : Int) => (Sim.thenP (k := fun (a81 : Int) => (eI a81, [some (.val (eI p_bend)), some (.val (eI p_height)), some (.val (eI p_eye)), some (.val (eI p_distance)), some (.val (eI c73.1)), some (.val (eI c73.2)), some (.val (eI a74))])) (Sim.then (k := fun (a80 : Int) => (eI a80, [some (.val (eI p_bend)), some (.val (eI p_height)), some (.val (eI p_eye)), some (.val (eI p_distance)), some (.val (eI c73.1)), some (.val (eI c73.2)), some (.val (eI a74))])) (k' := fun (a81 : Int) => (eI a81, [some (.val (eI p_bend)), some (.val (eI p_height)), some (.val (eI p_eye)), some (.val (eI p_distance)), some (.val (eI c73.1)), some (.val (eI c73.2)), some (.val (eI a74))])) (SimP.then (simP_val (i := 0) rfl) (SimP.then (simP_val (i := 2) rfl) (sim_lift' a_mul))) (fun (a80 : Int) => (SimP.then (SimP.thenP SimP.ok (SimP.thenP SimP.ok (simP_lift (o_pow (by decide) (by decide +kernel))))) (sim_lift' a_mul)))) (fun (a81 : Int) => (simP_lift (o_eq (e := eI) (x := a79) (y := a81) q_int (by decide))))))) (fun (c82 : (Int × Int)) => simP_vAndR (SimP.thenP (simP_val (i := 6) rfl) (SimP.thenP (SimP.thenP (simP_val (i := 4) rfl) (SimP.thenP (simP_val (i := 5) rfl) (simP_lift o_add))) (simP_lift (o_eq (e := eI) (x := a74) (y := (c73.1 + c73.2)) q_int (by decide))))))))) (by exact (fun (a83 : Bool) => kd_ret))))))))))
def T_law (p_script : (List Int)) : Ex Bool := (TF__law_draws (p_script)).bind fun (a84 : (List Int)) => (forC (ρ := Bool) (fun (x86 : Int) (s85 : (List D)) => (((T__law_take s85 ((2 : Int))).bind fun (d87 : (Int × List D)) => (ixE ([(4 : Int), (1000 : Int)] : List Int) d87.1).bind fun (a88 : Int) => .ok (d87, a88)).bind fun (c89 : ((Int × List D) × Int)) => T__law_take c89.1.2 (c89.2)).bind fun (d90 : (Int × List D)) => ((T__law_take d90.2 ((3 : Int))).bind fun (d91 : (Int × List D)) => (ixE ([(10 : Int), (200 : Int), (10001 : Int)] : List Int) d91.1).bind fun (a92 : Int) => .ok (d91, a92)).bind fun (c93 : ((Int × List D) × Int)) => ((T__law_take c93.1.2 (c93.2)).bind fun (d94 : (Int × List D)) => (T__law_take d94.2 (c93.2)).bind fun (d95 : (Int × List D)) => .ok (d94, d95)).bind fun (c96 : ((Int × List D) × (Int × List D))) => ((T__law_told ((2 : Int)) (((1 : Int) + d90.1)) (c96.1.1) (c96.2.1) ((0 : Int))).bind fun (a97 : D) => (Ex.ofO (dcI a97)).bind fun w100 => .ok (a97, w100)).bind fun (c99 : (D × Int)) => (((mulE ((1 : Int) + d90.1) c96.1.1).bind fun (a101 : Int) => T__law_root (a101)).bind fun (a102 : Int) => ((mulE ((1 : Int) + d90.1) c96.2.1).bind fun (a103 : Int) => T__law_root (a103)).bind fun (a104 : Int) => .ok (a102, a104)).bind fun (c105 : (Int × Int)) => if ((!(isD .int (eI c99.2))) || (!((decide ((List.sum ([c105.1, c105.2] : List Int)) ≤ c99.2)) && (decide (c99.2 ≤ ((List.sum ([c105.1, c105.2] : List Int)) + (1 : Int))))))) = true then .ok (.ret (false)) else ((T__law_above (((1 : Int) + d90.1)) (c96.1.1) (c96.2.1) (c99.2)).bind fun a106 => if (!a106) = true then .ok true else (T__law_above (((1 : Int) + d90.1)) (c96.1.1) (c96.2.1) ((c99.2 + (1 : Int)))).bind fun (a107 : Bool) => .ok (a107)).bind fun (a108 : Bool) => if a108 = true then .ok (.ret (false)) else ((mulE (2 : Int) c99.2).bind fun (a109 : Int) => T__law_take c96.2.2 ((a109 + (2 : Int)))).bind fun (d110 : (Int × List D)) => (forC (ρ := Bool) (fun (x112 : Int) (s111 : Unit) => (T__law_above (((1 : Int) + d90.1)) (c96.1.1) (c96.2.1) (x112)).bind fun (a113 : Bool) => (((T__law_told ((0 : Int)) (((1 : Int) + d90.1)) (c96.1.1) (c96.2.1) (x112)).bind fun (a114 : D) => T__law_says (a114) (a113)).bind fun a115 => if (!a115) = true then .ok true else ((T__law_told ((0 : Int)) (((1 : Int) + d90.1)) (c96.2.1) (c96.1.1) (x112)).bind fun (a116 : D) => T__law_says (a116) (a113)).bind fun (a117 : Bool) => .ok ((!a117))).bind fun (a118 : Bool) => if a118 = true then .ok (.ret (false)) else ((T__law_told ((1 : Int)) (((1 : Int) + d90.1)) (c96.2.1) ((0 : Int)) (x112)).bind fun (a119 : D) => (Ex.ofO ((dcO dcI) a119)).bind fun w122 => .ok (a119, w122)).bind fun (c121 : (D × (Option Int))) => if (Option.isNone c121.2) = true then (T__law_above (((1 : Int) + d90.1)) ((10000 : Int)) (c96.2.1) (x112)).bind fun (a123 : Bool) => if a123 = true then .ok (.ret (false)) else .ok (.nx ()) else (if (!(isD .int ((eO eI) c121.2))) = true then .ok true else ((chnE dLeI dLeI (eI (0 : Int)) ((eO eI) c121.2) (eI (10000 : Int))).bind fun a124 => if (!a124) = true then .ok true else (((Ex.ofO c121.2).bind fun (a125 : Int) => T__law_above (((1 : Int) + d90.1)) (a125) (c96.2.1) (x112)).bind fun a126 => if (!a126) = true then .ok true else ((opB (dGtI ((eO eI) c121.2) (eI (0 : Int)))).bind fun a127 => if a127 = true then ((Ex.ofO c121.2).bind fun (a128 : Int) => T__law_above (((1 : Int) + d90.1)) ((a128 - (1 : Int))) (c96.2.1) (x112)).bind fun (a129 : Bool) => .ok (a129) else .ok false).bind fun (a130 : Bool) => .ok (a130)).bind fun (a131 : Bool) => .ok (a131)).bind fun (a132 : Bool) => .ok (a132)).bind fun (a133 : Bool) => if a133 = true then .ok (.ret (false)) else .ok (.nx ())) ([c99.2, (c99.2 + (1 : Int)), (max (0 : Int) (c99.2 - (1 : Int))), d110.1] : List Int) ()).bind fun z => z.after (fun s111 => .ok (.nx d110.2)) (fun s111 => .bad) (fun r => .ret r)) (ranI 0 ((6 : Int)).toNat) (List.map eI a84)).bind fun z => z.after (fun s85 => ((T__law_told ((0 : Int)) ((0 : Int)) ((1 : Int)) ((1 : Int)) ((1 : Int))).bind fun (a134 : D) => ((T__law_told ((0 : Int)) ((1001 : Int)) ((1 : Int)) ((1 : Int)) ((1 : Int))).bind fun (a135 : D) => ((T__law_told ((0 : Int)) ((1 : Int)) ((-(1 : Int))) ((1 : Int)) ((1 : Int))).bind fun (a136 : D) => ((T__law_told ((0 : Int)) ((1 : Int)) ((1 : Int)) ((10001 : Int)) ((1 : Int))).bind fun (a137 : D) => ((T__law_told ((0 : Int)) ((1 : Int)) ((1 : Int)) ((1 : Int)) ((-(1 : Int)))).bind fun (a138 : D) => (T__law_told ((0 : Int)) ((1 : Int)) ((1 : Int)) ((1 : Int)) ((1000001 : Int))).bind fun (a139 : D) => .ok (a138, a139)).bind fun (c140 : (D × D)) => .ok (a137, c140)).bind fun (c141 : (D × (D × D))) => .ok (a136, c141)).bind fun (c142 : (D × (D × (D × D)))) => .ok (a135, c142)).bind fun (c143 : (D × (D × (D × (D × D))))) => .ok (a134, c143)).bind fun (c144 : (D × (D × (D × (D × (D × D)))))) => (((repLE ([(eS ("range" : Str))] : List D) (6 : Int)).bind fun (l145 : (List D)) => eqDE ((eL eD) ([c144.1, c144.2.1, c144.2.2.1, c144.2.2.2.1, c144.2.2.2.2.1, c144.2.2.2.2.2] : List D)) ((eL eD) l145)).bind fun a146 => if a146 = true then (((lcE (fun x147 : Int => .ok true) (fun x147 : Int => T__law_told (x147) ((0 : Int)) ((1 : Int)) ((1 : Int)) ((1 : Int))) ([(1 : Int), (2 : Int)] : List Int) []).bind fun (l149 : (List D)) => (lcE (fun x150 : Int => .ok true) (fun x150 : Int => T__law_told (x150) ((1 : Int)) ((10001 : Int)) ((1 : Int)) ((1 : Int))) ([(1 : Int), (2 : Int)] : List Int) []).bind fun (l152 : (List D)) => catE l149 l152).bind fun (l153 : (List D)) => (repLE ([(eS ("range" : Str))] : List D) (4 : Int)).bind fun (l154 : (List D)) => eqDE ((eL eD) l153) ((eL eD) l154)).bind fun (a155 : Bool) => .ok (a155) else .ok false).bind fun (a156 : Bool) => .ok (a156)) (fun s85 => .bad) (fun r => r)
theorem ref_law (p_script : (List Int)) : Ref (F_law [(eL eI) p_script]) (T_law p_script) eB :=
  ref_def (N := 14) (B := b_law) rfl (g_setFE (i := 1) (k := fun (a84 : (List Int)) => (List.map eI a84, [some (.val ((eL eI) p_script)), none, none, none, none, none, none, none, none, none, none, none, none, none])) (SimP.then (SimP.thenP (simP_val (i := 0) rfl) (SimP.thenP SimP.ok SimP.ok)) (sim_ansF (e := fun l => List.map eI l) (reff__law_draws (p_script)) (fun c => Ex.noX_ne c))) (fun _ => rfl) fun (a84 : (List Int)) => (g_forCP (P := (fun s85 : (List D) => [some (.val ((eL eI) p_script)), some (.own s85), none, none, none, none, none, none, none, none, none, none, none, none])) (Q := (fun s85 : (List D) => [some (.val ((eL eI) p_script)), some (.own s85), none, none, none, none, none, none, none, none, none, none, none, none])) (Kr := KD eB) (e := eI) (G := (fun (x86 : Int) (s85 : (List D)) => [some (.val ((eL eI) p_script)), some (.own s85), some (.val (eI x86)), none, none, none, none, none, none, none, none, none, none, none])) (s0 := (List.map eI a84)) (SimP.thenP (SimP.thenP SimP.ok (SimP.thenP SimP.ok SimP.ok)) (simP_lift (o_rng1 (by decide)))) (ple_forget [] rfl rfl) (fun x86 s85 => (tg_name (i := 2) rfl)) (fun x86 s85 => (g_setE (i := 3) (k := fun (d90 : (Int × List D)) => (eI ((1 : Int) + d90.1), [some (.val ((eL eI) p_script)), some (.own d90.2), some (.val (eI x86)), none, none, none, none, none, none, none, none, none, none, none])) (SimP.then SimP.ok (Sim.thenP (k := fun (d90 : (Int × List D)) => (eI d90.1, [some (.val ((eL eI) p_script)), some (.own d90.2), some (.val (eI x86)), none, none, none, none, none, none, none, none, none, none, none])) (sim_callTG (k := fun (c89 : ((Int × List D) × Int)) => ([eI c89.2], [some (.val ((eL eI) p_script)), some (.own c89.1.2), some (.val (eI x86)), none, none, none, none, none, none, none, none, none, none, none])) (Q := fun tr => [some (.val ((eL eI) p_script)), some (.own tr), some (.val (eI x86)), none, none, none, none, none, none, none, none, none, none, none]) (i := 1) (e := eI) (lstOf_own rfl) (Sim.thenP (k := fun (c89 : ((Int × List D) × Int)) => (eI c89.2, [some (.val ((eL eI) p_script)), some (.own c89.1.2), some (.val (eI x86)), none, none, none, none, none, none, none, none, none, none, none])) (SimP.then (SimP.thenP (simP_chk (SimP.thenP SimP.ok (SimP.thenP (SimP.thenP SimP.ok (SimP.thenP SimP.ok SimP.ok)) SimP.ok)) rfl) SimP.ok) (Sim.then2 (k := fun (d87 : (Int × List D)) => (eI d87.1, [some (.val ((eL eI) p_script)), some (.own d87.2), some (.val (eI x86)), none, none, none, none, none, none, none, none, none, none, none])) (k' := fun (d87 : (Int × List D)) => fun (a88 : Int) => (eI a88, [some (.val ((eL eI) p_script)), some (.own d87.2), some (.val (eI x86)), none, none, none, none, none, none, none, none, none, none, none])) (sim_callS (Q := fun tr => [some (.val ((eL eI) p_script)), some (.own tr), some (.val (eI x86)), none, none, none, none, none, none, none, none, none, none, none]) (i := 1) (e := eI) (lstOf_own rfl) (SimP.thenP SimP.ok (SimP.thenP SimP.ok SimP.ok)) (lstOf_own rfl) (ref__law_take _ ((2 : Int))) (fun c => Ex.noX_ne c) (putL_own (i := 1) rfl)) (fun (d87 : (Int × List D)) => (sim_lift' (e := eI) (a_ixL (xs := ([(4 : Int), (1000 : Int)] : List Int))))))) (fun (c89 : ((Int × List D) × Int)) => (SimP.thenP SimP.ok SimP.ok))) (fun c89 => lstOf_own rfl) (fun c89 => ref__law_take _ (c89.2)) (fun c89 c => Ex.noX_ne c) (fun c89 => putL_own (i := 1) rfl)) (fun (d90 : (Int × List D)) => (simP_lift o_add)))) (fun _ => rfl) fun (d90 : (Int × List D)) => (g_setE (i := 4) (k := fun (c93 : ((Int × List D) × Int)) => (eI c93.2, [some (.val ((eL eI) p_script)), some (.own c93.1.2), some (.val (eI x86)), some (.val (eI ((1 : Int) + d90.1))), none, none, none, none, none, none, none, none, none, none])) (SimP.then (SimP.thenP (simP_chk (SimP.thenP SimP.ok (SimP.thenP (SimP.thenP SimP.ok (SimP.thenP (SimP.thenP SimP.ok (SimP.thenP SimP.ok SimP.ok)) SimP.ok)) SimP.ok)) rfl) SimP.ok) (Sim.then2 (k := fun (d91 : (Int × List D)) => (eI d91.1, [some (.val ((eL eI) p_script)), some (.own d91.2), some (.val (eI x86)), some (.val (eI ((1 : Int) + d90.1))), none, none, none, none, none, none, none, none, none, none])) (k' := fun (d91 : (Int × List D)) => fun (a92 : Int) => (eI a92, [some (.val ((eL eI) p_script)), some (.own d91.2), some (.val (eI x86)), some (.val (eI ((1 : Int) + d90.1))), none, none, none, none, none, none, none, none, none, none])) (sim_callS (Q := fun tr => [some (.val ((eL eI) p_script)), some (.own tr), some (.val (eI x86)), some (.val (eI ((1 : Int) + d90.1))), none, none, none, none, none, none, none, none, none, none]) (i := 1) (e := eI) (lstOf_own rfl) (SimP.thenP SimP.ok (SimP.thenP SimP.ok SimP.ok)) (lstOf_own rfl) (ref__law_take _ ((3 : Int))) (fun c => Ex.noX_ne c) (putL_own (i := 1) rfl)) (fun (d91 : (Int × List D)) => (sim_lift' (e := eI) (a_ixL (xs := ([(10 : Int), (200 : Int), (10001 : Int)] : List Int))))))) (fun _ => rfl) fun (c93 : ((Int × List D) × Int)) => (g_thn (k := fun (c96 : ((Int × List D) × (Int × List D))) => ([eI c96.1.1, eI c96.2.1], [some (.val ((eL eI) p_script)), some (.own c96.2.2), some (.val (eI x86)), some (.val (eI ((1 : Int) + d90.1))), some (.val (eI c93.2)), none, none, none, none, none, none, none, none, none])) (Sim.then2 (k := fun (d94 : (Int × List D)) => (eI d94.1, [some (.val ((eL eI) p_script)), some (.own d94.2), some (.val (eI x86)), some (.val (eI ((1 : Int) + d90.1))), some (.val (eI c93.2)), none, none, none, none, none, none, none, none, none])) (k' := fun (d94 : (Int × List D)) => fun (d95 : (Int × List D)) => ([eI d94.1, eI d95.1], [some (.val ((eL eI) p_script)), some (.own d95.2), some (.val (eI x86)), some (.val (eI ((1 : Int) + d90.1))), some (.val (eI c93.2)), none, none, none, none, none, none, none, none, none])) (sim_callS (Q := fun tr => [some (.val ((eL eI) p_script)), some (.own tr), some (.val (eI x86)), some (.val (eI ((1 : Int) + d90.1))), some (.val (eI c93.2)), none, none, none, none, none, none, none, none, none]) (i := 1) (e := eI) (lstOf_own rfl) (SimP.thenP (simP_val (i := 4) rfl) (SimP.thenP SimP.ok SimP.ok)) (lstOf_own rfl) (ref__law_take _ (c93.2)) (fun c => Ex.noX_ne c) (putL_own (i := 1) rfl)) (fun (d94 : (Int × List D)) => (Sim.thenP (k := fun (d95 : (Int × List D)) => ([eI d95.1], [some (.val ((eL eI) p_script)), some (.own d95.2), some (.val (eI x86)), some (.val (eI ((1 : Int) + d90.1))), some (.val (eI c93.2)), none, none, none, none, none, none, none, none, none])) (Sim.thenP (k := fun (d95 : (Int × List D)) => (eI d95.1, [some (.val ((eL eI) p_script)), some (.own d95.2), some (.val (eI x86)), some (.val (eI ((1 : Int) + d90.1))), some (.val (eI c93.2)), none, none, none, none, none, none, none, none, none])) (sim_callS (Q := fun tr => [some (.val ((eL eI) p_script)), some (.own tr), some (.val (eI x86)), some (.val (eI ((1 : Int) + d90.1))), some (.val (eI c93.2)), none, none, none, none, none, none, none, none, none]) (i := 1) (e := eI) (lstOf_own rfl) (SimP.thenP (simP_val (i := 4) rfl) (SimP.thenP SimP.ok SimP.ok)) (lstOf_own rfl) (ref__law_take _ (c93.2)) (fun c => Ex.noX_ne c) (putL_own (i := 1) rfl)) (fun (d95 : (Int × List D)) => (SimP.thenP SimP.ok SimP.ok))) (fun (d95 : (Int × List D)) => SimP.ok)))) fun (c96 : ((Int × List D) × (Int × List D))) => g_set2 rfl rfl (g_setE (i := 7) (k := fun (c99 : (D × Int)) => (eI c99.2, [some (.val ((eL eI) p_script)), some (.own c96.2.2), some (.val (eI x86)), some (.val (eI ((1 : Int) + d90.1))), some (.val (eI c93.2)), some (.val (eI c96.1.1)), some (.val (eI c96.2.1)), none, none, none, none, none, none, none])) (sim_dcE (e := eI) (k := fun (a97 : D) => (eD a97, [some (.val ((eL eI) p_script)), some (.own c96.2.2), some (.val (eI x86)), some (.val (eI ((1 : Int) + d90.1))), some (.val (eI c93.2)), some (.val (eI c96.1.1)), some (.val (eI c96.2.1)), none, none, none, none, none, none, none])) dc_int (SimP.then (SimP.thenP SimP.ok (SimP.thenP (SimP.thenP (simP_val (i := 3) rfl) (SimP.thenP (SimP.thenP (simP_val (i := 5) rfl) (SimP.thenP (SimP.thenP (simP_val (i := 6) rfl) (SimP.thenP (SimP.thenP SimP.ok (SimP.thenP SimP.ok SimP.ok)) SimP.ok)) SimP.ok)) SimP.ok)) SimP.ok)) (sim_ans (e := eD) (ref__law_told ((2 : Int)) (((1 : Int) + d90.1)) (c96.1.1) (c96.2.1) ((0 : Int)))))) (fun _ => rfl) fun (c99 : (D × Int)) => (g_setE (i := 8) (k := fun (c105 : (Int × Int)) => ((eL eI) ([c105.1, c105.2] : List Int), [some (.val ((eL eI) p_script)), some (.own c96.2.2), some (.val (eI x86)), some (.val (eI ((1 : Int) + d90.1))), some (.val (eI c93.2)), some (.val (eI c96.1.1)), some (.val (eI c96.2.1)), some (.val (eI c99.2)), none, none, none, none, none, none])) (Sim.thenP (k := fun (c105 : (Int × Int)) => (List.map eI ([c105.1, c105.2] : List Int), [some (.val ((eL eI) p_script)), some (.own c96.2.2), some (.val (eI x86)), some (.val (eI ((1 : Int) + d90.1))), some (.val (eI c93.2)), some (.val (eI c96.1.1)), some (.val (eI c96.2.1)), some (.val (eI c99.2)), none, none, none, none, none, none])) (Sim.thenP (k := fun (c105 : (Int × Int)) => ([eI c105.1, eI c105.2], [some (.val ((eL eI) p_script)), some (.own c96.2.2), some (.val (eI x86)), some (.val (eI ((1 : Int) + d90.1))), some (.val (eI c93.2)), some (.val (eI c96.1.1)), some (.val (eI c96.2.1)), some (.val (eI c99.2)), none, none, none, none, none, none])) (Sim.then2 (k := fun (a102 : Int) => (eI a102, [some (.val ((eL eI) p_script)), some (.own c96.2.2), some (.val (eI x86)), some (.val (eI ((1 : Int) + d90.1))), some (.val (eI c93.2)), some (.val (eI c96.1.1)), some (.val (eI c96.2.1)), some (.val (eI c99.2)), none, none, none, none, none, none])) (k' := fun (a102 : Int) => fun (a104 : Int) => ([eI a102, eI a104], [some (.val ((eL eI) p_script)), some (.own c96.2.2), some (.val (eI x86)), some (.val (eI ((1 : Int) + d90.1))), some (.val (eI c93.2)), some (.val (eI c96.1.1)), some (.val (eI c96.2.1)), some (.val (eI c99.2)), none, none, none, none, none, none])) (Sim.then (k := fun (a101 : Int) => ([eI a101], [some (.val ((eL eI) p_script)), some (.own c96.2.2), some (.val (eI x86)), some (.val (eI ((1 : Int) + d90.1))), some (.val (eI c93.2)), some (.val (eI c96.1.1)), some (.val (eI c96.2.1)), some (.val (eI c99.2)), none, none, none, none, none, none])) (k' := fun (a102 : Int) => (eI a102, [some (.val ((eL eI) p_script)), some (.own c96.2.2), some (.val (eI x86)), some (.val (eI ((1 : Int) + d90.1))), some (.val (eI c93.2)), some (.val (eI c96.1.1)), some (.val (eI c96.2.1)), some (.val (eI c99.2)), none, none, none, none, none, none])) (Sim.thenP (k := fun (a101 : Int) => (eI a101, [some (.val ((eL eI) p_script)), some (.own c96.2.2), some (.val (eI x86)), some (.val (eI ((1 : Int) + d90.1))), some (.val (eI c93.2)), some (.val (eI c96.1.1)), some (.val (eI c96.2.1)), some (.val (eI c99.2)), none, none, none, none, none, none])) (SimP.then (simP_val (i := 3) rfl) (SimP.then (simP_val (i := 5) rfl) (sim_lift' a_mul))) (fun (a101 : Int) => (SimP.thenP SimP.ok SimP.ok))) (fun (a101 : Int) => (sim_ans (e := eI) (ref__law_root (a101))))) (fun (a102 : Int) => (Sim.thenP (k := fun (a104 : Int) => ([eI a104], [some (.val ((eL eI) p_script)), some (.own c96.2.2), some (.val (eI x86)), some (.val (eI ((1 : Int) + d90.1))), some (.val (eI c93.2)), some (.val (eI c96.1.1)), some (.val (eI c96.2.1)), some (.val (eI c99.2)), none, none, none, none, none, none])) (Sim.thenP (k := fun (a104 : Int) => (eI a104, [some (.val ((eL eI) p_script)), some (.own c96.2.2), some (.val (eI x86)), some (.val (eI ((1 : Int) + d90.1))), some (.val (eI c93.2)), some (.val (eI c96.1.1)), some (.val (eI c96.2.1)), some (.val (eI c99.2)), none, none, none, none, none, none])) (Sim.then (k := fun (a103 : Int) => ([eI a103], [some (.val ((eL eI) p_script)), some (.own c96.2.2), some (.val (eI x86)), some (.val (eI ((1 : Int) + d90.1))), some (.val (eI c93.2)), some (.val (eI c96.1.1)), some (.val (eI c96.2.1)), some (.val (eI c99.2)), none, none, none, none, none, none])) (k' := fun (a104 : Int) => (eI a104, [some (.val ((eL eI) p_script)), some (.own c96.2.2), some (.val (eI x86)), some (.val (eI ((1 : Int) + d90.1))), some (.val (eI c93.2)), some (.val (eI c96.1.1)), some (.val (eI c96.2.1)), some (.val (eI c99.2)), none, none, none, none, none, none])) (Sim.thenP (k := fun (a103 : Int) => (eI a103, [some (.val ((eL eI) p_script)), some (.own c96.2.2), some (.val (eI x86)), some (.val (eI ((1 : Int) + d90.1))), some (.val (eI c93.2)), some (.val (eI c96.1.1)), some (.val (eI c96.2.1)), some (.val (eI c99.2)), none, none, none, none, none, none])) (SimP.then (simP_val (i := 3) rfl) (SimP.then (simP_val (i := 6) rfl) (sim_lift' a_mul))) (fun (a103 : Int) => (SimP.thenP SimP.ok SimP.ok))) (fun (a103 : Int) => (sim_ans (e := eI) (ref__law_root (a103))))) (fun (a104 : Int) => (SimP.thenP SimP.ok SimP.ok))) (fun (a104 : Int) => SimP.ok)))) (fun (c105 : (Int × Int)) => (simP_if (of_decide_eq_true (Eq.refl true))))) (fun (c105 : (Int × Int)) => SimP.ok)) (fun _ => rfl) fun (c105 : (Int × Int)) => (g_ifP (simP_or (SimP.thenP (SimP.thenP (SimP.thenP (simP_val (i := 7) rfl) SimP.ok) SimP.ok) SimP.ok) (SimP.thenP (SimP.thenP (SimP.thenP (SimP.thenP (SimP.thenP (simP_val (i := 8) rfl) (SimP.thenP SimP.ok SimP.ok)) (simP_lift o_sum)) (SimP.thenP (simP_val (i := 7) rfl) (simP_chnR o_le (SimP.thenP (SimP.thenP (SimP.thenP (simP_val (i := 8) rfl) (SimP.thenP SimP.ok SimP.ok)) (simP_lift o_sum)) (SimP.thenP SimP.ok (simP_lift o_add))) o_le))) SimP.ok) SimP.ok)) (g_retP SimP.ok (by exact (fun σ hσ => kc_ret (kd_ret σ hσ)))) (g_nx (g_ifE (k := fun (a108 : Bool) => (a108, [some (.val ((eL eI) p_script)), some (.own c96.2.2), some (.val (eI x86)), some (.val (eI ((1 : Int) + d90.1))), some (.val (eI c93.2)), some (.val (eI c96.1.1)), some (.val (eI c96.2.1)), some (.val (eI c99.2)), some (.val ((eL eI) ([c105.1, c105.2] : List Int))), none, none, none, none, none])) (Sim.then (k := fun (a106 : Bool) => ((!a106), [some (.val ((eL eI) p_script)), some (.own c96.2.2), some (.val (eI x86)), some (.val (eI ((1 : Int) + d90.1))), some (.val (eI c93.2)), some (.val (eI c96.1.1)), some (.val (eI c96.2.1)), some (.val (eI c99.2)), some (.val ((eL eI) ([c105.1, c105.2] : List Int))), none, none, none, none, none])) (k' := fun (a108 : Bool) => (a108, [some (.val ((eL eI) p_script)), some (.own c96.2.2), some (.val (eI x86)), some (.val (eI ((1 : Int) + d90.1))), some (.val (eI c93.2)), some (.val (eI c96.1.1)), some (.val (eI c96.2.1)), some (.val (eI c99.2)), some (.val ((eL eI) ([c105.1, c105.2] : List Int))), none, none, none, none, none])) (Sim.thenP (k := fun (a106 : Bool) => (a106, [some (.val ((eL eI) p_script)), some (.own c96.2.2), some (.val (eI x86)), some (.val (eI ((1 : Int) + d90.1))), some (.val (eI c93.2)), some (.val (eI c96.1.1)), some (.val (eI c96.2.1)), some (.val (eI c99.2)), some (.val ((eL eI) ([c105.1, c105.2] : List Int))), none, none, none, none, none])) (Sim.thenP (k := fun (a106 : Bool) => (eB a106, [some (.val ((eL eI) p_script)), some (.own c96.2.2), some (.val (eI x86)), some (.val (eI ((1 : Int) + d90.1))), some (.val (eI c93.2)), some (.val (eI c96.1.1)), some (.val (eI c96.2.1)), some (.val (eI c99.2)), some (.val ((eL eI) ([c105.1, c105.2] : List Int))), none, none, none, none, none])) (SimP.then (SimP.thenP (simP_val (i := 3) rfl) (SimP.thenP (SimP.thenP (simP_val (i := 5) rfl) (SimP.thenP (SimP.thenP (simP_val (i := 6) rfl) (SimP.thenP (SimP.thenP (simP_val (i := 7) rfl) (SimP.thenP SimP.ok SimP.ok)) SimP.ok)) SimP.ok)) SimP.ok)) (sim_ans (e := eB) (ref__law_above (((1 : Int) + d90.1)) (c96.1.1) (c96.2.1) (c99.2)))) (fun (a106 : Bool) => SimP.ok)) (fun (a106 : Bool) => SimP.ok)) (fun (a106 : Bool) => sim_orR (v := fun (a107 : Bool) => a107) (Sim.thenP (k := fun (a107 : Bool) => (eB a107, [some (.val ((eL eI) p_script)), some (.own c96.2.2), some (.val (eI x86)), some (.val (eI ((1 : Int) + d90.1))), some (.val (eI c93.2)), some (.val (eI c96.1.1)), some (.val (eI c96.2.1)), some (.val (eI c99.2)), some (.val ((eL eI) ([c105.1, c105.2] : List Int))), none, none, none, none, none])) (SimP.then (SimP.thenP (simP_val (i := 3) rfl) (SimP.thenP (SimP.thenP (simP_val (i := 5) rfl) (SimP.thenP (SimP.thenP (simP_val (i := 6) rfl) (SimP.thenP (SimP.thenP (SimP.thenP (simP_val (i := 7) rfl) (SimP.thenP SimP.ok (simP_lift o_add))) (SimP.thenP SimP.ok SimP.ok)) SimP.ok)) SimP.ok)) SimP.ok)) (sim_ans (e := eB) (ref__law_above (((1 : Int) + d90.1)) (c96.1.1) (c96.2.1) ((c99.2 + (1 : Int)))))) (fun (a107 : Bool) => SimP.ok)))) (fun (a108 : Bool) => (g_retP SimP.ok (by exact (fun σ hσ => kc_ret (kd_ret σ hσ))))) fun (a108 : Bool) => (g_nx (g_last (g_forCE (k := fun (d110 : (Int × List D)) => (List.map eI ([c99.2, (c99.2 + (1 : Int)), (max (0 : Int) (c99.2 - (1 : Int))), d110.1] : List Int), [some (.val ((eL eI) p_script)), some (.own d110.2), some (.val (eI x86)), some (.val (eI ((1 : Int) + d90.1))), some (.val (eI c93.2)), some (.val (eI c96.1.1)), some (.val (eI c96.2.1)), some (.val (eI c99.2)), some (.val ((eL eI) ([c105.1, c105.2] : List Int))), none, none, none, none, none])) (P := fun (d110 : (Int × List D)) => (fun s111 : Unit => [some (.val ((eL eI) p_script)), some (.own d110.2), some (.val (eI x86)), some (.val (eI ((1 : Int) + d90.1))), some (.val (eI c93.2)), some (.val (eI c96.1.1)), some (.val (eI c96.2.1)), some (.val (eI c99.2)), some (.val ((eL eI) ([c105.1, c105.2] : List Int))), none, none, none, none, none])) (Q := fun (d110 : (Int × List D)) => (fun s111 : Unit => [some (.val ((eL eI) p_script)), some (.own d110.2), some (.val (eI x86)), some (.val (eI ((1 : Int) + d90.1))), some (.val (eI c93.2)), some (.val (eI c96.1.1)), some (.val (eI c96.2.1)), some (.val (eI c99.2)), some (.val ((eL eI) ([c105.1, c105.2] : List Int))), none, none, none, none, none])) (Kr := KD eB) (e := eI) (G := fun (d110 : (Int × List D)) => (fun (x112 : Int) (s111 : Unit) => [some (.val ((eL eI) p_script)), some (.own d110.2), some (.val (eI x86)), some (.val (eI ((1 : Int) + d90.1))), some (.val (eI c93.2)), some (.val (eI c96.1.1)), some (.val (eI c96.2.1)), some (.val (eI c99.2)), some (.val ((eL eI) ([c105.1, c105.2] : List Int))), some (.val (eI x112)), none, none, none, none])) (s0 := fun (d110 : (Int × List D)) => ()) (Sim.thenP (k := fun (d110 : (Int × List D)) => ((eL eI) ([c99.2, (c99.2 + (1 : Int)), (max (0 : Int) (c99.2 - (1 : Int))), d110.1] : List Int), [some (.val ((eL eI) p_script)), some (.own d110.2), some (.val (eI x86)), some (.val (eI ((1 : Int) + d90.1))), some (.val (eI c93.2)), some (.val (eI c96.1.1)), some (.val (eI c96.2.1)), some (.val (eI c99.2)), some (.val ((eL eI) ([c105.1, c105.2] : List Int))), none, none, none, none, none])) (Sim.thenP (k := fun (d110 : (Int × List D)) => (List.map eI ([c99.2, (c99.2 + (1 : Int)), (max (0 : Int) (c99.2 - (1 : Int))), d110.1] : List Int), [some (.val ((eL eI) p_script)), some (.own d110.2), some (.val (eI x86)), some (.val (eI ((1 : Int) + d90.1))), some (.val (eI c93.2)), some (.val (eI c96.1.1)), some (.val (eI c96.2.1)), some (.val (eI c99.2)), some (.val ((eL eI) ([c105.1, c105.2] : List Int))), none, none, none, none, none])) (Sim.thenP (k := fun (d110 : (Int × List D)) => ([eI c99.2, eI (c99.2 + (1 : Int)), eI (max (0 : Int) (c99.2 - (1 : Int))), eI d110.1], [some (.val ((eL eI) p_script)), some (.own d110.2), some (.val (eI x86)), some (.val (eI ((1 : Int) + d90.1))), some (.val (eI c93.2)), some (.val (eI c96.1.1)), some (.val (eI c96.2.1)), some (.val (eI c99.2)), some (.val ((eL eI) ([c105.1, c105.2] : List Int))), none, none, none, none, none])) (SimP.then (simP_val (i := 7) rfl) (Sim.thenP (k := fun (d110 : (Int × List D)) => ([eI (c99.2 + (1 : Int)), eI (max (0 : Int) (c99.2 - (1 : Int))), eI d110.1], [some (.val ((eL eI) p_script)), some (.own d110.2), some (.val (eI x86)), some (.val (eI ((1 : Int) + d90.1))), some (.val (eI c93.2)), some (.val (eI c96.1.1)), some (.val (eI c96.2.1)), some (.val (eI c99.2)), some (.val ((eL eI) ([c105.1, c105.2] : List Int))), none, none, none, none, none])) (SimP.then (SimP.thenP (simP_val (i := 7) rfl) (SimP.thenP SimP.ok (simP_lift o_add))) (Sim.thenP (k := fun (d110 : (Int × List D)) => ([eI (max (0 : Int) (c99.2 - (1 : Int))), eI d110.1], [some (.val ((eL eI) p_script)), some (.own d110.2), some (.val (eI x86)), some (.val (eI ((1 : Int) + d90.1))), some (.val (eI c93.2)), some (.val (eI c96.1.1)), some (.val (eI c96.2.1)), some (.val (eI c99.2)), some (.val ((eL eI) ([c105.1, c105.2] : List Int))), none, none, none, none, none])) (SimP.then (SimP.thenP (SimP.thenP SimP.ok (SimP.thenP (SimP.thenP (SimP.thenP (simP_val (i := 7) rfl) (SimP.thenP SimP.ok (simP_lift o_sub))) (SimP.thenP SimP.ok SimP.ok)) SimP.ok)) (simP_lift o_max)) (Sim.thenP (k := fun (d110 : (Int × List D)) => ([eI d110.1], [some (.val ((eL eI) p_script)), some (.own d110.2), some (.val (eI x86)), some (.val (eI ((1 : Int) + d90.1))), some (.val (eI c93.2)), some (.val (eI c96.1.1)), some (.val (eI c96.2.1)), some (.val (eI c99.2)), some (.val ((eL eI) ([c105.1, c105.2] : List Int))), none, none, none, none, none])) (Sim.thenP (k := fun (d110 : (Int × List D)) => (eI d110.1, [some (.val ((eL eI) p_script)), some (.own d110.2), some (.val (eI x86)), some (.val (eI ((1 : Int) + d90.1))), some (.val (eI c93.2)), some (.val (eI c96.1.1)), some (.val (eI c96.2.1)), some (.val (eI c99.2)), some (.val ((eL eI) ([c105.1, c105.2] : List Int))), none, none, none, none, none])) (sim_callTG (k := fun (a109 : Int) => ([eI (a109 + (2 : Int))], [some (.val ((eL eI) p_script)), some (.own c96.2.2), some (.val (eI x86)), some (.val (eI ((1 : Int) + d90.1))), some (.val (eI c93.2)), some (.val (eI c96.1.1)), some (.val (eI c96.2.1)), some (.val (eI c99.2)), some (.val ((eL eI) ([c105.1, c105.2] : List Int))), none, none, none, none, none])) (Q := fun tr => [some (.val ((eL eI) p_script)), some (.own tr), some (.val (eI x86)), some (.val (eI ((1 : Int) + d90.1))), some (.val (eI c93.2)), some (.val (eI c96.1.1)), some (.val (eI c96.2.1)), some (.val (eI c99.2)), some (.val ((eL eI) ([c105.1, c105.2] : List Int))), none, none, none, none, none]) (i := 1) (e := eI) (lstOf_own rfl) (Sim.thenP (k := fun (a109 : Int) => (eI (a109 + (2 : Int)), [some (.val ((eL eI) p_script)), some (.own c96.2.2), some (.val (eI x86)), some (.val (eI ((1 : Int) + d90.1))), some (.val (eI c93.2)), some (.val (eI c96.1.1)), some (.val (eI c96.2.1)), some (.val (eI c99.2)), some (.val ((eL eI) ([c105.1, c105.2] : List Int))), none, none, none, none, none])) (Sim.thenP (k := fun (a109 : Int) => (eI a109, [some (.val ((eL eI) p_script)), some (.own c96.2.2), some (.val (eI x86)), some (.val (eI ((1 : Int) + d90.1))), some (.val (eI c93.2)), some (.val (eI c96.1.1)), some (.val (eI c96.2.1)), some (.val (eI c99.2)), some (.val ((eL eI) ([c105.1, c105.2] : List Int))), none, none, none, none, none])) (SimP.then SimP.ok (SimP.then (simP_val (i := 7) rfl) (sim_lift' a_mul))) (fun (a109 : Int) => (SimP.thenP SimP.ok (simP_lift o_add)))) (fun (a109 : Int) => (SimP.thenP SimP.ok SimP.ok))) (fun a109 => lstOf_own rfl) (fun a109 => ref__law_take _ ((a109 + (2 : Int)))) (fun a109 c => Ex.noX_ne c) (fun a109 => putL_own (i := 1) rfl)) (fun (d110 : (Int × List D)) => (SimP.thenP SimP.ok SimP.ok))) (fun (d110 : (Int × List D)) => SimP.ok))) (fun (d110 : (Int × List D)) => SimP.ok))) (fun (d110 : (Int × List D)) => SimP.ok))) (fun (d110 : (Int × List D)) => (simP_if (of_decide_eq_true (Eq.refl true))))) (fun (d110 : (Int × List D)) => SimP.ok)) (fun (d110 : (Int × List D)) => (simP_lift (o_itL (e := eI) (xs := ([c99.2, (c99.2 + (1 : Int)), (max (0 : Int) (c99.2 - (1 : Int))), d110.1] : List Int)))))) (fun _ => rfl) (fun (d110 : (Int × List D)) => (ple_forget [] rfl rfl)) (fun (d110 : (Int × List D)) x112 s111 => (tg_name (i := 9) rfl)) (fun (d110 : (Int × List D)) x112 s111 => (g_setE (i := 10) (k := fun (a113 : Bool) => (eB a113, [some (.val ((eL eI) p_script)), some (.own d110.2), some (.val (eI x86)), some (.val (eI ((1 : Int) + d90.1))), some (.val (eI c93.2)), some (.val (eI c96.1.1)), some (.val (eI c96.2.1)), some (.val (eI c99.2)), some (.val ((eL eI) ([c105.1, c105.2] : List Int))), some (.val (eI x112)), none, none, none, none])) (SimP.then (SimP.thenP (simP_val (i := 3) rfl) (SimP.thenP (SimP.thenP (simP_val (i := 5) rfl) (SimP.thenP (SimP.thenP (simP_val (i := 6) rfl) (SimP.thenP (SimP.thenP (simP_val (i := 9) rfl) (SimP.thenP SimP.ok SimP.ok)) SimP.ok)) SimP.ok)) SimP.ok)) (sim_ans (e := eB) (ref__law_above (((1 : Int) + d90.1)) (c96.1.1) (c96.2.1) (x112)))) (fun _ => rfl) fun (a113 : Bool) => (g_ifE (k := fun (a118 : Bool) => (a118, [some (.val ((eL eI) p_script)), some (.own d110.2), some (.val (eI x86)), some (.val (eI ((1 : Int) + d90.1))), some (.val (eI c93.2)), some (.val (eI c96.1.1)), some (.val (eI c96.2.1)), some (.val (eI c99.2)), some (.val ((eL eI) ([c105.1, c105.2] : List Int))), some (.val (eI x112)), some (.val (eB a113)), none, none, none])) (Sim.then (k := fun (a115 : Bool) => ((!a115), [some (.val ((eL eI) p_script)), some (.own d110.2), some (.val (eI x86)), some (.val (eI ((1 : Int) + d90.1))), some (.val (eI c93.2)), some (.val (eI c96.1.1)), some (.val (eI c96.2.1)), some (.val (eI c99.2)), some (.val ((eL eI) ([c105.1, c105.2] : List Int))), some (.val (eI x112)), some (.val (eB a113)), none, none, none])) (k' := fun (a118 : Bool) => (a118, [some (.val ((eL eI) p_script)), some (.own d110.2), some (.val (eI x86)), some (.val (eI ((1 : Int) + d90.1))), some (.val (eI c93.2)), some (.val (eI c96.1.1)), some (.val (eI c96.2.1)), some (.val (eI c99.2)), some (.val ((eL eI) ([c105.1, c105.2] : List Int))), some (.val (eI x112)), some (.val (eB a113)), none, none, none])) (Sim.thenP (k := fun (a115 : Bool) => (a115, [some (.val ((eL eI) p_script)), some (.own d110.2), some (.val (eI x86)), some (.val (eI ((1 : Int) + d90.1))), some (.val (eI c93.2)), some (.val (eI c96.1.1)), some (.val (eI c96.2.1)), some (.val (eI c99.2)), some (.val ((eL eI) ([c105.1, c105.2] : List Int))), some (.val (eI x112)), some (.val (eB a113)), none, none, none])) (Sim.thenP (k := fun (a115 : Bool) => (eB a115, [some (.val ((eL eI) p_script)), some (.own d110.2), some (.val (eI x86)), some (.val (eI ((1 : Int) + d90.1))), some (.val (eI c93.2)), some (.val (eI c96.1.1)), some (.val (eI c96.2.1)), some (.val (eI c99.2)), some (.val ((eL eI) ([c105.1, c105.2] : List Int))), some (.val (eI x112)), some (.val (eB a113)), none, none, none])) (Sim.then (k := fun (a114 : D) => ([eD a114, eB a113], [some (.val ((eL eI) p_script)), some (.own d110.2), some (.val (eI x86)), some (.val (eI ((1 : Int) + d90.1))), some (.val (eI c93.2)), some (.val (eI c96.1.1)), some (.val (eI c96.2.1)), some (.val (eI c99.2)), some (.val ((eL eI) ([c105.1, c105.2] : List Int))), some (.val (eI x112)), some (.val (eB a113)), none, none, none])) (k' := fun (a115 : Bool) => (eB a115, [some (.val ((eL eI) p_script)), some (.own d110.2), some (.val (eI x86)), some (.val (eI ((1 : Int) + d90.1))), some (.val (eI c93.2)), some (.val (eI c96.1.1)), some (.val (eI c96.2.1)), some (.val (eI c99.2)), some (.val ((eL eI) ([c105.1, c105.2] : List Int))), some (.val (eI x112)), some (.val (eB a113)), none, none, none])) (Sim.thenP (k := fun (a114 : D) => (eD a114, [some (.val ((eL eI) p_script)), some (.own d110.2), some (.val (eI x86)), some (.val (eI ((1 : Int) + d90.1))), some (.val (eI c93.2)), some (.val (eI c96.1.1)), some (.val (eI c96.2.1)), some (.val (eI c99.2)), some (.val ((eL eI) ([c105.1, c105.2] : List Int))), some (.val (eI x112)), some (.val (eB a113)), none, none, none])) (SimP.then (SimP.thenP SimP.ok (SimP.thenP (SimP.thenP (simP_val (i := 3) rfl) (SimP.thenP (SimP.thenP (simP_val (i := 5) rfl) (SimP.thenP (SimP.thenP (simP_val (i := 6) rfl) (SimP.thenP (SimP.thenP (simP_val (i := 9) rfl) (SimP.thenP SimP.ok SimP.ok)) SimP.ok)) SimP.ok)) SimP.ok)) SimP.ok)) (sim_ans (e := eD) (ref__law_told ((0 : Int)) (((1 : Int) + d90.1)) (c96.1.1) (c96.2.1) (x112)))) (fun (a114 : D) => (SimP.thenP (SimP.thenP (simP_val (i := 10) rfl) (SimP.thenP SimP.ok SimP.ok)) SimP.ok))) (fun (a114 : D) => (sim_ans (e := eB) (ref__law_says (a114) (a113))))) (fun (a115 : Bool) => SimP.ok)) (fun (a115 : Bool) => SimP.ok)) (fun (a115 : Bool) => sim_orR (v := fun (a117 : Bool) => (!a117)) (Sim.thenP (k := fun (a117 : Bool) => (a117, [some (.val ((eL eI) p_script)), some (.own d110.2), some (.val (eI x86)), some (.val (eI ((1 : Int) + d90.1))), some (.val (eI c93.2)), some (.val (eI c96.1.1)), some (.val (eI c96.2.1)), some (.val (eI c99.2)), some (.val ((eL eI) ([c105.1, c105.2] : List Int))), some (.val (eI x112)), some (.val (eB a113)), none, none, none])) (Sim.thenP (k := fun (a117 : Bool) => (eB a117, [some (.val ((eL eI) p_script)), some (.own d110.2), some (.val (eI x86)), some (.val (eI ((1 : Int) + d90.1))), some (.val (eI c93.2)), some (.val (eI c96.1.1)), some (.val (eI c96.2.1)), some (.val (eI c99.2)), some (.val ((eL eI) ([c105.1, c105.2] : List Int))), some (.val (eI x112)), some (.val (eB a113)), none, none, none])) (Sim.then (k := fun (a116 : D) => ([eD a116, eB a113], [some (.val ((eL eI) p_script)), some (.own d110.2), some (.val (eI x86)), some (.val (eI ((1 : Int) + d90.1))), some (.val (eI c93.2)), some (.val (eI c96.1.1)), some (.val (eI c96.2.1)), some (.val (eI c99.2)), some (.val ((eL eI) ([c105.1, c105.2] : List Int))), some (.val (eI x112)), some (.val (eB a113)), none, none, none])) (k' := fun (a117 : Bool) => (eB a117, [some (.val ((eL eI) p_script)), some (.own d110.2), some (.val (eI x86)), some (.val (eI ((1 : Int) + d90.1))), some (.val (eI c93.2)), some (.val (eI c96.1.1)), some (.val (eI c96.2.1)), some (.val (eI c99.2)), some (.val ((eL eI) ([c105.1, c105.2] : List Int))), some (.val (eI x112)), some (.val (eB a113)), none, none, none])) (Sim.thenP (k := fun (a116 : D) => (eD a116, [some (.val ((eL eI) p_script)), some (.own d110.2), some (.val (eI x86)), some (.val (eI ((1 : Int) + d90.1))), some (.val (eI c93.2)), some (.val (eI c96.1.1)), some (.val (eI c96.2.1)), some (.val (eI c99.2)), some (.val ((eL eI) ([c105.1, c105.2] : List Int))), some (.val (eI x112)), some (.val (eB a113)), none, none, none])) (SimP.then (SimP.thenP SimP.ok (SimP.thenP (SimP.thenP (simP_val (i := 3) rfl) (SimP.thenP (SimP.thenP (simP_val (i := 6) rfl) (SimP.thenP (SimP.thenP (simP_val (i := 5) rfl) (SimP.thenP (SimP.thenP (simP_val (i := 9) rfl) (SimP.thenP SimP.ok SimP.ok)) SimP.ok)) SimP.ok)) SimP.ok)) SimP.ok)) (sim_ans (e := eD) (ref__law_told ((0 : Int)) (((1 : Int) + d90.1)) (c96.2.1) (c96.1.1) (x112)))) (fun (a116 : D) => (SimP.thenP (SimP.thenP (simP_val (i := 10) rfl) (SimP.thenP SimP.ok SimP.ok)) SimP.ok))) (fun (a116 : D) => (sim_ans (e := eB) (ref__law_says (a116) (a113))))) (fun (a117 : Bool) => SimP.ok)) (fun (a117 : Bool) => SimP.ok)))) (fun (a118 : Bool) => (g_retP SimP.ok (by exact (fun σ hσ => kc_ret (kd_ret σ hσ))))) fun (a118 : Bool) => (g_nx (g_setE (i := 11) (k := fun (c121 : (D × (Option Int))) => ((eO eI) c121.2, [some (.val ((eL eI) p_script)), some (.own d110.2), some (.val (eI x86)), some (.val (eI ((1 : Int) + d90.1))), some (.val (eI c93.2)), some (.val (eI c96.1.1)), some (.val (eI c96.2.1)), some (.val (eI c99.2)), some (.val ((eL eI) ([c105.1, c105.2] : List Int))), some (.val (eI x112)), some (.val (eB a113)), none, none, none])) (sim_dcE (e := (eO eI)) (k := fun (a119 : D) => (eD a119, [some (.val ((eL eI) p_script)), some (.own d110.2), some (.val (eI x86)), some (.val (eI ((1 : Int) + d90.1))), some (.val (eI c93.2)), some (.val (eI c96.1.1)), some (.val (eI c96.2.1)), some (.val (eI c99.2)), some (.val ((eL eI) ([c105.1, c105.2] : List Int))), some (.val (eI x112)), some (.val (eB a113)), none, none, none])) (dc_opt dc_int) (SimP.then (SimP.thenP SimP.ok (SimP.thenP (SimP.thenP (simP_val (i := 3) rfl) (SimP.thenP (SimP.thenP (simP_val (i := 6) rfl) (SimP.thenP (SimP.thenP SimP.ok (SimP.thenP (SimP.thenP (simP_val (i := 9) rfl) (SimP.thenP SimP.ok SimP.ok)) SimP.ok)) SimP.ok)) SimP.ok)) SimP.ok)) (sim_ans (e := eD) (ref__law_told ((1 : Int)) (((1 : Int) + d90.1)) (c96.2.1) ((0 : Int)) (x112))))) (fun _ => rfl) fun (c121 : (D × (Option Int))) => (g_last (g_ifP (SimP.thenP (SimP.thenP (simP_val (i := 11) rfl) (SimP.thenP SimP.ok (simP_lift (o_isN nn_int)))) SimP.ok) (g_ifE (k := fun (a123 : Bool) => (a123, [some (.val ((eL eI) p_script)), some (.own d110.2), some (.val (eI x86)), some (.val (eI ((1 : Int) + d90.1))), some (.val (eI c93.2)), some (.val (eI c96.1.1)), some (.val (eI c96.2.1)), some (.val (eI c99.2)), some (.val ((eL eI) ([c105.1, c105.2] : List Int))), some (.val (eI x112)), some (.val (eB a113)), some (.val ((eO eI) c121.2)), none, none])) (Sim.thenP (k := fun (a123 : Bool) => (eB a123, [some (.val ((eL eI) p_script)), some (.own d110.2), some (.val (eI x86)), some (.val (eI ((1 : Int) + d90.1))), some (.val (eI c93.2)), some (.val (eI c96.1.1)), some (.val (eI c96.2.1)), some (.val (eI c99.2)), some (.val ((eL eI) ([c105.1, c105.2] : List Int))), some (.val (eI x112)), some (.val (eB a113)), some (.val ((eO eI) c121.2)), none, none])) (SimP.then (SimP.thenP (simP_val (i := 3) rfl) (SimP.thenP (SimP.thenP SimP.ok (SimP.thenP (SimP.thenP (simP_val (i := 6) rfl) (SimP.thenP (SimP.thenP (simP_val (i := 9) rfl) (SimP.thenP SimP.ok SimP.ok)) SimP.ok)) SimP.ok)) SimP.ok)) (sim_ans (e := eB) (ref__law_above (((1 : Int) + d90.1)) ((10000 : Int)) (c96.2.1) (x112)))) (fun (a123 : Bool) => SimP.ok)) (fun (a123 : Bool) => (g_retP SimP.ok (by exact (fun σ hσ => kc_ret (kd_ret σ hσ))))) fun (a123 : Bool) => (g_nx (kc_end (s := ()) (ple_forget [9, 10, 11] rfl rfl)))) (g_ifE (k := fun (a133 : Bool) => (a133, [some (.val ((eL eI) p_script)), some (.own d110.2), some (.val (eI x86)), some (.val (eI ((1 : Int) + d90.1))), some (.val (eI c93.2)), some (.val (eI c96.1.1)), some (.val (eI c96.2.1)), some (.val (eI c99.2)), some (.val ((eL eI) ([c105.1, c105.2] : List Int))), some (.val (eI x112)), some (.val (eB a113)), some (.val ((eO eI) c121.2)), none, none])) (sim_or (v := fun (a132 : Bool) => a132) (SimP.thenP (SimP.thenP (SimP.thenP (simP_val (i := 11) rfl) SimP.ok) SimP.ok) SimP.ok) (Sim.then (k := fun (a124 : Bool) => ((!a124), [some (.val ((eL eI) p_script)), some (.own d110.2), some (.val (eI x86)), some (.val (eI ((1 : Int) + d90.1))), some (.val (eI c93.2)), some (.val (eI c96.1.1)), some (.val (eI c96.2.1)), some (.val (eI c99.2)), some (.val ((eL eI) ([c105.1, c105.2] : List Int))), some (.val (eI x112)), some (.val (eB a113)), some (.val ((eO eI) c121.2)), none, none])) (k' := fun (a132 : Bool) => (a132, [some (.val ((eL eI) p_script)), some (.own d110.2), some (.val (eI x86)), some (.val (eI ((1 : Int) + d90.1))), some (.val (eI c93.2)), some (.val (eI c96.1.1)), some (.val (eI c96.2.1)), some (.val (eI c99.2)), some (.val ((eL eI) ([c105.1, c105.2] : List Int))), some (.val (eI x112)), some (.val (eB a113)), some (.val ((eO eI) c121.2)), none, none])) (Sim.thenP (k := fun (a124 : Bool) => (a124, [some (.val ((eL eI) p_script)), some (.own d110.2), some (.val (eI x86)), some (.val (eI ((1 : Int) + d90.1))), some (.val (eI c93.2)), some (.val (eI c96.1.1)), some (.val (eI c96.2.1)), some (.val (eI c99.2)), some (.val ((eL eI) ([c105.1, c105.2] : List Int))), some (.val (eI x112)), some (.val (eB a113)), some (.val ((eO eI) c121.2)), none, none])) (Sim.thenP (k := fun (a124 : Bool) => (eB a124, [some (.val ((eL eI) p_script)), some (.own d110.2), some (.val (eI x86)), some (.val (eI ((1 : Int) + d90.1))), some (.val (eI c93.2)), some (.val (eI c96.1.1)), some (.val (eI c96.2.1)), some (.val (eI c99.2)), some (.val ((eL eI) ([c105.1, c105.2] : List Int))), some (.val (eI x112)), some (.val (eB a113)), some (.val ((eO eI) c121.2)), none, none])) (SimP.then SimP.ok (SimP.then (simP_val (i := 11) rfl) (sim_chnDR SimP.ok))) (fun (a124 : Bool) => SimP.ok)) (fun (a124 : Bool) => SimP.ok)) (fun (a124 : Bool) => sim_orR (v := fun (a131 : Bool) => a131) (Sim.then (k := fun (a126 : Bool) => ((!a126), [some (.val ((eL eI) p_script)), some (.own d110.2), some (.val (eI x86)), some (.val (eI ((1 : Int) + d90.1))), some (.val (eI c93.2)), some (.val (eI c96.1.1)), some (.val (eI c96.2.1)), some (.val (eI c99.2)), some (.val ((eL eI) ([c105.1, c105.2] : List Int))), some (.val (eI x112)), some (.val (eB a113)), some (.val ((eO eI) c121.2)), none, none])) (k' := fun (a131 : Bool) => (a131, [some (.val ((eL eI) p_script)), some (.own d110.2), some (.val (eI x86)), some (.val (eI ((1 : Int) + d90.1))), some (.val (eI c93.2)), some (.val (eI c96.1.1)), some (.val (eI c96.2.1)), some (.val (eI c99.2)), some (.val ((eL eI) ([c105.1, c105.2] : List Int))), some (.val (eI x112)), some (.val (eB a113)), some (.val ((eO eI) c121.2)), none, none])) (Sim.thenP (k := fun (a126 : Bool) => (a126, [some (.val ((eL eI) p_script)), some (.own d110.2), some (.val (eI x86)), some (.val (eI ((1 : Int) + d90.1))), some (.val (eI c93.2)), some (.val (eI c96.1.1)), some (.val (eI c96.2.1)), some (.val (eI c99.2)), some (.val ((eL eI) ([c105.1, c105.2] : List Int))), some (.val (eI x112)), some (.val (eB a113)), some (.val ((eO eI) c121.2)), none, none])) (Sim.thenP (k := fun (a126 : Bool) => (eB a126, [some (.val ((eL eI) p_script)), some (.own d110.2), some (.val (eI x86)), some (.val (eI ((1 : Int) + d90.1))), some (.val (eI c93.2)), some (.val (eI c96.1.1)), some (.val (eI c96.2.1)), some (.val (eI c99.2)), some (.val ((eL eI) ([c105.1, c105.2] : List Int))), some (.val (eI x112)), some (.val (eB a113)), some (.val ((eO eI) c121.2)), none, none])) (Sim.then (k := fun (a125 : Int) => ([eI ((1 : Int) + d90.1), eI a125, eI c96.2.1, eI x112], [some (.val ((eL eI) p_script)), some (.own d110.2), some (.val (eI x86)), some (.val (eI ((1 : Int) + d90.1))), some (.val (eI c93.2)), some (.val (eI c96.1.1)), some (.val (eI c96.2.1)), some (.val (eI c99.2)), some (.val ((eL eI) ([c105.1, c105.2] : List Int))), some (.val (eI x112)), some (.val (eB a113)), some (.val ((eO eI) c121.2)), none, none])) (k' := fun (a126 : Bool) => (eB a126, [some (.val ((eL eI) p_script)), some (.own d110.2), some (.val (eI x86)), some (.val (eI ((1 : Int) + d90.1))), some (.val (eI c93.2)), some (.val (eI c96.1.1)), some (.val (eI c96.2.1)), some (.val (eI c99.2)), some (.val ((eL eI) ([c105.1, c105.2] : List Int))), some (.val (eI x112)), some (.val (eB a113)), some (.val ((eO eI) c121.2)), none, none])) (SimP.then (simP_val (i := 3) rfl) (Sim.thenP (k := fun (a125 : Int) => ([eI a125, eI c96.2.1, eI x112], [some (.val ((eL eI) p_script)), some (.own d110.2), some (.val (eI x86)), some (.val (eI ((1 : Int) + d90.1))), some (.val (eI c93.2)), some (.val (eI c96.1.1)), some (.val (eI c96.2.1)), some (.val (eI c99.2)), some (.val ((eL eI) ([c105.1, c105.2] : List Int))), some (.val (eI x112)), some (.val (eB a113)), some (.val ((eO eI) c121.2)), none, none])) (Sim.thenP (k := fun (a125 : Int) => (eI a125, [some (.val ((eL eI) p_script)), some (.own d110.2), some (.val (eI x86)), some (.val (eI ((1 : Int) + d90.1))), some (.val (eI c93.2)), some (.val (eI c96.1.1)), some (.val (eI c96.2.1)), some (.val (eI c99.2)), some (.val ((eL eI) ([c105.1, c105.2] : List Int))), some (.val (eI x112)), some (.val (eB a113)), some (.val ((eO eI) c121.2)), none, none])) (sim_some (e := eI) (simP_val (i := 11) rfl)) (fun (a125 : Int) => (SimP.thenP (SimP.thenP (simP_val (i := 6) rfl) (SimP.thenP (SimP.thenP (simP_val (i := 9) rfl) (SimP.thenP SimP.ok SimP.ok)) SimP.ok)) SimP.ok))) (fun (a125 : Int) => SimP.ok))) (fun (a125 : Int) => (sim_ans (e := eB) (ref__law_above (((1 : Int) + d90.1)) (a125) (c96.2.1) (x112))))) (fun (a126 : Bool) => SimP.ok)) (fun (a126 : Bool) => SimP.ok)) (fun (a126 : Bool) => sim_orR (v := fun (a130 : Bool) => a130) (Sim.then (k := fun (a127 : Bool) => (a127, [some (.val ((eL eI) p_script)), some (.own d110.2), some (.val (eI x86)), some (.val (eI ((1 : Int) + d90.1))), some (.val (eI c93.2)), some (.val (eI c96.1.1)), some (.val (eI c96.2.1)), some (.val (eI c99.2)), some (.val ((eL eI) ([c105.1, c105.2] : List Int))), some (.val (eI x112)), some (.val (eB a113)), some (.val ((eO eI) c121.2)), none, none])) (k' := fun (a130 : Bool) => (a130, [some (.val ((eL eI) p_script)), some (.own d110.2), some (.val (eI x86)), some (.val (eI ((1 : Int) + d90.1))), some (.val (eI c93.2)), some (.val (eI c96.1.1)), some (.val (eI c96.2.1)), some (.val (eI c99.2)), some (.val ((eL eI) ([c105.1, c105.2] : List Int))), some (.val (eI x112)), some (.val (eB a113)), some (.val ((eO eI) c121.2)), none, none])) (Sim.thenP (k := fun (a127 : Bool) => (eB a127, [some (.val ((eL eI) p_script)), some (.own d110.2), some (.val (eI x86)), some (.val (eI ((1 : Int) + d90.1))), some (.val (eI c93.2)), some (.val (eI c96.1.1)), some (.val (eI c96.2.1)), some (.val (eI c99.2)), some (.val ((eL eI) ([c105.1, c105.2] : List Int))), some (.val (eI x112)), some (.val (eB a113)), some (.val ((eO eI) c121.2)), none, none])) (SimP.then (simP_val (i := 11) rfl) (SimP.then SimP.ok (sim_lift' (e := eB) a_opB))) (fun (a127 : Bool) => SimP.ok)) (fun (a127 : Bool) => sim_andR (v := fun (a129 : Bool) => a129) (Sim.thenP (k := fun (a129 : Bool) => (eB a129, [some (.val ((eL eI) p_script)), some (.own d110.2), some (.val (eI x86)), some (.val (eI ((1 : Int) + d90.1))), some (.val (eI c93.2)), some (.val (eI c96.1.1)), some (.val (eI c96.2.1)), some (.val (eI c99.2)), some (.val ((eL eI) ([c105.1, c105.2] : List Int))), some (.val (eI x112)), some (.val (eB a113)), some (.val ((eO eI) c121.2)), none, none])) (Sim.then (k := fun (a128 : Int) => ([eI ((1 : Int) + d90.1), eI (a128 - (1 : Int)), eI c96.2.1, eI x112], [some (.val ((eL eI) p_script)), some (.own d110.2), some (.val (eI x86)), some (.val (eI ((1 : Int) + d90.1))), some (.val (eI c93.2)), some (.val (eI c96.1.1)), some (.val (eI c96.2.1)), some (.val (eI c99.2)), some (.val ((eL eI) ([c105.1, c105.2] : List Int))), some (.val (eI x112)), some (.val (eB a113)), some (.val ((eO eI) c121.2)), none, none])) (k' := fun (a129 : Bool) => (eB a129, [some (.val ((eL eI) p_script)), some (.own d110.2), some (.val (eI x86)), some (.val (eI ((1 : Int) + d90.1))), some (.val (eI c93.2)), some (.val (eI c96.1.1)), some (.val (eI c96.2.1)), some (.val (eI c99.2)), some (.val ((eL eI) ([c105.1, c105.2] : List Int))), some (.val (eI x112)), some (.val (eB a113)), some (.val ((eO eI) c121.2)), none, none])) (SimP.then (simP_val (i := 3) rfl) (Sim.thenP (k := fun (a128 : Int) => ([eI (a128 - (1 : Int)), eI c96.2.1, eI x112], [some (.val ((eL eI) p_script)), some (.own d110.2), some (.val (eI x86)), some (.val (eI ((1 : Int) + d90.1))), some (.val (eI c93.2)), some (.val (eI c96.1.1)), some (.val (eI c96.2.1)), some (.val (eI c99.2)), some (.val ((eL eI) ([c105.1, c105.2] : List Int))), some (.val (eI x112)), some (.val (eB a113)), some (.val ((eO eI) c121.2)), none, none])) (Sim.thenP (k := fun (a128 : Int) => (eI (a128 - (1 : Int)), [some (.val ((eL eI) p_script)), some (.own d110.2), some (.val (eI x86)), some (.val (eI ((1 : Int) + d90.1))), some (.val (eI c93.2)), some (.val (eI c96.1.1)), some (.val (eI c96.2.1)), some (.val (eI c99.2)), some (.val ((eL eI) ([c105.1, c105.2] : List Int))), some (.val (eI x112)), some (.val (eB a113)), some (.val ((eO eI) c121.2)), none, none])) (Sim.thenP (k := fun (a128 : Int) => (eI a128, [some (.val ((eL eI) p_script)), some (.own d110.2), some (.val (eI x86)), some (.val (eI ((1 : Int) + d90.1))), some (.val (eI c93.2)), some (.val (eI c96.1.1)), some (.val (eI c96.2.1)), some (.val (eI c99.2)), some (.val ((eL eI) ([c105.1, c105.2] : List Int))), some (.val (eI x112)), some (.val (eB a113)), some (.val ((eO eI) c121.2)), none, none])) (sim_some (e := eI) (simP_val (i := 11) rfl)) (fun (a128 : Int) => (SimP.thenP SimP.ok (simP_lift o_sub)))) (fun (a128 : Int) => (SimP.thenP (SimP.thenP (simP_val (i := 6) rfl) (SimP.thenP (SimP.thenP (simP_val (i := 9) rfl) (SimP.thenP SimP.ok SimP.ok)) SimP.ok)) SimP.ok))) (fun (a128 : Int) => SimP.ok))) (fun (a128 : Int) => (sim_ans (e := eB) (ref__law_above (((1 : Int) + d90.1)) ((a128 - (1 : Int))) (c96.2.1) (x112))))) (fun (a129 : Bool) => SimP.ok))))))))) (fun (a133 : Bool) => (g_retP SimP.ok (by exact (fun σ hσ => kc_ret (kd_ret σ hσ))))) fun (a133 : Bool) => (g_nx (kc_end (s := ()) (ple_forget [9, 10, 11] rfl rfl))))))))))) (fun (d110 : (Int × List D)) s111 => (kc_end (s := d110.2) (ple_forget [2, 3, 4, 5, 6, 7, 8] rfl rfl))) (fun _ _ σ _ => True.intro) (fun _ _ h => h))))))))))))) (fun s85 => (g_setE (i := 12) (k := fun (c144 : (D × (D × (D × (D × (D × D)))))) => ((eL eD) ([c144.1, c144.2.1, c144.2.2.1, c144.2.2.2.1, c144.2.2.2.2.1, c144.2.2.2.2.2] : List D), [some (.val ((eL eI) p_script)), some (.own s85), none, none, none, none, none, none, none, none, none, none, none, none])) (Sim.thenP (k := fun (c144 : (D × (D × (D × (D × (D × D)))))) => (List.map eD ([c144.1, c144.2.1, c144.2.2.1, c144.2.2.2.1, c144.2.2.2.2.1, c144.2.2.2.2.2] : List D), [some (.val ((eL eI) p_script)), some (.own s85), none, none, none, none, none, none, none, none, none, none, none, none])) (Sim.thenP (k := fun (c144 : (D × (D × (D × (D × (D × D)))))) => ([eD c144.1, eD c144.2.1, eD c144.2.2.1, eD c144.2.2.2.1, eD c144.2.2.2.2.1, eD c144.2.2.2.2.2], [some (.val ((eL eI) p_script)), some (.own s85), none, none, none, none, none, none, none, none, none, none, none, none])) (Sim.then2 (k := fun (a134 : D) => (eD a134, [some (.val ((eL eI) p_script)), some (.own s85), none, none, none, none, none, none, none, none, none, none, none, none])) (k' := fun (a134 : D) => fun (c143 : (D × (D × (D × (D × D))))) => ([eD a134, eD c143.1, eD c143.2.1, eD c143.2.2.1, eD c143.2.2.2.1, eD c143.2.2.2.2], [some (.val ((eL eI) p_script)), some (.own s85), none, none, none, none, none, none, none, none, none, none, none, none])) (SimP.then (SimP.thenP SimP.ok (SimP.thenP (SimP.thenP SimP.ok (SimP.thenP (SimP.thenP SimP.ok (SimP.thenP (SimP.thenP SimP.ok (SimP.thenP (SimP.thenP SimP.ok (SimP.thenP SimP.ok SimP.ok)) SimP.ok)) SimP.ok)) SimP.ok)) SimP.ok)) (sim_ans (e := eD) (ref__law_told ((0 : Int)) ((0 : Int)) ((1 : Int)) ((1 : Int)) ((1 : Int))))) (fun (a134 : D) => (Sim.thenP (k := fun (c143 : (D × (D × (D × (D × D))))) => ([eD c143.1, eD c143.2.1, eD c143.2.2.1, eD c143.2.2.2.1, eD c143.2.2.2.2], [some (.val ((eL eI) p_script)), some (.own s85), none, none, none, none, none, none, none, none, none, none, none, none])) (Sim.then2 (k := fun (a135 : D) => (eD a135, [some (.val ((eL eI) p_script)), some (.own s85), none, none, none, none, none, none, none, none, none, none, none, none])) (k' := fun (a135 : D) => fun (c142 : (D × (D × (D × D)))) => ([eD a135, eD c142.1, eD c142.2.1, eD c142.2.2.1, eD c142.2.2.2], [some (.val ((eL eI) p_script)), some (.own s85), none, none, none, none, none, none, none, none, none, none, none, none])) (SimP.then (SimP.thenP SimP.ok (SimP.thenP (SimP.thenP SimP.ok (SimP.thenP (SimP.thenP SimP.ok (SimP.thenP (SimP.thenP SimP.ok (SimP.thenP (SimP.thenP SimP.ok (SimP.thenP SimP.ok SimP.ok)) SimP.ok)) SimP.ok)) SimP.ok)) SimP.ok)) (sim_ans (e := eD) (ref__law_told ((0 : Int)) ((1001 : Int)) ((1 : Int)) ((1 : Int)) ((1 : Int))))) (fun (a135 : D) => (Sim.thenP (k := fun (c142 : (D × (D × (D × D)))) => ([eD c142.1, eD c142.2.1, eD c142.2.2.1, eD c142.2.2.2], [some (.val ((eL eI) p_script)), some (.own s85), none, none, none, none, none, none, none, none, none, none, none, none])) (Sim.then2 (k := fun (a136 : D) => (eD a136, [some (.val ((eL eI) p_script)), some (.own s85), none, none, none, none, none, none, none, none, none, none, none, none])) (k' := fun (a136 : D) => fun (c141 : (D × (D × D))) => ([eD a136, eD c141.1, eD c141.2.1, eD c141.2.2], [some (.val ((eL eI) p_script)), some (.own s85), none, none, none, none, none, none, none, none, none, none, none, none])) (SimP.then (SimP.thenP SimP.ok (SimP.thenP (SimP.thenP SimP.ok (SimP.thenP (SimP.thenP (SimP.thenP SimP.ok (simP_lift o_neg)) (SimP.thenP (SimP.thenP SimP.ok (SimP.thenP (SimP.thenP SimP.ok (SimP.thenP SimP.ok SimP.ok)) SimP.ok)) SimP.ok)) SimP.ok)) SimP.ok)) (sim_ans (e := eD) (ref__law_told ((0 : Int)) ((1 : Int)) ((-(1 : Int))) ((1 : Int)) ((1 : Int))))) (fun (a136 : D) => (Sim.thenP (k := fun (c141 : (D × (D × D))) => ([eD c141.1, eD c141.2.1, eD c141.2.2], [some (.val ((eL eI) p_script)), some (.own s85), none, none, none, none, none, none, none, none, none, none, none, none])) (Sim.then2 (k := fun (a137 : D) => (eD a137, [some (.val ((eL eI) p_script)), some (.own s85), none, none, none, none, none, none, none, none, none, none, none, none])) (k' := fun (a137 : D) => fun (c140 : (D × D)) => ([eD a137, eD c140.1, eD c140.2], [some (.val ((eL eI) p_script)), some (.own s85), none, none, none, none, none, none, none, none, none, none, none, none])) (SimP.then (SimP.thenP SimP.ok (SimP.thenP (SimP.thenP SimP.ok (SimP.thenP (SimP.thenP SimP.ok (SimP.thenP (SimP.thenP SimP.ok (SimP.thenP (SimP.thenP SimP.ok (SimP.thenP SimP.ok SimP.ok)) SimP.ok)) SimP.ok)) SimP.ok)) SimP.ok)) (sim_ans (e := eD) (ref__law_told ((0 : Int)) ((1 : Int)) ((1 : Int)) ((10001 : Int)) ((1 : Int))))) (fun (a137 : D) => (Sim.thenP (k := fun (c140 : (D × D)) => ([eD c140.1, eD c140.2], [some (.val ((eL eI) p_script)), some (.own s85), none, none, none, none, none, none, none, none, none, none, none, none])) (Sim.then2 (k := fun (a138 : D) => (eD a138, [some (.val ((eL eI) p_script)), some (.own s85), none, none, none, none, none, none, none, none, none, none, none, none])) (k' := fun (a138 : D) => fun (a139 : D) => ([eD a138, eD a139], [some (.val ((eL eI) p_script)), some (.own s85), none, none, none, none, none, none, none, none, none, none, none, none])) (SimP.then (SimP.thenP SimP.ok (SimP.thenP (SimP.thenP SimP.ok (SimP.thenP (SimP.thenP SimP.ok (SimP.thenP (SimP.thenP SimP.ok (SimP.thenP (SimP.thenP (SimP.thenP SimP.ok (simP_lift o_neg)) (SimP.thenP SimP.ok SimP.ok)) SimP.ok)) SimP.ok)) SimP.ok)) SimP.ok)) (sim_ans (e := eD) (ref__law_told ((0 : Int)) ((1 : Int)) ((1 : Int)) ((1 : Int)) ((-(1 : Int)))))) (fun (a138 : D) => (Sim.thenP (k := fun (a139 : D) => ([eD a139], [some (.val ((eL eI) p_script)), some (.own s85), none, none, none, none, none, none, none, none, none, none, none, none])) (Sim.thenP (k := fun (a139 : D) => (eD a139, [some (.val ((eL eI) p_script)), some (.own s85), none, none, none, none, none, none, none, none, none, none, none, none])) (SimP.then (SimP.thenP SimP.ok (SimP.thenP (SimP.thenP SimP.ok (SimP.thenP (SimP.thenP SimP.ok (SimP.thenP (SimP.thenP SimP.ok (SimP.thenP (SimP.thenP SimP.ok (SimP.thenP SimP.ok SimP.ok)) SimP.ok)) SimP.ok)) SimP.ok)) SimP.ok)) (sim_ans (e := eD) (ref__law_told ((0 : Int)) ((1 : Int)) ((1 : Int)) ((1 : Int)) ((1000001 : Int))))) (fun (a139 : D) => (SimP.thenP SimP.ok SimP.ok))) (fun (a139 : D) => SimP.ok)))) (fun (c140 : (D × D)) => SimP.ok)))) (fun (c141 : (D × (D × D))) => SimP.ok)))) (fun (c142 : (D × (D × (D × D)))) => SimP.ok)))) (fun (c143 : (D × (D × (D × (D × D))))) => SimP.ok)))) (fun (c144 : (D × (D × (D × (D × (D × D)))))) => (simP_if (of_decide_eq_true (Eq.refl true))))) (fun (c144 : (D × (D × (D × (D × (D × D)))))) => SimP.ok)) (fun _ => rfl) fun (c144 : (D × (D × (D × (D × (D × D)))))) => (g_last (g_retE (k := fun (a156 : Bool) => (eB a156, [some (.val ((eL eI) p_script)), some (.own s85), none, none, none, none, none, none, none, none, none, none, some (.val ((eL eD) ([c144.1, c144.2.1, c144.2.2.1, c144.2.2.2.1, c144.2.2.2.2.1, c144.2.2.2.2.2] : List D))), none])) (Sim.then (k := fun (a146 : Bool) => (eB a146, [some (.val ((eL eI) p_script)), some (.own s85), none, none, none, none, none, none, none, none, none, none, some (.val ((eL eD) ([c144.1, c144.2.1, c144.2.2.1, c144.2.2.2.1, c144.2.2.2.2.1, c144.2.2.2.2.2] : List D))), none])) (k' := fun (a156 : Bool) => (eB a156, [some (.val ((eL eI) p_script)), some (.own s85), none, none, none, none, none, none, none, none, none, none, some (.val ((eL eD) ([c144.1, c144.2.1, c144.2.2.1, c144.2.2.2.1, c144.2.2.2.2.1, c144.2.2.2.2.2] : List D))), none])) (SimP.then (simP_val (i := 12) rfl) (Sim.then (k := fun (l145 : (List D)) => ((eL eD) l145, [some (.val ((eL eI) p_script)), some (.own s85), none, none, none, none, none, none, none, none, none, none, some (.val ((eL eD) ([c144.1, c144.2.1, c144.2.2.1, c144.2.2.2.1, c144.2.2.2.2.1, c144.2.2.2.2.2] : List D))), none])) (k' := fun (a146 : Bool) => (eB a146, [some (.val ((eL eI) p_script)), some (.own s85), none, none, none, none, none, none, none, none, none, none, some (.val ((eL eD) ([c144.1, c144.2.1, c144.2.2.1, c144.2.2.2.1, c144.2.2.2.2.1, c144.2.2.2.2.2] : List D))), none])) (Sim.thenP (k := fun (l145 : (List D)) => (List.map eD l145, [some (.val ((eL eI) p_script)), some (.own s85), none, none, none, none, none, none, none, none, none, none, some (.val ((eL eD) ([c144.1, c144.2.1, c144.2.2.1, c144.2.2.2.1, c144.2.2.2.2.1, c144.2.2.2.2.2] : List D))), none])) (sim_rep (e := eD) (xs := ([(eS ("range" : Str))] : List D)) (simP_chk (SimP.thenP SimP.ok (SimP.thenP SimP.ok SimP.ok)) rfl) SimP.ok) (fun (l145 : (List D)) => SimP.ok)) (fun (l145 : (List D)) => (sim_lift' (e := eB) a_eqD)))) (fun (a146 : Bool) => sim_vAndR (v := fun (a155 : Bool) => a155) (Sim.then (k := fun (l153 : (List D)) => ((eL eD) l153, [some (.val ((eL eI) p_script)), some (.own s85), none, none, none, none, none, none, none, none, none, none, some (.val ((eL eD) ([c144.1, c144.2.1, c144.2.2.1, c144.2.2.2.1, c144.2.2.2.2.1, c144.2.2.2.2.2] : List D))), none])) (k' := fun (a155 : Bool) => (eB a155, [some (.val ((eL eI) p_script)), some (.own s85), none, none, none, none, none, none, none, none, none, none, some (.val ((eL eD) ([c144.1, c144.2.1, c144.2.2.1, c144.2.2.2.1, c144.2.2.2.2.1, c144.2.2.2.2.2] : List D))), none])) (Sim.then (k := fun (l149 : (List D)) => ((eL eD) l149, [some (.val ((eL eI) p_script)), some (.own s85), none, none, none, none, none, none, none, none, none, none, some (.val ((eL eD) ([c144.1, c144.2.1, c144.2.2.1, c144.2.2.2.1, c144.2.2.2.2.1, c144.2.2.2.2.2] : List D))), none])) (k' := fun (l153 : (List D)) => ((eL eD) l153, [some (.val ((eL eI) p_script)), some (.own s85), none, none, none, none, none, none, none, none, none, none, some (.val ((eL eD) ([c144.1, c144.2.1, c144.2.2.1, c144.2.2.2.1, c144.2.2.2.2.1, c144.2.2.2.2.2] : List D))), none])) (Sim.thenP (k := fun (l149 : (List D)) => (List.map eD l149, [some (.val ((eL eI) p_script)), some (.own s85), none, none, none, none, none, none, none, none, none, none, some (.val ((eL eD) ([c144.1, c144.2.1, c144.2.2.1, c144.2.2.2.1, c144.2.2.2.2.1, c144.2.2.2.2.2] : List D))), none])) (sim_lcE (q := [some (.val ((eL eI) p_script)), some (.own s85), none, none, none, none, none, none, none, none, none, none, some (.val ((eL eD) ([c144.1, c144.2.1, c144.2.2.1, c144.2.2.2.1, c144.2.2.2.2.1, c144.2.2.2.2.2] : List D))), none]) (G := fun x147 => [some (.val ((eL eI) p_script)), some (.own s85), none, none, none, none, none, none, none, none, none, none, some (.val ((eL eD) ([c144.1, c144.2.1, c144.2.2.1, c144.2.2.2.1, c144.2.2.2.2.1, c144.2.2.2.2.2] : List D))), some (.val (eI x147))]) (G1 := fun x147 => [some (.val ((eL eI) p_script)), some (.own s85), none, none, none, none, none, none, none, none, none, none, some (.val ((eL eD) ([c144.1, c144.2.1, c144.2.2.1, c144.2.2.2.1, c144.2.2.2.2.1, c144.2.2.2.2.2] : List D))), some (.val (eI x147))]) (G2 := fun x147 => [some (.val ((eL eI) p_script)), some (.own s85), none, none, none, none, none, none, none, none, none, none, some (.val ((eL eD) ([c144.1, c144.2.1, c144.2.2.1, c144.2.2.2.1, c144.2.2.2.2.1, c144.2.2.2.2.2] : List D))), some (.val (eI x147))]) (e := eI) (e' := eD) (SimP.thenP (SimP.thenP (simP_chk (SimP.thenP SimP.ok (SimP.thenP (SimP.thenP SimP.ok (SimP.thenP SimP.ok SimP.ok)) SimP.ok)) rfl) SimP.ok) (simP_lift (o_itL (e := eI) (xs := ([(1 : Int), (2 : Int)] : List Int))))) (fun x147 => (tg_name (i := 13) rfl)) (fun x147 => sim_yes) (fun x147 => (SimP.then (SimP.thenP (simP_val (i := 13) rfl) (SimP.thenP (SimP.thenP SimP.ok (SimP.thenP (SimP.thenP SimP.ok (SimP.thenP (SimP.thenP SimP.ok (SimP.thenP (SimP.thenP SimP.ok (SimP.thenP SimP.ok SimP.ok)) SimP.ok)) SimP.ok)) SimP.ok)) SimP.ok)) (sim_ans (e := eD) (ref__law_told (x147) ((0 : Int)) ((1 : Int)) ((1 : Int)) ((1 : Int)))))) (fun _ => PLe.refl _) (fun _ => PLe.refl _)) (fun (l149 : (List D)) => SimP.ok)) (fun (l149 : (List D)) => (Sim.then (k := fun (l152 : (List D)) => ((eL eD) l152, [some (.val ((eL eI) p_script)), some (.own s85), none, none, none, none, none, none, none, none, none, none, some (.val ((eL eD) ([c144.1, c144.2.1, c144.2.2.1, c144.2.2.2.1, c144.2.2.2.2.1, c144.2.2.2.2.2] : List D))), none])) (k' := fun (l153 : (List D)) => ((eL eD) l153, [some (.val ((eL eI) p_script)), some (.own s85), none, none, none, none, none, none, none, none, none, none, some (.val ((eL eD) ([c144.1, c144.2.1, c144.2.2.1, c144.2.2.2.1, c144.2.2.2.2.1, c144.2.2.2.2.2] : List D))), none])) (Sim.thenP (k := fun (l152 : (List D)) => (List.map eD l152, [some (.val ((eL eI) p_script)), some (.own s85), none, none, none, none, none, none, none, none, none, none, some (.val ((eL eD) ([c144.1, c144.2.1, c144.2.2.1, c144.2.2.2.1, c144.2.2.2.2.1, c144.2.2.2.2.2] : List D))), none])) (sim_lcE (q := [some (.val ((eL eI) p_script)), some (.own s85), none, none, none, none, none, none, none, none, none, none, some (.val ((eL eD) ([c144.1, c144.2.1, c144.2.2.1, c144.2.2.2.1, c144.2.2.2.2.1, c144.2.2.2.2.2] : List D))), none]) (G := fun x150 => [some (.val ((eL eI) p_script)), some (.own s85), none, none, none, none, none, none, none, none, none, none, some (.val ((eL eD) ([c144.1, c144.2.1, c144.2.2.1, c144.2.2.2.1, c144.2.2.2.2.1, c144.2.2.2.2.2] : List D))), some (.val (eI x150))]) (G1 := fun x150 => [some (.val ((eL eI) p_script)), some (.own s85), none, none, none, none, none, none, none, none, none, none, some (.val ((eL eD) ([c144.1, c144.2.1, c144.2.2.1, c144.2.2.2.1, c144.2.2.2.2.1, c144.2.2.2.2.2] : List D))), some (.val (eI x150))]) (G2 := fun x150 => [some (.val ((eL eI) p_script)), some (.own s85), none, none, none, none, none, none, none, none, none, none, some (.val ((eL eD) ([c144.1, c144.2.1, c144.2.2.1, c144.2.2.2.1, c144.2.2.2.2.1, c144.2.2.2.2.2] : List D))), some (.val (eI x150))]) (e := eI) (e' := eD) (SimP.thenP (SimP.thenP (simP_chk (SimP.thenP SimP.ok (SimP.thenP (SimP.thenP SimP.ok (SimP.thenP SimP.ok SimP.ok)) SimP.ok)) rfl) SimP.ok) (simP_lift (o_itL (e := eI) (xs := ([(1 : Int), (2 : Int)] : List Int))))) (fun x150 => (tg_name (i := 13) rfl)) (fun x150 => sim_yes) (fun x150 => (SimP.then (SimP.thenP (simP_val (i := 13) rfl) (SimP.thenP (SimP.thenP SimP.ok (SimP.thenP (SimP.thenP SimP.ok (SimP.thenP (SimP.thenP SimP.ok (SimP.thenP (SimP.thenP SimP.ok (SimP.thenP SimP.ok SimP.ok)) SimP.ok)) SimP.ok)) SimP.ok)) SimP.ok)) (sim_ans (e := eD) (ref__law_told (x150) ((1 : Int)) ((10001 : Int)) ((1 : Int)) ((1 : Int)))))) (fun _ => PLe.refl _) (fun _ => PLe.refl _)) (fun (l152 : (List D)) => SimP.ok)) (fun (l152 : (List D)) => (sim_lift' (e := (eL eD)) (a_catL (e := eD) (xs := l149) (ys := l152))))))) (fun (l153 : (List D)) => (Sim.then (k := fun (l154 : (List D)) => ((eL eD) l154, [some (.val ((eL eI) p_script)), some (.own s85), none, none, none, none, none, none, none, none, none, none, some (.val ((eL eD) ([c144.1, c144.2.1, c144.2.2.1, c144.2.2.2.1, c144.2.2.2.2.1, c144.2.2.2.2.2] : List D))), none])) (k' := fun (a155 : Bool) => (eB a155, [some (.val ((eL eI) p_script)), some (.own s85), none, none, none, none, none, none, none, none, none, none, some (.val ((eL eD) ([c144.1, c144.2.1, c144.2.2.1, c144.2.2.2.1, c144.2.2.2.2.1, c144.2.2.2.2.2] : List D))), none])) (Sim.thenP (k := fun (l154 : (List D)) => (List.map eD l154, [some (.val ((eL eI) p_script)), some (.own s85), none, none, none, none, none, none, none, none, none, none, some (.val ((eL eD) ([c144.1, c144.2.1, c144.2.2.1, c144.2.2.2.1, c144.2.2.2.2.1, c144.2.2.2.2.2] : List D))), none])) (sim_rep (e := eD) (xs := ([(eS ("range" : Str))] : List D)) (simP_chk (SimP.thenP SimP.ok (SimP.thenP SimP.ok SimP.ok)) rfl) SimP.ok) (fun (l154 : (List D)) => SimP.ok)) (fun (l154 : (List D)) => (sim_lift' (e := eB) a_eqD))))))) (by exact (fun (a156 : Bool) => kd_ret)))))) (fun _ σ _ => True.intro) (fun _ _ h => h)))
end PL
set_option Elab.async false
set_option linter.all false
set_option maxRecDepth 100000
set_option maxHeartbeats 1000000
set_option autoImplicit false
/-! Draws: what a draw gives. -/
namespace PL
open PySem PySem.Spec PyProof.Rows L2
/-- a tape: whole numbers -/
def TapeI (tp : List D) : Prop := ∃ ns : List Int, tp = ns.map .int
theorem dMod_of {a b : Int} (h : 0 < b) : dMod (.int a) (eI b) = some (.int (a % b)) := by
  show (if cMod a b = true then _ else _) = _
  rw [if_pos (by show decide (0 < b) = true; exact decide_eq_true h)]
theorem take_ok {tp : List D} {b : Int} (h : TapeI tp) (hb : 0 < b) : ∃ v tp', T__law_take tp b = .ok (v, tp') ∧ 0 ≤ v ∧ v < b ∧ TapeI tp' := by
  obtain ⟨ns, rfl⟩ := h
  rcases List.eq_nil_or_concat ns with rfl | ⟨ms, z, rfl⟩
  · exact ⟨0, [], by rfl, Int.le_refl _, hb, [], rfl⟩
  · refine ⟨z % b, ms.map .int, ?_, Int.emod_nonneg _ (by omega), Int.emod_lt_of_pos _ hb, ms, rfl⟩
    have hF : F__law_take ((ms ++ [z]).map .int) [eI b] = .ok (.int (z % b)) (ms.map .int) := by
      have hne : ¬ ((ms.length : Int) + 1 = 0) := by omega
      have hd : (ms.map PyData.int ++ [PyData.int z])[ms.length]? = some (.int z) := by simp
      simp [F__law_take, defT, answersT, b__law_take, startT, cInt, dMod_of hb, hd, hne]
    unfold T__law_take
    rw [List.concat_eq_append, hF]
    rfl
end PL
set_option Elab.async false
set_option linter.all false
set_option maxRecDepth 100000
set_option maxHeartbeats 1000000
set_option autoImplicit false
/-! The draws are made, whatever the script. -/
namespace PL
open PySem PySem.Spec PyProof.Rows L2
theorem forE_inv {α S : Type} {tb : α → S → Ex S} {I : Nat → S → Prop} {N : Nat} : ∀ (xs : List α) (n : Nat) (s : S), (∀ x ∈ xs, ∀ n s, n < N → I n s → ∃ s', tb x s = .ok s' ∧ I (n + 1) s') → I n s → n + xs.length ≤ N → ∃ s', forE tb xs s = .ok s' ∧ I (n + xs.length) s'
  | [], n, s, _, h, _ => ⟨s, rfl, h⟩
  | x :: xs, n, s, hb, h, hl => by
    rw [List.length_cons] at hl ⊢
    obtain ⟨s1, e1, h1⟩ := hb x List.mem_cons_self n s (by omega) h
    obtain ⟨s2, e2, h2⟩ := forE_inv xs (n + 1) s1 (fun y hy => hb y (List.mem_cons_of_mem _ hy)) h1 (by omega)
    refine ⟨s2, ?_, by rw [show n + (xs.length + 1) = n + 1 + xs.length by omega]; exact h2⟩
    show (tb x s).bind _ = _
    rw [e1]
    exact e2
theorem capE_ok {α : Type} {xs : List α} {x : α} (h : xs.length < 1000000) : capE xs x = .ok (xs ++ [x]) := by
  unfold capE; rw [decide_eq_true h]; rfl
theorem mulE_r {a b : Int} (h : b.natAbs < 2 ^ 64) : mulE a b = .ok (a * b) := Ex.guard_of (cMul_r h)
theorem stage1 (x : Int) (s : List Int) (n : Nat) (hn : n < 63) (hI : s.length ≤ 62 * n) : ∃ p : List Int × Int, ((if (decide (((Int.natAbs x : Nat) : Int) < (1000000000000000000 : Int))) = true then (mulE ((Int.natAbs x : Nat) : Int) (48271 : Int)).bind fun (a12 : Int) => (mulE ((a12 + (11 : Int)) % (2147483647 : Int)) (69621 : Int)).bind fun (a13 : Int) => (capE s ((a13 + ((Int.natAbs x : Nat) : Int)) % (2147483629 : Int))).bind fun l14 => (capE l14 ((((a12 + (11 : Int)) % (2147483647 : Int)) + (((Int.natAbs x : Nat) : Int) / (7 : Int))) % (1000003 : Int))).bind fun l15 => .ok (l15, (0 : Int)) else .ok (s, ((Int.natAbs x : Nat) : Int))) : Ex ((List Int) × Int)) = .ok p ∧ p.1.length ≤ s.length + 2 := by
  by_cases hc : ((Int.natAbs x : Nat) : Int) < (1000000000000000000 : Int)
  · rw [decide_eq_true hc, if_pos rfl, mulE_r (by decide)]
    simp only [Ex.bind_ok]
    rw [mulE_r (by decide)]
    simp only [Ex.bind_ok]
    rw [capE_ok (by omega)]
    simp only [Ex.bind_ok]
    rw [capE_ok (by rw [List.length_append]; simp; omega)]
    exact ⟨_, rfl, by simp⟩
  · rw [decide_eq_false hc, if_neg (by decide)]
    exact ⟨_, rfl, by simp⟩

def dw1 (x5 : Int) (s4 : List Int) : Ex (List Int) := (Ex.put ((Int.natAbs x5 : Nat) : Int)).bind fun (v6 : Int) => ((if (decide (v6 < (1000000000000000000 : Int))) = true then (mulE v6 (48271 : Int)).bind fun (a12 : Int) => (mulE ((a12 + (11 : Int)) % (2147483647 : Int)) (69621 : Int)).bind fun (a13 : Int) => (capE s4 ((a13 + v6) % (2147483629 : Int))).bind fun l14 => (capE l14 ((((a12 + (11 : Int)) % (2147483647 : Int)) + (v6 / (7 : Int))) % (1000003 : Int))).bind fun l15 => .ok (l15, (0 : Int)) else .ok (s4, v6)) : Ex ((List Int) × Int)).bind fun s11 => (forE (fun (x17 : Int) (s16 : ((List Int) × Int)) => if (decide ((0 : Int) < s16.2)) = true then (capE s16.1 (s16.2 % (997 : Int))).bind fun l18 => .ok (l18, (s16.2 / (997 : Int))) else .ok (s16.1, s16.2)) (ranI 0 ((60 : Int)).toNat) (s11.1, s11.2)).bind fun s16 => .ok s16.1
def dw2 (x17 : Int) (s16 : (List Int) × Int) : Ex ((List Int) × Int) := if (decide ((0 : Int) < s16.2)) = true then (capE s16.1 (s16.2 % (997 : Int))).bind fun l18 => .ok (l18, (s16.2 / (997 : Int))) else .ok (s16.1, s16.2)
def dw3 (x23 : Int) (s22 : (List Int) × Int) : Ex ((List Int) × Int) := (mulE s22.2 (48271 : Int)).bind fun (a24 : Int) => (capE s22.1 (((a24 + (69621 : Int)) % (2147483647 : Int)) / (5 : Int))).bind fun l25 => .ok (l25, ((a24 + (69621 : Int)) % (2147483647 : Int)))
theorem dw2_ok (m : Nat) (hm : m ≤ 5000) (y : Int) (k : Nat) (q : List Int × Int) (hk : k < 60) (hq : q.1.length ≤ m + k) : ∃ s', dw2 y q = .ok s' ∧ s'.1.length ≤ m + (k + 1) := by
  unfold dw2
  by_cases hc : (0 : Int) < q.2
  · simp only [decide_eq_true hc, if_true, capE_ok (show q.1.length < 1000000 by omega), Ex.bind_ok]
    exact ⟨_, rfl, by simp; omega⟩
  · simp only [decide_eq_false hc, Bool.false_eq_true, if_false]
    exact ⟨_, rfl, by simp; omega⟩
theorem dw1_ok (x : Int) (s : List Int) (n : Nat) (hn : n < 63) (hI : s.length ≤ 62 * n) : ∃ s', dw1 x s = .ok s' ∧ s'.length ≤ 62 * (n + 1) := by
  obtain ⟨p, ep, hp⟩ := stage1 x s n hn hI
  obtain ⟨s', e', h'⟩ := forE_inv (tb := dw2) (I := fun k q => q.1.length ≤ s.length + 2 + k) (N := 60) (ranI 0 ((60 : Int)).toNat) 0 (p.1, p.2) (fun y _ k q hk hq => dw2_ok (s.length + 2) (by omega) y k q hk hq) (by simpa using hp) (by simp [ranI])
  have e3 : (ranI 0 ((60 : Int)).toNat).length = 60 := by simp [ranI]
  rw [e3] at h'
  refine ⟨s'.1, ?_, by omega⟩
  unfold dw1
  rw [Ex.put_eq, Ex.bind_ok, ep, Ex.bind_ok]
  show (forE dw2 _ _).bind _ = _
  rw [e', Ex.bind_ok]
theorem dw3_ok (y : Int) (k : Nat) (q : List Int × Int) (hk : k < 900) (hq : q.1.length ≤ 4000 + k) : ∃ s', dw3 y q = .ok s' ∧ s'.1.length ≤ 4000 + (k + 1) := by
  unfold dw3
  rw [mulE_r (by decide)]
  simp only [Ex.bind_ok, capE_ok (show q.1.length < 1000000 by omega)]
  exact ⟨_, rfl, by simp; omega⟩
def seed0 (ns : List Int) : Ex Int := if (decide ((0 : Int) < (List.length ns : Int))) = true then (ixE ns (0 : Int)).bind fun (a21 : Int) => .ok ((1 : Int) + ((Int.natAbs a21 : Nat) : Int)) else .ok (1 : Int)
theorem seed0_ok (ns : List Int) : ∃ z, seed0 ns = .ok z := by
  unfold seed0
  cases ns with
  | nil => exact ⟨1, by simp⟩
  | cons n ns =>
    rw [ixE_int (Int.le_refl 0) (x := n) rfl]
    simp only [List.length_cons, Ex.bind_ok]
    rw [if_pos (decide_eq_true (show (0 : Int) < ((ns.length + 1 : Nat) : Int) by omega))]
    exact ⟨_, rfl⟩
theorem draws_eq (ns : List Int) : TF__law_draws ns = Ex.noX ((forE dw1 ns ([] : List Int)).bind fun s4 => (seed0 ns).bind fun s20 => (forE dw3 (ranI 0 ((900 : Int)).toNat) (s4, s20)).bind fun s22 => .ok ((List.reverse s22.1))) := rfl
theorem draws_ok {ns : List Int} (h : ns.length ≤ 63) : ∃ l, TF__law_draws ns = .ok l := by
  rw [draws_eq]
  obtain ⟨s1, e1, h1⟩ := forE_inv (tb := dw1) (I := fun n s => s.length ≤ 62 * n) (N := 63) ns 0 ([] : List Int) (fun x _ n s hn hI => dw1_ok x s n hn hI) (by simp) (by omega)
  obtain ⟨z, ez⟩ := seed0_ok ns
  obtain ⟨s', e', h'⟩ := forE_inv (tb := dw3) (I := fun k q => q.1.length ≤ 4000 + k) (N := 900) (ranI 0 ((900 : Int)).toNat) 0 (s1, z) (fun y _ k q hk hq => dw3_ok y k q hk hq) (by simp only at h1 ⊢; omega) (by simp [ranI])
  rw [e1, Ex.bind_ok, ez, Ex.bind_ok, e', Ex.bind_ok]
  exact ⟨_, rfl⟩
end PL
set_option Elab.async false
set_option linter.all false
set_option maxRecDepth 100000
set_option maxHeartbeats 1000000
set_option autoImplicit false
/-! k84: roots, and what is above the horizon. -/
namespace PL
/-- the light is above: d is at most the sum of the roots of a and c -/
def Ab (a c d : Int) : Prop := d * d - a - c ≤ 0 ∨ (d * d - a - c) * (d * d - a - c) ≤ 4 * a * c
instance {a c d : Int} : Decidable (Ab a c d) := inferInstanceAs (Decidable (_ ∨ _))
/-- r is the greatest whole number whose square is at most n -/
structure Rt (n r : Int) : Prop where
  nn : 0 ≤ r
  le : r * r ≤ n
  lt : n < (r + 1) * (r + 1)
theorem sq_lt {a b : Int} (ha : 0 ≤ a) (h : a < b) : a * a < b * b := by
  have h1 : a * a ≤ a * b := Int.mul_le_mul_of_nonneg_left (Int.le_of_lt h) ha
  have h2 : a * b < b * b := Int.mul_lt_mul_of_pos_right h (by omega)
  omega
theorem of_sq_lt {a b : Int} (hb : 0 ≤ b) (h : a * a < b * b) : a < b := by
  rcases Int.lt_or_le a b with q | q
  · exact q
  · have := Int.mul_self_le_mul_self hb q
    omega
theorem of_sq_le {a b : Int} (hb : 0 ≤ b) (h : a * a ≤ b * b) : a ≤ b := by
  rcases Int.lt_or_le b a with q | q
  · have := sq_lt hb q
    omega
  · exact q
theorem rt_uniq {n r s : Int} (h : Rt n r) (k : Rt n s) : r = s := by
  have h1 : r < s + 1 := of_sq_lt (by have := k.nn; omega) (Int.lt_of_le_of_lt h.le k.lt)
  have h2 : s < r + 1 := of_sq_lt (by have := h.nn; omega) (Int.lt_of_le_of_lt k.le h.lt)
  omega
theorem rt_mono {n m r s : Int} (h : Rt n r) (k : Rt m s) (hnm : n ≤ m) : r ≤ s := by
  have h1 : r < s + 1 := of_sq_lt (by have := k.nn; omega) (Int.lt_of_le_of_lt (Int.le_trans h.le hnm) k.lt)
  omega
theorem ab_comm {a c d : Int} : Ab a c d ↔ Ab c a d := by
  unfold Ab
  have e1 : d * d - a - c = d * d - c - a := by omega
  have e2 : 4 * a * c = 4 * c * a := by grind
  rw [e1, e2]
theorem le_cancel {k x y : Int} (hk : 0 < k) (h : k * x ≤ k * y) : x ≤ y := Int.le_of_mul_le_mul_left h hk
theorem ab_of_le {a c d f g N : Int} (ha : 0 ≤ a) (hc : 0 ≤ c) (hd : 0 ≤ d) (hN : 0 < N) (hf : 0 ≤ f) (hg : 0 ≤ g) (h1 : f * f ≤ a * (N * N)) (h2 : g * g ≤ c * (N * N)) (h : d * N ≤ f + g) : Ab a c d := by
  unfold Ab
  rcases Int.lt_or_le 0 (d * d - a - c) with q | q
  · right
    have hdN : 0 ≤ d * N := Int.mul_nonneg hd (Int.le_of_lt hN)
    have s1 := Int.mul_self_le_mul_self hdN h
    have hNN : 0 < N * N := Int.mul_pos hN hN
    have e1 : (N * N) * (d * d - a - c) ≤ 2 * (f * g) := by
      have : (N * N) * (d * d - a - c) = d * N * (d * N) - a * (N * N) - c * (N * N) := by grind
      have : (f + g) * (f + g) = f * f + g * g + 2 * (f * g) := by grind
      omega
    have p1 : 0 ≤ (N * N) * (d * d - a - c) := Int.mul_nonneg (Int.le_of_lt hNN) (by omega)
    have s2 := Int.mul_self_le_mul_self p1 e1
    have s3 : f * f * (g * g) ≤ a * (N * N) * (c * (N * N)) := Int.mul_le_mul h1 h2 (Int.mul_nonneg hg hg) (Int.mul_nonneg ha (Int.le_of_lt hNN))
    have s4 : (N * N * (N * N)) * ((d * d - a - c) * (d * d - a - c)) ≤ (N * N * (N * N)) * (4 * a * c) := by
      have e2 : (N * N * (N * N)) * ((d * d - a - c) * (d * d - a - c)) = (N * N) * (d * d - a - c) * ((N * N) * (d * d - a - c)) := by grind
      have e3 : 2 * (f * g) * (2 * (f * g)) = 4 * (f * f * (g * g)) := by grind
      have e4 : (N * N * (N * N)) * (4 * a * c) = 4 * (a * (N * N) * (c * (N * N))) := by grind
      omega
    exact le_cancel (Int.mul_pos hNN hNN) s4
  · exact .inl q
theorem not_ab {a c d F G N : Int} (ha : 0 ≤ a) (hc : 0 ≤ c) (hN : 0 < N) (hF : 0 < F) (hG : 0 < G) (h1 : a * (N * N) < F * F) (h2 : c * (N * N) < G * G) (h : F + G ≤ d * N) : ¬ Ab a c d := by
  have hNN : 0 < N * N := Int.mul_pos hN hN
  have s1 := Int.mul_self_le_mul_self (show 0 ≤ F + G by omega) h
  have hFG : 0 < F * G := Int.mul_pos hF hG
  have e1 : 2 * (F * G) < (N * N) * (d * d - a - c) := by
    have : (N * N) * (d * d - a - c) = d * N * (d * N) - a * (N * N) - c * (N * N) := by grind
    have : (F + G) * (F + G) = F * F + G * G + 2 * (F * G) := by grind
    omega
  rintro (q | q)
  · have : (N * N) * (d * d - a - c) ≤ 0 := Int.mul_nonpos_of_nonneg_of_nonpos (Int.le_of_lt hNN) q
    omega
  · have s2 := sq_lt (show 0 ≤ 2 * (F * G) by omega) e1
    have s3 : a * (N * N) * (c * (N * N)) ≤ F * F * (G * G) := Int.mul_le_mul (Int.le_of_lt h1) (Int.le_of_lt h2) (Int.mul_nonneg hc (Int.le_of_lt hNN)) (Int.mul_nonneg (Int.le_of_lt hF) (Int.le_of_lt hF))
    have s4 := Int.mul_le_mul_of_nonneg_left q (Int.le_of_lt (Int.mul_pos hNN hNN))
    have e2 : (N * N * (N * N)) * ((d * d - a - c) * (d * d - a - c)) = (N * N) * (d * d - a - c) * ((N * N) * (d * d - a - c)) := by grind
    have e3 : 2 * (F * G) * (2 * (F * G)) = 4 * (F * F * (G * G)) := by grind
    have e4 : (N * N * (N * N)) * (4 * a * c) = 4 * (a * (N * N) * (c * (N * N))) := by grind
    omega
end PL
set_option Elab.async false
set_option linter.all false
set_option maxRecDepth 100000
set_option maxHeartbeats 1000000
set_option autoImplicit false
/-! k84: what lies between the rounded roots and their sum. -/
namespace PL
theorem sq_root {a d u : Int} (hd : 0 < d) (h : u * u = 4 * a * (d * d)) : ∃ s, u = 2 * d * s ∧ s * s = a := by
  have : (2 * d) ^ 2 ∣ u ^ 2 := ⟨a, by grind⟩
  obtain ⟨s, rfl⟩ := (Int.pow_dvd_pow_iff (by decide)).mp this
  refine ⟨s, rfl, ?_⟩
  have e : (4 * (d * d)) * (s * s) = (4 * (d * d)) * a := by grind
  exact Int.eq_of_mul_eq_mul_left (show (4 * (d * d)) ≠ 0 by have := Int.mul_pos hd hd; omega) e
theorem gap {a c d f g N : Int} (ha : 0 ≤ a) (ha7 : a ≤ 10000000) (hc : 0 ≤ c) (hc7 : c ≤ 10000000) (hd : 0 ≤ d) (hN : 1000000000000 ≤ N) (rf : Rt (a * (N * N)) f) (rg : Rt (c * (N * N)) g) (h : f + g + 1 ≤ d * N) : ¬ Ab a c d := by
  obtain ⟨f0, f1, f2⟩ := rf
  obtain ⟨g0, g1, g2⟩ := rg
  have hN0 : 0 < N := by omega
  have hNN : 0 < N * N := Int.mul_pos hN0 hN0
  have hfg : 0 ≤ f * g := Int.mul_nonneg f0 g0
  have s1 := Int.mul_self_le_mul_self (show 0 ≤ f + g + 1 by omega) h
  have ea : a * (N * N) ≤ f * f + 2 * f := by
    have : (f + 1) * (f + 1) = f * f + 2 * f + 1 := by grind
    omega
  have ec : c * (N * N) ≤ g * g + 2 * g := by
    have : (g + 1) * (g + 1) = g * g + 2 * g + 1 := by grind
    omega
  have e1 : 2 * (f * g) + 1 ≤ (N * N) * (d * d - a - c) := by
    have : (N * N) * (d * d - a - c) = d * N * (d * N) - a * (N * N) - c * (N * N) := by grind
    have : (f + g + 1) * (f + g + 1) = f * f + g * g + 2 * (f * g) + 2 * f + 2 * g + 1 := by grind
    omega
  have x0 : 0 < d * d - a - c := by
    rcases Int.lt_or_le 0 (d * d - a - c) with q | q
    · exact q
    · have : (N * N) * (d * d - a - c) ≤ 0 := Int.mul_nonpos_of_nonneg_of_nonpos (Int.le_of_lt hNN) q
      omega
  rintro (q | q)
  · omega
  -- how far x * x is from 4 a c
  have fb : f ≤ 3163 * N := by
    refine of_sq_le (by omega) (Int.le_trans f1 ?_)
    have h1 := Int.mul_le_mul_of_nonneg_right ha7 (Int.le_of_lt hNN)
    have h2 : 3163 * N * (3163 * N) = 10004569 * (N * N) := by grind
    omega
  have gb : g ≤ 3163 * N := by
    refine of_sq_le (by omega) (Int.le_trans g1 ?_)
    have h1 := Int.mul_le_mul_of_nonneg_right hc7 (Int.le_of_lt hNN)
    have h2 : 3163 * N * (3163 * N) = 10004569 * (N * N) := by grind
    omega
  have s2 := Int.mul_self_le_mul_self (show 0 ≤ 2 * (f * g) + 1 by omega) e1
  have s3 : a * (N * N) * (c * (N * N)) ≤ (f * f + 2 * f) * (g * g + 2 * g) := Int.mul_le_mul ea ec (Int.mul_nonneg hc (Int.le_of_lt hNN)) (by have := Int.mul_nonneg f0 f0; omega)
  have k0 : (N * N * (N * N)) * (4 * a * c - (d * d - a - c) * (d * d - a - c)) ≤ f * g * (8 * f + 8 * g + 12) := by
    have e2 : (N * N * (N * N)) * (4 * a * c - (d * d - a - c) * (d * d - a - c)) = 4 * (a * (N * N) * (c * (N * N))) - (N * N) * (d * d - a - c) * ((N * N) * (d * d - a - c)) := by grind
    have e3 : 4 * ((f * f + 2 * f) * (g * g + 2 * g)) - (2 * (f * g) + 1) * (2 * (f * g) + 1) = f * g * (8 * f + 8 * g + 12) - 1 := by grind
    omega
  have b1 : f * g ≤ 3163 * N * (3163 * N) := Int.mul_le_mul fb gb g0 (by omega)
  have b2 : f * g * (8 * f + 8 * g + 12) ≤ 3163 * N * (3163 * N) * (50609 * N) := Int.mul_le_mul b1 (by omega) (by omega) (Int.mul_nonneg (by omega) (by omega))
  have b3 : 3163 * N * (3163 * N) * (50609 * N) < N * N * (N * N) := by
    have e4 : 3163 * N * (3163 * N) * (50609 * N) = N * N * (506321232521 * N) := by grind
    have e5 : N * N * (506321232521 * N) < N * N * (N * N) := Int.mul_lt_mul_of_pos_left (Int.mul_lt_mul_of_pos_right (by omega) hN0) hNN
    omega
  have K0 : 4 * a * c - (d * d - a - c) * (d * d - a - c) = 0 := by
    have h4 : 0 < N * N * (N * N) := Int.mul_pos hNN hNN
    have : (N * N * (N * N)) * (4 * a * c - (d * d - a - c) * (d * d - a - c)) < (N * N * (N * N)) * 1 := by omega
    have := Int.lt_of_mul_lt_mul_left this (Int.le_of_lt h4)
    omega
  -- then both are squares
  have d0 : 0 < d := by
    rcases Int.lt_or_le 0 d with q | q
    · exact q
    · have : d = 0 := by omega
      subst this
      omega
  obtain ⟨s, es, ss⟩ := sq_root (a := a) (u := d * d + a - c) d0 (by grind)
  obtain ⟨t, et, tt⟩ := sq_root (a := c) (u := d * d + c - a) d0 (by grind)
  have st : s + t = d := by
    have : (2 * d) * (s + t) = (2 * d) * d := by grind
    exact Int.eq_of_mul_eq_mul_left (by omega) this
  have p : 0 < s * t := by
    have : 2 * (s * t) = d * d - a - c := by grind
    omega
  have hs : 0 < s := by
    rcases Int.lt_or_le 0 s with q | q
    · exact q
    · have ht : 0 < t := by omega
      have := Int.mul_nonpos_of_nonpos_of_nonneg q (Int.le_of_lt ht)
      omega
  have ht : 0 < t := by
    rcases Int.lt_or_le 0 t with q | q
    · exact q
    · have := Int.mul_nonpos_of_nonneg_of_nonpos (Int.le_of_lt hs) q
      omega
  have l1 : s * N < f + 1 := of_sq_lt (by omega) (by
    have : s * N * (s * N) = a * (N * N) := by rw [← ss]; grind
    omega)
  have l2 : t * N < g + 1 := of_sq_lt (by omega) (by
    have : t * N * (t * N) = c * (N * N) := by rw [← tt]; grind
    omega)
  have : d * N = s * N + t * N := by rw [← st]; grind
  omega
/-- told by the rounded roots -/
theorem ab_iff {a c d f g N : Int} (ha : 0 ≤ a) (ha7 : a ≤ 10000000) (hc : 0 ≤ c) (hc7 : c ≤ 10000000) (hd : 0 ≤ d) (hN : 1000000000000 ≤ N) (rf : Rt (a * (N * N)) f) (rg : Rt (c * (N * N)) g) : Ab a c d ↔ d * N ≤ f + g := by
  constructor
  · intro h
    rcases Int.lt_or_le (f + g) (d * N) with q | q
    · exact absurd h (gap ha ha7 hc hc7 hd hN rf rg (by omega))
    · exact q
  · exact fun h => ab_of_le ha hc hd (by omega) rf.nn rg.nn rf.le rg.le h
end PL
set_option Elab.async false
set_option linter.all false
set_option maxRecDepth 100000
set_option maxHeartbeats 1000000
set_option autoImplicit false
/-! k84: what the program's functions give. -/
namespace PL
open PySem PySem.Spec PyProof.Rows L2
theorem mulE_big {a b : Int} (ha : a.natAbs < 2 ^ 200) (hb : b.natAbs < 2 ^ 200) : mulE a b = .ok (a * b) := Ex.guard_of (cMul_of (n := 200) ha hb)
/-- bend, heights -/
structure Pm (b h e : Int) : Prop where
  b0 : 1 ≤ b
  b1 : b ≤ 1000
  h0 : 0 ≤ h
  h1 : h ≤ 10000
  e0 : 0 ≤ e
  e1 : e ≤ 10000
theorem Pm.swap {b h e : Int} (p : Pm b h e) : Pm b e h := ⟨p.b0, p.b1, p.e0, p.e1, p.h0, p.h1⟩
theorem prod_b {b h : Int} (b0 : 1 ≤ b) (b1 : b ≤ 1000) (h0 : 0 ≤ h) (h1 : h ≤ 10000) : 0 ≤ b * h ∧ b * h ≤ 10000000 := by
  refine ⟨Int.mul_nonneg (by omega) h0, ?_⟩
  have := Int.mul_le_mul b1 h1 h0 (by omega)
  omega
theorem above_ok {b h e d : Int} (p : Pm b h e) (d0 : 0 ≤ d) (d1 : d ≤ 2000000) : T_above b h e d = .ok (decide (Ab (b * h) (b * e) d)) := by
  obtain ⟨b0, b1, h0, h1, e0, e1⟩ := p
  have q1 := prod_b b0 b1 h0 h1
  have q2 := prod_b b0 b1 e0 e1
  have q3 : 0 ≤ d * d ∧ d * d ≤ 4000000000000 := ⟨Int.mul_nonneg d0 d0, by have := Int.mul_le_mul d1 d1 d0 (by omega); omega⟩
  have e2 : b * (h + e) = b * h + b * e := Int.mul_add b h e
  unfold T_above
  rw [mulE_r (by omega), Ex.bind_ok, mulE_r (by omega), Ex.bind_ok, Ex.bind_ok]
  simp only [e2]
  have e3 : d * d - (b * h + b * e) = d * d - b * h - b * e := by omega
  rw [e3]
  have e5 : decide (Ab (b * h) (b * e) d) = decide (d * d - b * h - b * e ≤ 0 ∨ (d * d - b * h - b * e) * (d * d - b * h - b * e) ≤ 4 * (b * h) * (b * e)) := decide_eq_decide.mpr Iff.rfl
  rw [e5]
  by_cases c : d * d - b * h - b * e ≤ 0
  · rw [if_pos (decide_eq_true c), Ex.bind_ok, decide_eq_true (.inl c)]
  · rw [if_neg (by rw [decide_eq_true_eq]; exact c)]
    have hx : 0 < d * d - b * h - b * e ∧ d * d - b * h - b * e ≤ 4000000000000 := by omega
    generalize d * d - b * h - b * e = x at *
    have e4 : 4 * b * b * h * e = 4 * (b * h) * (b * e) := by grind
    have m1 : mulE x x = .ok (x * x) := mulE_big (by omega) (by omega)
    have m2 : mulE 4 b = .ok (4 * b) := mulE_big (by omega) (by omega)
    have hb : 0 ≤ b * b ∧ b * b ≤ 1000000 := ⟨Int.mul_nonneg (by omega) (by omega), by have := Int.mul_le_mul b1 b1 (by omega) (by omega); omega⟩
    have hc : 4 * b * b = 4 * (b * b) := by grind
    have m3 : mulE (4 * b) b = .ok (4 * b * b) := mulE_big (by omega) (by omega)
    have hd : 0 ≤ b * b * h ∧ b * b * h ≤ 10000000000 := ⟨Int.mul_nonneg hb.1 h0, by have := Int.mul_le_mul hb.2 h1 h0 (by omega); omega⟩
    have he : 4 * b * b * h = 4 * (b * b * h) := by grind
    have m4 : mulE (4 * b * b) h = .ok (4 * b * b * h) := mulE_big (by omega) (by omega)
    have m5 : mulE (4 * b * b * h) e = .ok (4 * b * b * h * e) := mulE_big (by omega) (by omega)
    simp only [m1, m2, m3, m4, m5, Ex.bind_ok, e4, c, false_or]
theorem num_ok (x a b : Int) : T_is_number x a b = .ok (decide (a ≤ x ∧ x ≤ b)) := by
  unfold T_is_number
  by_cases h : a ≤ x <;> by_cases h2 : x ≤ b <;> simp [isD, h, h2]
theorem bend_in {b : Int} (b0 : 1 ≤ b) (b1 : b ≤ 1000) : T_check_bend b = .ok () := by
  unfold T_check_bend
  rw [num_ok, Ex.bind_ok, decide_eq_true ⟨b0, b1⟩]
  rfl
theorem height_in {h : Int} (h0 : 0 ≤ h) (h1 : h ≤ 10000) : T_check_height h = .ok () := by
  unfold T_check_height
  rw [num_ok, Ex.bind_ok, decide_eq_true ⟨h0, h1⟩]
  rfl
theorem dist_in {d : Int} (d0 : 0 ≤ d) (d1 : d ≤ 1000000) : T_check_distance d = .ok () := by
  unfold T_check_distance
  rw [num_ok, Ex.bind_ok, decide_eq_true ⟨d0, d1⟩]
  rfl
theorem is_above_ok {b h e d : Int} (p : Pm b h e) (d0 : 0 ≤ d) (d1 : d ≤ 1000000) : T_is_above b h e d = .ok (decide (Ab (b * h) (b * e) d)) := by
  unfold T_is_above
  rw [bend_in p.b0 p.b1, Ex.bind_ok, height_in p.h0 p.h1, Ex.bind_ok, height_in p.e0 p.e1, Ex.bind_ok, dist_in d0 d1, Ex.bind_ok, above_ok p d0 (by omega), Ex.bind_ok]
theorem rt_root {n : Int} (h : 0 ≤ n) : Rt n (rootN n.toNat : Nat) := by
  obtain ⟨h1, h2⟩ := rootN_spec n.toNat
  refine ⟨by omega, ?_, ?_⟩
  · have : ((rootN n.toNat * rootN n.toNat : Nat) : Int) ≤ (n.toNat : Int) := by exact_mod_cast h1
    rw [Int.natCast_mul] at this
    omega
  · have h3 : ((n.toNat : Nat) : Int) < (((rootN n.toNat + 1) * (rootN n.toNat + 1) : Nat) : Int) := by exact_mod_cast h2
    generalize rootN n.toNat = z at *
    rw [Int.natCast_mul, Int.natCast_add, show ((1 : Nat) : Int) = 1 from rfl] at h3
    omega
theorem isqrt_ok {n : Int} (h : 0 ≤ n) (h1 : n ≤ 10000000) : ∃ r, isqrtE n = .ok r ∧ Rt n r := by
  refine ⟨_, Ex.guard_of ?_, rt_root h⟩
  rw [decide_eq_true h, Bool.true_and, decide_eq_true_eq]
  by_cases z : n.natAbs = 0
  · rw [z]; decide
  · exact (Nat.log2_lt z).mpr (by omega)
/-- a root of at most ten million is at most 3162 -/
theorem rt_small {n r : Int} (h : Rt n r) (h1 : n ≤ 10000000) : r ≤ 3162 := by
  have : r < 3163 := of_sq_lt (by decide) (by have := h.le; omega)
  omega
/-- the greatest distance -/
theorem great_ok {b h e r s : Int} (p : Pm b h e) (hr : Rt (b * h) r) (hs : Rt (b * e) s) : ∃ far, T_greatest_distance b h e = .ok far ∧ r + s ≤ far ∧ far ≤ r + s + 1 ∧ Ab (b * h) (b * e) far ∧ ¬ Ab (b * h) (b * e) (far + 1) := by
  have q1 := prod_b p.b0 p.b1 p.h0 p.h1
  have q2 := prod_b p.b0 p.b1 p.e0 p.e1
  obtain ⟨r', er, hr'⟩ := isqrt_ok q1.1 q1.2
  obtain ⟨s', es, hs'⟩ := isqrt_ok q2.1 q2.2
  obtain rfl := rt_uniq hr hr'
  obtain rfl := rt_uniq hs hs'
  have r1 := rt_small hr q1.2
  have s1 := rt_small hs q2.2
  have r0 := hr.nn
  have s0 := hs.nn
  have a1 : Ab (b * h) (b * e) (r + s) := ab_of_le (N := 1) q1.1 q2.1 (by omega) (by decide) r0 s0 (by have := hr.le; omega) (by have := hs.le; omega) (by omega)
  have a2 : ¬ Ab (b * h) (b * e) (r + s + 1 + 1) := not_ab (N := 1) (F := r + 1) (G := s + 1) q1.1 q2.1 (by decide) (by omega) (by omega) (by have := hr.lt; omega) (by have := hs.lt; omega) (by omega)
  unfold T_greatest_distance
  rw [bend_in p.b0 p.b1, Ex.bind_ok, height_in p.h0 p.h1, Ex.bind_ok, height_in p.e0 p.e1, Ex.bind_ok, mulE_r (by have := p.h1; have := p.h0; omega), Ex.bind_ok, er, Ex.bind_ok, mulE_r (by have := p.e1; have := p.e0; omega), Ex.bind_ok, es, Ex.bind_ok, Ex.bind_ok]
  simp only [above_ok p (show 0 ≤ r + s + 1 by omega) (by omega), Ex.bind_ok]
  by_cases c : Ab (b * h) (b * e) (r + s + 1)
  · refine ⟨r + s + 1, ?_, by omega, by omega, c, a2⟩
    rw [decide_eq_true c]
    rfl
  · refine ⟨r + s, ?_, by omega, by omega, a1, c⟩
    rw [decide_eq_false c]
    rfl
end PL
set_option Elab.async false
set_option linter.all false
set_option maxRecDepth 100000
set_option maxHeartbeats 1000000
set_option autoImplicit false
/-! k84: the law's roots, what it holds for above, the least height. -/
namespace PL
open PySem PySem.Spec PyProof.Rows L2
theorem whileE_k {S : Type} {t : S → Ex Bool} {b : S → Ex S} {c : S → Bool} {I : Nat → S → Prop} (ht : ∀ k s, I k s → t s = .ok (c s)) (hb : ∀ k s, I k s → c s = true → ∃ k' s', k = k' + 1 ∧ b s = .ok s' ∧ I k' s') : ∀ (k n : Nat) (s : S), k < n → I k s → ∃ k' s', whileE t b n s = .ok s' ∧ I k' s' ∧ c s' = false
  | k, 0, s, h, _ => absurd h (Nat.not_lt_zero k)
  | k, n + 1, s, h, hI => by
    rw [whileE, ht k s hI, Ex.bind_ok]
    cases hc : c s with
    | false => exact ⟨k, s, by simp, hI, hc⟩
    | true =>
      obtain ⟨k', s', rfl, e', h'⟩ := hb k s hI hc
      rw [if_pos rfl, e', Ex.bind_ok]
      exact whileE_k ht hb k' n s' (by omega) h'
def RI (n : Int) (k : Nat) (s : Int × Int) : Prop := 0 ≤ s.1 ∧ s.1 * s.1 ≤ n ∧ n < s.2 * s.2 ∧ s.1 < s.2 ∧ s.2 ≤ n + 1 ∧ (s.2 - s.1 - 1).toNat < 2 ^ k
theorem root_ok {n : Int} (h0 : 0 ≤ n) (h1 : n ≤ 10 ^ 32) : ∃ r, T__law_root n = .ok r ∧ Rt n r := by
  unfold T__law_root
  obtain ⟨k', s', e', hI, hc⟩ := whileE_k (t := fun (s64 : (Int × Int)) => .ok (decide ((1 : Int) < (s64.2 - s64.1)))) (b := fun (s64 : (Int × Int)) => (Ex.put ((s64.1 + s64.2) / (2 : Int))).bind fun (v65 : Int) => (mulE v65 v65).bind fun (a66 : Int) => if (decide (a66 ≤ n)) = true then .ok (v65, s64.2) else .ok (s64.1, v65)) (c := fun s => decide ((1 : Int) < (s.2 - s.1))) (I := RI n) (fun k s _ => rfl) (by
    intro k s ⟨i1, i2, i3, i4, i5, i6⟩ hc
    have hc := of_decide_eq_true hc
    cases k with
    | zero => simp at i6; omega
    | succ k =>
      rw [Nat.pow_succ] at i6
      simp only [Ex.put_eq, Ex.bind_ok]
      have hm : s.1 < (s.1 + s.2) / 2 ∧ (s.1 + s.2) / 2 < s.2 := by omega
      have hm2 : (s.2 - (s.1 + s.2) / 2 - 1).toNat < 2 ^ k ∧ ((s.1 + s.2) / 2 - s.1 - 1).toNat < 2 ^ k := by omega
      generalize (s.1 + s.2) / 2 = m at *
      rw [mulE_big (a := m) (b := m) (by omega) (by omega), Ex.bind_ok]
      by_cases q : m * m ≤ n
      · rw [if_pos (decide_eq_true q)]
        exact ⟨k, _, rfl, rfl, by show 0 ≤ m; omega, q, i3, hm.2, i5, hm2.1⟩
      · rw [if_neg (by rw [decide_eq_true_eq]; exact q)]
        exact ⟨k, _, rfl, rfl, i1, i2, by show n < m * m; omega, hm.1, by show m ≤ n + 1; omega, hm2.2⟩) 200 100000 (0, n + 1) (by decide) ⟨Int.le_refl 0, (by show (0 : Int) * 0 ≤ n; omega), by
      show n < (n + 1) * (n + 1)
      have := Int.mul_nonneg h0 h0
      have e : (n + 1) * (n + 1) = n * n + 2 * n + 1 := by grind
      omega, by show 0 < n + 1; omega, by show n + 1 ≤ n + 1; omega, by show (n + 1 - 0 - 1).toNat < 2 ^ 200; omega⟩
  rw [e', Ex.bind_ok]
  obtain ⟨i1, i2, i3, i4, i5, i6⟩ := hI
  have hc := of_decide_eq_false hc
  have e2 : s'.2 = s'.1 + 1 := by omega
  rw [e2] at i3
  exact ⟨_, rfl, i1, i2, i3⟩
theorem law_above_ok {b h e d : Int} (p : Pm b h e) (d0 : 0 ≤ d) (d1 : d ≤ 2000000) : T__law_above b h e d = .ok (decide (Ab (b * h) (b * e) d)) := by
  have q1 := prod_b p.b0 p.b1 p.h0 p.h1
  have q2 := prod_b p.b0 p.b1 p.e0 p.e1
  have hh0 := p.h0
  have hh1 := p.h1
  have he0 := p.e0
  have he1 := p.e1
  unfold T__law_above
  have m1 : mulE b h = .ok (b * h) := mulE_r (by omega)
  have m2 : mulE b e = .ok (b * e) := mulE_r (by omega)
  have m3 : mulE (b * h) 1000000000000000000000000 = .ok (b * h * 1000000000000000000000000) := mulE_big (by omega) (by omega)
  have m4 : mulE (b * e) 1000000000000000000000000 = .ok (b * e * 1000000000000000000000000) := mulE_big (by omega) (by omega)
  have m5 : mulE d 1000000000000 = .ok (d * 1000000000000) := mulE_r (by omega)
  simp only [m1, m2, m3, m4, m5, Ex.bind_ok]
  obtain ⟨f, ef, rf⟩ := root_ok (n := b * h * 1000000000000000000000000) (by omega) (by omega)
  obtain ⟨g, eg, rg⟩ := root_ok (n := b * e * 1000000000000000000000000) (by omega) (by omega)
  simp only [ef, eg, Ex.bind_ok]
  have ai := ab_iff (N := 1000000000000) q1.1 q1.2 q2.1 q2.2 d0 (by decide) (f := f) (g := g) rf rg
  by_cases c : d * 1000000000000 ≤ f + g
  · rw [if_pos (decide_eq_true c), decide_eq_true (ai.mpr c)]
  · rw [if_neg (by rw [decide_eq_true_eq]; exact c), decide_eq_false (fun q => c (ai.mp q))]
    by_cases c2 : f + g + 2 < d * 1000000000000
    · rw [if_pos (decide_eq_true c2)]
    · rw [if_neg (by rw [decide_eq_true_eq]; exact c2)]
      have f0 := rf.nn
      have g0 := rg.nn
      have fb : f < 10 ^ 16 := of_sq_lt (by decide) (by have := rf.le; omega)
      have gb : g < 10 ^ 16 := of_sq_lt (by decide) (by have := rg.le; omega)
      have m6 : mulE f f = .ok (f * f) := mulE_r (by omega)
      have m7 : mulE g g = .ok (g * g) := mulE_r (by omega)
      have c3 : decide (d * 1000000000000 = f + g) = false := decide_eq_false (by omega)
      simp only [m6, m7, Ex.bind_ok, c3, Bool.and_false]
      by_cases c4 : f * f = b * h * 1000000000000000000000000
      · rw [if_pos (decide_eq_true c4), Ex.bind_ok]
      · rw [if_neg (by rw [decide_eq_true_eq]; exact c4), Ex.bind_ok]
theorem rt_ex {n : Int} (h : 0 ≤ n) : ∃ r, Rt n r := ⟨_, rt_root h⟩
theorem ab_mono {a a2 c d : Int} (ha : 0 ≤ a) (h : a ≤ a2) (ha7 : a2 ≤ 10000000) (hc : 0 ≤ c) (hc7 : c ≤ 10000000) (hd : 0 ≤ d) (k : Ab a c d) : Ab a2 c d := by
  obtain ⟨f, rf⟩ := rt_ex (n := a * (1000000000000 * 1000000000000)) (by omega)
  obtain ⟨f2, rf2⟩ := rt_ex (n := a2 * (1000000000000 * 1000000000000)) (by omega)
  obtain ⟨g, rg⟩ := rt_ex (n := c * (1000000000000 * 1000000000000)) (by omega)
  have := (ab_iff ha (by omega) hc hc7 hd (by decide) rf rg).mp k
  refine (ab_iff (by omega) ha7 hc hc7 hd (by decide) rf2 rg).mpr ?_
  have := rt_mono rf rf2 (by omega)
  omega
def LI (b e d : Int) (k : Nat) (s : Int × Int) : Prop := 0 ≤ s.1 ∧ s.1 ≤ s.2 ∧ s.2 ≤ 10000 ∧ Ab (b * s.2) (b * e) d ∧ (∀ x, 0 ≤ x → x < s.1 → ¬ Ab (b * x) (b * e) d) ∧ (s.2 - s.1).toNat < 2 ^ k
theorem ab_h {b x y e d : Int} (b0 : 1 ≤ b) (b1 : b ≤ 1000) (e0 : 0 ≤ e) (e1 : e ≤ 10000) (d0 : 0 ≤ d) (x0 : 0 ≤ x) (xy : x ≤ y) (y1 : y ≤ 10000) (k : Ab (b * x) (b * e) d) : Ab (b * y) (b * e) d :=
  ab_mono (prod_b b0 b1 x0 (by omega)).1 (Int.mul_le_mul_of_nonneg_left xy (by omega)) (prod_b b0 b1 (by omega) y1).2 (prod_b b0 b1 e0 e1).1 (prod_b b0 b1 e0 e1).2 d0 k
theorem least_ok {b e d : Int} (b0 : 1 ≤ b) (b1 : b ≤ 1000) (e0 : 0 ≤ e) (e1 : e ≤ 10000) (d0 : 0 ≤ d) (d1 : d ≤ 1000000) : ∃ o, T_least_height b e d = .ok o ∧ match o with
    | none => ¬ Ab (b * 10000) (b * e) d
    | some l => 0 ≤ l ∧ l ≤ 10000 ∧ Ab (b * l) (b * e) d ∧ (0 < l → ¬ Ab (b * (l - 1)) (b * e) d) := by
  have hp : ∀ x, 0 ≤ x → x ≤ 10000 → Pm b x e := fun x x0 x1 => ⟨b0, b1, x0, x1, e0, e1⟩
  unfold T_least_height
  rw [bend_in b0 b1, Ex.bind_ok, height_in e0 e1, Ex.bind_ok, dist_in d0 d1, Ex.bind_ok, above_ok (hp 10000 (by decide) (by decide)) d0 (by omega), Ex.bind_ok]
  by_cases c : Ab (b * 10000) (b * e) d
  · rw [decide_eq_true c]
    obtain ⟨k', s', e', hI, hc⟩ := whileE_k (t := fun (s23 : (Int × Int)) => .ok (decide (s23.1 < s23.2))) (b := fun (s23 : (Int × Int)) => (Ex.put ((s23.1 + s23.2) / (2 : Int))).bind fun (v24 : Int) => (T_above (b) (v24) (e) (d)).bind fun (a25 : Bool) => if a25 = true then .ok (s23.1, v24) else .ok ((v24 + (1 : Int)), s23.2)) (c := fun s => decide (s.1 < s.2)) (I := LI b e d) (fun k s _ => rfl) (by
      intro k s ⟨i1, i2, i3, i4, i5, i6⟩ hc
      have hc := of_decide_eq_true hc
      cases k with
      | zero => simp at i6; omega
      | succ k =>
        rw [Nat.pow_succ] at i6
        simp only [Ex.put_eq, Ex.bind_ok]
        have hm : s.1 ≤ (s.1 + s.2) / 2 ∧ (s.1 + s.2) / 2 < s.2 := by omega
        have hm2 : (s.2 - ((s.1 + s.2) / 2 + 1)).toNat < 2 ^ k ∧ ((s.1 + s.2) / 2 - s.1).toNat < 2 ^ k := by omega
        generalize (s.1 + s.2) / 2 = m at *
        rw [above_ok (hp m (by omega) (by omega)) d0 (by omega), Ex.bind_ok]
        by_cases q : Ab (b * m) (b * e) d
        · rw [if_pos (decide_eq_true q)]
          exact ⟨k, _, rfl, rfl, i1, hm.1, by show m ≤ 10000; omega, q, i5, hm2.2⟩
        · rw [if_neg (by rw [decide_eq_true_eq]; exact q)]
          refine ⟨k, _, rfl, rfl, by show 0 ≤ m + 1; omega, by show m + 1 ≤ s.2; omega, i3, i4, ?_, hm2.1⟩
          intro x x0 (x1 : x < m + 1) k
          exact q (ab_h b0 b1 e0 e1 d0 x0 (by omega) (by omega) k)) 20 100000 (0, 10000) (by decide) ⟨by decide, by decide, by decide, c, fun x x0 (x1 : x < 0) => absurd x1 (by omega), by decide⟩
    rw [if_neg (by decide), e', Ex.bind_ok]
    obtain ⟨i1, i2, i3, i4, i5, i6⟩ := hI
    have hc := of_decide_eq_false hc
    have e2 : s'.2 = s'.1 := by omega
    rw [e2] at i3 i4
    exact ⟨_, rfl, i1, i3, i4, fun q => i5 _ (by omega) (by omega)⟩
  · rw [decide_eq_false c]
    exact ⟨none, rfl, c⟩
end PL
set_option Elab.async false
set_option linter.all false
set_option maxRecDepth 100000
set_option maxHeartbeats 1000000
set_option autoImplicit false
/-! k84: the law's body, cut (printed by cut.py). -/
namespace PL
open PySem PySem.Spec PyProof.Rows L2
def inR (b h e : Int) : Int → Unit → Ex (Ctl Unit Bool) := (fun (x112 : Int) (s111 : Unit) => (T__law_above (b) (h) (e) (x112)).bind fun (a113 : Bool) => (((T__law_told ((0 : Int)) (b) (h) (e) (x112)).bind fun (a114 : D) => T__law_says (a114) (a113)).bind fun a115 => if (!a115) = true then .ok true else ((T__law_told ((0 : Int)) (b) (e) (h) (x112)).bind fun (a116 : D) => T__law_says (a116) (a113)).bind fun (a117 : Bool) => .ok ((!a117))).bind fun (a118 : Bool) => if a118 = true then .ok (.ret (false)) else ((T__law_told ((1 : Int)) (b) (e) ((0 : Int)) (x112)).bind fun (a119 : D) => (Ex.ofO ((dcO dcI) a119)).bind fun w122 => .ok (a119, w122)).bind fun (c121 : (D × (Option Int))) => if (Option.isNone c121.2) = true then (T__law_above (b) ((10000 : Int)) (e) (x112)).bind fun (a123 : Bool) => if a123 = true then .ok (.ret (false)) else .ok (.nx ()) else (if (!(isD .int ((eO eI) c121.2))) = true then .ok true else ((chnE dLeI dLeI (eI (0 : Int)) ((eO eI) c121.2) (eI (10000 : Int))).bind fun a124 => if (!a124) = true then .ok true else (((Ex.ofO c121.2).bind fun (a125 : Int) => T__law_above (b) (a125) (e) (x112)).bind fun a126 => if (!a126) = true then .ok true else ((opB (dGtI ((eO eI) c121.2) (eI (0 : Int)))).bind fun a127 => if a127 = true then ((Ex.ofO c121.2).bind fun (a128 : Int) => T__law_above (b) ((a128 - (1 : Int))) (e) (x112)).bind fun (a129 : Bool) => .ok (a129) else .ok false).bind fun (a130 : Bool) => .ok (a130)).bind fun (a131 : Bool) => .ok (a131)).bind fun (a132 : Bool) => .ok (a132)).bind fun (a133 : Bool) => if a133 = true then .ok (.ret (false)) else .ok (.nx ()))
def turnR : Int → List D → Ex (Ctl (List D) Bool) := (fun (x86 : Int) (s85 : (List D)) => (((T__law_take s85 ((2 : Int))).bind fun (d87 : (Int × List D)) => (ixE ([(4 : Int), (1000 : Int)] : List Int) d87.1).bind fun (a88 : Int) => .ok (d87, a88)).bind fun (c89 : ((Int × List D) × Int)) => T__law_take c89.1.2 (c89.2)).bind fun (d90 : (Int × List D)) => ((T__law_take d90.2 ((3 : Int))).bind fun (d91 : (Int × List D)) => (ixE ([(10 : Int), (200 : Int), (10001 : Int)] : List Int) d91.1).bind fun (a92 : Int) => .ok (d91, a92)).bind fun (c93 : ((Int × List D) × Int)) => ((T__law_take c93.1.2 (c93.2)).bind fun (d94 : (Int × List D)) => (T__law_take d94.2 (c93.2)).bind fun (d95 : (Int × List D)) => .ok (d94, d95)).bind fun (c96 : ((Int × List D) × (Int × List D))) => ((T__law_told ((2 : Int)) (((1 : Int) + d90.1)) (c96.1.1) (c96.2.1) ((0 : Int))).bind fun (a97 : D) => (Ex.ofO (dcI a97)).bind fun w100 => .ok (a97, w100)).bind fun (c99 : (D × Int)) => (((mulE ((1 : Int) + d90.1) c96.1.1).bind fun (a101 : Int) => T__law_root (a101)).bind fun (a102 : Int) => ((mulE ((1 : Int) + d90.1) c96.2.1).bind fun (a103 : Int) => T__law_root (a103)).bind fun (a104 : Int) => .ok (a102, a104)).bind fun (c105 : (Int × Int)) => if ((!(isD .int (eI c99.2))) || (!((decide ((List.sum ([c105.1, c105.2] : List Int)) ≤ c99.2)) && (decide (c99.2 ≤ ((List.sum ([c105.1, c105.2] : List Int)) + (1 : Int))))))) = true then .ok (.ret (false)) else ((T__law_above (((1 : Int) + d90.1)) (c96.1.1) (c96.2.1) (c99.2)).bind fun a106 => if (!a106) = true then .ok true else (T__law_above (((1 : Int) + d90.1)) (c96.1.1) (c96.2.1) ((c99.2 + (1 : Int)))).bind fun (a107 : Bool) => .ok (a107)).bind fun (a108 : Bool) => if a108 = true then .ok (.ret (false)) else ((mulE (2 : Int) c99.2).bind fun (a109 : Int) => T__law_take c96.2.2 ((a109 + (2 : Int)))).bind fun (d110 : (Int × List D)) => (forC (ρ := Bool) (inR (((1 : Int) + d90.1)) (c96.1.1) (c96.2.1)) ([c99.2, (c99.2 + (1 : Int)), (max (0 : Int) (c99.2 - (1 : Int))), d110.1] : List Int) ()).bind fun z => z.after (fun s111 => .ok (.nx d110.2)) (fun s111 => .bad) (fun r => .ret r))
def wordsR : Ex Bool := ((T__law_told ((0 : Int)) ((0 : Int)) ((1 : Int)) ((1 : Int)) ((1 : Int))).bind fun (a134 : D) => ((T__law_told ((0 : Int)) ((1001 : Int)) ((1 : Int)) ((1 : Int)) ((1 : Int))).bind fun (a135 : D) => ((T__law_told ((0 : Int)) ((1 : Int)) ((-(1 : Int))) ((1 : Int)) ((1 : Int))).bind fun (a136 : D) => ((T__law_told ((0 : Int)) ((1 : Int)) ((1 : Int)) ((10001 : Int)) ((1 : Int))).bind fun (a137 : D) => ((T__law_told ((0 : Int)) ((1 : Int)) ((1 : Int)) ((1 : Int)) ((-(1 : Int)))).bind fun (a138 : D) => (T__law_told ((0 : Int)) ((1 : Int)) ((1 : Int)) ((1 : Int)) ((1000001 : Int))).bind fun (a139 : D) => .ok (a138, a139)).bind fun (c140 : (D × D)) => .ok (a137, c140)).bind fun (c141 : (D × (D × D))) => .ok (a136, c141)).bind fun (c142 : (D × (D × (D × D)))) => .ok (a135, c142)).bind fun (c143 : (D × (D × (D × (D × D))))) => .ok (a134, c143)).bind fun (c144 : (D × (D × (D × (D × (D × D)))))) => (((repLE ([(eS ("range" : Str))] : List D) (6 : Int)).bind fun (l145 : (List D)) => eqDE ((eL eD) ([c144.1, c144.2.1, c144.2.2.1, c144.2.2.2.1, c144.2.2.2.2.1, c144.2.2.2.2.2] : List D)) ((eL eD) l145)).bind fun a146 => if a146 = true then (((lcE (fun x147 : Int => .ok true) (fun x147 : Int => T__law_told (x147) ((0 : Int)) ((1 : Int)) ((1 : Int)) ((1 : Int))) ([(1 : Int), (2 : Int)] : List Int) []).bind fun (l149 : (List D)) => (lcE (fun x150 : Int => .ok true) (fun x150 : Int => T__law_told (x150) ((1 : Int)) ((10001 : Int)) ((1 : Int)) ((1 : Int))) ([(1 : Int), (2 : Int)] : List Int) []).bind fun (l152 : (List D)) => catE l149 l152).bind fun (l153 : (List D)) => (repLE ([(eS ("range" : Str))] : List D) (4 : Int)).bind fun (l154 : (List D)) => eqDE ((eL eD) l153) ((eL eD) l154)).bind fun (a155 : Bool) => .ok (a155) else .ok false).bind fun (a156 : Bool) => .ok (a156)
theorem law_eq (p_script : List Int) : T_law p_script = (TF__law_draws (p_script)).bind fun (a84 : (List Int)) => (forC (ρ := Bool) turnR (ranI 0 ((6 : Int)).toNat) (List.map eI a84)).bind fun z => z.after (fun _ => wordsR) (fun s85 => .bad) (fun r => r) := rfl
end PL
set_option Elab.async false
set_option linter.all false
set_option maxRecDepth 100000
set_option maxHeartbeats 1000000
set_option autoImplicit false
/-! k84: what a turn finds. -/
namespace PL
open PySem PySem.Spec PyProof.Rows L2
theorem told0 {b h e d : Int} (p : Pm b h e) (d0 : 0 ≤ d) (d1 : d ≤ 1000000) : T__law_told 0 b h e d = .ok (eB (decide (Ab (b * h) (b * e) d))) := by
  unfold T__law_told
  rw [if_pos (by decide), is_above_ok p d0 d1]
  rfl
theorem told1 {b e d z : Int} {o : Option Int} (h : T_least_height b e d = .ok o) : T__law_told 1 b e z d = .ok (eO eI o) := by
  unfold T__law_told
  rw [if_neg (by decide), if_pos (by decide), h]
  rfl
theorem told2 {b h e z r : Int} (k : T_greatest_distance b h e = .ok r) : T__law_told 2 b h e z = .ok (eI r) := by
  unfold T__law_told
  rw [if_neg (by decide), if_neg (by decide), k]
  rfl
theorem says_ok (b : Bool) : T__law_says (eB b) b = .ok true := by
  cases b <;> kernel_rfl
theorem in_ok {b h e d : Int} (p : Pm b h e) (d0 : 0 ≤ d) (d1 : d ≤ 1000000) : inR b h e d () = .ok (.nx ()) := by
  have hs : decide (Ab (b * e) (b * h) d) = decide (Ab (b * h) (b * e) d) := decide_eq_decide.mpr ab_comm
  obtain ⟨o, eo, ho⟩ := least_ok p.b0 p.b1 p.e0 p.e1 d0 d1
  unfold inR
  simp only [law_above_ok p d0 (show d ≤ 2000000 by omega), told0 p d0 d1, told0 p.swap d0 d1, hs, says_ok, Ex.bind_ok, told1 eo]
  rw [if_neg (by decide), Ex.bind_ok, if_neg (by decide)]
  cases o with
  | none =>
    rw [show (Ex.ofO ((dcO dcI) ((eO eI) none)) : Ex (Option Int)) = .ok none from rfl]
    simp only [Ex.bind_ok]
    rw [if_pos (show Option.isNone (none : Option Int) = true from rfl), law_above_ok ⟨p.b0, p.b1, by decide, by decide, p.e0, p.e1⟩ d0 (show d ≤ 2000000 by omega), Ex.bind_ok, decide_eq_false ho, if_neg (by decide)]
  | some l =>
    obtain ⟨l0, l1, l2, l3⟩ := ho
    rw [show (Ex.ofO ((dcO dcI) ((eO eI) (some l))) : Ex (Option Int)) = .ok (some l) from rfl]
    simp only [Ex.bind_ok]
    have hl : Pm b l e := ⟨p.b0, p.b1, l0, l1, p.e0, p.e1⟩
    have c1 : chnE dLeI dLeI (eI (0 : Int)) ((eO eI) (some l)) (eI (10000 : Int)) = .ok true := by
      show (match (some (.bool (decide (0 ≤ l))) : Option D) with
        | some (.bool true) => match (some (.bool (decide (l ≤ 10000))) : Option D) with
          | some (.bool b) => (Ex.ok b : Ex Bool)
          | _ => Ex.bad
        | some (.bool false) => Ex.ok false
        | _ => Ex.bad) = _
      rw [decide_eq_true l0, decide_eq_true l1]
    have c2 : opB (dGtI ((eO eI) (some l)) (eI (0 : Int))) = .ok (decide (0 < l)) := rfl
    have c3 : (Ex.ofO (some l) : Ex Int) = .ok l := rfl
    rw [if_neg (show ¬ Option.isNone (some l) = true from Bool.false_ne_true), if_neg (show ¬ (!(isD .int ((eO eI) (some l)))) = true from by simp [eO, eI, isD]), c1, Ex.bind_ok, if_neg (by decide), c3, Ex.bind_ok, law_above_ok hl d0 (by omega), Ex.bind_ok, decide_eq_true l2, if_neg (by decide), c2, Ex.bind_ok]
    by_cases q : 0 < l
    · rw [decide_eq_true q, if_pos rfl, Ex.bind_ok, law_above_ok ⟨p.b0, p.b1, by omega, by omega, p.e0, p.e1⟩ d0 (by omega), decide_eq_false (l3 q)]
      rfl
    · rw [decide_eq_false q]
      rfl
theorem ix2 {v : Int} (h0 : 0 ≤ v) (h1 : v < 2) : ∃ w, ixE ([(4 : Int), (1000 : Int)] : List Int) v = .ok w ∧ 0 < w ∧ w ≤ 1000 := by
  have : v = 0 ∨ v = 1 := by omega
  rcases this with rfl | rfl
  · exact ⟨4, rfl, by decide, by decide⟩
  · exact ⟨1000, rfl, by decide, by decide⟩
theorem ix3 {v : Int} (h0 : 0 ≤ v) (h1 : v < 3) : ∃ w, ixE ([(10 : Int), (200 : Int), (10001 : Int)] : List Int) v = .ok w ∧ 0 < w ∧ w ≤ 10001 := by
  have : v = 0 ∨ v = 1 ∨ v = 2 := by omega
  rcases this with rfl | rfl | rfl
  · exact ⟨10, rfl, by decide, by decide⟩
  · exact ⟨200, rfl, by decide, by decide⟩
  · exact ⟨10001, rfl, by decide, by decide⟩
theorem turn_ok {k : Int} {tp : List D} (ht : TapeI tp) : ∃ tp', turnR k tp = .ok (.nx tp') ∧ TapeI tp' := by
  unfold turnR
  obtain ⟨v1, t1, e1, a1, b1, h1⟩ := take_ok ht (show (0 : Int) < 2 by decide)
  obtain ⟨w1, f1, c1, d1⟩ := ix2 a1 b1
  obtain ⟨v2, t2, e2, a2, b2, h2⟩ := take_ok h1 c1
  obtain ⟨v3, t3, e3, a3, b3, h3⟩ := take_ok h2 (show (0 : Int) < 3 by decide)
  obtain ⟨w3, f3, c3, d3⟩ := ix3 a3 b3
  obtain ⟨v4, t4, e4, a4, b4, h4⟩ := take_ok h3 c3
  obtain ⟨v5, t5, e5, a5, b5, h5⟩ := take_ok h4 c3
  have p : Pm (1 + v2) v4 v5 := ⟨by omega, by omega, a4, by omega, a5, by omega⟩
  have q1 := prod_b p.b0 p.b1 p.h0 p.h1
  have q2 := prod_b p.b0 p.b1 p.e0 p.e1
  obtain ⟨r, er, hr⟩ := root_ok (n := (1 + v2) * v4) q1.1 (by omega)
  obtain ⟨s, es, hs⟩ := root_ok (n := (1 + v2) * v5) q2.1 (by omega)
  obtain ⟨far, ef, l1, l2, n1, n2⟩ := great_ok p hr hs
  have r0 := hr.nn
  have s0 := hs.nn
  have r1 := rt_small hr q1.2
  have s1 := rt_small hs q2.2
  have m1 : mulE (1 + v2) v4 = .ok ((1 + v2) * v4) := mulE_r (by omega)
  have m2 : mulE (1 + v2) v5 = .ok ((1 + v2) * v5) := mulE_r (by omega)
  have m3 : mulE 2 far = .ok (2 * far) := mulE_r (by omega)
  simp only [e1, f1, e2, e3, f3, e4, e5, Ex.bind_ok, told2 ef, m1, m2, m3, er, es, show (Ex.ofO (dcI (eI far)) : Ex Int) = .ok far from rfl]
  obtain ⟨v6, t6, e6, a6, b6, h6⟩ := take_ok h5 (show (0 : Int) < 2 * far + 2 by omega)
  have c4 : List.sum ([r, s] : List Int) = r + s := by simp
  rw [c4, decide_eq_true l1, decide_eq_true l2, if_neg (show ¬ ((!(isD .int (eI far))) || !(true && true)) = true from by simp [eI, isD]), law_above_ok p (by omega) (by omega), Ex.bind_ok, decide_eq_true n1, if_neg (by decide), law_above_ok p (by omega) (by omega), Ex.bind_ok, decide_eq_false n2, Ex.bind_ok, if_neg (by decide), e6]
  simp only [Ex.bind_ok, forC, in_ok p (show 0 ≤ far by omega) (by omega), in_ok p (show 0 ≤ far + 1 by omega) (by omega), in_ok p (show 0 ≤ max 0 (far - 1) by omega) (by omega), in_ok p a6 (by omega)]
  exact ⟨t6, rfl, h6⟩
theorem turns_ok : ∀ (ks : List Int) (tp : List D), TapeI tp → ∃ tp', forC turnR ks tp = .ok (.nx tp') ∧ TapeI tp'
  | [], tp, h => ⟨tp, rfl, h⟩
  | k :: ks, tp, h => by
    obtain ⟨t1, e1, h1⟩ := turn_ok (k := k) h
    obtain ⟨t2, e2, h2⟩ := turns_ok ks t1 h1
    refine ⟨t2, ?_, h2⟩
    rw [forC, e1, Ex.bind_ok]
    exact e2
theorem words_ok : wordsR = .ok true := by kernel_rfl
theorem law_typed {ns : List Int} (h : ns.length ≤ 63) : T_law ns = .ok true := by
  obtain ⟨l, el⟩ := draws_ok h
  rw [law_eq, el, Ex.bind_ok]
  obtain ⟨t, e, _⟩ := turns_ok (ranI 0 ((6 : Int)).toNat) (List.map eI l) ⟨l, rfl⟩
  rw [e, Ex.bind_ok]
  show (wordsR : Ex Bool) = _
  exact words_ok
theorem law_holds : ∀ ns : List Int, ns.length ≤ 63 → (∀ z ∈ ns, Builtin.Int.intBits z ≤ 1048576) → F_law [.list (ns.map .int)] = .ok (.bool true) := fun ns h _ => by
  have := ref_law ns
  rw [law_typed h] at this
  exact this
end PL

set_option Elab.async false
set_option linter.all false
set_option maxRecDepth 100000
set_option maxHeartbeats 4000000
set_option autoImplicit false
open PySem PySem.W PyProof.Rows
set_option maxRecDepth 100000 in
set_option maxHeartbeats 0 in
theorem PySem.Challenge.cw_coastlit_k84_whole_horizons_holds : PySem.Challenge.rw_coastlit_k84_whole_horizons.Holds := by
  w_on; o_law; k_head; (case hw => w_witness2)
  k_fill
  refine PL.walk_T (l := PySem.Challenge.rw_coastlit_k84_whole_horizons) (n := 63) (k := 5) (x := "script") rfl (by decide) rfl ⟨rfl, by decide, by decide⟩ (fun w h Y => PySem.W.kIn_of Y) ?F
  case F =>
    intro w mg mb fa h loose mean T KX G hmg
    refine' PL.all_mk T KX G hmg PL.law_holds ?a0 ?l0 ?e0 ?k0 ?a1 ?l1 ?e1 ?k1 ?a2 ?l2 ?e2 ?k2 ?a3 ?l3 ?e3 ?k3 ?a4 ?l4 ?e4 ?k4 ?a5 ?l5 ?e5 ?k5 ?a6 ?l6 ?e6 ?k6 ?a7 ?l7 ?e7 ?k7 ?a8 ?l8 ?e8 ?k8 ?a9 ?l9 ?e9 ?k9 ?a10 ?l10 ?e10 ?k10 ?a11 ?l11 ?e11 ?k11 ?a12 ?l12 ?e12 ?k12 ?a13 ?l13 ?e13 ?k13 ?a14 ?l14 ?e14 ?k14 ?a15 ?l15 ?e15 ?k15 ?z_abs ?z_bool ?z_int ?z_isinstance ?z_len ?z_list ?z_max ?z_range ?z_reversed ?z_sum ?y_MOST_BEND ?v_MOST_BEND ?y_MOST_DISTANCE ?v_MOST_DISTANCE ?y_MOST_HEIGHT ?v_MOST_HEIGHT ?m_isqrt ?q_L ?q_OutOfRange ?r_OutOfRange ?x_OutOfRange ?q_Malformed ?r_Malformed ?x_Malformed ?q_NotThere ?r_NotThere ?x_NotThere ?q_Refused ?r_Refused ?x_Refused ?q_TooMuch ?r_TooMuch ?x_TooMuch ?k_0_0 ?k_0_1 ?k_0_2 ?k_0_3 ?k_0_4 ?k_1_0 ?k_1_1 ?k_1_2 ?k_1_3 ?k_1_4 ?k_2_0 ?k_2_1 ?k_2_2 ?k_2_3 ?k_2_4 ?k_3_0 ?k_3_1 ?k_3_2 ?k_3_3 ?k_3_4 ?k_4_0 ?k_4_1 ?k_4_2 ?k_4_3 ?k_4_4
    (case a0 => k_is)
    (case l0 => k_is)
    (case e0 => k_is)
    (case k0 => k_is)
    (case a1 => k_is)
    (case l1 => k_is)
    (case e1 => k_is)
    (case k1 => k_is)
    (case a2 => k_is)
    (case l2 => k_is)
    (case e2 => k_is)
    (case k2 => k_is)
    (case a3 => k_is)
    (case l3 => k_is)
    (case e3 => k_is)
    (case k3 => k_is)
    (case a4 => k_is)
    (case l4 => k_is)
    (case e4 => k_is)
    (case k4 => k_is)
    (case a5 => k_is)
    (case l5 => k_is)
    (case e5 => k_is)
    (case k5 => k_is)
    (case a6 => k_is)
    (case l6 => k_is)
    (case e6 => k_is)
    (case k6 => k_is)
    (case a7 => k_is)
    (case l7 => k_is)
    (case e7 => k_is)
    (case k7 => k_is)
    (case a8 => k_is)
    (case l8 => k_is)
    (case e8 => k_is)
    (case k8 => k_is)
    (case a9 => k_is)
    (case l9 => k_is)
    (case e9 => k_is)
    (case k9 => k_is)
    (case a10 => k_is)
    (case l10 => k_is)
    (case e10 => k_is)
    (case k10 => k_is)
    (case a11 => k_is)
    (case l11 => k_is)
    (case e11 => k_is)
    (case k11 => k_is)
    (case a12 => k_is)
    (case l12 => k_is)
    (case e12 => k_is)
    (case k12 => k_is)
    (case a13 => k_is)
    (case l13 => k_is)
    (case e13 => k_is)
    (case k13 => k_is)
    (case a14 => k_is)
    (case l14 => k_is)
    (case e14 => k_is)
    (case k14 => k_is)
    (case a15 => k_is)
    (case l15 => k_is)
    (case e15 => k_is)
    (case k15 => k_is)
    (case z_abs => k_is)
    (case z_bool => k_is)
    (case z_int => k_is)
    (case z_isinstance => k_is)
    (case z_len => k_is)
    (case z_list => k_is)
    (case z_max => k_is)
    (case z_range => k_is)
    (case z_reversed => k_is)
    (case z_sum => k_is)
    (case y_MOST_BEND => k_is)
    (case v_MOST_BEND => exact ⟨_, rfl⟩)
    (case y_MOST_DISTANCE => k_is)
    (case v_MOST_DISTANCE => exact ⟨_, rfl⟩)
    (case y_MOST_HEIGHT => k_is)
    (case v_MOST_HEIGHT => exact ⟨_, rfl⟩)
    (case m_isqrt => k_is)
    (case q_L => k_is)
    (case q_OutOfRange => k_is)
    (case r_OutOfRange => (refine ⟨?_, ?_, ?_, ?_, ⟨?_, ?_, ?_, ?_, ?_, ?_, ?_, ?_⟩⟩; k_exc; all_goals k_is))
    (case x_OutOfRange => first | rfl | k_is)
    (case q_Malformed => k_is)
    (case r_Malformed => (refine ⟨?_, ?_, ?_, ?_, ⟨?_, ?_, ?_, ?_, ?_, ?_, ?_, ?_⟩⟩; k_exc; all_goals k_is))
    (case x_Malformed => first | rfl | k_is)
    (case q_NotThere => k_is)
    (case r_NotThere => (refine ⟨?_, ?_, ?_, ?_, ⟨?_, ?_, ?_, ?_, ?_, ?_, ?_, ?_⟩⟩; k_exc; all_goals k_is))
    (case x_NotThere => first | rfl | k_is)
    (case q_Refused => k_is)
    (case r_Refused => (refine ⟨?_, ?_, ?_, ?_, ⟨?_, ?_, ?_, ?_, ?_, ?_, ?_, ?_⟩⟩; k_exc; all_goals k_is))
    (case x_Refused => first | rfl | k_is)
    (case q_TooMuch => k_is)
    (case r_TooMuch => (refine ⟨?_, ?_, ?_, ?_, ⟨?_, ?_, ?_, ?_, ?_, ?_, ?_, ?_⟩⟩; k_exc; all_goals k_is))
    (case x_TooMuch => first | rfl | k_is)
    (case k_0_0 => first | rfl | k_is)
    (case k_0_1 => first | rfl | k_is)
    (case k_0_2 => first | rfl | k_is)
    (case k_0_3 => first | rfl | k_is)
    (case k_0_4 => first | rfl | k_is)
    (case k_1_0 => first | rfl | k_is)
    (case k_1_1 => first | rfl | k_is)
    (case k_1_2 => first | rfl | k_is)
    (case k_1_3 => first | rfl | k_is)
    (case k_1_4 => first | rfl | k_is)
    (case k_2_0 => first | rfl | k_is)
    (case k_2_1 => first | rfl | k_is)
    (case k_2_2 => first | rfl | k_is)
    (case k_2_3 => first | rfl | k_is)
    (case k_2_4 => first | rfl | k_is)
    (case k_3_0 => first | rfl | k_is)
    (case k_3_1 => first | rfl | k_is)
    (case k_3_2 => first | rfl | k_is)
    (case k_3_3 => first | rfl | k_is)
    (case k_3_4 => first | rfl | k_is)
    (case k_4_0 => first | rfl | k_is)
    (case k_4_1 => first | rfl | k_is)
    (case k_4_2 => first | rfl | k_is)
    (case k_4_3 => first | rfl | k_is)
    (case k_4_4 => first | rfl | k_is)
