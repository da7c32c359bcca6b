import PyProof.Rows.All
import Wide.All
import OpenK.AllK
import Wide.FinOn
import HandS.ForMost
import HandS.ForExc
import HandS.Deep
import HandS.Wide
import HandS.IsInst
import HandS.Style
import HandS.TupAny
import HandS.TupMul
import HandS.Gcd
import KE.SortData
import HandS.Zip
import HandS.GenList
import HandS.AnyAll
import HandS.EndTab
import HandS.SetFor
import HandS.TryOnly
import KE.BitLaws
import PySem.Challenge.RW_coastlit_k98_whole_gears_of_lenses
set_option Elab.async false
set_option linter.all false
set_option maxRecDepth 100000
set_option autoImplicit false
/-! The plain layer: data D, what represents it in the abstract heap, environments of data, readings by functions on data. -/
namespace PL
open PySem PySem.Spec PyProof.Rows L2

abbrev D := PyData

/-- a list that never changes again: locked, or written -/
def FzL (K : PySem.W.Frag) (H : Hp) (a : Addr) (xs : List V) : Prop :=
  (∃ o, H a = some (.frz o (.lst xs))) ∨
    ∃ (o : Obj) (its : Array Value) (n : Nat), K.lookup a = some o ∧ o.cls = .type "list" ∧ o.dict = none ∧ o.data = .seq its n ∧ its.size ≤ sizeLine ∧ Vals xs its.toList
theorem FzL.sq {K : PySem.W.Frag} {H : Hp} {a : Addr} {xs : List V} (h : FzL K H a xs) : SqL K H a xs := by
  rcases h with h | h
  · exact .inl (.inr h)
  · exact .inr h

/-- tuples and locked things stay -/
structure Ext (H H' : Hp) : Prop where
  tup : ∀ b xs, H b = some (.tup xs) → H' b = some (.tup xs)
  frz : ∀ b o u, H b = some (.frz o u) → H' b = some (.frz o u)
theorem Ext.refl (H : Hp) : Ext H H := ⟨fun _ _ h => h, fun _ _ _ h => h⟩
theorem Ext.trans {H H1 H2 : Hp} (a : Ext H H1) (b : Ext H1 H2) : Ext H H2 := ⟨fun c xs h => b.tup c xs (a.tup c xs h), fun c o u h => b.frz c o u (a.frz c o u h)⟩
theorem Ext.same {H H' : Hp} (s : Same H H') : Ext H H' := ⟨fun b xs h => s b _ h, fun b o u h => s b _ h⟩
theorem same_upd {H : Hp} {p : Addr} {o : HO} (h : H p = none) : Same H (upd H p o) := fun b u q => by
  rw [upd_ne (ne_of_none q h)]; exact q
theorem Ext.new {H : Hp} {p : Addr} {o : HO} (h : H p = none) : Ext H (upd H p o) := Ext.same (same_upd h)
/-- a list written over -/
theorem Ext.wr {H : Hp} {p : Addr} {xs : List V} {o : HO} (h : H p = some (.lst xs)) : Ext H (upd H p o) :=
  ⟨fun b ys q => by rw [upd_ne (ne_of q h (by intro z; cases z))]; exact q, fun b ob u q => by rw [upd_ne (ne_of q h (by intro z; cases z))]; exact q⟩
theorem FzL.mono {K : PySem.W.Frag} {H H' : Hp} {a : Addr} {xs : List V} (e : Ext H H') (h : FzL K H a xs) : FzL K H' a xs := by
  rcases h with ⟨o, h⟩ | h
  · exact .inl ⟨o, e.frz _ _ _ h⟩
  · exact .inr h
theorem sqT_mono {K : PySem.W.Frag} {H H' : Hp} {a : Addr} {xs : List V} (e : Ext H H') (h : SqT K H a xs) : SqT K H' a xs := by
  rcases h with (h | ⟨o, h⟩) | h
  · exact .inl (.inl (e.tup _ _ h))
  · exact .inl (.inr ⟨o, e.frz _ _ _ h⟩)
  · exact .inr h

/-- what stands for a dict (told later): ks, vs its keys and values by place -/
def DkO (a : Addr) (ks vs : List V) (u : HO) : Prop := ∃ kvs : List (L2.Key × V), u = .dK kvs ∧ ks = kvs.map (fun p => kV p.1) ∧ vs = kvs.map (·.2)

mutual
/-- v stands for the datum d; all that it reads stays for ever -/
inductive Rep (K : PySem.W.Frag) (H : Hp) : V → D → Prop
  | non : Rep K H .non .none
  | bl (b : Bool) : Rep K H (.bl b) (.bool b)
  | int (i : Int) : Rep K H (.int i) (.int i)
  | str (x : Str) : Rep K H (.str x) (.str x)
  | lst {a : Addr} {xs : List V} {ds : List D} : FzL K H a xs → RepAll K H xs ds → Rep K H (.ref a) (.list ds)
  | tup {a : Addr} {xs : List V} {ds : List D} : SqT K H a xs → RepAll K H xs ds → Rep K H (.ref a) (.tuple ds)
inductive RepAll (K : PySem.W.Frag) (H : Hp) : List V → List D → Prop
  | nil : RepAll K H [] []
  | cons {v : V} {vs : List V} {d : D} {ds : List D} : Rep K H v d → RepAll K H vs ds → RepAll K H (v :: vs) (d :: ds)
end

section
variable {K : PySem.W.Frag} {H H' : Hp}
mutual
theorem Rep.mono (e : Ext H H') : ∀ (d : D) (v : V), Rep K H v d → Rep K H' v d
  | .none, _, h => by cases h; exact .non
  | .bool _, _, h => by cases h; exact .bl _
  | .int _, _, h => by cases h; exact .int _
  | .str _, _, h => by cases h; exact .str _
  | .list ds, _, h => by
    cases h with
    | lst q r => exact .lst (q.mono e) (RepAll.mono e ds _ r)
  | .tuple ds, _, h => by
    cases h with
    | tup q r => exact .tup (sqT_mono e q) (RepAll.mono e ds _ r)
  | .dict _, _, h => by cases h
theorem RepAll.mono (e : Ext H H') : ∀ (ds : List D) (vs : List V), RepAll K H vs ds → RepAll K H' vs ds
  | [], _, h => by cases h; exact .nil
  | d :: ds, _, h => by
    cases h with
    | cons q r => exact .cons (Rep.mono e d _ q) (RepAll.mono e ds _ r)
end
mutual
theorem Rep.dp : ∀ (d : D) (v : V), Rep K H v d → Dp K H v d
  | .none, _, h => by cases h; exact .non
  | .bool _, _, h => by cases h; exact .bl _
  | .int _, _, h => by cases h; exact .int _
  | .str _, _, h => by cases h; exact .str _
  | .list ds, _, h => by
    cases h with
    | lst q r => exact .lst q.sq (RepAll.dp ds _ r)
  | .tuple ds, _, h => by
    cases h with
    | tup q r => exact .tup q (RepAll.dp ds _ r)
  | .dict _, _, h => by cases h
theorem RepAll.dp : ∀ (ds : List D) (vs : List V), RepAll K H vs ds → DpAll K H vs ds
  | [], _, h => by cases h; exact .nil
  | d :: ds, _, h => by
    cases h with
    | cons q r => exact .cons (Rep.dp d _ q) (RepAll.dp ds _ r)
end
theorem Rep.ext {v : V} {d : D} (h : Rep K H v d) (e : Ext H H') : Rep K H' v d := Rep.mono e d v h
theorem RepAll.ext {vs : List V} {ds : List D} (h : RepAll K H vs ds) (e : Ext H H') : RepAll K H' vs ds := RepAll.mono e ds vs h
theorem RepAll.length : ∀ {vs : List V} {ds : List D}, RepAll K H vs ds → vs.length = ds.length
  | _, _, .nil => rfl
  | _, _, .cons _ r => congrArg (· + 1) r.length
theorem RepAll.app : ∀ {vs ws : List V} {ds es : List D}, RepAll K H vs ds → RepAll K H ws es → RepAll K H (vs ++ ws) (ds ++ es)
  | _, _, _, _, .nil, s => s
  | _, _, _, _, .cons q r, s => .cons q (r.app s)
theorem RepAll.get : ∀ {vs : List V} {ds : List D} {i : Nat} {d : D}, RepAll K H vs ds → ds[i]? = some d → ∃ v, vs[i]? = some v ∧ Rep K H v d
  | _, _, _, _, .nil, e => by simp at e
  | _, _, 0, _, .cons q _, e => by simp at e; subst e; exact ⟨_, rfl, q⟩
  | _, _, i + 1, d, .cons _ r, e => by
    obtain ⟨v, h1, h2⟩ := r.get (i := i) (d := d) (by simpa using e)
    exact ⟨v, by simpa using h1, h2⟩
theorem RepAll.set {v : V} {d : D} (q : Rep K H v d) : ∀ {vs : List V} {ds : List D} (i : Nat), RepAll K H vs ds → RepAll K H (vs.set i v) (ds.set i d)
  | _, _, _, .nil => .nil
  | _, _, 0, .cons _ r => .cons q r
  | _, _, i + 1, .cons p r => .cons p (RepAll.set q i r)
theorem RepAll.take : ∀ {vs : List V} {ds : List D} (n : Nat), RepAll K H vs ds → RepAll K H (vs.take n) (ds.take n)
  | _, _, 0, _ => by simp only [List.take_zero]; exact .nil
  | _, _, _ + 1, .nil => .nil
  | _, _, n + 1, .cons q r => .cons q (r.take n)
theorem RepAll.drop : ∀ {vs : List V} {ds : List D} (n : Nat), RepAll K H vs ds → RepAll K H (vs.drop n) (ds.drop n)
  | _, _, 0, r => r
  | _, _, _ + 1, .nil => .nil
  | _, _, n + 1, .cons _ r => r.drop n
theorem RepAll.rev : ∀ {vs : List V} {ds : List D}, RepAll K H vs ds → RepAll K H vs.reverse ds.reverse
  | _, _, .nil => .nil
  | _, _, .cons q r => by
    rw [List.reverse_cons, List.reverse_cons]
    exact r.rev.app (.cons q .nil)
theorem RepAll.erase : ∀ {vs : List V} {ds : List D} (i : Nat), RepAll K H vs ds → RepAll K H (vs.eraseIdx i) (ds.eraseIdx i)
  | _, _, _, .nil => .nil
  | _, _, 0, .cons _ r => r
  | _, _, i + 1, .cons q r => .cons q (r.erase i)
end

/-! ### environments -/
inductive Cell where
  /-- nothing is said -/
  | emp
  /-- a datum, for ever -/
  | val (d : D)
  /-- a list of this name's own -/
  | own (ds : List D)
  /-- the caller's list, lent -/
  | tap (ds : List D)
abbrev DEnv := List Cell
inductive R (α : Type) where
  | ok (a : α) (σ : DEnv)
  | exc (c : Nat) (σ : DEnv)
  | bad
@[simp] def R.bind {α β : Type} (x : R α) (f : α → DEnv → R β) : R β := match x with
  | .ok a σ => f a σ
  | .exc c σ => .exc c σ
  | .bad => .bad
/-- a partial value -/
@[simp] def lift {α : Type} (o : Option α) (σ : DEnv) : R α := match o with
  | some a => .ok a σ
  | none => .bad
inductive O where
  | nx (σ : DEnv)
  | ret (d : D) (σ : DEnv)
  /-- a new list, handed over -/
  | retF (ds : List D) (σ : DEnv)
  | brk (σ : DEnv)
  | cnt (σ : DEnv)
  | exc (c : Nat) (σ : DEnv)
  | bad
/-- then -/
@[simp] def O.seq (x : O) (f : DEnv → O) : O := match x with
  | .nx σ => f σ
  | .ret d σ => .ret d σ
  | .retF d σ => .retF d σ
  | .brk σ => .brk σ
  | .cnt σ => .cnt σ
  | .exc c σ => .exc c σ
  | .bad => .bad
@[simp] def R.thn {α : Type} (x : R α) (f : α → DEnv → O) : O := match x with
  | .ok a σ => f a σ
  | .exc c σ => .exc c σ
  | .bad => .bad

/-- what is fixed through a def's run: the written part, the heap at the entry, the lent list, the code objects' tables, the classes of exceptions, what is wanted of one that leaves -/
structure Mx where
  K : PySem.W.Frag
  H0 : Hp
  tape : Option Addr
  tabs : List Addr
  cls : Nat → Addr
  W : Nat → DEnv → Prop

/-- a code object's table that stands -/
def TabG (H : Hp) (P : Addr) : Prop := ∃ ps : Array Value, H P = some (.tbl ps) ∧ TriplesOk ps.toList
/-- what stood stays; a table may have grown -/
def Kept (o : HO) (x : Option HO) : Prop := x = some o ∨ ∃ ps more : Array Value, o = .tbl ps ∧ x = some (.tbl (ps ++ more))
theorem Kept.trans {o : HO} {H1 H2 : Hp} {b : Addr} (h : Kept o (H1 b)) (k : ∀ o', H1 b = some o' → Kept o' (H2 b)) : Kept o (H2 b) := by
  rcases h with h | ⟨ps, m, rfl, h⟩
  · exact k _ h
  · rcases k _ h with q | ⟨ps', m', e, q⟩
    · exact .inr ⟨ps, m, rfl, q⟩
    · cases e
      exact .inr ⟨ps, m ++ m', rfl, by rw [q, Array.append_assoc]⟩

/-- the environment σd stands at the slots σ in the heap H -/
structure Mt (M : Mx) (σd : DEnv) (σ : L2.St) (H : Hp) : Prop where
  len : σd.length = σ.length
  val : ∀ (i : Nat) (d : D), σd[i]? = some (.val d) → ∃ v, σ[i]? = some (some v) ∧ Rep M.K H v d
  own : ∀ (i : Nat) (ds : List D), σd[i]? = some (.own ds) → ∃ p xs, σ[i]? = some (some (.ref p)) ∧ H p = some (.lst xs) ∧ RepAll M.K H xs ds ∧ M.H0 p = none ∧ M.tape ≠ some p
  tap : ∀ (i : Nat) (ds : List D), σd[i]? = some (.tap ds) → ∃ p xs, σ[i]? = some (some (.ref p)) ∧ H p = some (.lst xs) ∧ RepAll M.K H xs ds ∧ M.tape = some p
  dj : ∀ (i j : Nat) (a b : List D) (p : Addr), σd[i]? = some (.own a) → σd[j]? = some (.own b) → σ[i]? = some (some (.ref p)) → σ[j]? = some (some (.ref p)) → i = j
  kept : ∀ b o, M.H0 b = some o → M.tape ≠ some b → Kept o (H b)
  tabs : ∀ P ∈ M.tabs, TabG H P
  tape : ∀ t, M.tape = some t → ∃ ds, σd[0]? = some (.tap ds)
  tapOne : ∀ (i j : Nat) (a b : List D), σd[i]? = some (.tap a) → σd[j]? = some (.tap b) → i = j

theorem Mt.same {M : Mx} {σd : DEnv} {σ : L2.St} {H H' : Hp} (m : Mt M σd σ H) (s : Same H H') : Mt M σd σ H' where
  len := m.len
  val := fun i d e => let ⟨v, h1, h2⟩ := m.val i d e; ⟨v, h1, h2.ext (Ext.same s)⟩
  own := fun i ds e => let ⟨p, xs, h1, h2, h3, h4⟩ := m.own i ds e; ⟨p, xs, h1, s _ _ h2, h3.ext (Ext.same s), h4⟩
  tap := fun i ds e => let ⟨p, xs, h1, h2, h3, h4⟩ := m.tap i ds e; ⟨p, xs, h1, s _ _ h2, h3.ext (Ext.same s), h4⟩
  dj := m.dj
  kept := fun b o h ht => (m.kept b o h ht).trans fun o' h' => .inl (s _ _ h')
  tabs := fun P hP => let ⟨ps, h, t⟩ := m.tabs P hP; ⟨ps, s _ _ h, t⟩
  tape := m.tape
  tapOne := m.tapOne

/-! ### the readings -/
def wpR {α : Type} (x : R α) (Q : α → DEnv → Prop) (W : Nat → DEnv → Prop) : Prop := match x with
  | .ok a σ => Q a σ
  | .exc c σ => W c σ
  | .bad => False
theorem wpR_bind {α β : Type} {x : R α} {f : α → DEnv → R β} {Q : β → DEnv → Prop} {W : Nat → DEnv → Prop} : wpR (x.bind f) Q W ↔ wpR x (fun a σ => wpR (f a σ) Q W) W := by
  cases x <;> exact Iff.rfl
theorem wpR_mono {α : Type} {x : R α} {Q Q' : α → DEnv → Prop} {W : Nat → DEnv → Prop} (h : wpR x Q W) (k : ∀ a σ, Q a σ → Q' a σ) : wpR x Q' W := by
  cases x with
  | ok a σ => exact k a σ h
  | exc c σ => exact h
  | bad => exact h
theorem wpR_lift {α : Type} {o : Option α} {σ : DEnv} {Q : α → DEnv → Prop} {W : Nat → DEnv → Prop} : wpR (lift o σ) Q W ↔ ∃ a, o = some a ∧ Q a σ := by
  cases o with
  | none => exact ⟨fun h => h.elim, fun ⟨_, h, _⟩ => by cases h⟩
  | some a => exact ⟨fun h => ⟨a, rfl, h⟩, fun ⟨b, h, q⟩ => by cases h; exact q⟩
/-- an expression: its datum -/
def tE (M : Mx) (f : DEnv → R D) : TE := fun σ H Q => ∃ σd, Mt M σd σ H ∧ wpR (f σd) (fun d σd' => ∀ v H', Ext H H' → Rep M.K H' v d → Mt M σd' σ H' → Q v H') M.W
/-- a test: its truth -/
def tT (M : Mx) (f : DEnv → R Bool) : TT := fun σ H Q => ∃ σd, Mt M σd σ H ∧ wpR (f σd) (fun d σd' => ∀ H', Ext H H' → Mt M σd' σ H' → Q d H') M.W
/-- arguments -/
def tA (M : Mx) (f : DEnv → R (List D)) : TA := fun σ H Q => ∃ σd, Mt M σd σ H ∧ wpR (f σd) (fun ds σd' => ∀ vs H', Ext H H' → RepAll M.K H' vs ds → Mt M σd' σ H' → Q vs H') M.W
/-- p is no list of a name's own -/
structure Fresh (M : Mx) (σd : DEnv) (σ : L2.St) (p : Addr) : Prop where
  ent : M.H0 p = none
  tap : M.tape ≠ some p
  own : ∀ (i : Nat) (ds : List D), σd[i]? = some (.own ds) → σ[i]? ≠ some (some (.ref p))
/-- an expression that makes a new list -/
def tF (M : Mx) (f : DEnv → R (List D)) : TE := fun σ H Q => ∃ σd, Mt M σd σ H ∧ wpR (f σd) (fun ds σd' => ∀ p xs H', Ext H H' → H' p = some (.lst xs) → RepAll M.K H' xs ds → Mt M σd' σ H' → Fresh M σd' σ p → Q (.ref p) H') M.W
abbrev SE (X : Cx) (M : Mx) (e : Expr) (f : DEnv → R D) : Prop := PE X e (tE M f)
abbrev ST (X : Cx) (M : Mx) (e : Expr) (f : DEnv → R Bool) : Prop := PT X e (tT M f)
abbrev SA (X : Cx) (M : Mx) (es : List Expr) (f : DEnv → R (List D)) : Prop := PA X es (tA M f)
abbrev SF (X : Cx) (M : Mx) (e : Expr) (f : DEnv → R (List D)) : Prop := PE X e (tF M f)
/-- a statement -/
def wpO (M : Mx) (x : O) (H : Hp) (D : Ends) : Prop := match x with
  | .nx σd' => ∀ σ' H', Ext H H' → Mt M σd' σ' H' → D.nx σ' H'
  | .ret d σd' => ∀ v σ' H', Ext H H' → Rep M.K H' v d → Mt M σd' σ' H' → D.rt v H'
  | .retF ds σd' => ∀ p xs σ' H', Ext H H' → H' p = some (.lst xs) → RepAll M.K H' xs ds → Mt M σd' σ' H' → Fresh M σd' σ' p → D.rt (.ref p) H'
  | .brk σd' => ∀ σ' H', Ext H H' → Mt M σd' σ' H' → D.bk σ' H'
  | .cnt σd' => ∀ σ' H', Ext H H' → Mt M σd' σ' H' → D.ct σ' H'
  | .exc c σd' => M.W c σd'
  | .bad => False
theorem wpO_ext {M : Mx} {x : O} {H H' : Hp} {D : Ends} (e : Ext H H') (h : wpO M x H D) : wpO M x H' D := by
  cases x with
  | nx σ => exact fun σ' H2 e2 m => h σ' H2 (e.trans e2) m
  | ret d σ => exact fun v σ' H2 e2 r m => h v σ' H2 (e.trans e2) r m
  | retF ds σ => exact fun p xs σ' H2 e2 h1 h2 m fr => h p xs σ' H2 (e.trans e2) h1 h2 m fr
  | brk σ => exact fun σ' H2 e2 m => h σ' H2 (e.trans e2) m
  | cnt σ => exact fun σ' H2 e2 m => h σ' H2 (e.trans e2) m
  | exc c σ => exact h
  | bad => exact h
def tS (M : Mx) (f : DEnv → O) : TS := fun D σ H => ∃ σd, Mt M σd σ H ∧ wpO M (f σd) H D
abbrev SS (X : Cx) (M : Mx) (st : Stmt) (f : DEnv → O) : Prop := PS X st (tS M f)
abbrev SSs (X : Cx) (M : Mx) (st : List Stmt) (f : DEnv → O) : Prop := PSs X st (tS M f)
end PL
set_option Elab.async false
set_option linter.all false
set_option maxRecDepth 100000
set_option autoImplicit false
/-! Operators by values, over data. -/
namespace PL
open PySem PySem.Spec PyProof.Rows L2

/-- an operator on two values keeps to r on the data -/
def rD (K : PySem.W.Frag) (r : D → D → Option D) : R2 := fun x y H Q => ∃ d e z, Rep K H x d ∧ Rep K H y e ∧ r d e = some z ∧ ∀ v H', Same H H' → Rep K H' v z → Q v H'
abbrev OpD (X : Cx) (f : Value → Value → Sem Value) (r : D → D → Option D) : Prop := OpR X f (rD X.K r)
def rU (K : PySem.W.Frag) (r : D → Option D) : V → Hp → VK → Prop := fun x H Q => ∃ d z, Rep K H x d ∧ r d = some z ∧ ∀ v H', Same H H' → Rep K H' v z → Q v H'
def rC (K : PySem.W.Frag) (r : List D → Option D) : List V → Hp → VK → Prop := fun xs H Q => ∃ ds z, RepAll K H xs ds ∧ r ds = some z ∧ ∀ v H', Same H H' → Rep K H' v z → Q v H'

section
variable {X : Cx}
theorem OpR.weak {f : Value → Value → Sem Value} {r r' : R2} (h : OpR X f r) (k : ∀ x y H Q, r' x y H Q → r x y H Q) : OpR X f r' := fun pins s σ H x y v u Q I rx ry q => h pins s σ H x y v u Q I rx ry (k _ _ _ _ q)
theorem CallR.weak {f : Value} {r r' : List V → Hp → VK → Prop} (h : CallR X f r) (k : ∀ xs H Q, r' xs H Q → r xs H Q) : CallR X f r' := fun pins s σ H xs us Q I rx q => h pins s σ H xs us Q I rx (k _ _ _ q)
/-- a new list may be locked at once -/
theorem lock_new {pins : List (Addr × Obj)} {σ : L2.St} {Q : VK} {u : Value} {s : Shared} (K : PySem.W.Frag) {H0 : Hp} {ds : List D}
    (h : EP X pins σ (fun v H => ∃ p xs H1, v = .ref p ∧ Same H0 H1 ∧ H1 p = none ∧ H = upd H1 p (.lst xs) ∧ RepAll K H1 xs ds) u s) (q : ∀ v H', Same H0 H' → Rep K H' v (.list ds) → Q v H') : EP X pins σ Q u s := by
  obtain ⟨v, H, I, rv, p, xs, H1, rfl, sm, hp, rfl, ra⟩ := h
  obtain ⟨od, I2⟩ := I.lock (d := p) (u := .lst xs) upd_same trivial
  rw [upd_upd] at I2
  have s2 : Same H1 (upd H1 p (.frz od (.lst xs))) := same_upd hp
  exact ⟨.ref p, _, I2, rv, q _ _ (sm.trans s2) (.lst (.inl ⟨od, upd_same⟩) (ra.ext (Ext.same s2)))⟩

theorem lenT {K : PySem.W.Frag} {H : Hp} {xs : List V} {ds : List D} (r : RepAll K H xs ds) : xs.length = ds.length := r.length

/-! ### + - * // % ** ^ >> << & -/
def dAdd : D → D → Option D
  | .int a, .int b => some (.int (a + b))
  | .str a, .str b => if a.length + b.length ≤ sizeLine then some (.str (a ++ b)) else none
  | .tuple a, .tuple b => if a.length + b.length ≤ sizeLine then some (.tuple (a ++ b)) else none
  | .list a, .list b => if a.length + b.length ≤ sizeLine then some (.list (a ++ b)) else none
  | _, _ => none
theorem cat_lists {pins : List (Addr × Obj)} {σ : L2.St} {H : Hp} {s : Shared} {l b : Addr} {xs zs : List V} {Q : VK} (I : Inv X pins σ H s) (hl : SqL X.K H l xs) (hb : SqL X.K H b zs) (hz : xs.length + zs.length ≤ sizeLine)
    (q : ∀ p, H p = none → Q (.ref p) (upd H p (.lst (xs ++ zs)))) : wpAny (model X.prog X.w) X.A (binaryOp .Add (.ref l) (.ref b)) (EP X pins σ Q) X.xe s := by
  obtain ⟨its, r, pl, hz1⟩ := I.list hl
  obtain ⟨its2, r2, pl2, hz2⟩ := I.list hb
  obtain ⟨⟨cls, dd, data, sl⟩, ho, hc, n, hd⟩ := id pl.isList
  obtain ⟨⟨cls2, dd2, data2, sl2⟩, ho2, hc2, n2, hd2⟩ := id pl2.isList
  simp only at hc hd hc2 hd2
  subst hc hd hc2 hd2
  have e : its.toArray ++ its2.toArray = (its ++ its2).toArray := by simp
  have hle := r.length
  have hle2 := r2.length
  refine concat_meets ⟨_, ho, rfl⟩ ⟨_, ho2, rfl⟩ noFill_list_add seq_list_add PySem.F.slot_list_add PySem.F.entry_list_add (PySem.F.args_list_add_2 _ _) (list_addW l b its.toArray its2.toArray n n2 dd dd2 sl sl2 (by simp; omega)) ⟨ho, ho2, ?_⟩
  rw [e]
  exact ⟨.ref _, _, I.lnew (t' := s.toks) (r.append r2) (by rw [List.length_append]; omega), rfl, q _ I.fresh⟩
theorem od_add : OpD X (binaryOp .Add) dAdd := by
  intro pins s σ H x y v u Q I rx ry h
  obtain ⟨d, e, z, h1, h2, hz, q⟩ := h
  cases h1 with
  | int i =>
    cases h2 with
    | int j =>
      cases hz
      exact op_add pins s σ H _ _ v u Q I rx ry ⟨i, j, rfl, rfl, q _ _ (Same.refl _) (.int _)⟩
    | _ => cases hz
  | str a =>
    cases h2 with
    | str b =>
      simp only [dAdd] at hz
      split at hz
      · cases hz
        exact op_add_str pins s σ H _ _ v u Q I rx ry ⟨a, b, rfl, rfl, by assumption, q _ _ (Same.refl _) (.str _)⟩
      · cases hz
    | _ => cases hz
  | @tup a xs ds g1 g2 =>
    cases h2 with
    | @tup b ys es g3 g4 =>
      simp only [dAdd] at hz
      split at hz
      · rename_i hlen
        cases hz
        have l1 := g2.length
        have l2 := g4.length
        refine op_catA pins s σ H _ _ v u Q I rx ry ⟨a, b, xs, ys, rfl, rfl, g1, g3, by omega, fun e => ?_, fun _ e => ?_, fun _ _ p hp => ?_⟩
        · subst e
          cases g2
          exact q _ _ (Same.refl _) (.tup g3 g4)
        · subst e
          cases g4
          rw [List.append_nil] at q
          exact q _ _ (Same.refl _) (.tup g1 g2)
        · have sm : Same H (upd H p (.tup (xs ++ ys))) := same_upd hp
          exact q _ _ sm (.tup (SqT.of upd_same) ((g2.app g4).ext (Ext.same sm)))
      · cases hz
    | _ => cases hz
  | @lst a xs ds g1 g2 =>
    cases h2 with
    | @lst b ys es g3 g4 =>
      simp only [dAdd] at hz
      split at hz
      · rename_i hlen
        cases hz
        have l1 := g2.length
        have l2 := g4.length
        cases rx
        cases ry
        refine thn (cat_lists (Q := fun v H' => ∃ p xs' H1, v = .ref p ∧ Same H H1 ∧ H1 p = none ∧ H' = upd H1 p (.lst xs') ∧ RepAll X.K H1 xs' (ds ++ es)) I g1.sq g3.sq (by omega) fun p hp => ⟨p, _, H, rfl, Same.refl _, hp, rfl, g2.app g4⟩) fun w s' hw => lock_new X.K hw q
      · cases hz
    | _ => cases hz
  | _ => cases hz

/-- two ints -/
def dII (C : Int → Int → Bool) (g : Int → Int → D) : D → D → Option D
  | .int a, .int b => if C a b = true then some (g a b) else none
  | _, _ => none
theorem od_int {f : Value → Value → Sem Value} {C : Int → Int → Bool} {C' : Int → Int → Prop} {g : Int → Int → V} {g' : Int → Int → D} (h : OpR X f (rI C' g)) (hc : ∀ i j, C i j = true → C' i j) (hg : ∀ K H i j, Rep K H (g i j) (g' i j)) : OpD X f (dII C g') :=
  OpR.weak h fun x y H Q ⟨d, e, z, h1, h2, hz, q⟩ => by
    cases h1 with
    | int i =>
      cases h2 with
      | int j =>
        simp only [dII] at hz
        split at hz
        · rename_i hcc
          cases hz
          exact ⟨i, j, rfl, rfl, hc _ _ hcc, q _ _ (Same.refl _) (hg _ _ _ _)⟩
        · cases hz
      | _ => cases hz
    | _ => cases hz
theorem od_int0 {f : Value → Value → Sem Value} {g : Int → Int → V} {g' : Int → Int → D} (h : OpR X f (rI0 g)) (hg : ∀ K H i j, Rep K H (g i j) (g' i j)) : OpD X f (dII (fun _ _ => true) g') :=
  OpR.weak h fun x y H Q ⟨d, e, z, h1, h2, hz, q⟩ => by
    cases h1 with
    | int i =>
      cases h2 with
      | int j =>
        cases hz
        exact ⟨i, j, rfl, rfl, q _ _ (Same.refl _) (hg _ _ _ _)⟩
      | _ => cases hz
    | _ => cases hz
def cMul (i j : Int) : Bool := decide (i.natAbs.log2 + j.natAbs.log2 < 1000000)
def cDiv (_ j : Int) : Bool := decide (0 < j) && decide (j.natAbs.log2 < 9000)
@[simp] def cMod (_ j : Int) : Bool := decide (0 < j)
def cPow (i j : Int) : Bool := decide (0 ≤ j) && decide (j ≤ 1000000) && decide (i.natAbs < 2 ^ 64)
abbrev dSub : D → D → Option D := dII (fun _ _ => true) fun a b => .int (a - b)
abbrev dDiv : D → D → Option D := dII cDiv fun a b => .int (a / b)
abbrev dMod : D → D → Option D := dII cMod fun a b => .int (a % b)
abbrev dPow : D → D → Option D := dII cPow fun a b => .int (a ^ b.toNat)
abbrev dShl : D → D → Option D := dII cPow fun a b => .int (a * 2 ^ b.toNat)
abbrev dShr : D → D → Option D := dII (fun _ b => decide (0 ≤ b)) fun a b => .int (a / 2 ^ b.toNat)
abbrev dXor : D → D → Option D := dII (fun _ _ => true) fun a b => .int (Builtin.bitXor a b)
abbrev dAnd : D → D → Option D := dII (fun _ _ => true) fun a b => .int (Builtin.bitAnd a b)
theorem od_sub : OpD X (binaryOp .Sub) dSub := od_int0 op_sub fun _ _ _ _ => .int _
theorem od_div : OpD X (binaryOp .FloorDiv) dDiv := od_int op_fdivW (fun i j h => by simp only [cDiv, Bool.and_eq_true, decide_eq_true_eq] at h; exact h) fun _ _ _ _ => .int _
theorem od_mod : OpD X (binaryOp .Mod) dMod := od_int op_mod (fun i j h => by simpa [cMod] using h) fun _ _ _ _ => .int _
theorem od_pow : OpD X (binaryOp .Pow) dPow := od_int op_pow (fun i j h => by simp only [cPow, Bool.and_eq_true, decide_eq_true_eq] at h; exact ⟨h.1.1, h.1.2, h.2⟩) fun _ _ _ _ => .int _
theorem od_shl : OpD X (binaryOp .LShift) dShl := od_int op_shl (fun i j h => by simp only [cPow, Bool.and_eq_true, decide_eq_true_eq] at h; exact ⟨h.1.1, h.1.2, h.2⟩) fun _ _ _ _ => .int _
theorem od_shr : OpD X (binaryOp .RShift) dShr := od_int op_shr (fun i j h => by simpa using h) fun _ _ _ _ => .int _
theorem od_xor : OpD X (binaryOp .BitXor) dXor := od_int0 op_xor fun _ _ _ _ => .int _
theorem od_and : OpD X (binaryOp .BitAnd) dAnd := od_int0 op_and fun _ _ _ _ => .int _
/-- int * int, tuple * int (twice and more) -/
def dMul : D → D → Option D
  | .int a, .int b => if cMul a b = true then some (.int (a * b)) else none
  | .tuple xs, .int k => if 2 ≤ k ∧ k ≤ 1000 ∧ 1 ≤ xs.length ∧ xs.length ≤ 1000 then some (.tuple (List.replicate k.toNat xs).flatten) else none
  | _, _ => none
theorem RepAll.rep {K : PySem.W.Frag} {H : Hp} {xs : List V} {ds : List D} (r : RepAll K H xs ds) : ∀ n : Nat, RepAll K H (List.replicate n xs).flatten (List.replicate n ds).flatten
  | 0 => .nil
  | n + 1 => by
    rw [List.replicate_succ, List.replicate_succ, List.flatten_cons, List.flatten_cons]
    exact r.app (r.rep n)
theorem od_mul : OpD X (binaryOp .Mult) dMul := by
  intro pins s σ H x y v u Q I rx ry h
  obtain ⟨d, e, z, h1, h2, hz, q⟩ := h
  cases h1 with
  | int i =>
    cases h2 with
    | int j =>
      simp only [dMul] at hz
      split at hz
      · rename_i hc
        cases hz
        exact op_mulW pins s σ H _ _ v u Q I rx ry ⟨i, j, rfl, rfl, (of_decide_eq_true hc : i.natAbs.log2 + j.natAbs.log2 < 1000000), q _ _ (Same.refl _) (.int _)⟩
      · cases hz
    | _ => cases hz
  | @tup a xs ds g1 g2 =>
    cases h2 with
    | int k =>
      simp only [dMul] at hz
      split at hz
      · rename_i hc
        cases hz
        have l1 := g2.length
        refine op_repT pins s σ H _ _ v u Q I rx ry ⟨a, k, xs, rfl, rfl, g1, (fun e => by rw [e] at l1; simp at l1; omega), hc.1, hc.2.1, by omega, fun p hp => ?_⟩
        have sm : Same H (upd H p (.tup (List.replicate k.toNat xs).flatten)) := same_upd hp
        exact q _ _ sm (.tup (SqT.of upd_same) ((g2.rep _).ext (Ext.same sm)))
      · cases hz
    | _ => cases hz
  | _ => cases hz

/-! ### comparisons -/
theorem od_lt : OpD X (compareOp .Lt) (dII (fun _ _ => true) fun a b => .bool (decide (a < b))) := od_int0 op_lt fun _ _ _ _ => .bl _
abbrev dLeI : D → D → Option D := dII (fun _ _ => true) fun a b => .bool (decide (a ≤ b))
abbrev dGtI : D → D → Option D := dII (fun _ _ => true) fun a b => .bool (decide (b < a))
abbrev dGeI : D → D → Option D := dII (fun _ _ => true) fun a b => .bool (decide (b ≤ a))
theorem od_leI : OpD X (compareOp .LtE) dLeI := od_int0 op_le fun _ _ _ _ => .bl _
theorem od_gtI : OpD X (compareOp .Gt) dGtI := od_int0 op_gt fun _ _ _ _ => .bl _
theorem od_geI : OpD X (compareOp .GtE) dGeI := od_int0 op_ge fun _ _ _ _ => .bl _
def dEq (d e : D) : Option D := if SeqAt.shaped d = true ∧ SeqAt.shaped e = true then some (.bool (PyData.eqv d e)) else none
def dNe (d e : D) : Option D := if SeqAt.shaped d = true ∧ SeqAt.shaped e = true then some (.bool (!PyData.eqv d e)) else none
theorem od_eq (hu : X.A.units + 64 < cLine) : OpD X (compareOp .Eq) dEq :=
  OpR.weak (op_eqD hu) fun x y H Q ⟨d, e, z, h1, h2, hz, q⟩ => by
    simp only [dEq] at hz
    split at hz
    · rename_i h
      cases hz
      exact ⟨d, e, h1.dp d x, h2.dp e y, h.1, h.2, q _ _ (Same.refl _) (.bl _)⟩
    · cases hz
theorem od_ne (hu : X.A.units + 64 < cLine) : OpD X (compareOp .NotEq) dNe :=
  OpR.weak (op_neD hu) fun x y H Q ⟨d, e, z, h1, h2, hz, q⟩ => by
    simp only [dNe] at hz
    split at hz
    · rename_i h
      cases hz
      exact ⟨d, e, h1.dp d x, h2.dp e y, h.1, h.2, q _ _ (Same.refl _) (.bl _)⟩
    · cases hz
/-- in, not in: lists, tuples -/
def dIn (d e : D) : Option D := match e with
  | .list ds => if SeqAt.shaped d = true ∧ SeqAt.shaped (.list ds) = true then some (.bool (ds.any fun z => PyData.eqv z d)) else none
  | .tuple ds => if SeqAt.shaped d = true ∧ SeqAt.shaped (.tuple ds) = true then some (.bool (ds.any fun z => PyData.eqv z d)) else none
  | _ => none
def dNotIn (d e : D) : Option D := match dIn d e with
  | some (.bool b) => some (.bool (!b))
  | _ => none
theorem od_in (hu : X.A.units + 65 < cLine) : OpD X (compareOp .In) dIn := by
  intro pins s σ H x y v u Q I rx ry h
  obtain ⟨d, e, z, h1, h2, hz, q⟩ := h
  obtain ⟨as, r1⟩ := Dp.reads I d x v (h1.dp d x) rx
  obtain ⟨bs, r2⟩ := Dp.reads I e y u (h2.dp e y) ry
  cases e with
  | list ds =>
    simp only [dIn] at hz
    split at hz
    · rename_i h
      cases hz
      exact SeqAt.in_list_reads r2 r1 (SeqAt.canLay_of_shaped h.2) (SeqAt.canLay_of_shaped h.1) (room_in_shaped h.1 hu) ⟨.bl _, H, I, rfl, q _ _ (Same.refl _) (.bl _)⟩
    · cases hz
  | tuple ds =>
    simp only [dIn] at hz
    split at hz
    · rename_i h
      cases hz
      exact SeqAt.in_tuple_reads r2 r1 (SeqAt.canLay_of_shaped h.2) (SeqAt.canLay_of_shaped h.1) (room_in_shaped h.1 hu) ⟨.bl _, H, I, rfl, q _ _ (Same.refl _) (.bl _)⟩
    · cases hz
  | _ => cases hz
theorem od_notIn (hu : X.A.units + 65 < cLine) : OpD X (compareOp .NotIn) dNotIn := by
  intro pins s σ H x y v u Q I rx ry h
  obtain ⟨d, e, z, h1, h2, hz, q⟩ := h
  obtain ⟨as, r1⟩ := Dp.reads I d x v (h1.dp d x) rx
  obtain ⟨bs, r2⟩ := Dp.reads I e y u (h2.dp e y) ry
  cases e with
  | list ds =>
    simp only [dNotIn, dIn] at hz
    split at hz
    · rename_i b hb
      split at hb
      · rename_i h
        cases hb
        cases hz
        exact SeqAt.notIn_list_reads r2 r1 (SeqAt.canLay_of_shaped h.2) (SeqAt.canLay_of_shaped h.1) (room_in_shaped h.1 hu) ⟨.bl _, H, I, rfl, q _ _ (Same.refl _) (.bl _)⟩
      · cases hb
    · cases hz
  | tuple ds =>
    simp only [dNotIn, dIn] at hz
    split at hz
    · rename_i b hb
      split at hb
      · rename_i h
        cases hb
        cases hz
        exact SeqAt.notIn_tuple_reads r2 r1 (SeqAt.canLay_of_shaped h.2) (SeqAt.canLay_of_shaped h.1) (room_in_shaped h.1 hu) ⟨.bl _, H, I, rfl, q _ _ (Same.refl _) (.bl _)⟩
      · cases hb
    · cases hz
  | _ => cases hz
/-- is, is not: None, truth values -/
def dIs (d e : D) : Option D := match d, e with
  | .none, .none => some (.bool true)
  | _, .none => some (.bool false)
  | .bool a, .bool b => some (.bool (decide (a = b)))
  | _, _ => none
theorem od_is : OpD X (compareOp .Is) dIs := by
  intro pins s σ H x y v u Q I rx ry h
  obtain ⟨d, e, z, h1, h2, hz, q⟩ := h
  cases h2 with
  | non =>
    refine op_isN pins s σ H _ _ v u Q I rx ry ⟨rfl, ?_⟩
    cases h1 <;> (cases hz; exact q _ _ (Same.refl _) (.bl _))
  | bl b =>
    cases h1 with
    | bl a => cases hz; exact op_isBl pins s σ H _ _ v u Q I rx ry ⟨a, b, rfl, rfl, q _ _ (Same.refl _) (.bl _)⟩
    | _ => cases hz
  | _ => cases h1 <;> cases hz
def dIsNot (d e : D) : Option D := match dIs d e with
  | some (.bool b) => some (.bool (!b))
  | _ => none
theorem od_isNot : OpD X (compareOp .IsNot) dIsNot := by
  intro pins s σ H x y v u Q I rx ry h
  obtain ⟨d, e, z, h1, h2, hz, q⟩ := h
  cases h2 with
  | non =>
    refine op_notN pins s σ H _ _ v u Q I rx ry ⟨rfl, ?_⟩
    cases h1 <;> (cases hz; exact q _ _ (Same.refl _) (.bl _))
  | bl b =>
    cases h1 with
    | bl a => cases hz; exact op_notBl pins s σ H _ _ v u Q I rx ry ⟨a, b, rfl, rfl, q _ _ (Same.refl _) (.bl _)⟩
    | _ => cases hz
  | _ => cases h1 <;> cases hz
/-- tuples of ints, texts: < -/
def ints? : List D → Option (List Int)
  | [] => some []
  | .int i :: r => (ints? r).map (i :: ·)
  | _ :: _ => none
theorem ints?_rep {K : PySem.W.Frag} {H : Hp} : ∀ {ds : List D} {xs : List V} {ns : List Int}, ints? ds = some ns → RepAll K H xs ds → xs = ns.map V.int
  | [], _, _, h, r => by cases h; cases r; rfl
  | .int i :: ds, _, _, h, r => by
    simp only [ints?, Option.map_eq_some_iff] at h
    obtain ⟨ms, h1, rfl⟩ := h
    cases r with
    | cons q r => cases q; rw [List.map_cons, ints?_rep h1 r]
  | .none :: _, _, _, h, _ => by cases h
  | .bool _ :: _, _, _, h, _ => by cases h
  | .str _ :: _, _, _, h, _ => by cases h
  | .list _ :: _, _, _, h, _ => by cases h
  | .tuple _ :: _, _, _, h, _ => by cases h
  | .dict _ :: _, _, _, h, _ => by cases h
def dLt (d e : D) : Option D := match d, e with
  | .int a, .int b => some (.bool (decide (a < b)))
  | .str a, .str b => some (.bool (decide (a.cps.toList < b.cps.toList)))
  | .tuple a, .tuple b => match ints? a, ints? b with
    | some ns, some ms => some (.bool (HT.lexLt ns ms))
    | _, _ => none
  | _, _ => none
theorem od_ltA (hu : X.A.units < cLine) : OpD X (compareOp .Lt) dLt := by
  intro pins s σ H x y v u Q I rx ry h
  obtain ⟨d, e, z, h1, h2, hz, q⟩ := h
  cases h1 with
  | int i =>
    cases h2 with
    | int j => cases hz; exact op_lt pins s σ H _ _ v u Q I rx ry ⟨i, j, rfl, rfl, q _ _ (Same.refl _) (.bl _)⟩
    | _ => cases hz
  | str i =>
    cases h2 with
    | str j => cases hz; exact op_lt_str pins s σ H _ _ v u Q I rx ry ⟨i, j, rfl, rfl, q _ _ (Same.refl _) (.bl _)⟩
    | _ => cases hz
  | @tup a xs ds g1 g2 =>
    cases h2 with
    | @tup b ys es g3 g4 =>
      simp only [dLt] at hz
      split at hz
      · rename_i ns ms e1 e2
        cases hz
        have e3 := ints?_rep e1 g2
        have e4 := ints?_rep e2 g4
        subst e3 e4
        exact op_ltT hu pins s σ H _ _ v u Q I rx ry ⟨a, b, ns, ms, rfl, rfl, g1, g3, q _ _ (Same.refl _) (.bl _)⟩
      · cases hz
    | _ => cases hz
  | _ => cases hz

/-! ### unary -/
def dNeg : D → Option D
  | .int i => some (.int (-i))
  | _ => none
theorem ud_neg : UnR X (unaryOp .USub) (rU X.K dNeg) := by
  intro pins s σ H x v Q I rx h
  obtain ⟨d, z, h1, hz, q⟩ := h
  cases h1 with
  | int i => cases hz; exact un_neg pins s σ H _ v Q I rx ⟨i, rfl, q _ _ (Same.refl _) (.int _)⟩
  | _ => cases hz
end
end PL
set_option Elab.async false
set_option linter.all false
set_option maxRecDepth 100000
set_option autoImplicit false
/-! Expressions over data. -/
namespace PL
open PySem PySem.Spec PyProof.Rows L2

theorem PE.weak {X : Cx} {e : Expr} {t t' : TE} (h : PE X e t) (k : ∀ σ H Q, t' σ H Q → t σ H Q) : PE X e t' := ⟨fun pins s σ H Q I q => h.run pins s σ H Q I (k _ _ _ q)⟩
theorem PT.weak {X : Cx} {e : Expr} {t t' : TT} (h : PT X e t) (k : ∀ σ H Q, t' σ H Q → t σ H Q) : PT X e t' := ⟨fun pins s σ H Q I q => h.run pins s σ H Q I (k _ _ _ q)⟩
theorem PA.weak {X : Cx} {e : List Expr} {t t' : TA} (h : PA X e t) (k : ∀ σ H Q, t' σ H Q → t σ H Q) : PA X e t' := ⟨fun pos pins s σ H Q I q => h.run pos pins s σ H Q I (k _ _ _ q)⟩
theorem PS.weak {X : Cx} {e : Stmt} {t t' : TS} (h : PS X e t) (k : ∀ D σ H, t' D σ H → t D σ H) : PS X e t' := ⟨fun pins s σ H D I q => h.run pins s σ H D I (k _ _ _ q)⟩
theorem PSs.weak {X : Cx} {e : List Stmt} {t t' : TS} (h : PSs X e t) (k : ∀ D σ H, t' D σ H → t D σ H) : PSs X e t' := ⟨fun pins s σ H D I q => h.run pins s σ H D I (k _ _ _ q)⟩

section
variable {X : Cx} {M : Mx}
/-- with the same function -/
theorem SE.eq {e : Expr} {f f' : DEnv → R D} (h : SE X M e f) (k : ∀ σ, f' σ = f σ) : SE X M e f' := by
  rw [show f' = f from funext k]; exact h

/-! ### names and constants -/
/-- a name's datum; its own list is locked for good -/
@[simp] def rdV (i : Nat) : DEnv → R D := fun σ => match σ[i]? with
  | some (.val d) => .ok d σ
  | some (.own ds) => .ok (.list ds) (σ.set i (.val (.list ds)))
  | _ => .bad
theorem getset {α : Type} {l : List α} {i j : Nat} {a b : α} (h : (l.set i a)[j]? = some b) : (i = j ∧ a = b) ∨ (i ≠ j ∧ l[j]? = some b) := by
  by_cases e : i = j
  · subst e
    rw [List.getElem?_set] at h
    simp only [if_true] at h
    split at h
    · exact .inl ⟨rfl, Option.some.inj h⟩
    · cases h
  · rw [List.getElem?_set_ne e] at h
    exact .inr ⟨e, h⟩
/-- the own list at i is locked -/
theorem Mt.lock {σd : DEnv} {σ : L2.St} {H : Hp} {i : Nat} {ds : List D} {p : Addr} {xs : List V} {od : Obj} (m : Mt M σd σ H) (hi : σd[i]? = some (.own ds)) (hp : σ[i]? = some (some (.ref p))) (hH : H p = some (.lst xs)) (ra : RepAll M.K H xs ds) (h0 : M.H0 p = none) (ht : M.tape ≠ some p) :
    Mt M (σd.set i (.val (.list ds))) σ (upd H p (.frz od (.lst xs))) ∧ Rep M.K (upd H p (.frz od (.lst xs))) (.ref p) (.list ds) := by
  have ex : Ext H (upd H p (.frz od (.lst xs))) := Ext.wr hH
  have rp : Rep M.K (upd H p (.frz od (.lst xs))) (.ref p) (.list ds) := .lst (.inl ⟨od, upd_same⟩) (ra.ext ex)
  refine ⟨⟨by rw [List.length_set]; exact m.len, fun j d e => ?_, fun j es e => ?_, fun j es e => ?_, fun j k a b q e1 e2 e3 e4 => ?_, fun b o e1 e2 => ?_, fun P hP => ?_, fun t e => ?_, fun j k a b e1 e2 => ?_⟩, rp⟩
  · rcases getset e with ⟨rfl, e0⟩ | ⟨ne, e⟩
    · cases e0
      exact ⟨_, hp, rp⟩
    · obtain ⟨v, h1, h2⟩ := m.val j d e
      exact ⟨v, h1, h2.ext ex⟩
  · rcases getset e with ⟨rfl, e0⟩ | ⟨ne, e⟩
    · cases e0
    · obtain ⟨q, ys, h1, h2, h3, h4⟩ := m.own j es e
      refine ⟨q, ys, h1, ?_, h3.ext ex, h4⟩
      rw [upd_ne (fun z => ne (by subst z; exact m.dj i j ds es _ hi e hp h1))]
      exact h2
  · rcases getset e with ⟨rfl, e0⟩ | ⟨ne, e⟩
    · cases e0
    · obtain ⟨q, ys, h1, h2, h3, h4⟩ := m.tap j es e
      refine ⟨q, ys, h1, ?_, h3.ext ex, h4⟩
      rw [upd_ne (fun z => ht (by rw [← z]; exact h4))]
      exact h2
  · rcases getset e1 with ⟨rfl, e0⟩ | ⟨_, e1⟩
    · cases e0
    · rcases getset e2 with ⟨rfl, e0⟩ | ⟨_, e2⟩
      · cases e0
      · exact m.dj j k a b q e1 e2 e3 e4
  · rw [upd_ne (fun z => by subst z; rw [h0] at e1; cases e1)]
    exact m.kept b o e1 e2
  · obtain ⟨ps, e, t⟩ := m.tabs P hP
    exact ⟨ps, by rw [upd_ne (ne_of e hH (by intro z; cases z))]; exact e, t⟩
  · obtain ⟨es, q⟩ := m.tape t e
    refine ⟨es, ?_⟩
    rw [List.getElem?_set_ne (fun z => by subst z; rw [hi] at q; cases q)]
    exact q
  · rcases getset e1 with ⟨rfl, e0⟩ | ⟨_, e1⟩
    · cases e0
    · rcases getset e2 with ⟨rfl, e0⟩ | ⟨_, e2⟩
      · cases e0
      · exact m.tapOne j k a b e1 e2
theorem se_var {i : Nat} {x : Str} {pos : Pos} (hN : X.N[i]? = some x) (hv : Vis X.env.scope x) (hd : (x == ("__debug__" : Str)) = false := by decide) (hcd : (x == ("__classdict__" : Str)) = false := by decide) : SE X M (.Name x pos) (rdV i) := by
  have base : PE X (.Name x pos) (tVar i) := pe_var hN hv hd hcd
  refine ⟨fun pins s σ H Q I h => ?_⟩
  obtain ⟨σd, m, q⟩ := h
  unfold rdV at q
  split at q
  · rename_i d e
    obtain ⟨v, h1, h2⟩ := m.val i d e
    exact base.run pins s σ H Q I ⟨v, h1, q v H (Ext.refl H) h2 m⟩
  · rename_i ds e
    obtain ⟨p, xs, h1, h2, h3, h4, h5⟩ := m.own i ds e
    obtain ⟨od, I2⟩ := I.lock h2 trivial
    obtain ⟨m2, rp⟩ := m.lock (od := od) e h1 h2 h3 h4 h5
    exact base.run pins s σ _ Q I2 ⟨.ref p, h1, q _ _ (Ext.wr h2) rp m2⟩
  · exact q.elim
/-- a name's datum, read for the moment -/
@[simp] def rd (i : Nat) (σ : DEnv) : Option D := match σ[i]? with
  | some (.val d) => some d
  | some (.own ds) => some (.list ds)
  | some (.tap ds) => some (.list ds)
  | _ => none
theorem se_const {v : V} {d : D} {e : Expr} (h : PE X e (tC v)) (r : ∀ H, Rep M.K H v d) : SE X M e (fun σ => .ok d σ) :=
  PE.weak h fun σ H Q ⟨σd, m, q⟩ => q v H (Ext.refl H) (r H) m
theorem se_int {i : Int} {j : Nat} {pos : Pos} : SE X M (.Constant (.int i) j pos) (fun σ => .ok (.int i) σ) := se_const pe_int fun _ => .int _
theorem se_bl {b : Bool} {j : Nat} {pos : Pos} : SE X M (.Constant (.bool b) j pos) (fun σ => .ok (.bool b) σ) := se_const pe_bl fun _ => .bl _
theorem se_non {j : Nat} {pos : Pos} : SE X M (.Constant .none j pos) (fun σ => .ok .none σ) := se_const pe_non fun _ => .non
theorem se_str {x : Str} {j : Nat} {pos : Pos} : SE X M (.Constant (.str x) j pos) (fun σ => .ok (.str x) σ) := se_const pe_str fun _ => .str _
/-- a constant of the module -/
theorem se_glob {x : Str} {v : V} {u : Value} {d : D} {pos : Pos} (hg : Gl X x) (hm : X.mg x = some u) (r : RelV v u) (rp : ∀ H, Rep M.K H v d) (hd : (x == ("__debug__" : Str)) = false := by decide) : SE X M (.Name x pos) (fun σ => .ok d σ) := se_const (pe_glob hg hm r hd) rp

/-! ### operators -/
@[simp] def bin (r : D → D → Option D) (f g : DEnv → R D) : DEnv → R D := fun σ => (f σ).bind fun d σ1 => (g σ1).bind fun e σ2 => lift (r d e) σ2
theorem tOp_of {K : PySem.W.Frag} {r : D → D → Option D} {f g : DEnv → R D} {σ : L2.St} {H : Hp} {Q : VK} (hK : K = M.K) (h : tE M (bin r f g) σ H Q) : tOp (rD K r) (tE M f) (tE M g) σ H Q := by
  subst hK
  obtain ⟨σd, m, q⟩ := h
  refine ⟨σd, m, ?_⟩
  refine wpR_mono (wpR_bind.mp q) fun d σ1 q1 v H1 e1 r1 m1 => ⟨σ1, m1, ?_⟩
  refine wpR_mono (wpR_bind.mp q1) fun e σ2 q2 w H2 e2 r2 m2 => ?_
  obtain ⟨z, hz, q3⟩ := wpR_lift.mp q2
  exact ⟨d, e, z, r1.ext e2, r2, hz, fun u H3 s3 r3 => q3 u H3 (e1.trans (e2.trans (Ext.same s3))) r3 (m2.same s3)⟩
variable {a b c : Expr} {f g k : DEnv → R D} {pos : Pos}
theorem se_op {op : Operator} {r : D → D → Option D} (hK : X.K = M.K) (ho : OpD X (binaryOp op) r) (ha : SE X M a f) (hb : SE X M b g) : SE X M (.BinOp a op b pos) (bin r f g) :=
  PE.weak (pe_op ho ha hb) fun σ H Q h => tOp_of hK h
theorem se_cmp {op : CmpOp} {r : D → D → Option D} (hK : X.K = M.K) (ho : OpD X (compareOp op) r) (ha : SE X M a f) (hb : SE X M b g) (hm : behindInMarks op b = false) : SE X M (.Compare a [op] [b] pos) (bin r f g) :=
  PE.weak (pe_cmpR ho ha hb hm) fun σ H Q h => tOp_of hK h
/-- a truth value -/
@[simp] def toB (x : R D) : R Bool := x.bind fun d σ => match d with
  | .bool b => .ok b σ
  | _ => .bad
theorem tB_of {t : TE} {F : DEnv → R D} {σ : L2.St} {H : Hp} {Q : Bool → Hp → Prop} (ht : ∀ σ H Q, tE M F σ H Q → t σ H Q) (h : tT M (fun σ => toB (F σ)) σ H Q) : t σ H fun x H1 => ∃ c, x = .bl c ∧ Q c H1 := by
  obtain ⟨σd, m, q⟩ := h
  refine ht _ _ _ ⟨σd, m, wpR_mono (wpR_bind.mp q) fun d σ1 q1 v H1 e1 r1 m1 => ?_⟩
  cases r1 with
  | bl c => exact ⟨c, rfl, q1 H1 e1 m1⟩
  | _ => exact q1.elim
theorem st_cmp {op : CmpOp} {r : D → D → Option D} (hK : X.K = M.K) (ho : OpD X (compareOp op) r) (ha : SE X M a f) (hb : SE X M b g) (hm : behindInMarks op b = false) : ST X M (.Compare a [op] [b] pos) (fun σ => toB (bin r f g σ)) :=
  PT.weak (pt_cmpR ho ha hb hm) fun σ H Q h => tB_of (fun _ _ _ z => tOp_of hK z) h
theorem st_val (ha : SE X M a f) (he : ∀ whole, isTrue a X.env whole = (do let v ← whole; standAt a.pos; holding [v] (truthy v)) := by intro _; rfl) : ST X M a (fun σ => toB (f σ)) :=
  PT.weak (pt_val ha he) fun σ H Q h => tB_of (fun _ _ _ z => z) h
/-- a op b op c -/
@[simp] def chn (r r' : D → D → Option D) (f g k : DEnv → R D) : DEnv → R D := fun σ => (f σ).bind fun d σ1 => (g σ1).bind fun e σ2 => (lift (r d e) σ2).bind fun z σ3 => match z with
  | .bool true => (k σ3).bind fun y σ4 => lift (r' e y) σ4
  | .bool false => .ok (.bool false) σ3
  | _ => .bad
theorem tChain_of {K : PySem.W.Frag} {r r' : D → D → Option D} {σ : L2.St} {H : Hp} {Q : VK} (hK : K = M.K) (h : tE M (chn r r' f g k) σ H Q) : tChain (rD K r) (rD K r') (tE M f) (tE M g) (tE M k) σ H Q := by
  subst hK
  obtain ⟨σd, m, q⟩ := h
  refine ⟨σd, m, ?_⟩
  refine wpR_mono (wpR_bind.mp q) fun d σ1 q1 v H1 e1 r1 m1 => ⟨σ1, m1, ?_⟩
  refine wpR_mono (wpR_bind.mp q1) fun e σ2 q2 w H2 e2 r2 m2 => ?_
  obtain ⟨z, hz, q3⟩ := wpR_lift.mp (wpR_bind.mp q2)
  refine ⟨d, e, z, r1.ext e2, r2, hz, fun u H3 s3 r3 => ?_⟩
  cases r3 with
  | bl c =>
    refine ⟨c, rfl, ?_⟩
    cases c with
    | true =>
      rw [if_pos rfl]
      refine ⟨σ2, m2.same s3, ?_⟩
      refine wpR_mono (wpR_bind.mp q3) fun y σ4 q4 t H4 e4 r4 m4 => ?_
      obtain ⟨z', hz', q5⟩ := wpR_lift.mp q4
      exact ⟨e, y, z', r2.ext ((Ext.same s3).trans e4), r4, hz', fun u H5 s5 r5 => q5 u H5 (e1.trans (e2.trans ((Ext.same s3).trans (e4.trans (Ext.same s5))))) r5 (m4.same s5)⟩
    | false =>
      rw [if_neg Bool.false_ne_true]
      exact q3 _ H3 (e1.trans (e2.trans (Ext.same s3))) (.bl false) (m2.same s3)
  | _ => exact q3.elim
theorem se_chain {op op' : CmpOp} {r r' : D → D → Option D} (hK : X.K = M.K) (ho : OpD X (compareOp op) r) (ho' : OpD X (compareOp op') r') (ha : SE X M a f) (hb : SE X M b g) (hc : SE X M c k) (hlm : lastMarks [op, op'] [b, c] = false := by rfl) : SE X M (.Compare a [op, op'] [b, c] pos) (chn r r' f g k) :=
  PE.weak (pe_chain ho ho' ha hb hc hlm) fun σ H Q h => tChain_of hK h
theorem st_chain {op op' : CmpOp} {r r' : D → D → Option D} (hK : X.K = M.K) (ho : OpD X (compareOp op) r) (ho' : OpD X (compareOp op') r') (ha : SE X M a f) (hb : SE X M b g) (hc : SE X M c k) (hlm : lastMarks [op, op'] [b, c] = false := by rfl) : ST X M (.Compare a [op, op'] [b, c] pos) (fun σ => toB (chn r r' f g k σ)) :=
  PT.weak (pt_chain ho ho' ha hb hc hlm) fun σ H Q h => tB_of (fun _ _ _ z => tChain_of hK z) h
@[simp] def un (r : D → Option D) (f : DEnv → R D) : DEnv → R D := fun σ => (f σ).bind fun d σ1 => lift (r d) σ1
theorem se_un {op : UnaryOp} {r : D → Option D} (hK : X.K = M.K) (ho : UnR X (unaryOp op) (rU X.K r)) (ha : SE X M a f) : SE X M (.UnaryOp op a pos) (un r f) :=
  PE.weak (pe_un ho ha) fun σ H Q ⟨σd, m, q⟩ => ⟨σd, m, wpR_mono (wpR_bind.mp q) fun d σ1 q1 v H1 e1 r1 m1 => by
    obtain ⟨z, hz, q2⟩ := wpR_lift.mp q1
    exact ⟨d, z, by rw [hK]; exact r1, hz, fun u H2 s2 r2 => q2 u H2 (e1.trans (Ext.same s2)) (by rw [← hK]; exact r2) (m1.same s2)⟩⟩

/-! ### and, or, not, if -/
variable {tf tg : DEnv → R Bool} {rest : List Expr}
/-- a test whatever its whole is -/
abbrev SW (X : Cx) (M : Mx) (e : Expr) (f : DEnv → R Bool) : Prop := PW X e (tT M f)
@[simp] def bAnd (f g : DEnv → R Bool) : DEnv → R Bool := fun σ => (f σ).bind fun c σ1 => if c = true then g σ1 else .ok false σ1
@[simp] def bOr (f g : DEnv → R Bool) : DEnv → R Bool := fun σ => (f σ).bind fun c σ1 => if c = true then .ok true σ1 else g σ1
theorem PW.weak {X : Cx} {e : Expr} {t t' : TT} (h : PW X e t) (k : ∀ σ H Q, t' σ H Q → t σ H Q) : PW X e t' := ⟨fun whole pins s σ H Q I q => h.run whole pins s σ H Q I (k _ _ _ q)⟩
theorem sw_one (ha : ST X M a tf) : SW X M (.BoolOp .And [a] pos) tf := pw_and1 ha
theorem sw_oneO (ha : ST X M a tf) : SW X M (.BoolOp .Or [a] pos) tf := pw_or1 ha
theorem sw_and (ha : ST X M a tf) (hb : SW X M (.BoolOp .And (b :: rest) pos) tg) : SW X M (.BoolOp .And (a :: b :: rest) pos) (bAnd tf tg) :=
  PW.weak (pw_and ha hb) fun σ H Q ⟨σd, m, q⟩ => ⟨σd, m, wpR_mono (wpR_bind.mp q) fun d σ1 q1 H1 e1 m1 => by
    cases d with
    | true => exact iteT ⟨σ1, m1, wpR_mono q1 fun _ _ q2 H2 e2 m2 => q2 H2 (e1.trans e2) m2⟩
    | false => exact iteF (q1 H1 e1 m1)⟩
theorem sw_or (ha : ST X M a tf) (hb : SW X M (.BoolOp .Or (b :: rest) pos) tg) : SW X M (.BoolOp .Or (a :: b :: rest) pos) (bOr tf tg) :=
  PW.weak (pw_or ha hb) fun σ H Q ⟨σd, m, q⟩ => ⟨σd, m, wpR_mono (wpR_bind.mp q) fun d σ1 q1 H1 e1 m1 => by
    cases d with
    | true => exact iteT (q1 H1 e1 m1)
    | false => exact iteF ⟨σ1, m1, wpR_mono q1 fun _ _ q2 H2 e2 m2 => q2 H2 (e1.trans e2) m2⟩⟩
theorem st_w {e : Expr} (h : SW X M e tf) : ST X M e tf := h.pt
@[simp] def bNot (f : DEnv → R Bool) : DEnv → R Bool := fun σ => (f σ).bind fun c σ1 => .ok (!c) σ1
theorem st_not (ha : ST X M a tf) : ST X M (.UnaryOp .Not a pos) (bNot tf) :=
  PT.weak (pt_not ha) fun σ H Q ⟨σd, m, q⟩ => ⟨σd, m, wpR_mono (wpR_bind.mp q) fun d σ1 q1 => q1⟩
/-- as values -/
@[simp] def vAnd (f g : DEnv → R D) : DEnv → R D := fun σ => (f σ).bind fun d σ1 => match d with
  | .bool true => g σ1
  | .bool false => .ok (.bool false) σ1
  | _ => .bad
@[simp] def vOr (f g : DEnv → R D) : DEnv → R D := fun σ => (f σ).bind fun d σ1 => match d with
  | .bool true => .ok (.bool true) σ1
  | .bool false => g σ1
  | _ => .bad
@[simp] def vNot (f : DEnv → R D) : DEnv → R D := fun σ => (f σ).bind fun d σ1 => match d with
  | .bool c => .ok (.bool (!c)) σ1
  | _ => .bad
theorem se_one {op : BoolOp} (h : SE X M a f) : SE X M (.BoolOp op [a] pos) f := pe_one h
theorem se_and (ha : SE X M a f) (hb : SE X M (.BoolOp .And (b :: rest) pos) g) : SE X M (.BoolOp .And (a :: b :: rest) pos) (vAnd f g) :=
  PE.weak (pe_and ha hb) fun σ H Q ⟨σd, m, q⟩ => ⟨σd, m, wpR_mono (wpR_bind.mp q) fun d σ1 q1 v H1 e1 r1 m1 => by
    cases r1 with
    | bl c =>
      refine ⟨c, rfl, ?_⟩
      cases c with
      | true => exact iteT ⟨σ1, m1, wpR_mono q1 fun _ _ q2 w H2 e2 r2 m2 => q2 w H2 (e1.trans e2) r2 m2⟩
      | false => exact iteF (q1 _ H1 e1 (.bl _) m1)
    | _ => exact q1.elim⟩
theorem se_or (ha : SE X M a f) (hb : SE X M (.BoolOp .Or (b :: rest) pos) g) : SE X M (.BoolOp .Or (a :: b :: rest) pos) (vOr f g) :=
  PE.weak (pe_or ha hb) fun σ H Q ⟨σd, m, q⟩ => ⟨σd, m, wpR_mono (wpR_bind.mp q) fun d σ1 q1 v H1 e1 r1 m1 => by
    cases r1 with
    | bl c =>
      refine ⟨c, rfl, ?_⟩
      cases c with
      | true => exact iteT (q1 _ H1 e1 (.bl _) m1)
      | false => exact iteF ⟨σ1, m1, wpR_mono q1 fun _ _ q2 w H2 e2 r2 m2 => q2 w H2 (e1.trans e2) r2 m2⟩
    | _ => exact q1.elim⟩
theorem se_not (ha : SE X M a f) : SE X M (.UnaryOp .Not a pos) (vNot f) :=
  PE.weak (pe_not ha) fun σ H Q ⟨σd, m, q⟩ => ⟨σd, m, wpR_mono (wpR_bind.mp q) fun d σ1 q1 v H1 e1 r1 m1 => by
    cases r1 with
    | bl c => exact ⟨c, rfl, q1 _ H1 e1 (.bl _) m1⟩
    | _ => exact q1.elim⟩
@[simp] def ite' (t : DEnv → R Bool) (f g : DEnv → R D) : DEnv → R D := fun σ => (t σ).bind fun c σ1 => if c = true then f σ1 else g σ1
theorem se_if (hc : ST X M c tf) (ha : SE X M a f) (hb : SE X M b g) : SE X M (.IfExp c a b pos) (ite' tf f g) :=
  PE.weak (pe_ifExp hc ha hb) fun σ H Q ⟨σd, m, q⟩ => ⟨σd, m, wpR_mono (wpR_bind.mp q) fun d σ1 q1 H1 e1 m1 => by
    cases d with
    | true => exact iteT ⟨σ1, m1, wpR_mono q1 fun _ _ q2 w H2 e2 r2 m2 => q2 w H2 (e1.trans e2) r2 m2⟩
    | false => exact iteF ⟨σ1, m1, wpR_mono q1 fun _ _ q2 w H2 e2 r2 m2 => q2 w H2 (e1.trans e2) r2 m2⟩⟩

/-! ### arguments, displays -/
variable {es : List Expr} {fs : DEnv → R (List D)}
@[simp] def nilA : DEnv → R (List D) := fun σ => .ok [] σ
@[simp] def consA (f : DEnv → R D) (fs : DEnv → R (List D)) : DEnv → R (List D) := fun σ => (f σ).bind fun d σ1 => (fs σ1).bind fun ds σ2 => .ok (d :: ds) σ2
theorem sa_nil : SA X M [] nilA := PA.weak pa_nil fun σ H Q ⟨σd, m, q⟩ => q [] H (Ext.refl H) .nil m
theorem sa_cons (ha : SE X M a f) (hr : SA X M es fs) (hs : starEach (a :: es) X.env = (false, eval a X.env) :: starEach es X.env := by rfl) : SA X M (a :: es) (consA f fs) :=
  PA.weak (pa_cons ha hr hs) fun σ H Q ⟨σd, m, q⟩ => ⟨σd, m, wpR_mono (wpR_bind.mp q) fun d σ1 q1 v H1 e1 r1 m1 => ⟨σ1, m1, wpR_mono (wpR_bind.mp q1) fun ds σ2 q2 vs H2 e2 r2 m2 =>
    q2 (v :: vs) H2 (e1.trans e2) (.cons (r1.ext e2) r2) m2⟩⟩
@[simp] def mkT (fs : DEnv → R (List D)) : DEnv → R D := fun σ => (fs σ).bind fun ds σ1 => if ds.length ≤ 1000 then .ok (.tuple ds) σ1 else .bad
theorem size1000 {n : Nat} (h : n ≤ 1000) : n ≤ sizeLine := Nat.le_of_lt (small1000 h)
theorem se_tup {x1 : Nat} (h : SA X M es fs) : SE X M (.Tuple es x1 pos) (mkT fs) :=
  PE.weak (pe_tup h) fun σ H Q ⟨σd, m, q⟩ => ⟨σd, m, wpR_mono (wpR_bind.mp q) fun ds σ1 q1 vs H1 e1 r1 m1 => by
    have hl := r1.length
    by_cases h9 : ds.length ≤ 1000
    · rw [if_pos h9] at q1
      refine ⟨size1000 (by omega), fun p hp => ?_⟩
      have sm : Same H1 (upd H1 p (.tup vs)) := same_upd hp
      exact q1 _ _ (e1.trans (Ext.same sm)) (.tup (SqT.of upd_same) (r1.ext (Ext.same sm))) (m1.same sm)
    · rw [if_neg h9] at q1
      exact q1.elim⟩
@[simp] def chk (fs : DEnv → R (List D)) : DEnv → R (List D) := fun σ => (fs σ).bind fun ds σ1 => if ds.length ≤ 1000 then .ok ds σ1 else .bad
/-- what is new is no list of a name's own -/
theorem Mt.fresh {σd : DEnv} {σ : L2.St} {H : Hp} {p : Addr} (m : Mt M σd σ H) (h : H p = none) : Fresh M σd σ p where
  ent := by
    cases q : M.H0 p with
    | none => rfl
    | some o =>
      by_cases ht : M.tape = some p
      · obtain ⟨ds, e⟩ := m.tape p ht
        obtain ⟨p', xs, _, h2, _, h4⟩ := m.tap 0 ds e
        rw [ht] at h4
        cases h4
        rw [h] at h2
        cases h2
      · rcases m.kept p o q ht with z | ⟨_, _, _, z⟩ <;> (rw [h] at z; cases z)
  tap := fun ht => by
    obtain ⟨ds, e⟩ := m.tape p ht
    obtain ⟨p', xs, _, h2, _, h4⟩ := m.tap 0 ds e
    rw [ht] at h4
    cases h4
    rw [h] at h2
    cases h2
  own := fun i ds e z => by
    obtain ⟨p', xs, h1, h2, _⟩ := m.own i ds e
    rw [z] at h1
    cases h1
    rw [h] at h2
    cases h2
theorem sf_lst (h : SA X M es fs) : SF X M (.List es pos) (chk fs) :=
  PE.weak (pe_lst h) fun σ H Q ⟨σd, m, q⟩ => ⟨σd, m, wpR_mono (wpR_bind.mp q) fun ds σ1 q1 vs H1 e1 r1 m1 => by
    have hl := r1.length
    by_cases h9 : ds.length ≤ 1000
    · rw [if_pos h9] at q1
      refine ⟨size1000 (by omega), fun p hp => ?_⟩
      have sm : Same H1 (upd H1 p (.lst vs)) := same_upd hp
      have fr := m1.fresh hp
      exact q1 p vs _ (e1.trans (Ext.same sm)) upd_same (r1.ext (Ext.same sm)) (m1.same sm) fr
    · rw [if_neg h9] at q1
      exact q1.elim⟩
/-- a fresh list locked -/
theorem Mt.lockF {σd : DEnv} {σ : L2.St} {H : Hp} {p : Addr} {xs : List V} {od : Obj} (m : Mt M σd σ H) (fr : Fresh M σd σ p) (hH : H p = some (.lst xs)) : Mt M σd σ (upd H p (.frz od (.lst xs))) := by
  have ex : Ext H (upd H p (.frz od (.lst xs))) := Ext.wr hH
  refine ⟨m.len, fun j d e => ?_, fun j es e => ?_, fun j es e => ?_, m.dj, fun b o e1 e2 => ?_, fun P hP => ?_, m.tape, m.tapOne⟩
  · obtain ⟨v, h1, h2⟩ := m.val j d e
    exact ⟨v, h1, h2.ext ex⟩
  · obtain ⟨q, ys, h1, h2, h3, h4⟩ := m.own j es e
    refine ⟨q, ys, h1, ?_, h3.ext ex, h4⟩
    rw [upd_ne (fun z => fr.own j es e (by rw [← z]; exact h1))]
    exact h2
  · obtain ⟨q, ys, h1, h2, h3, h4⟩ := m.tap j es e
    refine ⟨q, ys, h1, ?_, h3.ext ex, h4⟩
    rw [upd_ne (fun z => fr.tap (by rw [← z]; exact h4))]
    exact h2
  · rw [upd_ne (fun z => by subst z; rw [fr.ent] at e1; cases e1)]
    exact m.kept b o e1 e2
  · obtain ⟨ps, e, t⟩ := m.tabs P hP
    exact ⟨ps, by rw [upd_ne (ne_of e hH (by intro z; cases z))]; exact e, t⟩
@[simp] def asL (fs : DEnv → R (List D)) : DEnv → R D := fun σ => (fs σ).bind fun ds σ1 => .ok (.list ds) σ1
theorem se_fz {e : Expr} (h : SF X M e fs) : SE X M e (asL fs) := by
  refine ⟨fun pins s σ H Q I hq => ?_⟩
  obtain ⟨σd, m, q⟩ := hq
  refine thn (h.run pins s σ H (fun v H1 => ∃ p xs ds σ1, v = .ref p ∧ Ext H H1 ∧ H1 p = some (.lst xs) ∧ RepAll M.K H1 xs ds ∧ Mt M σ1 σ H1 ∧ Fresh M σ1 σ p ∧ ∀ v H', Ext H H' → Rep M.K H' v (.list ds) → Mt M σ1 σ H' → Q v H') I ⟨σd, m, wpR_mono (wpR_bind.mp q) fun ds σ1 q1 p xs H1 e1 hp ra m1 fr => ⟨p, xs, ds, σ1, rfl, e1, hp, ra, m1, fr, q1⟩⟩) fun u s1 hw => ?_
  obtain ⟨v, H1, I1, rv, p, xs, ds, σ1, rfl, e1, hp, ra, m1, fr, q1⟩ := hw
  obtain ⟨od, I2⟩ := I1.lock hp trivial
  exact ⟨.ref p, _, I2, rv, q1 _ _ (e1.trans (Ext.wr hp)) (.lst (.inl ⟨od, upd_same⟩) (ra.ext (Ext.wr hp))) (m1.lockF fr hp)⟩

/-! ### calls of what is built in, by values -/
@[simp] def callD (r : List D → Option D) (fs : DEnv → R (List D)) : DEnv → R D := fun σ => (fs σ).bind fun ds σ1 => lift (r ds) σ1
theorem tCB_of {K : PySem.W.Frag} {r : List D → Option D} {σ : L2.St} {H : Hp} {Q : VK} (hK : K = M.K) (h : tE M (callD r fs) σ H Q) : tCB (rC K r) (tA M fs) σ H Q := by
  subst hK
  obtain ⟨σd, m, q⟩ := h
  refine ⟨σd, m, wpR_mono (wpR_bind.mp q) fun ds σ1 q1 vs H1 e1 r1 m1 => ?_⟩
  obtain ⟨z, hz, q2⟩ := wpR_lift.mp q1
  exact ⟨ds, z, r1, hz, fun u H2 s2 r2 => q2 u H2 (e1.trans (Ext.same s2)) r2 (m1.same s2)⟩
abbrev CallD (X : Cx) (f : Value) (r : List D → Option D) : Prop := CallR X f (rC X.K r)
variable {e : Expr} {x : Str} {p : Pos} {id T : String} {r : List D → Option D}
theorem se_callB (hK : X.K = M.K) (hc : CallD X (.builtin id) r) (hg : Gl X x) (hm : X.mg x = none) (hv : bootBuiltins x = some (.builtin id)) (ha : SA X M (e :: es) fs) (hn : x ≠ "__name__" := by decide) (hdb : (x == ("__debug__" : Str)) = false := by decide)
    (he : starEach (e :: es) X.env = (false, eval e X.env) :: starEach es X.env := by rfl) (hpl : (backTo pos (starEach es X.env)).any (·.1) = false := by rfl) : SE X M (.Call (.Name x p) (e :: es) [] pos) (callD r fs) :=
  PE.weak (pe_callB hc hg hm hv ha hn hdb he hpl) fun σ H Q h => tCB_of hK h
theorem se_callTy (hK : X.K = M.K) (hc : CallD X (.type T) r) (hg : Gl X x) (hm : X.mg x = none) (hv : bootBuiltins x = some (.type T)) (ha : SA X M (e :: es) fs) (hn : x ≠ "__name__" := by decide) (hdb : (x == ("__debug__" : Str)) = false := by decide)
    (he : starEach (e :: es) X.env = (false, eval e X.env) :: starEach es X.env := by rfl) (hpl : (backTo pos (starEach es X.env)).any (·.1) = false := by rfl) : SE X M (.Call (.Name x p) (e :: es) [] pos) (callD r fs) :=
  PE.weak (pe_callTy hc hg hm hv ha hn hdb he hpl) fun σ H Q h => tCB_of hK h
end
end PL
set_option Elab.async false
set_option linter.all false
set_option maxRecDepth 100000
set_option autoImplicit false
/-! Statements over data. -/
namespace PL
open PySem PySem.Spec PyProof.Rows L2

section
variable {X : Cx} {M : Mx}

/-! ### cells -/
/-- a name gets a datum -/
def setC (i : Nat) (c : Cell) (σ : DEnv) : Option DEnv := match σ[i]? with
  | some (.tap _) => none
  | some _ => some (σ.set i c)
  | none => none
@[simp] def setV (i : Nat) (d : D) : DEnv → O := fun σ => match setC i (.val d) σ with
  | some σ' => .nx σ'
  | none => .bad
theorem setC_spec {i : Nat} {c : Cell} {σ σ' : DEnv} (h : setC i c σ = some σ') : σ' = σ.set i c ∧ i < σ.length ∧ ∀ ds, σ[i]? ≠ some (.tap ds) := by
  unfold setC at h
  split at h
  · cases h
  · rename_i x hn e
    cases h
    refine ⟨rfl, (List.getElem?_eq_some_iff.mp e).1, fun ds q => ?_⟩
    rw [e] at q
    cases q
    exact hn ds rfl
  · cases h
theorem Mt.setVal {σd σd' : DEnv} {σ : L2.St} {H : Hp} {i : Nat} {d : D} {v : V} (m : Mt M σd σ H) (h : setC i (.val d) σd = some σd') (r : Rep M.K H v d) : Mt M σd' (σ.set i (some v)) H := by
  obtain ⟨rfl, hi, hn⟩ := setC_spec h
  have hi' : i < σ.length := by rw [← m.len]; exact hi
  have look : ∀ j, i ≠ j → (σ.set i (some v))[j]? = σ[j]? := fun j ne => List.getElem?_set_ne ne
  refine ⟨by rw [List.length_set, List.length_set]; exact m.len, fun j e q => ?_, fun j es q => ?_, fun j es q => ?_, fun j k a b p q1 q2 q3 q4 => ?_, m.kept, m.tabs, fun t ht => ?_, fun j k a b q1 q2 => ?_⟩
  · rcases getset q with ⟨rfl, e0⟩ | ⟨ne, q⟩
    · cases e0
      exact ⟨v, List.getElem?_set_self hi', r⟩
    · obtain ⟨w, h1, h2⟩ := m.val j e q
      exact ⟨w, by rw [look j ne]; exact h1, h2⟩
  · rcases getset q with ⟨rfl, e0⟩ | ⟨ne, q⟩
    · cases e0
    · obtain ⟨p, xs, h1, h2⟩ := m.own j es q
      exact ⟨p, xs, by rw [look j ne]; exact h1, h2⟩
  · rcases getset q with ⟨rfl, e0⟩ | ⟨ne, q⟩
    · cases e0
    · obtain ⟨p, xs, h1, h2⟩ := m.tap j es q
      exact ⟨p, xs, by rw [look j ne]; exact h1, h2⟩
  · rcases getset q1 with ⟨rfl, e0⟩ | ⟨n1, q1⟩
    · cases e0
    · rcases getset q2 with ⟨rfl, e0⟩ | ⟨n2, q2⟩
      · cases e0
      · rw [look j n1] at q3
        rw [look k n2] at q4
        exact m.dj j k a b p q1 q2 q3 q4
  · obtain ⟨ds, q⟩ := m.tape t ht
    refine ⟨ds, ?_⟩
    rw [List.getElem?_set_ne (fun z => by subst z; exact hn ds q)]
    exact q
  · rcases getset q1 with ⟨rfl, e0⟩ | ⟨_, q1⟩
    · cases e0
    · rcases getset q2 with ⟨rfl, e0⟩ | ⟨_, q2⟩
      · cases e0
      · exact m.tapOne j k a b q1 q2
theorem Mt.setOwn {σd σd' : DEnv} {σ : L2.St} {H : Hp} {i : Nat} {ds : List D} {p : Addr} {xs : List V} (m : Mt M σd σ H) (h : setC i (.own ds) σd = some σd') (hp : H p = some (.lst xs)) (ra : RepAll M.K H xs ds) (fr : Fresh M σd σ p) : Mt M σd' (σ.set i (some (.ref p))) H := by
  obtain ⟨rfl, hi, hn⟩ := setC_spec h
  have hi' : i < σ.length := by rw [← m.len]; exact hi
  have look : ∀ j, i ≠ j → (σ.set i (some (.ref p)))[j]? = σ[j]? := fun j ne => List.getElem?_set_ne ne
  refine ⟨by rw [List.length_set, List.length_set]; exact m.len, fun j e q => ?_, fun j es q => ?_, fun j es q => ?_, fun j k a b p' q1 q2 q3 q4 => ?_, m.kept, m.tabs, fun t ht => ?_, fun j k a b q1 q2 => ?_⟩
  · rcases getset q with ⟨rfl, e0⟩ | ⟨ne, q⟩
    · cases e0
    · obtain ⟨w, h1, h2⟩ := m.val j e q
      exact ⟨w, by rw [look j ne]; exact h1, h2⟩
  · rcases getset q with ⟨rfl, e0⟩ | ⟨ne, q⟩
    · cases e0
      exact ⟨p, xs, List.getElem?_set_self hi', hp, ra, fr.ent, fr.tap⟩
    · obtain ⟨p', xs, h1, h2⟩ := m.own j es q
      exact ⟨p', xs, by rw [look j ne]; exact h1, h2⟩
  · rcases getset q with ⟨rfl, e0⟩ | ⟨ne, q⟩
    · cases e0
    · obtain ⟨p', xs, h1, h2⟩ := m.tap j es q
      exact ⟨p', xs, by rw [look j ne]; exact h1, h2⟩
  · rcases getset q1 with ⟨rfl, e0⟩ | ⟨n1, q1⟩
    · rcases getset q2 with ⟨rfl, e1⟩ | ⟨n2, q2⟩
      · rfl
      · rw [List.getElem?_set_self hi'] at q3
        cases q3
        rw [look k n2] at q4
        exact absurd q4 (fr.own k b q2)
    · rcases getset q2 with ⟨rfl, e1⟩ | ⟨n2, q2⟩
      · rw [List.getElem?_set_self hi'] at q4
        cases q4
        rw [look j n1] at q3
        exact absurd q3 (fr.own j a q1)
      · rw [look j n1] at q3
        rw [look k n2] at q4
        exact m.dj j k a b p' q1 q2 q3 q4
  · obtain ⟨es, q⟩ := m.tape t ht
    refine ⟨es, ?_⟩
    rw [List.getElem?_set_ne (fun z => by subst z; exact hn es q)]
    exact q
  · rcases getset q1 with ⟨rfl, e0⟩ | ⟨_, q1⟩
    · cases e0
    · rcases getset q2 with ⟨rfl, e0⟩ | ⟨_, q2⟩
      · cases e0
      · exact m.tapOne j k a b q1 q2
/-- a list of a name's own, or lent: its data -/
@[simp] def lstOf (i : Nat) (σ : DEnv) : Option (List D) := match σ[i]? with
  | some (.own ds) => some ds
  | some (.tap ds) => some ds
  | _ => none
/-- .. written over -/
@[simp] def putL (i : Nat) (ds : List D) (σ : DEnv) : DEnv := match σ[i]? with
  | some (.own _) => σ.set i (.own ds)
  | some (.tap _) => σ.set i (.tap ds)
  | _ => σ
theorem Mt.lstOf {σd : DEnv} {σ : L2.St} {H : Hp} {i : Nat} {ds : List D} (m : Mt M σd σ H) (h : lstOf i σd = some ds) : ∃ p xs, σ[i]? = some (some (.ref p)) ∧ H p = some (.lst xs) ∧ RepAll M.K H xs ds := by
  unfold PL.lstOf at h
  split at h
  · rename_i es e
    cases h
    obtain ⟨p, xs, h1, h2, h3, _⟩ := m.own i _ e
    exact ⟨p, xs, h1, h2, h3⟩
  · rename_i es e
    cases h
    obtain ⟨p, xs, h1, h2, h3, _⟩ := m.tap i _ e
    exact ⟨p, xs, h1, h2, h3⟩
  · cases h
theorem Mt.putL {σd : DEnv} {σ : L2.St} {H : Hp} {i : Nat} {ds es : List D} {p : Addr} {xs ys : List V} (m : Mt M σd σ H) (h : PL.lstOf i σd = some ds) (hp : σ[i]? = some (some (.ref p))) (hH : H p = some (.lst xs)) (ra : RepAll M.K H ys es) : Mt M (putL i es σd) σ (upd H p (.lst ys)) := by
  have ex : Ext H (upd H p (.lst ys)) := Ext.wr hH
  have kp : ∀ b o, M.H0 b = some o → M.tape ≠ some b → b ≠ p := by
    intro b o e1 e2 z
    subst z
    unfold PL.lstOf at h
    split at h
    · rename_i e
      obtain ⟨p', _, h1, _, _, h4, _⟩ := m.own i _ e
      rw [hp] at h1
      cases h1
      rw [h4] at e1
      cases e1
    · rename_i e
      obtain ⟨p', _, h1, _, _, h4⟩ := m.tap i _ e
      rw [hp] at h1
      cases h1
      exact e2 h4
    · cases h
  have tb : ∀ P ∈ M.tabs, TabG (upd H p (.lst ys)) P := fun P hP => by
    obtain ⟨ps, e, t⟩ := m.tabs P hP
    exact ⟨ps, by rw [upd_ne (ne_of e hH (by intro z; cases z))]; exact e, t⟩
  unfold PL.lstOf at h
  unfold PL.putL
  split at h
  · rename_i es0 e
    cases h
    obtain ⟨p0, _, g1, _, _, g4, g5⟩ := m.own i _ e
    rw [hp] at g1
    cases g1
    refine ⟨by rw [List.length_set]; exact m.len, fun j d q => ?_, fun j fs q => ?_, fun j fs q => ?_, fun j k a b p' q1 q2 q3 q4 => ?_, fun b o e1 e2 => ?_, tb, fun t ht => ?_, fun j k a b q1 q2 => ?_⟩
    · rcases getset q with ⟨rfl, e0⟩ | ⟨ne, q⟩
      · cases e0
      · obtain ⟨v, h1, h2⟩ := m.val j d q
        exact ⟨v, h1, h2.ext ex⟩
    · rcases getset q with ⟨rfl, e0⟩ | ⟨ne, q⟩
      · cases e0
        exact ⟨p, ys, hp, upd_same, ra.ext ex, g4, g5⟩
      · obtain ⟨p', zs, h1, h2, h3, h4⟩ := m.own j fs q
        refine ⟨p', zs, h1, ?_, h3.ext ex, h4⟩
        rw [upd_ne (fun z => ne (by subst z; exact m.dj i j _ _ _ e q hp h1))]
        exact h2
    · rcases getset q with ⟨rfl, e0⟩ | ⟨ne, q⟩
      · cases e0
      · obtain ⟨p', zs, h1, h2, h3, h4⟩ := m.tap j fs q
        refine ⟨p', zs, h1, ?_, h3.ext ex, h4⟩
        rw [upd_ne (fun z => g5 (by rw [← z]; exact h4))]
        exact h2
    · have q1' : ∃ a', σd[j]? = some (.own a') := by
        rcases getset q1 with ⟨rfl, _⟩ | ⟨_, q⟩
        · exact ⟨_, e⟩
        · exact ⟨_, q⟩
      have q2' : ∃ a', σd[k]? = some (.own a') := by
        rcases getset q2 with ⟨rfl, _⟩ | ⟨_, q⟩
        · exact ⟨_, e⟩
        · exact ⟨_, q⟩
      obtain ⟨a', q1'⟩ := q1'
      obtain ⟨b', q2'⟩ := q2'
      exact m.dj j k a' b' p' q1' q2' q3 q4
    · rw [upd_ne (kp b o e1 e2)]
      exact m.kept b o e1 e2
    · obtain ⟨fs, q⟩ := m.tape t ht
      refine ⟨fs, ?_⟩
      rw [List.getElem?_set_ne (fun z => by subst z; rw [e] at q; cases q)]
      exact q
    · rcases getset q1 with ⟨rfl, e0⟩ | ⟨_, q1⟩
      · cases e0
      · rcases getset q2 with ⟨rfl, e0⟩ | ⟨_, q2⟩
        · cases e0
        · exact m.tapOne j k a b q1 q2
  · rename_i es0 e
    cases h
    obtain ⟨p0, _, g1, _, _, g4⟩ := m.tap i _ e
    rw [hp] at g1
    cases g1
    refine ⟨by rw [List.length_set]; exact m.len, fun j d q => ?_, fun j fs q => ?_, fun j fs q => ?_, fun j k a b p' q1 q2 q3 q4 => ?_, fun b o e1 e2 => ?_, tb, fun t ht => ?_, fun j k a b q1 q2 => ?_⟩
    · rcases getset q with ⟨rfl, e0⟩ | ⟨ne, q⟩
      · cases e0
      · obtain ⟨v, h1, h2⟩ := m.val j d q
        exact ⟨v, h1, h2.ext ex⟩
    · rcases getset q with ⟨rfl, e0⟩ | ⟨ne, q⟩
      · cases e0
      · obtain ⟨p', zs, h1, h2, h3, h4, h5⟩ := m.own j fs q
        refine ⟨p', zs, h1, ?_, h3.ext ex, h4, h5⟩
        rw [upd_ne (fun z => h5 (by rw [z]; exact g4))]
        exact h2
    · rcases getset q with ⟨rfl, e0⟩ | ⟨ne, q⟩
      · cases e0
        exact ⟨p, ys, hp, upd_same, ra.ext ex, g4⟩
      · obtain ⟨p', zs, h1, h2, h3, h4⟩ := m.tap j fs q
        rw [g4] at h4
        cases h4
        exact absurd (m.tapOne i j _ _ e q) ne
    · rcases getset q1 with ⟨rfl, e0⟩ | ⟨_, q1⟩
      · cases e0
      · rcases getset q2 with ⟨rfl, e0⟩ | ⟨_, q2⟩
        · cases e0
        · exact m.dj j k a b p' q1 q2 q3 q4
    · rw [upd_ne (kp b o e1 e2)]
      exact m.kept b o e1 e2
    · obtain ⟨fs, q⟩ := m.tape t ht
      by_cases z : i = 0
      · subst z
        rw [e] at q
        cases q
        exact ⟨es, List.getElem?_set_self (List.getElem?_eq_some_iff.mp e).1⟩
      · exact ⟨fs, by rw [List.getElem?_set_ne z]; exact q⟩
    · have q1' : ∃ a', σd[j]? = some (.tap a') := by
        rcases getset q1 with ⟨rfl, _⟩ | ⟨_, q⟩
        · exact ⟨_, e⟩
        · exact ⟨_, q⟩
      have q2' : ∃ a', σd[k]? = some (.tap a') := by
        rcases getset q2 with ⟨rfl, _⟩ | ⟨_, q⟩
        · exact ⟨_, e⟩
        · exact ⟨_, q⟩
      obtain ⟨a', q1'⟩ := q1'
      obtain ⟨b', q2'⟩ := q2'
      exact m.tapOne j k a' b' q1' q2'
  · cases h

/-! ### small statements -/
variable {e : Expr} {f : DEnv → R D} {fs : DEnv → R (List D)} {pos : Pos} {st : Stmt} {rest : List Stmt} {F G : DEnv → O}
theorem wpO_seq {x : O} {g : DEnv → O} {H : Hp} {D : Ends} (h : wpO M (x.seq g) H D) : wpO M x H { D with nx := tS M g D } := by
  cases x with
  | nx σ1 => exact fun σ' H' e m => ⟨σ1, m, wpO_ext e h⟩
  | ret d σ1 => exact h
  | retF d σ1 => exact h
  | brk σ1 => exact h
  | cnt σ1 => exact h
  | exc c σ1 => exact h
  | bad => exact h
theorem ss_nil : SSs X M [] (fun σ => .nx σ) := PSs.weak pss_nil fun D σ H ⟨σd, m, q⟩ => q σ H (Ext.refl H) m
theorem ss_cons (h1 : SS X M st F) (h2 : SSs X M rest G) : SSs X M (st :: rest) (fun σ => (F σ).seq G) :=
  PSs.weak (pss_cons h1 h2) fun D σ H ⟨σd, m, q⟩ => ⟨σd, m, wpO_seq q⟩
theorem ss_one (h1 : SS X M st F) : SSs X M [st] F := pss_one h1
theorem ss_pass : SS X M (.Pass pos) (fun σ => .nx σ) := PS.weak ps_pass fun D σ H ⟨σd, m, q⟩ => q σ H (Ext.refl H) m
theorem ss_break : SS X M (.Break pos) (fun σ => .brk σ) := PS.weak ps_break fun D σ H ⟨σd, m, q⟩ => q σ H (Ext.refl H) m
theorem ss_cont : SS X M (.Continue pos) (fun σ => .cnt σ) := PS.weak ps_continue fun D σ H ⟨σd, m, q⟩ => q σ H (Ext.refl H) m
theorem ss_doc {x : Str} {j : Nat} {pos' : Pos} : SS X M (.Expr (.Constant (.str x) j pos) pos') (fun σ => .nx σ) := PS.weak ps_doc fun D σ H ⟨σd, m, q⟩ => q σ H (Ext.refl H) m
theorem wpR_thn {α : Type} {x : R α} {g : α → DEnv → O} {H : Hp} {D : Ends} (h : wpO M (x.thn g) H D) : wpR x (fun a σ1 => wpO M (g a σ1) H D) M.W := by
  cases x with
  | ok a σ1 => exact h
  | exc c σ1 => exact h
  | bad => exact h
theorem ss_ret (h : SE X M e f) : SS X M (.Return (some e) pos) (fun σ => (f σ).thn fun d σ1 => .ret d σ1) :=
  PS.weak (ps_ret h) fun D σ H ⟨σd, m, q⟩ => ⟨σd, m, wpR_mono (wpR_thn q) fun d σ1 q1 v H1 e1 r1 m1 => q1 v σ H1 e1 r1 m1⟩
/-- return a new list: it is handed over -/
theorem ss_retF (h : SF X M e fs) : SS X M (.Return (some e) pos) (fun σ => (fs σ).thn fun d σ1 => .retF d σ1) :=
  PS.weak (ps_ret h) fun D σ H ⟨σd, m, q⟩ => ⟨σd, m, wpR_mono (wpR_thn q) fun d σ1 q1 p xs H1 e1 hp ra m1 fr => q1 p xs σ H1 e1 hp ra m1 fr⟩
theorem ss_retN : SS X M (.Return none pos) (fun σ => .ret .none σ) := PS.weak ps_retN fun D σ H ⟨σd, m, q⟩ => q .non σ H (Ext.refl H) .non m
theorem ss_expr (h : SE X M e f) (hs : swapsWith e none pos.line X.env = pure false := by rfl) : SS X M (.Expr e pos) (fun σ => (f σ).thn fun _ σ1 => .nx σ1) :=
  PS.weak (ps_expr h hs) fun D σ H ⟨σd, m, q⟩ => ⟨σd, m, wpR_mono (wpR_thn q) fun d σ1 q1 v H1 e1 r1 m1 => q1 σ H1 e1 m1⟩
theorem ss_if {c : Expr} {a b : List Stmt} {t : DEnv → R Bool} (hc : ST X M c t) (ha : SSs X M a F) (hb : SSs X M b G) : SS X M (.If c a b pos) (fun σ => (t σ).thn fun c σ1 => if c = true then F σ1 else G σ1) :=
  PS.weak (ps_if hc ha hb) fun D σ H ⟨σd, m, q⟩ => ⟨σd, m, wpR_mono (wpR_thn q) fun c σ1 q1 H1 e1 m1 => by
    cases c with
    | true => exact iteT ⟨σ1, m1, wpO_ext e1 q1⟩
    | false => exact iteF ⟨σ1, m1, wpO_ext e1 q1⟩⟩
theorem wpO_setV {i : Nat} {d : D} {σ1 : DEnv} {σ : L2.St} {D : Ends} {H H0 : Hp} {v : V} (q : wpO M (setV i d σ1) H0 D) (e : Ext H0 H) (r : Rep M.K H v d) (m : Mt M σ1 σ H) : D.nx (σ.set i (some v)) H := by
  unfold setV at q
  split at q
  · rename_i σ2 h
    exact q _ H e (m.setVal h r)
  · exact q.elim
theorem ss_set {i : Nat} {x : Str} {pos' : Pos} (hN : X.N.Nodup) (hi : X.N[i]? = some x) (hx : Loc X.env.scope x) (h : SE X M e f) (hs : swapsWith e (some (.Name x pos')) pos.line X.env = pure false := by rfl) (hf : X.fn x = true ∨ X.env.scope.names.lookup x = some .local := by first | exact .inl rfl | exact .inr rfl | assumption) :
    SS X M (.Assign [.Name x pos'] e pos) (fun σ => (f σ).thn (setV i)) :=
  PS.weak (ps_set hN hi hx h hs hf) fun D σ H ⟨σd, m, q⟩ => ⟨σd, m, wpR_mono (wpR_thn q) fun d σ1 q1 v H1 e1 r1 m1 => wpO_setV q1 e1 r1 m1⟩
@[simp] def setF (i : Nat) (ds : List D) : DEnv → O := fun σ => match setC i (.own ds) σ with
  | some σ' => .nx σ'
  | none => .bad
theorem wpO_setF {i : Nat} {ds : List D} {σ1 : DEnv} {σ : L2.St} {D : Ends} {H H0 : Hp} {p : Addr} {xs : List V} (q : wpO M (setF i ds σ1) H0 D) (e : Ext H0 H) (hp : H p = some (.lst xs)) (ra : RepAll M.K H xs ds) (m : Mt M σ1 σ H) (fr : Fresh M σ1 σ p) : D.nx (σ.set i (some (.ref p))) H := by
  unfold setF at q
  split at q
  · rename_i σ2 h2
    exact q _ H e (m.setOwn h2 hp ra fr)
  · exact q.elim
/-- name = a new list, the name's own -/
theorem ss_setF {i : Nat} {x : Str} {pos' : Pos} (hN : X.N.Nodup) (hi : X.N[i]? = some x) (hx : Loc X.env.scope x) (h : SF X M e fs) (hs : swapsWith e (some (.Name x pos')) pos.line X.env = pure false := by rfl) (hf : X.fn x = true ∨ X.env.scope.names.lookup x = some .local := by first | exact .inl rfl | exact .inr rfl | assumption) :
    SS X M (.Assign [.Name x pos'] e pos) (fun σ => (fs σ).thn (setF i)) :=
  PS.weak (ps_set hN hi hx h hs hf) fun D σ H ⟨σd, m, q⟩ => ⟨σd, m, wpR_mono (wpR_thn q) fun ds σ1 q1 p xs H1 e1 hp ra m1 fr => wpO_setF q1 e1 hp ra m1 fr⟩

/-! ### own lists written -/
@[simp] def appL (i : Nat) (d : D) : DEnv → O := fun σ => match lstOf i σ with
  | some ds => if ds.length < 1000000 then .nx (putL i (ds ++ [d]) σ) else .bad
  | none => .bad
theorem mil {n : Nat} (h : n ≤ 1000000) : n < sizeLine := by
  have e : sizeLine = 16777216 := sizeLine_eq
  omega
/-- x.append(e), x a list of its own -/
theorem ss_append {i : Nat} {x : Str} {p1 p2 p3 : Pos} (hN : X.N[i]? = some x) (hv : Vis X.env.scope x) (h : SE X M e f) (hd : (x == ("__debug__" : Str)) = false := by decide) (hcd : (x == ("__classdict__" : Str)) = false := by decide)
    (hbase : attributeBase (.Name x p1) ("append" : Str) X.env (eval (.Name x p1) X.env) = eval (.Name x p1) X.env := by rfl) (hfew : ((backTo p3 (starEach [e] X.env)).all (fun x => !x.1) && (backToKw p3 (keywordEach [] X.env)).all (fun x => x.1.isSome)
      && decide ([e].length + ([] : List Keyword).length + (if ([] : List Keyword).isEmpty then 0 else 1) < 30)) = true := by rfl)
    (hline : (p2.endLine == p3.line) = true := by rfl) (hse : starEach [e] X.env = (false, eval e X.env) :: starEach [] X.env := by rfl) (hs : swapsWith (.Call (.Attribute (.Name x p1) ("append" : Str) p2) [e] [] p3) none pos.line X.env = pure false := by rfl) :
    SS X M (.Expr (.Call (.Attribute (.Name x p1) ("append" : Str) p2) [e] [] p3) pos) (fun σ => match lstOf i σ with
      | some _ => (f σ).thn (appL i)
      | none => .bad) := by
  have base : PE X (.Name x p1) (tVar i) := pe_var hN hv hd hcd
  refine PS.weak (ps_expr (pe_bm PySem.F.plainAttrs_list PySem.F.slot_list_append PySem.F.type_list_append mt_append base (pa_cons h pa_nil hse) hbase hfew hline hse rfl) hs) fun D σ H ⟨σd, m, q⟩ => ?_
  cases hl : lstOf i σd with
  | none => simp only [hl] at q; exact q.elim
  | some ds0 =>
    simp only [hl] at q
    obtain ⟨p, xs, h1, h2, h3⟩ := m.lstOf hl
    refine ⟨.ref p, h1, .inl ⟨rfl, xs, SqL.of h2⟩, σd, m, wpR_mono (wpR_thn q) fun d σ1 q1 v H1 e1 r1 m1 => ?_⟩
    unfold appL at q1
    cases hl1 : lstOf i σ1 with
    | none => simp only [hl1] at q1; exact q1.elim
    | some ds =>
      simp only [hl1] at q1
      split at q1
      · rename_i hlen
        obtain ⟨p', ys, g1, g2, g3⟩ := m1.lstOf hl1
        rw [h1] at g1
        cases g1
        refine ⟨p, ys, v, rfl, rfl, g2, ?_, ?_⟩
        · have := g3.length
          exact mil (by omega)
        · exact q1 σ _ (e1.trans (Ext.wr g2)) (m1.putL hl1 h1 g2 (g3.app (.cons r1 .nil)))
      · exact q1.elim
/-- where an index of a list of n items is -/
@[simp] def ixD (n : Nat) (k : Int) : Option Nat := ixN n k
@[simp] def stoL (i : Nat) (k d : D) : DEnv → O := fun σ => match lstOf i σ, k with
  | some ds, .int z => match ixD ds.length z with
    | some j => .nx (putL i (ds.set j d) σ)
    | none => .bad
  | _, _ => .bad
/-- x[k] = e, x a list of its own -/
theorem ss_store {i : Nat} {x : Str} {k : Expr} {g : DEnv → R D} {p1 p2 : Pos} (hN : X.N[i]? = some x) (hv : Vis X.env.scope x) (h : SE X M e f) (hk : SE X M k g) (hd : (x == ("__debug__" : Str)) = false := by decide) (hcd : (x == ("__classdict__" : Str)) = false := by decide)
    (ha : ∀ v, assign (.Subscript (.Name x p1) k p2) X.env v = (do
      let ov ← holding [v] (eval (.Name x p1) X.env)
      let iv ← holding [v, ov] (eval k X.env)
      standAt p2
      holding [v, ov, iv] (setItem ov iv v)
      release [v, ov, iv] []) := by intro _; rfl)
    (hs : swapsWithSole [.Subscript (.Name x p1) k p2] e pos.line X.env = pure false := by rfl) (hw : swappedStores [.Subscript (.Name x p1) k p2] e X.env = pure none := by rfl) (h1 : (assignEach [.Subscript (.Name x p1) k p2] X.env).map (·.2) = [assign (.Subscript (.Name x p1) k p2) X.env] := by rfl) :
    SS X M (.Assign [.Subscript (.Name x p1) k p2] e pos) (fun σ => (f σ).thn fun d σ1 => match lstOf i σ1 with
      | some _ => (g σ1).thn fun kd σ2 => stoL i kd d σ2
      | none => .bad) := by
  have base : PE X (.Name x p1) (tVar i) := pe_var hN hv hd hcd
  refine PS.weak (ps_asg h (pg_sub base hk set_list ha) hs hw h1) fun D σ H ⟨σd, m, q⟩ => ⟨σd, m, wpR_mono (wpR_thn q) fun d σ1 q1 v H1 e1 r1 m1 => ?_⟩
  cases hl : lstOf i σ1 with
  | none => simp only [hl] at q1; exact q1.elim
  | some ds0 =>
    simp only [hl] at q1
    obtain ⟨p, xs, h1, h2, h3⟩ := m1.lstOf hl
    refine ⟨.ref p, h1, σ1, m1, wpR_mono (wpR_thn q1) fun kd σ2 q2 w H2 e2 r2 m2 => ?_⟩
    unfold stoL at q2
    cases hl2 : lstOf i σ2 with
    | none => simp only [hl2] at q2; exact q2.elim
    | some ds =>
      simp only [hl2] at q2
      cases r2 with
      | int z =>
        simp only at q2
        split at q2
        · rename_i j hj
          obtain ⟨p', ys, g1, g2, g3⟩ := m2.lstOf hl2
          rw [h1] at g1
          cases g1
          refine ⟨p, ys, z, j, rfl, rfl, g2, ?_, ?_⟩
          · rw [g3.length]; exact hj
          · exact q2 σ _ (e1.trans (e2.trans (Ext.wr g2))) (m2.putL hl2 h1 g2 (g3.set (r1.ext e2) j))
        · exact q2.elim
      | _ => exact q2.elim
/-- x.pop() -/
@[simp] def popE (i : Nat) : DEnv → R D := fun σ => match lstOf i σ with
  | some ds => match ds[ds.length - 1]? with
    | some d => .ok d (putL i ds.dropLast σ)
    | none => .bad
  | none => .bad
theorem RepAll.dropLast {K : PySem.W.Frag} {H : Hp} {vs : List V} {ds : List D} (r : RepAll K H vs ds) : RepAll K H vs.dropLast ds.dropLast := by
  rw [List.dropLast_eq_take, List.dropLast_eq_take, r.length]
  exact r.take _
theorem se_pop {i : Nat} {x : Str} {p1 p2 p3 : Pos} (hN : X.N[i]? = some x) (hv : Vis X.env.scope x) (hd : (x == ("__debug__" : Str)) = false := by decide) (hcd : (x == ("__classdict__" : Str)) = false := by decide)
    (hbase : attributeBase (.Name x p1) ("pop" : Str) X.env (eval (.Name x p1) X.env) = eval (.Name x p1) X.env := by rfl) (hline : (p2.endLine == p3.line) = true := by rfl) :
    SE X M (.Call (.Attribute (.Name x p1) ("pop" : Str) p2) [] [] p3) (popE i) := by
  have base : PE X (.Name x p1) (tVar i) := pe_var hN hv hd hcd
  refine PE.weak (pe_bm0 PySem.F.plainAttrs_list PySem.F.slot_list_pop PySem.F.type_list_pop mt_pop base hbase hline) fun σ H Q ⟨σd, m, q⟩ => ?_
  unfold popE at q
  cases hl : lstOf i σd with
  | none => simp only [hl] at q; exact q.elim
  | some ds =>
    simp only [hl] at q
    split at q
    · rename_i d hd2
      obtain ⟨p, xs, h1, h2, h3⟩ := m.lstOf hl
      obtain ⟨v, g1, g2⟩ := h3.get hd2
      refine ⟨.ref p, h1, .inl ⟨rfl, xs, SqL.of h2⟩, p, xs, v, rfl, rfl, h2, by rw [h3.length]; exact g1, ?_⟩
      exact q v _ (Ext.wr h2) (g2.ext (Ext.wr h2)) (m.putL hl h1 h2 h3.dropLast)
    · exact q.elim

/-! ### while -/
def whileF (t : DEnv → R Bool) (b : DEnv → O) : Nat → DEnv → O
  | 0, _ => .bad
  | n + 1, σ => (t σ).thn fun c σ1 => if c = true then (match b σ1 with
      | .nx σ2 => whileF t b n σ2
      | .cnt σ2 => whileF t b n σ2
      | .brk σ2 => .nx σ2
      | .ret d σ2 => .ret d σ2
      | .retF d σ2 => .retF d σ2
      | .exc k σ2 => .exc k σ2
      | .bad => .bad) else .nx σ1
theorem ss_while {c : Expr} {body : List Stmt} {t : DEnv → R Bool} (n : Nat) (hp : PassesOwn (model X.prog X.w) X.A X.env X.xe) (hc : ST X M c t) (hb : SSs X M body F) : SS X M (.While c body [] pos) (whileF t F n) :=
  PS.weak (ps_while hp hc hb) fun D σ H ⟨σd, m, q⟩ => by
    refine ⟨fun k σ' H' => ∃ σ1, Mt M σ1 σ' H' ∧ wpO M (whileF t F k σ1) H' D, ⟨n, σd, m, q⟩, fun k σ' H' ⟨σ1, m1, q1⟩ => ?_⟩
    cases k with
    | zero => exact q1.elim
    | succ k =>
      refine ⟨σ1, m1, wpR_mono (wpR_thn q1) fun b σ2 q2 H2 e2 m2 => ?_⟩
      cases b with
      | false => exact iteF (q2 σ' H2 e2 m2)
      | true =>
        refine iteT ⟨fun σ3 H3 => ∃ σ4, Mt M σ4 σ3 H3 ∧ wpO M (whileF t F k σ4) H3 D, fun σ3 H3 h3 => ⟨k, Nat.lt_succ_self k, h3⟩, σ2, m2, ?_⟩
        rw [if_pos rfl] at q2
        cases hF : F σ2 with
        | nx σ3 => rw [hF] at q2; exact fun σ4 H4 e4 m4 => ⟨σ3, m4, wpO_ext (e2.trans e4) q2⟩
        | cnt σ3 => rw [hF] at q2; exact fun σ4 H4 e4 m4 => ⟨σ3, m4, wpO_ext (e2.trans e4) q2⟩
        | brk σ3 => rw [hF] at q2; exact fun σ4 H4 e4 m4 => q2 σ4 H4 (e2.trans e4) m4
        | ret d σ3 => rw [hF] at q2; exact fun v σ4 H4 e4 r m4 => q2 v σ4 H4 (e2.trans e4) r m4
        | retF d σ3 => rw [hF] at q2; exact fun p xs σ4 H4 e4 h1 h2 m4 fr => q2 p xs σ4 H4 (e2.trans e4) h1 h2 m4 fr
        | exc k' σ3 => rw [hF] at q2; exact q2
        | bad => rw [hF] at q2; exact q2

/-! ### what is walked -/
/-- the items of an iterator, from the heap H on -/
structure ItD (K : PySem.W.Frag) (H : Hp) (J : It) (ds : List D) : Prop where
  go : ∀ (H' : Hp) (i : Nat) (d : D), Ext H H' → ds[i]? = some d → J.go i H'
  yld : ∀ (H' : Hp) (i : Nat) (d : D) (x : V) (H2 : Hp), Ext H H' → ds[i]? = some d → J.yld i H' x H2 → Same H' H2 ∧ Rep K H2 x d
  stop : ∀ (H' : Hp), Ext H H' → J.stop ds.length H'
def iD (M : Mx) (f : DEnv → R (List D)) : TI := fun σ H Q => ∃ σd, Mt M σd σ H ∧ wpR (f σd) (fun ds σ1 => ∀ J H1, Ext H H1 → Mt M σ1 σ H1 → ItD M.K H1 J ds → Q J H1) M.W
abbrev SI (X : Cx) (M : Mx) (tg iter : Expr) (f : DEnv → R (List D)) : Prop := PI X tg iter (iD M f)
theorem PI.weak {tg e : Expr} {t t' : TI} (h : PI X tg e t) (k : ∀ σ H Q, t' σ H Q → t σ H Q) : PI X tg e t' := ⟨fun pins s σ H Q I q => h.run pins s σ H Q I (k _ _ _ q)⟩
def itemsL : D → Option (List D)
  | .list ds => some ds
  | _ => none
def itemsT : D → Option (List D)
  | .tuple ds => some ds
  | _ => none
@[simp] def onD (r : D → Option (List D)) (f : DEnv → R D) : DEnv → R (List D) := fun σ => (f σ).bind fun d σ1 => lift (r d) σ1
variable {tg it : Expr}
theorem getE {α : Type} {l : List α} {i : Nat} {a : α} (h : l[i]? = some a) : i < l.length := (List.getElem?_eq_some_iff.mp h).1
theorem sqL_inj {K : PySem.W.Frag} {H : Hp} {a : Addr} {xs ys : List V} (o : Obj) (h : H a = some (.frz o (.lst xs))) (h' : SqL K H a ys) (hk : K.lookup a = none) : ys = xs := by
  rcases h' with (h' | ⟨o', h'⟩) | ⟨o', _, _, e, _⟩
  · rw [h] at h'; cases h'
  · rw [h] at h'; cases h'; rfl
  · rw [hk] at e; cases e
end
end PL
set_option Elab.async false
set_option linter.all false
set_option maxRecDepth 100000
set_option autoImplicit false
/-! Walks over data: for, comprehensions. -/
namespace PL
open PySem PySem.Spec PyProof.Rows L2

section
variable {X : Cx} {M : Mx} {tg it e e2 : Expr} {f g : DEnv → R D} {fs : DEnv → R (List D)} {pos p tpos : Pos}

/-! ### sources -/
theorem itL {K : PySem.W.Frag} {H : Hp} {a : Addr} {xs : List V} {ds : List D} (h : FzL K H a xs) (r : RepAll K H xs ds) : ItD K H (Itl K a) ds where
  go := fun H' i d e q => let ⟨v, h1, _⟩ := r.get q; ⟨xs, v, (h.mono e).sq, h1⟩
  yld := fun H' i d x H2 e q y => by
    obtain ⟨rfl, y⟩ := y
    obtain ⟨v, h1, h2⟩ := r.get q
    have h3 := y xs (h.mono e).sq
    rw [h1] at h3
    cases h3
    exact ⟨Same.refl _, h2.ext e⟩
  stop := fun H' e => ⟨xs, (h.mono e).sq, Nat.le_of_eq r.length⟩
theorem itT {K : PySem.W.Frag} {H : Hp} {a : Addr} {xs : List V} {ds : List D} (h : SqT K H a xs) (r : RepAll K H xs ds) : ItD K H (Itt K a) ds where
  go := fun H' i d e q => let ⟨v, h1, _⟩ := r.get q; ⟨xs, v, sqT_mono e h, h1⟩
  yld := fun H' i d x H2 e q y => by
    obtain ⟨rfl, y⟩ := y
    obtain ⟨v, h1, h2⟩ := r.get q
    have h3 := y xs (sqT_mono e h)
    rw [h1] at h3
    cases h3
    exact ⟨Same.refl _, h2.ext e⟩
  stop := fun H' e => ⟨xs, sqT_mono e h, Nat.le_of_eq r.length⟩
/-- lo, lo + 1, .. -/
def rangeD (lo : Int) (n : Nat) : List D := (List.range n).map fun k : Nat => .int (lo + k)
theorem rangeD_get {lo : Int} {n i : Nat} {d : D} (h : (rangeD lo n)[i]? = some d) : i < n ∧ d = .int (lo + i) := by
  unfold rangeD at h
  rw [List.getElem?_map] at h
  by_cases hi : i < n
  · rw [List.getElem?_range hi] at h
    exact ⟨hi, (Option.some.inj h).symm⟩
  · rw [List.getElem?_eq_none (by simpa using hi)] at h
    cases h
theorem rangeD_length {lo : Int} {n : Nat} : (rangeD lo n).length = n := by simp [rangeD]
theorem itR {K : PySem.W.Frag} {H : Hp} {lo : Int} {n : Nat} : ItD K H (Itr lo n) (rangeD lo n) where
  go := fun H' i d e q => (rangeD_get q).1
  yld := fun H' i d x H2 e q y => by
    obtain ⟨rfl, rfl⟩ := y
    obtain ⟨_, rfl⟩ := rangeD_get q
    exact ⟨Same.refl _, .int _⟩
  stop := fun H' e => Nat.le_of_eq rangeD_length.symm
theorem si_list (h : SE X M e f) (hK : X.K = M.K) : SI X M tg e (onD itemsL f) :=
  PI.weak (pi_list h) fun σ H Q ⟨σd, m, q⟩ => ⟨σd, m, wpR_mono (wpR_bind.mp q) fun d σ1 q1 v H1 e1 r1 m1 => by
    cases r1 with
    | lst h1 h2 =>
      refine ⟨_, rfl, ⟨_, by rw [hK]; exact h1.sq⟩, ?_⟩
      rw [hK]
      exact q1 _ H1 e1 m1 (itL h1 h2)
    | _ => exact q1.elim⟩
theorem si_tup (h : SE X M e f) (hK : X.K = M.K) : SI X M tg e (onD itemsT f) :=
  PI.weak (pi_tup h) fun σ H Q ⟨σd, m, q⟩ => ⟨σd, m, wpR_mono (wpR_bind.mp q) fun d σ1 q1 v H1 e1 r1 m1 => by
    cases r1 with
    | tup h1 h2 =>
      refine ⟨_, rfl, ⟨_, by rw [hK]; exact h1⟩, ?_⟩
      rw [hK]
      exact q1 _ H1 e1 m1 (itT h1 h2)
    | _ => exact q1.elim⟩
/-- a list or a tuple, whichever it is -/
def itemsS : D → Option (List D)
  | .list ds => some ds
  | .tuple ds => some ds
  | _ => none
theorem si_seq (h : SE X M e f) (hK : X.K = M.K) : SI X M tg e (onD itemsS f) := by
  refine ⟨fun pins s σ H Q I hq => ?_⟩
  obtain ⟨σd, m, q⟩ := hq
  refine thn (h.run pins s σ H (fun v H1 => ∃ d σ1, Rep M.K H1 v d ∧ Ext H H1 ∧ Mt M σ1 σ H1 ∧ wpR (lift (itemsS d) σ1) (fun ds σ1 => ∀ J H1, Ext H H1 → Mt M σ1 σ H1 → ItD M.K H1 J ds → Q J H1) M.W) I ⟨σd, m, wpR_mono (wpR_bind.mp q) fun d σ1 q1 v H1 e1 r1 m1 => ⟨d, σ1, r1, e1, m1, q1⟩⟩) fun u s1 hw => ?_
  obtain ⟨v, H1, I1, rv, d, σ1, r1, e1, m1, q1⟩ := hw
  have cst : PE X (.Name "" ⟨0, 0, 0, 0⟩) (fun _ _ _ => False) := ⟨fun _ _ _ _ _ _ z => z.elim⟩
  cases r1 with
  | @lst a xs ds h1 h2 =>
    cases rv
    obtain ⟨its, rv', pl, hz⟩ := I1.list (xs := xs) (a := a) (by rw [hK]; exact h1.sq)
    refine wpAny_pyIter_list pl.isList ?_
    refine ⟨s1.heap.objs.size, [s1.heap.objs.size], _, _, H1, rfl, I1.kept (t' := s1.toks) fun b o e => Heap.get?_push_of_some _ e, turn_list a _, ⟨_, Heap.get?_push_size _ rfl, rfl, rfl⟩, fun b hb => ?_, ?_⟩
    · have e : b = s1.heap.objs.size := by simpa using hb
      subst e
      exact I1.fpOk (Nat.le_refl _) (I1.hok.fresh (Nat.le_refl _))
    · rw [hK]; exact q1 _ H1 e1 m1 (itL h1 h2)
  | @tup a xs ds h1 h2 =>
    cases rv
    obtain ⟨its, rv', pl, hz⟩ := I1.tuple (xs := xs) (a := a) (by rw [hK]; exact h1)
    refine wpAny_pyIter_tuple (show s1.heap.IsTuple a its.toArray from pl) ?_
    refine ⟨s1.heap.objs.size, [s1.heap.objs.size], _, _, H1, rfl, I1.kept (t' := s1.toks) fun b o e => Heap.get?_push_of_some _ e, turn_tuple a _, ⟨_, Heap.get?_push_size _ rfl, rfl, rfl⟩, fun b hb => ?_, ?_⟩
    · have e : b = s1.heap.objs.size := by simpa using hb
      subst e
      exact I1.fpOk (Nat.le_refl _) (I1.hok.fresh (Nat.le_refl _))
    · rw [hK]; exact q1 _ H1 e1 m1 (itT h1 h2)
  | _ => exact q1.elim
def small62 (i : Int) : Bool := decide (i.natAbs.log2 < 61)
theorem small62_spec {i : Int} (h : small62 i = true) : -(2 ^ 62) ≤ i ∧ i < 2 ^ 62 := by
  simp only [small62, decide_eq_true_eq] at h
  by_cases h0 : i.natAbs = 0
  · omega
  · have := (Nat.log2_lt h0).mp h
    omega
theorem small62_of {i : Int} (h : i.natAbs < 2 ^ 61) : small62 i = true := by
  simp only [small62, decide_eq_true_eq]
  by_cases h0 : i.natAbs = 0
  · rw [h0]; simp
  · exact (Nat.log2_lt h0).mpr h
def rng1 : List D → Option (List D)
  | [.int j] => if small62 j = true then some (rangeD 0 j.toNat) else none
  | _ => none
def rng2 : List D → Option (List D)
  | [.int i, .int j] => if small62 i = true ∧ small62 j = true then some (rangeD i (j - i).toNat) else none
  | _ => none
@[simp] def onA (r : List D → Option (List D)) (f : DEnv → R (List D)) : DEnv → R (List D) := fun σ => (f σ).bind fun d σ1 => lift (r d) σ1
theorem si_range1 (hg : Gl X "range") (hm : X.mg "range" = none) (ha : SA X M [e] fs) (hs : starEach [e] X.env = [(false, eval e X.env)] := by rfl) : SI X M tg (.Call (.Name "range" p) [e] [] pos) (onA rng1 fs) :=
  PI.weak (pi_range1 hg hm ha hs) fun σ H Q ⟨σd, m, q⟩ => ⟨σd, m, wpR_mono (wpR_bind.mp q) fun ds σ1 q1 vs H1 e1 r1 m1 => by
    cases r1 with
    | cons r1 r2 =>
      cases r1 with
      | int j =>
        cases r2 with
        | nil =>
          simp only [rng1] at q1
          split at q1
          · rename_i hj
            obtain ⟨h1, h2⟩ := small62_spec hj
            exact ⟨j, rfl, h1, h2, q1 _ H1 e1 m1 itR⟩
          · exact q1.elim
        | cons _ _ => exact q1.elim
      | _ => exact q1.elim
    | nil => exact q1.elim⟩
theorem si_range2 (hg : Gl X "range") (hm : X.mg "range" = none) (ha : SA X M [e, e2] fs) (hs : starEach [e, e2] X.env = [(false, eval e X.env), (false, eval e2 X.env)] := by rfl) (hs2 : starEach [e2] X.env = [(false, eval e2 X.env)] := by rfl) : SI X M tg (.Call (.Name "range" p) [e, e2] [] pos) (onA rng2 fs) :=
  PI.weak (pi_range2 hg hm ha hs hs2) fun σ H Q ⟨σd, m, q⟩ => ⟨σd, m, wpR_mono (wpR_bind.mp q) fun ds σ1 q1 vs H1 e1 r1 m1 => by
    obtain ⟨z, hz, q2⟩ := wpR_lift.mp q1
    unfold rng2 at hz
    split at hz
    · rename_i i j
      split at hz
      · rename_i hj
        cases hz
        cases r1 with
        | cons r1 r2 =>
          cases r2 with
          | cons r2 r3 =>
            cases r1
            cases r2
            cases r3
            obtain ⟨h1, h2⟩ := small62_spec hj.1
            obtain ⟨h3, h4⟩ := small62_spec hj.2
            exact ⟨i, j, rfl, ⟨h1, h2, h3, h4⟩, q2 _ H1 e1 m1 itR⟩
      · cases hz
    · cases hz⟩

/-! ### targets -/
/-- the slots is alone may change -/
def gD (M : Mx) (is : List Nat) (g : D → DEnv → Option DEnv) : TG := fun v σ H Q => ∃ (d : D) (σd σ1 : DEnv), Rep M.K H v d ∧ Mt M σd σ H ∧ g d σd = some σ1 ∧ ∀ (σ' : L2.St) (H' : Hp), Ext H H' → Mt M σ1 σ' H' → (σ'.length = σ.length ∧ ∀ j : Nat, j ∉ is → σ'[j]? = σ[j]?) → Q σ' H'
def gDs (M : Mx) (is : List Nat) (g : List D → DEnv → Option DEnv) : TGs := fun vs σ H Q => ∃ (ds : List D) (σd σ1 : DEnv), RepAll M.K H vs ds ∧ Mt M σd σ H ∧ g ds σd = some σ1 ∧ ∀ (σ' : L2.St) (H' : Hp), Ext H H' → Mt M σ1 σ' H' → (σ'.length = σ.length ∧ ∀ j : Nat, j ∉ is → σ'[j]? = σ[j]?) → Q σ' H'
abbrev SG (X : Cx) (M : Mx) (is : List Nat) (tg : Expr) (g : D → DEnv → Option DEnv) : Prop := PG X tg (gD M is g)
abbrev SGs (X : Cx) (M : Mx) (is : List Nat) (tg : List Expr) (g : List D → DEnv → Option DEnv) : Prop := PGs X tg (gDs M is g)
theorem PG.weak {tg : Expr} {t t' : TG} (h : PG X tg t) (k : ∀ v σ H Q, t' v σ H Q → t v σ H Q) : PG X tg t' := ⟨fun pins s σ H v u Q I r q => h.run pins s σ H v u Q I r (k _ _ _ _ q)⟩
theorem PGs.weak {tg : List Expr} {t t' : TGs} (h : PGs X tg t) (k : ∀ v σ H Q, t' v σ H Q → t v σ H Q) : PGs X tg t' := ⟨fun pins s σ H v u Q I r q => h.run pins s σ H v u Q I r (k _ _ _ _ q)⟩
theorem PG.or {tg : Expr} {t t' : TG} (h : PG X tg t) (h' : PG X tg t') : PG X tg (fun v σ H Q => t v σ H Q ∨ t' v σ H Q) := ⟨fun pins s σ H v u Q I r q => by
  rcases q with q | q
  · exact h.run pins s σ H v u Q I r q
  · exact h'.run pins s σ H v u Q I r q⟩
@[simp] def gN (i : Nat) : D → DEnv → Option DEnv := fun d σ => setC i (.val d) σ
theorem sg_name {i : Nat} {x : Str} (hN : X.N.Nodup) (hi : X.N[i]? = some x) (hx : Loc X.env.scope x) (hf : X.fn x = true ∨ X.env.scope.names.lookup x = some .local := by first | exact .inl rfl | exact .inr rfl | assumption) : SG X M [i] (.Name x pos) (gN i) :=
  PG.weak (pg_name hN hi hx hf) fun v σ H Q ⟨d, σd, σ1, r, m, q, k⟩ => by
    refine k _ H (Ext.refl H) (m.setVal q r) ⟨List.length_set, fun j hj => List.getElem?_set_ne (fun z => hj (by rw [← z]; exact List.mem_singleton.mpr rfl))⟩
@[simp] def gNil : List D → DEnv → Option DEnv
  | [], σ => some σ
  | _, _ => none
@[simp] def gCons (g : D → DEnv → Option DEnv) (gs : List D → DEnv → Option DEnv) : List D → DEnv → Option DEnv
  | d :: ds, σ => (g d σ).bind fun σ1 => gs ds σ1
  | [], _ => none
theorem sgs_nil : SGs X M [] [] gNil := PGs.weak pgs_nil fun v σ H Q ⟨ds, σd, σ1, r, m, q, k⟩ => by
  cases r with
  | nil => cases q; exact ⟨rfl, k σ H (Ext.refl H) m ⟨rfl, fun _ _ => rfl⟩⟩
  | cons _ _ => cases q
theorem sgs_cons {a : Expr} {es : List Expr} {is js : List Nat} {g : D → DEnv → Option DEnv} {gs : List D → DEnv → Option DEnv} (h : SG X M is a g) (hs : SGs X M js es gs) (hst : (assignEach (a :: es) X.env).map (·.2) = assign a X.env :: (assignEach es X.env).map (·.2) := by rfl) : SGs X M (is ++ js) (a :: es) (gCons g gs) :=
  PGs.weak (pgs_cons h hs hst) fun vs σ H Q ⟨ds, σd, σ1, r, m, q, k⟩ => by
    cases r with
    | nil => cases q
    | @cons v vs d ds r1 r2 =>
      simp only [gCons, Option.bind_eq_some_iff] at q
      obtain ⟨σ2, q1, q2⟩ := q
      refine ⟨v, vs, rfl, d, σd, σ2, r1, m, q1, fun σ' H' e1 m1 l1 => ⟨ds, σ2, σ1, r2.ext e1, m1, q2, fun σ3 H3 e2 m2 l2 => k σ3 H3 (e1.trans e2) m2 ⟨l2.1.trans l1.1, fun j hj => ?_⟩⟩⟩
      rw [List.mem_append, not_or] at hj
      exact (l2.2 j hj.2).trans (l1.2 j hj.1)
/-- (a, b, ..) = a tuple or a list of that length -/
@[simp] def gT (n : Nat) (gs : List D → DEnv → Option DEnv) : D → DEnv → Option DEnv := fun d σ => match itemsS d with
  | some ds => if ds.length = n then gs ds σ else none
  | none => none
theorem sg_tup {es : List Expr} {k : Nat} {n : Nat} {is : List Nat} {gs : List D → DEnv → Option DEnv} (hK : X.K = M.K) (hc : X.calm = true) (h : SGs X M is es gs)
    (hn : (assignEach es X.env).length = n := by rfl) (hst : (assignEach es X.env).findIdx? (·.1) = none := by rfl) : SG X M is (.Tuple es k pos) (gT n gs) :=
  PG.weak (PL.PG.or (pg_tup (pos := pos) (k := k) hc h hn hst) (pg_lst (pos := pos) (k := k) hc h hn hst)) fun v σ H Q ⟨d, σd, σ1, r, m, q, kk⟩ => by
    cases r with
    | @tup a xs ds h1 h2 =>
      simp only [gT, itemsS] at q
      split at q
      · rename_i hl
        exact .inl ⟨a, xs, rfl, by rw [hK]; exact h1, h2.length.trans hl, ds, σd, σ1, h2, m, q, kk⟩
      · cases q
    | @lst a xs ds h1 h2 =>
      simp only [gT, itemsS] at q
      split at q
      · rename_i hl
        exact .inr ⟨a, xs, rfl, by rw [hK]; exact h1.sq, h2.length.trans hl, ds, σd, σ1, h2, m, q, kk⟩
      · cases q
    | _ => simp only [gT, itemsS] at q; cases q

/-! ### for -/
def forF (g : D → DEnv → Option DEnv) (b : DEnv → O) : List D → DEnv → O
  | [], σ => .nx σ
  | d :: ds, σ => match g d σ with
    | none => .bad
    | some σ1 => match b σ1 with
      | .nx σ2 => forF g b ds σ2
      | .cnt σ2 => forF g b ds σ2
      | .brk σ2 => .nx σ2
      | .ret d σ2 => .ret d σ2
      | .retF d σ2 => .retF d σ2
      | .exc k σ2 => .exc k σ2
      | .bad => .bad
theorem ss_for {is : List Nat} {tg' : D → DEnv → Option DEnv} {body : List Stmt} {src : DEnv → R (List D)} {F : DEnv → O} (hp : PassesOwn (model X.prog X.w) X.A X.env X.xe) (hc : X.calm = true) (hi : SI X M tg it src) (hg : SG X M is tg tg') (hb : SSs X M body F)
    (hs : ∀ x, foldedSetIterable it X.env x = pure x := by intro _; rfl) : SS X M (.For tg it body [] pos) (fun σ => (src σ).thn fun ds σ1 => forF tg' F ds σ1) :=
  PS.weak (ps_for hp hc hi hg hb hs) fun D σ H ⟨σd, m, q⟩ => ⟨σd, m, wpR_mono (wpR_thn q) fun ds σ1 q1 J H1 e1 m1 hJ => by
    refine ⟨fun i k σ' H' => ∃ σ2, k + i = ds.length ∧ Ext H1 H' ∧ Mt M σ2 σ' H' ∧ wpO M (forF tg' F (ds.drop i) σ2) H' D, ⟨ds.length, σ1, Nat.add_zero _, Ext.refl _, m1, by rw [List.drop_zero]; exact wpO_ext e1 q1⟩, fun i k σ' H' ⟨σ2, hk, e2, m2, q2⟩ => ?_⟩
    cases k with
    | zero =>
      have hi : i = ds.length := by omega
      subst hi
      rw [List.drop_length] at q2
      exact .inl ⟨hJ.stop H' e2, q2 σ' H' (Ext.refl _) m2⟩
    | succ k =>
      have hi : i < ds.length := by omega
      have hd : ds[i]? = some ds[i] := List.getElem?_eq_getElem hi
      rw [List.drop_eq_getElem_cons hi] at q2
      refine .inr ⟨hJ.go H' i _ e2 hd, fun σ3 H3 => ∃ σ4, Ext H1 H3 ∧ Mt M σ4 σ3 H3 ∧ wpO M (forF tg' F (ds.drop (i + 1)) σ4) H3 D, fun σ3 H3 ⟨σ4, e4, m4, q4⟩ => ⟨k, Nat.lt_succ_self k, σ4, by omega, e4, m4, q4⟩, fun x H3 hy => ?_⟩
      obtain ⟨s3, r3⟩ := hJ.yld H' i _ x H3 e2 hd hy
      unfold forF at q2
      cases hg2 : tg' ds[i] σ2 with
      | none => rw [hg2] at q2; exact q2.elim
      | some σ3 =>
        rw [hg2] at q2
        refine ⟨ds[i], σ2, σ3, r3, m2.same s3, hg2, fun σ4 H4 e4 m4 _ => ⟨σ3, m4, ?_⟩⟩
        have e24 : Ext H' H4 := (Ext.same s3).trans e4
        simp only at q2
        cases hF : F σ3 with
        | nx σ5 => rw [hF] at q2; exact fun σ6 H6 e6 m6 => ⟨σ5, e2.trans (e24.trans e6), m6, wpO_ext (e24.trans e6) q2⟩
        | cnt σ5 => rw [hF] at q2; exact fun σ6 H6 e6 m6 => ⟨σ5, e2.trans (e24.trans e6), m6, wpO_ext (e24.trans e6) q2⟩
        | brk σ5 => rw [hF] at q2; exact fun σ6 H6 e6 m6 => q2 σ6 H6 (e24.trans e6) m6
        | ret d σ5 => rw [hF] at q2; exact fun v σ6 H6 e6 r m6 => q2 v σ6 H6 (e24.trans e6) r m6
        | retF d σ5 => rw [hF] at q2; exact fun p xs σ6 H6 e6 h1 h2 m6 fr => q2 p xs σ6 H6 (e24.trans e6) h1 h2 m6 fr
        | exc k' σ5 => rw [hF] at q2; exact q2
        | bad => rw [hF] at q2; exact q2⟩
end
end PL
set_option Elab.async false
set_option linter.all false
set_option maxRecDepth 100000
set_option autoImplicit false
/-! Comprehensions over data. -/
namespace PL
open PySem PySem.Spec PyProof.Rows L2

/-- the cells of the block's own names forgotten -/
def wipeD (σ : DEnv) : List Nat → DEnv
  | [] => σ
  | v :: vs => (wipeD σ vs).set v .emp
/-- behind the block: its own names are what they were -/
def backD (σ0 σ1 : DEnv) : List Nat → DEnv
  | [] => σ1
  | v :: vs => match σ0[v]? with
    | some (.val d) => (backD σ0 σ1 vs).set v (.val d)
    | _ => (backD σ0 σ1 vs).set v .emp
theorem wipeD_len (σ : DEnv) : ∀ vs : List Nat, (wipeD σ vs).length = σ.length
  | [] => rfl
  | v :: vs => by unfold wipeD; rw [List.length_set, wipeD_len σ vs]
theorem wipeD_get {σ : DEnv} {i : Nat} {c : Cell} (hc : c ≠ .emp) : ∀ {vs : List Nat}, (wipeD σ vs)[i]? = some c → σ[i]? = some c ∧ i ∉ vs
  | [], h => ⟨h, by simp⟩
  | v :: vs, h => by
    unfold wipeD at h
    rcases getset h with ⟨rfl, e0⟩ | ⟨ne, h⟩
    · exact absurd e0.symm hc
    · obtain ⟨h1, h2⟩ := wipeD_get hc h
      exact ⟨h1, by simp only [List.mem_cons, not_or]; exact ⟨fun e => ne e.symm, h2⟩⟩
theorem wipe_out' {σ : L2.St} {i : Nat} : ∀ {vs : List Nat}, i ∉ vs → (wipe σ vs)[i]? = σ[i]?
  | [], _ => rfl
  | v :: vs, h => by
    simp only [List.mem_cons, not_or] at h
    unfold wipe
    rw [List.getElem?_set_ne (fun e => h.1 e.symm)]
    exact wipe_out' h.2
theorem wipe_ext {σ σ' : L2.St} {vs : List Nat} (hl : σ'.length = σ.length) (h : ∀ j : Nat, j ∉ vs → σ'[j]? = σ[j]?) : wipe σ' vs = wipe σ vs := by
  apply List.ext_getElem?
  intro j
  by_cases hj : j ∈ vs
  · have key : ∀ (τ : L2.St), j ∈ vs → (wipe τ vs)[j]? = if j < τ.length then some none else none := by
      intro τ
      induction vs with
      | nil => intro z; cases z
      | cons v vs ih =>
        intro z
        unfold wipe
        by_cases e : v = j
        · subst e
          by_cases hlt : v < τ.length
          · rw [List.getElem?_set_self (by rw [wipe_length]; exact hlt), if_pos hlt]
          · rw [List.getElem?_eq_none (by rw [List.length_set, wipe_length]; omega), if_neg hlt]
        · rw [List.getElem?_set_ne e]
          have hj2 : j ∈ vs := by
            rcases List.mem_cons.mp z with z | z
            · exact absurd z.symm e
            · exact z
          have ih' : (wipe τ vs)[j]? = if j < τ.length then some none else none := by
            clear h ih hj z
            induction vs with
            | nil => cases hj2
            | cons u us ih2 =>
              unfold wipe
              by_cases e2 : u = j
              · subst e2
                by_cases hlt : u < τ.length
                · rw [List.getElem?_set_self (by rw [wipe_length]; exact hlt), if_pos hlt]
                · rw [List.getElem?_eq_none (by rw [List.length_set, wipe_length]; omega), if_neg hlt]
              · rw [List.getElem?_set_ne e2]
                exact ih2 ((List.mem_cons.mp hj2).resolve_left fun q => e2 q.symm)
          exact ih'
    rw [key σ' hj, key σ hj, hl]
  · rw [wipe_out' hj, wipe_out' hj]
    exact h j hj

section
variable {X : Cx} {M : Mx}
/-- within the block: D, the list that grows, is one more thing that stays as it is -/
abbrev Mx.blk (M : Mx) (H0 : Hp) : Mx := { M with H0 := H0, W := fun _ _ => False }
theorem Mt.wiped {σd : DEnv} {σ : L2.St} {H : Hp} {vs : List Nat} (m : Mt M σd σ H) (ht : M.tape ≠ none → 0 ∉ vs) : Mt M (wipeD σd vs) (wipe σ vs) H where
  len := by rw [wipeD_len, wipe_length]; exact m.len
  val := fun i d e => by
    obtain ⟨h1, h2⟩ := wipeD_get (by intro z; cases z) e
    rw [wipe_out' h2]
    exact m.val i d h1
  own := fun i d e => by
    obtain ⟨h1, h2⟩ := wipeD_get (by intro z; cases z) e
    rw [wipe_out' h2]
    exact m.own i d h1
  tap := fun i d e => by
    obtain ⟨h1, h2⟩ := wipeD_get (by intro z; cases z) e
    rw [wipe_out' h2]
    exact m.tap i d h1
  dj := fun i j a b p e1 e2 e3 e4 => by
    obtain ⟨h1, h2⟩ := wipeD_get (by intro z; cases z) e1
    obtain ⟨h3, h4⟩ := wipeD_get (by intro z; cases z) e2
    rw [wipe_out' h2] at e3
    rw [wipe_out' h4] at e4
    exact m.dj i j a b p h1 h3 e3 e4
  kept := m.kept
  tabs := m.tabs
  tape := fun t e => by
    obtain ⟨ds, q⟩ := m.tape t e
    refine ⟨ds, ?_⟩
    have h0 : 0 ∉ vs := ht (by rw [e]; intro z; cases z)
    have key : ∀ vs : List Nat, 0 ∉ vs → (wipeD σd vs)[0]? = σd[0]? := by
      intro vs
      induction vs with
      | nil => intro _; rfl
      | cons v vs ih =>
        intro h
        simp only [List.mem_cons, not_or] at h
        unfold wipeD
        rw [List.getElem?_set_ne (fun e => h.1 e.symm)]
        exact ih h.2
    rw [key vs h0]
    exact q
  tapOne := fun i j a b e1 e2 => by
    obtain ⟨h1, h2⟩ := wipeD_get (by intro z; cases z) e1
    obtain ⟨h3, h4⟩ := wipeD_get (by intro z; cases z) e2
    exact m.tapOne i j a b h1 h3
theorem backD_len (σ0 σ1 : DEnv) : ∀ vs : List Nat, (backD σ0 σ1 vs).length = σ1.length
  | [] => rfl
  | v :: vs => by
    unfold backD
    split <;> rw [List.length_set, backD_len σ0 σ1 vs]
theorem backD_get {σ0 σ1 : DEnv} {i : Nat} {c : Cell} : ∀ {vs : List Nat}, (backD σ0 σ1 vs)[i]? = some c → (i ∈ vs ∧ ((∃ d, σ0[i]? = some (.val d) ∧ c = .val d) ∨ c = .emp)) ∨ (i ∉ vs ∧ σ1[i]? = some c)
  | [], h => .inr ⟨by simp, h⟩
  | v :: vs, h => by
    unfold backD at h
    split at h
    · rename_i d e
      rcases getset h with ⟨rfl, e0⟩ | ⟨ne, h⟩
      · exact .inl ⟨List.mem_cons_self, .inl ⟨d, e, e0.symm⟩⟩
      · rcases backD_get h with ⟨h1, h2⟩ | ⟨h1, h2⟩
        · exact .inl ⟨List.mem_cons_of_mem _ h1, h2⟩
        · exact .inr ⟨by simp only [List.mem_cons, not_or]; exact ⟨fun e => ne e.symm, h1⟩, h2⟩
    · rcases getset h with ⟨rfl, e0⟩ | ⟨ne, h⟩
      · exact .inl ⟨List.mem_cons_self, .inr e0.symm⟩
      · rcases backD_get h with ⟨h1, h2⟩ | ⟨h1, h2⟩
        · exact .inl ⟨List.mem_cons_of_mem _ h1, h2⟩
        · exact .inr ⟨by simp only [List.mem_cons, not_or]; exact ⟨fun e => ne e.symm, h1⟩, h2⟩
theorem Mt.back {σ0 σ1 : DEnv} {σ : L2.St} {H H' : Hp} {vs : List Nat} (m0 : Mt M σ0 σ H) (e : Ext H H') (m : Mt M σ1 (wipe σ vs) H') (ht : M.tape ≠ none → 0 ∉ vs) : Mt M (backD σ0 σ1 vs) σ H' where
  len := by rw [backD_len, m.len, wipe_length]
  val := fun i d q => by
    rcases backD_get q with ⟨h1, h2 | h2⟩ | ⟨h1, h2⟩
    · obtain ⟨d', h3, h4⟩ := h2
      cases h4
      obtain ⟨v, h5, h6⟩ := m0.val i _ h3
      exact ⟨v, h5, h6.ext e⟩
    · cases h2
    · obtain ⟨v, h5, h6⟩ := m.val i d h2
      rw [wipe_out' h1] at h5
      exact ⟨v, h5, h6⟩
  own := fun i d q => by
    rcases backD_get q with ⟨h1, h2 | h2⟩ | ⟨h1, h2⟩
    · obtain ⟨d', h3, h4⟩ := h2
      cases h4
    · cases h2
    · have := m.own i d h2
      rw [wipe_out' h1] at this
      exact this
  tap := fun i d q => by
    rcases backD_get q with ⟨h1, h2 | h2⟩ | ⟨h1, h2⟩
    · obtain ⟨d', h3, h4⟩ := h2
      cases h4
    · cases h2
    · have := m.tap i d h2
      rw [wipe_out' h1] at this
      exact this
  dj := fun i j a b p q1 q2 q3 q4 => by
    rcases backD_get q1 with ⟨h1, h2 | h2⟩ | ⟨h1, h2⟩
    · obtain ⟨d', h3, h4⟩ := h2
      cases h4
    · cases h2
    · rcases backD_get q2 with ⟨g1, g2 | g2⟩ | ⟨g1, g2⟩
      · obtain ⟨d', h3, h4⟩ := g2
        cases h4
      · cases g2
      · exact m.dj i j a b p h2 g2 (by rw [wipe_out' h1]; exact q3) (by rw [wipe_out' g1]; exact q4)
  kept := m.kept
  tabs := m.tabs
  tape := fun t q => by
    obtain ⟨ds, q1⟩ := m.tape t q
    have h0 : 0 ∉ vs := ht (by rw [q]; intro z; cases z)
    refine ⟨ds, ?_⟩
    have key : ∀ vs : List Nat, 0 ∉ vs → (backD σ0 σ1 vs)[0]? = σ1[0]? := by
      intro vs
      induction vs with
      | nil => intro _; rfl
      | cons v vs ih =>
        intro h
        simp only [List.mem_cons, not_or] at h
        unfold backD
        split <;> (rw [List.getElem?_set_ne (fun e => h.1 e.symm)]; exact ih h.2)
    rw [key vs h0]
    exact q1
  tapOne := fun i j a b q1 q2 => by
    rcases backD_get q1 with ⟨h1, h2 | h2⟩ | ⟨h1, h2⟩
    · obtain ⟨d', h3, h4⟩ := h2
      cases h4
    · cases h2
    · rcases backD_get q2 with ⟨g1, g2 | g2⟩ | ⟨g1, g2⟩
      · obtain ⟨d', h3, h4⟩ := g2
        cases h4
      · cases g2
      · exact m.tapOne i j a b h2 g2
/-- the list at D is to stay as it is -/
theorem Mt.guard {σd : DEnv} {σ : L2.St} {H : Hp} {D : Addr} {xs : List V} (m : Mt M σd σ H) (fr : Fresh M σd σ D) (h : H D = some (.lst xs)) : Mt (M.blk (upd M.H0 D (.lst xs))) σd σ H where
  len := m.len
  val := m.val
  own := fun i ds e => by
    obtain ⟨p, ys, h1, h2, h3, h4, h5⟩ := m.own i ds e
    refine ⟨p, ys, h1, h2, h3, ?_, h5⟩
    show upd M.H0 D (.lst xs) p = none
    rw [upd_ne (fun z => fr.own i ds e (by rw [← z]; exact h1))]
    exact h4
  tap := m.tap
  dj := m.dj
  kept := fun b o e ht => by
    have e : upd M.H0 D (.lst xs) b = some o := e
    by_cases hb : b = D
    · subst hb
      rw [upd_same] at e
      cases e
      exact .inl h
    · rw [upd_ne hb] at e
      exact m.kept b o e ht
  tabs := m.tabs
  tape := m.tape
  tapOne := m.tapOne
theorem Mt.unguard {σd : DEnv} {σ : L2.St} {H : Hp} {D : Addr} {xs : List V} (hD : M.H0 D = none) (hT : M.tape ≠ some D) (m : Mt (M.blk (upd M.H0 D (.lst xs))) σd σ H) : Mt M σd σ H ∧ Fresh M σd σ D ∧ H D = some (.lst xs) := by
  have ne : ∀ p, upd M.H0 D (.lst xs) p = none → p ≠ D := fun p q z => by subst z; rw [upd_same] at q; cases q
  refine ⟨⟨m.len, m.val, fun i ds e => ?_, m.tap, m.dj, fun b o e ht => ?_, m.tabs, m.tape, m.tapOne⟩, ⟨hD, hT, fun i ds e z => ?_⟩, ?_⟩
  · obtain ⟨p, ys, h1, h2, h3, h4, h5⟩ := m.own i ds e
    have h4 : upd M.H0 D (.lst xs) p = none := h4
    refine ⟨p, ys, h1, h2, h3, ?_, h5⟩
    have q := ne p h4
    rw [upd_ne q] at h4
    exact h4
  · refine m.kept b o ?_ ht
    show upd M.H0 D (.lst xs) b = some o
    rw [upd_ne (fun z => by subst z; rw [hD] at e; cases e)]
    exact e
  · obtain ⟨p, ys, h1, h2, h3, h4, h5⟩ := m.own i ds e
    rw [z] at h1
    cases h1
    exact ne D h4 rfl
  · have q := m.kept D (.lst xs) (show upd M.H0 D (.lst xs) D = _ from upd_same) hT
    rcases q with q | ⟨ps, more, e, _⟩
    · exact q
    · cases e
/-- the grown list -/
theorem Mt.grown {σd : DEnv} {σ : L2.St} {H : Hp} {D : Addr} {xs ys : List V} (m : Mt M σd σ H) (fr : Fresh M σd σ D) (h : H D = some (.lst xs)) : Mt M σd σ (upd H D (.lst ys)) := by
  have ex : Ext H (upd H D (.lst ys)) := Ext.wr h
  refine ⟨m.len, fun j d e => ?_, fun j es e => ?_, fun j es e => ?_, m.dj, fun b o e1 e2 => ?_, fun P hP => ?_, m.tape, m.tapOne⟩
  · obtain ⟨v, h1, h2⟩ := m.val j d e
    exact ⟨v, h1, h2.ext ex⟩
  · obtain ⟨q, zs, h1, h2, h3, h4⟩ := m.own j es e
    refine ⟨q, zs, h1, ?_, h3.ext ex, h4⟩
    rw [upd_ne (fun z => fr.own j es e (by rw [← z]; exact h1))]
    exact h2
  · obtain ⟨q, zs, h1, h2, h3, h4⟩ := m.tap j es e
    refine ⟨q, zs, h1, ?_, h3.ext ex, h4⟩
    rw [upd_ne (fun z => fr.tap (by rw [← z]; exact h4))]
    exact h2
  · rw [upd_ne (fun z => by subst z; rw [fr.ent] at e1; cases e1)]
    exact m.kept b o e1 e2
  · obtain ⟨ps, e, t⟩ := m.tabs P hP
    exact ⟨ps, by rw [upd_ne (ne_of e h (by intro z; cases z))]; exact e, t⟩

/-! ### one clause -/
@[simp] def yesB : DEnv → R Bool := fun σ => .ok true σ
/-- nothing may be raised within -/
@[simp] def R.noX {α : Type} (x : R α) : R α := match x with
  | .exc _ _ => .bad
  | y => y
/-- the turns of a comprehension -/
def lcF (vs : List Nat) (g : D → DEnv → Option DEnv) (t : DEnv → R Bool) (f : DEnv → R D) : List D → List D → DEnv → R (List D)
  | [], acc, σ => .ok acc σ
  | d :: ds, acc, σ => match g d σ with
    | none => .bad
    | some σ1 => (t σ1).noX.bind fun c σ2 => if c = true then (f σ2).noX.bind fun y σ3 => if acc.length < 1000000 then lcF vs g t f ds (acc ++ [y]) (wipeD σ3 vs) else .bad else lcF vs g t f ds acc (wipeD σ2 vs)
abbrev STs (X : Cx) (M : Mx) (ifs : List Expr) (t : DEnv → R Bool) : Prop := PTs X ifs (tT M t)
theorem sts_nil : STs X M [] yesB := ⟨fun pins s σ H Q I ⟨σd, m, q⟩ => pts_nil.run pins s σ H Q I (q H (Ext.refl H) m)⟩
theorem sts_one {c : Expr} {t : DEnv → R Bool} (h : ST X M c t) : STs X M [c] t := pts_one h
theorem wipe_wipe {σ : L2.St} {vs : List Nat} : wipe (wipe σ vs) vs = wipe σ vs := wipe_ext (wipe_length σ vs) fun j hj => wipe_out' hj
def lc (vs : List Nat) (src : DEnv → R (List D)) (g : D → DEnv → Option DEnv) (t : DEnv → R Bool) (f : DEnv → R D) : DEnv → R (List D) := fun σ =>
  (src σ).bind fun ds σ1 => (lcF vs g t f ds [] (wipeD σ1 vs)).bind fun acc σ2 => .ok acc (backD σ1 σ2 vs)
/-- the tape is no name of the block -/
def lcOk (M : Mx) (vs : List Nat) : Prop := M.tape ≠ none → 0 ∉ vs
theorem tLc_of {is vs : List Nat} {src : DEnv → R (List D)} {g : D → DEnv → Option DEnv} {t : DEnv → R Bool} {f : DEnv → R D} {wi : TI} {gg : TG} {tt : TT} {te : TE} (hok : lcOk M vs) (his : ∀ i ∈ is, i ∈ vs)
    (hwi : ∀ σ H Q, iD M src σ H Q → wi σ H Q) (hgg : ∀ H0 v σ H Q, gD (M.blk H0) is g v σ H Q → gg v σ H Q) (htt : ∀ H0 σ H Q, tT (M.blk H0) t σ H Q → tt σ H Q) (hte : ∀ H0 σ H Q, tE (M.blk H0) f σ H Q → te σ H Q)
    {σ : L2.St} {H : Hp} {Q : VK} (h : tF M (lc vs src g t f) σ H Q) : tLc wi gg tt te vs σ H Q := by
  obtain ⟨σd, m, q⟩ := h
  refine hwi _ _ _ ⟨σd, m, wpR_mono (wpR_bind.mp q) fun ds σ1 q1 J H1 e1 m1 hJ D hD => ?_⟩
  have fr0 : Fresh M (wipeD σ1 vs) (wipe σ vs) D := (m1.wiped hok).fresh hD
  have sm : Same H1 (upd H1 D (.lst [])) := same_upd hD
  refine ⟨fun i k H' => ∃ σ2 acc xs, k + i = ds.length ∧ Ext H1 H' ∧ Mt M σ2 (wipe σ vs) H' ∧ Fresh M σ2 (wipe σ vs) D ∧ H' D = some (.lst xs) ∧ RepAll M.K H' xs acc ∧
      wpR (lcF vs g t f (ds.drop i) acc σ2) (fun acc' σ3 => ∀ p ys H'', Ext H H'' → H'' p = some (.lst ys) → RepAll M.K H'' ys acc' → Mt M (backD σ1 σ3 vs) σ H'' → Fresh M (backD σ1 σ3 vs) σ p → Q (.ref p) H'') M.W,
    ⟨ds.length, wipeD σ1 vs, [], [], Nat.add_zero _, Ext.same sm, (m1.wiped hok).same sm, fr0, upd_same, .nil, by rw [List.drop_zero]; exact wpR_bind.mp q1⟩, fun i k H' ⟨σ2, acc, xs, hk, e2, m2, fr, hDx, ra, q2⟩ => ?_⟩
  cases k with
  | zero =>
    have hi : i = ds.length := by omega
    subst hi
    rw [List.drop_length] at q2
    refine .inl ⟨hJ.stop H' e2, q2 D xs H' (e1.trans e2) hDx ra (m1.back e2 m2 hok) ⟨fr.ent, fr.tap, fun j es e z => ?_⟩⟩
    rcases backD_get e with ⟨h1, h2 | h2⟩ | ⟨h1, h2⟩
    · obtain ⟨d', h3, h4⟩ := h2
      cases h4
    · cases h2
    · exact fr.own j es h2 (by rw [wipe_out' h1]; exact z)
  | succ k =>
    have hi : i < ds.length := by omega
    have hd : ds[i]? = some ds[i] := List.getElem?_eq_getElem hi
    rw [List.drop_eq_getElem_cons hi] at q2
    refine .inr ⟨hJ.go H' i _ e2 hd, fun H3 => ∃ σ4 acc4 xs4, Ext H1 H3 ∧ Mt M σ4 (wipe σ vs) H3 ∧ Fresh M σ4 (wipe σ vs) D ∧ H3 D = some (.lst xs4) ∧ RepAll M.K H3 xs4 acc4 ∧ wpR (lcF vs g t f (ds.drop (i + 1)) acc4 σ4) _ M.W,
      fun H3 ⟨σ4, acc4, xs4, z1, z2, z3, z4, z5, z6⟩ => ⟨k, Nat.lt_succ_self k, σ4, acc4, xs4, by omega, z1, z2, z3, z4, z5, z6⟩, fun x H3 hy => ?_⟩
    obtain ⟨s3, r3⟩ := hJ.yld H' i _ x H3 e2 hd hy
    unfold lcF at q2
    cases hg2 : g ds[i] σ2 with
    | none => rw [hg2] at q2; exact q2.elim
    | some σ3 =>
      rw [hg2] at q2
      have mg : Mt (M.blk (upd M.H0 D (.lst xs))) σ2 (wipe σ vs) H3 := ((m2.guard fr hDx).same s3)
      refine hgg _ _ _ _ _ ⟨ds[i], σ2, σ3, r3, mg, hg2, fun σ4 H4 e4 m4 l4 => ⟨?_, ?_⟩⟩
      · rw [wipe_ext (σ := wipe σ vs) (σ' := σ4) l4.1 fun j hj => l4.2 j fun z => hj (his j z)]
        exact wipe_wipe
      · have hw4 : wipe σ4 vs = wipe σ vs := by
          rw [wipe_ext (σ := wipe σ vs) (σ' := σ4) l4.1 fun j hj => l4.2 j fun z => hj (his j z)]
          exact wipe_wipe
        refine htt _ _ _ _ ⟨σ3, m4, ?_⟩
        have q3 := wpR_bind.mp q2
        cases hts : t σ3 with
        | bad => rw [hts] at q3; exact q3.elim
        | exc c σ5 => rw [hts] at q3; exact q3.elim
        | ok c σ5 =>
          rw [hts] at q3
          intro H5 e5 m5
          have q3 : wpR (if c = true then _ else _) _ M.W := q3
          cases c with
          | true =>
            rw [if_pos rfl] at q3
            refine iteT (hte _ _ _ _ ⟨σ5, m5, ?_⟩)
            have q4 := wpR_bind.mp q3
            cases hfs : f σ5 with
            | bad => rw [hfs] at q4; exact q4.elim
            | exc c σ6 => rw [hfs] at q4; exact q4.elim
            | ok y σ6 =>
              rw [hfs] at q4
              intro v H6 e6 r6 m6
              have q4 : wpR (if acc.length < 1000000 then _ else _) _ M.W := q4
              obtain ⟨m7, fr7, hD7⟩ := Mt.unguard fr.ent fr.tap m6
              split at q4
              · rename_i hlen
                have hl := ra.length
                have e36 : Ext H' H6 := (Ext.same s3).trans (e4.trans (e5.trans e6))
                refine ⟨xs, hD7, mil (by omega), wipeD σ6 vs, acc ++ [y], xs ++ [v], e2.trans (e36.trans (Ext.wr hD7)), ?_, ?_, upd_same, ?_, q4⟩
                · have := (m7.grown (ys := xs ++ [v]) fr7 hD7).wiped (vs := vs) hok
                  rw [hw4] at this
                  exact this
                · refine ⟨fr.ent, fr.tap, fun j es e z => ?_⟩
                  obtain ⟨h1, h2⟩ := wipeD_get (by intro z; cases z) e
                  refine fr7.own j es h1 ?_
                  rw [← hw4, wipe_out' h2] at z
                  exact z
                · exact (ra.ext (e36.trans (Ext.wr hD7))).app (.cons (r6.ext (Ext.wr hD7)) .nil)
              · exact q4.elim
          | false =>
            rw [if_neg Bool.false_ne_true] at q3
            obtain ⟨m7, fr7, hD7⟩ := Mt.unguard fr.ent fr.tap m5
            have e35 : Ext H' H5 := (Ext.same s3).trans (e4.trans e5)
            refine iteF ⟨wipeD σ5 vs, acc, xs, e2.trans e35, ?_, ?_, hD7, ra.ext e35, q3⟩
            · have := m7.wiped (vs := vs) hok
              rw [hw4] at this
              exact this
            · refine ⟨fr.ent, fr.tap, fun j es e z => ?_⟩
              obtain ⟨h1, h2⟩ := wipeD_get (by intro z; cases z) e
              refine fr7.own j es h1 ?_
              rw [← hw4, wipe_out' h2] at z
              exact z

variable {elt tg it : Expr} {ifs : List Expr} {scope : Scope} {own : List (Str × Nat)} {pos spos py : Pos} {is : List Nat} {src : DEnv → R (List D)} {g : D → DEnv → Option DEnv} {t : DEnv → R Bool} {f : DEnv → R D}
/-- [elt for tg in it if ..] -/
theorem sf_lc (hc : X.calm = true) (hN : X.N.Nodup) (hi : SI X M tg it src) (ok : BlkOk X.N X.env.scope scope own) (hok : lcOk M (own.map (·.2))) (his : ∀ i ∈ is, i ∈ own.map (·.2))
    (hg : ∀ (H0 : Hp) (s : Shared) (H : Hp) (C : Addr) (cl : List (Str × Addr)) (fp : List Addr), SG (X.blk s H scope (compEnvC scope cl C X.env) fp) (M.blk H0) is tg g)
    (ht : ∀ (H0 : Hp) (s : Shared) (H : Hp) (C : Addr) (cl : List (Str × Addr)) (fp : List Addr), STs (X.blk s H scope (compEnvC scope cl C X.env) fp) (M.blk H0) ifs t)
    (he : ∀ (H0 : Hp) (s : Shared) (H : Hp) (C : Addr) (cl : List (Str × Addr)) (fp : List Addr), SE (X.blk s H scope (compEnvC scope cl C X.env) fp) (M.blk H0) elt f) (hs : ∀ x, foldedSetIterable it X.env x = pure x := by intro _; rfl) :
    SF X M (.ListComp elt [⟨tg, it, ifs, 0⟩] scope pos) (lc (own.map (·.2)) src g t f) :=
  PE.weak (pe_lc (g := fun v σ H Q => ∃ H0, gD (M.blk H0) is g v σ H Q) (tt := fun σ H Q => ∃ H0, tT (M.blk H0) t σ H Q) (te := fun σ H Q => ∃ H0, tE (M.blk H0) f σ H Q) hc hN hi ok
    (fun s H C cl fp => ⟨fun pins s' σ H' v u Q I r ⟨H0, q⟩ => (hg H0 s H C cl fp).run pins s' σ H' v u Q I r q⟩)
    (fun s H C cl fp => ⟨fun pins s' σ H' Q I ⟨H0, q⟩ => (ht H0 s H C cl fp).run pins s' σ H' Q I q⟩)
    (fun s H C cl fp => ⟨fun pins s' σ H' Q I ⟨H0, q⟩ => (he H0 s H C cl fp).run pins s' σ H' Q I q⟩) hs)
    fun σ H Q h => tLc_of hok his (fun _ _ _ z => z) (fun H0 _ _ _ _ z => ⟨H0, z⟩) (fun H0 _ _ _ z => ⟨H0, z⟩) (fun H0 _ _ _ z => ⟨H0, z⟩) h
/-- y = [..] on one line: the list is y's own -/
theorem ss_setLc {i : Nat} {y : Str} (hc : X.calm = true) (hN : X.N.Nodup) (hy : X.N[i]? = some y) (hyl : X.env.scope.names.lookup y = some .local)
    (hsw : swapsWith (.ListComp elt [⟨tg, it, ifs, 0⟩] scope pos) (some (.Name y py)) spos.line X.env = pure true) (hi : SI X M tg it src) (ok : BlkOk X.N X.env.scope scope own) (hok : lcOk M (own.map (·.2))) (his : ∀ i ∈ is, i ∈ own.map (·.2))
    (hg : ∀ (H0 : Hp) (s : Shared) (H : Hp) (C : Addr) (cl : List (Str × Addr)) (fp : List Addr), SG (X.blk s H scope (compEnvC scope cl C X.env) fp) (M.blk H0) is tg g)
    (ht : ∀ (H0 : Hp) (s : Shared) (H : Hp) (C : Addr) (cl : List (Str × Addr)) (fp : List Addr), STs (X.blk s H scope (compEnvC scope cl C X.env) fp) (M.blk H0) ifs t)
    (he : ∀ (H0 : Hp) (s : Shared) (H : Hp) (C : Addr) (cl : List (Str × Addr)) (fp : List Addr), SE (X.blk s H scope (compEnvC scope cl C X.env) fp) (M.blk H0) elt f) (hs : ∀ x, foldedSetIterable it X.env x = pure x := by intro _; rfl) :
    SS X M (.Assign [.Name y py] (.ListComp elt [⟨tg, it, ifs, 0⟩] scope pos) spos) (fun σ => (lc (own.map (·.2)) src g t f σ).thn (setF i)) :=
  PS.weak (ps_setLc (g := fun v σ H Q => ∃ H0, gD (M.blk H0) is g v σ H Q) (tt := fun σ H Q => ∃ H0, tT (M.blk H0) t σ H Q) (te := fun σ H Q => ∃ H0, tE (M.blk H0) f σ H Q) hc hN hy hyl hsw hi ok
    (fun s H C cl fp => ⟨fun pins s' σ H' v u Q I r ⟨H0, q⟩ => (hg H0 s H C cl fp).run pins s' σ H' v u Q I r q⟩)
    (fun s H C cl fp => ⟨fun pins s' σ H' Q I ⟨H0, q⟩ => (ht H0 s H C cl fp).run pins s' σ H' Q I q⟩)
    (fun s H C cl fp => ⟨fun pins s' σ H' Q I ⟨H0, q⟩ => (he H0 s H C cl fp).run pins s' σ H' Q I q⟩) hs)
    fun D σ H ⟨σd, m, q⟩ => tLc_of hok his (fun _ _ _ z => z) (fun H0 _ _ _ _ z => ⟨H0, z⟩) (fun H0 _ _ _ z => ⟨H0, z⟩) (fun H0 _ _ _ z => ⟨H0, z⟩) ⟨σd, m, wpR_mono (wpR_thn q) fun ds σ1 q1 p xs H1 e1 hp ra m1 fr => wpO_setF q1 e1 hp ra m1 fr⟩
/-- .. or a datum for good -/
theorem ss_lockV {st : Stmt} {i : Nat} {F : DEnv → R (List D)} (h : SS X M st (fun σ => (F σ).thn (setF i))) : SS X M st (fun σ => (F σ).thn fun ds σ1 => setV i (.list ds) σ1) := by
  refine ⟨fun pins s σ H D I ⟨σd, m, q⟩ => ?_⟩
  refine thn (h.run pins s σ H { D with nx := fun σ' H' => ∃ σ1 ds, Ext H H' ∧ Mt M σ1 σ' H' ∧ σ1[i]? = some (.own ds) ∧ ∀ σ'' H'', Ext H H'' → Mt M (σ1.set i (.val (.list ds))) σ'' H'' → D.nx σ'' H'' } I ⟨σd, m, ?_⟩) fun fl s1 hfl => ?_
  · simp only at q ⊢
    cases hF : F σd with
    | bad => rw [hF] at q; exact q.elim
    | exc c σ1 => rw [hF] at q; exact q
    | ok ds σ1 =>
      rw [hF] at q
      have q : wpO M (setV i (.list ds) σ1) H D := q
      simp only [R.thn]
      unfold setV at q
      unfold setF
      cases hc : setC i (.val (.list ds)) σ1 with
      | none => rw [hc] at q; exact q.elim
      | some σ2 =>
        rw [hc] at q
        obtain ⟨rfl, hl, hn⟩ := setC_spec hc
        have hc2 : setC i (.own ds) σ1 = some (σ1.set i (.own ds)) := by
          unfold setC
          have e : σ1[i]? = some σ1[i] := List.getElem?_eq_getElem hl
          rw [e]
          split
          · rename_i z
            exact absurd (e.trans z) (hn _)
          · rfl
          · rename_i z; cases z
        rw [hc2]
        refine fun σ' H' e m1 => ⟨_, ds, e, m1, List.getElem?_set_self hl, fun σ'' H'' e2 m2 => ?_⟩
        rw [List.set_set] at m2
        exact q σ'' H'' e2 m2
  · cases fl with
    | next =>
      obtain ⟨σ', H', I', σ1, ds, e, m1, ho, k⟩ := hfl
      obtain ⟨p, xs, h1, h2, h3, h4, h5⟩ := m1.own i ds ho
      obtain ⟨od, I2⟩ := I'.lock h2 trivial
      obtain ⟨m2, _⟩ := m1.lock (od := od) ho h1 h2 h3 h4 h5
      exact ⟨σ', _, I2, k σ' _ (e.trans (Ext.wr h2)) m2⟩
    | brk => exact hfl
    | cont => exact hfl
    | ret u => exact hfl
end
end PL
set_option Elab.async false
set_option linter.all false
set_option maxRecDepth 100000
set_option autoImplicit false
/-! Subscripts, calls, promises over data. -/
namespace PL
open PySem PySem.Spec PyProof.Rows L2

section
variable {X : Cx} {M : Mx} {e k : Expr} {f g : DEnv → R D} {fs : DEnv → R (List D)} {pos p : Pos}

/-! ### x[k] -/
/-- an item of a list, a tuple, a text -/
def dIx : D → D → Option D
  | .list ds, .int i => (ixN ds.length i).bind fun j => ds[j]?
  | .tuple ds, .int i => (ixN ds.length i).bind fun j => ds[j]?
  | .str z, .int i => if z.length ≤ 1000000 then (atI z.cps.toList i).map fun c => .str ⟨#[c]⟩ else none
  | _, _ => none
theorem atI_of {K : PySem.W.Frag} {H : Hp} {xs : List V} {ds : List D} {i : Int} {d : D} (r : RepAll K H xs ds) (h : (ixN ds.length i).bind (fun j => ds[j]?) = some d) : ∃ v, atI xs i = some v ∧ Rep K H v d := by
  simp only [Option.bind_eq_some_iff] at h
  obtain ⟨j, h1, h2⟩ := h
  obtain ⟨v, h3, h4⟩ := r.get h2
  refine ⟨v, ?_, h4⟩
  unfold atI
  rw [r.length, h1]
  exact h3
theorem ix_ok : IxR X (rD X.K dIx) := by
  intro value slice pins s σ H x y v u Q I rx ry h hs
  obtain ⟨d, e, z, h1, h2, hz, q⟩ := h
  cases h2 with
  | int i =>
    cases h1 with
    | @lst a xs ds g1 g2 =>
      obtain ⟨w, h3, h4⟩ := atI_of g2 hz
      exact ix_seq value slice pins s σ H _ _ v u Q I rx ry (.inl ⟨a, xs, i, w, rfl, rfl, g1.sq, h3, q _ _ (Same.refl _) h4⟩) hs
    | @tup a xs ds g1 g2 =>
      obtain ⟨w, h3, h4⟩ := atI_of g2 hz
      exact ix_seq value slice pins s σ H _ _ v u Q I rx ry (.inr (.inl ⟨a, xs, i, w, rfl, rfl, g1, h3, q _ _ (Same.refl _) h4⟩)) hs
    | str t =>
      simp only [dIx] at hz
      split at hz
      · rename_i hl
        simp only [Option.map_eq_some_iff] at hz
        obtain ⟨c, hc, rfl⟩ := hz
        exact ix_seq value slice pins s σ H _ _ v u Q I rx ry (.inr (.inr ⟨t, i, c, rfl, rfl, Nat.le_of_lt (mil hl), hc, q _ _ (Same.refl _) (.str _)⟩)) hs
      · cases hz
    | _ => cases hz
  | _ => cases h1 <;> cases hz
theorem se_ix (hK : X.K = M.K) (ha : SE X M e f) (hb : SE X M k g) (hs : PlainIx k := by exact fun _ _ => rfl) : SE X M (.Subscript e k pos) (bin dIx f g) :=
  PE.weak (pe_ix ix_ok ha hb hs) fun σ H Q h => tOp_of hK h
/-- x[k], x a name: read when the key is there -/
@[simp] def ixV (i : Nat) (g : DEnv → R D) : DEnv → R D := fun σ => match rd i σ with
  | some _ => (g σ).bind fun kd σ1 => match rd i σ1 with
    | some d => lift (dIx d kd) σ1
    | none => .bad
  | none => .bad
theorem Mt.rd {σd : DEnv} {σ : L2.St} {H : Hp} {i : Nat} {d : D} (m : Mt M σd σ H) (h : rd i σd = some d) : ∃ v, σ[i]? = some (some v) ∧ (Rep M.K H v d ∨ ∃ p xs ds, v = .ref p ∧ H p = some (.lst xs) ∧ RepAll M.K H xs ds ∧ d = .list ds) := by
  unfold PL.rd at h
  split at h
  · rename_i d' e
    cases h
    obtain ⟨v, h1, h2⟩ := m.val i _ e
    exact ⟨v, h1, .inl h2⟩
  · rename_i ds e
    cases h
    obtain ⟨p, xs, h1, h2, h3, _⟩ := m.own i _ e
    exact ⟨_, h1, .inr ⟨p, xs, ds, rfl, h2, h3, rfl⟩⟩
  · rename_i ds e
    cases h
    obtain ⟨p, xs, h1, h2, h3, _⟩ := m.tap i _ e
    exact ⟨_, h1, .inr ⟨p, xs, ds, rfl, h2, h3, rfl⟩⟩
  · cases h
theorem se_ixV {i : Nat} {x : Str} {px : Pos} (hK : X.K = M.K) (hN : X.N[i]? = some x) (hv : Vis X.env.scope x) (hb : SE X M k g) (hs : PlainIx k := by exact fun _ _ => rfl) (hd : (x == ("__debug__" : Str)) = false := by decide) (hcd : (x == ("__classdict__" : Str)) = false := by decide) : SE X M (.Subscript (.Name x px) k pos) (ixV i g) := by
  have base : PE X (.Name x px) (tVar i) := pe_var hN hv hd hcd
  refine PE.weak (pe_ix (IxR.or (ix_ok (X := X)) (ix_list (X := X))) base hb hs) fun σ H Q ⟨σd, m, q⟩ => ?_
  unfold ixV at q
  cases hr : rd i σd with
  | none => rw [hr] at q; exact q.elim
  | some d0 =>
    rw [hr] at q
    obtain ⟨v, h1, _⟩ := m.rd hr
    refine ⟨v, h1, σd, m, wpR_mono (wpR_bind.mp q) fun kd σ1 q1 w H1 e1 r1 m1 => ?_⟩
    cases hr1 : rd i σ1 with
    | none => rw [hr1] at q1; exact q1.elim
    | some d1 =>
      rw [hr1] at q1
      obtain ⟨z, hz, q2⟩ := wpR_lift.mp q1
      obtain ⟨v', h2, h3⟩ := m1.rd hr1
      rw [h1] at h2
      cases h2
      rcases h3 with h3 | ⟨p, xs, ds, rfl, h4, h5, rfl⟩
      · exact .inl ⟨d1, kd, z, by rw [hK]; exact h3, by rw [hK]; exact r1, hz, fun u H2 s2 r2 => q2 u H2 (e1.trans (Ext.same s2)) (by rw [← hK]; exact r2) (m1.same s2)⟩
      · cases r1 with
        | int j =>
          obtain ⟨w, h6, h7⟩ := atI_of h5 hz
          exact .inr ⟨p, xs, j, w, rfl, rfl, SqL.of h4, h6, q2 w H1 e1 h7 m1⟩
        | _ => cases hz

/-! ### x[lo:hi] -/
def optI : Option D → Option (Option Int)
  | none => some none
  | some (.int i) => some (some i)
  | _ => none
@[simp] def noPart : DEnv → R (Option Int) := fun σ => .ok none σ
@[simp] def part (f : DEnv → R D) : DEnv → R (Option Int) := fun σ => (f σ).bind fun d σ1 => match d with
  | .int i => .ok (some i) σ1
  | _ => .bad
def tO (M : Mx) (f : DEnv → R (Option Int)) : TO := fun σ H Q => ∃ σd, Mt M σd σ H ∧ wpR (f σd) (fun o σ1 => ∀ H', Ext H H' → Mt M σ1 σ H' → Q o H') M.W
abbrev SO (X : Cx) (M : Mx) (e : Option Expr) (f : DEnv → R (Option Int)) : Prop := PO X e (tO M f)
theorem PO.weak {e : Option Expr} {t t' : TO} (h : PO X e t) (k : ∀ σ H Q, t' σ H Q → t σ H Q) : PO X e t' := ⟨fun pins s σ H Q I q => h.run pins s σ H Q I (k _ _ _ q)⟩
theorem so_none : SO X M none noPart := PO.weak po_none fun σ H Q ⟨σd, m, q⟩ => q H (Ext.refl H) m
theorem so_some (h : SE X M e f) : SO X M (some e) (part f) := PO.weak (po_some h) fun σ H Q ⟨σd, m, q⟩ => ⟨σd, m, wpR_mono (wpR_bind.mp q) fun d σ1 q1 v H1 e1 r1 m1 => by
  cases r1 with
  | int i => exact ⟨i, rfl, q1 H1 e1 m1⟩
  | _ => exact q1.elim⟩
def cutD {α : Type} (xs : List α) (lo hi : Option Int) : List α := (xs.drop (HT.sIx xs.length 0 lo)).take (HT.sIx xs.length xs.length hi - HT.sIx xs.length 0 lo)
def dSl : D → Option Int → Option Int → Option D
  | .list ds, lo, hi => some (.list (cutD ds lo hi))
  | .tuple ds, lo, hi => some (.tuple (cutD ds lo hi))
  | .str z, lo, hi => if z.length ≤ 1000000 then some (.str (cutS z lo hi)) else none
  | _, _, _ => none
theorem RepAll.cut {K : PySem.W.Frag} {H : Hp} {xs : List V} {ds : List D} (r : RepAll K H xs ds) (lo hi : Option Int) : RepAll K H (cutV xs lo hi) (cutD ds lo hi) := by
  unfold cutV cutD
  rw [r.length]
  exact (r.drop _).take _
theorem cutD_all {α : Type} {xs : List α} {lo hi : Option Int} (h : HT.sIx xs.length 0 lo = 0 ∧ HT.sIx xs.length xs.length hi = xs.length) : cutD xs lo hi = xs := by
  unfold cutD
  rw [h.1, h.2, List.drop_zero, Nat.sub_zero, List.take_length]
def rSl (K : PySem.W.Frag) : V → Option Int → Option Int → Hp → VK → Prop := fun x lo hi H Q => ∃ d z, Rep K H x d ∧ dSl d lo hi = some z ∧ ∀ v H', Same H H' → Rep K H' v z → Q v H'
theorem SlR.lock {r r' : V → Option Int → Option Int → Hp → VK → Prop} (h : SlR X r) (k : ∀ x lo hi H Q, r' x lo hi H Q → ∃ Q0 : VK, r x lo hi H Q0 ∧ ∀ pins σ u s, EP X pins σ Q0 u s → EP X pins σ Q u s) : SlR X r' := by
  intro pins s σ H x v vl vu lo hi sl Q I rx hs pl pu q
  obtain ⟨Q0, q0, up⟩ := k _ _ _ _ _ q
  obtain ⟨T, id, h1, h2, h3⟩ := h pins s σ H x v vl vu lo hi sl Q0 I rx hs pl pu q0
  exact ⟨T, id, h1, h2, thn h3 fun u s' hu => up _ _ _ _ hu⟩
theorem sl_ok : SlR X (rSl X.K) := by
  refine SlR.lock (sl_list.or (sl_tupA.or sl_str)) fun x lo hi H Q ⟨d, z, h1, hz, q⟩ => ?_
  cases h1 with
  | @lst a xs ds g1 g2 =>
    cases hz
    refine ⟨fun v H' => ∃ p ys H1, v = .ref p ∧ Same H H1 ∧ H1 p = none ∧ H' = upd H1 p (.lst ys) ∧ RepAll X.K H1 ys (cutD ds lo hi), .inl ⟨a, xs, rfl, g1.sq, fun p hp => ⟨p, _, H, rfl, Same.refl _, hp, rfl, g2.cut lo hi⟩⟩, fun pins σ u s hu => lock_new X.K hu q⟩
  | @tup a xs ds g1 g2 =>
    cases hz
    refine ⟨Q, .inr (.inl ⟨a, xs, rfl, g1, fun hw => ?_, fun hw p hp => ?_⟩), fun _ _ _ _ z => z⟩
    · rw [g2.length] at hw
      rw [cutD_all hw] at q
      exact q _ _ (Same.refl _) (.tup g1 g2)
    · have sm : Same H (upd H p (.tup (cutV xs lo hi))) := same_upd hp
      exact q _ _ sm (.tup (SqT.of upd_same) ((g2.cut lo hi).ext (Ext.same sm)))
  | str t =>
    simp only [dSl] at hz
    split at hz
    · rename_i hl
      cases hz
      exact ⟨Q, .inr (.inr ⟨t, rfl, Nat.le_of_lt (mil hl), q _ _ (Same.refl _) (.str _)⟩), fun _ _ _ _ z => z⟩
    · cases hz
  | _ => cases hz
@[simp] def slE (f : DEnv → R D) (lo hi : DEnv → R (Option Int)) : DEnv → R D := fun σ => (f σ).bind fun d σ1 => (lo σ1).bind fun l σ2 => (hi σ2).bind fun h σ3 => lift (dSl d l h) σ3
theorem se_slice {lo hi : Option Expr} {fl fh : DEnv → R (Option Int)} {p2 : Pos} (hK : X.K = M.K) (ha : SE X M e f) (hl : SO X M lo fl) (hh : SO X M hi fh) : SE X M (.Subscript e (.Slice lo hi none p2) pos) (slE f fl fh) :=
  PE.weak (pe_slice sl_ok ha hl hh) fun σ H Q ⟨σd, m, q⟩ => ⟨σd, m, wpR_mono (wpR_bind.mp q) fun d σ1 q1 v H1 e1 r1 m1 => ⟨σ1, m1, wpR_mono (wpR_bind.mp q1) fun l σ2 q2 H2 e2 m2 => ⟨σ2, m2, wpR_mono (wpR_bind.mp q2) fun h σ3 q3 H3 e3 m3 => by
    obtain ⟨z, hz, q4⟩ := wpR_lift.mp q3
    exact ⟨d, z, by rw [hK]; exact r1.ext (e2.trans e3), hz, fun u H4 s4 r4 => q4 u H4 (e1.trans (e2.trans (e3.trans (Ext.same s4)))) (by rw [← hK]; exact r4) (m3.same s4)⟩⟩⟩⟩

/-! ### calls of defs -/
/-- what a def gives of data -/
inductive Ans where
  | ok (d : D)
  | exc (c : Nat)
  | bad
/-- what stood at the entry stands behind -/
def KeptH (H H' : Hp) : Prop := ∀ b o, H b = some o → Kept o (H' b)
theorem KeptH.refl (H : Hp) : KeptH H H := fun b o h => .inl h
theorem KeptH.ext {H H' : Hp} (k : KeptH H H') : Ext H H' where
  tup := fun b xs h => by
    rcases k b _ h with q | ⟨_, _, e, _⟩
    · exact q
    · cases e
  frz := fun b o u h => by
    rcases k b _ h with q | ⟨_, _, e, _⟩
    · exact q
    · cases e
/-- the promise: of the data ds, F ds -/
def spD (K : PySem.W.Frag) (tabs : List Addr) (cls : Nat → Addr) (F : List D → Ans) : Sp := fun vs H Q E => ∃ ds, RepAll K H vs ds ∧ (∀ P ∈ tabs, TabG H P) ∧
  match F ds with
  | .ok d => ∀ v H', KeptH H H' → (∀ P ∈ tabs, TabG H' P) → Rep K H' v d → Q v H'
  | .exc c => ∀ H', KeptH H H' → (∀ P ∈ tabs, TabG H' P) → E (.ref (cls c)) none H'
  | .bad => False
/-- what a def gives where its first argument is a list that is lent: the answer, the list behind it -/
inductive AnsT where
  | ok (d : D) (tp : List D)
  | bad
def spT (K : PySem.W.Frag) (tabs : List Addr) (F : List D → List D → AnsT) : Sp := fun vs H Q E => ∃ (t : Addr) (ws xs : List V) (tp ds : List D), vs = .ref t :: ws ∧ H t = some (.lst xs) ∧ RepAll K H xs tp ∧ RepAll K H ws ds ∧ (∀ P ∈ tabs, TabG H P) ∧
  match F tp ds with
  | .ok d tp' => ∀ v H' xs', (∀ b o, H b = some o → b ≠ t → Kept o (H' b)) → (∀ P ∈ tabs, TabG H' P) → H' t = some (.lst xs') → RepAll K H' xs' tp' → Rep K H' v d → Q v H'
  | .bad => False
/-- a def of the program with its meaning -/
structure FnD (P : Program) (w : World) (K : PySem.W.Frag) (mg : Str → Option Value) (base : Heap) (tabs : List Addr) (cls : Nat → Addr) (k : Nat) (x : Str) (F : List D → Ans) : Prop where
  ex : ∃ (f : Addr) (fd : FuncData) (ps : List Str), mg x = some (.ref f) ∧ PySem.W.keepIn K (.ref f) = true ∧ Binds K fd ps [] ∧ FnOk P w K mg base (L2.CX P w) k f fd ps (spD K tabs cls F)
structure FnT (P : Program) (w : World) (K : PySem.W.Frag) (mg : Str → Option Value) (base : Heap) (tabs : List Addr) (k : Nat) (x : Str) (F : List D → List D → AnsT) : Prop where
  ex : ∃ (f : Addr) (fd : FuncData) (ps : List Str), mg x = some (.ref f) ∧ PySem.W.keepIn K (.ref f) = true ∧ Binds K fd ps [] ∧ FnOk P w K mg base (L2.CX P w) k f fd ps (spT K tabs F)
/-- what is wished of an exception -/
def wOf (M : Mx) : WX := fun cls d σ H => ∃ c σd, cls = .ref (M.cls c) ∧ d = none ∧ Mt M σd σ H ∧ M.W c σd
/-- where one stands -/
structure Ok (X : Cx) (M : Mx) (k : Nat) : Prop where
  hK : X.K = M.K
  calm : X.calm = true
  nd : X.N.Nodup
  room : Room k X.A
  tk : Takes X (wOf M)
  own : PassesOwn (model X.prog X.w) X.A X.env X.xe
theorem takes_none {X : Cx} {W : WX} (h : ∀ c d σ H, ¬ W c d σ H) : Takes X W := fun _ _ x => by
  obtain ⟨_, _, _, _, _, _, _, _, _, _, _, _, _, _, _, _, z⟩ := x
  exact absurd z (h _ _ _ _)
theorem Ok.blk {kk : Nat} (o : Ok X M kk) (H0 : Hp) (s : Shared) (H : Hp) (scope : Scope) (cenv : PySem.Env) (fp : List Addr) : Ok (X.blk s H scope cenv fp) (M.blk H0) kk :=
  ⟨o.hK, o.calm, o.nd, o.room, takes_none fun _ _ _ _ ⟨_, _, _, _, _, z⟩ => z, PassesOwn.never⟩
theorem Ok.mono {j kk : Nat} (o : Ok X M kk) (h : j ≤ kk) : Ok X M j := ⟨o.hK, o.calm, o.nd, o.room.mono h, o.tk, o.own⟩
@[simp] def callF (F : List D → Ans) (fs : DEnv → R (List D)) : DEnv → R D := fun σ => (fs σ).bind fun ds σ1 => match F ds with
  | .ok d => .ok d σ1
  | .exc c => .exc c σ1
  | .bad => .bad
theorem Mt.behind {σd : DEnv} {σ : L2.St} {H H' : Hp} (m : Mt M σd σ H) (k : KeptH H H') (t : ∀ P ∈ M.tabs, TabG H' P) : Mt M σd σ H' where
  len := m.len
  val := fun i d e => let ⟨v, h1, h2⟩ := m.val i d e; ⟨v, h1, h2.ext k.ext⟩
  own := fun i ds e => by
    obtain ⟨p, xs, h1, h2, h3, h4⟩ := m.own i ds e
    refine ⟨p, xs, h1, ?_, h3.ext k.ext, h4⟩
    rcases k p _ h2 with q | ⟨_, _, e, _⟩
    · exact q
    · cases e
  tap := fun i ds e => by
    obtain ⟨p, xs, h1, h2, h3, h4⟩ := m.tap i ds e
    refine ⟨p, xs, h1, ?_, h3.ext k.ext, h4⟩
    rcases k p _ h2 with q | ⟨_, _, e, _⟩
    · exact q
    · cases e
  dj := m.dj
  kept := fun b o h ht => (m.kept b o h ht).trans fun o' h' => k b o' h'
  tabs := t
  tape := m.tape
  tapOne := m.tapOne
variable {es : List Expr} {x : Str} {kk jj : Nat} {F : List D → Ans} {FT : List D → List D → AnsT}
/-- f(e, ..) -/
theorem se_call (o : Ok X M kk) (G : FnD X.prog X.w X.K X.mg X.base M.tabs M.cls jj x F) (hj : jj ≤ kk) (hg : Gl X x) (ha : SA X M (e :: es) fs)
    (hdb : (x == ("__debug__" : Str)) = false := by decide) (he : starEach (e :: es) X.env = (false, eval e X.env) :: starEach es X.env := by rfl) (hpl : (backTo pos (starEach es X.env)).any (·.1) = false := by rfl) :
    SE X M (.Call (.Name x p) (e :: es) [] pos) (callF F fs) := by
  obtain ⟨f, fd, ps, hm, hk, hb, hF⟩ := G.ex
  refine PE.weak (pe_callS hF (o.room.mono hj) hg hm hk hb (fun σ => passAt o.tk σ) ha hdb he hpl) fun σ H Q ⟨σd, m, q⟩ => ⟨σd, m, wpR_mono (wpR_bind.mp q) fun ds σ1 q1 vs H1 e1 r1 m1 => ?_⟩
  refine ⟨ds, by rw [o.hK]; exact r1, m1.tabs, ?_⟩
  cases hF2 : F ds with
  | ok d =>
    rw [hF2] at q1
    exact fun v H' kp tb r => q1 v H' (e1.trans kp.ext) (by rw [← o.hK]; exact r) (m1.behind kp tb)
  | exc c =>
    rw [hF2] at q1
    exact fun H' kp tb => ⟨c, σ1, rfl, rfl, m1.behind kp tb, q1⟩
  | bad => rw [hF2] at q1; exact q1.elim
theorem ext_but {H H' : Hp} {p : Addr} {xs : List V} (hH : H p = some (.lst xs)) (kp : ∀ b o, H b = some o → b ≠ p → Kept o (H' b)) : Ext H H' where
  tup := fun b zs q => by
    rcases kp b _ q (ne_of q hH (by intro z; cases z)) with z | ⟨_, _, e, _⟩
    · exact z
    · cases e
  frz := fun b ob u q => by
    rcases kp b _ q (ne_of q hH (by intro z; cases z)) with z | ⟨_, _, e, _⟩
    · exact z
    · cases e
/-- the lent list behind a call that was given it -/
theorem Mt.lent {σd : DEnv} {σ : L2.St} {H H' : Hp} {i : Nat} {ds es : List D} {p : Addr} {xs ys : List V} (m : Mt M σd σ H) (h : PL.lstOf i σd = some ds) (hp : σ[i]? = some (some (.ref p))) (hH : H p = some (.lst xs))
    (kp : ∀ b o, H b = some o → b ≠ p → Kept o (H' b)) (tb : ∀ P ∈ M.tabs, TabG H' P) (hH' : H' p = some (.lst ys)) (ra : RepAll M.K H' ys es) : Mt M (PL.putL i es σd) σ H' := by
  have ex : Ext H H' := ext_but hH kp
  have other : ∀ b zs, H b = some (.lst zs) → b ≠ p → H' b = some (.lst zs) := fun b zs q hb => by
    rcases kp b _ q hb with z | ⟨_, _, e, _⟩
    · exact z
    · cases e
  unfold PL.lstOf at h
  unfold PL.putL
  split at h
  · rename_i es0 e
    cases h
    obtain ⟨p0, _, g1, _, _, g4, g5⟩ := m.own i _ e
    rw [hp] at g1
    cases g1
    refine ⟨by rw [List.length_set]; exact m.len, fun j d q => ?_, fun j fs q => ?_, fun j fs q => ?_, fun j k a b p' q1 q2 q3 q4 => ?_, fun b o e1 e2 => ?_, tb, fun t ht => ?_, fun j k a b q1 q2 => ?_⟩
    · rcases getset q with ⟨rfl, e0⟩ | ⟨ne, q⟩
      · cases e0
      · obtain ⟨v, h1, h2⟩ := m.val j d q
        exact ⟨v, h1, h2.ext ex⟩
    · rcases getset q with ⟨rfl, e0⟩ | ⟨ne, q⟩
      · cases e0
        exact ⟨p, ys, hp, hH', ra, g4, g5⟩
      · obtain ⟨p', zs, h1, h2, h3, h4⟩ := m.own j fs q
        exact ⟨p', zs, h1, other _ _ h2 (fun z => ne (by subst z; exact m.dj i j _ _ _ e q hp h1)), h3.ext ex, h4⟩
    · rcases getset q with ⟨rfl, e0⟩ | ⟨ne, q⟩
      · cases e0
      · obtain ⟨p', zs, h1, h2, h3, h4⟩ := m.tap j fs q
        exact ⟨p', zs, h1, other _ _ h2 (fun z => g5 (by rw [← z]; exact h4)), h3.ext ex, h4⟩
    · have q1' : ∃ a', σd[j]? = some (.own a') := by
        rcases getset q1 with ⟨rfl, _⟩ | ⟨_, q⟩
        · exact ⟨_, e⟩
        · exact ⟨_, q⟩
      have q2' : ∃ a', σd[k]? = some (.own a') := by
        rcases getset q2 with ⟨rfl, _⟩ | ⟨_, q⟩
        · exact ⟨_, e⟩
        · exact ⟨_, q⟩
      obtain ⟨a', q1'⟩ := q1'
      obtain ⟨b', q2'⟩ := q2'
      exact m.dj j k a' b' p' q1' q2' q3 q4
    · have hb : b ≠ p := fun z => by subst z; rw [g4] at e1; cases e1
      exact (m.kept b o e1 e2).trans fun o' h' => kp b o' h' hb
    · obtain ⟨fs, q⟩ := m.tape t ht
      refine ⟨fs, ?_⟩
      rw [List.getElem?_set_ne (fun z => by subst z; rw [e] at q; cases q)]
      exact q
    · rcases getset q1 with ⟨rfl, e0⟩ | ⟨_, q1⟩
      · cases e0
      · rcases getset q2 with ⟨rfl, e0⟩ | ⟨_, q2⟩
        · cases e0
        · exact m.tapOne j k a b q1 q2
  · rename_i es0 e
    cases h
    obtain ⟨p0, _, g1, _, _, g4⟩ := m.tap i _ e
    rw [hp] at g1
    cases g1
    refine ⟨by rw [List.length_set]; exact m.len, fun j d q => ?_, fun j fs q => ?_, fun j fs q => ?_, fun j k a b p' q1 q2 q3 q4 => ?_, fun b o e1 e2 => ?_, tb, fun t ht => ?_, fun j k a b q1 q2 => ?_⟩
    · rcases getset q with ⟨rfl, e0⟩ | ⟨ne, q⟩
      · cases e0
      · obtain ⟨v, h1, h2⟩ := m.val j d q
        exact ⟨v, h1, h2.ext ex⟩
    · rcases getset q with ⟨rfl, e0⟩ | ⟨ne, q⟩
      · cases e0
      · obtain ⟨p', zs, h1, h2, h3, h4, h5⟩ := m.own j fs q
        exact ⟨p', zs, h1, other _ _ h2 (fun z => h5 (by rw [z]; exact g4)), h3.ext ex, h4, h5⟩
    · rcases getset q with ⟨rfl, e0⟩ | ⟨ne, q⟩
      · cases e0
        exact ⟨p, ys, hp, hH', ra, g4⟩
      · exact absurd (m.tapOne i j _ _ e q) ne
    · rcases getset q1 with ⟨rfl, e0⟩ | ⟨_, q1⟩
      · cases e0
      · rcases getset q2 with ⟨rfl, e0⟩ | ⟨_, q2⟩
        · cases e0
        · exact m.dj j k a b p' q1 q2 q3 q4
    · have hb : b ≠ p := fun z => e2 (by rw [z]; exact g4)
      exact (m.kept b o e1 e2).trans fun o' h' => kp b o' h' hb
    · obtain ⟨fs, q⟩ := m.tape t ht
      by_cases z : i = 0
      · subst z
        rw [e] at q
        cases q
        exact ⟨es, List.getElem?_set_self (List.getElem?_eq_some_iff.mp e).1⟩
      · exact ⟨fs, by rw [List.getElem?_set_ne z]; exact q⟩
    · have q1' : ∃ a', σd[j]? = some (.tap a') := by
        rcases getset q1 with ⟨rfl, _⟩ | ⟨_, q⟩
        · exact ⟨_, e⟩
        · exact ⟨_, q⟩
      have q2' : ∃ a', σd[k]? = some (.tap a') := by
        rcases getset q2 with ⟨rfl, _⟩ | ⟨_, q⟩
        · exact ⟨_, e⟩
        · exact ⟨_, q⟩
      obtain ⟨a', q1'⟩ := q1'
      obtain ⟨b', q2'⟩ := q2'
      exact m.tapOne j k a' b' q1' q2'
  · cases h
/-- f(x, e, ..), f given the list of x to change -/
@[simp] def callT (F : List D → List D → AnsT) (i : Nat) (fs : DEnv → R (List D)) : DEnv → R D := fun σ => match lstOf i σ with
  | some _ => (fs σ).bind fun ds σ1 => match lstOf i σ1 with
    | some tp => match F tp ds with
      | .ok d tp' => .ok d (putL i tp' σ1)
      | .bad => .bad
    | none => .bad
  | none => .bad
theorem se_callT {i : Nat} {y : Str} {py : Pos} (o : Ok X M kk) (G : FnT X.prog X.w X.K X.mg X.base M.tabs jj x FT) (hj : jj ≤ kk) (hg : Gl X x) (hN : X.N[i]? = some y) (hv : Vis X.env.scope y) (ha : SA X M es fs) (hd : (y == ("__debug__" : Str)) = false := by decide) (hcd : (y == ("__classdict__" : Str)) = false := by decide)
    (hdb : (x == ("__debug__" : Str)) = false := by decide) (he : starEach (.Name y py :: es) X.env = (false, eval (.Name y py) X.env) :: starEach es X.env := by rfl) (hpl : (backTo pos (starEach es X.env)).any (·.1) = false := by rfl) :
    SE X M (.Call (.Name x p) (.Name y py :: es) [] pos) (callT FT i fs) := by
  obtain ⟨f, fd, ps, hm, hk, hb, hF⟩ := G.ex
  have base : PE X (.Name y py) (tVar i) := pe_var hN hv hd hcd
  refine PE.weak (pe_callS hF (o.room.mono hj) hg hm hk hb (fun σ => passAt o.tk σ) (pa_cons base ha he) hdb he hpl) fun σ H Q ⟨σd, m, q⟩ => ?_
  unfold callT at q
  cases hl : lstOf i σd with
  | none => rw [hl] at q; exact q.elim
  | some tp0 =>
    rw [hl] at q
    obtain ⟨t, xs0, h1, _⟩ := m.lstOf hl
    refine ⟨.ref t, h1, σd, m, wpR_mono (wpR_bind.mp q) fun ds σ1 q1 vs H1 e1 r1 m1 => ?_⟩
    cases hl1 : lstOf i σ1 with
    | none => rw [hl1] at q1; exact q1.elim
    | some tp =>
      rw [hl1] at q1
      obtain ⟨t', xs, h2, h3, h4⟩ := m1.lstOf hl1
      rw [h1] at h2
      cases h2
      refine ⟨t, vs, xs, tp, ds, rfl, h3, by rw [o.hK]; exact h4, by rw [o.hK]; exact r1, m1.tabs, ?_⟩
      cases hF2 : FT tp ds with
      | bad => simp only [hF2] at q1; exact q1.elim
      | ok d tp' =>
        simp only [hF2] at q1
        intro v H' xs' kp tb g1 g2 g3
        have m2 := m1.lent hl1 h1 h3 kp tb g1 (by rw [← o.hK]; exact g2)
        have ex : Ext H1 H' := ext_but h3 kp
        exact q1 v H' (e1.trans ex) (by rw [← o.hK]; exact g3) m2
end

/-! ### a def by its body -/
section
variable {P : Program} {w : World} {K : PySem.W.Frag} {mg : Str → Option Value} {base : Heap} {tabs : List Addr} {cls : Nat → Addr}
/-- what the body makes of the data -/
@[simp] def startD (n : Nat) (ds : List D) : DEnv := ds.map Cell.val ++ List.replicate (n - ds.length) Cell.emp
@[simp] def answers (x : O) : Ans := match x with
  | .nx _ => .ok .none
  | .ret d _ => .ok d
  | .exc c _ => .exc c
  | _ => .bad
theorem start_get {vs : List V} {n : Nat} {i : Nat} {v : V} (h : vs[i]? = some v) : (L2.start (List.replicate n ("" : Str)) vs)[i]? = some (some v) := by
  unfold L2.start
  rw [List.getElem?_append_left (by rw [List.length_map]; exact (List.getElem?_eq_some_iff.mp h).1), List.getElem?_map, h]
  rfl
theorem Mt.start {N : List Str} {vs : List V} {ds : List D} {H : Hp} {W : Nat → DEnv → Prop} (r : RepAll K H vs ds) (hn : ds.length ≤ N.length) (t : ∀ P ∈ tabs, TabG H P) : Mt ⟨K, H, none, tabs, cls, W⟩ (startD N.length ds) (L2.start N vs) H := by
  have hl := r.length
  have no : ∀ (i : Nat) (c : Cell), (startD N.length ds)[i]? = some c → c = .emp ∨ ∃ d, ds[i]? = some d ∧ c = .val d := fun i c e => by
    unfold startD at e
    by_cases hi : i < ds.length
    · rw [List.getElem?_append_left (by simpa using hi), List.getElem?_map, List.getElem?_eq_getElem hi] at e
      exact .inr ⟨_, List.getElem?_eq_getElem hi, (Option.some.inj e).symm⟩
    · rw [List.getElem?_append_right (by simpa using hi), List.getElem?_replicate] at e
      split at e
      · exact .inl (Option.some.inj e).symm
      · cases e
  refine ⟨by unfold startD L2.start; simp; omega, fun i d e => ?_, fun i d e => ?_, fun i d e => ?_, fun i j a b p e _ _ _ => ?_, fun b o e _ => .inl e, t, fun t e => (by cases e), fun i j a b e _ => ?_⟩
  · rcases no i _ e with z | ⟨d', h1, h2⟩
    · cases z
    · cases h2
      obtain ⟨v, h3, h4⟩ := r.get h1
      refine ⟨v, ?_, h4⟩
      unfold L2.start
      rw [List.getElem?_append_left (by rw [List.length_map]; exact (List.getElem?_eq_some_iff.mp h3).1), List.getElem?_map, h3]
      rfl
  · rcases no i _ e with z | ⟨d', h1, h2⟩
    · cases z
    · cases h2
  · rcases no i _ e with z | ⟨d', h1, h2⟩
    · cases z
    · cases h2
  · rcases no i _ e with z | ⟨d', h1, h2⟩
    · cases z
    · cases h2
  · rcases no i _ e with z | ⟨d', h1, h2⟩
    · cases z
    · cases h2
/-- the context of a body -/
abbrev cxD (P : Program) (w : World) (K : PySem.W.Frag) (mg : Str → Option Value) (base : Heap) (N : List Str) (qual : Str) (st : Stmt) (f : Addr) (cdv : Value) (A : Around) (outer : List PySem.Env) (s : Shared) (H : Hp) (E : XK) : Cx :=
  cxOf (L2.CX P w) P w K mg base N qual (defScope st) f cdv A outer s H E
theorem Ok.cx {N ps : List Str} {qual : Str} {st : Stmt} {f : Addr} {cdv : Value} {A : Around} {outer : List PySem.Env} {s : Shared} {H : Hp} {E : XK} {k : Nat} {M : Mx} (S : FnScope N ps (defScope st)) (hK : K = M.K) (hr : Room k (A.deeper (envOfC qual (defScope st) s.heap.objs.size f cdv)))
    (hE : ∀ c σd σ H', Mt M σd σ H' → M.W c σd → E (.ref (M.cls c)) none H') : Ok (cxD P w K mg base N qual st f cdv A outer s H E) M k where
  hK := hK
  calm := rfl
  nd := S.nd
  room := hr
  tk := (takes_of rfl rfl rfl rfl : Takes (cxD P w K mg base N qual st f cdv A outer s H E) (fun cls d _ H' => E cls d H')).imp fun cls d σ H' ⟨c, σd, e1, e2, m, q⟩ => by
    rw [e1, e2]
    exact hE c σd σ H' m q
  own := passes_of (X := cxD P w K mg base N qual st f cdv A outer s H E) rfl
/-- a def of the text as it stands behind the top; cp: what is known of its code object -/
structure FunP (K : PySem.W.Frag) (x qual : Str) (st : Stmt) (f : Addr) (fd : FuncData) (cp : Value → Prop) : Prop where
  ex : ∃ (oc : Value) (od : Option Addr) (kV doc pm : Value) (an : Option Addr) (cdv ct : Value) (osl : Array (Option Value)),
    fd = PySem.W.fnOf x qual (defArgs st) (defBody st) (defScope st) .none kV doc pm an cdv ct ∧ K.lookup f = some ⟨oc, od, .func fd, osl⟩ ∧ PySem.W.codeIn K cdv qual = true ∧ cp cdv
  kp : PySem.W.keepIn K (.ref f) = true
theorem FunP.fun {x qual : Str} {st : Stmt} {f : Addr} {fd : FuncData} {cp : Value → Prop} (F : FunP K x qual st f fd cp) : Fun K x qual st f fd :=
  ⟨let ⟨oc, od, kV, doc, pm, an, cdv, ct, osl, a, b, c, _⟩ := F.ex; ⟨oc, od, kV, doc, pm, an, cdv, ct, osl, a, b, c⟩, F.kp⟩
theorem FunP.okX {x qual : Str} {st : Stmt} {f : Addr} {fd : FuncData} {cp : Value → Prop} {N ps : List Str} {k : Nat} {sp : Sp} (F : FunP K x qual st f fd cp) (S : FnScope N ps (defScope st)) (len : ∀ vs H Q E, sp vs H Q E → vs.length = ps.length)
    (hb : ∀ (cdv : Value), cp cdv → ∀ (A : Around) (outer : List PySem.Env) (s : Shared) (H : Hp) (vs : List V) (Q : VK) (E : XK), Room k (A.deeper (envOfC qual (defScope st) s.heap.objs.size f cdv)) → sp vs H Q E →
      ∃ t, PSs (cxOf (L2.CX P w) P w K mg base N qual (defScope st) f cdv A outer s H E) (defBody st) t ∧ t { nx := fun _ H' => Q .non H', rt := Q } (start N vs) H) : FnOk P w K mg base (L2.CX P w) (k + 1) f fd ps sp := by
  obtain ⟨oc, od, kV, doc, pm, an, cdv, ct, osl, rfl, lk, hcd, hp⟩ := F.ex
  exact fn_of lk hcd S len fun A outer s H vs Q E hr hsp => hb cdv hp A outer s H vs Q E hr hsp
/-- THE RULE for a def -/
theorem fnD_of {x qual : Str} {st : Stmt} {f : Addr} {fd : FuncData} {cp : Value → Prop} {N ps : List Str} {k : Nat} {F : List D → Ans} {B : Nat → DEnv → O} (FN : FunP K x qual st f fd cp) (hmg : mg x = some (.ref f)) (hbi : Binds K fd ps []) (S : FnScope N ps (defScope st))
    (hlen : ∀ ds, F ds ≠ .bad → ds.length = ps.length)
    (hF : ∀ ds, F ds ≠ .bad → ∃ n, answers (B n (startD N.length ds)) = F ds)
    (hB : ∀ (n : Nat) (cdv : Value), cp cdv → ∀ (A : Around) (outer : List PySem.Env) (s : Shared) (H : Hp) (E : XK) (W : Nat → DEnv → Prop), Ok (cxD P w K mg base N qual st f cdv A outer s H E) ⟨K, H, none, tabs, cls, W⟩ k →
      SSs (cxD P w K mg base N qual st f cdv A outer s H E) ⟨K, H, none, tabs, cls, W⟩ (defBody st) (B n)) : FnD P w K mg base tabs cls (k + 1) x F := by
  refine ⟨f, fd, ps, hmg, FN.kp, hbi, FN.okX S (fun vs H Q E h => ?_) fun cdv hcp A outer s H vs Q E hr h => ?_⟩
  · obtain ⟨ds, r, _, q⟩ := h
    rw [r.length]
    refine hlen ds fun z => ?_
    rw [z] at q
    exact q
  · obtain ⟨ds, r, tb, q⟩ := h
    have nb : F ds ≠ .bad := fun z => by rw [z] at q; exact q
    obtain ⟨n, hn⟩ := hF ds nb
    have hpl : ps.length ≤ N.length := by have := congrArg List.length S.pre; rw [List.length_take] at this; omega
    refine ⟨_, hB n cdv hcp A outer s H E (fun c (_ : DEnv) => F ds = .exc c) (Ok.cx S rfl hr fun c σd σ H' m z => ?_), startD N.length ds, Mt.start r (by rw [hlen ds nb]; exact hpl) tb, ?_⟩
    · have z : F ds = .exc c := z
      rw [z] at q
      exact q H' (fun b o e => m.kept b o e (by intro z; cases z)) m.tabs
    · cases hb : B n (startD N.length ds) with
      | nx σ1 =>
        rw [hb] at hn
        have hn : Ans.ok .none = F ds := hn
        rw [← hn] at q
        exact fun σ' H' e m => q .non H' (fun b o e => m.kept b o e (by intro z; cases z)) m.tabs .non
      | ret d σ1 =>
        rw [hb] at hn
        have hn : Ans.ok d = F ds := hn
        rw [← hn] at q
        exact fun v σ' H' e r m => q v H' (fun b o e => m.kept b o e (by intro z; cases z)) m.tabs r
      | exc c σ1 =>
        rw [hb] at hn
        exact hn.symm
      | retF d σ1 => rw [hb] at hn; exact absurd hn.symm nb
      | brk σ1 => rw [hb] at hn; exact absurd hn.symm nb
      | cnt σ1 => rw [hb] at hn; exact absurd hn.symm nb
      | bad => rw [hb] at hn; exact absurd hn.symm nb

/-! ### a def that changes the list that it is given first -/
@[simp] def startT (n : Nat) (tp ds : List D) : DEnv := Cell.tap tp :: startD (n - 1) ds
@[simp] def answersT (x : O) : AnsT := match x with
  | .nx σ => match σ[(0 : Nat)]? with
    | some (.tap tp) => .ok .none tp
    | _ => .bad
  | .ret d σ => match σ[(0 : Nat)]? with
    | some (.tap tp) => .ok d tp
    | _ => .bad
  | _ => .bad
theorem Mt.startT {N : List Str} {t : Addr} {vs xs : List V} {tp ds : List D} {H : Hp} {W : Nat → DEnv → Prop} (hN : 1 + ds.length ≤ N.length) (hH : H t = some (.lst xs)) (rt : RepAll K H xs tp) (r : RepAll K H vs ds) (tb : ∀ P ∈ tabs, TabG H P) : Mt ⟨K, H, some t, tabs, cls, W⟩ (PL.startT N.length tp ds) (L2.start N (.ref t :: vs)) H := by
  have hl := r.length
  have e0 : L2.start N (.ref t :: vs) = some (.ref t) :: (vs.map some ++ List.replicate (N.length - 1 - vs.length) none) := by
    unfold L2.start
    rw [List.map_cons, List.length_cons, List.cons_append, Nat.sub_sub, Nat.add_comm]
  have no : ∀ (i : Nat) (c : Cell), (startD (N.length - 1) ds)[i]? = some c → c = .emp ∨ ∃ d, ds[i]? = some d ∧ c = .val d := fun i c e => by
    unfold startD at e
    by_cases hi : i < ds.length
    · rw [List.getElem?_append_left (by simpa using hi), List.getElem?_map, List.getElem?_eq_getElem hi] at e
      exact .inr ⟨_, List.getElem?_eq_getElem hi, (Option.some.inj e).symm⟩
    · rw [List.getElem?_append_right (by simpa using hi), List.getElem?_replicate] at e
      split at e
      · exact .inl (Option.some.inj e).symm
      · cases e
  rw [e0]
  have zero : ∀ (i : Nat) (tq : List D), (PL.startT N.length tp ds)[i]? = some (.tap tq) → i = 0 ∧ tq = tp := fun i tq e => by
    cases i with
    | zero => cases e; exact ⟨rfl, rfl⟩
    | succ i =>
      rcases no i _ e with z | ⟨d', h1, h2⟩
      · cases z
      · cases h2
  have noown : ∀ (i : Nat) (tq : List D), (PL.startT N.length tp ds)[i]? ≠ some (.own tq) := fun i tq e => by
    cases i with
    | zero => cases e
    | succ i =>
      rcases no i _ e with z | ⟨d', h1, h2⟩
      · cases z
      · cases h2
  refine ⟨by unfold PL.startT startD; simp; omega, fun i d e => ?_, fun i d e => absurd e (noown i d), fun i d e => ?_, fun i j a b p e _ _ _ => absurd e (noown i a), fun b o e _ => .inl e, tb, fun t' e => ⟨tp, rfl⟩, fun i j a b e1 e2 => (zero i a e1).1.trans (zero j b e2).1.symm⟩
  · cases i with
    | zero => cases e
    | succ i =>
      rcases no i _ e with z | ⟨d', h1, h2⟩
      · cases z
      · cases h2
        obtain ⟨v, h3, h4⟩ := r.get h1
        refine ⟨v, ?_, h4⟩
        rw [List.getElem?_cons_succ, List.getElem?_append_left (by rw [List.length_map]; exact (List.getElem?_eq_some_iff.mp h3).1), List.getElem?_map, h3]
        rfl
  · obtain ⟨rfl, rfl⟩ := zero i d e
    exact ⟨t, xs, rfl, hH, rt, rfl⟩
theorem fnT_of {x qual : Str} {st : Stmt} {f : Addr} {fd : FuncData} {cp : Value → Prop} {N ps : List Str} {k : Nat} {F : List D → List D → AnsT} {B : Nat → DEnv → O} (FN : FunP K x qual st f fd cp) (hmg : mg x = some (.ref f)) (hbi : Binds K fd ps []) (S : FnScope N ps (defScope st))
    (hlen : ∀ tp ds, F tp ds ≠ .bad → 1 + ds.length = ps.length)
    (hF : ∀ tp ds, F tp ds ≠ .bad → ∃ n, answersT (B n (startT N.length tp ds)) = F tp ds)
    (hB : ∀ (n : Nat) (cdv : Value), cp cdv → ∀ (A : Around) (outer : List PySem.Env) (s : Shared) (H : Hp) (E : XK) (W : Nat → DEnv → Prop) (t : Addr), Ok (cxD P w K mg base N qual st f cdv A outer s H E) ⟨K, H, some t, tabs, cls, W⟩ k →
      SSs (cxD P w K mg base N qual st f cdv A outer s H E) ⟨K, H, some t, tabs, cls, W⟩ (defBody st) (B n)) : FnT P w K mg base tabs (k + 1) x F := by
  refine ⟨f, fd, ps, hmg, FN.kp, hbi, FN.okX S (fun vs H Q E h => ?_) fun cdv hcp A outer s H vs Q E hr h => ?_⟩
  · obtain ⟨t, ws, xs, tp, ds, rfl, _, _, r, _, q⟩ := h
    rw [List.length_cons, r.length, Nat.add_comm]
    refine hlen tp ds fun z => ?_
    rw [z] at q
    exact q
  · obtain ⟨t, ws, xs, tp, ds, rfl, hH, rt, r, tb, q⟩ := h
    have nb : F tp ds ≠ .bad := fun z => by rw [z] at q; exact q
    obtain ⟨n, hn⟩ := hF tp ds nb
    have hpl : ps.length ≤ N.length := by have := congrArg List.length S.pre; rw [List.length_take] at this; omega
    refine ⟨_, hB n cdv hcp A outer s H E (fun _ _ => False) t (Ok.cx S rfl hr fun c σd σ H' m z => z.elim), startT N.length tp ds, Mt.startT (by rw [hlen tp ds nb]; exact hpl) hH rt r tb, ?_⟩
    have fin : ∀ (σ1 : DEnv) (tp' : List D) (d : D) (v : V) (σ' : L2.St) (H' : Hp), σ1[(0 : Nat)]? = some (.tap tp') → F tp ds = .ok d tp' → Mt ⟨K, H, some t, tabs, cls, fun _ _ => False⟩ σ1 σ' H' → Rep K H' v d → Q v H' := fun σ1 tp' d v σ' H' e0 e1 m rv => by
      rw [e1] at q
      obtain ⟨p, ys, h1, h2, h3, h4⟩ := m.tap 0 tp' e0
      cases h4
      exact q v H' ys (fun b o e hb => m.kept b o e (by intro z; cases z; exact hb rfl)) m.tabs h2 h3 rv
    cases hb : B n (startT N.length tp ds) with
    | nx σ1 =>
      rw [hb] at hn
      simp only [answersT] at hn
      split at hn
      · rename_i tp' e0
        exact fun σ' H' e m => fin σ1 tp' .none .non σ' H' e0 hn.symm m .non
      · exact absurd hn.symm nb
    | ret d σ1 =>
      rw [hb] at hn
      simp only [answersT] at hn
      split at hn
      · rename_i tp' e0
        exact fun v σ' H' e r m => fin σ1 tp' d v σ' H' e0 hn.symm m r
      · exact absurd hn.symm nb
    | retF d σ1 => rw [hb] at hn; exact absurd hn.symm nb
    | exc c σ1 => rw [hb] at hn; exact absurd hn.symm nb
    | brk σ1 => rw [hb] at hn; exact absurd hn.symm nb
    | cnt σ1 => rw [hb] at hn; exact absurd hn.symm nb
    | bad => rw [hb] at hn; exact absurd hn.symm nb

/-! ### a def that hands over a new list -/
inductive AnsF where
  | ok (ds : List D)
  | bad
def spF (K : PySem.W.Frag) (tabs : List Addr) (F : List D → AnsF) : Sp := fun vs H Q E => ∃ ds, RepAll K H vs ds ∧ (∀ P ∈ tabs, TabG H P) ∧
  match F ds with
  | .ok es => ∀ p xs H', KeptH H H' → (∀ P ∈ tabs, TabG H' P) → H p = none → H' p = some (.lst xs) → RepAll K H' xs es → Q (.ref p) H'
  | .bad => False
structure FnF (P : Program) (w : World) (K : PySem.W.Frag) (mg : Str → Option Value) (base : Heap) (tabs : List Addr) (k : Nat) (x : Str) (F : List D → AnsF) : Prop where
  ex : ∃ (f : Addr) (fd : FuncData) (ps : List Str), mg x = some (.ref f) ∧ PySem.W.keepIn K (.ref f) = true ∧ Binds K fd ps [] ∧ FnOk P w K mg base (L2.CX P w) k f fd ps (spF K tabs F)
@[simp] def answersF (x : O) : AnsF := match x with
  | .retF ds _ => .ok ds
  | _ => .bad
theorem fnF_of {x qual : Str} {st : Stmt} {f : Addr} {fd : FuncData} {cp : Value → Prop} {N ps : List Str} {k : Nat} {F : List D → AnsF} {B : Nat → DEnv → O} (FN : FunP K x qual st f fd cp) (hmg : mg x = some (.ref f)) (hbi : Binds K fd ps []) (S : FnScope N ps (defScope st))
    (hlen : ∀ ds, F ds ≠ .bad → ds.length = ps.length)
    (hF : ∀ ds, F ds ≠ .bad → ∃ n, answersF (B n (startD N.length ds)) = F ds)
    (hB : ∀ (n : Nat) (cdv : Value), cp cdv → ∀ (A : Around) (outer : List PySem.Env) (s : Shared) (H : Hp) (E : XK) (W : Nat → DEnv → Prop), Ok (cxD P w K mg base N qual st f cdv A outer s H E) ⟨K, H, none, tabs, cls, W⟩ k →
      SSs (cxD P w K mg base N qual st f cdv A outer s H E) ⟨K, H, none, tabs, cls, W⟩ (defBody st) (B n)) : FnF P w K mg base tabs (k + 1) x F := by
  refine ⟨f, fd, ps, hmg, FN.kp, hbi, FN.okX S (fun vs H Q E h => ?_) fun cdv hcp A outer s H vs Q E hr h => ?_⟩
  · obtain ⟨ds, r, _, q⟩ := h
    rw [r.length]
    refine hlen ds fun z => ?_
    rw [z] at q
    exact q
  · obtain ⟨ds, r, tb, q⟩ := h
    have nb : F ds ≠ .bad := fun z => by rw [z] at q; exact q
    obtain ⟨n, hn⟩ := hF ds nb
    have hpl : ps.length ≤ N.length := by have := congrArg List.length S.pre; rw [List.length_take] at this; omega
    refine ⟨_, hB n cdv hcp A outer s H E (fun _ _ => False) (Ok.cx S rfl hr fun c σd σ H' m z => z.elim), startD N.length ds, Mt.start r (by rw [hlen ds nb]; exact hpl) tb, ?_⟩
    cases hb : B n (startD N.length ds) with
    | retF es σ1 =>
      rw [hb] at hn
      have hn : AnsF.ok es = F ds := hn
      rw [← hn] at q
      exact fun p xs σ' H' e h1 h2 m fr => q p xs H' (fun b o e => m.kept b o e (by intro z; cases z)) m.tabs fr.ent h1 h2
    | nx σ1 => rw [hb] at hn; exact absurd hn.symm nb
    | ret d σ1 => rw [hb] at hn; exact absurd hn.symm nb
    | exc c σ1 => rw [hb] at hn; exact absurd hn.symm nb
    | brk σ1 => rw [hb] at hn; exact absurd hn.symm nb
    | cnt σ1 => rw [hb] at hn; exact absurd hn.symm nb
    | bad => rw [hb] at hn; exact absurd hn.symm nb
end
section
variable {X : Cx} {M : Mx} {e : Expr} {es : List Expr} {fs : DEnv → R (List D)} {pos p : Pos} {x : Str} {kk jj : Nat} {FF : List D → AnsF}
@[simp] def callNew (F : List D → AnsF) (fs : DEnv → R (List D)) : DEnv → R (List D) := fun σ => (fs σ).bind fun ds σ1 => match F ds with
  | .ok es => .ok es σ1
  | .bad => .bad
theorem sf_call (o : Ok X M kk) (G : FnF X.prog X.w X.K X.mg X.base M.tabs jj x FF) (hj : jj ≤ kk) (hg : Gl X x) (ha : SA X M (e :: es) fs)
    (hdb : (x == ("__debug__" : Str)) = false := by decide) (he : starEach (e :: es) X.env = (false, eval e X.env) :: starEach es X.env := by rfl) (hpl : (backTo pos (starEach es X.env)).any (·.1) = false := by rfl) :
    SF X M (.Call (.Name x p) (e :: es) [] pos) (callNew FF fs) := by
  obtain ⟨f, fd, ps, hm, hk, hb, hF⟩ := G.ex
  refine PE.weak (pe_callS hF (o.room.mono hj) hg hm hk hb (fun σ => passAt o.tk σ) ha hdb he hpl) fun σ H Q ⟨σd, m, q⟩ => ⟨σd, m, wpR_mono (wpR_bind.mp q) fun ds σ1 q1 vs H1 e1 r1 m1 => ?_⟩
  refine ⟨ds, by rw [o.hK]; exact r1, m1.tabs, ?_⟩
  cases hF2 : FF ds with
  | ok es' =>
    rw [hF2] at q1
    intro p xs H' kp tb h0 h1 h2
    have fr := m1.fresh h0
    exact q1 p xs H' (e1.trans kp.ext) h1 (by rw [← o.hK]; exact h2) (m1.behind kp tb) fr
  | bad => rw [hF2] at q1; exact q1.elim
end
end PL
set_option Elab.async false
set_option linter.all false
set_option maxRecDepth 100000
set_option autoImplicit false
/-! Generator expressions: the context of their frame. -/
namespace PL
open PySem PySem.Spec PyProof.Rows L2

/-- the context of a generator expression's frame: made at s, walking what stands at fp -/
abbrev CxGen (X : Cx) (s : Shared) (H : Hp) (cenv : PySem.Env) (fp : List Addr) (A : Around) : Cx :=
  { X with s_0 := s, H_0 := H, A := A, env := cenv, outer := X.stack, stack := cenv :: X.stack, ex := fp, fn := fun _ => false, pn := [], xe := fun _ _ => False }
structure GenOk (env : PySem.Env) (scope : Scope) : Prop where
  co : scope.isCoroutine = false
  cell : ∀ y ∈ scope.names, y.2 ≠ .cell
  dot : scope.names.lookup (".0" : Str) = some NameKind.local
section
variable {X : Cx} {pins : List (Addr × Obj)} {σ : L2.St} {H : Hp} {s : Shared}
theorem gen_start {scope : Scope} {own : List (Str × Nat)} {fp : List Addr} {code : Value} {bi : Addr} {A' : Around} {h' : Heap} {go : Obj} {G : Array GenState} {tk : Nat} {it : Value} (I : Inv X pins σ H s) (ok : BlkOk X.N X.env.scope scope own) (g : GenOk X.env scope) (hN : X.N.Nodup)
    (hfp : ∀ b ∈ fp, FpOk X pins H b ∧ b < s.heap.objs.size) (hbi : bi = builtinsNs)
    (hA : A'.frames = some (genEnv scope (cloFrom X.env.cells scope.names []) s.heap.objs.size code bi X.env :: X.stack)) (hh : A'.handled = none)
    (hn' : h'.Ns s.heap.objs.size (fun y => if y = ".0" then some it else none)) (hs' : Heap.SameBut s.heap.objs.size (s.heap.push { cls := .type "frame", data := .dict #[] }) h') (hgo : ∀ v, go.data ≠ .cell v) (hgz : ∀ h : Heap, (h.push go).get? h.objs.size = some go) (hb : AllBare G) :
    Inv (CxGen X s H (genEnv scope (cloFrom X.env.cells scope.names []) s.heap.objs.size code bi X.env) fp A') [(h'.objs.size, go)] (wipe σ (own.map (·.2))) H { s with gens := G, toks := tk, heap := h'.push go } := by
  have hfree : ∀ y ∈ scope.names, y.2 = .free → ∃ c, X.env.cells.lookup y.1 = some c := fun y hy e => by
    rcases ok.free y hy e with k | k
    · exact I.ok.has _ (.inl k)
    · exact I.ok.has _ (.inr k)
  have sz' : h'.objs.size = s.heap.objs.size + 1 := by rw [hs'.1, Heap.size_push]
  generalize hcenv : genEnv scope (cloFrom X.env.cells scope.names []) s.heap.objs.size code bi X.env = cenv at hA ⊢
  have kp : ∀ b o, s.heap.get? b = some o → (h'.push go).get? b = some o := fun b o e => Heap.get?_push_of_some _ (hs'.extBut b o (Nat.ne_of_lt (Heap.lt_size e)) (Heap.get?_push_of_some _ e))
  have hL : cenv.locals = s.heap.objs.size := by rw [← hcenv]; rfl
  have hcl : cenv.cells = cloFrom X.env.cells scope.names [] := by rw [← hcenv]; rfl
  have hsc : cenv.scope = scope := by rw [← hcenv]; rfl
  have cm : ∀ {y c}, cenv.cells.lookup y = some c → X.env.cells.lookup y = some c ∧ c < s.heap.objs.size := fun {y c} e => by
    rw [hcl] at e
    rcases cloFrom_mem (PySem.mem_of_lookup e) with hm | ⟨h1, rfl⟩
    · cases hm
    · obtain ⟨c, hc⟩ := hfree _ h1 rfl
      rw [hc]
      obtain ⟨w, z⟩ := I.cell _ _ hc
      exact ⟨rfl, z.lt⟩
  have look : ∀ {y}, scope.names.lookup y = some .free → ∃ c, cenv.cells.lookup y = some c ∧ X.env.cells.lookup y = some c := fun {y} hl => by
    have hy : (y, NameKind.free) ∈ scope.names := PySem.mem_of_lookup hl
    obtain ⟨c', e'⟩ := mem_lookup (cloFrom_has (cells := X.env.cells) (acc := []) hy)
    rw [← hcl] at e'
    exact ⟨c', e', (cm e').1⟩
  have stkFree := I.stkFree
  have okB : (CxGen X s H cenv fp A').Ok := by
    refine ⟨I.ok.mod, by show cenv.scope.kind = _; rw [hsc]; exact ok.kind, by show cenv.globals = _; rw [← hcenv]; exact I.ok.glob, by show cenv.builtins = _; rw [← hcenv]; exact hbi, by show s.heap.objs.size ≤ cenv.locals; rw [hL]; exact Nat.le_refl _,
      fun y z c e1 e2 => I.ok.inj y z c (cm e1).1 (cm e2).1, fun y hy => ?_, fun y c z e => absurd z (by intro q; cases q), fun _ => hh, hA, .inr ⟨rfl, by show cenv.frame = some cenv.locals; rw [← hcenv]; rfl⟩, fun b hb => ⟨?_, fun y c e z => ?_⟩, I.bs, Nat.le_trans I.ok.bsz I.sz, fun b o e hb => ?_, fun b hb z => ?_, I.stack, I.stkFree⟩
    · have hy : scope.names.lookup y = some .cell ∨ scope.names.lookup y = some .free := by
        have hy' : cenv.scope.names.lookup y = some .cell ∨ cenv.scope.names.lookup y = some .free := hy
        rw [hsc] at hy'
        exact hy'
      rcases hy with hy | hy
      · exact absurd rfl (g.cell _ (PySem.mem_of_lookup hy))
      · obtain ⟨c, h1, _⟩ := look hy
        exact ⟨c, h1⟩
    · show b ≠ cenv.locals
      rw [hL]; exact Nat.ne_of_lt (hfp b hb).2
    · exact (hfp b hb).1.2.2.2.2.1 y c (cm e).1 z
    · rcases (hfp b hb).1.2.2.2.1 with z | z
      · exact I.ok.noex b o e z
      · exact absurd (Nat.lt_of_lt_of_le (Heap.lt_size e) (Nat.le_trans I.ok.bsz z)) (Nat.lt_irrefl _)
    · rcases List.mem_cons.mp (I.stkSub b z) with z | z
      · exact (hfp b hb).1.2.1 z
      · exact (hfp b hb).1.2.2.1 z
  refine ⟨okB, rfl, hb, Un.kept kp, ⟨(fun y : Str => if y = ".0" then some it else none), ?_, fun i y av e1 e2 e3 => ?_⟩, fun y c e => ?_, ?_, fun y c e => ?_, fun p hp => ?_, I.hok.kept kp, by rw [wipe_length]; exact I.len⟩
  · show Heap.Ns _ cenv.locals _
    rw [hL]
    exact hn'.push _
  · obtain ⟨e2, hne⟩ := wipe_some e2
    have hfr : scope.names.lookup y = some .free ∧ (cenv.kindOf y = some .cell ∨ cenv.kindOf y = some .free) := by
      have key : ∀ k, scope.names.lookup y = some k → k = .local ∨ k = .cell ∨ k = .free → scope.names.lookup y = some .free ∧ (cenv.kindOf y = some .cell ∨ cenv.kindOf y = some .free) := fun k hk hk' => by
        have no : ¬ (k = .local ∨ k = .cell) := fun hh => by
          rcases ok.own _ (PySem.mem_of_lookup hk) hh with e' | e'
          · obtain ⟨p, hp, hpy⟩ := List.mem_map.mp e'
            have e3 := ok.ix p hp
            have : p.1 = y := hpy
            rw [this] at e3
            exact hne (List.mem_map.mpr ⟨p, hp, nodup_ix hN e3 e1⟩)
          · exact e' (List.mem_of_getElem? e1)
        rcases hk' with rfl | rfl | rfl
        · exact absurd (.inl rfl) no
        · exact absurd (.inr rfl) no
        · refine ⟨hk, .inr ?_⟩
          show cenv.scope.names.lookup y = _
          rw [hsc]
          exact hk
      have e3 : Vis cenv.scope y := e3
      rw [hsc] at e3
      rcases e3 with e3 | e3 | e3
      · exact key _ e3 (.inl rfl)
      · exact key _ e3 (.inr (.inl rfl))
      · exact key _ e3 (.inr (.inr rfl))
    obtain ⟨m, hn, hl⟩ := I.loc
    have hvis : Vis X.env.scope y := (ok.free _ (PySem.mem_of_lookup hfr.1) rfl).elim (fun k => .inr (.inl k)) (fun k => .inr (.inr k))
    obtain ⟨w, r, q⟩ := hl i y av e1 e2 hvis
    refine ⟨w, r, .inr ⟨hfr.2, ?_⟩⟩
    obtain ⟨c, h1, h2⟩ := look hfr.1
    rcases q with ⟨k, _⟩ | ⟨_, c', e', z⟩
    · have k : X.env.scope.names.lookup y = some .local := k
      rcases ok.free _ (PySem.mem_of_lookup hfr.1) rfl with k' | k' <;> rw [show X.env.scope.names.lookup y = _ from k'] at k <;> cases k
    · rw [h2] at e'; cases e'
      exact ⟨c, h1, z.keeps kp⟩
  · obtain ⟨w, z⟩ := I.cell y c (cm e).1
    exact ⟨w, z.keeps kp⟩
  · show H cenv.locals = none
    rw [hL]; exact I.hok.fresh (Nat.le_refl _)
  · exact I.freeC y c (cm e).1
  · have e : p = (h'.objs.size, go) := by
      have hp' : p ∈ ([] : List (Addr × Obj)) ++ [(h'.objs.size, go)] := hp
      simpa using hp'
    subst e
    refine ⟨hgz h', I.hok.fresh (by rw [sz']; exact Nat.le_succ _), ?_, fun z => ?_, hgo⟩
    · show h'.objs.size ≠ cenv.locals
      rw [hL, sz']; exact Nat.succ_ne_self _
    · have z : h'.objs.size ∈ frs X.stack := z
      rcases List.mem_cons.mp (I.stkSub _ z) with z | z
      · have z : h'.objs.size = X.env.locals := z
        have q := I.lt
        rw [← z, sz'] at q
        exact absurd q (Nat.not_lt.mpr (Nat.le_succ _))
      · exact I.nofs (a := h'.objs.size) (by rw [sz']; exact Nat.le_succ _) z
end
end PL
set_option Elab.async false
set_option linter.all false
set_option maxRecDepth 100000
set_option autoImplicit false
/-! Generator expressions: the loop, the protocol. -/
namespace PL
open PySem PySem.Spec PyProof.Rows L2 GenW

/-- a turn of the generator: what it hands out, the environment behind it -/
def stG (vs : List Nat) (g : D → DEnv → Option DEnv) (f : DEnv → R D) (d : D) (σ : DEnv) : Option (D × DEnv) := match g d σ with
  | none => none
  | some σ1 => match f σ1 with
    | .ok y σ2 => some (y, wipeD σ2 vs)
    | _ => none
/-- the environment ahead of turn n -/
def trG (vs : List Nat) (g : D → DEnv → Option DEnv) (f : DEnv → R D) (ds : List D) (σ : DEnv) : Nat → Option DEnv
  | 0 => some σ
  | n + 1 => match trG vs g f ds σ n with
    | none => none
    | some σ1 => match ds[n]? with
      | none => none
      | some d => (stG vs g f d σ1).map (·.2)
theorem Mt.blkOf {M : Mx} {σd : DEnv} {σ : L2.St} {H : Hp} (m : Mt M σd σ H) : Mt (M.blk M.H0) σd σ H := ⟨m.len, m.val, m.own, m.tap, m.dj, m.kept, m.tabs, m.tape, m.tapOne⟩
theorem Mt.ofBlk {M : Mx} {σd : DEnv} {σ : L2.St} {H : Hp} (m : Mt (M.blk M.H0) σd σ H) : Mt M σd σ H := ⟨m.len, m.val, m.own, m.tap, m.dj, m.kept, m.tabs, m.tape, m.tapOne⟩

/-- the generator's state ahead of turn i -/
structure GP (X : Cx) (M : Mx) (σw : L2.St) (H1 : Hp) (fp : List Addr) (tn : Nat → Heap → Prop) (p : Addr × Obj) (i : Nat) (σd : DEnv) (H : Hp) (s : Shared) : Prop where
  inv : Inv X [p] σw H s
  mt : Mt M σd σw H
  ext : Ext H1 H
  tn : tn i s.heap
  fp : ∀ b ∈ fp, H b = none
/-- while it sleeps all that stands is kept -/
structure Susp (s s' : Shared) : Prop where
  os : s'.os = s.os
  bare : AllBare s'.gens
  keep : ∀ b o, s.heap.get? b = some o → s'.heap.get? b = some o
theorem Inv.susp {X : Cx} {pins : List (Addr × Obj)} {σ : L2.St} {H : Hp} {s s' : Shared} (I : Inv X pins σ H s) (z : Susp s s') : Inv X pins σ H s' :=
  I.call' (ch := []) z.os (Un.kept z.keep) (I.hok.kept z.keep) z.bare fun b hb => by simp at hb
theorem GP.susp {X : Cx} {M : Mx} {σw : L2.St} {H1 : Hp} {fp : List Addr} {tg : Expr} {J : It} {it : Addr} {tn : Nat → Heap → Prop} {p : Addr × Obj} {i : Nat} {σd : DEnv} {H : Hp} {s s' : Shared} (T : Turn X.prog X.w X.K tg J fp it tn) (h : GP X M σw H1 fp tn p i σd H s) (z : Susp s s') : GP X M σw H1 fp tn p i σd H s' :=
  ⟨Inv.susp h.inv z, h.mt, h.ext, T.keep _ _ _ h.tn fun b _ o e => z.keep b o e, h.fp⟩
theorem Susp.setGen {s : Shared} {g : Nat} {x : GenState} (hb : AllBare s.gens) (hx : x.bare = true) : Susp s (s.setGen g x) := ⟨rfl, allBare_setGen hb hx, fun _ _ e => e⟩
/-- the next turn will be done -/
def RdyG (vs : List Nat) (g : D → DEnv → Option DEnv) (f : DEnv → R D) (ds : List D) (σ0 : DEnv) (i : Nat) : Prop := ∀ d σa, ds[i]? = some d → trG vs g f ds σ0 i = some σa → ∃ y σb, stG vs g f d σa = some (y, σb)
def ProG (X : Cx) (M : Mx) (σw : L2.St) (H1 : Hp) (fp : List Addr) (tn : Nat → Heap → Prop) (p : Addr × Obj) (vs : List Nat) (g : D → DEnv → Option DEnv) (f : DEnv → R D) (ds : List D) (σ0 : DEnv) : Protocol := fun n s₀ v s kap =>
  ∃ (i : Nat) (d : D) (σa : DEnv) (y : D) (σb : DEnv) (x : V) (H' : Hp), i + 1 + n = ds.length ∧ ds[i]? = some d ∧ trG vs g f ds σ0 i = some σa ∧ stG vs g f d σa = some (y, σb) ∧ RelV x v ∧ Rep M.K H' x y ∧ GP X M σw H1 fp tn p (i + 1) σb H' s ∧
    ∀ s', Susp s s' → RdyG vs g f ds σ0 (i + 1) → kap (.send .none) s'
def EndG (X : Cx) (M : Mx) (σw : L2.St) (H1 : Hp) (p : Addr × Obj) (vs : List Nat) (g : D → DEnv → Option DEnv) (f : DEnv → R D) (ds : List D) (σ0 : DEnv) : Nat → Shared → Shared → Prop := fun n s₀ s =>
  n = 0 ∧ ∃ (σa : DEnv) (H' : Hp), trG vs g f ds σ0 ds.length = some σa ∧ Inv X [p] σw H' s ∧ Mt M σa σw H' ∧ Ext H1 H'

section
variable {X : Cx} {M : Mx} {σ : L2.St} {H1 : Hp} {fp : List Addr} {tn : Nat → Heap → Prop} {p : Addr × Obj} {vs is : List Nat} {g : D → DEnv → Option DEnv} {f : DEnv → R D} {ds : List D} {σ0 : DEnv} {J : It} {it : Addr} {elt tg iter : Expr} {scope : Scope} {pos : Pos} {Aw : Around}
theorem gen_loop (hK : X.K = M.K) (hc : X.calm = true) (hxe : X.xe = fun _ _ => False) (hex : X.ex = fp) (hpn : X.pn = []) (hpf : p.1 ∉ fp) (hco : X.env.scope.isCoroutine = false) (hlc : lcOk M vs) (his : ∀ i ∈ is, i ∈ vs)
    (hA : X.A = Aw.over (.compLoop (.GeneratorExp elt [⟨tg, iter, [], 0⟩] scope pos) 0 (.ref it) .none X.env) [])
    (T : Turn X.prog X.w X.K tg J fp it tn) (hJ : ItD M.K H1 J ds) (pg : SG X M is tg g) (pe : SE X M elt f) :
    ∀ (n i : Nat) (σa : DEnv) (H' : Hp) (s₀ s : Shared), i + n = ds.length → trG vs g f ds σ0 i = some σa → RdyG vs g f ds σ0 i → GP X M (wipe σ vs) H1 fp tn p i σa H' s →
      Seg (model X.prog X.w) Aw (fun n s₀ r s₁ => r = .ok .next ∧ EndG X M (wipe σ vs) H1 p vs g f ds σ0 n s₀ s₁) (ProG X M (wipe σ vs) H1 fp tn p vs g f ds σ0) n s₀
        (.compLoop (.GeneratorExp elt [⟨tg, iter, [], 0⟩] scope pos) 0 (.ref it) .none X.env) ((model X.prog X.w).den (.compLoop (.GeneratorExp elt [⟨tg, iter, [], 0⟩] scope pos) 0 (.ref it) .none X.env)) [] s := by
  have stat : ∀ {σ' : L2.St} {H' : Hp} {s' : Shared}, Inv X [p] σ' H' s' → (∀ b ∈ fp, H' b = none) → ∀ b ∈ fp, FpOk X [p] H' b := fun {σ' H' s'} I' hn b hb => by
    have hb' : b ∈ X.ex := by rw [hex]; exact hb
    refine ⟨hn b hb, (I'.ok.exf b hb').1, I'.ok.exfs b hb', .inl hb', fun x c e => (I'.ok.exf b hb').2 x c e, fun q hq z => ?_⟩
    rw [hpn] at hq
    have : q = p := by simpa using hq
    subst this
    exact hpf (by rw [z]; exact hb)
  intro n
  induction n with
  | zero =>
    intro i σa H' s₀ s hi htr hrd h
    have hil : i = ds.length := by omega
    subst hil
    show Seg _ Aw _ _ _ s₀ _ ((compTurn (.GeneratorExp elt [⟨tg, iter, [], 0⟩] scope pos) 0 (.ref it) .none X.env).onRaise (leaving X.env)) [] s
    rw [compTurn_gen, Sem.onRaise_eq_wrap]
    refine seg_bind_wrap (wpAny_standAt ?_)
    refine seg_bind_wrap ?_
    rw [← hA]
    refine wpAny_mono (T.done X rfl rfl rfl hc _ [p] s _ H' (fun _ _ => False) h.inv (stat h.inv h.fp) h.tn (hJ.stop H' h.ext)) (fun r s1 hr => ?_) fun _ _ z => z.elim
    obtain ⟨rfl, I1⟩ := hr
    exact seg_end (.ok .next) ⟨rfl, rfl, σa, H', htr, I1, h.mt, h.ext⟩
  | succ n ih =>
    intro i σa H' s₀ s hi htr hrd h
    have hlt : i < ds.length := by omega
    have hd : ds[i]? = some ds[i] := List.getElem?_eq_getElem hlt
    obtain ⟨y, σb, hst⟩ := hrd _ _ hd htr
    show Seg _ Aw _ _ _ s₀ _ ((compTurn (.GeneratorExp elt [⟨tg, iter, [], 0⟩] scope pos) 0 (.ref it) .none X.env).onRaise (leaving X.env)) [] s
    rw [compTurn_gen, Sem.onRaise_eq_wrap]
    refine seg_bind_wrap (wpAny_standAt ?_)
    refine seg_bind_wrap ?_
    rw [← hA]
    refine wpAny_mono (T.item X rfl rfl rfl hc i [p] s _ H' (fun _ _ => False) h.inv (stat h.inv h.fp) h.tn (hJ.go H' i _ h.ext hd)) (fun r s1 hr => ?_) fun _ _ z => z.elim
    obtain ⟨u, rfl, h6⟩ := hr
    refine seg_bind_wrap ?_
    rw [← hA]
    refine wpAny_mono h6 (fun _ s2 hr => ?_) fun _ _ z => z.elim
    obtain ⟨x, H7, I7, r7, y7, st7, n7⟩ := hr
    obtain ⟨s3, r3⟩ := hJ.yld H' i _ x H7 h.ext hd y7
    have I7' := I7.pinned (stat I7 n7) (T.obj _ _ st7)
    unfold stG at hst
    cases hg2 : g ds[i] σa with
    | none => rw [hg2] at hst; cases hst
    | some σ1 =>
      rw [hg2] at hst
      have hst : (match f σ1 with | .ok y σ2 => some (y, wipeD σ2 vs) | _ => none) = some (y, σb) := hst
      cases hf2 : f σ1 with
      | bad => rw [hf2] at hst; cases hst
      | exc c σ2 => rw [hf2] at hst; cases hst
      | ok y' σ2 =>
        rw [hf2] at hst
        cases hst
        refine seg_bind_wrap ?_
        rw [← hA]
        refine wpAny_mono (pg.run _ s2 _ H7 x u (fun σ4 H4 => Ext H7 H4 ∧ Mt M σ1 σ4 H4 ∧ (σ4.length = (wipe σ vs).length ∧ ∀ j : Nat, j ∉ is → σ4[j]? = (wipe σ vs)[j]?)) I7' r7 ⟨ds[i], σa, σ1, r3, h.mt.same s3, hg2, fun σ4 H4 e4 m4 l4 => ⟨e4, m4, l4⟩⟩) (fun _ s4 hr => ?_) fun x s' hx => by
          rw [hxe] at hx
          exact hx.elim
        obtain ⟨σ8, H8, I8, e8, m8, l8⟩ := hr
        refine seg_bind_wrap ?_
        simp only [List.forIn_nil]
        refine wpAny_pure ?_
        simp only [if_true]
        have hy : ∀ v, yieldOut X.env v = yieldValue v := fun v => by simp only [yieldOut, hco, Bool.false_eq_true, if_false]
        simp only [hy]
        rw [Sem.bind_eq_wrap', Sem.bind_eq_wrap', Sem.wrap_wrap, Sem.wrap_wrap]
        refine seg_wrap ?_
        rw [← hA]
        refine wpAny_mono (pe.run _ s4 σ8 H8 (fun v H9 => Ext H8 H9 ∧ Rep M.K H9 v y ∧ Mt M σ2 σ8 H9) I8 ⟨σ1, m8, ?_⟩) (fun z s5 hr => ?_) fun x s' hx => by
          rw [hxe] at hx
          exact hx.elim
        · rw [hf2]
          exact fun v H9 e9 r9 m9 => ⟨e9, r9, m9⟩
        obtain ⟨yv, H9, I9, r9, e9, rp9, m9⟩ := hr
        have hw : wipe σ8 vs = wipe σ vs := by
          rw [wipe_ext (σ := wipe σ vs) (σ' := σ8) l8.1 fun j hj => l8.2 j fun z => hj (his j z)]
          exact wipe_wipe
        have pin' : ∀ b ∈ fp, ∀ o, s2.heap.get? b = some o → s5.heap.get? b = some o ∧ H9 b = none := fun b hb o e =>
          let z := I9.pin (b, o) (List.mem_append_right _ (List.mem_append_right _ (mem_pinsAt hb e)))
          ⟨z.1, z.2.1⟩
        have hl : (wipe σ vs).length = σ8.length := by rw [← hw, wipe_length]
        have G : GP X M (wipe σ vs) H1 fp tn p (i + 1) (wipeD σ2 vs) H9 s5 := by
          refine ⟨(I9.unpinned (pins := [p])).weak hl (fun j v e => ?_), ?_, (h.ext.trans (Ext.same s3)).trans (e8.trans e9), T.keep _ _ _ st7 fun b hb o e => (pin' b hb o e).1, fun b hb => ?_⟩
          · rw [← hw] at e
            exact (wipe_some e).1
          · have := m9.wiped (vs := vs) hlc
            rw [hw] at this
            exact this
          · obtain ⟨o, e, _⟩ := T.obj _ _ st7 b hb
            exact (pin' b hb o e).2
        have hstd : stG vs g f ds[i] σa = some (y, wipeD σ2 vs) := by
          unfold stG
          rw [hg2]
          show (match f σ1 with | .ok y σ2 => some (y, wipeD σ2 vs) | _ => none) = _
          rw [hf2]
        refine seg_at (seg_yield rfl rfl rfl ⟨i, ds[i], σa, y, wipeD σ2 vs, yv, H9, by omega, hd, htr, hstd, r9, rp9, G, fun s'' hsu hrd' => ?_⟩)
        refine seg_again rfl (ih (i + 1) (wipeD σ2 vs) H9 s'' s'' (by omega) ?_ hrd' (G.susp T hsu))
        simp only [trG, htr, hd, hstd, Option.map_some]
/-- from the start -/
theorem gen_begin (hK : X.K = M.K) (hc : X.calm = true) (hxe : X.xe = fun _ _ => False) (hex : X.ex = fp) (hpn : X.pn = []) (hpf : p.1 ∉ fp) (hco : X.env.scope.isCoroutine = false) (hlc : lcOk M vs) (his : ∀ i ∈ is, i ∈ vs)
    (hA : X.A = Aw.over (.compLoop (.GeneratorExp elt [⟨tg, iter, [], 0⟩] scope pos) 0 (.ref it) .none X.env) [])
    (T : Turn X.prog X.w X.K tg J fp it tn) (hJ : ItD M.K H1 J ds) (pg : SG X M is tg g) (pe : SE X M elt f) {H' : Hp} {s₀ s : Shared} (hrd : RdyG vs g f ds σ0 0) (h : GP X M (wipe σ vs) H1 fp tn p 0 σ0 H' s) :
      Seg (model X.prog X.w) Aw (fun n s₀ r s₁ => r = .ok .next ∧ EndG X M (wipe σ vs) H1 p vs g f ds σ0 n s₀ s₁) (ProG X M (wipe σ vs) H1 fp tn p vs g f ds σ0) ds.length s₀
        (.compStart (.GeneratorExp elt [⟨tg, iter, [], 0⟩] scope pos) 0 (.ref it) .none X.env) ((model X.prog X.w).den (.compStart (.GeneratorExp elt [⟨tg, iter, [], 0⟩] scope pos) 0 (.ref it) .none X.env)) [] s := by
  have loop := gen_loop (σ0 := σ0) (σ := σ) hK hc hxe hex hpn hpf hco hlc his hA T hJ pg pe ds.length 0 σ0 H' s₀ s (Nat.zero_add _) rfl hrd h
  show Seg _ Aw _ _ _ s₀ _ ((compStart (.GeneratorExp elt [⟨tg, iter, [], 0⟩] scope pos) 0 (.ref it) .none X.env).onRaise (leaving X.env)) [] s
  unfold compStart
  rw [Sem.onRaise_eq_wrap]
  show Seg _ Aw _ _ _ s₀ _ ((ask >>= _).wrap _ _ _ _) [] s
  refine seg_bind_wrap (wpAny_askSetting ?_)
  split
  · exact seg_again rfl loop
  · refine seg_bind_wrap (wpAny_rule ?_)
    show Seg _ Aw _ _ _ s₀ _ ((standAt iter.pos >>= _).wrap _ _ _ _) [] s
    exact seg_bind_wrap (wpAny_standAt (seg_bind_wrap (T.self _ 0 s _ _ h.tn (seg_again rfl loop))))
end
end PL
set_option Elab.async false
set_option linter.all false
set_option maxRecDepth 100000
set_option autoImplicit false
/-! any, all of generator expressions. -/
namespace PL
open PySem PySem.Spec PyProof.Rows L2 GenW GxR

/-- the generator numbered gn sleeps ahead of turn i -/
def GAt (X : Cx) (M : Mx) (σw : L2.St) (H1 : Hp) (fp : List Addr) (tn : Nat → Heap → Prop) (p : Addr × Obj) (vs : List Nat) (g : D → DEnv → Option DEnv) (f : DEnv → R D) (ds : List D) (σ0 : DEnv) (B : Around) (gn : Nat) (i : Nat) (σa : DEnv) (s : Shared) : Prop :=
  (∃ H', GP X M σw H1 fp tn p i σa H' s) ∧ ∃ gs, s.gens[gn]? = some gs ∧ ∀ s', Susp s s' → RdyG vs g f ds σ0 i →
    gs.Goes (model X.prog X.w) B (fun n s₀ r s₁ => r = .ok .next ∧ EndG X M σw H1 p vs g f ds σ0 n s₀ s₁) (ProG X M σw H1 fp tn p vs g f ds σ0) (ds.length - i) (.send .none) s'
/-- the object of generator gn -/
structure GnObj (o : Obj) (gn : Nat) : Prop where
  cls : o.cls = .type "generator"
  data : ∃ nm qn, o.data = .fields #[.int gn 0, nm, qn]
  slots : o.slots = #[]
theorem GnObj.at {o : Obj} {gn : Nat} (x : GnObj o gn) {h : Heap} {a : Addr} (e : h.get? a = some o) : h.IsGen a gn := by
  obtain ⟨nm, qn, d⟩ := x.data
  exact ⟨o, nm, qn, e, x.cls, d, x.slots⟩
section
variable {X : Cx} {M : Mx} {σw : L2.St} {H1 : Hp} {fp : List Addr} {tn : Nat → Heap → Prop} {p : Addr × Obj} {vs is : List Nat} {g : D → DEnv → Option DEnv} {f : DEnv → R D} {ds : List D} {σ0 : DEnv} {J : It} {it : Addr} {tg : Expr} {A : Around} {gn : Nat}
theorem inv_pin {X : Cx} {p : Addr × Obj} {σ : L2.St} {H : Hp} {s : Shared} (I : Inv X [p] σ H s) : s.heap.get? p.1 = some p.2 := (I.pin p (List.mem_append_right _ List.mem_cons_self)).1
theorem g_item (go : GnObj p.2 gn) (hh : A.handled = none) (hd : A.depth < recursionLimit) (T : Turn X.prog X.w X.K tg J fp it tn) {i : Nat} {σa σb : DEnv} {d y : D} {s : Shared} {Q : Option Value → Shared → Prop} {E : Value → Shared → Prop} (h : GAt X M σw H1 fp tn p vs g f ds σ0 A.in1 gn i σa s) (hi : i < ds.length) (hdi : ds[i]? = some d) (htr : trG vs g f ds σ0 i = some σa) (hst : stG vs g f d σa = some (y, σb))
    (hQ : ∀ v x H' s', RelV x v → Rep M.K H' x y → GP X M σw H1 fp tn p (i + 1) σb H' s' → GAt X M σw H1 fp tn p vs g f ds σ0 A.in1 gn (i + 1) σb s' → Q (some v) s') :
    wpAny (model X.prog X.w) A (pyNext (.ref p.1)) Q E s := by
  obtain ⟨⟨H', G⟩, gs, hgs, hgo⟩ := h
  have hgl : gn < s.gens.size := (Array.getElem?_eq_some_iff.mp hgs).1
  obtain ⟨m, hm⟩ : ∃ m, ds.length - i = m + 1 := ⟨ds.length - i - 1, by omega⟩
  have hrd : RdyG vs g f ds σ0 i := fun d' σa' e1 e2 => by
    rw [hdi] at e1; cases e1
    rw [htr] at e2; cases e2
    exact ⟨y, σb, hst⟩
  have go0 := hgo (s.setGen gn .running) (Susp.setGen G.inv.bare rfl) hrd
  rw [hm] at go0
  refine wpAny_gsz (n := gn + 1) hgl (wpAny_pyNext_genexpQ (P := EndG X M σw H1 p vs g f ds σ0) hh G.inv.nolimit hd (go.at (inv_pin G.inv)) hgs go0 (fun v s₁ gs' hb hv => ?_) (fun s₁ hp h' hk => ?_))
  · obtain ⟨i', d', σa', y', σb', x, H2, hn, e1, e2, e3, r1, r2, G2, kap⟩ := hv
    have hii : i' = i := by omega
    subst hii
    rw [hdi] at e1; cases e1
    rw [htr] at e2; cases e2
    rw [hst] at e3; cases e3
    intro hsz
    have hsz1 : gn < s₁.gens.size := by
      have q : (s₁.setGen gn gs').gens.size = s₁.gens.size := setGen_size _ _ _
      have hsz' : gn + 1 ≤ (s₁.setGen gn gs').gens.size := hsz
      omega
    have su : Susp s₁ (s₁.setGen gn gs') := Susp.setGen G2.inv.bare hb
    refine hQ v x H2 _ r1 r2 (G2.susp T su) ⟨⟨H2, G2.susp T su⟩, gs', setGen_at hsz1, fun s' z hr => ?_⟩
    have e : ds.length - (i' + 1) = m := by omega
    rw [e]
    exact kap s' ⟨z.os.trans su.os, z.bare, fun b o q => z.keep b o (su.keep b o q)⟩ hr
  · exact absurd hp.1 (Nat.succ_ne_zero m)
theorem g_done (go : GnObj p.2 gn) (hh : A.handled = none) (hd : A.depth < recursionLimit) (T : Turn X.prog X.w X.K tg J fp it tn) {σa : DEnv} {s : Shared} {Q : Option Value → Shared → Prop} {E : Value → Shared → Prop} (h : GAt X M σw H1 fp tn p vs g f ds σ0 A.in1 gn ds.length σa s) (htr : trG vs g f ds σ0 ds.length = some σa)
    (hQ : ∀ H' s', Inv X [p] σw H' s' → Mt M σa σw H' → Ext H1 H' → Q none s') :
    wpAny (model X.prog X.w) A (pyNext (.ref p.1)) Q E s := by
  obtain ⟨⟨H', G⟩, gs, hgs, hgo⟩ := h
  have hrd : RdyG vs g f ds σ0 ds.length := fun d' σa' e1 e2 => by
    rw [List.getElem?_eq_none (Nat.le_refl _)] at e1; cases e1
  have go0 := hgo (s.setGen gn .running) (Susp.setGen G.inv.bare rfl) hrd
  rw [Nat.sub_self] at go0
  refine wpAny_pyNext_genexpQ (P := EndG X M σw H1 p vs g f ds σ0) hh G.inv.nolimit hd (go.at (inv_pin G.inv)) hgs go0 (fun v s₁ gs' hb hv => ?_) (fun s₁ hp h' hk => ?_)
  · obtain ⟨i', d', σa', y', σb', x, H2, hn, e1, e2, e3, r1, r2, G2, kap⟩ := hv
    have hil : i' + 1 = ds.length := hn
    exact False.elim (kap s₁ ⟨rfl, G2.inv.bare, fun _ _ e => e⟩ fun d'' σa'' z1 z2 => by
      rw [hil, List.getElem?_eq_none (Nat.le_refl _)] at z1; cases z1)
  · obtain ⟨_, σa', H2, e, I2, m2, x2⟩ := hp
    rw [htr] at e; cases e
    exact hQ H2 _ (Inv.susp I2 ⟨rfl, allBare_setGen I2.bare rfl, hk⟩) m2 x2

/-! ### the consumers -/
/-- any (stop = true), all (stop = false) -/
def qF (stop : Bool) (vs : List Nat) (g : D → DEnv → Option DEnv) (f : DEnv → R D) : List D → DEnv → R Bool
  | [], σ => .ok (!stop) σ
  | d :: ds, σ => match stG vs g f d σ with
    | some (.bool b, σ1) => if b = stop then .ok stop σ1 else qF stop vs g f ds σ1
    | _ => .bad
theorem qF_step {stop : Bool} {i : Nat} {σa : DEnv} {b : Bool} {σb : DEnv} (hi : i < ds.length) (h : qF stop vs g f (ds.drop i) σa = .ok b σb) : ∃ c σ1, stG vs g f ds[i] σa = some (.bool c, σ1) ∧ ((c = stop ∧ b = stop ∧ σb = σ1) ∨ (c ≠ stop ∧ qF stop vs g f (ds.drop (i + 1)) σ1 = .ok b σb)) := by
  rw [List.drop_eq_getElem_cons hi] at h
  unfold qF at h
  split at h
  · rename_i c σ1 e
    refine ⟨c, σ1, e, ?_⟩
    split at h
    · rename_i hc
      cases h
      exact .inl ⟨hc, rfl, rfl⟩
    · rename_i hc
      exact .inr ⟨hc, h⟩
  · cases h
theorem tr_next {i : Nat} {σa σb : DEnv} {d y : D} (hd : ds[i]? = some d) (htr : trG vs g f ds σ0 i = some σa) (hst : stG vs g f d σa = some (y, σb)) : trG vs g f ds σ0 (i + 1) = some σb := by
  simp only [trG, htr, hd, hst, Option.map_some]
theorem any_loopD {Rr : Result → Shared → Prop} (go : GnObj p.2 gn) (hh : A.handled = none) (hd : A.depth < recursionLimit) (T : Turn X.prog X.w X.K tg J fp it tn) {b : Bool} {σb : DEnv}
    (hR : ∀ H' s', Inv X [p] σw H' s' → Mt M σb σw H' → Ext H1 H' → Rr (.ok (.ret (.bool b))) s') : ∀ (k i : Nat) (σa : DEnv) (s : Shared), i + k = ds.length → trG vs g f ds σ0 i = some σa → GAt X M σw H1 fp tn p vs g f ds σ0 A.in1.in1 gn i σa s → qF true vs g f (ds.drop i) σa = .ok b σb →
      codeAny (model X.prog X.w) A (.builtin "any.loop" ⟨[.ref p.1], []⟩) Rr s := by
  intro k
  induction k with
  | zero =>
    intro i σa s hi htr h hq
    have hil : i = ds.length := by omega
    subst hil
    rw [List.drop_length] at hq
    cases hq
    refine codeAny_builtin F.entry_any_loop ?_
    rw [Around.under_plainId F.plain_any_loop _]
    show wpAny _ A.in1 (pyNext (.ref p.1) >>= _) _ _ s
    refine wpAny_bind (g_done (A := A.in1) go hh hd T h htr fun H' s' I m x => ?_)
    exact wpAny_bind (wpAny_rule (wpAny_pure (hR H' s' I m x)))
  | succ k ih =>
    intro i σa s hi htr h hq
    have hlt : i < ds.length := by omega
    have hdi : ds[i]? = some ds[i] := List.getElem?_eq_getElem hlt
    obtain ⟨c, σ1, hst, hc⟩ := qF_step hlt hq
    refine codeAny_builtin F.entry_any_loop ?_
    rw [Around.under_plainId F.plain_any_loop _]
    show wpAny _ A.in1 (pyNext (.ref p.1) >>= _) _ _ s
    refine wpAny_bind (g_item (A := A.in1) go hh hd T h hlt hdi htr hst fun v x H' s' r1 r2 G h' => ?_)
    cases r2 with
    | bl =>
      have ev : v = .bool c := r1
      subst ev
      refine wpAny_bind (wpAny_holding (wpAny_truthy_bool ?_))
      refine wpAny_bind (wpAny_letGo ?_)
      cases c with
      | true =>
        simp only [if_true]
        rcases hc with ⟨_, rfl, rfl⟩ | ⟨z, _⟩
        · exact wpAny_bind (wpAny_rule (wpAny_pure (hR H' s' G.inv G.mt G.ext)))
        · exact absurd rfl z
      | false =>
        simp only [Bool.false_eq_true, if_false]
        rcases hc with ⟨z, _, _⟩ | ⟨_, z⟩
        · cases z
        · exact wpAny_pure ⟨plainId_quiet F.plain_any_loop _, ih (i + 1) σ1 s' (by omega) (tr_next hdi htr hst) h' z⟩
theorem all_loopD {Rr : Result → Shared → Prop} (go : GnObj p.2 gn) (hh : A.handled = none) (hd : A.depth < recursionLimit) (T : Turn X.prog X.w X.K tg J fp it tn) {b : Bool} {σb : DEnv}
    (hR : ∀ H' s', Inv X [p] σw H' s' → Mt M σb σw H' → Ext H1 H' → Rr (.ok (.ret (.bool b))) s') : ∀ (k i : Nat) (σa : DEnv) (s : Shared), i + k = ds.length → trG vs g f ds σ0 i = some σa → GAt X M σw H1 fp tn p vs g f ds σ0 A.in1.in1 gn i σa s → qF false vs g f (ds.drop i) σa = .ok b σb →
      codeAny (model X.prog X.w) A (.builtin "all.loop" ⟨[.ref p.1], []⟩) Rr s := by
  intro k
  induction k with
  | zero =>
    intro i σa s hi htr h hq
    have hil : i = ds.length := by omega
    subst hil
    rw [List.drop_length] at hq
    cases hq
    refine codeAny_builtin F.entry_all_loop ?_
    rw [Around.under_plainId F.plain_all_loop _]
    show wpAny _ A.in1 (pyNext (.ref p.1) >>= _) _ _ s
    refine wpAny_bind (g_done (A := A.in1) go hh hd T h htr fun H' s' I m x => ?_)
    exact wpAny_bind (wpAny_rule (wpAny_pure (hR H' s' I m x)))
  | succ k ih =>
    intro i σa s hi htr h hq
    have hlt : i < ds.length := by omega
    have hdi : ds[i]? = some ds[i] := List.getElem?_eq_getElem hlt
    obtain ⟨c, σ1, hst, hc⟩ := qF_step hlt hq
    refine codeAny_builtin F.entry_all_loop ?_
    rw [Around.under_plainId F.plain_all_loop _]
    show wpAny _ A.in1 (pyNext (.ref p.1) >>= _) _ _ s
    refine wpAny_bind (g_item (A := A.in1) go hh hd T h hlt hdi htr hst fun v x H' s' r1 r2 G h' => ?_)
    cases r2 with
    | bl =>
      have ev : v = .bool c := r1
      subst ev
      refine wpAny_bind (wpAny_holding (wpAny_truthy_bool ?_))
      refine wpAny_bind (wpAny_letGo ?_)
      cases c with
      | false =>
        simp only [Bool.false_eq_true, if_false, Bool.not_false, if_true]
        rcases hc with ⟨_, rfl, rfl⟩ | ⟨z, _⟩
        · exact wpAny_bind (wpAny_rule (wpAny_pure (hR H' s' G.inv G.mt G.ext)))
        · exact absurd rfl z
      | true =>
        simp only [if_true, Bool.not_true, Bool.false_eq_true, if_false]
        rcases hc with ⟨z, _, _⟩ | ⟨_, z⟩
        · cases z
        · exact wpAny_pure ⟨plainId_quiet F.plain_all_loop _, ih (i + 1) σ1 s' (by omega) (tr_next hdi htr hst) h' z⟩
end
end PL
set_option Elab.async false
set_option linter.all false
set_option maxRecDepth 100000
set_option maxHeartbeats 1000000
set_option autoImplicit false
/-! any(..), all(..) of generator expressions: the rules. -/
namespace PL
open PySem PySem.Spec PyProof.Rows L2 GenW

theorem tab_of {H : Hp} {P : Addr} (h : TabG H P) : GxR.TabG H P := h
/-- a table that grows -/
theorem Mt.tabbed {M : Mx} {σd : DEnv} {σ : L2.St} {H : Hp} {P : Addr} {ps more : Array Value} (m : Mt M σd σ H) (hP : H P = some (.tbl ps)) (ht : TriplesOk (ps ++ more).toList) : Mt M σd σ (upd H P (.tbl (ps ++ more))) ∧ Ext H (upd H P (.tbl (ps ++ more))) := by
  have ne : ∀ b o, H b = some o → (∀ q, o ≠ .tbl q) → b ≠ P := fun b o e k z => by
    rw [z, hP] at e
    exact k ps (Option.some.inj e).symm
  have ex : Ext H (upd H P (.tbl (ps ++ more))) := ⟨fun b xs e => by rw [upd_ne (ne b _ e (fun q z => by cases z))]; exact e, fun b o u e => by rw [upd_ne (ne b _ e (fun q z => by cases z))]; exact e⟩
  refine ⟨⟨m.len, fun i d e => ?_, fun i es e => ?_, fun i es e => ?_, m.dj, fun b o e1 e2 => ?_, fun Q hQ => ?_, m.tape, m.tapOne⟩, ex⟩
  · obtain ⟨v, h1, h2⟩ := m.val i d e
    exact ⟨v, h1, h2.ext ex⟩
  · obtain ⟨p, xs, h1, h2, h3, h4⟩ := m.own i es e
    exact ⟨p, xs, h1, by rw [upd_ne (ne p _ h2 (fun q z => by cases z))]; exact h2, h3.ext ex, h4⟩
  · obtain ⟨p, xs, h1, h2, h3, h4⟩ := m.tap i es e
    exact ⟨p, xs, h1, by rw [upd_ne (ne p _ h2 (fun q z => by cases z))]; exact h2, h3.ext ex, h4⟩
  · refine (m.kept b o e1 e2).trans fun o' h' => ?_
    by_cases hb : b = P
    · subst hb
      rw [hP] at h'
      cases h'
      rw [upd_same]
      exact .inr ⟨ps, more, rfl, rfl⟩
    · rw [upd_ne hb]
      exact .inl h'
  · by_cases hb : Q = P
    · subst hb
      exact ⟨_, upd_same, ht⟩
    · obtain ⟨qs, e, t⟩ := m.tabs Q hQ
      exact ⟨qs, by rw [upd_ne hb]; exact e, t⟩

/-- any(..), all(..) of data -/
def qE (stop : Bool) (vs : List Nat) (src : DEnv → R (List D)) (g : D → DEnv → Option DEnv) (f : DEnv → R D) : DEnv → R D := fun σ =>
  (src σ).bind fun ds σ1 => match qF stop vs g f ds (wipeD σ1 vs) with
    | .ok b σ2 => .ok (.bool b) (backD σ1 σ2 vs)
    | _ => .bad

/-- the around of the generator's frame -/
def arG (A : Around) (elt tg iter : Expr) (scope : Scope) (pos : Pos) (it : Value) (cenv : PySem.Env) : Around := A.in1.in1.over (.compLoop (.GeneratorExp elt [⟨tg, iter, [], 0⟩] scope pos) 0 it .none cenv) []
theorem arG_room {A : Around} {elt tg iter : Expr} {scope : Scope} {pos : Pos} {it : Value} {cenv : PySem.Env} {k : Nat} (h : Room (k + 1) A) : Room k (arG A elt tg iter scope pos it cenv) := by
  refine ⟨h.hd, ?_, ?_⟩
  · have := h.dp
    show A.depth + 1 + 3 * k + 5 < _
    omega
  · have := h.un
    show A.units + 1 + 1 + 0 + 3 + 16 * k + 200 < _
    omega
theorem arG_frames {A : Around} {elt tg iter : Expr} {scope : Scope} {pos : Pos} {it : Value} {cenv : PySem.Env} {l : List PySem.Env} (h : A.frames = some l) : (arG A elt tg iter scope pos it cenv).frames = some (cenv :: l) := by
  show pushEnvs [cenv] (pushEnvs [] A.frames) = _
  rw [h]
  rfl

/-- the generator at g is made, ready to be walked -/
def Born (X : Cx) (M : Mx) (pins : List (Addr × Obj)) (σ : L2.St) (H : Hp) (vs : List Nat) (g : D → DEnv → Option DEnv) (f : DEnv → R D) (Rd : List D → DEnv → Prop) (u : Value) (s5 : Shared) : Prop :=
  ∃ (Xg : Cx) (H1 : Hp) (fp : List Addr) (tn : Nat → Heap → Prop) (p : Addr × Obj) (gn : Nat) (J : It) (it : Addr) (tg : Expr) (ds : List D) (σ1 : DEnv),
    u = .ref p.1 ∧ Xg.prog = X.prog ∧ Xg.w = X.w ∧ GnObj p.2 gn ∧ Turn Xg.prog Xg.w Xg.K tg J fp it tn ∧ GAt Xg (M.blk M.H0) (wipe σ vs) H1 fp tn p vs g f ds (wipeD σ1 vs) X.A.in1.in1 gn 0 (wipeD σ1 vs) s5 ∧ Rd ds σ1 ∧
    ∀ (σb : DEnv) (H' : Hp) (s' : Shared), Inv Xg [p] (wipe σ vs) H' s' → Mt (M.blk M.H0) σb (wipe σ vs) H' → Ext H1 H' → Inv X pins σ H' s' ∧ Mt M (backD σ1 σb vs) σ H' ∧ Ext H H'

section
variable {X : Cx} {M : Mx} {elt tg iter : Expr} {scope : Scope} {own : List (Str × Nat)} {gpos : Pos} {is : List Nat} {src : DEnv → R (List D)} {g : D → DEnv → Option DEnv} {f : DEnv → R D} {kk : Nat} {c P : Addr}
theorem gen_born {pins : List (Addr × Obj)} {s : Shared} {σ : L2.St} {H : Hp} {Rd : List D → DEnv → Prop} {Q' : Value → Shared → Prop} (o : Ok X M (kk + 1)) (TB : GxR.TabB X.base X.mg c P) (hP : P ∈ M.tabs) (hcode : X.env.code = .ref c) (hi : SI X M tg iter src) (gok : GenOk X.env scope) (ok : BlkOk X.N X.env.scope scope own)
    (hok : lcOk M (own.map (·.2))) (his : ∀ i ∈ is, i ∈ own.map (·.2))
    (hg : ∀ (s : Shared) (H : Hp) (C : Addr) (cl : List (Str × Addr)) (cd : Value) (bi : Addr) (fp : List Addr) (A : Around), Room kk A → SG (CxGen X s H (genEnv scope cl C cd bi X.env) fp A) (M.blk M.H0) is tg g)
    (he : ∀ (s : Shared) (H : Hp) (C : Addr) (cl : List (Str × Addr)) (cd : Value) (bi : Addr) (fp : List Addr) (A : Around), Room kk A → SE (CxGen X s H (genEnv scope cl C cd bi X.env) fp A) (M.blk M.H0) elt f)
    (hs : ∀ v, genFold iter X.env v = pure v) (I : Inv X pins σ H s) {σd : DEnv} (m : Mt M σd σ H) (hq : wpR (src σd) Rd M.W)
    (hQ : ∀ u s5, Born X M pins σ H (own.map (·.2)) g f Rd u s5 → Q' u s5) :
    wpAny (model X.prog X.w) X.A (eval (.GeneratorExp elt [⟨tg, iter, [], 0⟩] scope gpos) X.env) Q' X.xe s := by
  have hfree : ∀ y ∈ scope.names, y.2 = .free → ∃ c, X.env.cells.lookup y.1 = some c := fun y hy e => by
    rcases ok.free y hy e with k | k
    · exact I.ok.has _ (.inl k)
    · exact I.ok.has _ (.inr k)
  refine wpAny_GeneratorExp_make gok.co (closure_ok hfree) gok.cell gok.dot ok.kind o.room.depth ?_ hs
  refine thn (hi.run pins s σ H (fun J H1 => ∃ ds σ1, Ext H H1 ∧ Mt M σ1 σ H1 ∧ ItD M.K H1 J ds ∧ Rd ds σ1) I ⟨σd, m, wpR_mono hq fun ds σ1 hr J H1 e1 m1 hJ => ⟨ds, σ1, e1, m1, hJ, hr⟩⟩) fun xv s1 hx => thn hx fun itv s2 h2 => ?_
  obtain ⟨it, fp, tn, J, H2, rfl, I2, T, st2, f2, ds, σ1, e2, m2, hJ, hr⟩ := h2
  obtain ⟨ps, hPs, ht⟩ := m2.tabs P hP
  have hPh : s2.heap.get? P = some { cls := .none, data := .fields ps } := I2.hok P _ hPs
  have cd : PySem.W.CodeHd s2.heap c P := TB.code.keeps fun b u e => I2.bk b u e
  refine ⟨I2.nolimit, ?_⟩
  have cont : ∀ (code : Value) (h3 : Heap) (tk : Nat) (ps' : Array Value), Heap.ExtBut P s2.heap h3 → h3.get? P = some { cls := .none, data := .fields ps' } → (∃ more, ps' = ps ++ more) → TriplesOk ps'.toList →
      wpAny (model X.prog X.w) X.A (builtinsFor X.env.globals X.env.builtins) (fun bi s₄ =>
        ∀ h', h'.Ns s₄.heap.objs.size (fun y => if y = ".0" then some (.ref it) else none) → Heap.SameBut s₄.heap.objs.size (s₄.heap.push { cls := .type "frame", data := .dict #[] }) h' →
          Q' (.ref h'.objs.size) { s₄ with
            gens := s₄.gens.push (.fresh (.compStart (.GeneratorExp elt [⟨tg, iter, [], 0⟩] scope gpos) 0 (.ref it) .none (genEnv scope (cloFrom X.env.cells scope.names []) s₄.heap.objs.size code bi X.env))),
            toks := s₄.toks + 1 + 1 + 1,
            heap := h'.push { cls := .type "generator", data := .fields #[.int s₄.gens.size 0, .str "<genexpr>" (s₄.toks + 1), .str (X.env.qual ++ "<genexpr>") (s₄.toks + 1 + 1)] } }) X.xe { s2 with heap := h3, toks := tk } := by
    intro code h3 tk ps' hx hP3 hmore ht3
    obtain ⟨more, em⟩ := hmore
    subst em
    have I3 : Inv X pins σ (upd H2 P (.tbl (ps ++ more))) { s2 with heap := h3, toks := tk } := GxR.inv_tab (h' := h3) (g' := s2.gens) (d' := s2.drawn) (t' := tk) I2 hPs (fun b u hb e => hx b u hb e) hP3 I2.bare
    obtain ⟨m3, e3⟩ := m2.tabbed (more := more) hPs ht3
    obtain ⟨bm, ob, b1, b2, b3, b4, b5, b6, b7, b8⟩ := TB.bm
    refine wpAny_builtinsFor (m := X.mg) (by rw [I3.ok.glob]; exact (I2.mod.glob.keeps I2.bk).extBut hx TB.gP) b1 b2 (hx _ _ b4 (I2.bk _ _ b5)) b6 b7 b8 ?_
    intro h' hn' hs'
    have f3 : ∀ b ∈ fp, FpOk X pins (upd H2 P (.tbl (ps ++ more))) b ∧ b < h3.objs.size := fun b hb => by
      obtain ⟨ob', eb, _⟩ := T.obj _ _ st2 b hb
      have nbP : b ≠ P := fun z => by
        have := (f2 b hb).1
        rw [z, hPs] at this
        cases this
      refine ⟨⟨by rw [upd_ne nbP]; exact (f2 b hb).1, (f2 b hb).2⟩, ?_⟩
      exact Heap.lt_size (hx b ob' nbP eb)
    generalize hgo : ({ cls := .type "generator", data := .fields #[.int s2.gens.size 0, .str "<genexpr>" (tk + 1), .str (X.env.qual ++ "<genexpr>") (tk + 1 + 1)] } : Obj) = go
    have gno : GnObj go s2.gens.size := by subst hgo; exact ⟨rfl, ⟨_, _, rfl⟩, rfl⟩
    have hgz : ∀ h : Heap, (h.push go).get? h.objs.size = some go := fun h => by subst hgo; exact Heap.get?_push_size _ rfl
    have hgc : ∀ v, go.data ≠ .cell v := fun v z => by subst hgo; cases z
    generalize hcv : genEnv scope (cloFrom X.env.cells scope.names []) h3.objs.size code builtinsNs X.env = cenv
    have hAf : (arG X.A elt tg iter scope gpos (.ref it) cenv).frames = some (cenv :: X.stack) := arG_frames I.ok.frames
    have hbare : AllBare (s2.gens.push (.fresh (.compStart (.GeneratorExp elt [⟨tg, iter, [], 0⟩] scope gpos) 0 (.ref it) .none cenv))) := I2.bare.push rfl
    have I4 := gen_start (G := s2.gens.push (.fresh (.compStart (.GeneratorExp elt [⟨tg, iter, [], 0⟩] scope gpos) 0 (.ref it) .none cenv))) (tk := tk + 1 + 1 + 1) (A' := arG X.A elt tg iter scope gpos (.ref it) cenv) (code := code) (go := go) (h' := h') (it := .ref it) I3 ok gok o.nd f3 rfl
      (by rw [← hcv] at hAf; rw [← hcv]; exact hAf) (o.room.hd : X.A.handled = none) hn' hs' hgc hgz hbare
    have I4 : Inv (CxGen X { s2 with heap := h3, toks := tk } (upd H2 P (.tbl (ps ++ more))) (genEnv scope (cloFrom X.env.cells scope.names []) h3.objs.size code builtinsNs X.env) fp (arG X.A elt tg iter scope gpos (.ref it) cenv)) [(h'.objs.size, go)] (wipe σ (own.map (·.2))) (upd H2 P (.tbl (ps ++ more))) { s2 with heap := h'.push go, gens := s2.gens.push (.fresh (.compStart (.GeneratorExp elt [⟨tg, iter, [], 0⟩] scope gpos) 0 (.ref it) .none cenv)), toks := tk + 1 + 1 + 1 } := I4
    have hr' : Room kk (arG X.A elt tg iter scope gpos (.ref it) cenv) := arG_room o.room
    have pg := hg { s2 with heap := h3, toks := tk } (upd H2 P (.tbl (ps ++ more))) h3.objs.size (cloFrom X.env.cells scope.names []) code builtinsNs fp _ hr'
    have pe := he { s2 with heap := h3, toks := tk } (upd H2 P (.tbl (ps ++ more))) h3.objs.size (cloFrom X.env.cells scope.names []) code builtinsNs fp _ hr'
    have hco : cenv.scope.isCoroutine = false := by rw [← hcv]; exact gok.co
    have cL : cenv.locals = h3.objs.size := by rw [← hcv]; rfl
    rw [hcv] at I4 pg pe
    have sz' : h'.objs.size = h3.objs.size + 1 := by rw [hs'.1, Heap.size_push]
    have keep4 : ∀ b ob', h3.get? b = some ob' → (h'.push go).get? b = some ob' := fun b ob' e => Heap.get?_push_of_some _ (hs'.extBut b ob' (Nat.ne_of_lt (Heap.lt_size e)) (Heap.get?_push_of_some _ e))
    have st4 : tn 0 (h'.push go) := T.keep _ _ _ st2 fun b hb ob' e => keep4 b ob' (hx b ob' (fun z => by
      have := (f2 b hb).1
      rw [z, hPs] at this
      cases this) e)
    have hpf : h'.objs.size ∉ fp := fun z => by
      have := (f3 _ z).2
      rw [sz'] at this
      exact Nat.not_lt.mpr (Nat.le_succ _) this
    have G0 : GP (CxGen X { s2 with heap := h3, toks := tk } (upd H2 P (.tbl (ps ++ more))) cenv fp (arG X.A elt tg iter scope gpos (.ref it) cenv)) (M.blk M.H0) (wipe σ (own.map (·.2))) (upd H2 P (.tbl (ps ++ more))) fp tn (h'.objs.size, go) 0 (wipeD σ1 (own.map (·.2))) (upd H2 P (.tbl (ps ++ more))) _ :=
      ⟨I4, (m3.wiped hok).blkOf, Ext.refl _, st4, fun b hb => (f3 b hb).1.1⟩
    have hJ3 : ItD (M.blk M.H0).K (upd H2 P (.tbl (ps ++ more))) J ds := ⟨fun H' i d x => hJ.go H' i d (e3.trans x), fun H' i d x H2' y => hJ.yld H' i d x H2' (e3.trans y), fun H' x => hJ.stop H' (e3.trans x)⟩
    refine hQ _ _ ⟨CxGen X { s2 with heap := h3, toks := tk } (upd H2 P (.tbl (ps ++ more))) cenv fp (arG X.A elt tg iter scope gpos (.ref it) cenv), upd H2 P (.tbl (ps ++ more)), fp, tn, (h'.objs.size, go), s2.gens.size, J, it, tg, ds, σ1, rfl, rfl, rfl, gno, T, ⟨⟨upd H2 P (.tbl (ps ++ more)), ?_⟩, .fresh (.compStart (.GeneratorExp elt [⟨tg, iter, [], 0⟩] scope gpos) 0 (.ref it) .none cenv), ?_, fun s'' z hrd => ⟨rfl, ?_⟩⟩, hr, fun σb H' s' Ig mb xb => ?_⟩
    · first
        | exact G0
        | (subst hgo; subst hcv; exact G0)
    · subst hcv
      exact Array.getElem?_push_size ..
    · have := gen_begin (X := CxGen X { s2 with heap := h3, toks := tk } (upd H2 P (.tbl (ps ++ more))) cenv fp (arG X.A elt tg iter scope gpos (.ref it) cenv)) (M := M.blk M.H0) (fp := fp) (tn := tn) (p := (h'.objs.size, go)) (σ := σ) (vs := own.map (·.2)) (σ0 := wipeD σ1 (own.map (·.2))) (Aw := X.A.in1.in1) (pos := gpos) (s₀ := s'') o.hK o.calm rfl rfl rfl hpf hco (show lcOk (M.blk M.H0) (own.map (·.2)) from hok) his rfl T hJ3 pg pe hrd (G0.susp T (by
        first
          | exact z
          | (subst hgo; subst hcv; exact z)))
      subst hcv
      exact this
    · have nC : H' cenv.locals = none := Ig.free
      refine ⟨I3.call' (ch := fp) Ig.os Ig.base Ig.hok Ig.bare fun b hb => ⟨(f3 b hb).1.2.2.2.1, (f3 b hb).1.2.1, (f3 b hb).1.2.2.2.2.1, (f3 b hb).1.2.2.2.2.2⟩, ?_, e2.trans (e3.trans xb)⟩
      exact m3.back xb mb.ofBlk hok
  cases hf : codeAmong gpos ps.toList with
  | none =>
    refine wpAny_genexprCodeX hcode (cd.code hPh ht) (cd.tab hPh) hf fun c' h' tk hx hge hlt hco' _ htab' _ => ?_
    obtain ⟨o1, us, f1, tf, fl, tg', inF, tx, tt, op, _, _, _, _, _, _, _, _, _, htr, _⟩ := hco'
    exact cont _ h' tk _ hx htab'.2 ⟨_, rfl⟩ htr
  | some cv =>
    refine wpAny_genexprCode_hit hcode (cd.code hPh ht) hf ?_
    exact cont cv s2.heap s2.toks ps (Heap.ExtBut.refl _ _) hPh ⟨#[], by simp⟩ ht

theorem Ok.gen (o : Ok X M (kk + 1)) (H0 : Hp) (s : Shared) (H : Hp) (cenv : PySem.Env) (fp : List Addr) (A : Around) (h : Room kk A) : Ok (CxGen X s H cenv fp A) (M.blk H0) kk :=
  ⟨o.hK, o.calm, o.nd, h, takes_none fun _ _ _ _ ⟨_, _, _, _, _, z⟩ => z, PassesOwn.never⟩
variable {p pos : Pos}
theorem quant_end {σ : L2.St} {H : Hp} {Q : VK} {stop : Bool} {vs : List Nat} {ds : List D} {σ1 : DEnv} (q : wpR (match qF stop vs g f ds (wipeD σ1 vs) with | .ok b σ2 => R.ok (PyData.bool b) (backD σ1 σ2 vs) | _ => .bad) (fun d σ2 => ∀ v H', Ext H H' → Rep M.K H' v d → Mt M σ2 σ H' → Q v H') M.W) :
    ∃ b σb, qF stop vs g f ds (wipeD σ1 vs) = .ok b σb ∧ ∀ H', Ext H H' → Mt M (backD σ1 σb vs) σ H' → Q (.bl b) H' := by
  cases e : qF stop vs g f ds (wipeD σ1 vs) with
  | ok b σ2 =>
    rw [e] at q
    exact ⟨b, σ2, rfl, fun H' x m => q (.bl b) H' x (.bl _) m⟩
  | exc c σ2 => rw [e] at q; exact q.elim
  | bad => rw [e] at q; exact q.elim
/-- any(elt for tg in iter) -/
theorem se_any (o : Ok X M (kk + 1)) (hgl : Gl X "any") (hm : X.mg "any" = none) (TB : GxR.TabB X.base X.mg c P) (hP : P ∈ M.tabs) (hcode : X.env.code = .ref c) (hi : SI X M tg iter src) (gok : GenOk X.env scope) (ok : BlkOk X.N X.env.scope scope own)
    (hok : lcOk M (own.map (·.2))) (his : ∀ i ∈ is, i ∈ own.map (·.2))
    (hg : ∀ (s : Shared) (H : Hp) (C : Addr) (cl : List (Str × Addr)) (cd : Value) (bi : Addr) (fp : List Addr) (A : Around), Room kk A → SG (CxGen X s H (genEnv scope cl C cd bi X.env) fp A) (M.blk M.H0) is tg g)
    (he : ∀ (s : Shared) (H : Hp) (C : Addr) (cl : List (Str × Addr)) (cd : Value) (bi : Addr) (fp : List Addr) (A : Around), Room kk A → SE (CxGen X s H (genEnv scope cl C cd bi X.env) fp A) (M.blk M.H0) elt f)
    (hs : ∀ v, genFold iter X.env v = pure v := by intro _; rfl)
    (hst : starEach [.GeneratorExp elt [⟨tg, iter, [], 0⟩] scope gpos] X.env = (false, eval (.GeneratorExp elt [⟨tg, iter, [], 0⟩] scope gpos) X.env) :: starEach [] X.env := by rfl) :
    SE X M (.Call (.Name "any" p) [.GeneratorExp elt [⟨tg, iter, [], 0⟩] scope gpos] [] pos) (qE true (own.map (·.2)) src g f) := by
  refine ⟨fun pins s σ H Q I ⟨σd, m, q⟩ => ?_⟩
  refine wpAny_Call_Name_kw (ld_blt I hgl hm boot_any ?_)
  refine PyProof.Rows.callWith_builtin1 ?_ hst (by rfl)
  rw [hst]
  show wpAny _ _ (spliced ((false, eval (.GeneratorExp elt [⟨tg, iter, [], 0⟩] scope gpos) X.env) :: backTo pos (starEach [] X.env))) _ _ s
  refine Calls.spliced_cons (gen_born o TB hP hcode hi gok ok hok his hg he hs I m (wpR_bind.mp q) fun u s5 hB => ?_)
  obtain ⟨Xg, H1, fp, tn, pp, gn, J, it, tg', ds, σ1, rfl, hp, hw, go, T, G, hr, back⟩ := hB
  obtain ⟨b, σb, e, hQ⟩ := quant_end hr
  refine Calls.spliced_nil ?_
  refine call_function_tree F.kind_any F.plain_any F.entry_any (F.args_any1 _) ?_
  unfold Builtin.«any»
  refine wpAny_bind (m := oneArg "any" _) (wpAny_pure ?_)
  obtain ⟨H0, G0⟩ := G.1
  refine wpAny_bind (wpAny_pyIter_gen (go.at (inv_pin G0.inv)) (wpAny_pure ⟨plainId_quiet F.plain_any_loop _, ?_⟩))
  rw [← hp, ← hw]
  refine any_loopD (A := X.A) go o.room.hd o.room.depth T (b := b) (σb := σb) (fun H' s' Ig mb x => ?_) ds.length 0 _ s5 (Nat.zero_add _) rfl G (by rw [List.drop_zero]; exact e)
  obtain ⟨I', m', x'⟩ := back σb H' s' Ig mb x
  exact ⟨.bl b, H', I', rfl, hQ H' x' m'⟩
/-- all(elt for tg in iter) -/
theorem se_all (o : Ok X M (kk + 1)) (hgl : Gl X "all") (hm : X.mg "all" = none) (TB : GxR.TabB X.base X.mg c P) (hP : P ∈ M.tabs) (hcode : X.env.code = .ref c) (hi : SI X M tg iter src) (gok : GenOk X.env scope) (ok : BlkOk X.N X.env.scope scope own)
    (hok : lcOk M (own.map (·.2))) (his : ∀ i ∈ is, i ∈ own.map (·.2))
    (hg : ∀ (s : Shared) (H : Hp) (C : Addr) (cl : List (Str × Addr)) (cd : Value) (bi : Addr) (fp : List Addr) (A : Around), Room kk A → SG (CxGen X s H (genEnv scope cl C cd bi X.env) fp A) (M.blk M.H0) is tg g)
    (he : ∀ (s : Shared) (H : Hp) (C : Addr) (cl : List (Str × Addr)) (cd : Value) (bi : Addr) (fp : List Addr) (A : Around), Room kk A → SE (CxGen X s H (genEnv scope cl C cd bi X.env) fp A) (M.blk M.H0) elt f)
    (hb : bootBuiltins "all" = some (.builtin "all") := by decide +kernel)
    (hs : ∀ v, genFold iter X.env v = pure v := by intro _; rfl)
    (hst : starEach [.GeneratorExp elt [⟨tg, iter, [], 0⟩] scope gpos] X.env = (false, eval (.GeneratorExp elt [⟨tg, iter, [], 0⟩] scope gpos) X.env) :: starEach [] X.env := by rfl) :
    SE X M (.Call (.Name "all" p) [.GeneratorExp elt [⟨tg, iter, [], 0⟩] scope gpos] [] pos) (qE false (own.map (·.2)) src g f) := by
  refine ⟨fun pins s σ H Q I ⟨σd, m, q⟩ => ?_⟩
  refine wpAny_Call_Name_kw (ld_blt I hgl hm hb ?_)
  refine PyProof.Rows.callWith_builtin1 ?_ hst (by rfl)
  rw [hst]
  show wpAny _ _ (spliced ((false, eval (.GeneratorExp elt [⟨tg, iter, [], 0⟩] scope gpos) X.env) :: backTo pos (starEach [] X.env))) _ _ s
  refine Calls.spliced_cons (gen_born o TB hP hcode hi gok ok hok his hg he hs I m (wpR_bind.mp q) fun u s5 hB => ?_)
  obtain ⟨Xg, H1, fp, tn, pp, gn, J, it, tg', ds, σ1, rfl, hp, hw, go, T, G, hr, back⟩ := hB
  obtain ⟨b, σb, e, hQ⟩ := quant_end hr
  refine Calls.spliced_nil ?_
  refine call_function_tree F.kind_all F.plain_all F.entry_all (F.args_all1 _) ?_
  unfold Builtin.«all»
  refine wpAny_bind (m := oneArg "all" _) (wpAny_pure ?_)
  obtain ⟨H0, G0⟩ := G.1
  refine wpAny_bind (wpAny_pyIter_gen (go.at (inv_pin G0.inv)) (wpAny_pure ⟨plainId_quiet F.plain_all_loop _, ?_⟩))
  rw [← hp, ← hw]
  refine all_loopD (A := X.A) go o.room.hd o.room.depth T (b := b) (σb := σb) (fun H' s' Ig mb x => ?_) ds.length 0 _ s5 (Nat.zero_add _) rfl G (by rw [List.drop_zero]; exact e)
  obtain ⟨I', m', x'⟩ := back σb H' s' Ig mb x
  exact ⟨.bl b, H', I', rfl, hQ H' x' m'⟩
end
end PL
set_option Elab.async false
set_option linter.all false
set_option maxRecDepth 100000
set_option maxHeartbeats 1000000
set_option autoImplicit false
/-! Built-in functions, more assignments. -/
namespace PL
open PySem PySem.Spec PyProof.Rows L2

/-! ### isinstance(x, T) -/
inductive PyT where
  | int | bool | str | list | tuple | dict
def PyT.name : PyT → String
  | .int => "int"
  | .bool => "bool"
  | .str => "str"
  | .list => "list"
  | .tuple => "tuple"
  | .dict => "dict"
def isN : D → String
  | .none => "NoneType"
  | .bool _ => "bool"
  | .int _ => "int"
  | .str _ => "str"
  | .list _ => "list"
  | .tuple _ => "tuple"
  | .dict _ => "dict"
def isD : PyT → D → Bool
  | .int, .int _ => true
  | .int, .bool _ => true
  | .bool, .bool _ => true
  | .str, .str _ => true
  | .list, .list _ => true
  | .tuple, .tuple _ => true
  | .dict, .dict _ => true
  | _, _ => false
theorem kit_isD (T : PyT) (d : D) : kitB (isN d) T.name = some (isD T d) := by
  cases T <;> cases d <;> (simp only [isN, PyT.name, isD]; decide +kernel)
theorem Rep.ty {K : PySem.W.Frag} {H : Hp} {v : V} {d : D} (r : Rep K H v d) : TyX K H v (.type (isN d)) := by
  cases r with
  | non => exact .base .non
  | bl b => exact .base (.bl b)
  | int i => exact .base (.int i)
  | str x => exact .base (.str x)
  | lst h _ =>
    rcases h with ⟨o, h⟩ | ⟨o, its, n, h1, h2, _⟩
    · exact .base (.frz h)
    · exact .kList h1 h2
  | tup h _ =>
    rcases h with (h | ⟨o, h⟩) | ⟨o, its, n, h1, h2, _⟩
    · exact .base (.tup h)
    · exact .fTuple h
    · exact .kTuple h1 h2
section
variable {X : Cx} {M : Mx} {e : Expr} {f : DEnv → R D} {p pt pos : Pos} {x : Str}
@[simp] def isE (T : PyT) (f : DEnv → R D) : DEnv → R D := fun σ => (f σ).bind fun d σ1 => .ok (.bool (isD T d)) σ1
theorem se_isi (T : PyT) (hK : X.K = M.K) (hg : Gl X "isinstance") (hm : X.mg "isinstance" = none) (hgx : Gl X x) (hmx : X.mg x = none) (hx : bootBuiltins x = some (.type T.name)) (h : SE X M e f)
    (hv : bootBuiltins "isinstance" = some (.builtin "isinstance") := by decide +kernel) (hn : x ≠ "__name__" := by decide) (hdb : (x == ("__debug__" : Str)) = false := by decide)
    (h1 : starEach [e, .Name x pt] X.env = (false, eval e X.env) :: starEach [.Name x pt] X.env := by rfl) (h2 : starEach [.Name x pt] X.env = (false, eval (.Name x pt) X.env) :: starEach [] X.env := by rfl) (hpl : (backTo pos (starEach [.Name x pt] X.env)).any (·.1) = false := by rfl) :
    SE X M (.Call (.Name "isinstance" p) [e, .Name x pt] [] pos) (isE T f) := by
  have base : PE X (.Name x pt) (tC (.ty T.name)) := pe_bltn hgx hmx hx rfl hn hdb
  refine PE.weak (pe_callB (call_isi (X := X)) hg hm hv (pa_cons h (pa_cons base pa_nil h2) h1) (by decide) (by decide) h1 hpl) fun σ H Q ⟨σd, m, q⟩ => ⟨σd, m, wpR_mono (wpR_bind.mp q) fun d σ1 q1 v H1 e1 r1 m1 => ?_⟩
  exact ⟨v, .ty T.name, .type (isN d), .type T.name, isD T d, rfl, .ty _, by rw [hK]; exact r1.ty, kit_ty (kit_isD T d), q1 (.bl _) H1 e1 (.bl _) m1⟩

/-! ### functions of data -/
def cAbs : List D → Option D
  | [.int i] => some (.int i.natAbs)
  | _ => none
theorem cd_abs : CallD X (.builtin "abs") cAbs := CallR.weak call_abs fun xs H Q ⟨ds, z, r, hz, q⟩ => by
  unfold cAbs at hz
  split at hz
  · cases hz
    cases r with
    | cons r1 r2 =>
      cases r2
      cases r1
      refine ⟨_, rfl, ?_⟩
      have e : ∀ i : Int, (if i < 0 then -i else i) = (i.natAbs : Int) := fun i => by split <;> omega
      rw [e]
      exact q _ H (Same.refl _) (.int _)
  · cases hz
def cLen : List D → Option D
  | [.list ds] => some (.int ds.length)
  | [.tuple ds] => some (.int ds.length)
  | [.str z] => if z.length ≤ 1000000 then some (.int z.length) else none
  | _ => none
theorem cd_len : CallD X (.builtin "len") cLen := CallR.weak (CallR.or call_len_seq call_len_str) fun xs H Q ⟨ds, z, r, hz, q⟩ => by
  unfold cLen at hz
  split at hz
  · cases hz
    cases r with
    | cons r1 r2 =>
      cases r2
      cases r1 with
      | lst h1 h2 => exact .inl ⟨_, _, rfl, .inl h1.sq, q _ H (Same.refl _) (by rw [h2.length]; exact .int _)⟩
  · cases hz
    cases r with
    | cons r1 r2 =>
      cases r2
      cases r1 with
      | tup h1 h2 => exact .inl ⟨_, _, rfl, .inr h1, q _ H (Same.refl _) (by rw [h2.length]; exact .int _)⟩
  · split at hz
    · rename_i hl
      cases hz
      cases r with
      | cons r1 r2 =>
        cases r2
        cases r1
        exact .inr ⟨_, rfl, Nat.le_of_lt (mil hl), q _ H (Same.refl _) (.int _)⟩
    · cases hz
  · cases hz
def cInt : List D → Option D
  | [.int i] => some (.int i)
  | [.bool b] => some (.int (if b then 1 else 0))
  | _ => none
theorem cd_int : CallD X (.type "int") cInt := CallR.weak call_int1 fun xs H Q ⟨ds, z, r, hz, q⟩ => by
  unfold cInt at hz
  split at hz
  · cases hz
    cases r with
    | cons r1 r2 =>
      cases r2
      cases r1
      exact .inl ⟨_, rfl, q _ H (Same.refl _) (.int _)⟩
  · cases hz
    cases r with
    | cons r1 r2 =>
      cases r2
      cases r1
      exact .inr ⟨_, rfl, q _ H (Same.refl _) (.int _)⟩
  · cases hz
def cMax2 : List D → Option D
  | [.int i, .int j] => some (.int (max i j))
  | _ => none
def cMin2 : List D → Option D
  | [.int i, .int j] => some (.int (min i j))
  | _ => none
theorem cd_max2 (hc : X.calm = true) : CallD X (.builtin "max") cMax2 := CallR.weak (call_max2 hc) fun xs H Q ⟨ds, z, r, hz, q⟩ => by
  unfold cMax2 at hz
  split at hz
  · cases hz
    cases r with
    | cons r1 r2 =>
      cases r2 with
      | cons r2 r3 =>
        cases r3
        cases r1
        cases r2
        refine ⟨_, _, rfl, ?_⟩
        have e : ∀ i j : Int, (if j > i then j else i) = max i j := fun i j => by omega
        rw [e]
        exact q _ H (Same.refl _) (.int _)
  · cases hz
theorem cd_min2 (hc : X.calm = true) : CallD X (.builtin "min") cMin2 := CallR.weak (call_min2 hc) fun xs H Q ⟨ds, z, r, hz, q⟩ => by
  unfold cMin2 at hz
  split at hz
  · cases hz
    cases r with
    | cons r1 r2 =>
      cases r2 with
      | cons r2 r3 =>
        cases r3
        cases r1
        cases r2
        refine ⟨_, _, rfl, ?_⟩
        have e : ∀ i j : Int, (if j < i then j else i) = min i j := fun i j => by omega
        rw [e]
        exact q _ H (Same.refl _) (.int _)
  · cases hz
/-- a function that lays a new list -/
theorem CallR.newL {fv : Value} {r : List D → Option (List D)} (h : CallR X fv (fun xs H Q => ∃ ds z, RepAll X.K H xs ds ∧ r ds = some z ∧ ∀ p ys H', Same H H' → H' p = none → RepAll X.K H' ys z → Q (.ref p) (upd H' p (.lst ys)))) :
    CallD X fv (fun ds => (r ds).map .list) := by
  intro pins s σ H xs us Q I rx ⟨ds, z, ra, hz, q⟩
  simp only [Option.map_eq_some_iff] at hz
  obtain ⟨zs, hz, rfl⟩ := hz
  exact thn (h pins s σ H xs us (fun v H' => ∃ p ys H1, v = .ref p ∧ Same H H1 ∧ H1 p = none ∧ H' = upd H1 p (.lst ys) ∧ RepAll X.K H1 ys zs) I rx ⟨ds, zs, ra, hz, fun p ys H' sm hp ry => ⟨p, ys, H', rfl, sm, hp, rfl, ry⟩⟩) fun u s' hu => lock_new X.K hu q
def cSeq : List D → Option (List D)
  | [.list ds] => some ds
  | [.tuple ds] => some ds
  | _ => none
theorem cn_list : CallR X (.type "list") (fun xs H Q => ∃ ds z, RepAll X.K H xs ds ∧ cSeq ds = some z ∧ ∀ p ys H', Same H H' → H' p = none → RepAll X.K H' ys z → Q (.ref p) (upd H' p (.lst ys))) :=
  CallR.weak call_list_of fun xs H Q ⟨ds, z, r, hz, q⟩ => by
    unfold cSeq at hz
    split at hz
    · cases hz
      cases r with
      | cons r1 r2 =>
        cases r2
        cases r1 with
        | lst h1 h2 => exact ⟨_, _, rfl, .inl h1.sq, fun l hl => q l _ H (Same.refl _) hl h2⟩
    · cases hz
      cases r with
      | cons r1 r2 =>
        cases r2
        cases r1 with
        | tup h1 h2 => exact ⟨_, _, rfl, .inr h1, fun l hl => q l _ H (Same.refl _) hl h2⟩
    · cases hz
def cList (ds : List D) : Option D := (cSeq ds).map .list
theorem cd_list : CallD X (.type "list") cList := CallR.newL cn_list
def cTuple : List D → Option D
  | [.list ds] => some (.tuple ds)
  | [.tuple ds] => some (.tuple ds)
  | _ => none
theorem cd_tuple : CallD X (.type "tuple") cTuple := CallR.weak call_tuple_of fun xs H Q ⟨ds, z, r, hz, q⟩ => by
  unfold cTuple at hz
  split at hz
  · cases hz
    cases r with
    | cons r1 r2 =>
      cases r2
      cases r1 with
      | @lst a ys _ h1 h2 =>
        refine ⟨_, _, rfl, .inl ⟨h1.sq, fun l hl => ?_⟩⟩
        have sm : Same H (upd H l (.tup ys)) := same_upd hl
        exact q _ _ sm (.tup (SqT.of upd_same) (h2.ext (Ext.same sm)))
  · cases hz
    cases r with
    | cons r1 r2 =>
      cases r2
      cases r1 with
      | tup h1 h2 => exact ⟨_, _, rfl, .inr ⟨h1, q _ H (Same.refl _) (.tup h1 h2)⟩⟩
  · cases hz
def cGcd : List D → Option D
  | [.int i, .int j] => some (.int (Nat.gcd i.natAbs j.natAbs : Nat))
  | _ => none
theorem cd_gcd : CallD X (.builtin "math.gcd") cGcd := CallR.weak cr_gcd fun xs H Q ⟨ds, z, r, hz, q⟩ => by
  unfold cGcd at hz
  split at hz
  · cases hz
    cases r with
    | cons r1 r2 =>
      cases r2 with
      | cons r2 r3 =>
        cases r3
        cases r1
        cases r2
        exact ⟨_, _, rfl, q _ H (Same.refl _) (.int _)⟩
  · cases hz
/-- f(e, ..), f a module's name for a built-in function -/
theorem se_callM {es : List Expr} {fs : DEnv → R (List D)} {id : String} {r : List D → Option D} (hK : X.K = M.K) (hc : CallD X (.builtin id) r) (hg : Gl X x) (hm : X.mg x = some (.builtin id)) (ha : SA X M (e :: es) fs) (hdb : (x == ("__debug__" : Str)) = false := by decide)
    (he : starEach (e :: es) X.env = (false, eval e X.env) :: starEach es X.env := by rfl) (hpl : (backTo pos (starEach es X.env)).any (·.1) = false := by rfl) : SE X M (.Call (.Name x p) (e :: es) [] pos) (callD r fs) :=
  PE.weak (pe_callBfun hc hg hm ha hdb he hpl) fun σ H Q h => tCB_of hK h

/-! ### sorted -/
def isTC : D → Bool
  | .tuple (_ :: _) => true
  | _ => false
def isNT : D → Bool
  | .none => false
  | .tuple _ => false
  | _ => true
/-- what sorted takes: alike data, of depth at most 60 -/
def okSort (ds : List D) : Bool := (ds.all fun a => ds.all fun b => PySem.W.alike a b) && (ds.all isTC || ds.all isNT) && (ds.all fun d => decide (d.depth ≤ 60)) && decide (ds.length ≤ 1000000)
def sortD (ds : List D) : List D := ds.mergeSort (PySem.W.dataLe false id)
def cSort : List D → Option (List D)
  | [.list ds] => if okSort ds = true then some (sortD ds) else none
  | _ => none
theorem each_of {K : PySem.W.Frag} {H : Hp} : ∀ {xs : List V} {us : List Value} {ds : List D}, Vals xs us → RepAll K H xs ds → PySem.W.EachIs (fun u d => ∃ x, RelV x u ∧ Rep K H x d) us ds
  | _, _, _, .nil, .nil => .nil
  | _, _, _, .cons r rs, .cons q qs => .cons ⟨_, r, q⟩ (each_of rs qs)
theorem of_each {K : PySem.W.Frag} {H : Hp} : ∀ {us : List Value} {ds : List D}, PySem.W.EachIs (fun u d => ∃ x, RelV x u ∧ Rep K H x d) us ds → ∃ xs, Vals xs us ∧ RepAll K H xs ds
  | _, _, .nil => ⟨[], .nil, .nil⟩
  | _, _, .cons ⟨x, r, q⟩ t => by
    obtain ⟨xs, h1, h2⟩ := of_each t
    exact ⟨x :: xs, .cons r h1, .cons q h2⟩
theorem each_reads {pins : List (Addr × Obj)} {σ : L2.St} {H : Hp} {s : Shared} (I : Inv X pins σ H s) : ∀ {us : List Value} {ds : List D}, PySem.W.EachIs (fun u d => ∃ x, RelV x u ∧ Rep X.K H x d) us ds → PySem.W.EachIs (fun u d => ∃ as, Reads s.heap u (id d) as) us ds
  | _, _, .nil => .nil
  | _, _, .cons ⟨x, r, q⟩ t => .cons (Dp.reads I _ x _ (q.dp _ _) r) (each_reads I t)
theorem cn_sorted (hu : X.A.units + 64 < cLine) : CallR X (.builtin "sorted") (fun xs H Q => ∃ ds z, RepAll X.K H xs ds ∧ cSort ds = some z ∧ ∀ p ys H', Same H H' → H' p = none → RepAll X.K H' ys z → Q (.ref p) (upd H' p (.lst ys))) := by
  intro pins s σ H xs us Q I rx ⟨ds, z, r, hz, q⟩
  unfold cSort at hz
  split at hz
  · rename_i es
    split at hz
    · rename_i hok
      cases hz
      cases r with
      | cons r1 r2 =>
        cases r2
        cases r1 with
        | @lst a ys _ h1 h2 =>
          obtain ⟨its, rv, pl, hlen⟩ := I.list h1.sq
          rw [Vals.ref1 rx]
          unfold okSort at hok
          simp only [Bool.and_eq_true, List.all_eq_true, decide_eq_true_eq, Bool.or_eq_true] at hok
          obtain ⟨⟨⟨k1, k2⟩, k3⟩, k4⟩ := hok
          have e := each_of rv h2
          refine PySem.W.sorted_data (enc := id) pl.isList e (each_reads I e) (fun d hd d' hd' => ?_) ?_ (Nat.le_of_lt (mil k4)) (fun b hb => ?_) fun out ho eo => ?_
          · rw [List.map_id] at hd hd'
            exact k1 d hd d' hd'
          · rw [List.map_id]
            rcases k2 with k | k
            · refine .inl fun d hd => ?_
              have := k d hd
              unfold isTC at this
              split at this
              · exact ⟨_, _, rfl⟩
              · cases this
            · refine .inr fun d hd => ?_
              have := k d hd
              unfold isNT at this
              split at this
              · cases this
              · cases this
              · rename_i z1 z2
                exact ⟨z1, z2⟩
          · have := k3 b hb
            show X.A.units + 2 + b.depth < cLine
            omega
          · obtain ⟨ys', v', r'⟩ := of_each eo
            obtain ⟨ep, he'⟩ := PyProof.Rows.sortedAll_at s.heap its out.toArray
            have hl' : ys'.length ≤ sizeLine := by
              rw [v'.length, ho]
              exact Nat.le_of_lt (mil k4)
            refine ⟨.ref _, upd H (s.heap.objs.size + 1) (.lst ys'), I.laid (t' := s.toks) (fun _ _ => PyProof.Rows.sortedAll_old) (Nat.le_succ _) ⟨hl', out, ep, v', by simpa using he'⟩, rfl, q _ ys' H (Same.refl _) (I.hok.fresh (Nat.le_succ _)) r'⟩
    · cases hz
  · cases hz
def cSorted (ds : List D) : Option D := (cSort ds).map .list
theorem cd_sorted (hu : X.A.units + 64 < cLine) : CallD X (.builtin "sorted") cSorted := CallR.newL (cn_sorted hu)
end
end PL
set_option Elab.async false
set_option linter.all false
set_option maxRecDepth 100000
set_option maxHeartbeats 1000000
set_option autoImplicit false
/-! More assignments; comprehensions of two clauses; [::-1]. -/
namespace PL
open PySem PySem.Spec PyProof.Rows L2

section
variable {X : Cx} {M : Mx} {e : Expr} {f : DEnv → R D} {p pos : Pos}
/-- (a, b, ..) = e -/
theorem ss_asgT {tg : Expr} {is : List Nat} {g : D → DEnv → Option DEnv} (he : SE X M e f) (hg : SG X M is tg g) (hs : swapsWithSole [tg] e pos.line X.env = pure false := by rfl) (hw : swappedStores [tg] e X.env = pure none := by rfl)
    (h1 : (assignEach [tg] X.env).map (·.2) = [assign tg X.env] := by rfl) : SS X M (.Assign [tg] e pos) (fun σ => (f σ).thn fun d σ1 => match g d σ1 with
      | some σ2 => .nx σ2
      | none => .bad) :=
  PS.weak (ps_asg he hg hs hw h1) fun D σ H ⟨σd, m, q⟩ => ⟨σd, m, wpR_mono (wpR_thn q) fun d σ1 q1 v H1 e1 r1 m1 => by
    cases hg2 : g d σ1 with
    | none => simp only [hg2] at q1; exact q1.elim
    | some σ2 =>
      simp only [hg2] at q1
      exact ⟨d, σ1, σ2, r1, m1, hg2, fun σ' H' e2 m2 _ => q1 σ' H' (e1.trans e2) m2⟩⟩
/-- a, b, .. = x, the list of x -/
theorem ss_unp {i k n : Nat} {x : Str} {px pt : Pos} {es : List Expr} {is : List Nat} {gs : List D → DEnv → Option DEnv} (hK : X.K = M.K) (hc : X.calm = true) (hN : X.N[i]? = some x) (hv : Vis X.env.scope x) (hg : SGs X M is es gs) (hd : (x == ("__debug__" : Str)) = false := by decide) (hcd : (x == ("__classdict__" : Str)) = false := by decide)
    (hn : (assignEach es X.env).length = n := by rfl) (hst : (assignEach es X.env).findIdx? (·.1) = none := by rfl)
    (hs : swapsWithSole [.Tuple es k pt] (.Name x px) pos.line X.env = pure false := by rfl) (hw : swappedStores [.Tuple es k pt] (.Name x px) X.env = pure none := by rfl)
    (h1 : (assignEach [.Tuple es k pt] X.env).map (·.2) = [assign (.Tuple es k pt) X.env] := by rfl) :
    SS X M (.Assign [.Tuple es k pt] (.Name x px) pos) (fun σ => match lstOf i σ with
      | some ds => if ds.length = n then (match gs ds σ with
        | some σ2 => .nx σ2
        | none => .bad) else .bad
      | none => .bad) := by
  have base : PE X (.Name x px) (tVar i) := pe_var hN hv hd hcd
  refine PS.weak (ps_asg base (pg_lst (pos := pt) (k := k) hc hg hn hst) hs hw h1) fun D σ H ⟨σd, m, q⟩ => ?_
  cases hl : lstOf i σd with
  | none => simp only [hl] at q; exact q.elim
  | some ds =>
    simp only [hl] at q
    obtain ⟨a, xs, h2, h3, h4⟩ := m.lstOf hl
    split at q
    · rename_i hlen
      cases hg2 : gs ds σd with
      | none => simp only [hg2] at q; exact q.elim
      | some σ2 =>
        simp only [hg2] at q
        refine ⟨.ref a, h2, a, xs, rfl, SqL.of h3, h4.length.trans hlen, ds, σd, σ2, h4, m, hg2, fun σ' H' e2 m2 _ => q σ' H' e2 m2⟩
    · exact q.elim
@[simp] def set2 (i j : Nat) (ds : List D) (σ : DEnv) : O := match ds with
  | [a, b] => match setC i (.val a) σ with
    | none => .bad
    | some σ1 => match setC j (.val b) σ1 with
      | none => .bad
      | some σ2 => .nx σ2
  | _ => .bad
/-- a, b = x, y with plain local names -/
theorem ss_par {i j : Nat} {x y : Str} {a b : Expr} {fs : DEnv → R (List D)} {px py pt : Pos} {kt k2 : Nat} {pt2 : Pos} (hc : X.calm = true) (hN : X.N.Nodup) (hi : X.N[i]? = some x) (hj : X.N[j]? = some y) (hij : i ≠ j)
    (hx : X.env.scope.names.lookup x = some .local) (hy : X.env.scope.names.lookup y = some .local) (ha : SA X M [a, b] fs)
    (hw : swappedStores [.Tuple [.Name x px, .Name y py] kt pt] (.Tuple [a, b] k2 pt2) X.env = pure (some [x, y]))
    (hs : swapsWithSole [.Tuple [.Name x px, .Name y py] kt pt] (.Tuple [a, b] k2 pt2) pos.line X.env = pure false := by rfl) :
    SS X M (.Assign [.Tuple [.Name x px, .Name y py] kt pt] (.Tuple [a, b] k2 pt2) pos) (fun σ => (fs σ).thn (set2 i j)) :=
  PS.weak (ps_par hc hN hi hj hij hx hy ha hw hs) fun D σ H ⟨σd, m, q⟩ => ⟨σd, m, wpR_mono (wpR_thn q) fun ds σ1 q1 vs H1 e1 r1 m1 => by
    unfold set2 at q1
    split at q1
    · cases r1 with
      | cons r1 r2 =>
        cases r2 with
        | cons r2 r3 =>
          cases r3
          split at q1
          · exact q1.elim
          · rename_i σ2 h2
            split at q1
            · exact q1.elim
            · rename_i σ3 h3
              exact ⟨_, _, rfl, q1 _ H1 e1 ((m1.setVal h2 r1).setVal h3 r2)⟩
    · exact q1.elim⟩
@[simp] def set3 (i j l : Nat) (ds : List D) (σ : DEnv) : O := match ds with
  | [a, b, c] => match setC i (.val a) σ with
    | none => .bad
    | some σ1 => match setC j (.val b) σ1 with
      | none => .bad
      | some σ2 => match setC l (.val c) σ2 with
        | none => .bad
        | some σ3 => .nx σ3
  | _ => .bad
theorem ss_par3 {i j l : Nat} {x y z : Str} {a b c : Expr} {fs : DEnv → R (List D)} {px py pz pt : Pos} {kt k2 : Nat} {pt2 : Pos} (hc : X.calm = true) (hN : X.N.Nodup) (hi : X.N[i]? = some x) (hj : X.N[j]? = some y) (hl : X.N[l]? = some z) (hij : i ≠ j) (hil : i ≠ l) (hjl : j ≠ l)
    (hx : X.env.scope.names.lookup x = some .local) (hy : X.env.scope.names.lookup y = some .local) (hz : X.env.scope.names.lookup z = some .local) (ha : SA X M [a, b, c] fs)
    (hw : swappedStores [.Tuple [.Name x px, .Name y py, .Name z pz] kt pt] (.Tuple [a, b, c] k2 pt2) X.env = pure (some [x, y, z]))
    (hs : swapsWithSole [.Tuple [.Name x px, .Name y py, .Name z pz] kt pt] (.Tuple [a, b, c] k2 pt2) pos.line X.env = pure false := by rfl) :
    SS X M (.Assign [.Tuple [.Name x px, .Name y py, .Name z pz] kt pt] (.Tuple [a, b, c] k2 pt2) pos) (fun σ => (fs σ).thn (set3 i j l)) :=
  PS.weak (ps_par3 hc hN hi hj hl hij hil hjl hx hy hz ha hw hs) fun D σ H ⟨σd, m, q⟩ => ⟨σd, m, wpR_mono (wpR_thn q) fun ds σ1 q1 vs H1 e1 r1 m1 => by
    unfold set3 at q1
    split at q1
    · cases r1 with
      | cons r1 r2 =>
        cases r2 with
        | cons r2 r3 =>
          cases r3 with
          | cons r3 r4 =>
            cases r4
            split at q1
            · exact q1.elim
            · rename_i σ2 h2
              split at q1
              · exact q1.elim
              · rename_i σ3 h3
                split at q1
                · exact q1.elim
                · rename_i σ4 h4
                  exact ⟨_, _, _, rfl, q1 _ H1 e1 (((m1.setVal h2 r1).setVal h3 r2).setVal h4 r3)⟩
    · exact q1.elim⟩

/-! ### x op= e -/
@[simp] def augF (r : D → D → Option D) (i : Nat) (f : DEnv → R D) : DEnv → O := fun σ => match σ[i]? with
  | some (.val a) => (f σ).thn fun b σ1 => match r a b with
    | some z => setV i z σ1
    | none => .bad
  | _ => .bad
theorem ss_aug {i : Nat} {x : Str} {op : Operator} {r : D → D → Option D} {p1 : Pos} (hK : X.K = M.K) (hN : X.N.Nodup) (hi : X.N[i]? = some x) (hx : Loc X.env.scope x) (h : SE X M e f) (ho : OpD X (inplaceOp op) r) (hf : X.fn x = true ∨ X.env.scope.names.lookup x = some .local := by first | exact .inl rfl | exact .inr rfl | assumption) :
    SS X M (.AugAssign (.Name x p1) op e pos) (augF r i f) :=
  PS.weak (ps_aug hN hi hx h ho hf) fun D σ H ⟨σd, m, q⟩ => by
    unfold augF at q
    split at q
    · rename_i a ea
      obtain ⟨v, hv, rv⟩ := m.val i a ea
      refine ⟨v, hv, σd, m, wpR_mono (wpR_thn q) fun b σ1 q1 w H1 e1 r1 m1 => ?_⟩
      split at q1
      · rename_i z hz
        refine ⟨a, b, z, by rw [hK]; exact rv.ext e1, by rw [hK]; exact r1, hz, fun u H2 s2 r2 => ?_⟩
        exact wpO_setV q1 (e1.trans (Ext.same s2)) (by rw [← hK]; exact r2) (m1.same s2)
      · exact q1.elim
    · exact q.elim
def iAdd : D → D → Option D
  | .int a, .int b => some (.int (a + b))
  | _, _ => none
def iSub : D → D → Option D
  | .int a, .int b => some (.int (a - b))
  | _, _ => none
theorem id_add : OpD X (inplaceOp .Add) iAdd := OpR.weak iop_add fun x y H Q ⟨d, e, z, h1, h2, hz, q⟩ => by
  unfold iAdd at hz
  split at hz
  · cases hz
    cases h1
    cases h2
    exact ⟨_, _, rfl, rfl, q _ _ (Same.refl _) (.int _)⟩
  · cases hz
theorem id_sub : OpD X (inplaceOp .Sub) iSub := OpR.weak iop_sub fun x y H Q ⟨d, e, z, h1, h2, hz, q⟩ => by
  unfold iSub at hz
  split at hz
  · cases hz
    cases h1
    cases h2
    exact ⟨_, _, rfl, rfl, q _ _ (Same.refl _) (.int _)⟩
  · cases hz

/-! ### two clauses -/
def lcF2 (vs vs1 : List Nat) (g : D → DEnv → Option DEnv) (t : DEnv → R Bool) (src1 : DEnv → R (List D)) (g1 : D → DEnv → Option DEnv) (t1 : DEnv → R Bool) (f : DEnv → R D) : List D → List D → DEnv → R (List D)
  | [], acc, σ => .ok acc σ
  | d :: ds, acc, σ => match g d σ with
    | none => .bad
    | some σ1 => (t σ1).noX.bind fun c σ2 => if c = true then (src1 σ2).noX.bind fun es σ3 => (lcF vs1 g1 t1 f es acc (wipeD σ3 vs1)).noX.bind fun acc1 σ4 => lcF2 vs vs1 g t src1 g1 t1 f ds acc1 (wipeD σ4 vs) else lcF2 vs vs1 g t src1 g1 t1 f ds acc (wipeD σ2 vs)
def lc2 (vs vs1 : List Nat) (src : DEnv → R (List D)) (g : D → DEnv → Option DEnv) (t : DEnv → R Bool) (src1 : DEnv → R (List D)) (g1 : D → DEnv → Option DEnv) (t1 : DEnv → R Bool) (f : DEnv → R D) : DEnv → R (List D) := fun σ =>
  (src σ).bind fun ds σ1 => (lcF2 vs vs1 g t src1 g1 t1 f ds [] (wipeD σ1 vs)).bind fun acc σ2 => .ok acc (backD σ1 σ2 vs)
theorem wipe_in {σ : L2.St} {vs vs1 : List Nat} (h : ∀ i ∈ vs1, i ∈ vs) : wipe (wipe σ vs1) vs = wipe σ vs := wipe_ext (wipe_length σ vs1) fun j hj => wipe_out' fun z => hj (h j z)
theorem R.noX_ok {α : Type} {x : R α} {Q : α → DEnv → Prop} {W : Nat → DEnv → Prop} (q : wpR x.noX Q W) : ∃ a σ, x = .ok a σ ∧ Q a σ := by
  cases x with
  | ok a σ => exact ⟨a, σ, rfl, q⟩
  | exc c σ => exact q.elim
  | bad => exact q.elim
theorem Mt.fromBlk {H0 : Hp} {σd : DEnv} {σ : L2.St} {H : Hp} (h : H0 = M.H0) (m : Mt (M.blk H0) σd σ H) : Mt M σd σ H := by
  subst h
  exact m.ofBlk
/-- where a turn stands: the list at D, what is in it -/
structure LSt (M : Mx) (D : Addr) (σd : DEnv) (acc : List PyData) (σ : L2.St) (H : Hp) : Prop where
  mt : Mt M σd σ H
  fr : Fresh M σd σ D
  at_ : ∃ xs, H D = some (.lst xs) ∧ RepAll M.K H xs acc
theorem LSt.ofGuard {D : Addr} {xs : List V} {acc : List PyData} {σd σ0 : DEnv} {σ σ' : L2.St} {H H' : Hp} (fr : Fresh M σ0 σ' D) (m : Mt (M.blk (upd M.H0 D (.lst xs))) σd σ H') (ra : RepAll M.K H xs acc) (e : Ext H H') : LSt M D σd acc σ H' := by
  obtain ⟨m7, fr7, hD7⟩ := Mt.unguard fr.ent fr.tap m
  exact ⟨m7, fr7, xs, hD7, ra.ext e⟩
theorem LSt.wiped {D : Addr} {acc : List PyData} {σd : DEnv} {σ : L2.St} {H : Hp} {vs : List Nat} (h : LSt M D σd acc σ H) (hok : lcOk M vs) : LSt M D (wipeD σd vs) acc (wipe σ vs) H := by
  refine ⟨h.mt.wiped hok, ⟨h.fr.ent, h.fr.tap, fun j es e z => ?_⟩, h.at_⟩
  obtain ⟨h1, h2⟩ := wipeD_get (by intro z; cases z) e
  rw [wipe_out' h2] at z
  exact h.fr.own j es h1 z
theorem LSt.push {D : Addr} {acc : List PyData} {σd : DEnv} {σ : L2.St} {H : Hp} {v : V} {y : PyData} (h : LSt M D σd acc σ H) (r : Rep M.K H v y) : ∃ xs, H D = some (.lst xs) ∧ xs.length = acc.length ∧ LSt M D σd (acc ++ [y]) σ (upd H D (.lst (xs ++ [v]))) ∧ Ext H (upd H D (.lst (xs ++ [v]))) := by
  obtain ⟨xs, hD, ra⟩ := h.at_
  refine ⟨xs, hD, ra.length, ⟨h.mt.grown h.fr hD, h.fr, xs ++ [v], upd_same, (ra.ext (Ext.wr hD)).app (.cons (r.ext (Ext.wr hD)) .nil)⟩, Ext.wr hD⟩
theorem tLc2_of {is is1 vs vs1 : List Nat} {src src1 : DEnv → R (List D)} {g g1 : D → DEnv → Option DEnv} {t t1 : DEnv → R Bool} {f : DEnv → R D} {wi wi1 : TI} {gg gg1 : TG} {tt tt1 : TT} {te : TE} (hok : lcOk M vs) (his : ∀ i ∈ is, i ∈ vs) (hok1 : lcOk M vs1) (his1 : ∀ i ∈ is1, i ∈ vs1) (hsub : ∀ i ∈ vs1, i ∈ vs)
    (hwi : ∀ σ H Q, iD M src σ H Q → wi σ H Q) (hgg : ∀ H0 v σ H Q, gD (M.blk H0) is g v σ H Q → gg v σ H Q) (htt : ∀ H0 σ H Q, tT (M.blk H0) t σ H Q → tt σ H Q)
    (hwi1 : ∀ H0 σ H Q, iD (M.blk H0) src1 σ H Q → wi1 σ H Q) (hgg1 : ∀ H0 v σ H Q, gD (M.blk H0) is1 g1 v σ H Q → gg1 v σ H Q) (htt1 : ∀ H0 σ H Q, tT (M.blk H0) t1 σ H Q → tt1 σ H Q) (hte : ∀ H0 σ H Q, tE (M.blk H0) f σ H Q → te σ H Q)
    {σ : L2.St} {H : Hp} {Q : VK} (h : tF M (lc2 vs vs1 src g t src1 g1 t1 f) σ H Q) : tLc2 wi gg tt wi1 gg1 tt1 te vs vs1 σ H Q := by
  obtain ⟨σd, m, q⟩ := h
  refine hwi _ _ _ ⟨σd, m, wpR_mono (wpR_bind.mp q) fun ds σ1 q1 J H1 e1 m1 hJ D hD => ?_⟩
  have fr0 : Fresh M (wipeD σ1 vs) (wipe σ vs) D := (m1.wiped hok).fresh hD
  have sm : Same H1 (upd H1 D (.lst [])) := same_upd hD
  refine ⟨fun i k H' => ∃ σ2 acc, k + i = ds.length ∧ Ext H1 H' ∧ LSt M D σ2 acc (wipe σ vs) H' ∧
      wpR (lcF2 vs vs1 g t src1 g1 t1 f (ds.drop i) acc σ2) (fun acc' σ3 => ∀ p ys H'', Ext H H'' → H'' p = some (.lst ys) → RepAll M.K H'' ys acc' → Mt M (backD σ1 σ3 vs) σ H'' → Fresh M (backD σ1 σ3 vs) σ p → Q (.ref p) H'') M.W,
    ⟨ds.length, wipeD σ1 vs, [], Nat.add_zero _, Ext.same sm, ⟨(m1.wiped hok).same sm, fr0, [], upd_same, .nil⟩, by rw [List.drop_zero]; exact wpR_bind.mp q1⟩, fun i k H' ⟨σ2, acc, hk, e2, L2', q2⟩ => ?_⟩
  have fr := L2'.fr
  obtain ⟨xs, hDx, ra⟩ := L2'.at_
  cases k with
  | zero =>
    have hi : i = ds.length := by omega
    subst hi
    rw [List.drop_length] at q2
    refine .inl ⟨hJ.stop H' e2, q2 D xs H' (e1.trans e2) hDx ra (m1.back e2 L2'.mt hok) ⟨fr.ent, fr.tap, fun j es e z => ?_⟩⟩
    rcases backD_get e with ⟨h1, h2 | h2⟩ | ⟨h1, h2⟩
    · obtain ⟨d', h3, h4⟩ := h2
      cases h4
    · cases h2
    · exact fr.own j es h2 (by rw [wipe_out' h1]; exact z)
  | succ k =>
    have hi : i < ds.length := by omega
    have hd : ds[i]? = some ds[i] := List.getElem?_eq_getElem hi
    rw [List.drop_eq_getElem_cons hi] at q2
    refine .inr ⟨hJ.go H' i _ e2 hd, fun H3 => ∃ σ4 acc4, Ext H1 H3 ∧ LSt M D σ4 acc4 (wipe σ vs) H3 ∧ wpR (lcF2 vs vs1 g t src1 g1 t1 f (ds.drop (i + 1)) acc4 σ4) _ M.W,
      fun H3 ⟨σ4, acc4, z1, z2, z6⟩ => ⟨k, Nat.lt_succ_self k, σ4, acc4, by omega, z1, z2, z6⟩, fun x H3 hy => ?_⟩
    obtain ⟨s3, r3⟩ := hJ.yld H' i _ x H3 e2 hd hy
    unfold lcF2 at q2
    cases hg2 : g ds[i] σ2 with
    | none => rw [hg2] at q2; exact q2.elim
    | some σ3 =>
      rw [hg2] at q2
      have mg : Mt (M.blk (upd M.H0 D (.lst xs))) σ2 (wipe σ vs) H3 := ((L2'.mt.guard fr hDx).same s3)
      refine hgg _ _ _ _ _ ⟨ds[i], σ2, σ3, r3, mg, hg2, fun σ4 H4 e4 m4 l4 => ?_⟩
      have hw4 : wipe σ4 vs = wipe σ vs := by
        rw [wipe_ext (σ := wipe σ vs) (σ' := σ4) l4.1 fun j hj => l4.2 j fun z => hj (his j z)]
        exact wipe_wipe
      refine ⟨hw4, htt _ _ _ _ ⟨σ3, m4, ?_⟩⟩
      have q3 := wpR_bind.mp q2
      obtain ⟨c, σ5, hts, q3⟩ := R.noX_ok q3
      rw [hts]
      intro H5 e5 m5
      cases c with
      | false =>
        rw [if_neg Bool.false_ne_true] at q3
        have e35 : Ext H' H5 := (Ext.same s3).trans (e4.trans e5)
        refine iteF ⟨wipeD σ5 vs, acc, e2.trans e35, ?_, q3⟩
        have := (LSt.ofGuard fr m5 ra e35).wiped (vs := vs) hok
        rw [hw4] at this
        exact this
      | true =>
        rw [if_pos rfl] at q3
        refine iteT (hwi1 _ _ _ _ ⟨σ5, m5, ?_⟩)
        have q4 := wpR_bind.mp q3
        obtain ⟨es, σ6, hss, q4⟩ := R.noX_ok q4
        rw [hss]
        intro J1 H6 e6 m6 hJ1
        have e36 : Ext H' H6 := (Ext.same s3).trans (e4.trans (e5.trans e6))
        obtain ⟨acc1, σ7, hli, q5⟩ := R.noX_ok (wpR_bind.mp q4)
        have L6 : LSt M D (wipeD σ6 vs1) acc (wipe σ4 vs1) H6 := (LSt.ofGuard fr m6 ra e36).wiped (vs := vs1) hok1
        refine ⟨fun j k1 H7 => ∃ σ8 acc8, k1 + j = es.length ∧ Ext H6 H7 ∧ LSt M D σ8 acc8 (wipe σ4 vs1) H7 ∧ lcF vs1 g1 t1 f (es.drop j) acc8 σ8 = .ok acc1 σ7,
          ⟨es.length, wipeD σ6 vs1, acc, Nat.add_zero _, Ext.refl _, L6, by rw [List.drop_zero]; exact hli⟩, fun j k1 H7 ⟨σ8, acc8, hk1, e7, L8, q8⟩ => ?_⟩
        have fr8 := L8.fr
        obtain ⟨xs8, hD8, ra8⟩ := L8.at_
        cases k1 with
        | zero =>
          have hj : j = es.length := by omega
          subst hj
          rw [List.drop_length] at q8
          cases q8
          refine .inl ⟨hJ1.stop H7 e7, wipeD σ7 vs, acc1, e2.trans (e36.trans e7), ?_, q5⟩
          have := L8.wiped (vs := vs) hok
          rw [wipe_in hsub, hw4] at this
          exact this
        | succ k1 =>
          have hj : j < es.length := by omega
          have hd1 : es[j]? = some es[j] := List.getElem?_eq_getElem hj
          rw [List.drop_eq_getElem_cons hj] at q8
          refine .inr ⟨hJ1.go H7 j _ e7 hd1, fun H9 => ∃ σ9 acc9, Ext H6 H9 ∧ LSt M D σ9 acc9 (wipe σ4 vs1) H9 ∧ lcF vs1 g1 t1 f (es.drop (j + 1)) acc9 σ9 = .ok acc1 σ7,
            fun H9 ⟨σ9, acc9, z1, z2, z3⟩ => ⟨k1, Nat.lt_succ_self k1, σ9, acc9, by omega, z1, z2, z3⟩, fun x1 H9 hy1 => ?_⟩
          obtain ⟨s9, r9⟩ := hJ1.yld H7 j _ x1 H9 e7 hd1 hy1
          unfold lcF at q8
          cases hg3 : g1 es[j] σ8 with
          | none => rw [hg3] at q8; cases q8
          | some σ9 =>
            rw [hg3] at q8
            have mg1 : Mt (M.blk (upd M.H0 D (.lst xs8))) σ8 (wipe σ4 vs1) H9 := ((L8.mt.guard fr8 hD8).same s9)
            refine hgg1 (upd M.H0 D (.lst xs8)) _ _ _ _ ⟨es[j], σ8, σ9, r9, mg1, hg3, fun σA HA eA mA lA => ?_⟩
            have hwA : wipe σA vs1 = wipe σ4 vs1 := by
              rw [wipe_ext (σ := wipe σ4 vs1) (σ' := σA) lA.1 fun j hj => lA.2 j fun z => hj (his1 j z)]
              exact wipe_wipe
            refine ⟨hwA, htt1 _ _ _ _ ⟨σ9, mA, ?_⟩⟩
            have q8 : (t1 σ9).noX.bind _ = _ := q8
            cases hts1 : t1 σ9 with
            | bad => rw [hts1] at q8; cases q8
            | exc c σB => rw [hts1] at q8; cases q8
            | ok c σB =>
              rw [hts1] at q8
              intro HB eB mB
              have q8 : (if c = true then _ else _) = _ := q8
              cases c with
              | false =>
                rw [if_neg Bool.false_ne_true] at q8
                have e7B : Ext H7 HB := (Ext.same s9).trans (eA.trans eB)
                refine iteF ⟨wipeD σB vs1, acc8, e7.trans e7B, ?_, q8⟩
                have := (LSt.ofGuard fr8 mB ra8 e7B).wiped (vs := vs1) hok1
                rw [hwA] at this
                exact this
              | true =>
                rw [if_pos rfl] at q8
                refine iteT (hte _ _ _ _ ⟨σB, mB, ?_⟩)
                have q8 : (f σB).noX.bind _ = _ := q8
                cases hfs : f σB with
                | bad => rw [hfs] at q8; cases q8
                | exc c σC => rw [hfs] at q8; cases q8
                | ok y σC =>
                  rw [hfs] at q8
                  intro v HC eC rC mC
                  have q8 : (if acc8.length < 1000000 then _ else _) = _ := q8
                  split at q8
                  · rename_i hlen
                    have e7C : Ext H7 HC := (Ext.same s9).trans (eA.trans (eB.trans eC))
                    obtain ⟨zs, hDC, hzl, LC, eP⟩ := (LSt.ofGuard fr8 mC ra8 e7C).push rC
                    refine ⟨zs, hDC, mil (by omega), wipeD σC vs1, acc8 ++ [y], e7.trans (e7C.trans eP), ?_, q8⟩
                    have := LC.wiped (vs := vs1) hok1
                    rw [hwA] at this
                    exact this
                  · cases q8
end
end PL
set_option Elab.async false
set_option linter.all false
set_option maxRecDepth 100000
set_option maxHeartbeats 1000000
set_option autoImplicit false
/-! [::-1]; methods of lists; comprehensions of two clauses, the rules. -/
namespace PL
open PySem PySem.Spec PyProof.Rows L2
section
variable {prog : Program} {w : World} {A : Around} {E : Value → Shared → Prop} {s : Shared}
theorem sliceApplied_rev {sl : Addr} {vs : Value} {n : Nat} {Q : Int × Int × Nat → Shared → Prop} (hs : s.heap.IsSliceOf sl .none .none vs) (ps : IsPart vs (some (-1))) (h : Q ((n : Int) - 1, -1, n) s) :
    wpAny (model prog w) A (Builtin.Slice.sliceApplied (.ref sl) (pure (n : Int))) Q E s := by
  obtain ⟨os, hos, hcs, hds⟩ := id hs
  unfold Builtin.Slice.sliceApplied Builtin.Slice.sliceFields
  refine wpAny_bind (wpAny_bind (wpAny_field hos hds (x := .none) rfl (wpAny_bind (wpAny_field hos hds (x := .none) rfl (wpAny_bind (wpAny_field hos hds (x := vs) rfl (wpAny_pure ?_)))))))
  refine wpAny_bind (HT.slicePart_ ps ?_)
  show wpAny _ _ (if ((-1 : Int) == 0) = true then _ else _) _ _ s
  rw [if_neg (by decide)]
  refine wpAny_bind (slicePart_none (wpAny_bind (slicePart_none (wpAny_bind (wpAny_pure ?_)))))
  have e1 : Builtin.Slice.sliceAdjust none none (-1) (n : Int) = ((n : Int) - 1, -1) := by
    unfold Builtin.Slice.sliceAdjust
    simp
  have e2 : Builtin.Slice.slicePlaces ((n : Int) - 1) (-1) (-1) = n := by
    unfold Builtin.Slice.slicePlaces
    have h1 : ¬ (-1 : Int) > 0 := by omega
    simp only [h1, if_false]
    have e3 : - (-1 : Int) = 1 := rfl
    simp only [e3, Int.ediv_one]
    split <;> omega
  show wpAny _ _ (match Builtin.Slice.sliceAdjust none none (-1) (n : Int) with | (lo, hi) => pure (lo, (-1 : Int), Builtin.Slice.slicePlaces lo hi (-1))) _ _ s
  rw [e1]
  show wpAny _ _ (pure ((n : Int) - 1, (-1 : Int), Builtin.Slice.slicePlaces ((n : Int) - 1) (-1) (-1))) _ _ s
  rw [e2]
  exact wpAny_pure h
theorem filterMap_some {α β : Type} {F : α → Option β} {G : α → β} : ∀ {l : List α}, (∀ m ∈ l, F m = some (G m)) → l.filterMap F = l.map G
  | [], _ => rfl
  | a :: l, h => by
    rw [List.filterMap_cons, h a List.mem_cons_self, List.map_cons, filterMap_some fun m hm => h m (List.mem_cons_of_mem _ hm)]
theorem pick_rev (xs : Array Value) : ((List.range xs.size).filterMap fun (m : Nat) => xs[((xs.size : Int) - 1 + (m : Int) * (-1)).toNat]?).toArray = xs.toList.reverse.toArray := by
  congr 1
  apply List.ext_getElem?
  intro i
  have e : (List.range xs.size).filterMap (fun (m : Nat) => xs[((xs.size : Int) - 1 + (m : Int) * (-1)).toNat]?) = (List.range xs.size).map (fun m => xs.toList.reverse[m]?.getD .none) := by
    refine filterMap_some fun m hm => ?_
    have hm := List.mem_range.mp hm
    have e1 : ((xs.size : Int) - 1 + (m : Int) * (-1)).toNat = xs.size - 1 - m := by omega
    rw [e1]
    have h2 : m < xs.toList.reverse.length := by simp; exact hm
    rw [List.getElem?_eq_getElem h2, Option.getD_some, List.getElem_reverse]
    have h3 : xs.size - 1 - m < xs.size := by omega
    rw [Array.getElem?_eq_getElem h3]
    simp
  rw [e]
  by_cases hi : i < xs.size
  · have h2 : i < xs.toList.reverse.length := by simp; exact hi
    simp only [List.getElem?_map, List.getElem?_range hi, Option.map_some, List.getElem?_eq_getElem h2, Option.getD_some]
  · rw [List.getElem?_eq_none (by simp; omega), List.getElem?_eq_none (by simp; omega)]
theorem getItem_tuple_rev {t sl : Addr} {items : Array Value} {vs : Value} {Q : Value → Shared → Prop} (ht : IsTup s.heap t items) (hs : s.heap.IsSliceOf sl .none .none vs) (ps : IsPart vs (some (-1)))
    (h : Q (.ref s.heap.objs.size) { s with heap := s.heap.push { cls := .type "tuple", data := .seq items.toList.reverse.toArray } })
    (hsz : items.size ≤ sizeLine) : wpAny (model prog w) A (getItem (.ref t) (.ref sl)) Q E s := by
  have hk : sizeOk (.seq items.toList.reverse.toArray) := by
    show items.toList.reverse.toArray.size ≤ sizeLine
    simpa using hsz
  obtain ⟨os, hos, hcs, hds⟩ := id hs
  have hTs : s.TypeIs (.ref sl) "slice" := ⟨os, hos, hcs⟩
  unfold getItem
  try with_reducible refine wpAny_holding ?_
  first | refine wpAny_bind (wpAny_pure ?_) | skip
  refine wpAny_bind (wpAny_sequenceKey ht.typeIs (by decide) ?_)
  refine wpAny_bind (wpAny_callSpecial?_slot (name := Str.ofString "__getitem__") ht.typeIs PyProof.Rows.slot_tuple_getitem
    (wpAny_call_entry PyProof.Rows.slot_tuple_getitem ht.typeIs PyProof.Rows.entry_tuple_getitem ?_ (PyProof.Rows.args_tuple_getitem _ _)))
  show wpAny _ _ (Builtin.Tuple.tupleItemsOf (.ref t) >>= _) _ _ s
  refine wpAny_bind (PyProof.Rows.tupleItemsOf_ ht ?_)
  refine wpAny_bind (wpAny_typeOf hTs ?_)
  rw [if_pos (by decide)]
  refine wpAny_bind (sliceApplied_rev hs ps ?_)
  have hno : ¬ (((items.size : Int) - 1 == 0 && (-1 : Int) == 1 && items.size == items.size) = true) := by
    intro q
    rw [Bool.and_eq_true, Bool.and_eq_true] at q
    exact absurd q.1.2 (by decide)
  show wpAny _ _ (if ((items.size : Int) - 1 == 0 && (-1 : Int) == 1 && items.size == items.size) = true then _ else _) _ _ s
  rw [if_neg hno, pick_rev]
  first
    | exact wpAny_bind (m := Builtin.Tuple.tupleExact _) (wpAny_newObj_type (wpAny_pure ⟨_, rfl, wpAny_pure h⟩) hk)
    | exact wpAny_bind (m := Builtin.Tuple.tupleExact _) (wpAny_newObj_type (wpAny_bind (wpAny_pure (wpAny_pure ⟨_, rfl, wpAny_pure h⟩))) hk)
    | exact wpAny_bind (wpAny_bind (m := Builtin.Tuple.tupleExact _) (wpAny_newObj_type (wpAny_pure (wpAny_pure ⟨_, rfl, wpAny_pure h⟩)) hk))
    | exact wpAny_bind (wpAny_bind (m := Builtin.Tuple.tupleExact _) (wpAny_newObj_type (wpAny_pure ⟨_, rfl, wpAny_pure h⟩) hk))
end
section
variable {X : Cx} {M : Mx} {e : Expr} {f : DEnv → R D} {p pos : Pos}
def tRevT (K : PySem.W.Frag) (te : TE) : TE := fun σ H Q => te σ H fun x H1 => ∃ a xs, x = .ref a ∧ ((SqL K H1 a xs ∧ ∀ p, H1 p = none → Q (.ref p) (upd H1 p (.lst xs.reverse))) ∨ (SqT K H1 a xs ∧ ∀ p, H1 p = none → Q (.ref p) (upd H1 p (.tup xs.reverse))))
theorem pe_revA {te : TE} {k : Nat} {p1 p2 p3 : Pos} (he : PE X e te) : PE X (.Subscript e (.Slice none none (some (.UnaryOp .USub (.Constant (.int 1) k p1) p2)) p3) pos) (tRevT X.K te) := by
  refine ⟨fun pins s σ H Q I h => ?_⟩
  refine Subscript_ (thn (he.run pins s σ H _ I h) fun v s1 hv => ?_)
  obtain ⟨x, H1, I1, r1, a, xs, ex, hx⟩ := hv
  subst ex
  cases r1
  have step : PO X (some (.UnaryOp .USub (.Constant (.int 1) k p1) p2)) (tPart (tUn (L2.rU fun i => .int (-i)) (tC (.int 1)))) := po_some (pe_un un_neg pe_int)
  refine wpAny_Slice (thn (po_none.run pins s1 σ H1 (fun o H2 => o = none ∧ H2 = H1) I1 ⟨rfl, rfl⟩) fun vl s2 hl => ?_)
  obtain ⟨l, H2, I2, pl, el, e2⟩ := hl
  subst el e2
  refine thn (po_none.run pins s2 σ H2 (fun o H3 => o = none ∧ H3 = H2) I2 ⟨rfl, rfl⟩) fun vu s3 hu => ?_
  obtain ⟨u, H3, I3, pu, eu, e3⟩ := hu
  subst eu e3
  refine thn (step.run pins s3 σ H3 (fun o H4 => o = some (-1) ∧ H4 = H3) I3 ⟨1, rfl, -1, rfl, rfl, rfl⟩) fun vs s4 hs => ?_
  obtain ⟨o, H4, I4, ps, eo, e4⟩ := hs
  subst eo e4
  have I5 : Inv X pins σ H4 { s4 with heap := s4.heap.push { cls := .type "slice", data := .fields #[vl, vu, vs] } } := I4.kept (t' := s4.toks) fun b ob q => Heap.get?_push_of_some _ q
  show wpAny (model X.prog X.w) X.A (subscriptTail e (.Slice none none (some (.UnaryOp .USub (.Constant (.int 1) k p1) p2)) p3) (.ref a) (.ref s4.heap.objs.size)) (EP X pins σ Q) X.xe { s4 with heap := s4.heap.push { cls := .type "slice", data := .fields #[vl, vu, vs] } }
  rcases hx with ⟨hx, q⟩ | ⟨hx, q⟩
  · obtain ⟨its, r, ht, hz⟩ := I5.list hx
    have hlen := r.length
    refine tail_any (ops := [.ref a, .ref s4.heap.objs.size]) ht.isList.typeIs (PySem.slot_list_getitem.lookup) ?_ (by with_unfolding_all rfl)
    refine wpAny_getItem_list_slice ht.isList (Heap.IsSliceOf.new _ vl vu vs) pl pu ps (by decide) ?_ (by rw [List.size_toArray]; omega)
    rw [PySem.W.krv_pick]
    exact ⟨.ref _, _, I5.laid (t' := s4.toks) (o := .lst xs.reverse) (fun b ob q => Heap.get?_push_of_some _ q) (Nat.le_refl _) ⟨by rw [List.length_reverse]; exact hz, _, 0, r.reverse, Heap.get?_push_size _ rfl⟩, rfl, q _ (I5.hok.fresh (Nat.le_refl _))⟩
  · obtain ⟨its, r, ht, hz⟩ := I5.tuple hx
    have hlen := r.length
    cases pl
    cases pu
    refine tail_any (ops := [.ref a, .ref s4.heap.objs.size]) ht.typeIs (PyProof.Rows.slot_tuple_getitem.lookup) ?_ (by with_unfolding_all rfl)
    refine getItem_tuple_rev ht (Heap.IsSliceOf.new _ .none .none vs) ps ?_ (by rw [List.size_toArray]; omega)
    exact ⟨.ref _, _, I5.laid (t' := s4.toks) (o := .tup xs.reverse) (fun b ob q => Heap.get?_push_of_some _ q) (Nat.le_refl _) ⟨by rw [List.length_reverse]; exact hz, _, r.reverse, IsTup.new _ _⟩, rfl, q _ (I5.hok.fresh (Nat.le_refl _))⟩
theorem RepAll.reverse {K : PySem.W.Frag} {H : Hp} : ∀ {xs : List V} {ds : List D}, RepAll K H xs ds → RepAll K H xs.reverse ds.reverse
  | _, _, .nil => .nil
  | _, _, .cons r t => by
    rw [List.reverse_cons, List.reverse_cons]
    exact (RepAll.reverse t).app (.cons r .nil)
def dRev : D → Option D
  | .list ds => some (.list ds.reverse)
  | .tuple ds => some (.tuple ds.reverse)
  | _ => none
@[simp] def revE (f : DEnv → R D) : DEnv → R D := fun σ => (f σ).bind fun d σ1 => lift (dRev d) σ1
/-- x[::-1] -/
theorem se_rev {k : Nat} {p1 p2 p3 : Pos} (hK : X.K = M.K) (he : SE X M e f) : SE X M (.Subscript e (.Slice none none (some (.UnaryOp .USub (.Constant (.int 1) k p1) p2)) p3) pos) (revE f) := by
  refine ⟨fun pins s σ H Q I ⟨σd, m, q⟩ => ?_⟩
  refine thn ((pe_revA he).run pins s σ H (fun v H' => ∃ d z σ1 H1, Ext H H1 ∧ Mt M σ1 σ H1 ∧ dRev d = some z ∧ wpR (lift (dRev d) σ1) (fun d σ2 => ∀ v H', Ext H H' → Rep M.K H' v d → Mt M σ2 σ H' → Q v H') M.W ∧
    ((∃ p ys es, v = .ref p ∧ H1 p = none ∧ H' = upd H1 p (.lst ys) ∧ RepAll M.K H1 ys es ∧ z = .list es) ∨ (∃ p ys es, v = .ref p ∧ H1 p = none ∧ H' = upd H1 p (.tup ys) ∧ RepAll M.K H1 ys es ∧ z = .tuple es))) I
    ⟨σd, m, wpR_mono (wpR_bind.mp q) fun d σ1 q1 v H1 e1 r1 m1 => ?_⟩) fun u s1 hu => ?_
  · cases r1 with
    | @lst a xs ds h1 h2 =>
      exact ⟨a, xs, rfl, .inl ⟨by rw [hK]; exact h1.sq, fun p hp => ⟨_, _, σ1, H1, e1, m1, rfl, q1, .inl ⟨p, _, _, rfl, hp, rfl, h2.reverse, rfl⟩⟩⟩⟩
    | @tup a xs ds h1 h2 =>
      exact ⟨a, xs, rfl, .inr ⟨by rw [hK]; exact h1, fun p hp => ⟨_, _, σ1, H1, e1, m1, rfl, q1, .inr ⟨p, _, _, rfl, hp, rfl, h2.reverse, rfl⟩⟩⟩⟩
    | _ => exact q1.elim
  · obtain ⟨v, H', I1, rv, d, z, σ1, H1, e1, m1, hz, q1, hh⟩ := hu
    rw [hz] at q1
    rcases hh with ⟨p, ys, es, rfl, hp, rfl, ra, rfl⟩ | ⟨p, ys, es, rfl, hp, rfl, ra, rfl⟩
    · obtain ⟨od, I2⟩ := I1.lock (d := p) (u := .lst ys) upd_same trivial
      rw [upd_upd] at I2
      have s2 : Same H1 (upd H1 p (.frz od (.lst ys))) := same_upd hp
      exact ⟨.ref p, _, I2, rv, q1 _ _ (e1.trans (Ext.same s2)) (.lst (.inl ⟨od, upd_same⟩) (ra.ext (Ext.same s2))) (m1.same s2)⟩
    · have s2 : Same H1 (upd H1 p (.tup ys)) := same_upd hp
      exact ⟨.ref p, _, I1, rv, q1 _ _ (e1.trans (Ext.same s2)) (.tup (SqT.of upd_same) (ra.ext (Ext.same s2))) (m1.same s2)⟩

/-! ### methods of lists -/
/-- x.m(e, ..), x a list; the answer a datum -/
@[simp] def metL (r : List D → List D → Option D) (f : DEnv → R D) (fs : DEnv → R (List D)) : DEnv → R D := fun σ => (f σ).bind fun d σ1 => match d with
  | .list es => (fs σ1).bind fun ds σ2 => lift (r es ds) σ2
  | _ => .bad
abbrev MtD (X : Cx) (id : String) (r : List D → List D → Option D) : Prop := MtR X id (fun x xs H Q => ∃ a ys es ds z, x = .ref a ∧ FzL X.K H a ys ∧ RepAll X.K H ys es ∧ RepAll X.K H xs ds ∧ r es ds = some z ∧ ∀ v H', Same H H' → Rep X.K H' v z → Q v H')
theorem se_metL {o e : Expr} {es : List Expr} {f : DEnv → R D} {fs : DEnv → R (List D)} {name : Str} {apos cpos : Pos} {id : String} {r : List D → List D → Option D} (hK : X.K = M.K) (slot : Slot "list" name id) (hty : typeOf (.builtin id) = pure (.type "method_descriptor")) (hm : MtD X id r) (ho : SE X M o f) (ha : SA X M (e :: es) fs)
    (hbase : attributeBase o name X.env (eval o X.env) = eval o X.env := by rfl)
    (hfew : ((backTo cpos (starEach (e :: es) X.env)).all (fun x => !x.1) && (backToKw cpos (keywordEach [] X.env)).all (fun x => x.1.isSome)
      && decide ((e :: es).length + ([] : List Keyword).length + (if ([] : List Keyword).isEmpty then 0 else 1) < 30)) = true := by rfl)
    (hline : (apos.endLine == cpos.line) = true := by rfl) (hs : starEach (e :: es) X.env = (false, eval e X.env) :: starEach es X.env := by rfl) (hplain : (backTo cpos (starEach es X.env)).any (·.1) = false := by rfl) :
    SE X M (.Call (.Attribute o name apos) (e :: es) [] cpos) (metL r f fs) :=
  PE.weak (pe_bm PySem.F.plainAttrs_list slot hty hm ho ha hbase hfew hline hs hplain) fun σ H Q ⟨σd, m, q⟩ => ⟨σd, m, wpR_mono (wpR_bind.mp q) fun d σ1 q1 v H1 e1 r1 m1 => by
    cases r1 with
    | @lst a xs ds h1 h2 =>
      refine ⟨.inl ⟨rfl, xs, by rw [hK]; exact h1.sq⟩, σ1, m1, wpR_mono (wpR_bind.mp q1) fun es σ2 q2 vs H2 e2 r2 m2 => ?_⟩
      obtain ⟨z, hz, q3⟩ := wpR_lift.mp q2
      exact ⟨a, xs, ds, es, z, rfl, by rw [hK]; exact h1.mono e2, by rw [hK]; exact h2.ext e2, by rw [hK]; exact r2, hz, fun u H3 s3 r3 => q3 u H3 (e1.trans (e2.trans (Ext.same s3))) (by rw [← hK]; exact r3) (m2.same s3)⟩
    | _ => exact q1.elim⟩
end
end PL
set_option Elab.async false
set_option linter.all false
set_option maxRecDepth 100000
set_option maxHeartbeats 1000000
set_option autoImplicit false
/-! Methods of lists; comprehensions of two clauses, the rules; new lists by calls. -/
namespace PL
open PySem PySem.Spec PyProof.Rows L2
section
variable {X : Cx} {M : Mx}
def mCount (es : List D) : List D → Option D
  | [d] => if SeqAt.shaped d = true ∧ SeqAt.shaped (.list es) = true then some (.int (es.countP fun y => PyData.eqv y d : Nat)) else none
  | _ => none
theorem countP_map {α β : Type} (p : β → Bool) (g : α → β) : ∀ l : List α, l.countP (fun a => p (g a)) = (l.map g).countP p := fun l => by
  rw [List.countP_map]; rfl
theorem md_count (hu : X.A.units + 65 < cLine) : MtD X "list.count" mCount := by
  intro pins s σ H x xs v us Q I rx rxs ⟨a, ys, es, ds, z, ex, h1, h2, h3, hz, q⟩
  subst ex
  cases rx
  unfold mCount at hz
  split at hz
  · rename_i d
    split at hz
    · rename_i hsh
      cases hz
      cases h3 with
      | cons r1 r2 =>
        cases r2
        cases rxs with
        | cons ry rt =>
          rename_i uy ut
          cases rt
          obtain ⟨bs, g1⟩ := Dp.reads I d _ uy (r1.dp _ _) ry
          have hxs : PyData.canLayAll0 es = true := SeqAt.canLay_of_shaped hsh.2
          have hroom : X.A.units + 1 + min (PyData.depthAll es) d.depth < cLine := room_in_shaped hsh.1 hu
          obtain ⟨its, rv, ⟨⟨cls, dd, data, sls⟩, n, ho, hc, hdn, hdt⟩, hlen⟩ := I.list h1.sq
          simp only at hc hdn hdt
          subst hc hdt
          obtain ⟨as, h4⟩ := Dp.readsAll I es _ its (h2.dp _ _) rv
          have hmap : its.map (SeqAt.readOf s.heap) = es := SeqAt.readsAll_map es its as hxs h4
          refine call_meets PySem.F.slot_list_count ⟨_, ho, rfl⟩ PySem.F.entry_list_count (PySem.F.args_list_count_2 _ _)
            (SeqAt.list_countAt a its.toArray n dd sls uy (fun u => PyData.eqv (SeqAt.readOf s.heap u) d)) ⟨ho, SeqAt.items_eqAt (vs := its.toArray) (show ReadsAll s.heap its.toArray.toList es as from h4) g1 hxs (SeqAt.canLay_of_shaped hsh.1) hroom, ?_⟩
          have ec : its.toArray.toList.countP (fun u => PyData.eqv (SeqAt.readOf s.heap u) d) = es.countP fun y => PyData.eqv y d := by
            rw [← hmap]
            show its.countP _ = _
            exact countP_map (fun y => PyData.eqv y d) (SeqAt.readOf s.heap) its
          refine ⟨.int (es.countP fun y => PyData.eqv y d : Nat), H, I.tok _, ⟨s.toks, ?_⟩, q _ H (Same.refl _) (.int _)⟩
          rw [ec]
    · cases hz
  · cases hz
/-- the first place -/
def idxD (d : D) : List D → Option Nat
  | [] => none
  | y :: ys => if PyData.eqv y d = true then some 0 else (idxD d ys).map (· + 1)
theorem idxD_spec {d : D} : ∀ {ys : List D} {j : Nat}, idxD d ys = some j → ∃ z, ys[j]? = some z ∧ PyData.eqv z d = true ∧ ∀ (m : Nat) (z' : D), m < j → ys[m]? = some z' → PyData.eqv z' d = false
  | [], _, h => by cases h
  | y :: ys, j, h => by
    unfold idxD at h
    split at h
    · rename_i e
      cases h
      exact ⟨y, rfl, e, fun m z' hm => absurd hm (Nat.not_lt_zero _)⟩
    · rename_i e
      simp only [Option.map_eq_some_iff] at h
      obtain ⟨i, h1, rfl⟩ := h
      obtain ⟨z, g1, g2, g3⟩ := idxD_spec h1
      refine ⟨z, by simpa using g1, g2, fun m z' hm hz => ?_⟩
      cases m with
      | zero =>
        simp at hz
        subst hz
        simpa using e
      | succ m => exact g3 m z' (by omega) (by simpa using hz)
def mIndex (es : List D) : List D → Option D
  | [d] => if SeqAt.shaped d = true ∧ SeqAt.shaped (.list es) = true then (idxD d es).map fun j => .int (j : Nat) else none
  | _ => none
theorem md_index (hu : X.A.units + 65 < cLine) : MtD X "list.index" mIndex := by
  intro pins s σ H x xs v us Q I rx rxs ⟨a, ys, es, ds, z, ex, h1, h2, h3, hz, q⟩
  subst ex
  unfold mIndex at hz
  split at hz
  · rename_i d
    split at hz
    · rename_i hsh
      simp only [Option.map_eq_some_iff] at hz
      obtain ⟨j, hj, rfl⟩ := hz
      obtain ⟨w, g1, g2, g3⟩ := idxD_spec hj
      cases h3 with
      | cons r1 r2 =>
        cases r2
        refine mt_indexD hu pins s σ H _ _ v us Q I rx rxs ⟨a, _, d, es, j, w, rfl, rfl, ?_, r1.dp _ _, hsh.2, hsh.1, g1, g2, g3, q _ H (Same.refl _) (.int _)⟩
        exact (Rep.lst h1 h2).dp _ _
    · cases hz
  · cases hz

/-! ### new lists by calls -/
@[simp] def newF (r : List D → Option (List D)) (fs : DEnv → R (List D)) : DEnv → R (List D) := fun σ => (fs σ).bind fun ds σ1 => lift (r ds) σ1
abbrev NewR (X : Cx) (fv : Value) (r : List D → Option (List D)) : Prop := CallR X fv (fun xs H Q => ∃ ds z, RepAll X.K H xs ds ∧ r ds = some z ∧ ∀ p ys H', Same H H' → H' p = none → RepAll X.K H' ys z → Q (.ref p) (upd H' p (.lst ys)))
theorem tCB_new {K : PySem.W.Frag} {r : List D → Option (List D)} {fs : DEnv → R (List D)} {σ : L2.St} {H : Hp} {Q : VK} (hK : K = M.K) (h : tF M (newF r fs) σ H Q) :
    tCB (fun xs H Q => ∃ ds z, RepAll K H xs ds ∧ r ds = some z ∧ ∀ p ys H', Same H H' → H' p = none → RepAll K H' ys z → Q (.ref p) (upd H' p (.lst ys))) (tA M fs) σ H Q := by
  subst hK
  obtain ⟨σd, m, q⟩ := h
  refine ⟨σd, m, wpR_mono (wpR_bind.mp q) fun ds σ1 q1 xs H1 e1 r1 m1 => ?_⟩
  obtain ⟨z, hz, q2⟩ := wpR_lift.mp q1
  refine ⟨ds, z, r1, hz, fun p ys H2 s2 hp ra => ?_⟩
  have s3 : Same H2 (upd H2 p (.lst ys)) := same_upd hp
  exact q2 p ys _ (e1.trans ((Ext.same s2).trans (Ext.same s3))) upd_same (ra.ext (Ext.same s3)) ((m1.same s2).same s3) ((m1.same s2).fresh hp)
variable {e : Expr} {es : List Expr} {fs : DEnv → R (List D)} {x : Str} {p pos : Pos} {id T : String} {r : List D → Option (List D)}
theorem sf_callB (hK : X.K = M.K) (hc : NewR X (.builtin id) r) (hg : Gl X x) (hm : X.mg x = none) (hv : bootBuiltins x = some (.builtin id)) (ha : SA X M (e :: es) fs) (hn : x ≠ "__name__" := by decide) (hdb : (x == ("__debug__" : Str)) = false := by decide)
    (he : starEach (e :: es) X.env = (false, eval e X.env) :: starEach es X.env := by rfl) (hpl : (backTo pos (starEach es X.env)).any (·.1) = false := by rfl) : SF X M (.Call (.Name x p) (e :: es) [] pos) (newF r fs) :=
  PE.weak (pe_callB hc hg hm hv ha hn hdb he hpl) fun σ H Q h => tCB_new hK h
theorem sf_callTy (hK : X.K = M.K) (hc : NewR X (.type T) r) (hg : Gl X x) (hm : X.mg x = none) (hv : bootBuiltins x = some (.type T)) (ha : SA X M (e :: es) fs) (hn : x ≠ "__name__" := by decide) (hdb : (x == ("__debug__" : Str)) = false := by decide)
    (he : starEach (e :: es) X.env = (false, eval e X.env) :: starEach es X.env := by rfl) (hpl : (backTo pos (starEach es X.env)).any (·.1) = false := by rfl) : SF X M (.Call (.Name x p) (e :: es) [] pos) (newF r fs) :=
  PE.weak (pe_callTy hc hg hm hv ha hn hdb he hpl) fun σ H Q h => tCB_new hK h
end

section
variable {X : Cx} {M : Mx} {elt tg it tg1 it1 : Expr} {ifs ifs1 : List Expr} {scope : Scope} {own : List (Str × Nat)} {pos spos py : Pos} {is is1 vs1 : List Nat} {src src1 : DEnv → R (List D)} {g g1 : D → DEnv → Option DEnv} {t t1 : DEnv → R Bool} {f : DEnv → R D}
/-- what the clauses are over -/
structure Lc2 (X : Cx) (M : Mx) (elt tg it tg1 it1 : Expr) (ifs ifs1 : List Expr) (scope : Scope) (own : List (Str × Nat)) (is is1 vs1 : List Nat) (src src1 : DEnv → R (List D)) (g g1 : D → DEnv → Option DEnv) (t t1 : DEnv → R Bool) (f : DEnv → R D) : Prop where
  hi : SI X M tg it src
  ok : BlkOk X.N X.env.scope scope own
  hok : lcOk M (own.map (·.2))
  his : ∀ i ∈ is, i ∈ own.map (·.2)
  hok1 : lcOk M vs1
  his1 : ∀ i ∈ is1, i ∈ vs1
  sub : ∀ i ∈ vs1, i ∈ own.map (·.2)
  hg : ∀ (H0 : Hp) (s : Shared) (H : Hp) (C : Addr) (cl : List (Str × Addr)) (fp : List Addr), SG (X.blk s H scope (compEnvC scope cl C X.env) fp) (M.blk H0) is tg g
  ht : ∀ (H0 : Hp) (s : Shared) (H : Hp) (C : Addr) (cl : List (Str × Addr)) (fp : List Addr), STs (X.blk s H scope (compEnvC scope cl C X.env) fp) (M.blk H0) ifs t
  hi1 : ∀ (H0 : Hp) (s : Shared) (H : Hp) (C : Addr) (cl : List (Str × Addr)) (fp : List Addr), SI (X.blk s H scope (compEnvC scope cl C X.env) fp) (M.blk H0) tg1 it1 src1
  hg1 : ∀ (H0 : Hp) (s : Shared) (H : Hp) (C : Addr) (cl : List (Str × Addr)) (fp : List Addr), SG (X.blk s H scope (compEnvC scope cl C X.env) fp) (M.blk H0) is1 tg1 g1
  ht1 : ∀ (H0 : Hp) (s : Shared) (H : Hp) (C : Addr) (cl : List (Str × Addr)) (fp : List Addr), STs (X.blk s H scope (compEnvC scope cl C X.env) fp) (M.blk H0) ifs1 t1
  he : ∀ (H0 : Hp) (s : Shared) (H : Hp) (C : Addr) (cl : List (Str × Addr)) (fp : List Addr), SE (X.blk s H scope (compEnvC scope cl C X.env) fp) (M.blk H0) elt f
theorem sf_lc2 (hc : X.calm = true) (hN : X.N.Nodup) (L : Lc2 X M elt tg it tg1 it1 ifs ifs1 scope own is is1 vs1 src src1 g g1 t t1 f) (hs : ∀ x, foldedSetIterable it X.env x = pure x := by intro _; rfl) (hs1 : ∀ env x, foldedSetIterable it1 env x = pure x := by intro _ _; rfl) :
    SF X M (.ListComp elt [⟨tg, it, ifs, 0⟩, ⟨tg1, it1, ifs1, 0⟩] scope pos) (lc2 (own.map (·.2)) vs1 src g t src1 g1 t1 f) :=
  PE.weak (pe_lc2 (g := fun v σ H Q => ∃ H0, gD (M.blk H0) is g v σ H Q) (tt := fun σ H Q => ∃ H0, tT (M.blk H0) t σ H Q) (wi1 := fun σ H Q => ∃ H0, iD (M.blk H0) src1 σ H Q) (g1 := fun v σ H Q => ∃ H0, gD (M.blk H0) is1 g1 v σ H Q) (tt1 := fun σ H Q => ∃ H0, tT (M.blk H0) t1 σ H Q) (te := fun σ H Q => ∃ H0, tE (M.blk H0) f σ H Q) hc hN L.hi L.ok L.sub
    (fun s H C cl fp => ⟨fun pins s' σ H' v u Q I r ⟨H0, q⟩ => (L.hg H0 s H C cl fp).run pins s' σ H' v u Q I r q⟩)
    (fun s H C cl fp => ⟨fun pins s' σ H' Q I ⟨H0, q⟩ => (L.ht H0 s H C cl fp).run pins s' σ H' Q I q⟩)
    (fun s H C cl fp => ⟨fun pins s' σ H' Q I ⟨H0, q⟩ => (L.hi1 H0 s H C cl fp).run pins s' σ H' Q I q⟩)
    (fun s H C cl fp => ⟨fun pins s' σ H' v u Q I r ⟨H0, q⟩ => (L.hg1 H0 s H C cl fp).run pins s' σ H' v u Q I r q⟩)
    (fun s H C cl fp => ⟨fun pins s' σ H' Q I ⟨H0, q⟩ => (L.ht1 H0 s H C cl fp).run pins s' σ H' Q I q⟩)
    (fun s H C cl fp => ⟨fun pins s' σ H' Q I ⟨H0, q⟩ => (L.he H0 s H C cl fp).run pins s' σ H' Q I q⟩) hs hs1)
    fun σ H Q h => tLc2_of L.hok L.his L.hok1 L.his1 L.sub (fun _ _ _ z => z) (fun H0 _ _ _ _ z => ⟨H0, z⟩) (fun H0 _ _ _ z => ⟨H0, z⟩) (fun H0 _ _ _ z => ⟨H0, z⟩) (fun H0 _ _ _ _ z => ⟨H0, z⟩) (fun H0 _ _ _ z => ⟨H0, z⟩) (fun H0 _ _ _ z => ⟨H0, z⟩) h
theorem ss_setLc2 {i : Nat} {y : Str} (hc : X.calm = true) (hN : X.N.Nodup) (hy : X.N[i]? = some y) (hyl : X.env.scope.names.lookup y = some .local)
    (hsw : swapsWith (.ListComp elt [⟨tg, it, ifs, 0⟩, ⟨tg1, it1, ifs1, 0⟩] scope pos) (some (.Name y py)) spos.line X.env = pure true) (L : Lc2 X M elt tg it tg1 it1 ifs ifs1 scope own is is1 vs1 src src1 g g1 t t1 f) (hs : ∀ x, foldedSetIterable it X.env x = pure x := by intro _; rfl) (hs1 : ∀ env x, foldedSetIterable it1 env x = pure x := by intro _ _; rfl) :
    SS X M (.Assign [.Name y py] (.ListComp elt [⟨tg, it, ifs, 0⟩, ⟨tg1, it1, ifs1, 0⟩] scope pos) spos) (fun σ => (lc2 (own.map (·.2)) vs1 src g t src1 g1 t1 f σ).thn (setF i)) :=
  PS.weak (ps_setLc2 (g := fun v σ H Q => ∃ H0, gD (M.blk H0) is g v σ H Q) (tt := fun σ H Q => ∃ H0, tT (M.blk H0) t σ H Q) (wi1 := fun σ H Q => ∃ H0, iD (M.blk H0) src1 σ H Q) (g1 := fun v σ H Q => ∃ H0, gD (M.blk H0) is1 g1 v σ H Q) (tt1 := fun σ H Q => ∃ H0, tT (M.blk H0) t1 σ H Q) (te := fun σ H Q => ∃ H0, tE (M.blk H0) f σ H Q) hc hN hy hyl hsw L.hi L.ok L.sub
    (fun s H C cl fp => ⟨fun pins s' σ H' v u Q I r ⟨H0, q⟩ => (L.hg H0 s H C cl fp).run pins s' σ H' v u Q I r q⟩)
    (fun s H C cl fp => ⟨fun pins s' σ H' Q I ⟨H0, q⟩ => (L.ht H0 s H C cl fp).run pins s' σ H' Q I q⟩)
    (fun s H C cl fp => ⟨fun pins s' σ H' Q I ⟨H0, q⟩ => (L.hi1 H0 s H C cl fp).run pins s' σ H' Q I q⟩)
    (fun s H C cl fp => ⟨fun pins s' σ H' v u Q I r ⟨H0, q⟩ => (L.hg1 H0 s H C cl fp).run pins s' σ H' v u Q I r q⟩)
    (fun s H C cl fp => ⟨fun pins s' σ H' Q I ⟨H0, q⟩ => (L.ht1 H0 s H C cl fp).run pins s' σ H' Q I q⟩)
    (fun s H C cl fp => ⟨fun pins s' σ H' Q I ⟨H0, q⟩ => (L.he H0 s H C cl fp).run pins s' σ H' Q I q⟩) hs hs1)
    fun D σ H ⟨σd, m, q⟩ => tLc2_of L.hok L.his L.hok1 L.his1 L.sub (fun _ _ _ z => z) (fun H0 _ _ _ _ z => ⟨H0, z⟩) (fun H0 _ _ _ z => ⟨H0, z⟩) (fun H0 _ _ _ z => ⟨H0, z⟩) (fun H0 _ _ _ _ z => ⟨H0, z⟩) (fun H0 _ _ _ z => ⟨H0, z⟩) (fun H0 _ _ _ z => ⟨H0, z⟩) ⟨σd, m, wpR_mono (wpR_thn q) fun ds σ1 q1 p xs H1 e1 hp ra m1 fr => wpO_setF q1 e1 hp ra m1 fr⟩
end
end PL
set_option Elab.async false
set_option linter.all false
set_option maxRecDepth 100000
set_option maxHeartbeats 1000000
set_option autoImplicit false
/-! What the printed texts lean on. -/
namespace PL
open PySem PySem.Spec PyProof.Rows L2
def visB (sc : Scope) (x : Str) : Bool := match sc.names.lookup x with
  | some .local => true
  | some .cell => true
  | some .free => true
  | _ => false
theorem vis_of {sc : Scope} {x : Str} (h : visB sc x = true) : Vis sc x := by
  unfold visB at h
  split at h
  · rename_i e; exact .inl e
  · rename_i e; exact .inr (.inl e)
  · rename_i e; exact .inr (.inr e)
  · cases h
def locB (sc : Scope) (x : Str) : Bool := match sc.names.lookup x with
  | some .local => true
  | some .cell => true
  | _ => false
theorem loc_of {sc : Scope} {x : Str} (h : locB sc x = true) : Loc sc x := by
  unfold locB at h
  split at h
  · rename_i e; exact .inl e
  · rename_i e; exact .inr e
  · cases h
@[simp] abbrev kI (i : Int) : DEnv → R D := fun σ => .ok (.int i) σ
@[simp] abbrev kB (b : Bool) : DEnv → R D := fun σ => .ok (.bool b) σ
@[simp] abbrev kN : DEnv → R D := fun σ => .ok .none σ
@[simp] abbrev kS (x : Str) : DEnv → R D := fun σ => .ok (.str x) σ
@[simp] abbrev kD (d : D) : DEnv → R D := fun σ => .ok d σ
/-! ### statements, by name -/
@[simp] abbrev oRet (f : DEnv → R D) : DEnv → O := fun σ => (f σ).thn fun d σ1 => .ret d σ1
@[simp] abbrev oRetF (f : DEnv → R (List D)) : DEnv → O := fun σ => (f σ).thn fun d σ1 => .retF d σ1
@[simp] abbrev oRetN : DEnv → O := fun σ => .ret .none σ
@[simp] abbrev oNx : DEnv → O := fun σ => .nx σ
@[simp] abbrev oBrk : DEnv → O := fun σ => .brk σ
@[simp] abbrev oCnt : DEnv → O := fun σ => .cnt σ
@[simp] abbrev oExpr (f : DEnv → R D) : DEnv → O := fun σ => (f σ).thn fun _ σ1 => .nx σ1
@[simp] abbrev oSeq (F G : DEnv → O) : DEnv → O := fun σ => (F σ).seq G
@[simp] abbrev oIf (t : DEnv → R Bool) (F G : DEnv → O) : DEnv → O := fun σ => (t σ).thn fun c σ1 => if c = true then F σ1 else G σ1
@[simp] abbrev oSet (i : Nat) (f : DEnv → R D) : DEnv → O := fun σ => (f σ).thn (setV i)
@[simp] abbrev oSetF (i : Nat) (f : DEnv → R (List D)) : DEnv → O := fun σ => (f σ).thn (setF i)
@[simp] abbrev oSetL (i : Nat) (f : DEnv → R (List D)) : DEnv → O := fun σ => (f σ).thn fun ds σ1 => setV i (.list ds) σ1
@[simp] abbrev oApp (i : Nat) (f : DEnv → R D) : DEnv → O := fun σ => match lstOf i σ with
  | some _ => (f σ).thn (appL i)
  | none => .bad
@[simp] abbrev oFor (src : DEnv → R (List D)) (g : D → DEnv → Option DEnv) (F : DEnv → O) : DEnv → O := fun σ => (src σ).thn fun ds σ1 => forF g F ds σ1
@[simp] def oAsg (f : DEnv → R D) (g : D → DEnv → Option DEnv) : DEnv → O := fun σ => (f σ).thn fun d σ1 => match g d σ1 with
  | some σ2 => .nx σ2
  | none => .bad
@[simp] abbrev oUnp (i n : Nat) (gs : List D → DEnv → Option DEnv) : DEnv → O := fun σ => match lstOf i σ with
  | some ds => if ds.length = n then (match gs ds σ with
    | some σ2 => .nx σ2
    | none => .bad) else .bad
  | none => .bad
@[simp] abbrev oSet2 (i j : Nat) (fs : DEnv → R (List D)) : DEnv → O := fun σ => (fs σ).thn (set2 i j)
@[simp] abbrev oSet3 (i j l : Nat) (fs : DEnv → R (List D)) : DEnv → O := fun σ => (fs σ).thn (set3 i j l)
@[simp] abbrev bV (f : DEnv → R D) : DEnv → R Bool := fun σ => toB (f σ)
/-! ### defs -/
@[simp] def defD (n N : Nat) (B : DEnv → O) : List D → Ans := fun ds => if ds.length = n then answers (B (startD N ds)) else .bad
@[simp] def defT (n N : Nat) (B : DEnv → O) : List D → List D → AnsT := fun tp ds => if ds.length = n then answersT (B (startT N tp ds)) else .bad
@[simp] def defF (n N : Nat) (B : DEnv → O) : List D → AnsF := fun ds => if ds.length = n then answersF (B (startD N ds)) else .bad
section
variable {P : Program} {w : World} {K : PySem.W.Frag} {mg : Str → Option Value} {base : Heap} {tabs : List Addr} {cls : Nat → Addr} {x qual : Str} {st : Stmt} {f : Addr} {fd : FuncData} {cp : Value → Prop} {N ps : List Str} {k : Nat} {B : DEnv → O}
theorem fnD_b (FN : FunP K x qual st f fd cp) (hmg : mg x = some (.ref f)) (hbi : Binds K fd ps []) (S : FnScope N ps (defScope st))
    (hB : ∀ (cdv : Value), cp cdv → ∀ (A : Around) (outer : List PySem.Env) (s : Shared) (H H0 : Hp) (E : XK) (W : Nat → DEnv → Prop) (tp : Option Addr), Ok (cxD P w K mg base N qual st f cdv A outer s H E) ⟨K, H0, tp, tabs, cls, W⟩ k →
      SSs (cxD P w K mg base N qual st f cdv A outer s H E) ⟨K, H0, tp, tabs, cls, W⟩ (defBody st) B) (n m : Nat) (hn : ps.length = n := by rfl) (hm : N.length = m := by rfl) : FnD P w K mg base tabs cls (k + 1) x (defD n m B) := by
  subst hn hm
  refine fnD_of (B := fun _ => B) FN hmg hbi S (fun ds h => ?_) (fun ds h => ⟨0, ?_⟩) fun n cdv hcp A outer s H E W o => hB cdv hcp A outer s H H E W none o
  · unfold defD at h
    split at h
    · assumption
    · exact absurd rfl h
  · unfold defD at h ⊢
    split at h
    · rename_i hl
      rw [if_pos hl]
    · exact absurd rfl h
theorem fnT_b (FN : FunP K x qual st f fd cp) (hmg : mg x = some (.ref f)) (hbi : Binds K fd ps []) (S : FnScope N ps (defScope st))
    (hB : ∀ (cdv : Value), cp cdv → ∀ (A : Around) (outer : List PySem.Env) (s : Shared) (H H0 : Hp) (E : XK) (W : Nat → DEnv → Prop) (tp : Option Addr), Ok (cxD P w K mg base N qual st f cdv A outer s H E) ⟨K, H0, tp, tabs, cls, W⟩ k →
      SSs (cxD P w K mg base N qual st f cdv A outer s H E) ⟨K, H0, tp, tabs, cls, W⟩ (defBody st) B) (n m : Nat) (hn : ps.length = n + 1 := by rfl) (hm : N.length = m := by rfl) : FnT P w K mg base tabs (k + 1) x (defT n m B) := by
  subst hm
  refine fnT_of (cls := cls) (B := fun _ => B) FN hmg hbi S (fun tp ds h => ?_) (fun tp ds h => ⟨0, ?_⟩) fun n cdv hcp A outer s H E W t o => hB cdv hcp A outer s H H E W (some t) o
  · unfold defT at h
    split at h
    · omega
    · exact absurd rfl h
  · unfold defT at h ⊢
    split at h
    · rename_i hl
      rw [if_pos hl]
    · exact absurd rfl h
theorem fnF_b (FN : FunP K x qual st f fd cp) (hmg : mg x = some (.ref f)) (hbi : Binds K fd ps []) (S : FnScope N ps (defScope st))
    (hB : ∀ (cdv : Value), cp cdv → ∀ (A : Around) (outer : List PySem.Env) (s : Shared) (H H0 : Hp) (E : XK) (W : Nat → DEnv → Prop) (tp : Option Addr), Ok (cxD P w K mg base N qual st f cdv A outer s H E) ⟨K, H0, tp, tabs, cls, W⟩ k →
      SSs (cxD P w K mg base N qual st f cdv A outer s H E) ⟨K, H0, tp, tabs, cls, W⟩ (defBody st) B) (n m : Nat) (hn : ps.length = n := by rfl) (hm : N.length = m := by rfl) : FnF P w K mg base tabs (k + 1) x (defF n m B) := by
  subst hn hm
  refine fnF_of (cls := cls) (B := fun _ => B) FN hmg hbi S (fun ds h => ?_) (fun ds h => ⟨0, ?_⟩) fun n cdv hcp A outer s H E W o => hB cdv hcp A outer s H H E W none o
  · unfold defF at h
    split at h
    · assumption
    · exact absurd rfl h
  · unfold defF at h ⊢
    split at h
    · rename_i hl
      rw [if_pos hl]
    · exact absurd rfl h

/-! ### the law -/
theorem PSs.locked {X : Cx} {M : Mx} {body : List Stmt} {B : DEnv → O} (h : SSs X M body B) {pins : List (Addr × Obj)} {s : Shared} {σ : L2.St} {H : Hp} {a : Addr} {xs : List V} {D : Ends} (I : Inv X pins σ H s) (hS : SqL X.K H a xs)
    (q : ∀ H1, Ext H H1 → (∀ P, TabG H P → TabG H1 P) → FzL X.K H1 a xs → tS M B D σ H1) : wpAny (model X.prog X.w) X.A (execs body X.env) (SP X pins D) X.xe s := by
  rcases hS with (h1 | h1) | h1
  · obtain ⟨od, I2⟩ := I.lock (d := a) (u := .lst xs) h1 trivial
    refine h.run pins s σ _ D I2 (q _ (Ext.wr h1) (fun P ⟨ps, e, t⟩ => ⟨ps, by rw [upd_ne (ne_of e h1 (by intro z; cases z))]; exact e, t⟩) (.inl ⟨od, upd_same⟩))
  · exact h.run pins s σ H D I (q H (Ext.refl H) (fun _ z => z) (.inl h1))
  · exact h.run pins s σ H D I (q H (Ext.refl H) (fun _ z => z) (.inr h1))
def spL (K : PySem.W.Frag) (tabs : List Addr) (n : Nat) (good : List Int → Prop) : Sp := fun vs H Q E => ∃ (a : Addr) (ns : List Int), vs = [.ref a] ∧ SqL K H a (ns.map V.int) ∧ ns.length ≤ n ∧ good ns ∧ (∀ P ∈ tabs, TabG H P) ∧ ∀ H', Q (.bl true) H'
theorem RepAll.ints {K : PySem.W.Frag} {H : Hp} : ∀ ns : List Int, RepAll K H (ns.map V.int) (ns.map PyData.int)
  | [] => .nil
  | n :: ns => .cons (.int n) (RepAll.ints ns)
/-- law(script) -/
theorem fnLaw {n : Nat} {good : List Int → Prop} (FN : FunP K x qual st f fd cp) (S : FnScope N ps (defScope st)) (hps : ps.length = 1) (h1 : 1 ≤ N.length)
    (hB : ∀ (cdv : Value), cp cdv → ∀ (A : Around) (outer : List PySem.Env) (s : Shared) (H H0 : Hp) (E : XK) (W : Nat → DEnv → Prop) (tp : Option Addr), Ok (cxD P w K mg base N qual st f cdv A outer s H E) ⟨K, H0, tp, tabs, cls, W⟩ k →
      SSs (cxD P w K mg base N qual st f cdv A outer s H E) ⟨K, H0, tp, tabs, cls, W⟩ (defBody st) B)
    (hL : ∀ ns : List Int, ns.length ≤ n → good ns → answers (B (startD N.length [.list (ns.map .int)])) = .ok (.bool true)) : FnOk P w K mg base (L2.CX P w) (k + 1) f fd ps (spL K tabs n good) := by
  refine FN.okX S (fun vs H Q E h => ?_) fun cdv hcp A outer s H vs Q E hr h => ?_
  · obtain ⟨a, ns, rfl, _⟩ := h
    exact hps.symm
  obtain ⟨a, ns, rfl, hS, hn, hg, htb, hQ⟩ := h
  have hb := hB cdv hcp A outer s H (fun _ => none) E (fun _ _ => False) none (Ok.cx S rfl hr fun c σd σ H' m z => z.elim)
  have hl := hL ns hn hg
  refine ⟨fun D σ H' => σ = L2.start N [.ref a] ∧ H' = H ∧ D.rt = Q, ⟨fun pins s' σ H' D I hh => ?_⟩, rfl, rfl, rfl⟩
  obtain ⟨rfl, rfl, hD⟩ := hh
  refine PSs.locked hb I hS fun H1 e1 tb hF => ?_
  refine ⟨startD N.length [.list (ns.map .int)], ?_, ?_⟩
  · have r : RepAll K H1 [.ref a] [.list (ns.map .int)] := .cons (.lst hF (RepAll.ints ns)) .nil
    have m := Mt.start (K := K) (tabs := tabs) (cls := cls) (W := fun _ _ => False) (N := N) r (by simpa using h1) (fun P hP => tb P (htb P hP))
    exact ⟨m.len, m.val, fun i ds e => by
      obtain ⟨p, ys, g1, g2, g3, g4, g5⟩ := m.own i ds e
      exact ⟨p, ys, g1, g2, g3, rfl, g5⟩, m.tap, m.dj, fun b o e _ => absurd e (by intro z; cases z), m.tabs, m.tape, m.tapOne⟩
  · cases hbx : B (startD N.length [.list (ns.map .int)]) with
    | ret d σ1 =>
      rw [hbx] at hl
      cases hl
      intro v σ' H' e r m
      cases r
      rw [hD]
      exact hQ H'
    | nx σ1 => rw [hbx] at hl; cases hl
    | exc c σ1 => rw [hbx] at hl; cases hl
    | retF d σ1 => rw [hbx] at hl; cases hl
    | brk σ1 => rw [hbx] at hl; cases hl
    | cnt σ1 => rw [hbx] at hl; cases hl
    | bad => rw [hbx] at hl; cases hl
end
end PL
set_option Elab.async false
set_option linter.all false
set_option maxRecDepth 100000
set_option maxHeartbeats 1000000
set_option autoImplicit false
/-! Rules with the place handed on; the end. -/
namespace PL
open PySem PySem.Spec PyProof.Rows L2
section
variable {X : Cx} {M : Mx} {k : Nat} {elt tg it tg1 it1 : Expr} {ifs ifs1 : List Expr} {scope : Scope} {own : List (Str × Nat)} {pos spos py : Pos} {is is1 vs1 : List Nat} {src src1 : DEnv → R (List D)} {g g1 : D → DEnv → Option DEnv} {t t1 : DEnv → R Bool} {f : DEnv → R D}
/-- under a comprehension's block -/
abbrev InBlk (X : Cx) (M : Mx) (scope : Scope) (k : Nat) (p : Cx → Mx → Prop) : Prop := ∀ (H0 : Hp) (s : Shared) (H : Hp) (C : Addr) (cl : List (Str × Addr)) (fp : List Addr),
  Ok (X.blk s H scope (compEnvC scope cl C X.env) fp) (M.blk H0) k → p (X.blk s H scope (compEnvC scope cl C X.env) fp) (M.blk H0)
theorem w_lc (o : Ok X M k) (own : List (Str × Nat)) (hi : SI X M tg it src) (ok : BlkOk X.N X.env.scope scope own) (hok : 0 ∉ own.map (·.2)) (his : ∀ i ∈ is, i ∈ own.map (·.2))
    (hg : InBlk X M scope k fun X M => SG X M is tg g) (ht : InBlk X M scope k fun X M => STs X M ifs t) (he : InBlk X M scope k fun X M => SE X M elt f) (hs : ∀ x, foldedSetIterable it X.env x = pure x := by intro _; rfl) :
    SF X M (.ListComp elt [⟨tg, it, ifs, 0⟩] scope pos) (lc (own.map (·.2)) src g t f) :=
  sf_lc o.calm o.nd hi ok (fun _ => hok) his (fun H0 s H C cl fp => hg H0 s H C cl fp (o.blk H0 s H scope _ fp)) (fun H0 s H C cl fp => ht H0 s H C cl fp (o.blk H0 s H scope _ fp)) (fun H0 s H C cl fp => he H0 s H C cl fp (o.blk H0 s H scope _ fp)) hs
theorem w_setLc {i : Nat} {y : Str} (o : Ok X M k) (own : List (Str × Nat)) (hy : X.N[i]? = some y) (hyl : X.env.scope.names.lookup y = some .local)
    (hsw : swapsWith (.ListComp elt [⟨tg, it, ifs, 0⟩] scope pos) (some (.Name y py)) spos.line X.env = pure true) (hi : SI X M tg it src) (ok : BlkOk X.N X.env.scope scope own) (hok : 0 ∉ own.map (·.2)) (his : ∀ i ∈ is, i ∈ own.map (·.2))
    (hg : InBlk X M scope k fun X M => SG X M is tg g) (ht : InBlk X M scope k fun X M => STs X M ifs t) (he : InBlk X M scope k fun X M => SE X M elt f) (hs : ∀ x, foldedSetIterable it X.env x = pure x := by intro _; rfl) :
    SS X M (.Assign [.Name y py] (.ListComp elt [⟨tg, it, ifs, 0⟩] scope pos) spos) (oSetF i (lc (own.map (·.2)) src g t f)) :=
  ss_setLc o.calm o.nd hy hyl hsw hi ok (fun _ => hok) his (fun H0 s H C cl fp => hg H0 s H C cl fp (o.blk H0 s H scope _ fp)) (fun H0 s H C cl fp => ht H0 s H C cl fp (o.blk H0 s H scope _ fp)) (fun H0 s H C cl fp => he H0 s H C cl fp (o.blk H0 s H scope _ fp)) hs
theorem w_l2 (o : Ok X M k) (own : List (Str × Nat)) (vs1 : List Nat) (hi : SI X M tg it src) (ok : BlkOk X.N X.env.scope scope own) (hok : 0 ∉ own.map (·.2)) (his : ∀ i ∈ is, i ∈ own.map (·.2)) (his1 : ∀ i ∈ is1, i ∈ vs1) (sub : ∀ i ∈ vs1, i ∈ own.map (·.2))
    (hg : InBlk X M scope k fun X M => SG X M is tg g) (ht : InBlk X M scope k fun X M => STs X M ifs t) (hi1 : InBlk X M scope k fun X M => SI X M tg1 it1 src1) (hg1 : InBlk X M scope k fun X M => SG X M is1 tg1 g1) (ht1 : InBlk X M scope k fun X M => STs X M ifs1 t1) (he : InBlk X M scope k fun X M => SE X M elt f) :
    Lc2 X M elt tg it tg1 it1 ifs ifs1 scope own is is1 vs1 src src1 g g1 t t1 f :=
  ⟨hi, ok, fun _ => hok, his, fun _ z => hok (sub 0 z), his1, sub, fun H0 s H C cl fp => hg H0 s H C cl fp (o.blk H0 s H scope _ fp), fun H0 s H C cl fp => ht H0 s H C cl fp (o.blk H0 s H scope _ fp),
    fun H0 s H C cl fp => hi1 H0 s H C cl fp (o.blk H0 s H scope _ fp), fun H0 s H C cl fp => hg1 H0 s H C cl fp (o.blk H0 s H scope _ fp), fun H0 s H C cl fp => ht1 H0 s H C cl fp (o.blk H0 s H scope _ fp), fun H0 s H C cl fp => he H0 s H C cl fp (o.blk H0 s H scope _ fp)⟩
/-- under a generator expression's frame -/
abbrev InGen (X : Cx) (M : Mx) (scope : Scope) (k : Nat) (p : Cx → Mx → Prop) : Prop := ∀ (s : Shared) (H : Hp) (C : Addr) (cl : List (Str × Addr)) (cd : Value) (bi : Addr) (fp : List Addr) (A : Around),
  Ok (CxGen X s H (genEnv scope cl C cd bi X.env) fp A) (M.blk M.H0) k → p (CxGen X s H (genEnv scope cl C cd bi X.env) fp A) (M.blk M.H0)
variable {c P : Addr} {p gpos : Pos}
theorem w_any (o : Ok X M (k + 1)) (own : List (Str × Nat)) (hgl : Gl X "any") (hm : X.mg "any" = none) (TB : GxR.TabB X.base X.mg c P) (hP : P ∈ M.tabs) (hcode : X.env.code = .ref c) (hi : SI X M tg it src) (gok : GenOk X.env scope) (ok : BlkOk X.N X.env.scope scope own) (hok : 0 ∉ own.map (·.2)) (his : ∀ i ∈ is, i ∈ own.map (·.2))
    (hg : InGen X M scope k fun X M => SG X M is tg g) (he : InGen X M scope k fun X M => SE X M elt f) (hs : ∀ v, genFold it X.env v = pure v := by intro _; rfl)
    (hst : starEach [.GeneratorExp elt [⟨tg, it, [], 0⟩] scope gpos] X.env = (false, eval (.GeneratorExp elt [⟨tg, it, [], 0⟩] scope gpos) X.env) :: starEach [] X.env := by rfl) :
    SE X M (.Call (.Name "any" p) [.GeneratorExp elt [⟨tg, it, [], 0⟩] scope gpos] [] pos) (qE true (own.map (·.2)) src g f) :=
  se_any o hgl hm TB hP hcode hi gok ok (fun _ => hok) his (fun s H C cl cd bi fp A h => hg s H C cl cd bi fp A (o.gen _ s H _ fp A h)) (fun s H C cl cd bi fp A h => he s H C cl cd bi fp A (o.gen _ s H _ fp A h)) hs hst
theorem w_all (o : Ok X M (k + 1)) (own : List (Str × Nat)) (hgl : Gl X "all") (hm : X.mg "all" = none) (TB : GxR.TabB X.base X.mg c P) (hP : P ∈ M.tabs) (hcode : X.env.code = .ref c) (hi : SI X M tg it src) (gok : GenOk X.env scope) (ok : BlkOk X.N X.env.scope scope own) (hok : 0 ∉ own.map (·.2)) (his : ∀ i ∈ is, i ∈ own.map (·.2))
    (hg : InGen X M scope k fun X M => SG X M is tg g) (he : InGen X M scope k fun X M => SE X M elt f) (hb : bootBuiltins "all" = some (.builtin "all")) (hs : ∀ v, genFold it X.env v = pure v := by intro _; rfl)
    (hst : starEach [.GeneratorExp elt [⟨tg, it, [], 0⟩] scope gpos] X.env = (false, eval (.GeneratorExp elt [⟨tg, it, [], 0⟩] scope gpos) X.env) :: starEach [] X.env := by rfl) :
    SE X M (.Call (.Name "all" p) [.GeneratorExp elt [⟨tg, it, [], 0⟩] scope gpos] [] pos) (qE false (own.map (·.2)) src g f) :=
  se_all o hgl hm TB hP hcode hi gok ok (fun _ => hok) his (fun s H C cl cd bi fp A h => hg s H C cl cd bi fp A (o.gen _ s H _ fp A h)) (fun s H C cl cd bi fp A h => he s H C cl cd bi fp A (o.gen _ s H _ fp A h)) hb hs hst
theorem Ok.u64 (o : Ok X M k) : X.A.units + 64 < cLine := o.room.units
theorem Ok.u65 (o : Ok X M k) : X.A.units + 65 < cLine := by have := o.room.un; omega
theorem Ok.u0 (o : Ok X M k) : X.A.units < cLine := o.room.units0
theorem st_e {e : Expr} {f : DEnv → R D} (h : SE X M e f) (he : ∀ whole, isTrue e X.env whole = (do let v ← whole; standAt e.pos; holding [v] (truthy v)) := by intro _; rfl) : ST X M e (bV f) := st_val h he
end
/-! ### built-in names -/
theorem bt_isinstance : bootBuiltins "isinstance" = some (.builtin "isinstance") := by decide +kernel
theorem bt_abs : bootBuiltins "abs" = some (.builtin "abs") := by decide +kernel
theorem bt_len : bootBuiltins "len" = some (.builtin "len") := by decide +kernel
theorem bt_min : bootBuiltins "min" = some (.builtin "min") := by decide +kernel
theorem bt_max : bootBuiltins "max" = some (.builtin "max") := by decide +kernel
theorem bt_sum : bootBuiltins "sum" = some (.builtin "sum") := by decide +kernel
theorem bt_all : bootBuiltins "all" = some (.builtin "all") := by decide +kernel
theorem bt_sorted : bootBuiltins "sorted" = some (.builtin "sorted") := by decide +kernel
theorem bt_int : bootBuiltins "int" = some (.type PyT.int.name) := by decide +kernel
theorem bt_bool : bootBuiltins "bool" = some (.type PyT.bool.name) := by decide +kernel
theorem bt_str : bootBuiltins "str" = some (.type PyT.str.name) := by decide +kernel
theorem bt_list : bootBuiltins "list" = some (.type PyT.list.name) := by decide +kernel
theorem bt_tuple : bootBuiltins "tuple" = some (.type PyT.tuple.name) := by decide +kernel
theorem bt_dict : bootBuiltins "dict" = some (.type PyT.dict.name) := by decide +kernel

/-! ### the end -/
theorem funP_mk {K : PySem.W.Frag} {x qual : Str} {st : Stmt} {f : Addr} {oc : Value} {od an : Option Addr} {osl : Array (Option Value)} {kV doc pm cdv ct : Value} {cp : Value → Prop} (l : K.lookup f = some ⟨oc, od, .func (PySem.W.fnOf x qual (defArgs st) (defBody st) (defScope st) .none kV doc pm an cdv ct), osl⟩)
    (c : PySem.W.codeIn K cdv qual = true) (h : cp cdv) (k : PySem.W.keepIn K (.ref f) = true) : FunP K x qual st f (PySem.W.fnOf x qual (defArgs st) (defBody st) (defScope st) .none kV doc pm an cdv ct) cp := ⟨⟨oc, od, kV, doc, pm, an, cdv, ct, osl, rfl, l, c, h⟩, k⟩
theorem FunP.binds {K : PySem.W.Frag} {x qual : Str} {st : Stmt} {f : Addr} {fd : FuncData} {cp : Value → Prop} {ps : List Str} (F : FunP K x qual st f fd cp)
    (h : ∀ (kV doc pm : Value) (an : Option Addr) (cdv ct : Value) (us : List Value), us.length = ps.length → bindArgs (PySem.W.fnOf x qual (defArgs st) (defBody st) (defScope st) .none kV doc pm an cdv ct) ⟨us, []⟩ = pure (ps.zip us)) : Binds K fd ps [] := F.fun.binds h
/-- the goal that k_head leaves, from the law's promise; T: what is known of the top -/
theorem walk_T {l : PySem.W.OpenLaw} {n k : Nat} {q : Program} {loose : List Str} {XP : (Str → Option Value) → Heap → Prop} {YP : World → Heap → Prop} {d : DefRec} {K : Params → PySem.W.Frag} {x : Str}
    (hn : l.most = some n) (hn2 : n ≤ sizeLine) (hdf : d.params.defaults = []) (hr : Room k callerA) (hY : ∀ (w : World) (h : Heap), YP w h → (K w.params).In h)
    (F : ∀ (w : World) (mg mb : Str → Option Value) (fa : Addr) (h : Heap) (loose' : List Str) (mean : ExcName → Option Value), Top q loose' mean mg mb h → (K w.params).In h → h.Ns mainGlobals mg → mg d.name = some (.ref fa) → LamX.LawAtS l w (K w.params) (L2.CX l.prog w) k n x mg fa h) :
    PySem.W.WalkO q loose XP YP l.row.toRowW d [] (fun f vs => PySem.call f vs) := by
  refine Att.attach_callB hn hdf fun w s₀ s₁ mg mb fa o pm cd doc a vs ns G Y ho hd hcd hmg hobj hints hlen hbits hg => ?_
  have KX := hY w _ Y
  obtain ⟨fd, cs, sp, hT, nT, C, hb, hsp, hF⟩ := F w mg mb fa _ _ _ G.T KX G.T.g hmg
  exact LamX.law_callTs KX G.T.g G.T.b G.T.builtins G.T.nolimit hg hT nT C G.T.bmain hobj hints (Nat.le_trans hlen hn2) hr hF hb (fun H hH hS => hsp H a ns hlen hbits hH hS) fun H e s' h => by
    obtain ⟨_, _, _, _, _, _, _, _, _, _, _, _, z⟩ := h
    exact z
end PL
set_option Elab.async false
set_option linter.all false
set_option maxRecDepth 100000
set_option autoImplicit false
namespace PL
open PySem PySem.Spec PyProof.Rows L2
def genB (scope : Scope) : Bool := (!scope.isCoroutine) && (scope.names.all fun y => match y.2 with | .cell => false | _ => true) && (match scope.names.lookup (".0" : Str) with | some .local => true | _ => false)
theorem genOk_by {env : PySem.Env} {scope : Scope} (h : genB scope = true) : GenOk env scope := by
  unfold genB at h
  simp only [Bool.and_eq_true, List.all_eq_true] at h
  obtain ⟨⟨h1, h2⟩, h3⟩ := h
  refine ⟨by simpa using h1, fun y hy e => ?_, ?_⟩
  · have := h2 y hy
    rw [e] at this
    cases this
  · split at h3
    · assumption
    · cases h3
section
variable {X : Cx} {M : Mx} {x : Str} {pos : Pos}
theorem se_gint {i : Int} (hg : Gl X x) (h : ∃ t, X.mg x = some (.int i t)) (hd : (x == ("__debug__" : Str)) = false := by decide) : SE X M (.Name x pos) (kI i) := by
  obtain ⟨t, h⟩ := h
  exact se_glob (v := .int i) hg h ⟨t, rfl⟩ (fun _ => .int i) hd
end
def cMulS (i j : Int) : Bool := decide (i.natAbs < 2 ^ 64) || decide (j.natAbs < 2 ^ 64)
def iMul : D → D → Option D := dII cMulS fun a b => .int (a * b)
theorem id_mul {X : Cx} : OpD X (inplaceOp .Mult) iMul := od_int iop_mul (fun i j h => by
  simp only [cMulS, Bool.or_eq_true, decide_eq_true_eq] at h
  rcases h with h | h
  · exact .inl (by omega)
  · exact .inr (by omega)) fun _ _ _ _ => .int _
@[simp] abbrev oSto (i : Nat) (f g : DEnv → R D) : DEnv → O := fun σ => (f σ).thn fun d σ1 => match lstOf i σ1 with
  | some _ => (g σ1).thn fun kd σ2 => stoL i kd d σ2
  | none => .bad
theorem w_asg {X : Cx} {M : Mx} {e tg : Expr} {f : DEnv → R D} {pos : Pos} {is : List Nat} {g : D → DEnv → Option DEnv} (he : SE X M e f) (hg : SG X M is tg g) (hs : swapsWithSole [tg] e pos.line X.env = pure false) (hw : swappedStores [tg] e X.env = pure none)
    (h1 : (assignEach [tg] X.env).map (·.2) = [assign tg X.env]) : SS X M (.Assign [tg] e pos) (oAsg f g) := ss_asgT he hg hs hw h1
theorem tabIn_of {K : PySem.W.Frag} {x : Str} {f c P : Addr} {oc od2 : Value} {od oe : Option Addr} {fd : FuncData} {sl sl2 : Array (Option Value)} {vs : Array Value} (a : PySem.W.nsIn K mainGlobals x = some (some (.ref f))) (l : K.lookup f = some ⟨oc, od, .func fd, sl⟩) (hc : fd.code = .ref c)
    (b : K.lookup c = some ⟨od2, oe, .fields vs, sl2⟩) (w : vs[11]? = some (.ref P)) : PySem.W.tabIn K x = some (c, P) := by
  unfold PySem.W.tabIn
  simp only [a, l, hc, b, w]
theorem triples_nil : TriplesOk (#[] : Array Value).toList := by first | exact .nil | trivial | (show TriplesOk []; first | exact True.intro | simp [TriplesOk])
theorem law_at {l : PySem.W.OpenLaw} {w : World} {K : PySem.W.Frag} {mg : Str → Option Value} {fa : Addr} {h : Heap} {k n : Nat} {x : Str} {fd : FuncData} (cs : List (Addr × Addr)) (hT : ∀ p ∈ cs, PySem.W.CodeHd h p.1 p.2 ∧ h.get? p.2 = some (PySem.W.tabObj #[])) (nT : ∀ p ∈ cs, K.lookup p.2 = none)
    (hb : ∀ (s : Shared) (u : Value), BindsTo s fd ⟨[u], []⟩ [(x, u)]) (F : ∀ base : Heap, K.In base → base.Ns mainGlobals mg → (∀ p ∈ cs, GxR.TabB base mg p.1 p.2) → FnOk l.prog w K mg base (L2.CX l.prog w) k fa fd [x] (spL K (cs.map (·.2)) n fun ns => ∀ z ∈ ns, Builtin.Int.intBits z ≤ 1048576)) :
    LamX.LawAtS l w K (L2.CX l.prog w) k n x mg fa h := by
  refine ⟨fd, cs, _, fun p hp => (hT p hp).2, nT, fun p hp => (hT p hp).1, hb, fun H a ns hl hbits hH hS => ?_, fun base h1 h2 h3 => F base h1 h2 fun p hp => ⟨(h3 p hp).code, (h3 p hp).bm, (h3 p hp).gP⟩⟩
  refine ⟨a, ns, rfl, hS, hl, hbits, fun P hP => ?_, fun _ => rfl⟩
  obtain ⟨p, hp, rfl⟩ := List.mem_map.mp hP
  exact ⟨#[], hH p hp, triples_nil⟩
end PL
set_option Elab.async false
set_option linter.all false
set_option maxRecDepth 100000
set_option maxHeartbeats 4000000
set_option autoImplicit false
namespace PL
open PySem PySem.Spec PyProof.Rows L2
/-- _law_open(script); slots: 0 script 1 cells 2 cell -/
def fb__law_open : DEnv → O := (oSeq (oSetL 1 (lc [2] (onD itemsS (slE (rdV 0) noPart (part (kI 63)))) (gN 2) yesB (callD cAbs (consA (callD cInt (consA (rdV 2) nilA)) nilA))))
    (oRetF (chk (consA (kI 0) (consA (kI 0) (consA (bin dAdd (rdV 1) (asL (chk (consA (kI 0) nilA)))) nilA))))))
def FF__law_open : List D → AnsF := defF 1 3 fb__law_open
/-- _law_trains(many); slots: 0 many 1 pairs 2 one 3 found 4 level 5 size 6 later 7 train 8 used 9 other 10 pair -/
def b__law_trains : DEnv → O := (oSeq (oSet 1 (asL (chk nilA)))
    (oSeq (oFor (onA rng1 (consA (rdV 0) nilA)) (gN 2) (oSet 1 (bin dAdd (rdV 1) (asL (lc [9] (onA rng1 (consA (rdV 0) nilA)) (gN 9) (bV (bin dNe (rdV 9) (rdV 2))) (mkT (consA (rdV 2) (consA (rdV 9) nilA))))))))
    (oSeq (oSet2 3 4 (consA (asL (chk nilA)) (consA (asL (chk (consA (mkT nilA) nilA))) nilA)))
    (oSeq (oFor (onA rng1 (consA (kI 3) nilA)) (gN 5) (oSeq (oSet 6 (asL (chk nilA)))
    (oSeq (oFor (onD itemsS (rdV 4)) (gN 7) (oSeq (oSet 8 (bin dAdd (asL (lc [10] (onD itemsS (rdV 7)) (gN 10) yesB (bin dIx (rdV 10) (kI 0)))) (asL (lc [10] (onD itemsS (rdV 7)) (gN 10) yesB (bin dIx (rdV 10) (kI 1))))))
    (oSet 6 (bin dAdd (rdV 6) (asL (lc [10] (onD itemsS (rdV 1)) (gN 10) (bAnd (bV (bin dNotIn (bin dIx (rdV 10) (kI 0)) (rdV 8))) (bAnd (bV (bin dNotIn (bin dIx (rdV 10) (kI 1)) (rdV 8))) (bOr (bV (bin dEq (rdV 7) (mkT nilA))) (bV (bin dLt (bin dIx (rdV 7) (un dNeg (kI 1))) (rdV 10)))))) (bin dAdd (rdV 7) (mkT (consA (rdV 10) nilA)))))))))
    (oSeq (oSet 3 (bin dAdd (rdV 3) (rdV 6)))
    (oSet 4 (rdV 6))))))
    (oRet (rdV 3))))))
def F__law_trains : List D → Ans := defD 1 11 b__law_trains
/-- _law_greatest(one, other); slots: 0 one 1 other 2 k 3 rest -/
def b__law_greatest : DEnv → O := (oSeq (oFor (onA rng1 (consA (kI 6000) nilA)) (gN 2) (oSeq (oIf (bV (bin dEq (rdV 1) (kI 0))) oBrk oNx)
    (oSeq (oSet 3 (bin dMod (rdV 0) (rdV 1)))
    (oSeq (oSet 0 (rdV 1))
    (oSet 1 (rdV 3))))))
    (oRet (rdV 0)))
def F__law_greatest : List D → Ans := defD 2 4 b__law_greatest
/-- _law_lowest(part, whole); slots: 0 part 1 whole 2 common -/
def b__law_lowest : DEnv → O := (oSeq (oSet 2 (callF F__law_greatest (consA (callD cAbs (consA (rdV 0) nilA)) (consA (callD cAbs (consA (rdV 1) nilA)) nilA))))
    (oSeq (oSet 2 (ite' (bV (bin dLt (rdV 1) (kI 0))) (un dNeg (rdV 2)) (rdV 2)))
    (oRet (mkT (consA (bin dDiv (rdV 0) (rdV 2)) (consA (bin dDiv (rdV 1) (rdV 2)) nilA))))))
def F__law_lowest : List D → Ans := defD 2 3 b__law_lowest
/-- _law_ratio(stock, train); slots: 0 stock 1 train 2 part 3 whole 4 pair -/
def b__law_ratio : DEnv → O := (oSeq (oAsg (mkT (consA (kI 1) (consA (kI 1) nilA))) (gT 2 (gCons (gN 2) (gCons (gN 3) gNil))))
    (oSeq (oFor (onD itemsS (rdV 1)) (gN 4) (oSeq (augF iMul 2 (bin dIx (rdV 0) (bin dIx (rdV 4) (kI 0))))
    (augF iMul 3 (bin dIx (rdV 0) (bin dIx (rdV 4) (kI 1))))))
    (oRet (callF F__law_lowest (consA (rdV 2) (consA (rdV 3) nilA))))))
def F__law_ratio : List D → Ans := defD 2 5 b__law_ratio
/-- _law_mixed(cell, turn); slots: 0 cell 1 turn 2 number -/
def b__law_mixed : DEnv → O := (oSeq (oSet 2 (bin dMod (bin dAdd (bin dAdd (bin dMul (bin dMod (rdV 0) (bin dSub (bin dPow (kI 2) (kI 61)) (kI 1))) (kI 6364136223846793005)) (bin dMul (rdV 1) (kI 1442695040888963407))) (kI 97)) (bin dPow (kI 2) (kI 61))))
    (oSeq (oSet 2 (bin dMod (bin dMul (bin dXor (rdV 2) (bin dShr (rdV 2) (kI 29))) (kI 3935559000370003845)) (bin dPow (kI 2) (kI 61))))
    (oRet (bin dMod (bin dMul (bin dXor (rdV 2) (bin dShr (rdV 2) (kI 31))) (kI 2862933555777941757)) (bin dPow (kI 2) (kI 61))))))
def F__law_mixed : List D → Ans := defD 2 3 b__law_mixed
/-- _law_draw(draws, size); slots: 0 draws 1 size 2 turn 3 left 4 cells 5 cell -/
def b__law_draw : DEnv → O := (oSeq (oUnp 0 3 (gCons (gN 2) (gCons (gN 3) (gCons (gN 4) gNil))))
    (oSeq (oIf (bV (bin dLt (rdV 3) (rdV 1))) (oSeq (oSet 5 (bin dIx (rdV 4) (bin dMod (rdV 2) (callD cLen (consA (rdV 4) nilA)))))
    (oSeq (oSet 3 (ite' (bAnd (bV (bin dLt (rdV 2) (callD cLen (consA (rdV 4) nilA)))) (bV (bin dGeI (rdV 5) (bin dPow (kI 10) (kI 18))))) (rdV 5) (callF F__law_mixed (consA (rdV 5) (consA (rdV 2) nilA)))))
    (oSet 2 (bin dAdd (rdV 2) (kI 1))))) oNx)
    (oSeq (oSto 0 (rdV 2) (kI 0))
    (oSeq (oSto 0 (bin dDiv (rdV 3) (rdV 1)) (kI 1))
    (oRet (bin dMod (rdV 3) (rdV 1)))))))
def F__law_draw : List D → List D → AnsT := defT 1 6 b__law_draw
/-- lowest(part, whole); slots: 0 part 1 whole 2 common -/
def b_lowest : DEnv → O := (oSeq (oSet 2 (callD cGcd (consA (rdV 0) (consA (rdV 1) nilA))))
    (oSeq (oIf (bV (bin dLt (rdV 1) (kI 0))) (oSet 2 (un dNeg (rdV 2))) oNx)
    (oRet (mkT (consA (bin dDiv (rdV 0) (rdV 2)) (consA (bin dDiv (rdV 1) (rdV 2)) nilA))))))
def F_lowest : List D → Ans := defD 2 3 b_lowest
/-- ratio_of(stock, train); slots: 0 stock 1 train 2 part 3 whole 4 driver 5 driven -/
def b_ratio_of : DEnv → O := (oSeq (oAsg (mkT (consA (kI 1) (consA (kI 1) nilA))) (gT 2 (gCons (gN 2) (gCons (gN 3) gNil))))
    (oSeq (oFor (onD itemsS (rdV 1)) (gT 2 (gCons (gN 4) (gCons (gN 5) gNil))) (oSeq (oSet 2 (bin dMul (rdV 2) (bin dIx (rdV 0) (rdV 4))))
    (oSet 3 (bin dMul (rdV 3) (bin dIx (rdV 0) (rdV 5))))))
    (oRet (callF F_lowest (consA (rdV 2) (consA (rdV 3) nilA))))))
def F_ratio_of : List D → Ans := defD 2 6 b_ratio_of
/-- flash_period(stock, train, seconds, panels); slots: 0 stock 1 train 2 seconds 3 panels 4 part 5 whole -/
def b_flash_period : DEnv → O := (oSeq (oAsg (callF F_ratio_of (consA (rdV 0) (consA (rdV 1) nilA))) (gT 2 (gCons (gN 4) (gCons (gN 5) gNil))))
    (oRet (callF F_lowest (consA (bin dMul (rdV 2) (rdV 5)) (consA (bin dMul (rdV 3) (rdV 4)) nilA)))))
def F_flash_period : List D → Ans := defD 4 6 b_flash_period
/-- turned_round(train); slots: 0 train 1 driver 2 driven -/
def b_turned_round : DEnv → O := (oRet (callD cTuple (consA (callD cSorted (consA (asL (lc [1, 2] (onD itemsS (rdV 0)) (gT 2 (gCons (gN 1) (gCons (gN 2) gNil))) yesB (mkT (consA (rdV 2) (consA (rdV 1) nilA))))) nilA)) nilA)))
def F_turned_round : List D → Ans := defD 1 3 b_turned_round
/-- is_number(value, least, most); slots: 0 value 1 least 2 most -/
def b_is_number : DEnv → O := (oRet (vAnd (isE .int (rdV 0)) (vAnd (vNot (isE .bool (rdV 0))) (chn dLeI dLeI (rdV 1) (rdV 0) (rdV 2)))))
def F_is_number : List D → Ans := defD 3 3 b_is_number
/-- is_stock(value); slots: 0 value 1 one -/
def b_is_stock : DEnv → O := (oSeq (oIf (bOr (bNot (bV (isE .tuple (rdV 0)))) (bNot (bV (chn dLeI dLeI (kI 2) (callD cLen (consA (rdV 0) nilA)) (kI 8))))) (oRet (kB false)) oNx)
    (oRet (qE false [1] (onD itemsS (rdV 0)) (gN 1) (callF F_is_number (consA (rdV 1) (consA (kI 6) (consA (kI 60) nilA)))))))
def F_is_stock : List D → Ans := defD 1 2 b_is_stock
/-- _law_less(one, other); slots: 0 one 1 other -/
def b__law_less : DEnv → O := (oRet (bin dLt (bin dMul (bin dIx (rdV 0) (kI 0)) (bin dIx (rdV 1) (kI 1))) (bin dMul (bin dIx (rdV 1) (kI 0)) (bin dIx (rdV 0) (kI 1)))))
def F__law_less : List D → Ans := defD 2 2 b__law_less
/-- all_trains(stock); slots: 0 stock 1 many 2 pairs 3 found 4 level 5 size 6 later 7 train 8 used 9 pair 10 one 11 other 12 wheel -/
def b_all_trains : DEnv → O := (oSeq (oSet 1 (callD cLen (consA (rdV 0) nilA)))
    (oSeq (oSetL 2 (lc2 [10, 11] [11] (onA rng1 (consA (rdV 1) nilA)) (gN 10) yesB (onA rng1 (consA (rdV 1) nilA)) (gN 11) (bV (bin dNe (rdV 10) (rdV 11))) (mkT (consA (rdV 10) (consA (rdV 11) nilA)))))
    (oSeq (oSet 3 (asL (chk nilA)))
    (oSeq (oSet 4 (asL (chk (consA (mkT nilA) nilA))))
    (oSeq (oFor (onA rng1 (consA (kI 3) nilA)) (gN 5) (oSeq (oSetF 6 (chk nilA))
    (oSeq (oFor (onD itemsS (rdV 4)) (gN 7) (oSeq (oSetL 8 (lc2 [9, 12] [12] (onD itemsS (rdV 7)) (gN 9) yesB (onD itemsS (rdV 9)) (gN 12) yesB (rdV 12)))
    (oFor (onD itemsS (rdV 2)) (gN 9) (oIf (bAnd (bV (bin dNotIn (bin dIx (rdV 9) (kI 0)) (rdV 8))) (bAnd (bV (bin dNotIn (bin dIx (rdV 9) (kI 1)) (rdV 8))) (bOr (bV (bin dEq (rdV 7) (mkT nilA))) (bV (bin dLt (bin dIx (rdV 7) (un dNeg (kI 1))) (rdV 9)))))) (oApp 6 (bin dAdd (rdV 7) (mkT (consA (rdV 9) nilA)))) oNx))))
    (oSeq (oSet 3 (bin dAdd (rdV 3) (rdV 6)))
    (oSet 4 (rdV 6))))))
    (oRet (rdV 3)))))))
def F_all_trains : List D → Ans := defD 1 13 b_all_trains
/-- train_for(stock, wanted); slots: 0 stock 1 wanted 2 train -/
def b_train_for : DEnv → O := (oSeq (oFor (onD itemsS (callF F_all_trains (consA (rdV 0) nilA))) (gN 2) (oIf (bV (bin dEq (callF F_ratio_of (consA (rdV 0) (consA (rdV 2) nilA))) (rdV 1))) (oRet (rdV 2)) oNx))
    (oRet kN))
def F_train_for : List D → Ans := defD 2 3 b_train_for
/-- _law_same(told, due); slots: 0 told 1 due -/
def b__law_same : DEnv → O := (oRet (ite' (bV (rdV 1)) (bin dIs (rdV 0) (kB true)) (bin dIs (rdV 0) (kB false))))
def F__law_same : List D → Ans := defD 2 2 b__law_same
/-- _law_far(one, other); slots: 0 one 1 other 2 part -/
def b__law_far : DEnv → O := (oSeq (oSet 2 (bin dSub (bin dMul (bin dIx (rdV 0) (kI 0)) (bin dIx (rdV 1) (kI 1))) (bin dMul (bin dIx (rdV 1) (kI 0)) (bin dIx (rdV 0) (kI 1)))))
    (oRet (mkT (consA (ite' (bV (bin dGtI (rdV 2) (kI 0))) (rdV 2) (un dNeg (rdV 2))) (consA (bin dMul (bin dIx (rdV 0) (kI 1)) (bin dIx (rdV 1) (kI 1))) nilA)))))
def F__law_far : List D → Ans := defD 2 3 b__law_far
/-- less(one, other); slots: 0 one 1 other -/
def b_less : DEnv → O := (oRet (bin dLt (bin dMul (bin dIx (rdV 0) (kI 0)) (bin dIx (rdV 1) (kI 1))) (bin dMul (bin dIx (rdV 1) (kI 0)) (bin dIx (rdV 0) (kI 1)))))
def F_less : List D → Ans := defD 2 2 b_less
/-- minus(one, other); slots: 0 one 1 other -/
def b_minus : DEnv → O := (oRet (callF F_lowest (consA (bin dSub (bin dMul (bin dIx (rdV 0) (kI 0)) (bin dIx (rdV 1) (kI 1))) (bin dMul (bin dIx (rdV 1) (kI 0)) (bin dIx (rdV 0) (kI 1)))) (consA (bin dMul (bin dIx (rdV 0) (kI 1)) (bin dIx (rdV 1) (kI 1))) nilA))))
def F_minus : List D → Ans := defD 2 2 b_minus
/-- off_by(stock, train, wanted); slots: 0 stock 1 train 2 wanted 3 off -/
def b_off_by : DEnv → O := (oSeq (oSet 3 (callF F_minus (consA (callF F_ratio_of (consA (rdV 0) (consA (rdV 1) nilA))) (consA (rdV 2) nilA))))
    (oRet (mkT (consA (callD cAbs (consA (bin dIx (rdV 3) (kI 0)) nilA)) (consA (bin dIx (rdV 3) (kI 1)) nilA)))))
def F_off_by : List D → Ans := defD 3 4 b_off_by
/-- nearest_train(stock, wanted); slots: 0 stock 1 wanted 2 best 3 train -/
def b_nearest_train : DEnv → O := (oSeq (oSet 2 kN)
    (oSeq (oFor (onD itemsS (callF F_all_trains (consA (rdV 0) nilA))) (gN 3) (oIf (bOr (bV (bin dIs (rdV 2) kN)) (bV (callF F_less (consA (callF F_off_by (consA (rdV 0) (consA (rdV 3) (consA (rdV 1) nilA)))) (consA (callF F_off_by (consA (rdV 0) (consA (rdV 2) (consA (rdV 1) nilA)))) nilA))))) (oSet 2 (rdV 3)) oNx))
    (oRet (rdV 2))))
def F_nearest_train : List D → Ans := defD 2 4 b_nearest_train
/-- is_train(stock, value); slots: 0 stock 1 value 2 wheels 3 pair 4 one 5 wheel 6 k -/
def b_is_train : DEnv → O := (oSeq (oIf (bOr (bNot (bV (isE .tuple (rdV 1)))) (bNot (bV (chn dLeI dLeI (kI 1) (callD cLen (consA (rdV 1) nilA)) (kI 3))))) (oRet (kB false)) oNx)
    (oSeq (oSet 2 (asL (chk nilA)))
    (oSeq (oFor (onD itemsS (rdV 1)) (gN 3) (oSeq (oIf (bOr (bNot (bV (isE .tuple (rdV 3)))) (bV (bin dNe (callD cLen (consA (rdV 3) nilA)) (kI 2)))) (oRet (kB false)) oNx)
    (oSeq (oIf (bNot (bV (qE false [4] (onD itemsS (rdV 3)) (gN 4) (callF F_is_number (consA (rdV 4) (consA (kI 0) (consA (bin dSub (callD cLen (consA (rdV 0) nilA)) (kI 1)) nilA))))))) (oRet (kB false)) oNx)
    (oSet 2 (bin dAdd (rdV 2) (callD cList (consA (rdV 3) nilA)))))))
    (oSeq (oIf (bV (qE true [5] (onD itemsS (rdV 2)) (gN 5) (bin dGtI (metL mCount (rdV 2) (consA (rdV 5) nilA)) (kI 1)))) (oRet (kB false)) oNx)
    (oRet (qE false [6] (onA rng1 (consA (bin dSub (callD cLen (consA (rdV 1) nilA)) (kI 1)) nilA)) (gN 6) (bin dLt (bin dIx (rdV 1) (rdV 6)) (bin dIx (rdV 1) (bin dAdd (rdV 6) (kI 1))))))))))
def F_is_train : List D → Ans := defD 2 7 b_is_train
/-- _law_int(value); slots: 0 value -/
def b__law_int : DEnv → O := (oRet (vAnd (isE .int (rdV 0)) (vNot (isE .bool (rdV 0)))))
def F__law_int : List D → Ans := defD 1 1 b__law_int
/-- law(script); slots: 0 script 1 draws 2 wide 3 stock 4 many 5 wrong 6 trains 7 train 8 ratio 9 wanted 10 good 11 best 12 one 13 seconds 14 panels 15 values 16 value 17 wheel 18 pair -/
def b_law : DEnv → O := (oSeq (oSetF 1 (callNew FF__law_open (consA (rdV 0) nilA)))
    (oSeq (oSet 2 (bin dIx (asL (chk (consA (kI 3) (consA (kI 12) (consA (kI 55) nilA))))) (callT F__law_draw 1 (consA (kI 3) nilA))))
    (oSeq (oSet 3 (callD cTuple (consA (asL (lc [17] (onA rng1 (consA (bin dAdd (kI 2) (callT F__law_draw 1 (consA (kI 5) nilA))) nilA)) (gN 17) yesB (bin dAdd (kI 6) (callT F__law_draw 1 (consA (rdV 2) nilA))))) nilA)))
    (oSeq (oSet 4 (callD cLen (consA (rdV 3) nilA)))
    (oSeq (oSet 5 (asL (chk (consA kN (consA (mkT nilA) (consA (slE (rdV 3) noPart (part (kI 1))) (consA (callD cList (consA (rdV 3) nilA)) (consA (bin dMul (mkT (consA (kI 6) nilA)) (kI 9)) (consA (mkT (consA (kI 5) (consA (kI 6) nilA))) (consA (mkT (consA (kI 61) (consA (kI 6) nilA))) (consA (mkT (consA (kB true) (consA (kI 6) nilA))) (consA (mkT (consA kN (consA (kI 6) nilA))) (consA (kI 5) nilA)))))))))))))
    (oSeq (oIf (bOr (bV (bin dIsNot (callF F_is_stock (consA (rdV 3) nilA)) (kB true))) (bOr (bV (bin dIsNot (callF F_is_stock (consA (bin dMul (mkT (consA (kI 6) (consA (kI 60) nilA))) (kI 4)) nilA)) (kB true))) (bV (bin dNe (asL (lc [16] (onD itemsS (rdV 5)) (gN 16) (bV (bin dIsNot (callF F_is_stock (consA (rdV 16) nilA)) (kB false))) (rdV 16))) (asL (chk nilA)))))) (oRet (kB false)) oNx)
    (oSeq (oSet 6 (callF F__law_trains (consA (rdV 4) nilA)))
    (oSeq (oSet 7 (bin dIx (rdV 6) (callT F__law_draw 1 (consA (callD cLen (consA (rdV 6) nilA)) nilA))))
    (oSeq (oSet 8 (callF F__law_ratio (consA (rdV 3) (consA (rdV 7) nilA))))
    (oSeq (oIf (bOr (bV (bin dNe (callF F_ratio_of (consA (rdV 3) (consA (rdV 7) nilA))) (rdV 8))) (bOr (bV (bin dNe (callF F_turned_round (consA (rdV 7) nilA)) (callD cTuple (consA (callD cSorted (consA (asL (lc [18] (onD itemsS (rdV 7)) (gN 18) yesB (mkT (consA (bin dIx (rdV 18) (kI 1)) (consA (bin dIx (rdV 18) (kI 0)) nilA))))) nilA)) nilA)))) (bV (bin dNe (callF F_ratio_of (consA (rdV 3) (consA (callF F_turned_round (consA (rdV 7) nilA)) nilA))) (mkT (consA (bin dIx (rdV 8) (kI 1)) (consA (bin dIx (rdV 8) (kI 0)) nilA))))))) (oRet (kB false)) oNx)
    (oSeq (oFor (onD itemsS (asL (chk (consA (rdV 8) (consA (callF F__law_lowest (consA (bin dAdd (kI 1) (callT F__law_draw 1 (consA (kI 9) nilA))) (consA (bin dAdd (kI 1) (callT F__law_draw 1 (consA (kI 9) nilA))) nilA))) (consA (callF F__law_lowest (consA (bin dAdd (bin dMul (bin dIx (rdV 8) (kI 0)) (kI 50)) (kI 1)) (consA (bin dMul (bin dIx (rdV 8) (kI 1)) (kI 50)) nilA))) nilA)))))) (gN 9) (oSeq (oSetL 10 (lc [12] (onD itemsS (rdV 6)) (gN 12) (bV (bin dEq (callF F__law_ratio (consA (rdV 3) (consA (rdV 12) nilA))) (rdV 9))) (rdV 12)))
    (oSeq (oSet 11 (bin dIx (rdV 6) (kI 0)))
    (oSeq (oFor (onD itemsS (rdV 6)) (gN 12) (oIf (bV (callF F__law_less (consA (callF F__law_far (consA (callF F__law_ratio (consA (rdV 3) (consA (rdV 12) nilA))) (consA (rdV 9) nilA))) (consA (callF F__law_far (consA (callF F__law_ratio (consA (rdV 3) (consA (rdV 11) nilA))) (consA (rdV 9) nilA))) nilA)))) (oSet 11 (rdV 12)) oNx))
    (oIf (bOr (bV (bin dNe (callF F_train_for (consA (rdV 3) (consA (rdV 9) nilA))) (ite' (bV (bin dNe (rdV 10) (asL (chk nilA)))) (bin dIx (rdV 10) (kI 0)) kN))) (bV (bin dNe (callF F_nearest_train (consA (rdV 3) (consA (rdV 9) nilA))) (rdV 11)))) (oRet (kB false)) oNx)))))
    (oSeq (oIf (bAnd (bV (bin dLt (rdV 4) (kI 6))) (bV (bin dIs (callF F_train_for (consA (bin dAdd (rdV 3) (mkT (consA (kI 7) nilA))) (consA (rdV 8) nilA))) kN))) (oRet (kB false)) oNx)
    (oSeq (oSet2 13 14 (consA (bin dAdd (kI 1) (callT F__law_draw 1 (consA (kI 90) nilA))) (consA (bin dAdd (kI 1) (callT F__law_draw 1 (consA (kI 8) nilA))) nilA)))
    (oSeq (oIf (bV (bin dNe (callF F_flash_period (consA (rdV 3) (consA (rdV 7) (consA (rdV 13) (consA (rdV 14) nilA))))) (callF F__law_lowest (consA (bin dMul (rdV 13) (bin dIx (rdV 8) (kI 1))) (consA (bin dMul (rdV 14) (bin dIx (rdV 8) (kI 0))) nilA))))) (oRet (kB false)) oNx)
    (oSeq (oSet 15 (asL (chk (consA (rdV 7) (consA (callD cList (consA (rdV 7) nilA)) (consA (revE (rdV 7)) (consA (bin dAdd (rdV 7) (slE (rdV 7) noPart (part (kI 1)))) (consA (mkT nilA) (consA kN (consA (mkT (consA (mkT (consA (kI 0) (consA (kI 0) nilA))) nilA)) (consA (mkT (consA (mkT (consA (kI 0) (consA (rdV 4) nilA))) nilA)) (consA (mkT (consA (mkT (consA (un dNeg (kI 1)) (consA (kI 0) nilA))) nilA)) (consA (mkT (consA (mkT (consA (kB true) (consA (kI 0) nilA))) nilA)) (consA (mkT (consA (mkT (consA (kI 0) (consA kN nilA))) nilA)) (consA (mkT (consA (asL (chk (consA (kI 0) (consA (kI 1) nilA)))) nilA)) (consA (mkT (consA (mkT (consA (kI 0) nilA)) nilA)) (consA (mkT (consA (mkT (consA (kI 0) (consA (kI 1) (consA (kI 2) nilA)))) nilA)) (consA (mkT (consA kN nilA)) (consA (mkT (consA (mkT (consA (kI 0) (consA (kI 1) nilA))) (consA (mkT (consA (kI 1) (consA (kI 0) nilA))) nilA))) (consA (callF F_turned_round (consA (rdV 7) nilA)) (consA (mkT (consA (mkT (consA (kI 1) (consA (kI 0) nilA))) nilA)) (consA (kI 5) nilA))))))))))))))))))))))
    (oSeq (oFor (onD itemsS (rdV 15)) (gN 16) (oSeq (oSet 10 (vAnd (isE .tuple (rdV 16)) (vAnd (bin dEq (asL (lc [18] (onD itemsS (rdV 16)) (gN 18) (bOr (bNot (bV (isE .tuple (rdV 18)))) (bV (bin dNe (asL (lc [12] (onD itemsS (rdV 18)) (gN 12) (bNot (bV (callF F__law_int (consA (rdV 12) nilA)))) (rdV 12))) (asL (chk nilA))))) (rdV 18))) (asL (chk nilA))) (bin dIn (rdV 16) (rdV 6)))))
    (oIf (bNot (bV (callF F__law_same (consA (callF F_is_train (consA (rdV 3) (consA (rdV 16) nilA))) (consA (rdV 10) nilA))))) (oRet (kB false)) oNx)))
    (oRet (kB true))))))))))))))))))
def F_law : List D → Ans := defD 1 19 b_law
end PL
set_option Elab.async false
set_option linter.all false
set_option maxRecDepth 100000
set_option maxHeartbeats 4000000
set_option autoImplicit false
namespace PL
open PySem PySem.Spec PyProof.Rows L2
def top (i : Nat) : Stmt := PySem.Challenge.pw_coastlit_k98_whole_gears_of_lenses.main.body.getD i (.Pass ⟨0, 0, 0, 0⟩)
structure G0 (mg : Str → Option Value) : Prop where
  z_abs : mg "abs" = none
  z_all : mg "all" = none
  z_any : mg "any" = none
  z_bool : mg "bool" = none
  z_int : mg "int" = none
  z_isinstance : mg "isinstance" = none
  z_len : mg "len" = none
  z_list : mg "list" = none
  z_range : mg "range" = none
  z_sorted : mg "sorted" = none
  z_tuple : mg "tuple" = none
  c_LEAST_TEETH : ∃ t, mg "LEAST_TEETH" = some (.int 6 t)
  c_MOST_PAIRS : ∃ t, mg "MOST_PAIRS" = some (.int 3 t)
  c_MOST_TEETH : ∃ t, mg "MOST_TEETH" = some (.int 60 t)
  c_MOST_WHEELS : ∃ t, mg "MOST_WHEELS" = some (.int 8 t)
  m_gcd : mg "gcd" = some (.builtin "math.gcd")
abbrev s__law_open : Stmt := top 22
theorem sc__law_open : FnScope ["script", "cells", "cell"] ["script"] (defScope s__law_open) := ⟨rfl, rfl, rfl, by decide +kernel, rfl, by decide +kernel, by decide +kernel⟩
abbrev s__law_trains : Stmt := top 35
theorem sc__law_trains : FnScope ["many", "pairs", "one", "found", "level", "size", "later", "train", "used", "other", "pair"] ["many"] (defScope s__law_trains) := ⟨rfl, rfl, rfl, by decide +kernel, rfl, by decide +kernel, by decide +kernel⟩
abbrev s__law_greatest : Stmt := top 27
theorem sc__law_greatest : FnScope ["one", "other", "k", "rest"] ["one", "other"] (defScope s__law_greatest) := ⟨rfl, rfl, rfl, by decide +kernel, rfl, by decide +kernel, by decide +kernel⟩
abbrev s__law_lowest : Stmt := top 28
theorem sc__law_lowest : FnScope ["part", "whole", "common"] ["part", "whole"] (defScope s__law_lowest) := ⟨rfl, rfl, rfl, by decide +kernel, rfl, by decide +kernel, by decide +kernel⟩
abbrev s__law_ratio : Stmt := top 36
theorem sc__law_ratio : FnScope ["stock", "train", "part", "whole", "pair"] ["stock", "train"] (defScope s__law_ratio) := ⟨rfl, rfl, rfl, by decide +kernel, rfl, by decide +kernel, by decide +kernel⟩
abbrev s__law_mixed : Stmt := top 23
theorem sc__law_mixed : FnScope ["cell", "turn", "number"] ["cell", "turn"] (defScope s__law_mixed) := ⟨rfl, rfl, rfl, by decide +kernel, rfl, by decide +kernel, by decide +kernel⟩
abbrev s__law_draw : Stmt := top 24
theorem sc__law_draw : FnScope ["draws", "size", "turn", "left", "cells", "cell"] ["draws", "size"] (defScope s__law_draw) := ⟨rfl, rfl, rfl, by decide +kernel, rfl, by decide +kernel, by decide +kernel⟩
abbrev s_lowest : Stmt := top 4
theorem sc_lowest : FnScope ["part", "whole", "common"] ["part", "whole"] (defScope s_lowest) := ⟨rfl, rfl, rfl, by decide +kernel, rfl, by decide +kernel, by decide +kernel⟩
abbrev s_ratio_of : Stmt := top 14
theorem sc_ratio_of : FnScope ["stock", "train", "part", "whole", "driver", "driven"] ["stock", "train"] (defScope s_ratio_of) := ⟨rfl, rfl, rfl, by decide +kernel, rfl, by decide +kernel, by decide +kernel⟩
abbrev s_flash_period : Stmt := top 20
theorem sc_flash_period : FnScope ["stock", "train", "seconds", "panels", "part", "whole"] ["stock", "train", "seconds", "panels"] (defScope s_flash_period) := ⟨rfl, rfl, rfl, by decide +kernel, rfl, by decide +kernel, by decide +kernel⟩
abbrev s_turned_round : Stmt := top 15
theorem sc_turned_round : FnScope ["train", "driver", "driven"] ["train"] (defScope s_turned_round) := ⟨rfl, rfl, rfl, by decide +kernel, rfl, by decide +kernel, by decide +kernel⟩
abbrev s_is_number : Stmt := top 2
theorem sc_is_number : FnScope ["value", "least", "most"] ["value", "least", "most"] (defScope s_is_number) := ⟨rfl, rfl, rfl, by decide +kernel, rfl, by decide +kernel, by decide +kernel⟩
abbrev s_is_stock : Stmt := top 12
theorem sc_is_stock : FnScope ["value", "one"] ["value"] (defScope s_is_stock) := ⟨rfl, rfl, rfl, by decide +kernel, rfl, by decide +kernel, by decide +kernel⟩
abbrev s__law_less : Stmt := top 31
theorem sc__law_less : FnScope ["one", "other"] ["one", "other"] (defScope s__law_less) := ⟨rfl, rfl, rfl, by decide +kernel, rfl, by decide +kernel, by decide +kernel⟩
abbrev s_all_trains : Stmt := top 16
theorem sc_all_trains : FnScope ["stock", "many", "pairs", "found", "level", "size", "later", "train", "used", "pair", "one", "other", "wheel"] ["stock"] (defScope s_all_trains) := ⟨rfl, rfl, rfl, by decide +kernel, rfl, by decide +kernel, by decide +kernel⟩
abbrev s_train_for : Stmt := top 17
theorem sc_train_for : FnScope ["stock", "wanted", "train"] ["stock", "wanted"] (defScope s_train_for) := ⟨rfl, rfl, rfl, by decide +kernel, rfl, by decide +kernel, by decide +kernel⟩
abbrev s__law_same : Stmt := top 26
theorem sc__law_same : FnScope ["told", "due"] ["told", "due"] (defScope s__law_same) := ⟨rfl, rfl, rfl, by decide +kernel, rfl, by decide +kernel, by decide +kernel⟩
abbrev s__law_far : Stmt := top 37
theorem sc__law_far : FnScope ["one", "other", "part"] ["one", "other"] (defScope s__law_far) := ⟨rfl, rfl, rfl, by decide +kernel, rfl, by decide +kernel, by decide +kernel⟩
abbrev s_less : Stmt := top 6
theorem sc_less : FnScope ["one", "other"] ["one", "other"] (defScope s_less) := ⟨rfl, rfl, rfl, by decide +kernel, rfl, by decide +kernel, by decide +kernel⟩
abbrev s_minus : Stmt := top 5
theorem sc_minus : FnScope ["one", "other"] ["one", "other"] (defScope s_minus) := ⟨rfl, rfl, rfl, by decide +kernel, rfl, by decide +kernel, by decide +kernel⟩
abbrev s_off_by : Stmt := top 18
theorem sc_off_by : FnScope ["stock", "train", "wanted", "off"] ["stock", "train", "wanted"] (defScope s_off_by) := ⟨rfl, rfl, rfl, by decide +kernel, rfl, by decide +kernel, by decide +kernel⟩
abbrev s_nearest_train : Stmt := top 19
theorem sc_nearest_train : FnScope ["stock", "wanted", "best", "train"] ["stock", "wanted"] (defScope s_nearest_train) := ⟨rfl, rfl, rfl, by decide +kernel, rfl, by decide +kernel, by decide +kernel⟩
abbrev s_is_train : Stmt := top 13
theorem sc_is_train : FnScope ["stock", "value", "wheels", "pair", "one", "wheel", "k"] ["stock", "value"] (defScope s_is_train) := ⟨rfl, rfl, rfl, by decide +kernel, rfl, by decide +kernel, by decide +kernel⟩
abbrev s__law_int : Stmt := top 25
theorem sc__law_int : FnScope ["value"] ["value"] (defScope s__law_int) := ⟨rfl, rfl, rfl, by decide +kernel, rfl, by decide +kernel, by decide +kernel⟩
abbrev s_law : Stmt := top 38
theorem sc_law : FnScope ["script", "draws", "wide", "stock", "many", "wrong", "trains", "train", "ratio", "wanted", "good", "best", "one", "seconds", "panels", "values", "value", "wheel", "pair"] ["script"] (defScope s_law) := ⟨rfl, rfl, rfl, by decide +kernel, rfl, by decide +kernel, by decide +kernel⟩
section
variable {P : Program} {w : World} {K : PySem.W.Frag} {mg : Str → Option Value} {base : Heap} {tabs : List Addr} {cls : Nat → Addr} {f : Addr} {fd : FuncData} {c tp : Addr}
theorem df__law_open (g : G0 mg)  (FN : FunP K "_law_open" "_law_open" s__law_open f fd (fun _ => True)) (hmg : mg "_law_open" = some (.ref f)) : FnF P w K mg base tabs 1 "_law_open" FF__law_open :=
  fnF_b (cls := fun _ => 0) (k := 0) (B := fb__law_open) FN hmg (FN.binds fun _ _ _ _ _ _ us hl => match us, hl with | [_], _ => rfl) sc__law_open (fun cdv hcd A outer s H H0 E W tp o =>
    (ss_cons (ss_lockV (w_setLc (i := 1) o [("cell", 2)] (by rfl) (by rfl) (sw_true (by rfl) (by rfl) (by rfl) (by rfl)) (si_seq (se_slice o.hK (se_var (i := 0) (by rfl) (vis_of (by rfl))) so_none (so_some se_int)) o.hK) (blkOk_by rfl) (by decide) (by decide) (fun H0 s H C cl fp o => (sg_name o.nd (by rfl) (loc_of (by rfl)))) (fun H0 s H C cl fp o => sts_nil) (fun H0 s H C cl fp o => (se_callB o.hK cd_abs (by rfl) g.z_abs bt_abs (sa_cons (se_callTy o.hK cd_int (by rfl) g.z_int bt_int (sa_cons (se_var (i := 2) (by rfl) (vis_of (by rfl))) sa_nil)) sa_nil)))))
      (ss_one (ss_retF (sf_lst (sa_cons se_int (sa_cons se_int (sa_cons (se_op o.hK od_add (se_var (i := 1) (by rfl) (vis_of (by rfl))) (se_fz (sf_lst (sa_cons se_int sa_nil)))) sa_nil)))))))) 1 3
theorem d__law_trains (g : G0 mg)  (FN : FunP K "_law_trains" "_law_trains" s__law_trains f fd (fun _ => True)) (hmg : mg "_law_trains" = some (.ref f)) : FnD P w K mg base tabs cls 1 "_law_trains" F__law_trains :=
  fnD_b (k := 0) (B := b__law_trains) FN hmg (FN.binds fun _ _ _ _ _ _ us hl => match us, hl with | [_], _ => rfl) sc__law_trains (fun cdv hcd A outer s H H0 E W tp o =>
    (ss_cons (ss_set (i := 1) o.nd (by rfl) (loc_of (by rfl)) (se_fz (sf_lst sa_nil)))
      (ss_cons (ss_for o.own o.calm (si_range1 (by rfl) g.z_range (sa_cons (se_var (i := 0) (by rfl) (vis_of (by rfl))) sa_nil)) (sg_name o.nd (by rfl) (loc_of (by rfl))) (ss_one (ss_set (i := 1) o.nd (by rfl) (loc_of (by rfl)) (se_op o.hK od_add (se_var (i := 1) (by rfl) (vis_of (by rfl))) (se_fz (w_lc o [("other", 9)] (si_range1 (by rfl) g.z_range (sa_cons (se_var (i := 0) (by rfl) (vis_of (by rfl))) sa_nil)) (blkOk_by rfl) (by decide) (by decide) (fun H0 s H C cl fp o => (sg_name o.nd (by rfl) (loc_of (by rfl)))) (fun H0 s H C cl fp o => (sts_one (st_cmp o.hK (od_ne o.u64) (se_var (i := 9) (by rfl) (vis_of (by rfl))) (se_var (i := 2) (by rfl) (vis_of (by rfl))) (nomark _)))) (fun H0 s H C cl fp o => (se_tup (sa_cons (se_var (i := 2) (by rfl) (vis_of (by rfl))) (sa_cons (se_var (i := 9) (by rfl) (vis_of (by rfl))) sa_nil))))))))))
      (ss_cons (ss_par (i := 3) (j := 4) o.calm o.nd (by rfl) (by rfl) (by decide) (by rfl) (by rfl) (sa_cons (se_fz (sf_lst sa_nil)) (sa_cons (se_fz (sf_lst (sa_cons (se_tup sa_nil) sa_nil))) sa_nil)) (by rfl))
      (ss_cons (ss_for o.own o.calm (si_range1 (by rfl) g.z_range (sa_cons se_int sa_nil)) (sg_name o.nd (by rfl) (loc_of (by rfl))) (ss_cons (ss_set (i := 6) o.nd (by rfl) (loc_of (by rfl)) (se_fz (sf_lst sa_nil)))
      (ss_cons (ss_for o.own o.calm (si_seq (se_var (i := 4) (by rfl) (vis_of (by rfl))) o.hK) (sg_name o.nd (by rfl) (loc_of (by rfl))) (ss_cons (ss_set (i := 8) o.nd (by rfl) (loc_of (by rfl)) (se_op o.hK od_add (se_fz (w_lc o [("pair", 10)] (si_seq (se_var (i := 7) (by rfl) (vis_of (by rfl))) o.hK) (blkOk_by rfl) (by decide) (by decide) (fun H0 s H C cl fp o => (sg_name o.nd (by rfl) (loc_of (by rfl)))) (fun H0 s H C cl fp o => sts_nil) (fun H0 s H C cl fp o => (se_ix o.hK (se_var (i := 10) (by rfl) (vis_of (by rfl))) se_int)))) (se_fz (w_lc o [("pair", 10)] (si_seq (se_var (i := 7) (by rfl) (vis_of (by rfl))) o.hK) (blkOk_by rfl) (by decide) (by decide) (fun H0 s H C cl fp o => (sg_name o.nd (by rfl) (loc_of (by rfl)))) (fun H0 s H C cl fp o => sts_nil) (fun H0 s H C cl fp o => (se_ix o.hK (se_var (i := 10) (by rfl) (vis_of (by rfl))) se_int))))))
      (ss_one (ss_set (i := 6) o.nd (by rfl) (loc_of (by rfl)) (se_op o.hK od_add (se_var (i := 6) (by rfl) (vis_of (by rfl))) (se_fz (w_lc o [("pair", 10)] (si_seq (se_var (i := 1) (by rfl) (vis_of (by rfl))) o.hK) (blkOk_by rfl) (by decide) (by decide) (fun H0 s H C cl fp o => (sg_name o.nd (by rfl) (loc_of (by rfl)))) (fun H0 s H C cl fp o => (sts_one (st_w (sw_and (st_cmp o.hK (od_notIn o.u65) (se_ix o.hK (se_var (i := 10) (by rfl) (vis_of (by rfl))) se_int) (se_var (i := 8) (by rfl) (vis_of (by rfl))) (by rfl)) (sw_and (st_cmp o.hK (od_notIn o.u65) (se_ix o.hK (se_var (i := 10) (by rfl) (vis_of (by rfl))) se_int) (se_var (i := 8) (by rfl) (vis_of (by rfl))) (by rfl)) (sw_one (st_w (sw_or (st_cmp o.hK (od_eq o.u64) (se_var (i := 7) (by rfl) (vis_of (by rfl))) (se_tup sa_nil) (nomark _)) (sw_oneO (st_cmp o.hK (od_ltA o.u0) (se_ix o.hK (se_var (i := 7) (by rfl) (vis_of (by rfl))) (se_un o.hK ud_neg se_int)) (se_var (i := 10) (by rfl) (vis_of (by rfl))) (nomark _))))))))))) (fun H0 s H C cl fp o => (se_op o.hK od_add (se_var (i := 7) (by rfl) (vis_of (by rfl))) (se_tup (sa_cons (se_var (i := 10) (by rfl) (vis_of (by rfl))) sa_nil)))))))))))
      (ss_cons (ss_set (i := 3) o.nd (by rfl) (loc_of (by rfl)) (se_op o.hK od_add (se_var (i := 3) (by rfl) (vis_of (by rfl))) (se_var (i := 6) (by rfl) (vis_of (by rfl)))))
      (ss_one (ss_set (i := 4) o.nd (by rfl) (loc_of (by rfl)) (se_var (i := 6) (by rfl) (vis_of (by rfl)))))))))
      (ss_one (ss_ret (se_var (i := 3) (by rfl) (vis_of (by rfl)))))))))) 1 11
theorem d__law_greatest (g : G0 mg)  (FN : FunP K "_law_greatest" "_law_greatest" s__law_greatest f fd (fun _ => True)) (hmg : mg "_law_greatest" = some (.ref f)) : FnD P w K mg base tabs cls 1 "_law_greatest" F__law_greatest :=
  fnD_b (k := 0) (B := b__law_greatest) FN hmg (FN.binds fun _ _ _ _ _ _ us hl => match us, hl with | [_, _], _ => rfl) sc__law_greatest (fun cdv hcd A outer s H H0 E W tp o =>
    (ss_cons (ss_for o.own o.calm (si_range1 (by rfl) g.z_range (sa_cons se_int sa_nil)) (sg_name o.nd (by rfl) (loc_of (by rfl))) (ss_cons (ss_if (st_cmp o.hK (od_eq o.u64) (se_var (i := 1) (by rfl) (vis_of (by rfl))) se_int (nomark _)) (ss_one ss_break) ss_nil)
      (ss_cons (ss_set (i := 3) o.nd (by rfl) (loc_of (by rfl)) (se_op o.hK od_mod (se_var (i := 0) (by rfl) (vis_of (by rfl))) (se_var (i := 1) (by rfl) (vis_of (by rfl)))))
      (ss_cons (ss_set (i := 0) o.nd (by rfl) (loc_of (by rfl)) (se_var (i := 1) (by rfl) (vis_of (by rfl))))
      (ss_one (ss_set (i := 1) o.nd (by rfl) (loc_of (by rfl)) (se_var (i := 3) (by rfl) (vis_of (by rfl)))))))))
      (ss_one (ss_ret (se_var (i := 0) (by rfl) (vis_of (by rfl))))))) 2 4
theorem d__law_lowest (g : G0 mg) (h__law_greatest : FnD P w K mg base tabs cls 1 "_law_greatest" F__law_greatest) (FN : FunP K "_law_lowest" "_law_lowest" s__law_lowest f fd (fun _ => True)) (hmg : mg "_law_lowest" = some (.ref f)) : FnD P w K mg base tabs cls 2 "_law_lowest" F__law_lowest :=
  fnD_b (k := 1) (B := b__law_lowest) FN hmg (FN.binds fun _ _ _ _ _ _ us hl => match us, hl with | [_, _], _ => rfl) sc__law_lowest (fun cdv hcd A outer s H H0 E W tp o =>
    (ss_cons (ss_set (i := 2) o.nd (by rfl) (loc_of (by rfl)) (se_call o h__law_greatest (by decide) (by rfl) (sa_cons (se_callB o.hK cd_abs (by rfl) g.z_abs bt_abs (sa_cons (se_var (i := 0) (by rfl) (vis_of (by rfl))) sa_nil)) (sa_cons (se_callB o.hK cd_abs (by rfl) g.z_abs bt_abs (sa_cons (se_var (i := 1) (by rfl) (vis_of (by rfl))) sa_nil)) sa_nil))))
      (ss_cons (ss_set (i := 2) o.nd (by rfl) (loc_of (by rfl)) (se_if (st_cmp o.hK (od_ltA o.u0) (se_var (i := 1) (by rfl) (vis_of (by rfl))) se_int (nomark _)) (se_un o.hK ud_neg (se_var (i := 2) (by rfl) (vis_of (by rfl)))) (se_var (i := 2) (by rfl) (vis_of (by rfl)))))
      (ss_one (ss_ret (se_tup (sa_cons (se_op o.hK od_div (se_var (i := 0) (by rfl) (vis_of (by rfl))) (se_var (i := 2) (by rfl) (vis_of (by rfl)))) (sa_cons (se_op o.hK od_div (se_var (i := 1) (by rfl) (vis_of (by rfl))) (se_var (i := 2) (by rfl) (vis_of (by rfl)))) sa_nil)))))))) 2 3
theorem d__law_ratio (g : G0 mg) (h__law_lowest : FnD P w K mg base tabs cls 2 "_law_lowest" F__law_lowest) (FN : FunP K "_law_ratio" "_law_ratio" s__law_ratio f fd (fun _ => True)) (hmg : mg "_law_ratio" = some (.ref f)) : FnD P w K mg base tabs cls 3 "_law_ratio" F__law_ratio :=
  fnD_b (k := 2) (B := b__law_ratio) FN hmg (FN.binds fun _ _ _ _ _ _ us hl => match us, hl with | [_, _], _ => rfl) sc__law_ratio (fun cdv hcd A outer s H H0 E W tp o =>
    (ss_cons (w_asg (se_tup (sa_cons se_int (sa_cons se_int sa_nil))) (sg_tup o.hK o.calm (sgs_cons (sg_name o.nd (by rfl) (loc_of (by rfl))) (sgs_cons (sg_name o.nd (by rfl) (loc_of (by rfl))) sgs_nil))) (by rfl) (by rfl) (by rfl))
      (ss_cons (ss_for o.own o.calm (si_seq (se_var (i := 1) (by rfl) (vis_of (by rfl))) o.hK) (sg_name o.nd (by rfl) (loc_of (by rfl))) (ss_cons (ss_aug (i := 2) o.hK o.nd (by rfl) (loc_of (by rfl)) (se_ix o.hK (se_var (i := 0) (by rfl) (vis_of (by rfl))) (se_ix o.hK (se_var (i := 4) (by rfl) (vis_of (by rfl))) se_int)) id_mul)
      (ss_one (ss_aug (i := 3) o.hK o.nd (by rfl) (loc_of (by rfl)) (se_ix o.hK (se_var (i := 0) (by rfl) (vis_of (by rfl))) (se_ix o.hK (se_var (i := 4) (by rfl) (vis_of (by rfl))) se_int)) id_mul))))
      (ss_one (ss_ret (se_call o h__law_lowest (by decide) (by rfl) (sa_cons (se_var (i := 2) (by rfl) (vis_of (by rfl))) (sa_cons (se_var (i := 3) (by rfl) (vis_of (by rfl))) sa_nil)))))))) 2 5
theorem d__law_mixed (g : G0 mg)  (FN : FunP K "_law_mixed" "_law_mixed" s__law_mixed f fd (fun _ => True)) (hmg : mg "_law_mixed" = some (.ref f)) : FnD P w K mg base tabs cls 1 "_law_mixed" F__law_mixed :=
  fnD_b (k := 0) (B := b__law_mixed) FN hmg (FN.binds fun _ _ _ _ _ _ us hl => match us, hl with | [_, _], _ => rfl) sc__law_mixed (fun cdv hcd A outer s H H0 E W tp o =>
    (ss_cons (ss_set (i := 2) o.nd (by rfl) (loc_of (by rfl)) (se_op o.hK od_mod (se_op o.hK od_add (se_op o.hK od_add (se_op o.hK od_mul (se_op o.hK od_mod (se_var (i := 0) (by rfl) (vis_of (by rfl))) (se_op o.hK od_sub (se_op o.hK od_pow se_int se_int) se_int)) se_int) (se_op o.hK od_mul (se_var (i := 1) (by rfl) (vis_of (by rfl))) se_int)) se_int) (se_op o.hK od_pow se_int se_int)))
      (ss_cons (ss_set (i := 2) o.nd (by rfl) (loc_of (by rfl)) (se_op o.hK od_mod (se_op o.hK od_mul (se_op o.hK od_xor (se_var (i := 2) (by rfl) (vis_of (by rfl))) (se_op o.hK od_shr (se_var (i := 2) (by rfl) (vis_of (by rfl))) se_int)) se_int) (se_op o.hK od_pow se_int se_int)))
      (ss_one (ss_ret (se_op o.hK od_mod (se_op o.hK od_mul (se_op o.hK od_xor (se_var (i := 2) (by rfl) (vis_of (by rfl))) (se_op o.hK od_shr (se_var (i := 2) (by rfl) (vis_of (by rfl))) se_int)) se_int) (se_op o.hK od_pow se_int se_int))))))) 2 3
theorem d__law_draw (g : G0 mg) (h__law_mixed : FnD P w K mg base tabs cls 1 "_law_mixed" F__law_mixed) (FN : FunP K "_law_draw" "_law_draw" s__law_draw f fd (fun _ => True)) (hmg : mg "_law_draw" = some (.ref f)) : FnT P w K mg base tabs 2 "_law_draw" F__law_draw :=
  fnT_b (cls := cls) (k := 1) (B := b__law_draw) FN hmg (FN.binds fun _ _ _ _ _ _ us hl => match us, hl with | [_, _], _ => rfl) sc__law_draw (fun cdv hcd A outer s H H0 E W tp o =>
    (ss_cons (ss_unp (i := 0) o.hK o.calm (by rfl) (vis_of (by rfl)) (sgs_cons (sg_name o.nd (by rfl) (loc_of (by rfl))) (sgs_cons (sg_name o.nd (by rfl) (loc_of (by rfl))) (sgs_cons (sg_name o.nd (by rfl) (loc_of (by rfl))) sgs_nil))))
      (ss_cons (ss_if (st_cmp o.hK (od_ltA o.u0) (se_var (i := 3) (by rfl) (vis_of (by rfl))) (se_var (i := 1) (by rfl) (vis_of (by rfl))) (nomark _)) (ss_cons (ss_set (i := 5) o.nd (by rfl) (loc_of (by rfl)) (se_ix o.hK (se_var (i := 4) (by rfl) (vis_of (by rfl))) (se_op o.hK od_mod (se_var (i := 2) (by rfl) (vis_of (by rfl))) (se_callB o.hK cd_len (by rfl) g.z_len bt_len (sa_cons (se_var (i := 4) (by rfl) (vis_of (by rfl))) sa_nil)))))
      (ss_cons (ss_set (i := 3) o.nd (by rfl) (loc_of (by rfl)) (se_if (st_w (sw_and (st_cmp o.hK (od_ltA o.u0) (se_var (i := 2) (by rfl) (vis_of (by rfl))) (se_callB o.hK cd_len (by rfl) g.z_len bt_len (sa_cons (se_var (i := 4) (by rfl) (vis_of (by rfl))) sa_nil)) (nomark _)) (sw_one (st_cmp o.hK od_geI (se_var (i := 5) (by rfl) (vis_of (by rfl))) (se_op o.hK od_pow se_int se_int) (nomark _))))) (se_var (i := 5) (by rfl) (vis_of (by rfl))) (se_call o h__law_mixed (by decide) (by rfl) (sa_cons (se_var (i := 5) (by rfl) (vis_of (by rfl))) (sa_cons (se_var (i := 2) (by rfl) (vis_of (by rfl))) sa_nil)))))
      (ss_one (ss_set (i := 2) o.nd (by rfl) (loc_of (by rfl)) (se_op o.hK od_add (se_var (i := 2) (by rfl) (vis_of (by rfl))) se_int))))) ss_nil)
      (ss_cons (ss_store (i := 0) (by rfl) (vis_of (by rfl)) (se_var (i := 2) (by rfl) (vis_of (by rfl))) se_int)
      (ss_cons (ss_store (i := 0) (by rfl) (vis_of (by rfl)) (se_op o.hK od_div (se_var (i := 3) (by rfl) (vis_of (by rfl))) (se_var (i := 1) (by rfl) (vis_of (by rfl)))) se_int)
      (ss_one (ss_ret (se_op o.hK od_mod (se_var (i := 3) (by rfl) (vis_of (by rfl))) (se_var (i := 1) (by rfl) (vis_of (by rfl))))))))))) 1 6
theorem d_lowest (g : G0 mg)  (FN : FunP K "lowest" "lowest" s_lowest f fd (fun _ => True)) (hmg : mg "lowest" = some (.ref f)) : FnD P w K mg base tabs cls 1 "lowest" F_lowest :=
  fnD_b (k := 0) (B := b_lowest) FN hmg (FN.binds fun _ _ _ _ _ _ us hl => match us, hl with | [_, _], _ => rfl) sc_lowest (fun cdv hcd A outer s H H0 E W tp o =>
    (ss_cons (ss_set (i := 2) o.nd (by rfl) (loc_of (by rfl)) (se_callM o.hK cd_gcd (by rfl) g.m_gcd (sa_cons (se_var (i := 0) (by rfl) (vis_of (by rfl))) (sa_cons (se_var (i := 1) (by rfl) (vis_of (by rfl))) sa_nil))))
      (ss_cons (ss_if (st_cmp o.hK (od_ltA o.u0) (se_var (i := 1) (by rfl) (vis_of (by rfl))) se_int (nomark _)) (ss_one (ss_set (i := 2) o.nd (by rfl) (loc_of (by rfl)) (se_un o.hK ud_neg (se_var (i := 2) (by rfl) (vis_of (by rfl)))))) ss_nil)
      (ss_one (ss_ret (se_tup (sa_cons (se_op o.hK od_div (se_var (i := 0) (by rfl) (vis_of (by rfl))) (se_var (i := 2) (by rfl) (vis_of (by rfl)))) (sa_cons (se_op o.hK od_div (se_var (i := 1) (by rfl) (vis_of (by rfl))) (se_var (i := 2) (by rfl) (vis_of (by rfl)))) sa_nil)))))))) 2 3
theorem d_ratio_of (g : G0 mg) (h_lowest : FnD P w K mg base tabs cls 1 "lowest" F_lowest) (FN : FunP K "ratio_of" "ratio_of" s_ratio_of f fd (fun _ => True)) (hmg : mg "ratio_of" = some (.ref f)) : FnD P w K mg base tabs cls 2 "ratio_of" F_ratio_of :=
  fnD_b (k := 1) (B := b_ratio_of) FN hmg (FN.binds fun _ _ _ _ _ _ us hl => match us, hl with | [_, _], _ => rfl) sc_ratio_of (fun cdv hcd A outer s H H0 E W tp o =>
    (ss_cons (w_asg (se_tup (sa_cons se_int (sa_cons se_int sa_nil))) (sg_tup o.hK o.calm (sgs_cons (sg_name o.nd (by rfl) (loc_of (by rfl))) (sgs_cons (sg_name o.nd (by rfl) (loc_of (by rfl))) sgs_nil))) (by rfl) (by rfl) (by rfl))
      (ss_cons (ss_for o.own o.calm (si_seq (se_var (i := 1) (by rfl) (vis_of (by rfl))) o.hK) (sg_tup o.hK o.calm (sgs_cons (sg_name o.nd (by rfl) (loc_of (by rfl))) (sgs_cons (sg_name o.nd (by rfl) (loc_of (by rfl))) sgs_nil))) (ss_cons (ss_set (i := 2) o.nd (by rfl) (loc_of (by rfl)) (se_op o.hK od_mul (se_var (i := 2) (by rfl) (vis_of (by rfl))) (se_ix o.hK (se_var (i := 0) (by rfl) (vis_of (by rfl))) (se_var (i := 4) (by rfl) (vis_of (by rfl))))))
      (ss_one (ss_set (i := 3) o.nd (by rfl) (loc_of (by rfl)) (se_op o.hK od_mul (se_var (i := 3) (by rfl) (vis_of (by rfl))) (se_ix o.hK (se_var (i := 0) (by rfl) (vis_of (by rfl))) (se_var (i := 5) (by rfl) (vis_of (by rfl)))))))))
      (ss_one (ss_ret (se_call o h_lowest (by decide) (by rfl) (sa_cons (se_var (i := 2) (by rfl) (vis_of (by rfl))) (sa_cons (se_var (i := 3) (by rfl) (vis_of (by rfl))) sa_nil)))))))) 2 6
theorem d_flash_period (g : G0 mg) (h_lowest : FnD P w K mg base tabs cls 1 "lowest" F_lowest) (h_ratio_of : FnD P w K mg base tabs cls 2 "ratio_of" F_ratio_of) (FN : FunP K "flash_period" "flash_period" s_flash_period f fd (fun _ => True)) (hmg : mg "flash_period" = some (.ref f)) : FnD P w K mg base tabs cls 3 "flash_period" F_flash_period :=
  fnD_b (k := 2) (B := b_flash_period) FN hmg (FN.binds fun _ _ _ _ _ _ us hl => match us, hl with | [_, _, _, _], _ => rfl) sc_flash_period (fun cdv hcd A outer s H H0 E W tp o =>
    (ss_cons (w_asg (se_call o h_ratio_of (by decide) (by rfl) (sa_cons (se_var (i := 0) (by rfl) (vis_of (by rfl))) (sa_cons (se_var (i := 1) (by rfl) (vis_of (by rfl))) sa_nil))) (sg_tup o.hK o.calm (sgs_cons (sg_name o.nd (by rfl) (loc_of (by rfl))) (sgs_cons (sg_name o.nd (by rfl) (loc_of (by rfl))) sgs_nil))) (by rfl) (by rfl) (by rfl))
      (ss_one (ss_ret (se_call o h_lowest (by decide) (by rfl) (sa_cons (se_op o.hK od_mul (se_var (i := 2) (by rfl) (vis_of (by rfl))) (se_var (i := 5) (by rfl) (vis_of (by rfl)))) (sa_cons (se_op o.hK od_mul (se_var (i := 3) (by rfl) (vis_of (by rfl))) (se_var (i := 4) (by rfl) (vis_of (by rfl)))) sa_nil))))))) 4 6
theorem d_turned_round (g : G0 mg)  (FN : FunP K "turned_round" "turned_round" s_turned_round f fd (fun _ => True)) (hmg : mg "turned_round" = some (.ref f)) : FnD P w K mg base tabs cls 1 "turned_round" F_turned_round :=
  fnD_b (k := 0) (B := b_turned_round) FN hmg (FN.binds fun _ _ _ _ _ _ us hl => match us, hl with | [_], _ => rfl) sc_turned_round (fun cdv hcd A outer s H H0 E W tp o =>
    (ss_one (ss_ret (se_callTy o.hK cd_tuple (by rfl) g.z_tuple bt_tuple (sa_cons (se_callB o.hK (cd_sorted o.u64) (by rfl) g.z_sorted bt_sorted (sa_cons (se_fz (w_lc o [("driver", 1), ("driven", 2)] (si_seq (se_var (i := 0) (by rfl) (vis_of (by rfl))) o.hK) (blkOk_by rfl) (by decide) (by decide) (fun H0 s H C cl fp o => (sg_tup o.hK o.calm (sgs_cons (sg_name o.nd (by rfl) (loc_of (by rfl))) (sgs_cons (sg_name o.nd (by rfl) (loc_of (by rfl))) sgs_nil)))) (fun H0 s H C cl fp o => sts_nil) (fun H0 s H C cl fp o => (se_tup (sa_cons (se_var (i := 2) (by rfl) (vis_of (by rfl))) (sa_cons (se_var (i := 1) (by rfl) (vis_of (by rfl))) sa_nil)))))) sa_nil)) sa_nil))))) 1 3
theorem d_is_number (g : G0 mg)  (FN : FunP K "is_number" "is_number" s_is_number f fd (fun _ => True)) (hmg : mg "is_number" = some (.ref f)) : FnD P w K mg base tabs cls 1 "is_number" F_is_number :=
  fnD_b (k := 0) (B := b_is_number) FN hmg (FN.binds fun _ _ _ _ _ _ us hl => match us, hl with | [_, _, _], _ => rfl) sc_is_number (fun cdv hcd A outer s H H0 E W tp o =>
    (ss_one (ss_ret (se_and (se_isi .int o.hK (by rfl) g.z_isinstance (by rfl) g.z_int bt_int (se_var (i := 0) (by rfl) (vis_of (by rfl))) bt_isinstance) (se_and (se_not (se_isi .bool o.hK (by rfl) g.z_isinstance (by rfl) g.z_bool bt_bool (se_var (i := 0) (by rfl) (vis_of (by rfl))) bt_isinstance)) (se_one (se_chain o.hK od_leI od_leI (se_var (i := 1) (by rfl) (vis_of (by rfl))) (se_var (i := 0) (by rfl) (vis_of (by rfl))) (se_var (i := 2) (by rfl) (vis_of (by rfl)))))))))) 3 3
theorem d_is_stock (g : G0 mg) (h_is_number : FnD P w K mg base tabs cls 1 "is_number" F_is_number) (tb : GxR.TabB base mg c tp) (hP : tp ∈ tabs) (FN : FunP K "is_stock" "is_stock" s_is_stock f fd (fun v => v = .ref c)) (hmg : mg "is_stock" = some (.ref f)) : FnD P w K mg base tabs cls 3 "is_stock" F_is_stock :=
  fnD_b (k := 2) (B := b_is_stock) FN hmg (FN.binds fun _ _ _ _ _ _ us hl => match us, hl with | [_], _ => rfl) sc_is_stock (fun cdv hcd A outer s H H0 E W tp o =>
    (ss_cons (ss_if (st_w (sw_or (st_not (st_e (se_isi .tuple o.hK (by rfl) g.z_isinstance (by rfl) g.z_tuple bt_tuple (se_var (i := 0) (by rfl) (vis_of (by rfl))) bt_isinstance))) (sw_oneO (st_not (st_chain o.hK od_leI od_leI se_int (se_callB o.hK cd_len (by rfl) g.z_len bt_len (sa_cons (se_var (i := 0) (by rfl) (vis_of (by rfl))) sa_nil)) (se_gint (by rfl) g.c_MOST_WHEELS)))))) (ss_one (ss_ret se_bl)) ss_nil)
      (ss_one (ss_ret (w_all o [("one", 1)] (by rfl) g.z_all tb hP hcd (si_seq (se_var (i := 0) (by rfl) (vis_of (by rfl))) o.hK) (genOk_by rfl) (blkOk_by rfl) (by decide) (by decide) (fun s H C cl cd bi fp A o => (sg_name o.nd (by rfl) (loc_of (by rfl)))) (fun s H C cl cd bi fp A o => (se_call o h_is_number (by decide) (by rfl) (sa_cons (se_var (i := 1) (by rfl) (vis_of (by rfl))) (sa_cons (se_gint (by rfl) g.c_LEAST_TEETH) (sa_cons (se_gint (by rfl) g.c_MOST_TEETH) sa_nil))))) bt_all))))) 1 2
theorem d__law_less (g : G0 mg)  (FN : FunP K "_law_less" "_law_less" s__law_less f fd (fun _ => True)) (hmg : mg "_law_less" = some (.ref f)) : FnD P w K mg base tabs cls 1 "_law_less" F__law_less :=
  fnD_b (k := 0) (B := b__law_less) FN hmg (FN.binds fun _ _ _ _ _ _ us hl => match us, hl with | [_, _], _ => rfl) sc__law_less (fun cdv hcd A outer s H H0 E W tp o =>
    (ss_one (ss_ret (se_cmp o.hK (od_ltA o.u0) (se_op o.hK od_mul (se_ix o.hK (se_var (i := 0) (by rfl) (vis_of (by rfl))) se_int) (se_ix o.hK (se_var (i := 1) (by rfl) (vis_of (by rfl))) se_int)) (se_op o.hK od_mul (se_ix o.hK (se_var (i := 1) (by rfl) (vis_of (by rfl))) se_int) (se_ix o.hK (se_var (i := 0) (by rfl) (vis_of (by rfl))) se_int)) (nomark _))))) 2 2
theorem d_all_trains (g : G0 mg)  (FN : FunP K "all_trains" "all_trains" s_all_trains f fd (fun _ => True)) (hmg : mg "all_trains" = some (.ref f)) : FnD P w K mg base tabs cls 1 "all_trains" F_all_trains :=
  fnD_b (k := 0) (B := b_all_trains) FN hmg (FN.binds fun _ _ _ _ _ _ us hl => match us, hl with | [_], _ => rfl) sc_all_trains (fun cdv hcd A outer s H H0 E W tp o =>
    (ss_cons (ss_set (i := 1) o.nd (by rfl) (loc_of (by rfl)) (se_callB o.hK cd_len (by rfl) g.z_len bt_len (sa_cons (se_var (i := 0) (by rfl) (vis_of (by rfl))) sa_nil)))
      (ss_cons (ss_lockV (ss_setLc2 (i := 2) o.calm o.nd (by rfl) (by rfl) (sw_true (by rfl) (by rfl) (by rfl) (by rfl)) (w_l2 o [("one", 10), ("other", 11)] [11] (si_range1 (by rfl) g.z_range (sa_cons (se_var (i := 1) (by rfl) (vis_of (by rfl))) sa_nil)) (blkOk_by rfl) (by decide) (by decide) (by decide) (by decide) (fun H0 s H C cl fp o => (sg_name o.nd (by rfl) (loc_of (by rfl)))) (fun H0 s H C cl fp o => sts_nil) (fun H0 s H C cl fp o => (si_range1 (by rfl) g.z_range (sa_cons (se_var (i := 1) (by rfl) (vis_of (by rfl))) sa_nil))) (fun H0 s H C cl fp o => (sg_name o.nd (by rfl) (loc_of (by rfl)))) (fun H0 s H C cl fp o => (sts_one (st_cmp o.hK (od_ne o.u64) (se_var (i := 10) (by rfl) (vis_of (by rfl))) (se_var (i := 11) (by rfl) (vis_of (by rfl))) (nomark _)))) (fun H0 s H C cl fp o => (se_tup (sa_cons (se_var (i := 10) (by rfl) (vis_of (by rfl))) (sa_cons (se_var (i := 11) (by rfl) (vis_of (by rfl))) sa_nil)))))))
      (ss_cons (ss_set (i := 3) o.nd (by rfl) (loc_of (by rfl)) (se_fz (sf_lst sa_nil)))
      (ss_cons (ss_set (i := 4) o.nd (by rfl) (loc_of (by rfl)) (se_fz (sf_lst (sa_cons (se_tup sa_nil) sa_nil))))
      (ss_cons (ss_for o.own o.calm (si_range1 (by rfl) g.z_range (sa_cons (se_gint (by rfl) g.c_MOST_PAIRS) sa_nil)) (sg_name o.nd (by rfl) (loc_of (by rfl))) (ss_cons (ss_setF (i := 6) o.nd (by rfl) (loc_of (by rfl)) (sf_lst sa_nil))
      (ss_cons (ss_for o.own o.calm (si_seq (se_var (i := 4) (by rfl) (vis_of (by rfl))) o.hK) (sg_name o.nd (by rfl) (loc_of (by rfl))) (ss_cons (ss_lockV (ss_setLc2 (i := 8) o.calm o.nd (by rfl) (by rfl) (sw_true (by rfl) (by rfl) (by rfl) (by rfl)) (w_l2 o [("pair", 9), ("wheel", 12)] [12] (si_seq (se_var (i := 7) (by rfl) (vis_of (by rfl))) o.hK) (blkOk_by rfl) (by decide) (by decide) (by decide) (by decide) (fun H0 s H C cl fp o => (sg_name o.nd (by rfl) (loc_of (by rfl)))) (fun H0 s H C cl fp o => sts_nil) (fun H0 s H C cl fp o => (si_seq (se_var (i := 9) (by rfl) (vis_of (by rfl))) o.hK)) (fun H0 s H C cl fp o => (sg_name o.nd (by rfl) (loc_of (by rfl)))) (fun H0 s H C cl fp o => sts_nil) (fun H0 s H C cl fp o => (se_var (i := 12) (by rfl) (vis_of (by rfl)))))))
      (ss_one (ss_for o.own o.calm (si_seq (se_var (i := 2) (by rfl) (vis_of (by rfl))) o.hK) (sg_name o.nd (by rfl) (loc_of (by rfl))) (ss_one (ss_if (st_w (sw_and (st_cmp o.hK (od_notIn o.u65) (se_ix o.hK (se_var (i := 9) (by rfl) (vis_of (by rfl))) se_int) (se_var (i := 8) (by rfl) (vis_of (by rfl))) (by rfl)) (sw_and (st_cmp o.hK (od_notIn o.u65) (se_ix o.hK (se_var (i := 9) (by rfl) (vis_of (by rfl))) se_int) (se_var (i := 8) (by rfl) (vis_of (by rfl))) (by rfl)) (sw_one (st_w (sw_or (st_cmp o.hK (od_eq o.u64) (se_var (i := 7) (by rfl) (vis_of (by rfl))) (se_tup sa_nil) (nomark _)) (sw_oneO (st_cmp o.hK (od_ltA o.u0) (se_ix o.hK (se_var (i := 7) (by rfl) (vis_of (by rfl))) (se_un o.hK ud_neg se_int)) (se_var (i := 9) (by rfl) (vis_of (by rfl))) (nomark _))))))))) (ss_one (ss_append (i := 6) (by rfl) (vis_of (by rfl)) (se_op o.hK od_add (se_var (i := 7) (by rfl) (vis_of (by rfl))) (se_tup (sa_cons (se_var (i := 9) (by rfl) (vis_of (by rfl))) sa_nil))))) ss_nil))))))
      (ss_cons (ss_set (i := 3) o.nd (by rfl) (loc_of (by rfl)) (se_op o.hK od_add (se_var (i := 3) (by rfl) (vis_of (by rfl))) (se_var (i := 6) (by rfl) (vis_of (by rfl)))))
      (ss_one (ss_set (i := 4) o.nd (by rfl) (loc_of (by rfl)) (se_var (i := 6) (by rfl) (vis_of (by rfl)))))))))
      (ss_one (ss_ret (se_var (i := 3) (by rfl) (vis_of (by rfl))))))))))) 1 13
theorem d_train_for (g : G0 mg) (h_all_trains : FnD P w K mg base tabs cls 1 "all_trains" F_all_trains) (h_ratio_of : FnD P w K mg base tabs cls 2 "ratio_of" F_ratio_of) (FN : FunP K "train_for" "train_for" s_train_for f fd (fun _ => True)) (hmg : mg "train_for" = some (.ref f)) : FnD P w K mg base tabs cls 3 "train_for" F_train_for :=
  fnD_b (k := 2) (B := b_train_for) FN hmg (FN.binds fun _ _ _ _ _ _ us hl => match us, hl with | [_, _], _ => rfl) sc_train_for (fun cdv hcd A outer s H H0 E W tp o =>
    (ss_cons (ss_for o.own o.calm (si_seq (se_call o h_all_trains (by decide) (by rfl) (sa_cons (se_var (i := 0) (by rfl) (vis_of (by rfl))) sa_nil)) o.hK) (sg_name o.nd (by rfl) (loc_of (by rfl))) (ss_one (ss_if (st_cmp o.hK (od_eq o.u64) (se_call o h_ratio_of (by decide) (by rfl) (sa_cons (se_var (i := 0) (by rfl) (vis_of (by rfl))) (sa_cons (se_var (i := 2) (by rfl) (vis_of (by rfl))) sa_nil))) (se_var (i := 1) (by rfl) (vis_of (by rfl))) (nomark _)) (ss_one (ss_ret (se_var (i := 2) (by rfl) (vis_of (by rfl))))) ss_nil)))
      (ss_one (ss_ret se_non)))) 2 3
theorem d__law_same (g : G0 mg)  (FN : FunP K "_law_same" "_law_same" s__law_same f fd (fun _ => True)) (hmg : mg "_law_same" = some (.ref f)) : FnD P w K mg base tabs cls 1 "_law_same" F__law_same :=
  fnD_b (k := 0) (B := b__law_same) FN hmg (FN.binds fun _ _ _ _ _ _ us hl => match us, hl with | [_, _], _ => rfl) sc__law_same (fun cdv hcd A outer s H H0 E W tp o =>
    (ss_one (ss_ret (se_if (st_e (se_var (i := 1) (by rfl) (vis_of (by rfl)))) (se_cmp o.hK od_is (se_var (i := 0) (by rfl) (vis_of (by rfl))) se_bl (nomark _)) (se_cmp o.hK od_is (se_var (i := 0) (by rfl) (vis_of (by rfl))) se_bl (nomark _)))))) 2 2
theorem d__law_far (g : G0 mg)  (FN : FunP K "_law_far" "_law_far" s__law_far f fd (fun _ => True)) (hmg : mg "_law_far" = some (.ref f)) : FnD P w K mg base tabs cls 1 "_law_far" F__law_far :=
  fnD_b (k := 0) (B := b__law_far) FN hmg (FN.binds fun _ _ _ _ _ _ us hl => match us, hl with | [_, _], _ => rfl) sc__law_far (fun cdv hcd A outer s H H0 E W tp o =>
    (ss_cons (ss_set (i := 2) o.nd (by rfl) (loc_of (by rfl)) (se_op o.hK od_sub (se_op o.hK od_mul (se_ix o.hK (se_var (i := 0) (by rfl) (vis_of (by rfl))) se_int) (se_ix o.hK (se_var (i := 1) (by rfl) (vis_of (by rfl))) se_int)) (se_op o.hK od_mul (se_ix o.hK (se_var (i := 1) (by rfl) (vis_of (by rfl))) se_int) (se_ix o.hK (se_var (i := 0) (by rfl) (vis_of (by rfl))) se_int))))
      (ss_one (ss_ret (se_tup (sa_cons (se_if (st_cmp o.hK od_gtI (se_var (i := 2) (by rfl) (vis_of (by rfl))) se_int (nomark _)) (se_var (i := 2) (by rfl) (vis_of (by rfl))) (se_un o.hK ud_neg (se_var (i := 2) (by rfl) (vis_of (by rfl))))) (sa_cons (se_op o.hK od_mul (se_ix o.hK (se_var (i := 0) (by rfl) (vis_of (by rfl))) se_int) (se_ix o.hK (se_var (i := 1) (by rfl) (vis_of (by rfl))) se_int)) sa_nil))))))) 2 3
theorem d_less (g : G0 mg)  (FN : FunP K "less" "less" s_less f fd (fun _ => True)) (hmg : mg "less" = some (.ref f)) : FnD P w K mg base tabs cls 1 "less" F_less :=
  fnD_b (k := 0) (B := b_less) FN hmg (FN.binds fun _ _ _ _ _ _ us hl => match us, hl with | [_, _], _ => rfl) sc_less (fun cdv hcd A outer s H H0 E W tp o =>
    (ss_one (ss_ret (se_cmp o.hK (od_ltA o.u0) (se_op o.hK od_mul (se_ix o.hK (se_var (i := 0) (by rfl) (vis_of (by rfl))) se_int) (se_ix o.hK (se_var (i := 1) (by rfl) (vis_of (by rfl))) se_int)) (se_op o.hK od_mul (se_ix o.hK (se_var (i := 1) (by rfl) (vis_of (by rfl))) se_int) (se_ix o.hK (se_var (i := 0) (by rfl) (vis_of (by rfl))) se_int)) (nomark _))))) 2 2
theorem d_minus (g : G0 mg) (h_lowest : FnD P w K mg base tabs cls 1 "lowest" F_lowest) (FN : FunP K "minus" "minus" s_minus f fd (fun _ => True)) (hmg : mg "minus" = some (.ref f)) : FnD P w K mg base tabs cls 2 "minus" F_minus :=
  fnD_b (k := 1) (B := b_minus) FN hmg (FN.binds fun _ _ _ _ _ _ us hl => match us, hl with | [_, _], _ => rfl) sc_minus (fun cdv hcd A outer s H H0 E W tp o =>
    (ss_one (ss_ret (se_call o h_lowest (by decide) (by rfl) (sa_cons (se_op o.hK od_sub (se_op o.hK od_mul (se_ix o.hK (se_var (i := 0) (by rfl) (vis_of (by rfl))) se_int) (se_ix o.hK (se_var (i := 1) (by rfl) (vis_of (by rfl))) se_int)) (se_op o.hK od_mul (se_ix o.hK (se_var (i := 1) (by rfl) (vis_of (by rfl))) se_int) (se_ix o.hK (se_var (i := 0) (by rfl) (vis_of (by rfl))) se_int))) (sa_cons (se_op o.hK od_mul (se_ix o.hK (se_var (i := 0) (by rfl) (vis_of (by rfl))) se_int) (se_ix o.hK (se_var (i := 1) (by rfl) (vis_of (by rfl))) se_int)) sa_nil)))))) 2 2
theorem d_off_by (g : G0 mg) (h_minus : FnD P w K mg base tabs cls 2 "minus" F_minus) (h_ratio_of : FnD P w K mg base tabs cls 2 "ratio_of" F_ratio_of) (FN : FunP K "off_by" "off_by" s_off_by f fd (fun _ => True)) (hmg : mg "off_by" = some (.ref f)) : FnD P w K mg base tabs cls 3 "off_by" F_off_by :=
  fnD_b (k := 2) (B := b_off_by) FN hmg (FN.binds fun _ _ _ _ _ _ us hl => match us, hl with | [_, _, _], _ => rfl) sc_off_by (fun cdv hcd A outer s H H0 E W tp o =>
    (ss_cons (ss_set (i := 3) o.nd (by rfl) (loc_of (by rfl)) (se_call o h_minus (by decide) (by rfl) (sa_cons (se_call o h_ratio_of (by decide) (by rfl) (sa_cons (se_var (i := 0) (by rfl) (vis_of (by rfl))) (sa_cons (se_var (i := 1) (by rfl) (vis_of (by rfl))) sa_nil))) (sa_cons (se_var (i := 2) (by rfl) (vis_of (by rfl))) sa_nil))))
      (ss_one (ss_ret (se_tup (sa_cons (se_callB o.hK cd_abs (by rfl) g.z_abs bt_abs (sa_cons (se_ix o.hK (se_var (i := 3) (by rfl) (vis_of (by rfl))) se_int) sa_nil)) (sa_cons (se_ix o.hK (se_var (i := 3) (by rfl) (vis_of (by rfl))) se_int) sa_nil))))))) 3 4
theorem d_nearest_train (g : G0 mg) (h_all_trains : FnD P w K mg base tabs cls 1 "all_trains" F_all_trains) (h_less : FnD P w K mg base tabs cls 1 "less" F_less) (h_off_by : FnD P w K mg base tabs cls 3 "off_by" F_off_by) (FN : FunP K "nearest_train" "nearest_train" s_nearest_train f fd (fun _ => True)) (hmg : mg "nearest_train" = some (.ref f)) : FnD P w K mg base tabs cls 4 "nearest_train" F_nearest_train :=
  fnD_b (k := 3) (B := b_nearest_train) FN hmg (FN.binds fun _ _ _ _ _ _ us hl => match us, hl with | [_, _], _ => rfl) sc_nearest_train (fun cdv hcd A outer s H H0 E W tp o =>
    (ss_cons (ss_set (i := 2) o.nd (by rfl) (loc_of (by rfl)) se_non)
      (ss_cons (ss_for o.own o.calm (si_seq (se_call o h_all_trains (by decide) (by rfl) (sa_cons (se_var (i := 0) (by rfl) (vis_of (by rfl))) sa_nil)) o.hK) (sg_name o.nd (by rfl) (loc_of (by rfl))) (ss_one (ss_if (st_w (sw_or (st_cmp o.hK od_is (se_var (i := 2) (by rfl) (vis_of (by rfl))) se_non (nomark _)) (sw_oneO (st_e (se_call o h_less (by decide) (by rfl) (sa_cons (se_call o h_off_by (by decide) (by rfl) (sa_cons (se_var (i := 0) (by rfl) (vis_of (by rfl))) (sa_cons (se_var (i := 3) (by rfl) (vis_of (by rfl))) (sa_cons (se_var (i := 1) (by rfl) (vis_of (by rfl))) sa_nil)))) (sa_cons (se_call o h_off_by (by decide) (by rfl) (sa_cons (se_var (i := 0) (by rfl) (vis_of (by rfl))) (sa_cons (se_var (i := 2) (by rfl) (vis_of (by rfl))) (sa_cons (se_var (i := 1) (by rfl) (vis_of (by rfl))) sa_nil)))) sa_nil))))))) (ss_one (ss_set (i := 2) o.nd (by rfl) (loc_of (by rfl)) (se_var (i := 3) (by rfl) (vis_of (by rfl))))) ss_nil)))
      (ss_one (ss_ret (se_var (i := 2) (by rfl) (vis_of (by rfl)))))))) 2 4
theorem d_is_train (g : G0 mg) (h_is_number : FnD P w K mg base tabs cls 1 "is_number" F_is_number) (tb : GxR.TabB base mg c tp) (hP : tp ∈ tabs) (FN : FunP K "is_train" "is_train" s_is_train f fd (fun v => v = .ref c)) (hmg : mg "is_train" = some (.ref f)) : FnD P w K mg base tabs cls 3 "is_train" F_is_train :=
  fnD_b (k := 2) (B := b_is_train) FN hmg (FN.binds fun _ _ _ _ _ _ us hl => match us, hl with | [_, _], _ => rfl) sc_is_train (fun cdv hcd A outer s H H0 E W tp o =>
    (ss_cons (ss_if (st_w (sw_or (st_not (st_e (se_isi .tuple o.hK (by rfl) g.z_isinstance (by rfl) g.z_tuple bt_tuple (se_var (i := 1) (by rfl) (vis_of (by rfl))) bt_isinstance))) (sw_oneO (st_not (st_chain o.hK od_leI od_leI se_int (se_callB o.hK cd_len (by rfl) g.z_len bt_len (sa_cons (se_var (i := 1) (by rfl) (vis_of (by rfl))) sa_nil)) (se_gint (by rfl) g.c_MOST_PAIRS)))))) (ss_one (ss_ret se_bl)) ss_nil)
      (ss_cons (ss_set (i := 2) o.nd (by rfl) (loc_of (by rfl)) (se_fz (sf_lst sa_nil)))
      (ss_cons (ss_for o.own o.calm (si_seq (se_var (i := 1) (by rfl) (vis_of (by rfl))) o.hK) (sg_name o.nd (by rfl) (loc_of (by rfl))) (ss_cons (ss_if (st_w (sw_or (st_not (st_e (se_isi .tuple o.hK (by rfl) g.z_isinstance (by rfl) g.z_tuple bt_tuple (se_var (i := 3) (by rfl) (vis_of (by rfl))) bt_isinstance))) (sw_oneO (st_cmp o.hK (od_ne o.u64) (se_callB o.hK cd_len (by rfl) g.z_len bt_len (sa_cons (se_var (i := 3) (by rfl) (vis_of (by rfl))) sa_nil)) se_int (nomark _))))) (ss_one (ss_ret se_bl)) ss_nil)
      (ss_cons (ss_if (st_not (st_e (w_all o [("one", 4)] (by rfl) g.z_all tb hP hcd (si_seq (se_var (i := 3) (by rfl) (vis_of (by rfl))) o.hK) (genOk_by rfl) (blkOk_by rfl) (by decide) (by decide) (fun s H C cl cd bi fp A o => (sg_name o.nd (by rfl) (loc_of (by rfl)))) (fun s H C cl cd bi fp A o => (se_call o h_is_number (by decide) (by rfl) (sa_cons (se_var (i := 4) (by rfl) (vis_of (by rfl))) (sa_cons se_int (sa_cons (se_op o.hK od_sub (se_callB o.hK cd_len (by rfl) g.z_len bt_len (sa_cons (se_var (i := 0) (by rfl) (vis_of (by rfl))) sa_nil)) se_int) sa_nil))))) bt_all))) (ss_one (ss_ret se_bl)) ss_nil)
      (ss_one (ss_set (i := 2) o.nd (by rfl) (loc_of (by rfl)) (se_op o.hK od_add (se_var (i := 2) (by rfl) (vis_of (by rfl))) (se_callTy o.hK cd_list (by rfl) g.z_list bt_list (sa_cons (se_var (i := 3) (by rfl) (vis_of (by rfl))) sa_nil))))))))
      (ss_cons (ss_if (st_e (w_any o [("wheel", 5)] (by rfl) g.z_any tb hP hcd (si_seq (se_var (i := 2) (by rfl) (vis_of (by rfl))) o.hK) (genOk_by rfl) (blkOk_by rfl) (by decide) (by decide) (fun s H C cl cd bi fp A o => (sg_name o.nd (by rfl) (loc_of (by rfl)))) (fun s H C cl cd bi fp A o => (se_cmp o.hK od_gtI (se_metL o.hK PySem.F.slot_list_count PySem.F.type_list_count (md_count o.u65) (se_var (i := 2) (by rfl) (vis_of (by rfl))) (sa_cons (se_var (i := 5) (by rfl) (vis_of (by rfl))) sa_nil)) se_int (nomark _))))) (ss_one (ss_ret se_bl)) ss_nil)
      (ss_one (ss_ret (w_all o [("k", 6)] (by rfl) g.z_all tb hP hcd (si_range1 (by rfl) g.z_range (sa_cons (se_op o.hK od_sub (se_callB o.hK cd_len (by rfl) g.z_len bt_len (sa_cons (se_var (i := 1) (by rfl) (vis_of (by rfl))) sa_nil)) se_int) sa_nil)) (genOk_by rfl) (blkOk_by rfl) (by decide) (by decide) (fun s H C cl cd bi fp A o => (sg_name o.nd (by rfl) (loc_of (by rfl)))) (fun s H C cl cd bi fp A o => (se_cmp o.hK (od_ltA o.u0) (se_ix o.hK (se_var (i := 1) (by rfl) (vis_of (by rfl))) (se_var (i := 6) (by rfl) (vis_of (by rfl)))) (se_ix o.hK (se_var (i := 1) (by rfl) (vis_of (by rfl))) (se_op o.hK od_add (se_var (i := 6) (by rfl) (vis_of (by rfl))) se_int)) (nomark _))) bt_all)))))))) 2 7
theorem d__law_int (g : G0 mg)  (FN : FunP K "_law_int" "_law_int" s__law_int f fd (fun _ => True)) (hmg : mg "_law_int" = some (.ref f)) : FnD P w K mg base tabs cls 1 "_law_int" F__law_int :=
  fnD_b (k := 0) (B := b__law_int) FN hmg (FN.binds fun _ _ _ _ _ _ us hl => match us, hl with | [_], _ => rfl) sc__law_int (fun cdv hcd A outer s H H0 E W tp o =>
    (ss_one (ss_ret (se_and (se_isi .int o.hK (by rfl) g.z_isinstance (by rfl) g.z_int bt_int (se_var (i := 0) (by rfl) (vis_of (by rfl))) bt_isinstance) (se_one (se_not (se_isi .bool o.hK (by rfl) g.z_isinstance (by rfl) g.z_bool bt_bool (se_var (i := 0) (by rfl) (vis_of (by rfl))) bt_isinstance))))))) 1 1
theorem d_law (g : G0 mg) (h__law_draw : FnT P w K mg base tabs 2 "_law_draw" F__law_draw) (h__law_far : FnD P w K mg base tabs cls 1 "_law_far" F__law_far) (h__law_int : FnD P w K mg base tabs cls 1 "_law_int" F__law_int) (h__law_less : FnD P w K mg base tabs cls 1 "_law_less" F__law_less) (h__law_lowest : FnD P w K mg base tabs cls 2 "_law_lowest" F__law_lowest) (hf__law_open : FnF P w K mg base tabs 1 "_law_open" FF__law_open) (h__law_ratio : FnD P w K mg base tabs cls 3 "_law_ratio" F__law_ratio) (h__law_same : FnD P w K mg base tabs cls 1 "_law_same" F__law_same) (h__law_trains : FnD P w K mg base tabs cls 1 "_law_trains" F__law_trains) (h_flash_period : FnD P w K mg base tabs cls 3 "flash_period" F_flash_period) (h_is_stock : FnD P w K mg base tabs cls 3 "is_stock" F_is_stock) (h_is_train : FnD P w K mg base tabs cls 3 "is_train" F_is_train) (h_nearest_train : FnD P w K mg base tabs cls 4 "nearest_train" F_nearest_train) (h_ratio_of : FnD P w K mg base tabs cls 2 "ratio_of" F_ratio_of) (h_train_for : FnD P w K mg base tabs cls 3 "train_for" F_train_for) (h_turned_round : FnD P w K mg base tabs cls 1 "turned_round" F_turned_round) (FN : FunP K "law" "law" s_law f fd (fun _ => True)) {n : Nat} {good : List Int → Prop} (hL : ∀ ns : List Int, ns.length ≤ n → good ns → F_law [.list (ns.map .int)] = .ok (.bool true)) : FnOk P w K mg base (L2.CX P w) 5 f fd ["script"] (spL K tabs n good) :=
  fnLaw (cls := cls) (k := 4) (B := b_law) FN sc_law rfl (by decide) (fun cdv hcd A outer s H H0 E W tp o =>
    (ss_cons (ss_setF (i := 1) o.nd (by rfl) (loc_of (by rfl)) (sf_call o hf__law_open (by decide) (by rfl) (sa_cons (se_var (i := 0) (by rfl) (vis_of (by rfl))) sa_nil)))
      (ss_cons (ss_set (i := 2) o.nd (by rfl) (loc_of (by rfl)) (se_ix o.hK (se_fz (sf_lst (sa_cons se_int (sa_cons se_int (sa_cons se_int sa_nil))))) (se_callT (i := 1) o h__law_draw (by decide) (by rfl) (by rfl) (vis_of (by rfl)) (sa_cons se_int sa_nil))))
      (ss_cons (ss_set (i := 3) o.nd (by rfl) (loc_of (by rfl)) (se_callTy o.hK cd_tuple (by rfl) g.z_tuple bt_tuple (sa_cons (se_fz (w_lc o [("wheel", 17)] (si_range1 (by rfl) g.z_range (sa_cons (se_op o.hK od_add se_int (se_callT (i := 1) o h__law_draw (by decide) (by rfl) (by rfl) (vis_of (by rfl)) (sa_cons se_int sa_nil))) sa_nil)) (blkOk_by rfl) (by decide) (by decide) (fun H0 s H C cl fp o => (sg_name o.nd (by rfl) (loc_of (by rfl)))) (fun H0 s H C cl fp o => sts_nil) (fun H0 s H C cl fp o => (se_op o.hK od_add se_int (se_callT (i := 1) o h__law_draw (by decide) (by rfl) (by rfl) (vis_of (by rfl)) (sa_cons (se_var (i := 2) (by rfl) (vis_of (by rfl))) sa_nil)))))) sa_nil)))
      (ss_cons (ss_set (i := 4) o.nd (by rfl) (loc_of (by rfl)) (se_callB o.hK cd_len (by rfl) g.z_len bt_len (sa_cons (se_var (i := 3) (by rfl) (vis_of (by rfl))) sa_nil)))
      (ss_cons (ss_set (i := 5) o.nd (by rfl) (loc_of (by rfl)) (se_fz (sf_lst (sa_cons se_non (sa_cons (se_tup sa_nil) (sa_cons (se_slice o.hK (se_var (i := 3) (by rfl) (vis_of (by rfl))) so_none (so_some se_int)) (sa_cons (se_callTy o.hK cd_list (by rfl) g.z_list bt_list (sa_cons (se_var (i := 3) (by rfl) (vis_of (by rfl))) sa_nil)) (sa_cons (se_op o.hK od_mul (se_tup (sa_cons se_int sa_nil)) se_int) (sa_cons (se_tup (sa_cons se_int (sa_cons se_int sa_nil))) (sa_cons (se_tup (sa_cons se_int (sa_cons se_int sa_nil))) (sa_cons (se_tup (sa_cons se_bl (sa_cons se_int sa_nil))) (sa_cons (se_tup (sa_cons se_non (sa_cons se_int sa_nil))) (sa_cons se_int sa_nil)))))))))))))
      (ss_cons (ss_if (st_w (sw_or (st_cmp o.hK od_isNot (se_call o h_is_stock (by decide) (by rfl) (sa_cons (se_var (i := 3) (by rfl) (vis_of (by rfl))) sa_nil)) se_bl (nomark _)) (sw_or (st_cmp o.hK od_isNot (se_call o h_is_stock (by decide) (by rfl) (sa_cons (se_op o.hK od_mul (se_tup (sa_cons se_int (sa_cons se_int sa_nil))) se_int) sa_nil)) se_bl (nomark _)) (sw_oneO (st_cmp o.hK (od_ne o.u64) (se_fz (w_lc o [("value", 16)] (si_seq (se_var (i := 5) (by rfl) (vis_of (by rfl))) o.hK) (blkOk_by rfl) (by decide) (by decide) (fun H0 s H C cl fp o => (sg_name o.nd (by rfl) (loc_of (by rfl)))) (fun H0 s H C cl fp o => (sts_one (st_cmp o.hK od_isNot (se_call o h_is_stock (by decide) (by rfl) (sa_cons (se_var (i := 16) (by rfl) (vis_of (by rfl))) sa_nil)) se_bl (nomark _)))) (fun H0 s H C cl fp o => (se_var (i := 16) (by rfl) (vis_of (by rfl)))))) (se_fz (sf_lst sa_nil)) (nomark _)))))) (ss_one (ss_ret se_bl)) ss_nil)
      (ss_cons (ss_set (i := 6) o.nd (by rfl) (loc_of (by rfl)) (se_call o h__law_trains (by decide) (by rfl) (sa_cons (se_var (i := 4) (by rfl) (vis_of (by rfl))) sa_nil)))
      (ss_cons (ss_set (i := 7) o.nd (by rfl) (loc_of (by rfl)) (se_ix o.hK (se_var (i := 6) (by rfl) (vis_of (by rfl))) (se_callT (i := 1) o h__law_draw (by decide) (by rfl) (by rfl) (vis_of (by rfl)) (sa_cons (se_callB o.hK cd_len (by rfl) g.z_len bt_len (sa_cons (se_var (i := 6) (by rfl) (vis_of (by rfl))) sa_nil)) sa_nil))))
      (ss_cons (ss_set (i := 8) o.nd (by rfl) (loc_of (by rfl)) (se_call o h__law_ratio (by decide) (by rfl) (sa_cons (se_var (i := 3) (by rfl) (vis_of (by rfl))) (sa_cons (se_var (i := 7) (by rfl) (vis_of (by rfl))) sa_nil))))
      (ss_cons (ss_if (st_w (sw_or (st_cmp o.hK (od_ne o.u64) (se_call o h_ratio_of (by decide) (by rfl) (sa_cons (se_var (i := 3) (by rfl) (vis_of (by rfl))) (sa_cons (se_var (i := 7) (by rfl) (vis_of (by rfl))) sa_nil))) (se_var (i := 8) (by rfl) (vis_of (by rfl))) (nomark _)) (sw_or (st_cmp o.hK (od_ne o.u64) (se_call o h_turned_round (by decide) (by rfl) (sa_cons (se_var (i := 7) (by rfl) (vis_of (by rfl))) sa_nil)) (se_callTy o.hK cd_tuple (by rfl) g.z_tuple bt_tuple (sa_cons (se_callB o.hK (cd_sorted o.u64) (by rfl) g.z_sorted bt_sorted (sa_cons (se_fz (w_lc o [("pair", 18)] (si_seq (se_var (i := 7) (by rfl) (vis_of (by rfl))) o.hK) (blkOk_by rfl) (by decide) (by decide) (fun H0 s H C cl fp o => (sg_name o.nd (by rfl) (loc_of (by rfl)))) (fun H0 s H C cl fp o => sts_nil) (fun H0 s H C cl fp o => (se_tup (sa_cons (se_ix o.hK (se_var (i := 18) (by rfl) (vis_of (by rfl))) se_int) (sa_cons (se_ix o.hK (se_var (i := 18) (by rfl) (vis_of (by rfl))) se_int) sa_nil)))))) sa_nil)) sa_nil)) (nomark _)) (sw_oneO (st_cmp o.hK (od_ne o.u64) (se_call o h_ratio_of (by decide) (by rfl) (sa_cons (se_var (i := 3) (by rfl) (vis_of (by rfl))) (sa_cons (se_call o h_turned_round (by decide) (by rfl) (sa_cons (se_var (i := 7) (by rfl) (vis_of (by rfl))) sa_nil)) sa_nil))) (se_tup (sa_cons (se_ix o.hK (se_var (i := 8) (by rfl) (vis_of (by rfl))) se_int) (sa_cons (se_ix o.hK (se_var (i := 8) (by rfl) (vis_of (by rfl))) se_int) sa_nil))) (nomark _)))))) (ss_one (ss_ret se_bl)) ss_nil)
      (ss_cons (ss_for o.own o.calm (si_seq (se_fz (sf_lst (sa_cons (se_var (i := 8) (by rfl) (vis_of (by rfl))) (sa_cons (se_call o h__law_lowest (by decide) (by rfl) (sa_cons (se_op o.hK od_add se_int (se_callT (i := 1) o h__law_draw (by decide) (by rfl) (by rfl) (vis_of (by rfl)) (sa_cons se_int sa_nil))) (sa_cons (se_op o.hK od_add se_int (se_callT (i := 1) o h__law_draw (by decide) (by rfl) (by rfl) (vis_of (by rfl)) (sa_cons se_int sa_nil))) sa_nil))) (sa_cons (se_call o h__law_lowest (by decide) (by rfl) (sa_cons (se_op o.hK od_add (se_op o.hK od_mul (se_ix o.hK (se_var (i := 8) (by rfl) (vis_of (by rfl))) se_int) se_int) se_int) (sa_cons (se_op o.hK od_mul (se_ix o.hK (se_var (i := 8) (by rfl) (vis_of (by rfl))) se_int) se_int) sa_nil))) sa_nil))))) o.hK) (sg_name o.nd (by rfl) (loc_of (by rfl))) (ss_cons (ss_lockV (w_setLc (i := 10) o [("one", 12)] (by rfl) (by rfl) (sw_true (by rfl) (by rfl) (by rfl) (by rfl)) (si_seq (se_var (i := 6) (by rfl) (vis_of (by rfl))) o.hK) (blkOk_by rfl) (by decide) (by decide) (fun H0 s H C cl fp o => (sg_name o.nd (by rfl) (loc_of (by rfl)))) (fun H0 s H C cl fp o => (sts_one (st_cmp o.hK (od_eq o.u64) (se_call o h__law_ratio (by decide) (by rfl) (sa_cons (se_var (i := 3) (by rfl) (vis_of (by rfl))) (sa_cons (se_var (i := 12) (by rfl) (vis_of (by rfl))) sa_nil))) (se_var (i := 9) (by rfl) (vis_of (by rfl))) (nomark _)))) (fun H0 s H C cl fp o => (se_var (i := 12) (by rfl) (vis_of (by rfl))))))
      (ss_cons (ss_set (i := 11) o.nd (by rfl) (loc_of (by rfl)) (se_ix o.hK (se_var (i := 6) (by rfl) (vis_of (by rfl))) se_int))
      (ss_cons (ss_for o.own o.calm (si_seq (se_var (i := 6) (by rfl) (vis_of (by rfl))) o.hK) (sg_name o.nd (by rfl) (loc_of (by rfl))) (ss_one (ss_if (st_e (se_call o h__law_less (by decide) (by rfl) (sa_cons (se_call o h__law_far (by decide) (by rfl) (sa_cons (se_call o h__law_ratio (by decide) (by rfl) (sa_cons (se_var (i := 3) (by rfl) (vis_of (by rfl))) (sa_cons (se_var (i := 12) (by rfl) (vis_of (by rfl))) sa_nil))) (sa_cons (se_var (i := 9) (by rfl) (vis_of (by rfl))) sa_nil))) (sa_cons (se_call o h__law_far (by decide) (by rfl) (sa_cons (se_call o h__law_ratio (by decide) (by rfl) (sa_cons (se_var (i := 3) (by rfl) (vis_of (by rfl))) (sa_cons (se_var (i := 11) (by rfl) (vis_of (by rfl))) sa_nil))) (sa_cons (se_var (i := 9) (by rfl) (vis_of (by rfl))) sa_nil))) sa_nil)))) (ss_one (ss_set (i := 11) o.nd (by rfl) (loc_of (by rfl)) (se_var (i := 12) (by rfl) (vis_of (by rfl))))) ss_nil)))
      (ss_one (ss_if (st_w (sw_or (st_cmp o.hK (od_ne o.u64) (se_call o h_train_for (by decide) (by rfl) (sa_cons (se_var (i := 3) (by rfl) (vis_of (by rfl))) (sa_cons (se_var (i := 9) (by rfl) (vis_of (by rfl))) sa_nil))) (se_if (st_cmp o.hK (od_ne o.u64) (se_var (i := 10) (by rfl) (vis_of (by rfl))) (se_fz (sf_lst sa_nil)) (nomark _)) (se_ix o.hK (se_var (i := 10) (by rfl) (vis_of (by rfl))) se_int) se_non) (nomark _)) (sw_oneO (st_cmp o.hK (od_ne o.u64) (se_call o h_nearest_train (by decide) (by rfl) (sa_cons (se_var (i := 3) (by rfl) (vis_of (by rfl))) (sa_cons (se_var (i := 9) (by rfl) (vis_of (by rfl))) sa_nil))) (se_var (i := 11) (by rfl) (vis_of (by rfl))) (nomark _))))) (ss_one (ss_ret se_bl)) ss_nil))))))
      (ss_cons (ss_if (st_w (sw_and (st_cmp o.hK (od_ltA o.u0) (se_var (i := 4) (by rfl) (vis_of (by rfl))) se_int (nomark _)) (sw_one (st_cmp o.hK od_is (se_call o h_train_for (by decide) (by rfl) (sa_cons (se_op o.hK od_add (se_var (i := 3) (by rfl) (vis_of (by rfl))) (se_tup (sa_cons se_int sa_nil))) (sa_cons (se_var (i := 8) (by rfl) (vis_of (by rfl))) sa_nil))) se_non (nomark _))))) (ss_one (ss_ret se_bl)) ss_nil)
      (ss_cons (ss_par (i := 13) (j := 14) o.calm o.nd (by rfl) (by rfl) (by decide) (by rfl) (by rfl) (sa_cons (se_op o.hK od_add se_int (se_callT (i := 1) o h__law_draw (by decide) (by rfl) (by rfl) (vis_of (by rfl)) (sa_cons se_int sa_nil))) (sa_cons (se_op o.hK od_add se_int (se_callT (i := 1) o h__law_draw (by decide) (by rfl) (by rfl) (vis_of (by rfl)) (sa_cons se_int sa_nil))) sa_nil)) (by rfl))
      (ss_cons (ss_if (st_cmp o.hK (od_ne o.u64) (se_call o h_flash_period (by decide) (by rfl) (sa_cons (se_var (i := 3) (by rfl) (vis_of (by rfl))) (sa_cons (se_var (i := 7) (by rfl) (vis_of (by rfl))) (sa_cons (se_var (i := 13) (by rfl) (vis_of (by rfl))) (sa_cons (se_var (i := 14) (by rfl) (vis_of (by rfl))) sa_nil))))) (se_call o h__law_lowest (by decide) (by rfl) (sa_cons (se_op o.hK od_mul (se_var (i := 13) (by rfl) (vis_of (by rfl))) (se_ix o.hK (se_var (i := 8) (by rfl) (vis_of (by rfl))) se_int)) (sa_cons (se_op o.hK od_mul (se_var (i := 14) (by rfl) (vis_of (by rfl))) (se_ix o.hK (se_var (i := 8) (by rfl) (vis_of (by rfl))) se_int)) sa_nil))) (nomark _)) (ss_one (ss_ret se_bl)) ss_nil)
      (ss_cons (ss_set (i := 15) o.nd (by rfl) (loc_of (by rfl)) (se_fz (sf_lst (sa_cons (se_var (i := 7) (by rfl) (vis_of (by rfl))) (sa_cons (se_callTy o.hK cd_list (by rfl) g.z_list bt_list (sa_cons (se_var (i := 7) (by rfl) (vis_of (by rfl))) sa_nil)) (sa_cons (se_rev o.hK (se_var (i := 7) (by rfl) (vis_of (by rfl)))) (sa_cons (se_op o.hK od_add (se_var (i := 7) (by rfl) (vis_of (by rfl))) (se_slice o.hK (se_var (i := 7) (by rfl) (vis_of (by rfl))) so_none (so_some se_int))) (sa_cons (se_tup sa_nil) (sa_cons se_non (sa_cons (se_tup (sa_cons (se_tup (sa_cons se_int (sa_cons se_int sa_nil))) sa_nil)) (sa_cons (se_tup (sa_cons (se_tup (sa_cons se_int (sa_cons (se_var (i := 4) (by rfl) (vis_of (by rfl))) sa_nil))) sa_nil)) (sa_cons (se_tup (sa_cons (se_tup (sa_cons (se_un o.hK ud_neg se_int) (sa_cons se_int sa_nil))) sa_nil)) (sa_cons (se_tup (sa_cons (se_tup (sa_cons se_bl (sa_cons se_int sa_nil))) sa_nil)) (sa_cons (se_tup (sa_cons (se_tup (sa_cons se_int (sa_cons se_non sa_nil))) sa_nil)) (sa_cons (se_tup (sa_cons (se_fz (sf_lst (sa_cons se_int (sa_cons se_int sa_nil)))) sa_nil)) (sa_cons (se_tup (sa_cons (se_tup (sa_cons se_int sa_nil)) sa_nil)) (sa_cons (se_tup (sa_cons (se_tup (sa_cons se_int (sa_cons se_int (sa_cons se_int sa_nil)))) sa_nil)) (sa_cons (se_tup (sa_cons se_non sa_nil)) (sa_cons (se_tup (sa_cons (se_tup (sa_cons se_int (sa_cons se_int sa_nil))) (sa_cons (se_tup (sa_cons se_int (sa_cons se_int sa_nil))) sa_nil))) (sa_cons (se_call o h_turned_round (by decide) (by rfl) (sa_cons (se_var (i := 7) (by rfl) (vis_of (by rfl))) sa_nil)) (sa_cons (se_tup (sa_cons (se_tup (sa_cons se_int (sa_cons se_int sa_nil))) sa_nil)) (sa_cons se_int sa_nil))))))))))))))))))))))
      (ss_cons (ss_for o.own o.calm (si_seq (se_var (i := 15) (by rfl) (vis_of (by rfl))) o.hK) (sg_name o.nd (by rfl) (loc_of (by rfl))) (ss_cons (ss_set (i := 10) o.nd (by rfl) (loc_of (by rfl)) (se_and (se_isi .tuple o.hK (by rfl) g.z_isinstance (by rfl) g.z_tuple bt_tuple (se_var (i := 16) (by rfl) (vis_of (by rfl))) bt_isinstance) (se_and (se_cmp o.hK (od_eq o.u64) (se_fz (w_lc o [("pair", 18)] (si_seq (se_var (i := 16) (by rfl) (vis_of (by rfl))) o.hK) (blkOk_by rfl) (by decide) (by decide) (fun H0 s H C cl fp o => (sg_name o.nd (by rfl) (loc_of (by rfl)))) (fun H0 s H C cl fp o => (sts_one (st_w (sw_or (st_not (st_e (se_isi .tuple o.hK (by rfl) g.z_isinstance (by rfl) g.z_tuple bt_tuple (se_var (i := 18) (by rfl) (vis_of (by rfl))) bt_isinstance))) (sw_oneO (st_cmp o.hK (od_ne o.u64) (se_fz (w_lc o [("one", 12)] (si_seq (se_var (i := 18) (by rfl) (vis_of (by rfl))) o.hK) (blkOk_by rfl) (by decide) (by decide) (fun H0 s H C cl fp o => (sg_name o.nd (by rfl) (loc_of (by rfl)))) (fun H0 s H C cl fp o => (sts_one (st_not (st_e (se_call o h__law_int (by decide) (by rfl) (sa_cons (se_var (i := 12) (by rfl) (vis_of (by rfl))) sa_nil)))))) (fun H0 s H C cl fp o => (se_var (i := 12) (by rfl) (vis_of (by rfl)))))) (se_fz (sf_lst sa_nil)) (nomark _))))))) (fun H0 s H C cl fp o => (se_var (i := 18) (by rfl) (vis_of (by rfl)))))) (se_fz (sf_lst sa_nil)) (nomark _)) (se_one (se_cmp o.hK (od_in o.u65) (se_var (i := 16) (by rfl) (vis_of (by rfl))) (se_var (i := 6) (by rfl) (vis_of (by rfl))) (by rfl))))))
      (ss_one (ss_if (st_not (st_e (se_call o h__law_same (by decide) (by rfl) (sa_cons (se_call o h_is_train (by decide) (by rfl) (sa_cons (se_var (i := 3) (by rfl) (vis_of (by rfl))) (sa_cons (se_var (i := 16) (by rfl) (vis_of (by rfl))) sa_nil))) (sa_cons (se_var (i := 10) (by rfl) (vis_of (by rfl))) sa_nil))))) (ss_one (ss_ret se_bl)) ss_nil))))
      (ss_one (ss_ret se_bl))))))))))))))))))) hL
end
end PL
set_option Elab.async false
set_option linter.all false
set_option maxRecDepth 100000
set_option maxHeartbeats 4000000
set_option autoImplicit false
namespace PL
open PySem PySem.Spec PyProof.Rows L2
theorem all_mk {l : PySem.W.OpenLaw} {w : World} {q : Program} {loose : List Str} {mean : ExcName → Option Value} {K : PySem.W.Frag} {h : Heap} {mg mb : Str → Option Value} {fa : Addr} (T : Top q loose mean mg mb h) (X : K.In h) (G : h.Ns mainGlobals mg) (hfa : mg "law" = some (.ref fa))
    (hL : ∀ ns : List Int, ns.length ≤ 63 → (∀ z ∈ ns, Builtin.Int.intBits z ≤ 1048576) → F_law [.list (ns.map .int)] = .ok (.bool true))
    {f0 : Addr} {od0 an0 : Option Addr} {sl0 : Array (Option Value)} {oc0 kV0 dc0 pm0 ct0 : Value} {cd0 : Value}
    (a0 : PySem.W.nsIn K mainGlobals "_law_open" = some (some (.ref f0))) (l0 : K.lookup f0 = some ⟨oc0, od0, .func (PySem.W.fnOf "_law_open" "_law_open" (defArgs s__law_open) (defBody s__law_open) (defScope s__law_open) .none kV0 dc0 pm0 an0 cd0 ct0), sl0⟩) (e0 : PySem.W.codeIn K cd0 "_law_open" = true) (k0 : PySem.W.keepIn K (.ref f0) = true)
    {f1 : Addr} {od1 an1 : Option Addr} {sl1 : Array (Option Value)} {oc1 kV1 dc1 pm1 ct1 : Value} {cd1 : Value}
    (a1 : PySem.W.nsIn K mainGlobals "_law_trains" = some (some (.ref f1))) (l1 : K.lookup f1 = some ⟨oc1, od1, .func (PySem.W.fnOf "_law_trains" "_law_trains" (defArgs s__law_trains) (defBody s__law_trains) (defScope s__law_trains) .none kV1 dc1 pm1 an1 cd1 ct1), sl1⟩) (e1 : PySem.W.codeIn K cd1 "_law_trains" = true) (k1 : PySem.W.keepIn K (.ref f1) = true)
    {f2 : Addr} {od2 an2 : Option Addr} {sl2 : Array (Option Value)} {oc2 kV2 dc2 pm2 ct2 : Value} {cd2 : Value}
    (a2 : PySem.W.nsIn K mainGlobals "_law_greatest" = some (some (.ref f2))) (l2 : K.lookup f2 = some ⟨oc2, od2, .func (PySem.W.fnOf "_law_greatest" "_law_greatest" (defArgs s__law_greatest) (defBody s__law_greatest) (defScope s__law_greatest) .none kV2 dc2 pm2 an2 cd2 ct2), sl2⟩) (e2 : PySem.W.codeIn K cd2 "_law_greatest" = true) (k2 : PySem.W.keepIn K (.ref f2) = true)
    {f3 : Addr} {od3 an3 : Option Addr} {sl3 : Array (Option Value)} {oc3 kV3 dc3 pm3 ct3 : Value} {cd3 : Value}
    (a3 : PySem.W.nsIn K mainGlobals "_law_lowest" = some (some (.ref f3))) (l3 : K.lookup f3 = some ⟨oc3, od3, .func (PySem.W.fnOf "_law_lowest" "_law_lowest" (defArgs s__law_lowest) (defBody s__law_lowest) (defScope s__law_lowest) .none kV3 dc3 pm3 an3 cd3 ct3), sl3⟩) (e3 : PySem.W.codeIn K cd3 "_law_lowest" = true) (k3 : PySem.W.keepIn K (.ref f3) = true)
    {f4 : Addr} {od4 an4 : Option Addr} {sl4 : Array (Option Value)} {oc4 kV4 dc4 pm4 ct4 : Value} {cd4 : Value}
    (a4 : PySem.W.nsIn K mainGlobals "_law_ratio" = some (some (.ref f4))) (l4 : K.lookup f4 = some ⟨oc4, od4, .func (PySem.W.fnOf "_law_ratio" "_law_ratio" (defArgs s__law_ratio) (defBody s__law_ratio) (defScope s__law_ratio) .none kV4 dc4 pm4 an4 cd4 ct4), sl4⟩) (e4 : PySem.W.codeIn K cd4 "_law_ratio" = true) (k4 : PySem.W.keepIn K (.ref f4) = true)
    {f5 : Addr} {od5 an5 : Option Addr} {sl5 : Array (Option Value)} {oc5 kV5 dc5 pm5 ct5 : Value} {cd5 : Value}
    (a5 : PySem.W.nsIn K mainGlobals "_law_mixed" = some (some (.ref f5))) (l5 : K.lookup f5 = some ⟨oc5, od5, .func (PySem.W.fnOf "_law_mixed" "_law_mixed" (defArgs s__law_mixed) (defBody s__law_mixed) (defScope s__law_mixed) .none kV5 dc5 pm5 an5 cd5 ct5), sl5⟩) (e5 : PySem.W.codeIn K cd5 "_law_mixed" = true) (k5 : PySem.W.keepIn K (.ref f5) = true)
    {f6 : Addr} {od6 an6 : Option Addr} {sl6 : Array (Option Value)} {oc6 kV6 dc6 pm6 ct6 : Value} {cd6 : Value}
    (a6 : PySem.W.nsIn K mainGlobals "_law_draw" = some (some (.ref f6))) (l6 : K.lookup f6 = some ⟨oc6, od6, .func (PySem.W.fnOf "_law_draw" "_law_draw" (defArgs s__law_draw) (defBody s__law_draw) (defScope s__law_draw) .none kV6 dc6 pm6 an6 cd6 ct6), sl6⟩) (e6 : PySem.W.codeIn K cd6 "_law_draw" = true) (k6 : PySem.W.keepIn K (.ref f6) = true)
    {f7 : Addr} {od7 an7 : Option Addr} {sl7 : Array (Option Value)} {oc7 kV7 dc7 pm7 ct7 : Value} {cd7 : Value}
    (a7 : PySem.W.nsIn K mainGlobals "lowest" = some (some (.ref f7))) (l7 : K.lookup f7 = some ⟨oc7, od7, .func (PySem.W.fnOf "lowest" "lowest" (defArgs s_lowest) (defBody s_lowest) (defScope s_lowest) .none kV7 dc7 pm7 an7 cd7 ct7), sl7⟩) (e7 : PySem.W.codeIn K cd7 "lowest" = true) (k7 : PySem.W.keepIn K (.ref f7) = true)
    {f8 : Addr} {od8 an8 : Option Addr} {sl8 : Array (Option Value)} {oc8 kV8 dc8 pm8 ct8 : Value} {cd8 : Value}
    (a8 : PySem.W.nsIn K mainGlobals "ratio_of" = some (some (.ref f8))) (l8 : K.lookup f8 = some ⟨oc8, od8, .func (PySem.W.fnOf "ratio_of" "ratio_of" (defArgs s_ratio_of) (defBody s_ratio_of) (defScope s_ratio_of) .none kV8 dc8 pm8 an8 cd8 ct8), sl8⟩) (e8 : PySem.W.codeIn K cd8 "ratio_of" = true) (k8 : PySem.W.keepIn K (.ref f8) = true)
    {f9 : Addr} {od9 an9 : Option Addr} {sl9 : Array (Option Value)} {oc9 kV9 dc9 pm9 ct9 : Value} {cd9 : Value}
    (a9 : PySem.W.nsIn K mainGlobals "flash_period" = some (some (.ref f9))) (l9 : K.lookup f9 = some ⟨oc9, od9, .func (PySem.W.fnOf "flash_period" "flash_period" (defArgs s_flash_period) (defBody s_flash_period) (defScope s_flash_period) .none kV9 dc9 pm9 an9 cd9 ct9), sl9⟩) (e9 : PySem.W.codeIn K cd9 "flash_period" = true) (k9 : PySem.W.keepIn K (.ref f9) = true)
    {f10 : Addr} {od10 an10 : Option Addr} {sl10 : Array (Option Value)} {oc10 kV10 dc10 pm10 ct10 : Value} {cd10 : Value}
    (a10 : PySem.W.nsIn K mainGlobals "turned_round" = some (some (.ref f10))) (l10 : K.lookup f10 = some ⟨oc10, od10, .func (PySem.W.fnOf "turned_round" "turned_round" (defArgs s_turned_round) (defBody s_turned_round) (defScope s_turned_round) .none kV10 dc10 pm10 an10 cd10 ct10), sl10⟩) (e10 : PySem.W.codeIn K cd10 "turned_round" = true) (k10 : PySem.W.keepIn K (.ref f10) = true)
    {f11 : Addr} {od11 an11 : Option Addr} {sl11 : Array (Option Value)} {oc11 kV11 dc11 pm11 ct11 : Value} {cd11 : Value}
    (a11 : PySem.W.nsIn K mainGlobals "is_number" = some (some (.ref f11))) (l11 : K.lookup f11 = some ⟨oc11, od11, .func (PySem.W.fnOf "is_number" "is_number" (defArgs s_is_number) (defBody s_is_number) (defScope s_is_number) .none kV11 dc11 pm11 an11 cd11 ct11), sl11⟩) (e11 : PySem.W.codeIn K cd11 "is_number" = true) (k11 : PySem.W.keepIn K (.ref f11) = true)
    {f12 : Addr} {od12 an12 : Option Addr} {sl12 : Array (Option Value)} {oc12 kV12 dc12 pm12 ct12 : Value} {c12 P12 : Addr} {dr12 : DefRec} {x12 : Value} {oe12 : Option Addr} {vs12 : Array Value} {ss12 : Array (Option Value)}
    (a12 : PySem.W.nsIn K mainGlobals "is_stock" = some (some (.ref f12))) (l12 : K.lookup f12 = some ⟨oc12, od12, .func (PySem.W.fnOf "is_stock" "is_stock" (defArgs s_is_stock) (defBody s_is_stock) (defScope s_is_stock) .none kV12 dc12 pm12 an12 (.ref c12) ct12), sl12⟩) (e12 : PySem.W.codeIn K (.ref c12) "is_stock" = true) (k12 : PySem.W.keepIn K (.ref f12) = true)
    (t12 : K.lookup c12 = some ⟨x12, oe12, .fields vs12, ss12⟩) (w12 : vs12[11]? = some (.ref P12)) (n12 : K.lookup P12 = none) (r12 : (recsOf q).find? (fun e => e.name == ("is_stock" : Str)) = some dr12)
    {f13 : Addr} {od13 an13 : Option Addr} {sl13 : Array (Option Value)} {oc13 kV13 dc13 pm13 ct13 : Value} {cd13 : Value}
    (a13 : PySem.W.nsIn K mainGlobals "_law_less" = some (some (.ref f13))) (l13 : K.lookup f13 = some ⟨oc13, od13, .func (PySem.W.fnOf "_law_less" "_law_less" (defArgs s__law_less) (defBody s__law_less) (defScope s__law_less) .none kV13 dc13 pm13 an13 cd13 ct13), sl13⟩) (e13 : PySem.W.codeIn K cd13 "_law_less" = true) (k13 : PySem.W.keepIn K (.ref f13) = true)
    {f14 : Addr} {od14 an14 : Option Addr} {sl14 : Array (Option Value)} {oc14 kV14 dc14 pm14 ct14 : Value} {cd14 : Value}
    (a14 : PySem.W.nsIn K mainGlobals "all_trains" = some (some (.ref f14))) (l14 : K.lookup f14 = some ⟨oc14, od14, .func (PySem.W.fnOf "all_trains" "all_trains" (defArgs s_all_trains) (defBody s_all_trains) (defScope s_all_trains) .none kV14 dc14 pm14 an14 cd14 ct14), sl14⟩) (e14 : PySem.W.codeIn K cd14 "all_trains" = true) (k14 : PySem.W.keepIn K (.ref f14) = true)
    {f15 : Addr} {od15 an15 : Option Addr} {sl15 : Array (Option Value)} {oc15 kV15 dc15 pm15 ct15 : Value} {cd15 : Value}
    (a15 : PySem.W.nsIn K mainGlobals "train_for" = some (some (.ref f15))) (l15 : K.lookup f15 = some ⟨oc15, od15, .func (PySem.W.fnOf "train_for" "train_for" (defArgs s_train_for) (defBody s_train_for) (defScope s_train_for) .none kV15 dc15 pm15 an15 cd15 ct15), sl15⟩) (e15 : PySem.W.codeIn K cd15 "train_for" = true) (k15 : PySem.W.keepIn K (.ref f15) = true)
    {f16 : Addr} {od16 an16 : Option Addr} {sl16 : Array (Option Value)} {oc16 kV16 dc16 pm16 ct16 : Value} {cd16 : Value}
    (a16 : PySem.W.nsIn K mainGlobals "_law_same" = some (some (.ref f16))) (l16 : K.lookup f16 = some ⟨oc16, od16, .func (PySem.W.fnOf "_law_same" "_law_same" (defArgs s__law_same) (defBody s__law_same) (defScope s__law_same) .none kV16 dc16 pm16 an16 cd16 ct16), sl16⟩) (e16 : PySem.W.codeIn K cd16 "_law_same" = true) (k16 : PySem.W.keepIn K (.ref f16) = true)
    {f17 : Addr} {od17 an17 : Option Addr} {sl17 : Array (Option Value)} {oc17 kV17 dc17 pm17 ct17 : Value} {cd17 : Value}
    (a17 : PySem.W.nsIn K mainGlobals "_law_far" = some (some (.ref f17))) (l17 : K.lookup f17 = some ⟨oc17, od17, .func (PySem.W.fnOf "_law_far" "_law_far" (defArgs s__law_far) (defBody s__law_far) (defScope s__law_far) .none kV17 dc17 pm17 an17 cd17 ct17), sl17⟩) (e17 : PySem.W.codeIn K cd17 "_law_far" = true) (k17 : PySem.W.keepIn K (.ref f17) = true)
    {f18 : Addr} {od18 an18 : Option Addr} {sl18 : Array (Option Value)} {oc18 kV18 dc18 pm18 ct18 : Value} {cd18 : Value}
    (a18 : PySem.W.nsIn K mainGlobals "less" = some (some (.ref f18))) (l18 : K.lookup f18 = some ⟨oc18, od18, .func (PySem.W.fnOf "less" "less" (defArgs s_less) (defBody s_less) (defScope s_less) .none kV18 dc18 pm18 an18 cd18 ct18), sl18⟩) (e18 : PySem.W.codeIn K cd18 "less" = true) (k18 : PySem.W.keepIn K (.ref f18) = true)
    {f19 : Addr} {od19 an19 : Option Addr} {sl19 : Array (Option Value)} {oc19 kV19 dc19 pm19 ct19 : Value} {cd19 : Value}
    (a19 : PySem.W.nsIn K mainGlobals "minus" = some (some (.ref f19))) (l19 : K.lookup f19 = some ⟨oc19, od19, .func (PySem.W.fnOf "minus" "minus" (defArgs s_minus) (defBody s_minus) (defScope s_minus) .none kV19 dc19 pm19 an19 cd19 ct19), sl19⟩) (e19 : PySem.W.codeIn K cd19 "minus" = true) (k19 : PySem.W.keepIn K (.ref f19) = true)
    {f20 : Addr} {od20 an20 : Option Addr} {sl20 : Array (Option Value)} {oc20 kV20 dc20 pm20 ct20 : Value} {cd20 : Value}
    (a20 : PySem.W.nsIn K mainGlobals "off_by" = some (some (.ref f20))) (l20 : K.lookup f20 = some ⟨oc20, od20, .func (PySem.W.fnOf "off_by" "off_by" (defArgs s_off_by) (defBody s_off_by) (defScope s_off_by) .none kV20 dc20 pm20 an20 cd20 ct20), sl20⟩) (e20 : PySem.W.codeIn K cd20 "off_by" = true) (k20 : PySem.W.keepIn K (.ref f20) = true)
    {f21 : Addr} {od21 an21 : Option Addr} {sl21 : Array (Option Value)} {oc21 kV21 dc21 pm21 ct21 : Value} {cd21 : Value}
    (a21 : PySem.W.nsIn K mainGlobals "nearest_train" = some (some (.ref f21))) (l21 : K.lookup f21 = some ⟨oc21, od21, .func (PySem.W.fnOf "nearest_train" "nearest_train" (defArgs s_nearest_train) (defBody s_nearest_train) (defScope s_nearest_train) .none kV21 dc21 pm21 an21 cd21 ct21), sl21⟩) (e21 : PySem.W.codeIn K cd21 "nearest_train" = true) (k21 : PySem.W.keepIn K (.ref f21) = true)
    {f22 : Addr} {od22 an22 : Option Addr} {sl22 : Array (Option Value)} {oc22 kV22 dc22 pm22 ct22 : Value} {c22 P22 : Addr} {dr22 : DefRec} {x22 : Value} {oe22 : Option Addr} {vs22 : Array Value} {ss22 : Array (Option Value)}
    (a22 : PySem.W.nsIn K mainGlobals "is_train" = some (some (.ref f22))) (l22 : K.lookup f22 = some ⟨oc22, od22, .func (PySem.W.fnOf "is_train" "is_train" (defArgs s_is_train) (defBody s_is_train) (defScope s_is_train) .none kV22 dc22 pm22 an22 (.ref c22) ct22), sl22⟩) (e22 : PySem.W.codeIn K (.ref c22) "is_train" = true) (k22 : PySem.W.keepIn K (.ref f22) = true)
    (t22 : K.lookup c22 = some ⟨x22, oe22, .fields vs22, ss22⟩) (w22 : vs22[11]? = some (.ref P22)) (n22 : K.lookup P22 = none) (r22 : (recsOf q).find? (fun e => e.name == ("is_train" : Str)) = some dr22)
    {f23 : Addr} {od23 an23 : Option Addr} {sl23 : Array (Option Value)} {oc23 kV23 dc23 pm23 ct23 : Value} {cd23 : Value}
    (a23 : PySem.W.nsIn K mainGlobals "_law_int" = some (some (.ref f23))) (l23 : K.lookup f23 = some ⟨oc23, od23, .func (PySem.W.fnOf "_law_int" "_law_int" (defArgs s__law_int) (defBody s__law_int) (defScope s__law_int) .none kV23 dc23 pm23 an23 cd23 ct23), sl23⟩) (e23 : PySem.W.codeIn K cd23 "_law_int" = true) (k23 : PySem.W.keepIn K (.ref f23) = true)
    {f24 : Addr} {od24 an24 : Option Addr} {sl24 : Array (Option Value)} {oc24 kV24 dc24 pm24 ct24 : Value} {cd24 : Value}
    (a24 : PySem.W.nsIn K mainGlobals "law" = some (some (.ref f24))) (l24 : K.lookup f24 = some ⟨oc24, od24, .func (PySem.W.fnOf "law" "law" (defArgs s_law) (defBody s_law) (defScope s_law) .none kV24 dc24 pm24 an24 cd24 ct24), sl24⟩) (e24 : PySem.W.codeIn K cd24 "law" = true) (k24 : PySem.W.keepIn K (.ref f24) = true)
    (z_abs : PySem.W.nsIn K mainGlobals "abs" = some none)
    (z_all : PySem.W.nsIn K mainGlobals "all" = some none)
    (z_any : PySem.W.nsIn K mainGlobals "any" = some none)
    (z_bool : PySem.W.nsIn K mainGlobals "bool" = some none)
    (z_int : PySem.W.nsIn K mainGlobals "int" = some none)
    (z_isinstance : PySem.W.nsIn K mainGlobals "isinstance" = some none)
    (z_len : PySem.W.nsIn K mainGlobals "len" = some none)
    (z_list : PySem.W.nsIn K mainGlobals "list" = some none)
    (z_range : PySem.W.nsIn K mainGlobals "range" = some none)
    (z_sorted : PySem.W.nsIn K mainGlobals "sorted" = some none)
    (z_tuple : PySem.W.nsIn K mainGlobals "tuple" = some none)
    {u_LEAST_TEETH : Value} (y_LEAST_TEETH : PySem.W.nsIn K mainGlobals "LEAST_TEETH" = some (some u_LEAST_TEETH)) (v_LEAST_TEETH : ∃ t, u_LEAST_TEETH = .int 6 t)
    {u_MOST_PAIRS : Value} (y_MOST_PAIRS : PySem.W.nsIn K mainGlobals "MOST_PAIRS" = some (some u_MOST_PAIRS)) (v_MOST_PAIRS : ∃ t, u_MOST_PAIRS = .int 3 t)
    {u_MOST_TEETH : Value} (y_MOST_TEETH : PySem.W.nsIn K mainGlobals "MOST_TEETH" = some (some u_MOST_TEETH)) (v_MOST_TEETH : ∃ t, u_MOST_TEETH = .int 60 t)
    {u_MOST_WHEELS : Value} (y_MOST_WHEELS : PySem.W.nsIn K mainGlobals "MOST_WHEELS" = some (some u_MOST_WHEELS)) (v_MOST_WHEELS : ∃ t, u_MOST_WHEELS = .int 8 t)
    (m_gcd : PySem.W.nsIn K mainGlobals "gcd" = some (some (.builtin "math.gcd")))
    : LamX.LawAtS l w K (L2.CX l.prog w) 5 63 "script" mg fa h := by
  have hfa2 := hfa.symm.trans (PySem.W.mg_of X G a24)
  cases hfa2
  have g : G0 mg := ⟨PySem.W.mg_none_of X G z_abs, PySem.W.mg_none_of X G z_all, PySem.W.mg_none_of X G z_any, PySem.W.mg_none_of X G z_bool, PySem.W.mg_none_of X G z_int, PySem.W.mg_none_of X G z_isinstance, PySem.W.mg_none_of X G z_len, PySem.W.mg_none_of X G z_list, PySem.W.mg_none_of X G z_range, PySem.W.mg_none_of X G z_sorted, PySem.W.mg_none_of X G z_tuple, (by obtain ⟨t, e⟩ := v_LEAST_TEETH; subst e; exact ⟨t, PySem.W.mg_of X G y_LEAST_TEETH⟩), (by obtain ⟨t, e⟩ := v_MOST_PAIRS; subst e; exact ⟨t, PySem.W.mg_of X G y_MOST_PAIRS⟩), (by obtain ⟨t, e⟩ := v_MOST_TEETH; subst e; exact ⟨t, PySem.W.mg_of X G y_MOST_TEETH⟩), (by obtain ⟨t, e⟩ := v_MOST_WHEELS; subst e; exact ⟨t, PySem.W.mg_of X G y_MOST_WHEELS⟩), PySem.W.mg_of X G m_gcd⟩
  have F0 := funP_mk (cp := fun _ => True) (st := s__law_open) l0 e0 True.intro k0
  have F1 := funP_mk (cp := fun _ => True) (st := s__law_trains) l1 e1 True.intro k1
  have F2 := funP_mk (cp := fun _ => True) (st := s__law_greatest) l2 e2 True.intro k2
  have F3 := funP_mk (cp := fun _ => True) (st := s__law_lowest) l3 e3 True.intro k3
  have F4 := funP_mk (cp := fun _ => True) (st := s__law_ratio) l4 e4 True.intro k4
  have F5 := funP_mk (cp := fun _ => True) (st := s__law_mixed) l5 e5 True.intro k5
  have F6 := funP_mk (cp := fun _ => True) (st := s__law_draw) l6 e6 True.intro k6
  have F7 := funP_mk (cp := fun _ => True) (st := s_lowest) l7 e7 True.intro k7
  have F8 := funP_mk (cp := fun _ => True) (st := s_ratio_of) l8 e8 True.intro k8
  have F9 := funP_mk (cp := fun _ => True) (st := s_flash_period) l9 e9 True.intro k9
  have F10 := funP_mk (cp := fun _ => True) (st := s_turned_round) l10 e10 True.intro k10
  have F11 := funP_mk (cp := fun _ => True) (st := s_is_number) l11 e11 True.intro k11
  have F12 := funP_mk (cp := fun v => v = .ref c12) (st := s_is_stock) l12 e12 rfl k12
  have T12 := PySem.W.tab_of T X r12 (tabIn_of a12 l12 rfl t12 w12)
  have F13 := funP_mk (cp := fun _ => True) (st := s__law_less) l13 e13 True.intro k13
  have F14 := funP_mk (cp := fun _ => True) (st := s_all_trains) l14 e14 True.intro k14
  have F15 := funP_mk (cp := fun _ => True) (st := s_train_for) l15 e15 True.intro k15
  have F16 := funP_mk (cp := fun _ => True) (st := s__law_same) l16 e16 True.intro k16
  have F17 := funP_mk (cp := fun _ => True) (st := s__law_far) l17 e17 True.intro k17
  have F18 := funP_mk (cp := fun _ => True) (st := s_less) l18 e18 True.intro k18
  have F19 := funP_mk (cp := fun _ => True) (st := s_minus) l19 e19 True.intro k19
  have F20 := funP_mk (cp := fun _ => True) (st := s_off_by) l20 e20 True.intro k20
  have F21 := funP_mk (cp := fun _ => True) (st := s_nearest_train) l21 e21 True.intro k21
  have F22 := funP_mk (cp := fun v => v = .ref c22) (st := s_is_train) l22 e22 rfl k22
  have T22 := PySem.W.tab_of T X r22 (tabIn_of a22 l22 rfl t22 w22)
  have F23 := funP_mk (cp := fun _ => True) (st := s__law_int) l23 e23 True.intro k23
  have F24 := funP_mk (cp := fun _ => True) (st := s_law) l24 e24 True.intro k24
  refine law_at [(c12, P12), (c22, P22)] (fun p hp => ?_) (fun p hp => ?_) (fun s u => .of_eq rfl) (fun base _ _ TB => ?_) (fd := PySem.W.fnOf "law" "law" (defArgs s_law) (defBody s_law) (defScope s_law) .none kV24 dc24 pm24 an24 cd24 ct24)
  · simp only [List.mem_cons, List.not_mem_nil, or_false] at hp
    rcases hp with rfl | rfl
    · exact T12
    · exact T22
  · simp only [List.mem_cons, List.not_mem_nil, or_false] at hp
    rcases hp with rfl | rfl
    · exact n12
    · exact n22
  show FnOk l.prog w K mg base (L2.CX l.prog w) 5 _ _ ["script"] (spL K (List.map (·.2) [(c12, P12), (c22, P22)]) 63 _)
  have Hf__law_open := df__law_open (P := l.prog) (w := w) (base := base) (tabs := List.map (·.2) [(c12, P12), (c22, P22)]) g  F0 (PySem.W.mg_of X G a0)
  have H__law_trains := d__law_trains (P := l.prog) (w := w) (base := base) (tabs := List.map (·.2) [(c12, P12), (c22, P22)]) (cls := fun _ => 0) g  F1 (PySem.W.mg_of X G a1)
  have H__law_greatest := d__law_greatest (P := l.prog) (w := w) (base := base) (tabs := List.map (·.2) [(c12, P12), (c22, P22)]) (cls := fun _ => 0) g  F2 (PySem.W.mg_of X G a2)
  have H__law_lowest := d__law_lowest (P := l.prog) (w := w) (base := base) (tabs := List.map (·.2) [(c12, P12), (c22, P22)]) (cls := fun _ => 0) g H__law_greatest F3 (PySem.W.mg_of X G a3)
  have H__law_ratio := d__law_ratio (P := l.prog) (w := w) (base := base) (tabs := List.map (·.2) [(c12, P12), (c22, P22)]) (cls := fun _ => 0) g H__law_lowest F4 (PySem.W.mg_of X G a4)
  have H__law_mixed := d__law_mixed (P := l.prog) (w := w) (base := base) (tabs := List.map (·.2) [(c12, P12), (c22, P22)]) (cls := fun _ => 0) g  F5 (PySem.W.mg_of X G a5)
  have H__law_draw := d__law_draw (P := l.prog) (w := w) (base := base) (tabs := List.map (·.2) [(c12, P12), (c22, P22)]) (cls := fun _ => 0) g H__law_mixed F6 (PySem.W.mg_of X G a6)
  have H_lowest := d_lowest (P := l.prog) (w := w) (base := base) (tabs := List.map (·.2) [(c12, P12), (c22, P22)]) (cls := fun _ => 0) g  F7 (PySem.W.mg_of X G a7)
  have H_ratio_of := d_ratio_of (P := l.prog) (w := w) (base := base) (tabs := List.map (·.2) [(c12, P12), (c22, P22)]) (cls := fun _ => 0) g H_lowest F8 (PySem.W.mg_of X G a8)
  have H_flash_period := d_flash_period (P := l.prog) (w := w) (base := base) (tabs := List.map (·.2) [(c12, P12), (c22, P22)]) (cls := fun _ => 0) g H_lowest H_ratio_of F9 (PySem.W.mg_of X G a9)
  have H_turned_round := d_turned_round (P := l.prog) (w := w) (base := base) (tabs := List.map (·.2) [(c12, P12), (c22, P22)]) (cls := fun _ => 0) g  F10 (PySem.W.mg_of X G a10)
  have H_is_number := d_is_number (P := l.prog) (w := w) (base := base) (tabs := List.map (·.2) [(c12, P12), (c22, P22)]) (cls := fun _ => 0) g  F11 (PySem.W.mg_of X G a11)
  have H_is_stock := d_is_stock (P := l.prog) (w := w) (base := base) (tabs := List.map (·.2) [(c12, P12), (c22, P22)]) (cls := fun _ => 0) g H_is_number (TB (c12, P12) (by simp)) (by simp) F12 (PySem.W.mg_of X G a12)
  have H__law_less := d__law_less (P := l.prog) (w := w) (base := base) (tabs := List.map (·.2) [(c12, P12), (c22, P22)]) (cls := fun _ => 0) g  F13 (PySem.W.mg_of X G a13)
  have H_all_trains := d_all_trains (P := l.prog) (w := w) (base := base) (tabs := List.map (·.2) [(c12, P12), (c22, P22)]) (cls := fun _ => 0) g  F14 (PySem.W.mg_of X G a14)
  have H_train_for := d_train_for (P := l.prog) (w := w) (base := base) (tabs := List.map (·.2) [(c12, P12), (c22, P22)]) (cls := fun _ => 0) g H_all_trains H_ratio_of F15 (PySem.W.mg_of X G a15)
  have H__law_same := d__law_same (P := l.prog) (w := w) (base := base) (tabs := List.map (·.2) [(c12, P12), (c22, P22)]) (cls := fun _ => 0) g  F16 (PySem.W.mg_of X G a16)
  have H__law_far := d__law_far (P := l.prog) (w := w) (base := base) (tabs := List.map (·.2) [(c12, P12), (c22, P22)]) (cls := fun _ => 0) g  F17 (PySem.W.mg_of X G a17)
  have H_less := d_less (P := l.prog) (w := w) (base := base) (tabs := List.map (·.2) [(c12, P12), (c22, P22)]) (cls := fun _ => 0) g  F18 (PySem.W.mg_of X G a18)
  have H_minus := d_minus (P := l.prog) (w := w) (base := base) (tabs := List.map (·.2) [(c12, P12), (c22, P22)]) (cls := fun _ => 0) g H_lowest F19 (PySem.W.mg_of X G a19)
  have H_off_by := d_off_by (P := l.prog) (w := w) (base := base) (tabs := List.map (·.2) [(c12, P12), (c22, P22)]) (cls := fun _ => 0) g H_minus H_ratio_of F20 (PySem.W.mg_of X G a20)
  have H_nearest_train := d_nearest_train (P := l.prog) (w := w) (base := base) (tabs := List.map (·.2) [(c12, P12), (c22, P22)]) (cls := fun _ => 0) g H_all_trains H_less H_off_by F21 (PySem.W.mg_of X G a21)
  have H_is_train := d_is_train (P := l.prog) (w := w) (base := base) (tabs := List.map (·.2) [(c12, P12), (c22, P22)]) (cls := fun _ => 0) g H_is_number (TB (c22, P22) (by simp)) (by simp) F22 (PySem.W.mg_of X G a22)
  have H__law_int := d__law_int (P := l.prog) (w := w) (base := base) (tabs := List.map (·.2) [(c12, P12), (c22, P22)]) (cls := fun _ => 0) g  F23 (PySem.W.mg_of X G a23)
  exact d_law (cls := fun _ => 0) g H__law_draw H__law_far H__law_int H__law_less H__law_lowest Hf__law_open H__law_ratio H__law_same H__law_trains H_flash_period H_is_stock H_is_train H_nearest_train H_ratio_of H_train_for H_turned_round F24 (n := 63) hL
end PL
set_option Elab.async false
set_option linter.all false
set_option maxRecDepth 100000
set_option autoImplicit false
/-! Evaluation of readings by simp; bounds. -/
namespace PL
open PySem PySem.Spec PyProof.Rows L2
@[simp] theorem forF_nil {g : D → DEnv → Option DEnv} {b : DEnv → O} {σ : DEnv} : forF g b [] σ = .nx σ := rfl
/-! operations, case by case -/
@[simp] theorem dIx_list {ds : List D} {i : Int} : dIx (.list ds) (.int i) = (ixN ds.length i).bind fun j => ds[j]? := rfl
@[simp] theorem dIx_tuple {ds : List D} {i : Int} : dIx (.tuple ds) (.int i) = (ixN ds.length i).bind fun j => ds[j]? := rfl
@[simp] theorem dAdd_int {a b : Int} : dAdd (.int a) (.int b) = some (.int (a + b)) := rfl
@[simp] theorem dAdd_tuple {a b : List D} : dAdd (.tuple a) (.tuple b) = if a.length + b.length ≤ sizeLine then some (.tuple (a ++ b)) else none := rfl
@[simp] theorem dAdd_list {a b : List D} : dAdd (.list a) (.list b) = if a.length + b.length ≤ sizeLine then some (.list (a ++ b)) else none := rfl
@[simp] theorem dMul_int {a b : Int} : dMul (.int a) (.int b) = if cMul a b = true then some (.int (a * b)) else none := rfl
@[simp] theorem dMul_tuple {xs : List D} {k : Int} : dMul (.tuple xs) (.int k) = if 2 ≤ k ∧ k ≤ 1000 ∧ 1 ≤ xs.length ∧ xs.length ≤ 1000 then some (.tuple (List.replicate k.toNat xs).flatten) else none := rfl
@[simp] theorem dII_int {C : Int → Int → Bool} {g : Int → Int → D} {a b : Int} : dII C g (.int a) (.int b) = if C a b = true then some (g a b) else none := rfl
@[simp] theorem iMul_int {a b : Int} : iMul (.int a) (.int b) = if cMulS a b = true then some (.int (a * b)) else none := rfl
@[simp] theorem iAdd_int {a b : Int} : iAdd (.int a) (.int b) = some (.int (a + b)) := rfl
@[simp] theorem iSub_int {a b : Int} : iSub (.int a) (.int b) = some (.int (a - b)) := rfl
@[simp] theorem dNeg_int {a : Int} : dNeg (.int a) = some (.int (-a)) := rfl
@[simp] theorem cAbs_int {a : Int} : cAbs [.int a] = some (.int a.natAbs) := rfl
@[simp] theorem cLen_list {ds : List D} : cLen [.list ds] = some (.int ds.length) := rfl
@[simp] theorem cLen_tuple {ds : List D} : cLen [.tuple ds] = some (.int ds.length) := rfl
@[simp] theorem cInt_int {a : Int} : cInt [.int a] = some (.int a) := rfl
@[simp] theorem cInt_bool {b : Bool} : cInt [.bool b] = some (.int (if b then 1 else 0)) := rfl
@[simp] theorem cMax2_int {a b : Int} : cMax2 [.int a, .int b] = some (.int (max a b)) := rfl
@[simp] theorem cMin2_int {a b : Int} : cMin2 [.int a, .int b] = some (.int (min a b)) := rfl
@[simp] theorem cSeq_list {ds : List D} : cSeq [.list ds] = some ds := rfl
@[simp] theorem cSeq_tuple {ds : List D} : cSeq [.tuple ds] = some ds := rfl
@[simp] theorem cList_list {ds : List D} : cList [.list ds] = some (.list ds) := rfl
@[simp] theorem cList_tuple {ds : List D} : cList [.tuple ds] = some (.list ds) := rfl
@[simp] theorem cTuple_list {ds : List D} : cTuple [.list ds] = some (.tuple ds) := rfl
@[simp] theorem cTuple_tuple {ds : List D} : cTuple [.tuple ds] = some (.tuple ds) := rfl
@[simp] theorem cGcd_int {a b : Int} : cGcd [.int a, .int b] = some (.int (Nat.gcd a.natAbs b.natAbs : Nat)) := rfl
@[simp] theorem cSorted_list {ds : List D} : cSorted [.list ds] = if okSort ds = true then some (.list (sortD ds)) else none := by
  unfold cSorted cSort
  simp only
  split <;> rfl
@[simp] theorem itemsS_list {ds : List D} : itemsS (.list ds) = some ds := rfl
@[simp] theorem itemsS_tuple {ds : List D} : itemsS (.tuple ds) = some ds := rfl
@[simp] theorem dRev_list {ds : List D} : dRev (.list ds) = some (.list ds.reverse) := rfl
@[simp] theorem dRev_tuple {ds : List D} : dRev (.tuple ds) = some (.tuple ds.reverse) := rfl
@[simp] theorem dSl_list {ds : List D} {l h : Option Int} : dSl (.list ds) l h = some (.list (cutD ds l h)) := rfl
@[simp] theorem dSl_tuple {ds : List D} {l h : Option Int} : dSl (.tuple ds) l h = some (.tuple (cutD ds l h)) := rfl
theorem dNotIn_of {d e : D} {b : Bool} (h : dIn d e = some (.bool b)) : dNotIn d e = some (.bool (!b)) := by
  unfold dNotIn
  rw [h]
/-- no lent list stands there -/
def Cell.free : Cell → Bool
  | .tap _ => false
  | _ => true
@[simp] theorem free_tap {ds : List D} : (Cell.tap ds).free = false := rfl
@[simp] theorem free_own {ds : List D} : (Cell.own ds).free = true := rfl
@[simp] theorem free_val {d : D} : (Cell.val d).free = true := rfl
@[simp] theorem free_emp : Cell.emp.free = true := rfl
@[simp] theorem setC_eq {i : Nat} {c : Cell} {σ : DEnv} : setC i c σ = match σ[i]? with
    | some x => if x.free = true then some (σ.set i c) else none
    | none => none := by
  unfold setC
  cases σ[i]? with
  | none => rfl
  | some x => cases x <;> rfl
theorem cMul_of {a b : Int} {n : Nat} (ha : a.natAbs < 2 ^ n) (hb : b.natAbs < 2 ^ n) (hn : 2 * n ≤ 1000000 := by decide) : cMul a b = true := by
  unfold cMul
  rw [decide_eq_true_eq]
  have l1 : a.natAbs.log2 ≤ n := by
    by_cases h : a.natAbs = 0
    · rw [h]; simp
    · have := (Nat.log2_lt h).mpr ha
      omega
  have l2 : b.natAbs.log2 < n ∨ b.natAbs.log2 = 0 := by
    by_cases h : b.natAbs = 0
    · right; rw [h]; simp
    · left; exact (Nat.log2_lt h).mpr hb
  by_cases h : a.natAbs = 0
  · have : a.natAbs.log2 = 0 := by rw [h]; simp
    rcases l2 with l2 | l2 <;> omega
  · have := (Nat.log2_lt h).mpr ha
    rcases l2 with l2 | l2 <;> omega
theorem cDiv_of {a b : Int} (h0 : 0 < b) (hb : b.natAbs < 2 ^ 9000) : cDiv a b = true := by
  unfold cDiv
  simp only [Bool.and_eq_true, decide_eq_true_eq]
  exact ⟨h0, (Nat.log2_lt (by omega)).mpr hb⟩
theorem cMod_of {a b : Int} (h0 : 0 < b) : cMod a b = true := by
  unfold cMod
  simpa using h0
theorem rng1_ok {n : Int} (h1 : n.natAbs < 2 ^ 61) : rng1 [.int n] = some (rangeD 0 n.toNat) := by
  show (if small62 n = true then some (rangeD 0 n.toNat) else none) = _
  rw [if_pos (small62_of h1)]
theorem rng1_nat {m : Nat} (h : m < 2 ^ 61) : rng1 [.int (m : Int)] = some (rangeD 0 m) := by
  have := rng1_ok (n := (m : Int)) (by simpa using h)
  rw [Int.toNat_natCast] at this
  exact this
theorem rng2_ok {a b : Int} (h1 : a.natAbs < 2 ^ 61) (h2 : b.natAbs < 2 ^ 61) : rng2 [.int a, .int b] = some (rangeD a (b - a).toNat) := by
  show (if small62 a = true ∧ small62 b = true then some (rangeD a (b - a).toNat) else none) = _
  rw [if_pos ⟨small62_of h1, small62_of h2⟩]
theorem sizeLine_mil : 1000000 ≤ sizeLine := by decide

/-! ### data that == takes -/
def Sh (n : Nat) (d : D) : Prop := d.canLay0 = true ∧ d.depth ≤ n
theorem Sh.int {n : Nat} {i : Int} : Sh n (.int i) := ⟨by simp [PyData.canLay0], by simp [PyData.depth]⟩
theorem Sh.bool {n : Nat} {b : Bool} : Sh n (.bool b) := ⟨by simp [PyData.canLay0], by simp [PyData.depth]⟩
theorem Sh.none {n : Nat} : Sh n .none := ⟨by simp [PyData.canLay0], by simp [PyData.depth]⟩
theorem Sh.all {n : Nat} : ∀ {ds : List D}, (∀ d ∈ ds, Sh n d) → PyData.canLayAll0 ds = true ∧ PyData.depthAll ds ≤ n
  | [], _ => ⟨by simp [PyData.canLayAll0], by simp [PyData.depthAll]⟩
  | d :: ds, h => by
    obtain ⟨h1, h2⟩ := h d List.mem_cons_self
    obtain ⟨h3, h4⟩ := Sh.all fun e he => h e (List.mem_cons_of_mem _ he)
    exact ⟨by simp [PyData.canLayAll0, h1, h3], by simp only [PyData.depthAll]; omega⟩
theorem Sh.tuple {n : Nat} {ds : List D} (h : ∀ d ∈ ds, Sh n d) : Sh (n + 1) (.tuple ds) := by
  obtain ⟨h1, h2⟩ := Sh.all h
  exact ⟨by simp [PyData.canLay0, h1], by simp only [PyData.depth]; omega⟩
theorem Sh.list {n : Nat} {ds : List D} (h : ∀ d ∈ ds, Sh n d) : Sh (n + 1) (.list ds) := by
  obtain ⟨h1, h2⟩ := Sh.all h
  exact ⟨by simp [PyData.canLay0, h1], by simp only [PyData.depth]; omega⟩
theorem Sh.mono {n m : Nat} {d : D} (h : Sh n d) (hm : n ≤ m) : Sh m d := ⟨h.1, Nat.le_trans h.2 hm⟩
theorem Sh.ok {n : Nat} {d : D} (h : Sh n d) (hn : n ≤ 64 := by decide) : SeqAt.shaped d = true := by
  unfold SeqAt.shaped
  rw [h.1, Bool.true_and, decide_eq_true_eq]
  exact Nat.le_trans h.2 hn
theorem dEq_sh {n m : Nat} {d e : D} (h : Sh n d) (h' : Sh m e) (hn : n ≤ 64 := by decide) (hm : m ≤ 64 := by decide) : dEq d e = some (.bool (PyData.eqv d e)) := by
  unfold dEq
  rw [if_pos ⟨h.ok hn, h'.ok hm⟩]
theorem dNe_sh {n m : Nat} {d e : D} (h : Sh n d) (h' : Sh m e) (hn : n ≤ 64 := by decide) (hm : m ≤ 64 := by decide) : dNe d e = some (.bool (!PyData.eqv d e)) := by
  unfold dNe
  rw [if_pos ⟨h.ok hn, h'.ok hm⟩]
theorem dIn_list {n m : Nat} {d : D} {ds : List D} (h : Sh n d) (h' : ∀ e ∈ ds, Sh m e) (hn : n ≤ 64 := by decide) (hm : m + 1 ≤ 64 := by decide) : dIn d (.list ds) = some (.bool (ds.any fun z => PyData.eqv z d)) := by
  unfold dIn
  simp only
  rw [if_pos ⟨h.ok hn, (Sh.list h').ok hm⟩]
theorem dIn_tuple {n m : Nat} {d : D} {ds : List D} (h : Sh n d) (h' : ∀ e ∈ ds, Sh m e) (hn : n ≤ 64 := by decide) (hm : m + 1 ≤ 64 := by decide) : dIn d (.tuple ds) = some (.bool (ds.any fun z => PyData.eqv z d)) := by
  unfold dIn
  simp only
  rw [if_pos ⟨h.ok hn, (Sh.tuple h').ok hm⟩]
@[simp] theorem dEq_int {a b : Int} : dEq (.int a) (.int b) = some (.bool (a == b)) := by
  rw [dEq_sh (n := 0) (m := 0) Sh.int Sh.int]; simp [PyData.eqv]
@[simp] theorem dNe_int {a b : Int} : dNe (.int a) (.int b) = some (.bool (!(a == b))) := by
  rw [dNe_sh (n := 0) (m := 0) Sh.int Sh.int]; simp [PyData.eqv]
@[simp] theorem dLt_int {a b : Int} : dLt (.int a) (.int b) = some (.bool (decide (a < b))) := rfl
theorem eqvAll_map {α : Type} [DecidableEq α] {enc : α → D} (h : ∀ a b, PyData.eqv (enc a) (enc b) = decide (a = b)) : ∀ xs ys : List α, PyData.eqvAll (xs.map enc) (ys.map enc) = decide (xs = ys)
  | [], [] => by simp [PyData.eqvAll]
  | [], _ :: _ => by simp [PyData.eqvAll]
  | _ :: _, [] => by simp [PyData.eqvAll]
  | x :: xs, y :: ys => by
    rw [List.map_cons, List.map_cons, PyData.eqvAll, h x y, eqvAll_map h xs ys, ← Bool.decide_and]
    exact decide_eq_decide.mpr (by rw [List.cons.injEq])
end PL
set_option Elab.async false
set_option linter.all false
set_option maxRecDepth 100000
set_option maxHeartbeats 1000000
set_option autoImplicit false
/-! Comprehensions, quantifiers, loops, turn by turn. -/
namespace PL
open PySem PySem.Spec PyProof.Rows L2

/-- one turn of a comprehension -/
def turnL (vs : List Nat) (g : D → DEnv → Option DEnv) (t : DEnv → R Bool) (f : DEnv → R D) (d : D) (σ : DEnv) : R (Option D) := match g d σ with
  | none => .bad
  | some σ1 => (t σ1).noX.bind fun c σ2 => if c = true then (f σ2).noX.bind fun y σ3 => .ok (some y) (wipeD σ3 vs) else .ok none (wipeD σ2 vs)
theorem lcF_cons {vs : List Nat} {g : D → DEnv → Option DEnv} {t : DEnv → R Bool} {f : DEnv → R D} {d : D} {ds acc : List D} {σ : DEnv} (h : acc.length < 1000000) :
    lcF vs g t f (d :: ds) acc σ = match turnL vs g t f d σ with
      | .ok (some y) σ1 => lcF vs g t f ds (acc ++ [y]) σ1
      | .ok none σ1 => lcF vs g t f ds acc σ1
      | .exc c σ1 => .exc c σ1
      | .bad => .bad := by
  rw [lcF, turnL]
  cases g d σ with
  | none => rfl
  | some σ1 =>
    cases ht : t σ1 with
    | exc c σ2 => simp [ht]
    | bad => simp [ht]
    | ok c σ2 =>
      cases c with
      | false => simp [ht]
      | true =>
        cases hf : f σ2 with
        | exc c σ3 => simp [ht, hf]
        | bad => simp [ht, hf]
        | ok y σ3 => simp [ht, hf, h]
theorem lcF_map {vs : List Nat} {g : D → DEnv → Option DEnv} {t : DEnv → R Bool} {f : DEnv → R D} {σ : DEnv} {k : D → Option D} : ∀ {ds acc : List D}, (∀ d ∈ ds, turnL vs g t f d σ = .ok (k d) σ) → acc.length + ds.length ≤ 1000000 → lcF vs g t f ds acc σ = .ok (acc ++ ds.filterMap k) σ
  | [], acc, _, _ => by rw [lcF]; simp
  | d :: ds, acc, h, hl => by
    simp only [List.length_cons] at hl
    rw [lcF_cons (by omega), h d List.mem_cons_self]
    cases hk : k d with
    | none =>
      simp only
      rw [lcF_map (fun e he => h e (List.mem_cons_of_mem _ he)) (by omega), List.filterMap_cons_none hk]
    | some y =>
      simp only
      rw [lcF_map (fun e he => h e (List.mem_cons_of_mem _ he)) (by simp; omega), List.filterMap_cons_some hk, List.append_assoc]
      rfl
/-- a comprehension whose elements change the state -/
theorem lcF_inv {vs : List Nat} {g : D → DEnv → Option DEnv} {t : DEnv → R Bool} {f : DEnv → R D} {I : Nat → DEnv → Prop} {Pd : D → Prop} {N : Nat} : ∀ {ds acc : List D} {n : Nat} {σ : DEnv}, (∀ d ∈ ds, ∀ n < N, ∀ σ, I n σ → ∃ y σ', turnL vs g t f d σ = .ok (some y) σ' ∧ I (n + 1) σ' ∧ Pd y) → I n σ → acc.length + ds.length ≤ 1000000 → n + ds.length ≤ N →
    ∃ ys σ', lcF vs g t f ds acc σ = .ok (acc ++ ys) σ' ∧ ys.length = ds.length ∧ I (n + ds.length) σ' ∧ ∀ y ∈ ys, Pd y
  | [], acc, n, σ, _, hi, _, _ => ⟨[], σ, by rw [lcF]; simp, rfl, hi, by simp⟩
  | d :: ds, acc, n, σ, h, hi, hl, hN => by
    simp only [List.length_cons] at hl hN
    obtain ⟨y, σ1, e, i1, p1⟩ := h d List.mem_cons_self n (by omega) σ hi
    obtain ⟨ys, σ2, e2, l2, i2, p2⟩ := lcF_inv (acc := acc ++ [y]) (fun e he => h e (List.mem_cons_of_mem _ he)) i1 (by simp; omega) (by omega)
    refine ⟨y :: ys, σ2, ?_, by simp [l2], ?_, fun z hz => ?_⟩
    · rw [lcF_cons (by omega), e]
      simp only
      rw [e2, List.append_assoc]
      rfl
    · have e3 : n + (d :: ds).length = n + 1 + ds.length := by simp; omega
      rw [e3]
      exact i2
    · rcases List.mem_cons.mp hz with rfl | hz
      · exact p1
      · exact p2 z hz
theorem lc_eq {vs : List Nat} {src : DEnv → R (List D)} {g : D → DEnv → Option DEnv} {t : DEnv → R Bool} {f : DEnv → R D} {σ σ1 : DEnv} {ds acc : List D} {σ2 : DEnv} (h1 : src σ = .ok ds σ1) (h2 : lcF vs g t f ds [] (wipeD σ1 vs) = .ok acc σ2) : lc vs src g t f σ = .ok acc (backD σ1 σ2 vs) := by
  unfold lc
  rw [h1]
  simp only [R.bind]
  rw [h2]
/-- any, all -/
theorem qF_eq {stop : Bool} {vs : List Nat} {g : D → DEnv → Option DEnv} {f : DEnv → R D} {σ : DEnv} {k : D → Bool} : ∀ {ds : List D}, (∀ d ∈ ds, stG vs g f d σ = some (.bool (k d), σ)) → qF stop vs g f ds σ = .ok (if stop then ds.any k else ds.all k) σ
  | [], _ => by cases stop <;> rfl
  | d :: ds, h => by
    rw [qF, h d List.mem_cons_self]
    have ih := qF_eq (stop := stop) (ds := ds) fun e he => h e (List.mem_cons_of_mem _ he)
    simp only
    rw [ih]
    cases stop <;> cases hk : k d <;> simp [hk]
theorem qE_eq {stop : Bool} {vs : List Nat} {src : DEnv → R (List D)} {g : D → DEnv → Option DEnv} {f : DEnv → R D} {σ σ1 : DEnv} {ds : List D} {k : D → Bool} (h1 : src σ = .ok ds σ1) (h2 : ∀ d ∈ ds, stG vs g f d (wipeD σ1 vs) = some (.bool (k d), wipeD σ1 vs)) :
    qE stop vs src g f σ = .ok (.bool (if stop then ds.any k else ds.all k)) (backD σ1 (wipeD σ1 vs) vs) := by
  unfold qE
  rw [h1]
  simp only [R.bind]
  rw [qF_eq h2]
/-- the first item that stops decides -/
theorem qF_all_pre {vs : List Nat} {g : D → DEnv → Option DEnv} {f : DEnv → R D} {σ : DEnv} {d : D} : ∀ {pre post : List D}, (∀ e ∈ pre, stG vs g f e σ = some (.bool true, σ)) → stG vs g f d σ = some (.bool false, σ) → qF false vs g f (pre ++ d :: post) σ = .ok false σ
  | [], _, _, h => by rw [List.nil_append, qF, h]; rfl
  | e :: pre, post, h1, h2 => by
    rw [List.cons_append, qF, h1 e List.mem_cons_self]
    simp only
    rw [if_neg (by decide)]
    exact qF_all_pre (fun a ha => h1 a (List.mem_cons_of_mem _ ha)) h2

/-- one turn of a loop -/
def turnF (g : D → DEnv → Option DEnv) (b : DEnv → O) (d : D) (σ : DEnv) : O := match g d σ with
  | none => .bad
  | some σ1 => b σ1
theorem forF_cons {g : D → DEnv → Option DEnv} {b : DEnv → O} {d : D} {ds : List D} {σ : DEnv} : forF g b (d :: ds) σ = match turnF g b d σ with
    | .nx σ2 => forF g b ds σ2
    | .cnt σ2 => forF g b ds σ2
    | .brk σ2 => .nx σ2
    | x => x := by
  rw [forF, turnF]
  cases g d σ with
  | none => rfl
  | some σ1 => cases hb : b σ1 <;> simp [hb]
theorem forF_rel {S : Type} {g : D → DEnv → Option DEnv} {b : DEnv → O} {Rel : S → DEnv → Prop} {step : S → D → S} : ∀ {ds : List D} {s : S} {σ : DEnv}, (∀ d ∈ ds, ∀ s σ, Rel s σ → ∃ σ', turnF g b d σ = .nx σ' ∧ Rel (step s d) σ') → Rel s σ → ∃ σ', forF g b ds σ = .nx σ' ∧ Rel (ds.foldl step s) σ'
  | [], s, σ, _, h => ⟨σ, rfl, h⟩
  | d :: ds, s, σ, h, hr => by
    obtain ⟨σ1, e1, r1⟩ := h d List.mem_cons_self s σ hr
    obtain ⟨σ2, e2, r2⟩ := forF_rel (fun e he => h e (List.mem_cons_of_mem _ he)) r1
    exact ⟨σ2, by rw [forF_cons, e1]; exact e2, r2⟩

/-! ### two clauses; cells behind a block -/
theorem lcF2_flat {vs vs1 : List Nat} {g g1 : D → DEnv → Option DEnv} {t t1 : DEnv → R Bool} {src1 : DEnv → R (List D)} {f : DEnv → R D} {σ : DEnv} {k : D → List D} : ∀ {ds acc : List D},
    (∀ d ∈ ds, ∃ σ1 σ2 es σ3 σ4, g d σ = some σ1 ∧ t σ1 = .ok true σ2 ∧ src1 σ2 = .ok es σ3 ∧ (∀ acc : List D, acc.length + (k d).length ≤ 900000 → lcF vs1 g1 t1 f es acc (wipeD σ3 vs1) = .ok (acc ++ k d) σ4) ∧ wipeD σ4 vs = σ) →
    acc.length + (ds.flatMap k).length ≤ 900000 → lcF2 vs vs1 g t src1 g1 t1 f ds acc σ = .ok (acc ++ ds.flatMap k) σ
  | [], acc, _, _ => by rw [lcF2]; simp
  | d :: ds, acc, h, hl => by
    obtain ⟨σ1, σ2, es, σ3, σ4, e1, e2, e3, e4, e5⟩ := h d List.mem_cons_self
    simp only [List.flatMap_cons, List.length_append] at hl
    have e6 := e4 acc (by omega)
    rw [lcF2, e1]
    simp only [e2, R.noX, R.bind, if_true, e3, e6, e5]
    rw [lcF2_flat (fun e he => h e (List.mem_cons_of_mem _ he)) (by rw [List.length_append]; omega), List.append_assoc]
    rfl
theorem lc2_eq {vs vs1 : List Nat} {src src1 : DEnv → R (List D)} {g g1 : D → DEnv → Option DEnv} {t t1 : DEnv → R Bool} {f : DEnv → R D} {σ σ1 σ2 : DEnv} {ds acc : List D} (h1 : src σ = .ok ds σ1) (h2 : lcF2 vs vs1 g t src1 g1 t1 f ds [] (wipeD σ1 vs) = .ok acc σ2) : lc2 vs vs1 src g t src1 g1 t1 f σ = .ok acc (backD σ1 σ2 vs) := by
  unfold lc2
  rw [h1]
  simp only [R.bind]
  rw [h2]
/-- what a block leaves of a name that is its own -/
def backC : Option Cell → Cell
  | some (.val d) => .val d
  | _ => .emp
@[simp] theorem backC_free {o : Option Cell} : (backC o).free = true := by
  unfold backC
  split <;> rfl
@[simp] theorem backC_val {d : D} : backC (some (.val d)) = .val d := rfl
@[simp] theorem backC_emp : backC (some .emp) = .emp := rfl
theorem backD_cons {σ0 σ1 : DEnv} {v : Nat} {vs : List Nat} : backD σ0 σ1 (v :: vs) = (backD σ0 σ1 vs).set v (backC σ0[v]?) := by
  rw [backD]
  cases h : σ0[v]? with
  | none => simp [backC]
  | some c => cases c <;> simp [backC]
theorem backD_nil {σ0 σ1 : DEnv} : backD σ0 σ1 [] = σ1 := rfl
theorem wipeD_cons {σ : DEnv} {v : Nat} {vs : List Nat} : wipeD σ (v :: vs) = (wipeD σ vs).set v .emp := rfl
theorem wipeD_nil {σ : DEnv} : wipeD σ [] = σ := rfl
end PL
set_option Elab.async false
set_option linter.all false
set_option maxRecDepth 100000
set_option maxHeartbeats 1000000
set_option autoImplicit false
namespace PL
open PySem PySem.Spec PyProof.Rows L2
/-- the lowest terms -/
def low (p w : Int) : Int × Int := (p / (Nat.gcd p.natAbs w.natAbs : Nat), w / (Nat.gcd p.natAbs w.natAbs : Nat))
def pr (x : Int × Int) : D := .tuple [.int x.1, .int x.2]
theorem gcd_pos {p w : Int} (h : 0 < w) : 0 < ((Nat.gcd p.natAbs w.natAbs : Nat) : Int) := by
  have := Nat.gcd_pos_of_pos_right p.natAbs (n := w.natAbs) (by omega)
  omega
theorem gcd_lt {p w : Int} {n : Nat} (h : 0 < w) (hw : w.natAbs < 2 ^ n) : ((Nat.gcd p.natAbs w.natAbs : Nat) : Int).natAbs < 2 ^ n := by
  have := Nat.gcd_le_right p.natAbs (n := w.natAbs) (by omega)
  simp only [Int.natAbs_natCast]
  omega
theorem lowest_spec {p w : Int} (h : 0 < w) (hw : w.natAbs < 2 ^ 9000) : F_lowest [.int p, .int w] = .ok (pr (low p w)) := by
  have h1 : ¬ w < 0 := by omega
  have c1 : ∀ a, cDiv a ((Nat.gcd p.natAbs w.natAbs : Nat) : Int) = true := fun a => cDiv_of (gcd_pos h) (gcd_lt h hw)
  simp [F_lowest, b_lowest, h1, c1, pr, low, dLt]

def rowI (ds : List D) : Prop := ∀ d ∈ ds, ∃ i : Int, d = .int i
theorem gcd_step {a b : Int} (ha : 0 ≤ a) (hb : 0 < b) : Nat.gcd a.natAbs b.natAbs = Nat.gcd b.natAbs (a % b).natAbs := by
  have e : (a % b).natAbs = a.natAbs % b.natAbs := by
    have h1 : (a.natAbs : Int) = a := by omega
    have h2 : (b.natAbs : Int) = b := by omega
    have h3 : ((a.natAbs % b.natAbs : Nat) : Int) = a % b := by rw [Int.natCast_emod, h1, h2]
    omega
  rw [e, Nat.gcd_comm a.natAbs, Nat.gcd_rec, Nat.gcd_comm]
/-- Euclid's turns -/
theorem great_loop : ∀ (k : Nat) (ds : List D) (a b : Int) (c2 c3 : Cell), 2 * k + 1 ≤ ds.length → 0 ≤ a → 0 ≤ b → b.natAbs < 2 ^ k → c2.free = true → c3.free = true →
    ∃ (b' : Int) (c2' c3' : Cell), forF (gN 2) (oSeq (oIf (bV (bin dEq (rdV 1) (kI 0))) oBrk oNx) (oSeq (oSet 3 (bin dMod (rdV 0) (rdV 1))) (oSeq (oSet 0 (rdV 1)) (oSet 1 (rdV 3))))) ds [.val (.int a), .val (.int b), c2, c3]
      = .nx [.val (.int (Nat.gcd a.natAbs b.natAbs : Nat)), .val (.int b'), c2', c3'] := by
  intro k
  induction k with
  | zero =>
    intro ds a b c2 c3 hl ha hb hk h2 h3
    have hb0 : b = 0 := by
      have : b.natAbs < 1 := hk
      omega
    subst hb0
    cases ds with
    | nil => simp at hl
    | cons d ds =>
      refine ⟨0, .val d, c3, ?_⟩
      simp [forF, h2]
      omega
  | succ k ih =>
    intro ds a b c2 c3 hl ha hb hk h2 h3
    match ds, hl with
    | d1 :: d2 :: ds, hl =>
      by_cases hb0 : b = 0
      · subst hb0
        refine ⟨0, .val d1, c3, ?_⟩
        simp [forF, h2]
        omega
      · have hbp : 0 < b := by omega
        have e1 : Nat.gcd a.natAbs b.natAbs = Nat.gcd b.natAbs (a % b).natAbs := gcd_step ha hbp
        have r0 : 0 ≤ a % b := Int.emod_nonneg _ (by omega)
        have r1 : a % b < b := Int.emod_lt_of_pos _ hbp
        have cm : ∀ x : Int, cMod x b = true := fun x => cMod_of hbp
        by_cases hr0 : a % b = 0
        · refine ⟨0, .val d2, .val (.int 0), ?_⟩
          rw [e1, hr0]
          simp [forF, h2, h3, hb0, hr0, hbp]
          omega
        · have hrp : 0 < a % b := by omega
          have e2 : Nat.gcd b.natAbs (a % b).natAbs = Nat.gcd (a % b).natAbs (b % (a % b)).natAbs := gcd_step hb hrp
          have q0 : 0 ≤ b % (a % b) := Int.emod_nonneg _ (by omega)
          have q1 : b % (a % b) < a % b := Int.emod_lt_of_pos _ hrp
          have q2 : 2 * (b % (a % b)) < b := by
            have h4 := Int.emod_add_mul_ediv b (a % b)
            have h5 : 1 ≤ b / (a % b) := by
              have := Int.le_ediv_of_mul_le hrp (show 1 * (a % b) ≤ b by omega)
              omega
            have h6 : (a % b) * 1 ≤ (a % b) * (b / (a % b)) := Int.mul_le_mul_of_nonneg_left h5 r0
            omega
          have hk' : (b % (a % b)).natAbs < 2 ^ k := by
            have : 2 ^ (k + 1) = 2 * 2 ^ k := by rw [Nat.pow_succ]; omega
            omega
          obtain ⟨b', c2', c3', h7⟩ := ih ds (a % b) (b % (a % b)) (.val d2) (.val (.int (b % (a % b)))) (by simp at hl; omega) r0 q0 hk' rfl rfl
          refine ⟨b', c2', c3', ?_⟩
          rw [e1, e2, ← h7]
          simp [forF, h2, h3, hb0, hr0, hbp, hrp]
theorem great_spec {a b : Int} (ha : 0 ≤ a) (hb : 0 ≤ b) (hk : b.natAbs < 2 ^ 2000) : F__law_greatest [.int a, .int b] = .ok (.int (Nat.gcd a.natAbs b.natAbs : Nat)) := by
  obtain ⟨b', c2, c3, h⟩ := great_loop 2000 (rangeD 0 6000) a b .emp .emp (by simp [rangeD]) ha hb hk rfl rfl
  have h0 := rng1_ok (n := 6000) (by decide)
  simp [F__law_greatest, b__law_greatest, h0, h]
theorem lawlow_spec {p w : Int} (h : 0 < w) (hw : w.natAbs < 2 ^ 2000) : F__law_lowest [.int p, .int w] = .ok (pr (low p w)) := by
  have h1 : ¬ w < 0 := by omega
  have hw' : w.natAbs < 2 ^ 9000 := Nat.lt_of_lt_of_le hw (Nat.pow_le_pow_right (by decide) (by decide))
  have c1 : ∀ a, cDiv a ((Nat.gcd p.natAbs w.natAbs : Nat) : Int) = true := fun a => cDiv_of (gcd_pos h) (gcd_lt h hw')
  have g := great_spec (a := (p.natAbs : Int)) (b := (w.natAbs : Int)) (by omega) (by omega) (by simpa using hw)
  simp only [Int.natAbs_natCast] at g
  simp [F__law_lowest, b__law_lowest, h1, c1, pr, low, g]
end PL
set_option Elab.async false
set_option linter.all false
set_option maxRecDepth 100000
set_option maxHeartbeats 1000000
set_option autoImplicit false
namespace PL
open PySem PySem.Spec PyProof.Rows L2
/-! ### the draws -/
abbrev nums (ns : List Int) : List D := ns.map .int
def TapeOk (B : Nat) (tp : List D) : Prop := ∃ (turn left : Int) (cells : List Int), tp = [.int turn, .int left, .list (nums cells)] ∧ 0 ≤ turn ∧ turn ≤ B ∧ 0 ≤ left ∧ cells ≠ []
theorem xor_small {x y : Int} {n : Nat} (hx : 0 ≤ x) (hy : 0 ≤ y) (h1 : x.natAbs < 2 ^ n) (h2 : y.natAbs < 2 ^ n) : (Builtin.bitXor x y).natAbs < 2 ^ (n + 1) := by
  rw [bitXor_and, bitAnd_pp hx hy]
  have l1 : x.toNat &&& y.toNat ≤ x.toNat := Nat.and_le_left
  have e : 2 ^ (n + 1) = 2 * 2 ^ n := by rw [Nat.pow_succ]; omega
  omega
theorem mixed_ok {cell turn : Int} {B : Nat} (h : 0 ≤ turn) (hB : turn ≤ B) (hb : B < 2 ^ 200) : ∃ X : Int, F__law_mixed [.int cell, .int turn] = .ok (.int (X % 2305843009213693952)) := by
  have p61 : cPow 2 61 = true := by decide
  have m1 : cMul (cell % 2305843009213693951) 6364136223846793005 = true := cMul_of (n := 200) (by omega) (by decide)
  have m2 : cMul turn 1442695040888963407 = true := cMul_of (n := 200) (by omega) (by decide)
  have md : ∀ x : Int, cMod x 2305843009213693951 = true := fun x => cMod_of (by decide)
  have md2 : ∀ x : Int, cMod x 2305843009213693952 = true := fun x => cMod_of (by decide)
  have xs : ∀ (x k c : Int), 0 < k → c.natAbs < 2 ^ 70 → cMul (Builtin.bitXor (x % 2305843009213693952) (x % 2305843009213693952 / k)) c = true := fun x k c hk hc => by
    have a0 : 0 ≤ x % 2305843009213693952 := by omega
    have a1 : x % 2305843009213693952 < 2305843009213693952 := by omega
    have b0 : 0 ≤ x % 2305843009213693952 / k := Int.ediv_nonneg a0 (by omega)
    have b1 : x % 2305843009213693952 / k ≤ x % 2305843009213693952 := Int.ediv_le_self _ a0
    exact cMul_of (n := 70) (Nat.lt_of_lt_of_le (xor_small (n := 61) a0 b0 (by omega) (by omega)) (by decide)) hc
  simp [F__law_mixed, b__law_mixed, p61, m1, m2, md, md2, xs]
  exact ⟨_, rfl⟩
theorem draw_ok {tp : List D} {size : Int} {B : Nat} (h : TapeOk B tp) (hb : B < 2 ^ 200) (h0 : 0 < size) (hs : size.natAbs < 2 ^ 9000) : ∃ (v : Int) (tp' : List D), F__law_draw tp [.int size] = .ok (.int v) tp' ∧ 0 ≤ v ∧ v < size ∧ TapeOk (B + 1) tp' := by
  obtain ⟨turn, left, cells, rfl, t0, t1, l0, hc⟩ := h
  have hcl : 0 < cells.length := List.length_pos_iff.mpr hc
  have cd : ∀ x : Int, cDiv x size = true := fun x => cDiv_of h0 hs
  have cm : ∀ x : Int, cMod x size = true := fun x => cMod_of h0
  have cl : cMod turn (cells.length : Int) = true := cMod_of (by omega)
  have fin : ∀ (t' l' : Int), 0 ≤ t' → t' ≤ B + 1 → 0 ≤ l' → ∃ (v : Int) (tp' : List D), (AnsT.ok (.int (l' % size)) [.int t', .int (l' / size), .list (nums cells)]) = .ok (.int v) tp' ∧ 0 ≤ v ∧ v < size ∧ TapeOk (B + 1) tp' := fun t' l' a b c =>
    ⟨_, _, rfl, Int.emod_nonneg _ (by omega), Int.emod_lt_of_pos _ h0, t', l' / size, cells, rfl, a, by push_cast; omega, Int.ediv_nonneg c (by omega), hc⟩
  have ix0 : ixN 3 0 = some 0 := by decide
  have ix1 : ixN 3 1 = some 1 := by decide
  by_cases hls : left < size
  · have q0 : 0 ≤ turn % (cells.length : Int) := Int.emod_nonneg _ (by omega)
    have q1 : turn % (cells.length : Int) < cells.length := Int.emod_lt_of_pos _ (by omega)
    obtain ⟨c, hcc⟩ : ∃ c, cells[(turn % (cells.length : Int)).toNat]? = some c := ⟨_, List.getElem?_eq_getElem (by omega)⟩
    have ixc : ixN cells.length (turn % (cells.length : Int)) = some (turn % (cells.length : Int)).toNat := by
      unfold ixN
      rw [if_pos q0, if_pos q1]
    obtain ⟨X, hX⟩ := mixed_ok (cell := c) t0 t1 hb
    have p18 : cPow 10 18 = true := by decide
    by_cases hbig : turn < (cells.length : Int) ∧ 1000000000000000000 ≤ c
    · have := fin (turn + 1) c (by omega) (by omega) (by omega)
      simpa [F__law_draw, b__law_draw, hls, cl, hcl, ixc, hcc, hbig, p18, cd, cm, h0, ix0, ix1] using this
    · have := fin (turn + 1) (X % 2305843009213693952) (by omega) (by omega) (by omega)
      by_cases hb1 : turn < (cells.length : Int)
      · have hb2 : ¬ 1000000000000000000 ≤ c := fun z => hbig ⟨hb1, z⟩
        simpa [F__law_draw, b__law_draw, hls, cl, hcl, ixc, hcc, hb1, hb2, p18, cd, cm, h0, ix0, ix1, hX] using this
      · simpa [F__law_draw, b__law_draw, hls, cl, hcl, ixc, hcc, hb1, p18, cd, cm, h0, ix0, ix1, hX] using this
  · have := fin turn left t0 (by omega) l0
    simpa [F__law_draw, b__law_draw, hls, cd, cm, h0, ix0, ix1] using this
end PL
set_option Elab.async false
set_option linter.all false
set_option maxRecDepth 100000
set_option maxHeartbeats 1000000
set_option autoImplicit false
namespace PL
open PySem PySem.Spec PyProof.Rows L2
/-! ### trains -/
abbrev Pr := Int × Int
abbrev Tr := List Pr
def encTr (t : Tr) : D := .tuple (t.map pr)
def usedT (t : Tr) : List Int := t.flatMap fun p => [p.1, p.2]
def lexB (p q : Pr) : Bool := decide (p.1 < q.1) || (decide (p.1 = q.1) && decide (p.2 < q.2))
def okE (t : Tr) (p : Pr) : Bool := !decide (p.1 ∈ usedT t) && (!decide (p.2 ∈ usedT t) && (match t.getLast? with
  | none => true
  | some q => lexB q p))
def nextT (ps : List Pr) (t : Tr) : List Tr := (ps.filter (okE t)).map fun p => t ++ [p]
def pairsT (m : Nat) : List Pr := (List.range m).flatMap fun a => ((List.range m).filter fun b => decide (b ≠ a)).map fun b => (((a : Nat) : Int), ((b : Nat) : Int))
theorem any_nums {a : Int} {ws : List Int} : ((nums ws).any fun z => PyData.eqv z (.int a)) = decide (a ∈ ws) := by
  induction ws with
  | nil => simp
  | cons w ws ih =>
    simp only [List.map_cons, List.any_cons, ih, PyData.eqv, List.mem_cons]
    by_cases h : w = a
    · subst h; simp
    · have h' : ¬ a = w := fun e => h e.symm
      simp [h, h']
theorem sh_nums {ws : List Int} : ∀ e ∈ nums ws, Sh 0 e := fun e he => by
  obtain ⟨w, _, rfl⟩ := List.mem_map.mp he
  exact Sh.int
theorem notIn_nums {a : Int} {ws : List Int} : dNotIn (.int a) (.list (nums ws)) = some (.bool (!decide (a ∈ ws))) := by
  unfold dNotIn
  rw [dIn_list (n := 0) (m := 0) Sh.int sh_nums, any_nums]
theorem sh_pr {p : Pr} : Sh 1 (pr p) := Sh.tuple fun d hd => by
  simp at hd
  rcases hd with rfl | rfl <;> exact Sh.int
theorem sh_tr {t : Tr} : Sh 2 (encTr t) := Sh.tuple fun d hd => by
  obtain ⟨p, _, rfl⟩ := List.mem_map.mp hd
  exact sh_pr
theorem eqv_pr {p q : Pr} : PyData.eqv (pr p) (pr q) = decide (p = q) := by
  obtain ⟨a, b⟩ := p
  obtain ⟨c, d⟩ := q
  simp [pr, PyData.eqv, PyData.eqvAll]
  rw [Bool.eq_iff_iff]
  simp
theorem eqv_tr {t u : Tr} : PyData.eqv (encTr t) (encTr u) = decide (t = u) := by
  simp only [encTr, PyData.eqv]
  exact eqvAll_map (fun a b => eqv_pr) t u
theorem eq_nil {t : Tr} : dEq (encTr t) (.tuple []) = some (.bool (decide (t = []))) := by
  rw [show (PyData.tuple []) = encTr [] from rfl, dEq_sh (sh_tr (t := t)) (sh_tr (t := []))]
  exact congrArg (fun b => some (PyData.bool b)) (eqv_tr (u := []))
theorem lt_pr {p q : Pr} : dLt (pr p) (pr q) = some (.bool (lexB p q)) := by
  simp [pr, dLt, ints?, HT.lexLt, lexB]
  rw [Bool.eq_iff_iff]
  split <;> simp <;> omega
theorem ix_last {t : Tr} {p : Pr} : dIx (encTr (t ++ [p])) (.int (-1)) = some (pr p) := by
  have h : ixN (t ++ [p]).length (-1) = some t.length := by
    unfold ixN
    simp
    omega
  simp [encTr] at h ⊢
  rw [h]
  simp
end PL
set_option Elab.async false
set_option linter.all false
set_option maxRecDepth 100000
set_option maxHeartbeats 1000000
set_option autoImplicit false
namespace PL
open PySem PySem.Spec PyProof.Rows L2
theorem add_tr {t : Tr} {p : Pr} (h : t.length ≤ 1000) : dAdd (encTr t) (.tuple [pr p]) = some (encTr (t ++ [p])) := by
  have := sizeLine_mil
  simp [encTr, dAdd]
  omega
theorem ix_pr0 {p : Pr} : dIx (pr p) (.int 0) = some (.int p.1) := rfl
theorem ix_pr1 {p : Pr} : dIx (pr p) (.int 1) = some (.int p.2) := rfl
/-- the test of a pair behind a train -/
theorem cond_ok {i7 i8 i9 : Nat} {σ : DEnv} {t : Tr} {p : Pr} (h7 : σ[i7]? = some (.val (encTr t))) (h8 : σ[i8]? = some (.val (.list (nums (usedT t))))) (h9 : σ[i9]? = some (.val (pr p))) :
    bAnd (bV (bin dNotIn (bin dIx (rdV i9) (kI 0)) (rdV i8))) (bAnd (bV (bin dNotIn (bin dIx (rdV i9) (kI 1)) (rdV i8))) (bOr (bV (bin dEq (rdV i7) (mkT nilA))) (bV (bin dLt (bin dIx (rdV i7) (un dNeg (kI 1))) (rdV i9))))) σ = .ok (okE t p) σ := by
  have e0 : okE t p = (!decide (p.1 ∈ usedT t) && (!decide (p.2 ∈ usedT t) && (match t.getLast? with
    | none => true
    | some q => lexB q p))) := rfl
  by_cases a : p.1 ∈ usedT t
  · simp [h7, h8, h9, ix_pr0, ix_pr1, notIn_nums, a, e0]
  · by_cases b : p.2 ∈ usedT t
    · simp [h7, h8, h9, ix_pr0, ix_pr1, notIn_nums, a, b, e0]
    · rcases List.eq_nil_or_concat t with rfl | ⟨t0, q, rfl⟩
      · simp [h7, h8, h9, ix_pr0, ix_pr1, notIn_nums, a, b, eq_nil, e0]
      · simp only [List.concat_eq_append] at *
        have hne : ¬ (t0 ++ [q] = []) := by simp
        simp [h7, h8, h9, ix_pr0, ix_pr1, notIn_nums, a, b, eq_nil, hne, ix_last, lt_pr, e0]
theorem pair_loop {t : Tr} (ht : t.length ≤ 1000) (s0 s1 s2 s3 s4 s5 s10 s11 s12 : Cell) : ∀ (ps : List Pr) (acc : List D) (c9 : Cell), c9.free = true → acc.length + (nextT ps t).length < 1000000 → ∃ c9' : Cell, c9'.free = true ∧
    forF (gN 9) (oIf (bAnd (bV (bin dNotIn (bin dIx (rdV 9) (kI 0)) (rdV 8))) (bAnd (bV (bin dNotIn (bin dIx (rdV 9) (kI 1)) (rdV 8))) (bOr (bV (bin dEq (rdV 7) (mkT nilA))) (bV (bin dLt (bin dIx (rdV 7) (un dNeg (kI 1))) (rdV 9)))))) (oApp 6 (bin dAdd (rdV 7) (mkT (consA (rdV 9) nilA)))) oNx) (ps.map pr)
      [s0, s1, s2, s3, s4, s5, .own acc, .val (encTr t), .val (.list (nums (usedT t))), c9, s10, s11, s12] = .nx [s0, s1, s2, s3, s4, s5, .own (acc ++ (nextT ps t).map encTr), .val (encTr t), .val (.list (nums (usedT t))), c9', s10, s11, s12] := by
  intro ps
  induction ps with
  | nil => intro acc c9 h9 _; exact ⟨c9, h9, by simp [nextT]⟩
  | cons p ps ih =>
    intro acc c9 h9 hl
    have hc := cond_ok (i7 := 7) (i8 := 8) (i9 := 9) (σ := [s0, s1, s2, s3, s4, s5, .own acc, .val (encTr t), .val (.list (nums (usedT t))), .val (pr p), s10, s11, s12]) (t := t) (p := p) rfl rfl rfl
    by_cases hk : okE t p = true
    · have e1 : nextT (p :: ps) t = (t ++ [p]) :: nextT ps t := by simp [nextT, hk]
      rw [e1] at hl ⊢
      simp only [List.length_cons] at hl
      obtain ⟨c9', f9, h⟩ := ih (acc ++ [encTr (t ++ [p])]) (.val (pr p)) rfl (by simp; omega)
      have ha : acc.length < 1000000 := by omega
      refine ⟨c9', f9, ?_⟩
      rw [List.map_cons, forF_cons]
      simp only [turnF, gN, setC_eq, List.getElem?_cons_succ, List.getElem?_cons_zero, h9, if_true, List.set_cons_succ, List.set_cons_zero, oIf, R.thn, hc, hk]
      simp only [oApp, lstOf, List.getElem?_cons_succ, List.getElem?_cons_zero, bin, rdV, mkT, consA, nilA, R.bind, lift, add_tr ht, R.thn, appL, ha, if_true, putL, List.set_cons_succ, List.set_cons_zero, List.length_cons, List.length_nil]
      simp [add_tr ht, ha, h]
    · have e1 : nextT (p :: ps) t = nextT ps t := by simp [nextT, hk]
      rw [e1] at hl ⊢
      obtain ⟨c9', f9, h⟩ := ih acc (.val (pr p)) rfl hl
      refine ⟨c9', f9, ?_⟩
      rw [List.map_cons, forF_cons]
      have hk' : okE t p = false := by simpa using hk
      simp only [turnF, gN, setC_eq, List.getElem?_cons_succ, List.getElem?_cons_zero, h9, if_true, List.set_cons_succ, List.set_cons_zero, oIf, R.thn, hc, hk']
      simp [h]
end PL
set_option Elab.async false
set_option linter.all false
set_option maxRecDepth 100000
set_option maxHeartbeats 1000000
set_option autoImplicit false
namespace PL
open PySem PySem.Spec PyProof.Rows L2
theorem used_ok {t : Tr} (ht : t.length ≤ 1000) (s0 s1 s2 s3 s4 s5 s6 s8 s10 s11 c9 c12 : Cell) :
    lc2 [9, 12] [12] (onD itemsS (rdV 7)) (gN 9) yesB (onD itemsS (rdV 9)) (gN 12) yesB (rdV 12) [s0, s1, s2, s3, s4, s5, s6, .val (encTr t), s8, c9, s10, s11, c12]
      = .ok (nums (usedT t)) [s0, s1, s2, s3, s4, s5, s6, .val (encTr t), s8, backC (some c9), s10, s11, backC (some c12)] := by
  have h1 : onD itemsS (rdV 7) [s0, s1, s2, s3, s4, s5, s6, .val (encTr t), s8, c9, s10, s11, c12] = .ok (t.map pr) [s0, s1, s2, s3, s4, s5, s6, .val (encTr t), s8, c9, s10, s11, c12] := by simp [encTr]
  have hf : (t.map pr).flatMap (fun d => match d with | .tuple es => es | _ => []) = nums (usedT t) := by
    clear h1 ht
    induction t with
    | nil => rfl
    | cons p t ih => simp only [List.map_cons, List.flatMap_cons, ih, usedT, List.map_append]; rfl
  have hl : (nums (usedT t)).length ≤ 900000 := by
    have : ∀ t : Tr, (usedT t).length = 2 * t.length := fun t => by
      induction t with
      | nil => rfl
      | cons p t ih => simp only [usedT, List.flatMap_cons, List.length_append, List.length_cons, List.length_nil] at ih ⊢; omega
    rw [List.length_map, this]
    omega
  have h2 := lcF2_flat (vs := [9, 12]) (vs1 := [12]) (g := gN 9) (g1 := gN 12) (t := yesB) (t1 := yesB) (src1 := onD itemsS (rdV 9)) (f := rdV 12) (σ := [s0, s1, s2, s3, s4, s5, s6, .val (encTr t), s8, .emp, s10, s11, .emp])
    (k := fun d => match d with | .tuple es => es | _ => []) (ds := t.map pr) (acc := []) (fun d hd => ?_) (by rw [hf]; simpa using hl)
  · rw [hf] at h2
    rw [lc2_eq h1 (by simpa [wipeD_cons, wipeD_nil] using h2)]
    simp [backD_cons, backD_nil]
  · obtain ⟨p, _, rfl⟩ := List.mem_map.mp hd
    refine ⟨[s0, s1, s2, s3, s4, s5, s6, .val (encTr t), s8, .val (pr p), s10, s11, .emp], [s0, s1, s2, s3, s4, s5, s6, .val (encTr t), s8, .val (pr p), s10, s11, .emp], [.int p.1, .int p.2], [s0, s1, s2, s3, s4, s5, s6, .val (encTr t), s8, .val (pr p), s10, s11, .emp], [s0, s1, s2, s3, s4, s5, s6, .val (encTr t), s8, .val (pr p), s10, s11, .emp], by simp, rfl, by simp [pr], fun acc hacc => ?_, ?_⟩
    · exact (lcF_map (k := some) (fun d _ => by simp [turnL, wipeD_cons, wipeD_nil]) (by simp [pr] at hacc ⊢; omega)).trans (by simp [pr, wipeD_cons, wipeD_nil])
    · simp [wipeD_cons, wipeD_nil]
end PL
set_option Elab.async false
set_option linter.all false
set_option maxRecDepth 100000
set_option maxHeartbeats 1000000
set_option autoImplicit false
namespace PL
open PySem PySem.Spec PyProof.Rows L2
def bPair : DEnv → O := oIf (bAnd (bV (bin dNotIn (bin dIx (rdV 9) (kI 0)) (rdV 8))) (bAnd (bV (bin dNotIn (bin dIx (rdV 9) (kI 1)) (rdV 8))) (bOr (bV (bin dEq (rdV 7) (mkT nilA))) (bV (bin dLt (bin dIx (rdV 7) (un dNeg (kI 1))) (rdV 9)))))) (oApp 6 (bin dAdd (rdV 7) (mkT (consA (rdV 9) nilA)))) oNx
def bTrain : DEnv → O := oSeq (oSetL 8 (lc2 [9, 12] [12] (onD itemsS (rdV 7)) (gN 9) yesB (onD itemsS (rdV 9)) (gN 12) yesB (rdV 12))) (oFor (onD itemsS (rdV 2)) (gN 9) bPair)
def levT (ps : List Pr) (L : List Tr) : List Tr := L.flatMap (nextT ps)
theorem train_loop {ps : List Pr} (s0 s1 s3 s4 s5 s10 s11 : Cell) : ∀ (L : List Tr) (acc : List D) (c7 c8 c9 c12 : Cell), (∀ t ∈ L, t.length ≤ 1000) → c7.free = true → c8.free = true → c9.free = true → c12.free = true → acc.length + (levT ps L).length < 1000000 →
    ∃ c7' c8' c9' c12' : Cell, c7'.free = true ∧ c8'.free = true ∧ c9'.free = true ∧ c12'.free = true ∧
    forF (gN 7) bTrain (L.map encTr) [s0, s1, .val (.list (ps.map pr)), s3, s4, s5, .own acc, c7, c8, c9, s10, s11, c12] = .nx [s0, s1, .val (.list (ps.map pr)), s3, s4, s5, .own (acc ++ (levT ps L).map encTr), c7', c8', c9', s10, s11, c12'] := by
  intro L
  induction L with
  | nil => intro acc c7 c8 c9 c12 _ h7 h8 h9 h12 _; exact ⟨c7, c8, c9, c12, h7, h8, h9, h12, by simp [levT]⟩
  | cons t L ih =>
    intro acc c7 c8 c9 c12 hL h7 h8 h9 h12 hl
    have ht := hL t List.mem_cons_self
    have e1 : levT ps (t :: L) = nextT ps t ++ levT ps L := rfl
    rw [e1, List.length_append] at hl
    have hu := used_ok ht s0 s1 (.val (.list (ps.map pr))) s3 s4 s5 (.own acc) c8 s10 s11 c9 c12
    obtain ⟨c9', f9, hp⟩ := pair_loop ht s0 s1 (.val (.list (ps.map pr))) s3 s4 s5 s10 s11 (backC (some c12)) ps acc (backC (some c9)) backC_free (by omega)
    obtain ⟨d7, d8, d9, d12, g7, g8, g9, g12, h⟩ := ih (acc ++ (nextT ps t).map encTr) (.val (encTr t)) (.val (.list (nums (usedT t)))) c9' (backC (some c12)) (fun u hu => hL u (List.mem_cons_of_mem _ hu)) rfl rfl f9 backC_free (by simp; omega)
    refine ⟨d7, d8, d9, d12, g7, g8, g9, g12, ?_⟩
    rw [List.map_cons, forF_cons]
    simp only [turnF, gN, setC_eq, List.getElem?_cons_succ, List.getElem?_cons_zero, h7, if_true, List.set_cons_succ, List.set_cons_zero, bTrain, oSeq, oSetL, hu, R.thn, setV, h8, O.seq, oFor, onD, rdV, R.bind, itemsS_list, lift, bPair, hp, e1, List.map_append]
    rw [List.append_assoc] at h
    exact h
/-- one turn over the level -/
def bLev : DEnv → O := oSeq (oSetF 6 (chk nilA)) (oSeq (oFor (onD itemsS (rdV 4)) (gN 7) bTrain) (oSeq (oSet 3 (bin dAdd (rdV 3) (rdV 6))) (oSet 4 (rdV 6))))
theorem lev_turn {ps : List Pr} {F L : List Tr} (s0 s1 c5 c6 c7 c8 c9 s10 s11 c12 : Cell) (d : D) (hL : ∀ t ∈ L, t.length ≤ 1000) (hs : F.length + (levT ps L).length < 1000000) (h5 : c5.free = true) (h6 : c6.free = true) (h7 : c7.free = true) (h8 : c8.free = true) (h9 : c9.free = true) (h12 : c12.free = true) :
    ∃ c5' c6' c7' c8' c9' c12' : Cell, c5'.free = true ∧ c6'.free = true ∧ c7'.free = true ∧ c8'.free = true ∧ c9'.free = true ∧ c12'.free = true ∧
    turnF (gN 5) bLev d [s0, s1, .val (.list (ps.map pr)), .val (.list (F.map encTr)), .val (.list (L.map encTr)), c5, c6, c7, c8, c9, s10, s11, c12] = .nx [s0, s1, .val (.list (ps.map pr)), .val (.list ((F ++ levT ps L).map encTr)), .val (.list ((levT ps L).map encTr)), c5', c6', c7', c8', c9', s10, s11, c12'] := by
  obtain ⟨d7, d8, d9, d12, g7, g8, g9, g12, h⟩ := train_loop (ps := ps) s0 s1 (.val (.list (F.map encTr))) (.val (.list (L.map encTr))) (.val d) s10 s11 L [] c7 c8 c9 c12 hL h7 h8 h9 h12 (by simp; omega)
  have sl := sizeLine_mil
  have hz : F.length + (levT ps L).length ≤ sizeLine := by omega
  refine ⟨.val d, .val (.list ((levT ps L).map encTr)), d7, d8, d9, d12, rfl, rfl, g7, g8, g9, g12, ?_⟩
  simp only [turnF, gN, setC_eq, List.getElem?_cons_succ, List.getElem?_cons_zero, h5, if_true, List.set_cons_succ, List.set_cons_zero, bLev, oSeq, oSetF, chk, nilA, R.bind, List.length_nil, Nat.zero_le, R.thn, setF, h6, O.seq, oFor, onD, rdV, itemsS_list, lift, h, oSet, bin, dAdd_list, List.nil_append, List.length_map, hz, setV, free_val, free_own, List.map_append]
def trainsT (m : Nat) : List Tr := levT (pairsT m) [[]] ++ levT (pairsT m) (levT (pairsT m) [[]]) ++ levT (pairsT m) (levT (pairsT m) (levT (pairsT m) [[]]))
end PL
set_option Elab.async false
set_option linter.all false
set_option maxRecDepth 100000
set_option maxHeartbeats 1000000
set_option autoImplicit false
namespace PL
open PySem PySem.Spec PyProof.Rows L2
abbrev lv1 (m : Nat) : List Tr := levT (pairsT m) [[]]
abbrev lv2 (m : Nat) : List Tr := levT (pairsT m) (lv1 m)
abbrev lv3 (m : Nat) : List Tr := levT (pairsT m) (lv2 m)
theorem sizes : ∀ m < 7, (pairsT m).length ≤ 36 ∧ (lv1 m).length ≤ 36 ∧ (lv2 m).length ≤ 1000 ∧ (lv3 m).length ≤ 1000 ∧ (∀ t ∈ lv1 m, t.length ≤ 3) ∧ (∀ t ∈ lv2 m, t.length ≤ 3) ∧ (∀ t ∈ lv3 m, t.length ≤ 3) := by decide +kernel
def pk (m : Nat) : D → List D := fun d => match d with
  | .int a => (rangeD 0 m).filterMap fun e => match e with
    | .int b => if a = b then none else some (pr (a, b))
    | _ => none
  | _ => []
theorem pk_flat (m : Nat) : (rangeD 0 m).flatMap (pk m) = (pairsT m).map pr := by
  unfold rangeD pairsT pk
  rw [List.flatMap_map, List.map_flatMap]
  congr 1
  funext a
  simp only [rangeD]
  rw [List.filterMap_map, List.map_map]
  induction (List.range m) with
  | nil => rfl
  | cons b l ih =>
    by_cases h : (b : Nat) = a
    · subst h
      simpa using ih
    · have h' : ¬ ((a : Nat) : Int) = ((b : Nat) : Int) := by omega
      simp [h, h'] at ih ⊢
      exact ih
theorem pairs_ok {m : Nat} (hm : m < 7) (s0 s2 s3 s4 s5 s6 s7 s8 s9 c10 c11 s12 : Cell) : lc2 [10, 11] [11] (onA rng1 (consA (rdV 1) nilA)) (gN 10) yesB (onA rng1 (consA (rdV 1) nilA)) (gN 11) (bV (bin dNe (rdV 10) (rdV 11))) (mkT (consA (rdV 10) (consA (rdV 11) nilA)))
      [s0, .val (.int m), s2, s3, s4, s5, s6, s7, s8, s9, c10, c11, s12] = .ok ((pairsT m).map pr) [s0, .val (.int m), s2, s3, s4, s5, s6, s7, s8, s9, backC (some c10), backC (some c11), s12] := by
  have hr := rng1_nat (m := m) (by omega)
  have h1 : onA rng1 (consA (rdV 1) nilA) [s0, .val (.int m), s2, s3, s4, s5, s6, s7, s8, s9, c10, c11, s12] = .ok (rangeD 0 m) [s0, .val (.int m), s2, s3, s4, s5, s6, s7, s8, s9, c10, c11, s12] := by simp [hr]
  have hb : ([] : List D).length + ((rangeD 0 m).flatMap (pk m)).length ≤ 900000 := by
    rw [pk_flat, List.length_map, List.length_nil]
    have := (sizes m hm).1
    omega
  have h2 := lcF2_flat (vs := [10, 11]) (vs1 := [11]) (g := gN 10) (g1 := gN 11) (t := yesB) (t1 := bV (bin dNe (rdV 10) (rdV 11))) (src1 := onA rng1 (consA (rdV 1) nilA)) (f := mkT (consA (rdV 10) (consA (rdV 11) nilA))) (σ := [s0, .val (.int m), s2, s3, s4, s5, s6, s7, s8, s9, .emp, .emp, s12])
    (k := pk m) (ds := rangeD 0 m) (acc := []) (fun d hd => ?_) hb
  · rw [pk_flat] at h2
    rw [lc2_eq h1 (by simpa [wipeD_cons, wipeD_nil] using h2)]
    simp [backD_cons, backD_nil]
  · obtain ⟨a, _, rfl⟩ := List.mem_map.mp hd
    refine ⟨[s0, .val (.int m), s2, s3, s4, s5, s6, s7, s8, s9, .val (.int (0 + (a : Nat))), .emp, s12], [s0, .val (.int m), s2, s3, s4, s5, s6, s7, s8, s9, .val (.int (0 + (a : Nat))), .emp, s12], rangeD 0 m, [s0, .val (.int m), s2, s3, s4, s5, s6, s7, s8, s9, .val (.int (0 + (a : Nat))), .emp, s12], [s0, .val (.int m), s2, s3, s4, s5, s6, s7, s8, s9, .val (.int (0 + (a : Nat))), .emp, s12], by simp, rfl, by simp [hr], fun acc hacc => ?_, by simp [wipeD_cons, wipeD_nil]⟩
    refine lcF_map (fun d hd => ?_) ?_
    · obtain ⟨b, _, rfl⟩ := List.mem_map.mp hd
      by_cases e : (0 : Int) + (a : Nat) = 0 + (b : Nat)
      · have e' : ((a : Nat) : Int) = b := by omega
        simp [turnL, wipeD_cons, wipeD_nil, e']
      · have e' : ¬ ((a : Nat) : Int) = b := by omega
        simp [turnL, wipeD_cons, wipeD_nil, e', pr]
    · have : (rangeD 0 m).length = m := by simp [rangeD]
      omega
end PL
set_option Elab.async false
set_option linter.all false
set_option maxRecDepth 100000
set_option maxHeartbeats 1000000
set_option autoImplicit false
namespace PL
open PySem PySem.Spec PyProof.Rows L2
theorem r3 : rng1 [.int 3] = some [.int 0, .int 1, .int 2] := by
  have h := rng1_nat (m := 3) (by decide)
  exact h.trans (congrArg some (show rangeD 0 3 = [PyData.int 0, .int 1, .int 2] from rfl))
theorem trains_eq (m : Nat) : trainsT m = lv1 m ++ lv2 m ++ lv3 m := rfl
theorem levs_loop {m : Nat} (hm : m < 7) (s0 s1 c5 c6 c7 c8 c9 s10 s11 c12 : Cell) (h5 : c5.free = true) (h6 : c6.free = true) (h7 : c7.free = true) (h8 : c8.free = true) (h9 : c9.free = true) (h12 : c12.free = true) :
    ∃ c4' c5' c6' c7' c8' c9' c12' : Cell,
    forF (gN 5) bLev [.int 0, .int 1, .int 2] [s0, s1, .val (.list ((pairsT m).map pr)), .val (.list []), .val (.list [encTr []]), c5, c6, c7, c8, c9, s10, s11, c12] = .nx [s0, s1, .val (.list ((pairsT m).map pr)), .val (.list ((trainsT m).map encTr)), c4', c5', c6', c7', c8', c9', s10, s11, c12'] := by
  obtain ⟨z1, z2, z3, z4, z5, z6, z7⟩ := sizes m hm
  have y2 : (levT (pairsT m) [[]]).length ≤ 36 := z2
  have y3 : (levT (pairsT m) (lv1 m)).length ≤ 1000 := z3
  have y4 : (levT (pairsT m) (lv2 m)).length ≤ 1000 := z4
  obtain ⟨a5, a6, a7, a8, a9, a12, g5, g6, g7, g8, g9, g12, e1⟩ := lev_turn (ps := pairsT m) (F := []) (L := [[]]) s0 s1 c5 c6 c7 c8 c9 s10 s11 c12 (.int 0) (by simp) (by simp; omega) h5 h6 h7 h8 h9 h12
  obtain ⟨b5, b6, b7, b8, b9, b12, k5, k6, k7, k8, k9, k12, e2⟩ := lev_turn (ps := pairsT m) (F := lv1 m) (L := lv1 m) s0 s1 a5 a6 a7 a8 a9 s10 s11 a12 (.int 1) (fun t ht => by have := z5 t ht; omega) (by omega) g5 g6 g7 g8 g9 g12
  obtain ⟨d5, d6, d7, d8, d9, d12, _, _, _, _, _, _, e3⟩ := lev_turn (ps := pairsT m) (F := lv1 m ++ lv2 m) (L := lv2 m) s0 s1 b5 b6 b7 b8 b9 s10 s11 b12 (.int 2) (fun t ht => by have := z6 t ht; omega) (by simp only [List.length_append]; omega) k5 k6 k7 k8 k9 k12
  simp only [List.map_nil, List.map_cons, List.nil_append] at e1
  refine ⟨.val (.list ((lv3 m).map encTr)), d5, d6, d7, d8, d9, d12, ?_⟩
  rw [forF_cons, e1]
  simp only
  rw [forF_cons, e2]
  simp only
  rw [forF_cons, e3]
  rfl
theorem all_trains_ok {ds : List D} {m : Nat} (hd : ds.length = m) (hm : m < 7) : F_all_trains [.tuple ds] = .ok (.list ((trainsT m).map encTr)) := by
  have hp := pairs_ok hm (.val (.tuple ds)) .emp .emp .emp .emp .emp .emp .emp .emp .emp .emp .emp
  obtain ⟨c4, c5, c6, c7, c8, c9, c12, hl⟩ := levs_loop hm (.val (.tuple ds)) (.val (.int m)) .emp .emp .emp .emp .emp (backC (some .emp)) (backC (some .emp)) .emp rfl rfl rfl rfl rfl rfl
  have e : b_all_trains = oSeq (oSet 1 (callD cLen (consA (rdV 0) nilA))) (oSeq (oSetL 2 (lc2 [10, 11] [11] (onA rng1 (consA (rdV 1) nilA)) (gN 10) yesB (onA rng1 (consA (rdV 1) nilA)) (gN 11) (bV (bin dNe (rdV 10) (rdV 11))) (mkT (consA (rdV 10) (consA (rdV 11) nilA)))))
    (oSeq (oSet 3 (asL (chk nilA))) (oSeq (oSet 4 (asL (chk (consA (mkT nilA) nilA)))) (oSeq (oFor (onA rng1 (consA (kI 3) nilA)) (gN 5) bLev) (oRet (rdV 3)))))) := rfl
  have e0 : encTr [] = .tuple [] := rfl
  rw [e0] at hl
  simp only [backC_emp] at hl
  simp only [F_all_trains, defD, List.length_cons, List.length_nil, if_true, startD, e, List.map_cons, List.map_nil]
  simp [-lc2, hd, hp, r3, hl]
end PL
set_option Elab.async false
set_option linter.all false
set_option maxRecDepth 100000
set_option maxHeartbeats 1000000
set_option autoImplicit false
namespace PL
open PySem PySem.Spec PyProof.Rows L2
/-! ### the law's own list of trains -/
theorem cond_ok' {i7 i8 i9 : Nat} {σ : DEnv} {t : Tr} {p : Pr} {ws : List Int} (hw : ∀ x, x ∈ ws ↔ x ∈ usedT t) (h7 : σ[i7]? = some (.val (encTr t))) (h8 : σ[i8]? = some (.val (.list (nums ws)))) (h9 : σ[i9]? = some (.val (pr p))) :
    bAnd (bV (bin dNotIn (bin dIx (rdV i9) (kI 0)) (rdV i8))) (bAnd (bV (bin dNotIn (bin dIx (rdV i9) (kI 1)) (rdV i8))) (bOr (bV (bin dEq (rdV i7) (mkT nilA))) (bV (bin dLt (bin dIx (rdV i7) (un dNeg (kI 1))) (rdV i9))))) σ = .ok (okE t p) σ := by
  have e0 : okE t p = (!decide (p.1 ∈ usedT t) && (!decide (p.2 ∈ usedT t) && (match t.getLast? with
    | none => true
    | some q => lexB q p))) := rfl
  by_cases a : p.1 ∈ usedT t
  · have a' := (hw p.1).mpr a
    simp [h7, h8, h9, ix_pr0, ix_pr1, notIn_nums, a, a', e0]
  · have a' : ¬ p.1 ∈ ws := fun z => a ((hw p.1).mp z)
    by_cases b : p.2 ∈ usedT t
    · have b' := (hw p.2).mpr b
      simp [h7, h8, h9, ix_pr0, ix_pr1, notIn_nums, a, b, a', b', e0]
    · have b' : ¬ p.2 ∈ ws := fun z => b ((hw p.2).mp z)
      rcases List.eq_nil_or_concat t with rfl | ⟨t0, q, rfl⟩
      · simp [h7, h8, h9, ix_pr0, ix_pr1, notIn_nums, a, b, a', b', eq_nil, e0]
      · simp only [List.concat_eq_append] at *
        have hne : ¬ (t0 ++ [q] = []) := by simp
        simp [h7, h8, h9, ix_pr0, ix_pr1, notIn_nums, a, b, a', b', eq_nil, hne, ix_last, lt_pr, e0]
/-- pairs, one by one -/
def lPairB : DEnv → O := oSet 1 (bin dAdd (rdV 1) (asL (lc [9] (onA rng1 (consA (rdV 0) nilA)) (gN 9) (bV (bin dNe (rdV 9) (rdV 2))) (mkT (consA (rdV 2) (consA (rdV 9) nilA))))))
theorem lpairs_loop {m : Nat} (hm : m < 7) (s3 s4 s5 s6 s7 s8 s10 : Cell) : ∀ (l : List Nat) (acc : List D) (c2 c9 : Cell), c2.free = true → c9.free = true → acc.length + ((l.map fun k : Nat => PyData.int (0 + k)).flatMap (pk m)).length ≤ 1000 →
    ∃ c2' c9' : Cell, c2'.free = true ∧ c9'.free = true ∧ forF (gN 2) lPairB (l.map fun k : Nat => PyData.int (0 + k)) [.val (.int m), .val (.list acc), c2, s3, s4, s5, s6, s7, s8, c9, s10] =
      .nx [.val (.int m), .val (.list (acc ++ (l.map fun k : Nat => PyData.int (0 + k)).flatMap (pk m))), c2', s3, s4, s5, s6, s7, s8, c9', s10] := by
  intro l
  induction l with
  | nil => intro acc c2 c9 h2 h9 _; exact ⟨c2, c9, h2, h9, by simp⟩
  | cons a l ih =>
    intro acc c2 c9 h2 h9 hl
    simp only [List.map_cons, List.flatMap_cons, List.length_append] at hl
    have hr := rng1_nat (m := m) (by omega)
    have hlc : lc [9] (onA rng1 (consA (rdV 0) nilA)) (gN 9) (bV (bin dNe (rdV 9) (rdV 2))) (mkT (consA (rdV 2) (consA (rdV 9) nilA))) [.val (.int m), .val (.list acc), .val (.int (0 + (a : Nat))), s3, s4, s5, s6, s7, s8, c9, s10]
        = .ok (pk m (.int (0 + (a : Nat)))) [.val (.int m), .val (.list acc), .val (.int (0 + (a : Nat))), s3, s4, s5, s6, s7, s8, backC (some c9), s10] := by
      have h1 : onA rng1 (consA (rdV 0) nilA) [.val (.int m), .val (.list acc), .val (.int (0 + (a : Nat))), s3, s4, s5, s6, s7, s8, c9, s10] = .ok (rangeD 0 m) [.val (.int m), .val (.list acc), .val (.int (0 + (a : Nat))), s3, s4, s5, s6, s7, s8, c9, s10] := by
        simp only [onA, consA, rdV, nilA, List.getElem?_cons_succ, List.getElem?_cons_zero, R.bind, hr, lift]
      have h2' := lcF_map (vs := [9]) (g := gN 9) (t := bV (bin dNe (rdV 9) (rdV 2))) (f := mkT (consA (rdV 2) (consA (rdV 9) nilA))) (σ := [.val (.int m), .val (.list acc), .val (.int (0 + (a : Nat))), s3, s4, s5, s6, s7, s8, .emp, s10]) (ds := rangeD 0 m) (acc := [])
        (k := fun e => match e with
          | .int b => if (0 + (a : Nat) : Int) = b then none else some (pr (0 + (a : Nat), b))
          | _ => none) (fun d hd => ?_) (by simp [rangeD]; omega)
      · rw [lc_eq h1 (by simpa only [wipeD_cons, wipeD_nil, List.set_cons_succ, List.set_cons_zero, List.nil_append] using h2')]
        simp only [backD_cons, backD_nil, List.set_cons_succ, List.set_cons_zero, List.getElem?_cons_succ, List.getElem?_cons_zero]
        rfl
      · obtain ⟨b, _, rfl⟩ := List.mem_map.mp hd
        by_cases e : (0 : Int) + (a : Nat) = 0 + (b : Nat)
        · have e' : ((a : Nat) : Int) = b := by omega
          simp [turnL, wipeD_cons, wipeD_nil, e']
        · have e' : ¬ ((a : Nat) : Int) = b := by omega
          have e'' : ¬ ((b : Nat) : Int) = a := by omega
          simp [turnL, wipeD_cons, wipeD_nil, e', e'', pr]
    obtain ⟨d2, d9, g2, g9, h⟩ := ih (acc ++ pk m (.int (0 + (a : Nat)))) (.val (.int (0 + (a : Nat)))) (backC (some c9)) rfl backC_free (by rw [List.length_append]; omega)
    have sl := sizeLine_mil
    have hz : acc.length + (pk m (.int (0 + (a : Nat)))).length ≤ sizeLine := by omega
    refine ⟨d2, d9, g2, g9, ?_⟩
    rw [List.append_assoc] at h
    rw [List.map_cons, forF_cons, List.flatMap_cons]
    simp only [turnF, gN, setC_eq, List.getElem?_cons_succ, List.getElem?_cons_zero, h2, if_true, List.set_cons_succ, List.set_cons_zero, lPairB, oSet, bin, rdV, R.bind, asL, hlc, lift, dAdd_list, hz, R.thn, setV, free_val]
    exact h
end PL
set_option Elab.async false
set_option linter.all false
set_option maxRecDepth 100000
set_option maxHeartbeats 1000000
set_option autoImplicit false
namespace PL
open PySem PySem.Spec PyProof.Rows L2
def firsts (t : Tr) : List Int := t.map (·.1)
def seconds (t : Tr) : List Int := t.map (·.2)
theorem used_mem (t : Tr) : ∀ x, x ∈ firsts t ++ seconds t ↔ x ∈ usedT t := fun x => by
  simp only [firsts, seconds, usedT, List.mem_append, List.mem_map, List.mem_flatMap, List.mem_cons, List.not_mem_nil, or_false]
  constructor
  · rintro (⟨p, hp, rfl⟩ | ⟨p, hp, rfl⟩)
    · exact ⟨p, hp, .inl rfl⟩
    · exact ⟨p, hp, .inr rfl⟩
  · rintro ⟨p, hp, rfl | rfl⟩
    · exact .inl ⟨p, hp, rfl⟩
    · exact .inr ⟨p, hp, rfl⟩
/-- [pair[j] for pair in train], j = 0, 1 -/
theorem col_ok {t : Tr} (ht : t.length ≤ 1000) (j : Int) (f : Pr → Int) (hj : ∀ p, dIx (pr p) (.int j) = some (.int (f p))) (s0 s1 s2 s3 s4 s5 s6 s8 s9 c10 : Cell) :
    lc [10] (onD itemsS (rdV 7)) (gN 10) yesB (bin dIx (rdV 10) (kI j)) [s0, s1, s2, s3, s4, s5, s6, .val (encTr t), s8, s9, c10] = .ok (nums (t.map f)) [s0, s1, s2, s3, s4, s5, s6, .val (encTr t), s8, s9, backC (some c10)] := by
  have h1 : onD itemsS (rdV 7) [s0, s1, s2, s3, s4, s5, s6, .val (encTr t), s8, s9, c10] = .ok (t.map pr) [s0, s1, s2, s3, s4, s5, s6, .val (encTr t), s8, s9, c10] := by simp [encTr]
  have h2 := lcF_map (vs := [10]) (g := gN 10) (t := yesB) (f := bin dIx (rdV 10) (kI j)) (σ := [s0, s1, s2, s3, s4, s5, s6, .val (encTr t), s8, s9, .emp]) (ds := t.map pr) (acc := []) (k := fun d => dIx d (.int j)) (fun d hd => ?_) (by simp; omega)
  · have e : (t.map pr).filterMap (fun d => dIx d (.int j)) = nums (t.map f) := by
      clear h1 h2 ht
      induction t with
      | nil => rfl
      | cons p t ih => simp only [List.map_cons, List.filterMap_cons, hj, ih, nums]
    rw [e] at h2
    rw [lc_eq h1 (by simpa only [wipeD_cons, wipeD_nil, List.set_cons_succ, List.set_cons_zero, List.nil_append] using h2)]
    simp only [backD_cons, backD_nil, List.set_cons_succ, List.set_cons_zero, List.getElem?_cons_succ, List.getElem?_cons_zero]
  · obtain ⟨p, _, rfl⟩ := List.mem_map.mp hd
    simp [turnL, wipeD_cons, wipeD_nil, hj]
def kx (t : Tr) : D → Option D := fun d => match d with
  | .tuple [.int a, .int b] => if okE t (a, b) = true then some (encTr (t ++ [(a, b)])) else none
  | _ => none
theorem kx_map {t : Tr} (ps : List Pr) : (ps.map pr).filterMap (kx t) = (nextT ps t).map encTr := by
  induction ps with
  | nil => rfl
  | cons p ps ih =>
    by_cases h : okE t p = true
    · have e : kx t (pr p) = some (encTr (t ++ [p])) := by simp [kx, pr, h]
      simp only [List.map_cons, List.filterMap_cons, e, ih, nextT, List.filter_cons, h, if_true]
    · have e : kx t (pr p) = none := by simp [kx, pr, h]
      simp only [List.map_cons, List.filterMap_cons, e, ih, nextT, List.filter_cons, h]
      rfl
theorem ext_ok {ps : List Pr} {t : Tr} (ht : t.length ≤ 1000) (hps : ps.length ≤ 1000) (s0 s2 s3 s4 s5 s6 s9 c10 : Cell) :
    lc [10] (onD itemsS (rdV 1)) (gN 10) (bAnd (bV (bin dNotIn (bin dIx (rdV 10) (kI 0)) (rdV 8))) (bAnd (bV (bin dNotIn (bin dIx (rdV 10) (kI 1)) (rdV 8))) (bOr (bV (bin dEq (rdV 7) (mkT nilA))) (bV (bin dLt (bin dIx (rdV 7) (un dNeg (kI 1))) (rdV 10)))))) (bin dAdd (rdV 7) (mkT (consA (rdV 10) nilA)))
      [s0, .val (.list (ps.map pr)), s2, s3, s4, s5, s6, .val (encTr t), .val (.list (nums (firsts t ++ seconds t))), s9, c10]
      = .ok ((nextT ps t).map encTr) [s0, .val (.list (ps.map pr)), s2, s3, s4, s5, s6, .val (encTr t), .val (.list (nums (firsts t ++ seconds t))), s9, backC (some c10)] := by
  have h1 : onD itemsS (rdV 1) [s0, .val (.list (ps.map pr)), s2, s3, s4, s5, s6, .val (encTr t), .val (.list (nums (firsts t ++ seconds t))), s9, c10] = .ok (ps.map pr) [s0, .val (.list (ps.map pr)), s2, s3, s4, s5, s6, .val (encTr t), .val (.list (nums (firsts t ++ seconds t))), s9, c10] := by simp
  have h2 := lcF_map (vs := [10]) (g := gN 10) (t := (bAnd (bV (bin dNotIn (bin dIx (rdV 10) (kI 0)) (rdV 8))) (bAnd (bV (bin dNotIn (bin dIx (rdV 10) (kI 1)) (rdV 8))) (bOr (bV (bin dEq (rdV 7) (mkT nilA))) (bV (bin dLt (bin dIx (rdV 7) (un dNeg (kI 1))) (rdV 10))))))) (f := (bin dAdd (rdV 7) (mkT (consA (rdV 10) nilA))))
    (σ := [s0, .val (.list (ps.map pr)), s2, s3, s4, s5, s6, .val (encTr t), .val (.list (nums (firsts t ++ seconds t))), s9, .emp]) (ds := ps.map pr) (acc := []) (k := kx t) (fun d hd => ?_) (by simp; omega)
  · rw [kx_map] at h2
    rw [lc_eq h1 (by simpa only [wipeD_cons, wipeD_nil, List.set_cons_succ, List.set_cons_zero, List.nil_append] using h2)]
    simp only [backD_cons, backD_nil, List.set_cons_succ, List.set_cons_zero, List.getElem?_cons_succ, List.getElem?_cons_zero]
  · obtain ⟨p, _, rfl⟩ := List.mem_map.mp hd
    have hc := cond_ok' (i7 := 7) (i8 := 8) (i9 := 10) (σ := [s0, .val (.list (ps.map pr)), s2, s3, s4, s5, s6, .val (encTr t), .val (.list (nums (firsts t ++ seconds t))), s9, .val (pr p)]) (used_mem t) rfl rfl rfl
    unfold turnL
    simp only [gN, setC_eq, List.getElem?_cons_succ, List.getElem?_cons_zero, free_emp, if_true, List.set_cons_succ, List.set_cons_zero]
    rw [hc]
    by_cases h : okE t p = true
    · have e : kx t (pr p) = some (encTr (t ++ [p])) := by simp [kx, pr, h]
      simp [h, e, add_tr ht, wipeD_cons, wipeD_nil]
    · have h' : okE t p = false := by simpa using h
      have e : kx t (pr p) = none := by simp [kx, pr, h']
      simp [h', e, wipeD_cons, wipeD_nil]
end PL
set_option Elab.async false
set_option linter.all false
set_option maxRecDepth 100000
set_option maxHeartbeats 1000000
set_option autoImplicit false
namespace PL
open PySem PySem.Spec PyProof.Rows L2
def lTrainB : DEnv → O := oSeq (oSet 8 (bin dAdd (asL (lc [10] (onD itemsS (rdV 7)) (gN 10) yesB (bin dIx (rdV 10) (kI 0)))) (asL (lc [10] (onD itemsS (rdV 7)) (gN 10) yesB (bin dIx (rdV 10) (kI 1))))))
    (oSet 6 (bin dAdd (rdV 6) (asL (lc [10] (onD itemsS (rdV 1)) (gN 10) (bAnd (bV (bin dNotIn (bin dIx (rdV 10) (kI 0)) (rdV 8))) (bAnd (bV (bin dNotIn (bin dIx (rdV 10) (kI 1)) (rdV 8))) (bOr (bV (bin dEq (rdV 7) (mkT nilA))) (bV (bin dLt (bin dIx (rdV 7) (un dNeg (kI 1))) (rdV 10)))))) (bin dAdd (rdV 7) (mkT (consA (rdV 10) nilA)))))))
theorem ltrain_loop {ps : List Pr} (hps : ps.length ≤ 1000) (s0 s2 s3 s4 s5 s9 : Cell) : ∀ (L : List Tr) (acc : List D) (c7 c8 c10 : Cell), (∀ t ∈ L, t.length ≤ 1000) → c7.free = true → c8.free = true → c10.free = true → acc.length + (levT ps L).length < 1000000 →
    ∃ c7' c8' c10' : Cell, c7'.free = true ∧ c8'.free = true ∧ c10'.free = true ∧
    forF (gN 7) lTrainB (L.map encTr) [s0, .val (.list (ps.map pr)), s2, s3, s4, s5, .val (.list acc), c7, c8, s9, c10] = .nx [s0, .val (.list (ps.map pr)), s2, s3, s4, s5, .val (.list (acc ++ (levT ps L).map encTr)), c7', c8', s9, c10'] := by
  intro L
  induction L with
  | nil => intro acc c7 c8 c10 _ h7 h8 h10 _; exact ⟨c7, c8, c10, h7, h8, h10, by simp [levT]⟩
  | cons t L ih =>
    intro acc c7 c8 c10 hL h7 h8 h10 hl
    have ht := hL t List.mem_cons_self
    have e1 : levT ps (t :: L) = nextT ps t ++ levT ps L := rfl
    rw [e1, List.length_append] at hl
    have k0 := col_ok ht 0 (·.1) (fun p => ix_pr0) s0 (.val (.list (ps.map pr))) s2 s3 s4 s5 (.val (.list acc)) c8 s9 c10
    have k1 := col_ok ht 1 (·.2) (fun p => ix_pr1) s0 (.val (.list (ps.map pr))) s2 s3 s4 s5 (.val (.list acc)) c8 s9 (backC (some c10))
    have kx := ext_ok ht hps s0 s2 s3 s4 s5 (.val (.list acc)) s9 (backC (some (backC (some c10))))
    obtain ⟨d7, d8, d10, g7, g8, g10, h⟩ := ih (acc ++ (nextT ps t).map encTr) (.val (encTr t)) (.val (.list (nums (firsts t ++ seconds t)))) (backC (some (backC (some (backC (some c10)))))) (fun u hu => hL u (List.mem_cons_of_mem _ hu)) rfl rfl backC_free (by simp; omega)
    have sl := sizeLine_mil
    have z1 : (nums (t.map (·.1))).length + (nums (t.map (·.2))).length ≤ sizeLine := by simp; omega
    have z2 : acc.length + ((nextT ps t).map encTr).length ≤ sizeLine := by simp; omega
    have e2 : nums (t.map (·.1)) ++ nums (t.map (·.2)) = nums (firsts t ++ seconds t) := by simp [firsts, seconds]
    refine ⟨d7, d8, d10, g7, g8, g10, ?_⟩
    rw [List.append_assoc] at h
    rw [List.map_cons, forF_cons, e1, List.map_append]
    simp only [turnF, gN, setC_eq, List.getElem?_cons_succ, List.getElem?_cons_zero, h7, if_true, List.set_cons_succ, List.set_cons_zero, lTrainB, oSeq, oSet, bin, asL, k0, k1, R.bind, lift, dAdd_list, z1, e2, R.thn, setV, h8, O.seq, rdV, kx, z2, free_val]
    exact h
def lLevB : DEnv → O := oSeq (oSet 6 (asL (chk nilA))) (oSeq (oFor (onD itemsS (rdV 4)) (gN 7) lTrainB) (oSeq (oSet 3 (bin dAdd (rdV 3) (rdV 6))) (oSet 4 (rdV 6))))
theorem llev_turn {ps : List Pr} (hps : ps.length ≤ 1000) {F L : List Tr} (s0 s2 c5 c6 c7 c8 s9 c10 : Cell) (d : D) (hL : ∀ t ∈ L, t.length ≤ 1000) (hs : F.length + (levT ps L).length < 1000000) (h5 : c5.free = true) (h6 : c6.free = true) (h7 : c7.free = true) (h8 : c8.free = true) (h10 : c10.free = true) :
    ∃ c5' c6' c7' c8' c10' : Cell, c5'.free = true ∧ c6'.free = true ∧ c7'.free = true ∧ c8'.free = true ∧ c10'.free = true ∧
    turnF (gN 5) lLevB d [s0, .val (.list (ps.map pr)), s2, .val (.list (F.map encTr)), .val (.list (L.map encTr)), c5, c6, c7, c8, s9, c10] = .nx [s0, .val (.list (ps.map pr)), s2, .val (.list ((F ++ levT ps L).map encTr)), .val (.list ((levT ps L).map encTr)), c5', c6', c7', c8', s9, c10'] := by
  obtain ⟨d7, d8, d10, g7, g8, g10, h⟩ := ltrain_loop (ps := ps) hps s0 s2 (.val (.list (F.map encTr))) (.val (.list (L.map encTr))) (.val d) s9 L [] c7 c8 c10 hL h7 h8 h10 (by simp; omega)
  have sl := sizeLine_mil
  have hz : F.length + (levT ps L).length ≤ sizeLine := by omega
  refine ⟨.val d, .val (.list ((levT ps L).map encTr)), d7, d8, d10, rfl, rfl, g7, g8, g10, ?_⟩
  simp only [turnF, gN, setC_eq, List.getElem?_cons_succ, List.getElem?_cons_zero, h5, if_true, List.set_cons_succ, List.set_cons_zero, lLevB, oSeq, oSet, asL, chk, nilA, R.bind, List.length_nil, Nat.zero_le, R.thn, setV, h6, O.seq, oFor, onD, rdV, itemsS_list, lift, h, bin, dAdd_list, List.nil_append, List.length_map, hz, free_val, List.map_append]
theorem llevs_loop {m : Nat} (hm : m < 7) (s0 s2 c5 c6 c7 c8 s9 c10 : Cell) (h5 : c5.free = true) (h6 : c6.free = true) (h7 : c7.free = true) (h8 : c8.free = true) (h10 : c10.free = true) :
    ∃ c4' c5' c6' c7' c8' c10' : Cell,
    forF (gN 5) lLevB [.int 0, .int 1, .int 2] [s0, .val (.list ((pairsT m).map pr)), s2, .val (.list []), .val (.list [encTr []]), c5, c6, c7, c8, s9, c10] = .nx [s0, .val (.list ((pairsT m).map pr)), s2, .val (.list ((trainsT m).map encTr)), c4', c5', c6', c7', c8', s9, c10'] := by
  obtain ⟨z1, z2, z3, z4, z5, z6, z7⟩ := sizes m hm
  have y2 : (levT (pairsT m) [[]]).length ≤ 36 := z2
  have y3 : (levT (pairsT m) (lv1 m)).length ≤ 1000 := z3
  have y4 : (levT (pairsT m) (lv2 m)).length ≤ 1000 := z4
  have y1 : (pairsT m).length ≤ 1000 := by omega
  obtain ⟨a5, a6, a7, a8, a10, g5, g6, g7, g8, g10, e1⟩ := llev_turn (ps := pairsT m) y1 (F := []) (L := [[]]) s0 s2 c5 c6 c7 c8 s9 c10 (.int 0) (by simp) (by simp; omega) h5 h6 h7 h8 h10
  obtain ⟨b5, b6, b7, b8, b10, k5, k6, k7, k8, k10, e2⟩ := llev_turn (ps := pairsT m) y1 (F := lv1 m) (L := lv1 m) s0 s2 a5 a6 a7 a8 s9 a10 (.int 1) (fun t ht => by have := z5 t ht; omega) (by omega) g5 g6 g7 g8 g10
  obtain ⟨d5, d6, d7, d8, d10, _, _, _, _, _, e3⟩ := llev_turn (ps := pairsT m) y1 (F := lv1 m ++ lv2 m) (L := lv2 m) s0 s2 b5 b6 b7 b8 s9 b10 (.int 2) (fun t ht => by have := z6 t ht; omega) (by simp only [List.length_append]; omega) k5 k6 k7 k8 k10
  simp only [List.map_nil, List.map_cons, List.nil_append] at e1
  refine ⟨.val (.list ((lv3 m).map encTr)), d5, d6, d7, d8, d10, ?_⟩
  rw [forF_cons, e1]
  simp only
  rw [forF_cons, e2]
  simp only
  rw [forF_cons, e3]
  rfl
theorem law_trains_ok {m : Nat} (hm : m < 7) : F__law_trains [.int m] = .ok (.list ((trainsT m).map encTr)) := by
  have hr := rng1_nat (m := m) (by omega)
  obtain ⟨c2, c9, f2, f9, hp⟩ := lpairs_loop hm .emp .emp .emp .emp .emp .emp .emp (List.range m) [] .emp .emp rfl rfl (by
    have := (sizes m hm).1
    have e := pk_flat m
    rw [show (List.range m).map (fun k : Nat => PyData.int (0 + k)) = rangeD 0 m from rfl, e, List.length_map, List.length_nil]
    omega)
  rw [show (List.range m).map (fun k : Nat => PyData.int (0 + k)) = rangeD 0 m from rfl, pk_flat, List.nil_append] at hp
  obtain ⟨d4, d5, d6, d7, d8, d10, hl⟩ := llevs_loop hm (.val (.int m)) c2 .emp .emp .emp .emp c9 .emp rfl rfl rfl rfl rfl
  rw [show encTr [] = .tuple [] from rfl] at hl
  have e : b__law_trains = oSeq (oSet 1 (asL (chk nilA))) (oSeq (oFor (onA rng1 (consA (rdV 0) nilA)) (gN 2) lPairB)
    (oSeq (oSet2 3 4 (consA (asL (chk nilA)) (consA (asL (chk (consA (mkT nilA) nilA))) nilA))) (oSeq (oFor (onA rng1 (consA (kI 3) nilA)) (gN 5) lLevB) (oRet (rdV 3))))) := rfl
  simp only [F__law_trains, defD, List.length_cons, List.length_nil, if_true, startD, e, List.map_cons, List.map_nil]
  simp [hr, hp, r3, hl]
end PL
set_option Elab.async false
set_option linter.all false
set_option maxRecDepth 100000
set_option maxHeartbeats 1000000
set_option autoImplicit false
namespace PL
open PySem PySem.Spec PyProof.Rows L2
/-! ### ratios -/
def gw (ws : List Int) (i : Int) : Int := ws.getD i.toNat 1
def Wheels (ws : List Int) : Prop := ∀ w ∈ ws, 0 < w ∧ w < 64
def Within (m : Nat) (t : Tr) : Prop := ∀ p ∈ t, (0 ≤ p.1 ∧ p.1 < m) ∧ (0 ≤ p.2 ∧ p.2 < m)
def prod (f : Pr → Int) (ws : List Int) (t : Tr) : Int := t.foldl (fun a p => a * gw ws (f p)) 1
def ratT (ws : List Int) (t : Tr) : Pr := low (prod (·.1) ws t) (prod (·.2) ws t)
theorem ix_wheel {ws : List Int} {i : Int} (h0 : 0 ≤ i) (h1 : i < ws.length) : dIx (.tuple (nums ws)) (.int i) = some (.int (gw ws i)) := by
  have e : ixN (nums ws).length i = some i.toNat := by
    unfold ixN
    rw [if_pos h0, if_pos (by simpa using h1)]
  have h2 : i.toNat < ws.length := by omega
  rw [dIx_tuple, e]
  simp [gw, List.getD_eq_getElem?_getD, List.getElem?_eq_getElem h2]
theorem gw_ok {ws : List Int} (hw : Wheels ws) (i : Int) : 0 < gw ws i ∧ gw ws i < 64 := by
  unfold gw
  rw [List.getD_eq_getElem?_getD]
  cases h : ws[i.toNat]? with
  | none => simp
  | some w => simpa using hw w (List.mem_of_getElem? h)
theorem mul_bound {a w : Int} {n : Nat} (ha : 0 < a) (h : a.natAbs < 2 ^ n) (w0 : 0 < w) (w1 : w < 64) : 0 < a * w ∧ (a * w).natAbs < 2 ^ (n + 6) := by
  refine ⟨Int.mul_pos ha w0, ?_⟩
  rw [Int.natAbs_mul, Nat.pow_add]
  exact Nat.mul_lt_mul_of_lt_of_lt h (by omega)
theorem ratio_loop {ws : List Int} (hw : Wheels ws) (s1 : Cell) : ∀ (t : Tr) (n : Nat) (a b : Int) (c4 c5 : Cell), Within ws.length t → n + 6 * t.length ≤ 1000 → 0 < a → a.natAbs < 2 ^ n → 0 < b → b.natAbs < 2 ^ n → c4.free = true → c5.free = true →
    ∃ c4' c5' : Cell, forF (gT 2 (gCons (gN 4) (gCons (gN 5) gNil))) (oSeq (oSet 2 (bin dMul (rdV 2) (bin dIx (rdV 0) (rdV 4)))) (oSet 3 (bin dMul (rdV 3) (bin dIx (rdV 0) (rdV 5))))) (t.map pr) [.val (.tuple (nums ws)), s1, .val (.int a), .val (.int b), c4, c5]
      = .nx [.val (.tuple (nums ws)), s1, .val (.int (t.foldl (fun a p => a * gw ws p.1) a)), .val (.int (t.foldl (fun a p => a * gw ws p.2) b)), c4', c5'] := by
  intro t
  induction t with
  | nil => intro n a b c4 c5 _ _ _ _ _ _ _ _; exact ⟨c4, c5, rfl⟩
  | cons p t ih =>
    intro n a b c4 c5 hin hn ha ha2 hb hb2 h4 h5
    obtain ⟨⟨i0, i1⟩, ⟨j0, j1⟩⟩ := hin p List.mem_cons_self
    have g1 := gw_ok hw p.1
    have g2 := gw_ok hw p.2
    simp only [List.length_cons] at hn
    have m1 := mul_bound ha ha2 g1.1 g1.2
    have m2 := mul_bound hb hb2 g2.1 g2.2
    obtain ⟨d4, d5, h⟩ := ih (n + 6) (a * gw ws p.1) (b * gw ws p.2) (.val (.int p.1)) (.val (.int p.2)) (fun q hq => hin q (List.mem_cons_of_mem _ hq)) (by omega) m1.1 m1.2 m2.1 m2.2 rfl rfl
    have w6 : ∀ i, (gw ws i).natAbs < 2 ^ 1000 := fun i => by
      have := gw_ok hw i
      exact Nat.lt_of_lt_of_le (show (gw ws i).natAbs < 2 ^ 6 by omega) (Nat.pow_le_pow_right (by decide) (by decide))
    have c1 : cMul a (gw ws p.1) = true := cMul_of (n := 1000) (Nat.lt_of_lt_of_le ha2 (Nat.pow_le_pow_right (by decide) (by omega))) (w6 _)
    have c2 : cMul b (gw ws p.2) = true := cMul_of (n := 1000) (Nat.lt_of_lt_of_le hb2 (Nat.pow_le_pow_right (by decide) (by omega))) (w6 _)
    refine ⟨d4, d5, ?_⟩
    rw [List.map_cons, forF_cons]
    simp only [List.foldl_cons]
    rw [← h]
    simp [turnF, pr, h4, h5, ix_wheel i0 i1, ix_wheel j0 j1, c1, c2, -dIx_tuple]
theorem prod_pos (f : Pr → Int) {ws : List Int} (hw : Wheels ws) : ∀ (t : Tr) (n : Nat) (a : Int), 0 < a → a.natAbs < 2 ^ n → 0 < t.foldl (fun a p => a * gw ws (f p)) a ∧ (t.foldl (fun a p => a * gw ws (f p)) a).natAbs < 2 ^ (n + 6 * t.length)
  | [], n, a, h, h2 => ⟨h, by simpa using h2⟩
  | p :: t, n, a, h, h2 => by
    have g := gw_ok hw (f p)
    have m := mul_bound h h2 g.1 g.2
    have := prod_pos f hw t (n + 6) _ m.1 m.2
    refine ⟨this.1, ?_⟩
    have e : n + 6 + 6 * t.length = n + 6 * (p :: t).length := by simp; omega
    rw [← e]
    exact this.2
theorem prod_ok (f : Pr → Int) {ws : List Int} (hw : Wheels ws) {t : Tr} (ht : t.length ≤ 3) : 0 < prod f ws t ∧ (prod f ws t).natAbs < 2 ^ 20 := by
  have := prod_pos f hw t 1 1 (by decide) (by decide)
  exact ⟨this.1, Nat.lt_of_lt_of_le this.2 (Nat.pow_le_pow_right (by decide) (by omega))⟩
theorem ratio_ok {ws : List Int} (hw : Wheels ws) {t : Tr} (hin : Within ws.length t) (ht : t.length ≤ 3) : F_ratio_of [.tuple (nums ws), encTr t] = .ok (pr (ratT ws t)) := by
  obtain ⟨c4, c5, h⟩ := ratio_loop hw (.val (encTr t)) t 1 1 1 .emp .emp hin (by omega) (by decide) (by decide) (by decide) (by decide) rfl rfl
  have p1 := prod_ok (·.1) hw ht
  have p2 := prod_ok (·.2) hw ht
  have hl := lowest_spec (p := prod (·.1) ws t) p2.1 (Nat.lt_of_lt_of_le p2.2 (Nat.pow_le_pow_right (by decide) (by decide)))
  simp only [prod] at hl
  simp only [encTr] at h ⊢
  simp [F_ratio_of, b_ratio_of, h, hl, ratT, prod]
end PL
set_option Elab.async false
set_option linter.all false
set_option maxRecDepth 100000
set_option maxHeartbeats 1000000
set_option autoImplicit false
namespace PL
open PySem PySem.Spec PyProof.Rows L2
theorem cMulS_w {a w : Int} (h0 : 0 < w) (h1 : w < 64) : cMulS a w = true := by
  unfold cMulS
  have : w.natAbs < 2 ^ 64 := by omega
  simp [this]
theorem lratio_loop {ws : List Int} (hw : Wheels ws) (s1 : Cell) : ∀ (t : Tr) (a b : Int) (c4 : Cell), Within ws.length t → c4.free = true →
    ∃ c4' : Cell, forF (gN 4) (oSeq (augF iMul 2 (bin dIx (rdV 0) (bin dIx (rdV 4) (kI 0)))) (augF iMul 3 (bin dIx (rdV 0) (bin dIx (rdV 4) (kI 1))))) (t.map pr) [.val (.tuple (nums ws)), s1, .val (.int a), .val (.int b), c4]
      = .nx [.val (.tuple (nums ws)), s1, .val (.int (t.foldl (fun a p => a * gw ws p.1) a)), .val (.int (t.foldl (fun a p => a * gw ws p.2) b)), c4'] := by
  intro t
  induction t with
  | nil => intro a b c4 _ _; exact ⟨c4, rfl⟩
  | cons p t ih =>
    intro a b c4 hin h4
    obtain ⟨⟨i0, i1⟩, ⟨j0, j1⟩⟩ := hin p List.mem_cons_self
    have g1 := gw_ok hw p.1
    have g2 := gw_ok hw p.2
    obtain ⟨d4, h⟩ := ih (a * gw ws p.1) (b * gw ws p.2) (.val (pr p)) (fun q hq => hin q (List.mem_cons_of_mem _ hq)) rfl
    refine ⟨d4, ?_⟩
    rw [List.map_cons, forF_cons]
    simp only [List.foldl_cons]
    rw [← h]
    simp [turnF, h4, ix_wheel i0 i1, ix_wheel j0 j1, ix_pr0, ix_pr1, cMulS_w g1.1 g1.2, cMulS_w g2.1 g2.2, -dIx_tuple]
theorem lratio_ok {ws : List Int} (hw : Wheels ws) {t : Tr} (hin : Within ws.length t) (ht : t.length ≤ 3) : F__law_ratio [.tuple (nums ws), encTr t] = .ok (pr (ratT ws t)) := by
  obtain ⟨c4, h⟩ := lratio_loop hw (.val (encTr t)) t 1 1 .emp hin rfl
  have p1 := prod_ok (·.1) hw ht
  have p2 := prod_ok (·.2) hw ht
  have hl := lawlow_spec (p := prod (·.1) ws t) p2.1 (Nat.lt_of_lt_of_le p2.2 (Nat.pow_le_pow_right (by decide) (by decide)))
  simp only [prod] at hl
  simp only [encTr] at h ⊢
  simp [F__law_ratio, b__law_ratio, h, hl, ratT, prod]
theorem eq_pr {p q : Pr} : dEq (pr p) (pr q) = some (.bool (decide (p = q))) := by
  rw [dEq_sh sh_pr sh_pr, eqv_pr]
theorem ne_pr {p q : Pr} : dNe (pr p) (pr q) = some (.bool (!decide (p = q))) := by
  rw [dNe_sh sh_pr sh_pr, eqv_pr]
/-- all that the lists of trains hold -/
structure Good (m : Nat) (t : Tr) : Prop where
  within : Within m t
  len : t.length ≤ 3
  pos : 1 ≤ t.length
theorem good_all : ∀ m < 7, ∀ t ∈ trainsT m, (∀ p ∈ t, (0 ≤ p.1 ∧ p.1 < (m : Int)) ∧ (0 ≤ p.2 ∧ p.2 < (m : Int))) ∧ t.length ≤ 3 ∧ 1 ≤ t.length := by decide +kernel
theorem good_of {m : Nat} (hm : m < 7) {t : Tr} (ht : t ∈ trainsT m) : Good m t := let ⟨a, b, c⟩ := good_all m hm t ht; ⟨a, b, c⟩
/-! ### the first train -/
def firstT (ws : List Int) (w : Pr) (L : List Tr) : Option Tr := L.find? fun t => decide (ratT ws t = w)
def encO : Option Tr → D
  | some t => encTr t
  | none => .none
theorem first_loop {ws : List Int} (hw : Wheels ws) (w : Pr) : ∀ (L : List Tr) (c2 : Cell), (∀ t ∈ L, Good ws.length t) → c2.free = true →
    ∃ c2' : Cell, forF (gN 2) (oIf (bV (bin dEq (callF F_ratio_of (consA (rdV 0) (consA (rdV 2) nilA))) (rdV 1))) (oRet (rdV 2)) oNx) (L.map encTr) [.val (.tuple (nums ws)), .val (pr w), c2] = match firstT ws w L with
      | some t => .ret (encTr t) [.val (.tuple (nums ws)), .val (pr w), c2']
      | none => .nx [.val (.tuple (nums ws)), .val (pr w), c2'] := by
  intro L
  induction L with
  | nil => intro c2 _ _; exact ⟨c2, rfl⟩
  | cons t L ih =>
    intro c2 hL h2
    have g := hL t List.mem_cons_self
    have hr := ratio_ok hw g.within g.len
    obtain ⟨d2, h⟩ := ih (.val (encTr t)) (fun u hu => hL u (List.mem_cons_of_mem _ hu)) rfl
    by_cases e : ratT ws t = w
    · refine ⟨.val (encTr t), ?_⟩
      have e1 : firstT ws w (t :: L) = some t := by simp [firstT, e]
      rw [e1, List.map_cons, forF_cons]
      simp [turnF, h2, hr, eq_pr, e]
    · refine ⟨d2, ?_⟩
      have e1 : firstT ws w (t :: L) = firstT ws w L := by simp [firstT, e]
      rw [e1, List.map_cons, forF_cons, ← h]
      simp [turnF, h2, hr, eq_pr, e]
theorem train_for_ok {ws : List Int} {m : Nat} (hw : Wheels ws) (hm : ws.length = m) (h7 : m < 7) (w : Pr) : F_train_for [.tuple (nums ws), pr w] = .ok (encO (firstT ws w (trainsT m))) := by
  have ha := all_trains_ok (ds := nums ws) (m := m) (by simpa using hm) h7
  obtain ⟨c2, h⟩ := first_loop hw w (trainsT m) .emp (fun t ht => by rw [hm]; exact good_of h7 ht) rfl
  cases e : firstT ws w (trainsT m) with
  | none =>
    rw [e] at h
    simp [F_train_for, b_train_for, ha, h, encO]
  | some t =>
    rw [e] at h
    simp [F_train_for, b_train_for, ha, h, encO]
end PL
set_option Elab.async false
set_option linter.all false
set_option maxRecDepth 100000
set_option maxHeartbeats 1000000
set_option autoImplicit false
namespace PL
open PySem PySem.Spec PyProof.Rows L2
/-! ### the nearest train -/
structure Pos (n : Nat) (x : Pr) : Prop where
  p1 : 0 < x.1
  p2 : 0 < x.2
  b1 : x.1.natAbs < 2 ^ n
  b2 : x.2.natAbs < 2 ^ n
def farN (x w : Pr) : Int := x.1 * w.2 - w.1 * x.2
def farT (x w : Pr) : Pr := ((farN x w).natAbs, x.2 * w.2)
def offT (x w : Pr) : Pr := (((low (farN x w) (x.2 * w.2)).1.natAbs : Int), (low (farN x w) (x.2 * w.2)).2)
def lessT (a b : Pr) : Bool := decide (a.1 * b.2 < b.1 * a.2)
theorem low_mul {p w : Int} : (low p w).1 * ((Nat.gcd p.natAbs w.natAbs : Nat) : Int) = p ∧ (low p w).2 * ((Nat.gcd p.natAbs w.natAbs : Nat) : Int) = w := by
  constructor
  · refine Int.ediv_mul_cancel ?_
    exact Int.ofNat_dvd_left.mpr (Nat.gcd_dvd_left _ _)
  · refine Int.ediv_mul_cancel ?_
    exact Int.ofNat_dvd_left.mpr (Nat.gcd_dvd_right _ _)
theorem mulB {a b : Int} {n m : Nat} (ha : a.natAbs < 2 ^ n) (hb : b.natAbs < 2 ^ m) : (a * b).natAbs < 2 ^ (n + m) := by
  rw [Int.natAbs_mul, Nat.pow_add]
  exact Nat.mul_lt_mul_of_lt_of_lt ha hb
theorem farN_b {x w : Pr} {n : Nat} (hx : Pos n x) (hw : Pos n w) : (farN x w).natAbs < 2 ^ (n + n + 1) := by
  have h1 := mulB hx.b1 hw.b2
  have h2 := mulB hw.b1 hx.b2
  have e : 2 ^ (n + n + 1) = 2 * 2 ^ (n + n) := by rw [Nat.pow_succ]; omega
  unfold farN
  omega
theorem up {a : Int} {n m : Nat} (h : a.natAbs < 2 ^ n) (hm : n ≤ m) : a.natAbs < 2 ^ m := Nat.lt_of_lt_of_le h (Nat.pow_le_pow_right (by decide) hm)
theorem minus_ok {x w : Pr} (hx : Pos 100 x) (hw : Pos 100 w) : F_minus [pr x, pr w] = .ok (pr (low (farN x w) (x.2 * w.2))) := by
  have c1 : cMul x.1 w.2 = true := cMul_of (n := 100) hx.b1 hw.b2
  have c2 : cMul w.1 x.2 = true := cMul_of (n := 100) hw.b1 hx.b2
  have c3 : cMul x.2 w.2 = true := cMul_of (n := 100) hx.b2 hw.b2
  have hl := lowest_spec (p := farN x w) (Int.mul_pos hx.p2 hw.p2) (up (mulB hx.b2 hw.b2) (by decide))
  simp only [farN] at hl
  simp [F_minus, b_minus, ix_pr0, ix_pr1, c1, c2, c3, hl, farN]
theorem off_ok {ws : List Int} (hws : Wheels ws) {t : Tr} (g : Good ws.length t) {w : Pr} (hw : Pos 100 w) (hx : Pos 100 (ratT ws t)) : F_off_by [.tuple (nums ws), encTr t, pr w] = .ok (pr (offT (ratT ws t) w)) := by
  have h1 := ratio_ok hws g.within g.len
  have h2 := minus_ok hx hw
  simp [F_off_by, b_off_by, h1, h2, ix_pr0, ix_pr1, offT]
  rfl
theorem less_ok {a b : Pr} (c1 : cMul a.1 b.2 = true) (c2 : cMul b.1 a.2 = true) : F_less [pr a, pr b] = .ok (.bool (lessT a b)) ∧ F__law_less [pr a, pr b] = .ok (.bool (lessT a b)) := by
  constructor
  · simp [F_less, b_less, ix_pr0, ix_pr1, c1, c2, lessT]
  · simp [F__law_less, b__law_less, ix_pr0, ix_pr1, c1, c2, lessT]
theorem far_ok {x w : Pr} (hx : Pos 100 x) (hw : Pos 100 w) : F__law_far [pr x, pr w] = .ok (pr (farT x w)) := by
  have c1 : cMul x.1 w.2 = true := cMul_of (n := 100) hx.b1 hw.b2
  have c2 : cMul w.1 x.2 = true := cMul_of (n := 100) hw.b1 hx.b2
  have c3 : cMul x.2 w.2 = true := cMul_of (n := 100) hx.b2 hw.b2
  by_cases h : 0 < x.1 * w.2 - w.1 * x.2
  · have e : farT x w = (x.1 * w.2 - w.1 * x.2, x.2 * w.2) := by
      have : ((x.1 * w.2 - w.1 * x.2).natAbs : Int) = x.1 * w.2 - w.1 * x.2 := by omega
      simp only [farT, farN, this]
    rw [e]
    have h' : w.1 * x.2 < x.1 * w.2 := by omega
    simp [F__law_far, b__law_far, ix_pr0, ix_pr1, c1, c2, c3, h, h', pr, show ixN 2 0 = some 0 from by decide, show ixN 2 1 = some 1 from by decide]
  · have e : farT x w = (-(x.1 * w.2 - w.1 * x.2), x.2 * w.2) := by
      have : ((x.1 * w.2 - w.1 * x.2).natAbs : Int) = -(x.1 * w.2 - w.1 * x.2) := by omega
      simp only [farT, farN, this]
    rw [e]
    have h' : ¬ w.1 * x.2 < x.1 * w.2 := by omega
    simp [F__law_far, b__law_far, ix_pr0, ix_pr1, c1, c2, c3, h, h', pr, show ixN 2 0 = some 0 from by decide, show ixN 2 1 = some 1 from by decide]
theorem less_off {x y w : Pr} (hx : 0 < x.2 * w.2) (hy : 0 < y.2 * w.2) : lessT (offT x w) (offT y w) = lessT (farT x w) (farT y w) := by
  have gx := gcd_pos (p := farN x w) hx
  have gy := gcd_pos (p := farN y w) hy
  obtain ⟨ex1, ex2⟩ := low_mul (p := farN x w) (w := x.2 * w.2)
  obtain ⟨ey1, ey2⟩ := low_mul (p := farN y w) (w := y.2 * w.2)
  unfold lessT offT farT
  simp only
  rw [decide_eq_decide]
  generalize ((Nat.gcd (farN x w).natAbs (x.2 * w.2).natAbs : Nat) : Int) = g at *
  generalize ((Nat.gcd (farN y w).natAbs (y.2 * w.2).natAbs : Nat) : Int) = k at *
  generalize low (farN x w) (x.2 * w.2) = l at *
  generalize low (farN y w) (y.2 * w.2) = r at *
  have a1 : ((farN x w).natAbs : Int) = l.1.natAbs * g := by rw [← ex1, Int.natAbs_mul]; push_cast; congr 1; omega
  have a2 : ((farN y w).natAbs : Int) = r.1.natAbs * k := by rw [← ey1, Int.natAbs_mul]; push_cast; congr 1; omega
  rw [a1, a2, ← ex2, ← ey2]
  have e1 : (l.1.natAbs : Int) * g * (r.2 * k) = (l.1.natAbs * r.2) * (g * k) := by rw [Int.mul_assoc, Int.mul_assoc, ← Int.mul_assoc g, Int.mul_comm g r.2, Int.mul_assoc r.2]
  have e2 : (r.1.natAbs : Int) * k * (l.2 * g) = (r.1.natAbs * l.2) * (g * k) := by rw [Int.mul_assoc, Int.mul_assoc, ← Int.mul_assoc k, Int.mul_comm k l.2, Int.mul_assoc l.2, Int.mul_comm k g]
  rw [e1, e2]
  exact (Int.mul_lt_mul_right (Int.mul_pos gx gy)).symm
end PL
set_option Elab.async false
set_option linter.all false
set_option maxRecDepth 100000
set_option maxHeartbeats 1000000
set_option autoImplicit false
namespace PL
open PySem PySem.Spec PyProof.Rows L2
theorem low_pos {p w : Int} {n : Nat} (hp : 0 < p) (hw : 0 < w) (hpb : p.natAbs < 2 ^ n) (hwb : w.natAbs < 2 ^ n) : Pos n (low p w) := by
  have g := gcd_pos (p := p) hw
  obtain ⟨e1, e2⟩ := low_mul (p := p) (w := w)
  have a1 : 0 < (low p w).1 := by
    rcases Int.lt_or_le 0 (low p w).1 with h | h
    · exact h
    · have := Int.mul_nonneg (show 0 ≤ -(low p w).1 by omega) (Int.le_of_lt g)
      rw [Int.neg_mul, e1] at this
      omega
  have a2 : 0 < (low p w).2 := by
    rcases Int.lt_or_le 0 (low p w).2 with h | h
    · exact h
    · have := Int.mul_nonneg (show 0 ≤ -(low p w).2 by omega) (Int.le_of_lt g)
      rw [Int.neg_mul, e2] at this
      omega
  have b1 : (low p w).1 ≤ p := by
    unfold low
    exact Int.ediv_le_self _ (Int.le_of_lt hp)
  have b2 : (low p w).2 ≤ w := by
    unfold low
    exact Int.ediv_le_self _ (Int.le_of_lt hw)
  exact ⟨a1, a2, by omega, by omega⟩
theorem rat_pos {ws : List Int} (hw : Wheels ws) {t : Tr} (ht : t.length ≤ 3) : Pos 20 (ratT ws t) := by
  have p1 := prod_ok (·.1) hw ht
  have p2 := prod_ok (·.2) hw ht
  exact low_pos p1.1 p2.1 p1.2 p2.2
theorem Pos.up {n m : Nat} {x : Pr} (h : Pos n x) (hm : n ≤ m) : Pos m x := ⟨h.p1, h.p2, PL.up h.b1 hm, PL.up h.b2 hm⟩
def nearer (ws : List Int) (w : Pr) (t b : Tr) : Bool := lessT (farT (ratT ws t) w) (farT (ratT ws b) w)
def bestT (ws : List Int) (w : Pr) (b : Tr) (L : List Tr) : Tr := L.foldl (fun b t => if nearer ws w t b = true then t else b) b
theorem nearer_self {ws : List Int} {w : Pr} {t : Tr} : nearer ws w t t = false := by
  simp [nearer, lessT]
theorem offT_b {x w : Pr} (hx : Pos 100 x) (hw : Pos 100 w) : (offT x w).1.natAbs < 2 ^ 300 ∧ (offT x w).2.natAbs < 2 ^ 300 := by
  have hd : 0 < x.2 * w.2 := Int.mul_pos hx.p2 hw.p2
  have h1 := farN_b hx hw
  have h2 := mulB hx.b2 hw.b2
  obtain ⟨e1, e2⟩ := low_mul (p := farN x w) (w := x.2 * w.2)
  have g := gcd_pos (p := farN x w) hd
  have k1 : (low (farN x w) (x.2 * w.2)).1.natAbs ≤ (farN x w).natAbs := by
    have : (farN x w).natAbs = (low (farN x w) (x.2 * w.2)).1.natAbs * ((Nat.gcd (farN x w).natAbs (x.2 * w.2).natAbs : Nat) : Int).natAbs := by rw [← Int.natAbs_mul, e1]
    rw [this]
    exact Nat.le_mul_of_pos_right _ (by omega)
  have k2 : (low (farN x w) (x.2 * w.2)).2.natAbs ≤ (x.2 * w.2).natAbs := by
    have : (x.2 * w.2).natAbs = (low (farN x w) (x.2 * w.2)).2.natAbs * ((Nat.gcd (farN x w).natAbs (x.2 * w.2).natAbs : Nat) : Int).natAbs := by rw [← Int.natAbs_mul, e2]
    rw [this]
    exact Nat.le_mul_of_pos_right _ (by omega)
  have u1 : (2 : Nat) ^ (100 + 100 + 1) ≤ 2 ^ 300 := Nat.pow_le_pow_right (by decide) (by decide)
  have u2 : (2 : Nat) ^ (100 + 100) ≤ 2 ^ 300 := Nat.pow_le_pow_right (by decide) (by decide)
  refine ⟨?_, ?_⟩
  · show (((low (farN x w) (x.2 * w.2)).1.natAbs : Nat) : Int).natAbs < 2 ^ 300
    rw [Int.natAbs_natCast]
    omega
  · show (low (farN x w) (x.2 * w.2)).2.natAbs < 2 ^ 300
    omega
theorem near_cmp {ws : List Int} (hws : Wheels ws) {w : Pr} (hw : Pos 100 w) {t b : Tr} (gt : Good ws.length t) (gb : Good ws.length b) :
    F_less [pr (offT (ratT ws t) w), pr (offT (ratT ws b) w)] = .ok (.bool (nearer ws w t b)) ∧ F__law_less [pr (farT (ratT ws t) w), pr (farT (ratT ws b) w)] = .ok (.bool (nearer ws w t b)) := by
  have pt := (rat_pos hws gt.len).up (show 20 ≤ 100 by decide)
  have pb := (rat_pos hws gb.len).up (show 20 ≤ 100 by decide)
  obtain ⟨t1, t2⟩ := offT_b pt hw
  obtain ⟨b1, b2⟩ := offT_b pb hw
  constructor
  · rw [(less_ok (cMul_of t1 b2) (cMul_of b1 t2)).1, less_off (Int.mul_pos pt.p2 hw.p2) (Int.mul_pos pb.p2 hw.p2)]
    rfl
  · have f : ∀ {x : Pr}, Pos 100 x → (farT x w).1.natAbs < 2 ^ 300 ∧ (farT x w).2.natAbs < 2 ^ 300 := fun {x} hx => by
      have h1 := farN_b hx hw
      have h2 := mulB hx.b2 hw.b2
      have u1 : (2 : Nat) ^ (100 + 100 + 1) ≤ 2 ^ 300 := Nat.pow_le_pow_right (by decide) (by decide)
      have u2 : (2 : Nat) ^ (100 + 100) ≤ 2 ^ 300 := Nat.pow_le_pow_right (by decide) (by decide)
      refine ⟨?_, ?_⟩
      · show (((farN x w).natAbs : Nat) : Int).natAbs < 2 ^ 300
        rw [Int.natAbs_natCast]
        omega
      · show (x.2 * w.2).natAbs < 2 ^ 300
        omega
    exact (less_ok (cMul_of (f pt).1 (f pb).2) (cMul_of (f pb).1 (f pt).2)).2
def nearB : DEnv → O := oIf (bOr (bV (bin dIs (rdV 2) kN)) (bV (callF F_less (consA (callF F_off_by (consA (rdV 0) (consA (rdV 3) (consA (rdV 1) nilA)))) (consA (callF F_off_by (consA (rdV 0) (consA (rdV 2) (consA (rdV 1) nilA)))) nilA))))) (oSet 2 (rdV 3)) oNx
theorem near_loop {ws : List Int} (hws : Wheels ws) {w : Pr} (hw : Pos 100 w) : ∀ (L : List Tr) (b : Tr) (c3 : Cell), (∀ t ∈ L, Good ws.length t) → Good ws.length b → c3.free = true →
    ∃ c3' : Cell, forF (gN 3) nearB (L.map encTr) [.val (.tuple (nums ws)), .val (pr w), .val (encTr b), c3] = .nx [.val (.tuple (nums ws)), .val (pr w), .val (encTr (bestT ws w b L)), c3'] := by
  intro L
  induction L with
  | nil => intro b c3 _ _ _; exact ⟨c3, rfl⟩
  | cons t L ih =>
    intro b c3 hL gb h3
    have gt := hL t List.mem_cons_self
    have o1 := off_ok hws gt hw ((rat_pos hws gt.len).up (by decide))
    have o2 := off_ok hws gb hw ((rat_pos hws gb.len).up (by decide))
    have cm := (near_cmp hws hw gt gb).1
    have hn : dIs (encTr b) .none = some (.bool false) := rfl
    by_cases e : nearer ws w t b = true
    · obtain ⟨d3, h⟩ := ih t (.val (encTr t)) (fun u hu => hL u (List.mem_cons_of_mem _ hu)) gt rfl
      refine ⟨d3, ?_⟩
      have e1 : bestT ws w b (t :: L) = bestT ws w t L := by simp [bestT, e]
      rw [e1, List.map_cons, forF_cons, ← h]
      simp [turnF, nearB, h3, o1, o2, cm, hn, e]
    · obtain ⟨d3, h⟩ := ih b (.val (encTr t)) (fun u hu => hL u (List.mem_cons_of_mem _ hu)) gb rfl
      refine ⟨d3, ?_⟩
      have e' : nearer ws w t b = false := by simpa using e
      have e1 : bestT ws w b (t :: L) = bestT ws w b L := by simp [bestT, e']
      rw [e1, List.map_cons, forF_cons, ← h]
      simp [turnF, nearB, h3, o1, o2, cm, hn, e']
theorem nearest_ok {ws : List Int} {m : Nat} (hws : Wheels ws) (hm : ws.length = m) (h7 : m < 7) {w : Pr} (hw : Pos 100 w) {t0 : Tr} {L : List Tr} (hL : trainsT m = t0 :: L) : F_nearest_train [.tuple (nums ws), pr w] = .ok (encTr (bestT ws w t0 L)) := by
  have ha := all_trains_ok (ds := nums ws) (m := m) (by simpa using hm) h7
  have good : ∀ t ∈ trainsT m, Good ws.length t := fun t ht => by rw [hm]; exact good_of h7 ht
  rw [hL] at ha good
  obtain ⟨c3, h⟩ := near_loop hws hw L t0 (.val (encTr t0)) (fun t ht => good t (List.mem_cons_of_mem _ ht)) (good t0 List.mem_cons_self) rfl
  have e : b_nearest_train = oSeq (oSet 2 kN) (oSeq (oFor (onD itemsS (callF F_all_trains (consA (rdV 0) nilA))) (gN 3) nearB) (oRet (rdV 2))) := rfl
  have e2 : turnF (gN 3) nearB (encTr t0) [.val (.tuple (nums ws)), .val (pr w), .val .none, .emp] = .nx [.val (.tuple (nums ws)), .val (pr w), .val (encTr t0), .val (encTr t0)] := by
    have hn : dIs .none .none = some (.bool true) := rfl
    simp [turnF, nearB, hn]
  simp only [List.map_cons] at ha
  simp only [F_nearest_train, defD, List.length_cons, List.length_nil, if_true, startD, e, List.map_cons, List.map_nil]
  simp [ha, forF_cons, e2, h]
end PL
set_option Elab.async false
set_option linter.all false
set_option maxRecDepth 100000
set_option maxHeartbeats 1000000
set_option autoImplicit false
namespace PL
open PySem PySem.Spec PyProof.Rows L2
/-! ### the train turned round -/
def swapT (t : Tr) : Tr := t.map fun p => (p.2, p.1)
def unpr : D → Pr
  | .tuple [.int a, .int b] => (a, b)
  | _ => (0, 0)
def turnT (t : Tr) : Tr := (sortD ((swapT t).map pr)).map unpr
theorem sort_perm (ds : List D) : (sortD ds).Perm ds := List.mergeSort_perm _ _
theorem sortD_pr (u : Tr) : (sortD (u.map pr)) = ((sortD (u.map pr)).map unpr).map pr := by
  rw [List.map_map]
  refine (List.map_id _).symm.trans (List.map_congr_left fun d hd => ?_)
  obtain ⟨p, _, rfl⟩ := List.mem_map.mp ((sort_perm _).mem_iff.mp hd)
  rfl
theorem turnT_perm (t : Tr) : (turnT t).Perm (swapT t) := by
  unfold turnT
  have h := (sort_perm ((swapT t).map pr)).map unpr
  rw [List.map_map] at h
  have e : (swapT t).map (unpr ∘ pr) = swapT t := (List.map_congr_left fun p _ => rfl).trans (List.map_id _)
  rw [e] at h
  exact h
theorem okSort_pr (u : Tr) (h : u.length ≤ 1000) : okSort (u.map pr) = true := by
  unfold okSort
  simp only [Bool.and_eq_true, List.all_eq_true, decide_eq_true_eq, Bool.or_eq_true, List.mem_map, List.length_map]
  refine ⟨⟨⟨?_, .inl ?_⟩, ?_⟩, by omega⟩
  · rintro _ ⟨p, _, rfl⟩ _ ⟨q, _, rfl⟩
    rfl
  · rintro _ ⟨p, _, rfl⟩
    rfl
  · rintro _ ⟨p, _, rfl⟩
    exact Nat.le_trans (sh_pr (p := p)).2 (by decide)
theorem foldl_perm (f : Pr → Int) {t u : Tr} (h : t.Perm u) : ∀ a : Int, t.foldl (fun a p => a * f p) a = u.foldl (fun a p => a * f p) a := by
  induction h with
  | nil => intro a; rfl
  | cons p _ ih => intro a; exact ih _
  | swap p q l => intro a; simp only [List.foldl_cons]; rw [Int.mul_right_comm]
  | trans _ _ h1 h2 => intro a; rw [h1, h2]
theorem low_swap (a b : Int) : low b a = ((low a b).2, (low a b).1) := by
  simp only [low, Nat.gcd_comm b.natAbs]
theorem rat_turn (ws : List Int) (t : Tr) : ratT ws (turnT t) = ((ratT ws t).2, (ratT ws t).1) := by
  have h : ∀ f : Pr → Int, prod f ws (turnT t) = prod (fun p => f (p.2, p.1)) ws t := fun f => by
    unfold prod
    rw [foldl_perm (fun p => gw ws (f p)) (turnT_perm t), swapT, List.foldl_map]
  unfold ratT
  rw [h, h, ← low_swap]
theorem turn_good {m : Nat} {t : Tr} (g : Good m t) : Good m (turnT t) := by
  have p := turnT_perm t
  have l : (turnT t).length = t.length := by rw [p.length_eq, swapT, List.length_map]
  refine ⟨fun q hq => ?_, by rw [l]; exact g.len, by rw [l]; exact g.pos⟩
  obtain ⟨r, hr, rfl⟩ := List.mem_map.mp (p.mem_iff.mp hq)
  exact ⟨(g.within r hr).2, (g.within r hr).1⟩
theorem turned_ok {t : Tr} (h : t.length ≤ 3) : F_turned_round [encTr t] = .ok (encTr (turnT t)) := by
  have h1 : lc [1, 2] (onD itemsS (rdV 0)) (gT 2 (gCons (gN 1) (gCons (gN 2) gNil))) yesB (mkT (consA (rdV 2) (consA (rdV 1) nilA))) [.val (encTr t), .emp, .emp] = .ok ((swapT t).map pr) [.val (encTr t), .emp, .emp] := by
    have h2 := lcF_map (vs := [1, 2]) (g := gT 2 (gCons (gN 1) (gCons (gN 2) gNil))) (t := yesB) (f := mkT (consA (rdV 2) (consA (rdV 1) nilA))) (σ := [.val (encTr t), .emp, .emp]) (k := fun d => some (pr ((unpr d).2, (unpr d).1))) (ds := t.map pr) (acc := []) (fun d hd => ?_) (by simp; omega)
    · have e : ([] : List D) ++ (t.map pr).filterMap (fun d => some (pr ((unpr d).2, (unpr d).1))) = (swapT t).map pr := by
        rw [List.nil_append, List.filterMap_map, swapT, List.map_map]
        rw [← List.filterMap_eq_map]
        rfl
      rw [e] at h2
      rw [lc_eq (σ1 := [.val (encTr t), .emp, .emp]) (ds := t.map pr) (by simp [encTr]) (by simpa [wipeD_cons, wipeD_nil] using h2)]
      simp [backD_cons, backD_nil, backC]
    · obtain ⟨p, _, rfl⟩ := List.mem_map.mp hd
      simp [turnL, pr, unpr, wipeD_cons, wipeD_nil]
  have ok := okSort_pr (swapT t) (by simp [swapT]; omega)
  simp only [F_turned_round, defD, b_turned_round, List.length_cons, List.length_nil, if_true, startD]
  simp [h1, ok, -lc]
  rw [sortD_pr]
  rfl
theorem lturned_ok {t : Tr} (h : t.length ≤ 3) : callD cTuple (consA (callD cSorted (consA (asL (fun σ => .ok ((swapT t).map pr) σ)) nilA)) nilA) [] = .ok (encTr (turnT t)) [] := by
  have ok := okSort_pr (swapT t) (by simp [swapT]; omega)
  simp [ok]
  rw [sortD_pr]
  rfl
end PL
set_option Elab.async false
set_option linter.all false
set_option maxRecDepth 100000
set_option maxHeartbeats 1000000
set_option autoImplicit false
namespace PL
open PySem PySem.Spec PyProof.Rows L2
theorem flash_ok {ws : List Int} (hws : Wheels ws) {t : Tr} (g : Good ws.length t) {s p : Int} (s0 : 0 < s) (s1 : s < 100) (p0 : 0 < p) (p1 : p < 100) :
    F_flash_period [.tuple (nums ws), encTr t, .int s, .int p] = .ok (pr (low (s * (ratT ws t).2) (p * (ratT ws t).1))) := by
  have h1 := ratio_ok hws g.within g.len
  have x := (rat_pos hws g.len).up (show 20 ≤ 100 by decide)
  have y := rat_pos hws g.len
  have c1 : cMul s (ratT ws t).2 = true := cMul_of (n := 100) (Nat.lt_of_lt_of_le (show s.natAbs < 2 ^ 7 by omega) (Nat.pow_le_pow_right (by decide) (by decide))) x.b2
  have c2 : cMul p (ratT ws t).1 = true := cMul_of (n := 100) (Nat.lt_of_lt_of_le (show p.natAbs < 2 ^ 7 by omega) (Nat.pow_le_pow_right (by decide) (by decide))) x.b1
  have hb := mulB (show p.natAbs < 2 ^ 7 by omega) y.b1
  have hl := lowest_spec (p := s * (ratT ws t).2) (w := p * (ratT ws t).1) (Int.mul_pos p0 y.p1) (up hb (by decide))
  have e : F_ratio_of [.tuple (nums ws), encTr t] = .ok (.tuple [.int (ratT ws t).1, .int (ratT ws t).2]) := h1
  simp [F_flash_period, b_flash_period, e, c1, c2, hl]
/-! ### numbers and stocks -/
theorem num_int {v a b : Int} : F_is_number [.int v, .int a, .int b] = .ok (.bool (decide (a ≤ v) && decide (v ≤ b))) := by
  by_cases h1 : a ≤ v
  · by_cases h2 : v ≤ b <;> simp [isD, F_is_number, b_is_number, dLeI, h1, h2]
  · simp [isD, F_is_number, b_is_number, dLeI, h1]
theorem num_bool {v : Bool} {a b : D} : F_is_number [.bool v, a, b] = .ok (.bool false) := by
  simp [isD, F_is_number, b_is_number]
theorem num_none {a b : D} : F_is_number [.none, a, b] = .ok (.bool false) := by
  simp [isD, F_is_number, b_is_number]
def okW (ws : List Int) : Bool := decide (2 ≤ ws.length) && decide (ws.length ≤ 8) && ws.all fun v => decide (6 ≤ v) && decide (v ≤ 60)
theorem stock_ok {ws : List Int} : F_is_stock [.tuple (nums ws)] = .ok (.bool (okW ws)) := by
  by_cases h : 2 ≤ ws.length ∧ ws.length ≤ 8
  · have h1 : (2 : Int) ≤ ws.length := by omega
    have h2 : (ws.length : Int) ≤ 8 := by omega
    have hq := qE_eq (stop := false) (vs := [1]) (src := onD itemsS (rdV 0)) (g := gN 1) (f := callF F_is_number (consA (rdV 1) (consA (kI 6) (consA (kI 60) nilA)))) (σ := [.val (.tuple (nums ws)), .emp]) (σ1 := [.val (.tuple (nums ws)), .emp]) (ds := nums ws)
      (k := fun d => match d with | .int v => decide (6 ≤ v) && decide (v ≤ 60) | _ => false) (by simp) (fun d hd => by
        obtain ⟨w, _, rfl⟩ := List.mem_map.mp hd
        simp [stG, wipeD_cons, wipeD_nil, num_int])
    simp only [F_is_stock, defD, List.length_cons, List.length_nil, if_true, b_is_stock, startD]
    simp [isD, h1, h2, dLeI, hq, -qE, backD_cons, backD_nil]
    simp [okW, h.1, h.2, List.all_map, Function.comp_def]
  · have e : okW ws = false := by
      simp only [okW, ← Bool.decide_and, h]
      simp [h]
    rw [e]
    by_cases h1 : (2 : Int) ≤ ws.length
    · have h2 : ¬ (ws.length : Int) ≤ 8 := by omega
      simp [isD, F_is_stock, b_is_stock, dLeI, h1, h2, -qE]
    · simp [isD, F_is_stock, b_is_stock, dLeI, h1, -qE]
theorem stock_none : F_is_stock [.none] = .ok (.bool false) := by simp [isD, F_is_stock, b_is_stock, -qE]
theorem stock_int {i : Int} : F_is_stock [.int i] = .ok (.bool false) := by simp [isD, F_is_stock, b_is_stock, -qE]
theorem stock_list {ds : List D} : F_is_stock [.list ds] = .ok (.bool false) := by simp [isD, F_is_stock, b_is_stock, -qE]
theorem stock_t6 : F_is_stock [.tuple [.bool true, .int 6]] = .ok (.bool false) := by
  simp [qE, isD, F_is_stock, b_is_stock, dLeI, num_bool, num_int, qF, stG, wipeD_cons, wipeD_nil]
theorem stock_n6 : F_is_stock [.tuple [.none, .int 6]] = .ok (.bool false) := by
  simp [qE, isD, F_is_stock, b_is_stock, dLeI, num_none, num_int, qF, stG, wipeD_cons, wipeD_nil]
theorem same_ok {b c : Bool} : F__law_same [.bool b, .bool c] = .ok (.bool (b == c)) := by
  cases b <;> cases c <;> simp [F__law_same, b__law_same, dIs]
end PL
set_option Elab.async false
set_option linter.all false
set_option maxRecDepth 100000
set_option maxHeartbeats 1000000
set_option autoImplicit false
namespace PL
open PySem PySem.Spec PyProof.Rows L2
/-! ### which trains there are -/
def inP (m : Nat) (p : Pr) : Bool := (decide (0 ≤ p.1) && decide (p.1 < m)) && (decide (0 ≤ p.2) && decide (p.2 < m))
def ascT : Tr → Bool
  | [] => true
  | [_] => true
  | p :: q :: t => lexB p q && ascT (q :: t)
def isT (m : Nat) (t : Tr) : Bool := (decide (1 ≤ t.length) && decide (t.length ≤ 3)) && (t.all (inP m) && (decide (usedT t).Nodup && ascT t))
theorem mem_pairsT {m : Nat} {p : Pr} : p ∈ pairsT m ↔ inP m p = true ∧ p.1 ≠ p.2 := by
  obtain ⟨a, b⟩ := p
  simp only [pairsT, List.mem_flatMap, List.mem_map, List.mem_filter, List.mem_range, decide_eq_true_eq, inP, Bool.and_eq_true, Prod.mk.injEq, ne_eq]
  constructor
  · rintro ⟨x, hx, y, ⟨hy, hn⟩, rfl, rfl⟩
    omega
  · rintro ⟨⟨⟨h1, h2⟩, h3, h4⟩, h5⟩
    exact ⟨a.toNat, by omega, b.toNat, ⟨by omega, by omega⟩, by omega, by omega⟩
theorem mem_levT {ps : List Pr} {L : List Tr} {u : Tr} : u ∈ levT ps L ↔ ∃ t ∈ L, ∃ p ∈ ps, okE t p = true ∧ u = t ++ [p] := by
  simp only [levT, nextT, List.mem_flatMap, List.mem_map, List.mem_filter]
  constructor
  · rintro ⟨t, ht, p, ⟨hp, hk⟩, rfl⟩
    exact ⟨t, ht, p, hp, hk, rfl⟩
  · rintro ⟨t, ht, p, hp, hk, rfl⟩
    exact ⟨t, ht, p, ⟨hp, hk⟩, rfl⟩
theorem mem_lv1 {m : Nat} {u : Tr} : u ∈ lv1 m ↔ ∃ p, u = [p] ∧ p ∈ pairsT m := by
  rw [mem_levT]
  constructor
  · rintro ⟨t, ht, p, hp, hk, rfl⟩
    rw [List.mem_singleton] at ht
    subst ht
    exact ⟨p, rfl, hp⟩
  · rintro ⟨p, rfl, hp⟩
    exact ⟨[], List.mem_singleton.mpr rfl, p, hp, by simp [okE, usedT], rfl⟩
theorem mem_lv2 {m : Nat} {u : Tr} : u ∈ lv2 m ↔ ∃ p q, u = [p, q] ∧ p ∈ pairsT m ∧ q ∈ pairsT m ∧ okE [p] q = true := by
  rw [mem_levT]
  constructor
  · rintro ⟨t, ht, q, hq, hk, rfl⟩
    obtain ⟨p, rfl, hp⟩ := mem_lv1.mp ht
    exact ⟨p, q, rfl, hp, hq, hk⟩
  · rintro ⟨p, q, rfl, hp, hq, hk⟩
    exact ⟨[p], mem_lv1.mpr ⟨p, rfl, hp⟩, q, hq, hk, rfl⟩
theorem mem_lv3 {m : Nat} {u : Tr} : u ∈ lv3 m ↔ ∃ p q r, u = [p, q, r] ∧ p ∈ pairsT m ∧ q ∈ pairsT m ∧ r ∈ pairsT m ∧ okE [p] q = true ∧ okE [p, q] r = true := by
  rw [mem_levT]
  constructor
  · rintro ⟨t, ht, r, hr, hk, rfl⟩
    obtain ⟨p, q, rfl, hp, hq, hk2⟩ := mem_lv2.mp ht
    exact ⟨p, q, r, rfl, hp, hq, hr, hk2, hk⟩
  · rintro ⟨p, q, r, rfl, hp, hq, hr, hk2, hk⟩
    exact ⟨[p, q], mem_lv2.mpr ⟨p, q, rfl, hp, hq, hk2⟩, r, hr, hk, rfl⟩
theorem mem_trainsT {m : Nat} {u : Tr} : u ∈ trainsT m ↔ isT m u = true := by
  have e : u ∈ trainsT m ↔ (u ∈ lv1 m ∨ u ∈ lv2 m) ∨ u ∈ lv3 m := by simp only [trainsT, List.mem_append]
  rw [e, mem_lv1, mem_lv2, mem_lv3]
  match u with
  | [] => simp [isT]
  | [p] =>
    simp [isT, mem_pairsT, usedT, ascT]
  | [p, q] =>
    simp [isT, mem_pairsT, usedT, ascT, okE]
    grind
  | [p, q, r] =>
    simp [isT, mem_pairsT, usedT, ascT, okE]
    grind
  | p :: q :: r :: s :: t =>
    simp [isT]
end PL
set_option Elab.async false
set_option linter.all false
set_option maxRecDepth 100000
set_option maxHeartbeats 1000000
set_option autoImplicit false
namespace PL
open PySem PySem.Spec PyProof.Rows L2
/-! ### is_train of a typed train -/
def bIsT : DEnv → O := oSeq (oIf (bOr (bNot (bV (isE .tuple (rdV 3)))) (bV (bin dNe (callD cLen (consA (rdV 3) nilA)) (kI 2)))) (oRet (kB false)) oNx)
    (oSeq (oIf (bNot (bV (qE false [4] (onD itemsS (rdV 3)) (gN 4) (callF F_is_number (consA (rdV 4) (consA (kI 0) (consA (bin dSub (callD cLen (consA (rdV 0) nilA)) (kI 1)) nilA))))))) (oRet (kB false)) oNx)
    (oSet 2 (bin dAdd (rdV 2) (callD cList (consA (rdV 3) nilA)))))
theorem quant_pr {ds : List D} {m : Nat} (hm : ds.length = m) (p : Pr) (s1 s2 c4 s5 s6 : Cell) : qE false [4] (onD itemsS (rdV 3)) (gN 4) (callF F_is_number (consA (rdV 4) (consA (kI 0) (consA (bin dSub (callD cLen (consA (rdV 0) nilA)) (kI 1)) nilA)))) [.val (.tuple ds), s1, s2, .val (pr p), c4, s5, s6]
    = .ok (.bool (inP m p)) [.val (.tuple ds), s1, s2, .val (pr p), backC (some c4), s5, s6] := by
  have hq := qE_eq (stop := false) (vs := [4]) (src := onD itemsS (rdV 3)) (g := gN 4) (f := callF F_is_number (consA (rdV 4) (consA (kI 0) (consA (bin dSub (callD cLen (consA (rdV 0) nilA)) (kI 1)) nilA)))) (σ := [.val (.tuple ds), s1, s2, .val (pr p), c4, s5, s6]) (σ1 := [.val (.tuple ds), s1, s2, .val (pr p), c4, s5, s6]) (ds := nums [p.1, p.2])
    (k := fun d => match d with | .int v => decide (0 ≤ v) && decide (v ≤ (m : Int) - 1) | _ => false) (by simp [pr]) (fun d hd => by
      obtain ⟨w, _, rfl⟩ := List.mem_map.mp hd
      simp [stG, wipeD_cons, wipeD_nil, num_int, dSub, hm])
  rw [hq]
  have e : ∀ v : Int, decide (v ≤ (m : Int) - 1) = decide (v < m) := fun v => decide_eq_decide.mpr (by omega)
  simp [backD_cons, backD_nil, wipeD_cons, wipeD_nil, inP, e]
theorem isT_loop {ds : List D} {m : Nat} (hm : ds.length = m) (s1 s5 s6 : Cell) : ∀ (L : Tr) (acc : List Int) (c3 c4 : Cell), c3.free = true → c4.free = true → acc.length + 2 * L.length ≤ 100000 →
    ∃ c3' c4' : Cell, c3'.free = true ∧ c4'.free = true ∧ forF (gN 3) bIsT (L.map pr) [.val (.tuple ds), s1, .val (.list (nums acc)), c3, c4, s5, s6] = if L.all (inP m) = true then .nx [.val (.tuple ds), s1, .val (.list (nums (acc ++ usedT L))), c3', c4', s5, s6] else .ret (.bool false) [.val (.tuple ds), s1, .val (.list (nums (acc ++ usedT (L.takeWhile (inP m))))), c3', c4', s5, s6] := by
  intro L
  induction L with
  | nil => intro acc c3 c4 h3 h4 _; exact ⟨c3, c4, h3, h4, by simp [usedT]⟩
  | cons p L ih =>
    intro acc c3 c4 h3 h4 hl
    simp only [List.length_cons] at hl
    have hq := quant_pr hm p s1 (.val (.list (nums acc))) c4 s5 s6
    have e : pr p = .tuple [.int p.1, .int p.2] := rfl
    by_cases hp : inP m p = true
    · obtain ⟨d3, d4, f3, f4, h⟩ := ih (acc ++ [p.1, p.2]) (.val (pr p)) (backC (some c4)) rfl backC_free (by simp; omega)
      refine ⟨d3, d4, f3, f4, ?_⟩
      have sl := sizeLine_mil
      have hz : acc.length + 2 ≤ sizeLine := by omega
      have t1 : turnF (gN 3) bIsT (pr p) [.val (.tuple ds), s1, .val (.list (nums acc)), c3, c4, s5, s6] = .nx [.val (.tuple ds), s1, .val (.list (nums (acc ++ [p.1, p.2]))), .val (pr p), backC (some c4), s5, s6] := by
        rw [hp] at hq
        rw [e] at hq
        simp [turnF, bIsT, h3, e, isD, hq, hz]
      rw [List.map_cons, forF_cons, t1]
      simp only
      rw [h]
      have u : ∀ L : Tr, usedT (p :: L) = [p.1, p.2] ++ usedT L := fun L => rfl
      simp only [List.all_cons, hp, Bool.true_and, List.takeWhile_cons, if_true, u, List.append_assoc]
    · have hp' : inP m p = false := by simpa using hp
      refine ⟨.val (pr p), backC (some c4), rfl, backC_free, ?_⟩
      have t1 : turnF (gN 3) bIsT (pr p) [.val (.tuple ds), s1, .val (.list (nums acc)), c3, c4, s5, s6] = .ret (.bool false) [.val (.tuple ds), s1, .val (.list (nums acc)), .val (pr p), backC (some c4), s5, s6] := by
        rw [hp'] at hq
        rw [e] at hq
        simp [turnF, bIsT, h3, e, isD, hq]
      rw [List.map_cons, forF_cons, t1]
      simp [hp', usedT]
theorem count_nums {ws : List Int} {v : Int} : mCount (nums ws) [.int v] = some (.int (ws.count v : Nat)) := by
  have h1 : SeqAt.shaped (.int v) = true := (Sh.int (n := 0)).ok
  have h2 : SeqAt.shaped (.list (nums ws)) = true := (Sh.list (n := 0) sh_nums).ok
  unfold mCount
  simp only
  rw [if_pos ⟨h1, h2⟩, List.countP_map, List.count_eq_countP]
  rfl
theorem any_dup (ws : List Int) : (ws.any fun v => decide (1 < ws.count v)) = !decide ws.Nodup := by
  rw [Bool.eq_iff_iff]
  simp only [List.any_eq_true, decide_eq_true_eq, Bool.not_eq_true', decide_eq_false_iff_not, List.nodup_iff_count]
  constructor
  · rintro ⟨x, _, h⟩ h2
    have := h2 x
    omega
  · intro h
    obtain ⟨x, hx⟩ := Classical.not_forall.mp h
    exact ⟨x, List.count_pos_iff.mp (by omega), by omega⟩
theorem dup_ok {s0 s1 c3 c4 c5 s6 : Cell} (ws : List Int) : qE true [5] (onD itemsS (rdV 2)) (gN 5) (bin dGtI (metL mCount (rdV 2) (consA (rdV 5) nilA)) (kI 1)) [s0, s1, .val (.list (nums ws)), c3, c4, c5, s6] = .ok (.bool (!decide ws.Nodup)) [s0, s1, .val (.list (nums ws)), c3, c4, backC (some c5), s6] := by
  have hq := qE_eq (stop := true) (vs := [5]) (src := onD itemsS (rdV 2)) (g := gN 5) (f := bin dGtI (metL mCount (rdV 2) (consA (rdV 5) nilA)) (kI 1)) (σ := [s0, s1, .val (.list (nums ws)), c3, c4, c5, s6]) (σ1 := [s0, s1, .val (.list (nums ws)), c3, c4, c5, s6]) (ds := nums ws)
    (k := fun d => match d with | .int v => decide (1 < ws.count v) | _ => false) (by simp) (fun d hd => by
      obtain ⟨w, _, rfl⟩ := List.mem_map.mp hd
      simp [stG, wipeD_cons, wipeD_nil, count_nums, dGtI]
      omega)
  rw [hq, ← any_dup]
  simp [backD_cons, backD_nil, wipeD_cons, wipeD_nil, List.any_map, Function.comp_def]
theorem asc_ok {s0 s2 c3 c4 c5 c6 : Cell} (u : Tr) (h1 : 1 ≤ u.length) (h3 : u.length ≤ 3) : ∃ σ, qE false [6] (onA rng1 (consA (bin dSub (callD cLen (consA (rdV 1) nilA)) (kI 1)) nilA)) (gN 6) (bin dLt (bin dIx (rdV 1) (rdV 6)) (bin dIx (rdV 1) (bin dAdd (rdV 6) (kI 1)))) [s0, .val (encTr u), s2, c3, c4, c5, c6] = .ok (.bool (ascT u)) σ := by
  have lt : ∀ p q : Pr, dLt (.tuple [.int p.1, .int p.2]) (.tuple [.int q.1, .int q.2]) = some (.bool (lexB p q)) := fun p q => lt_pr
  have r0 : rng1 [.int 0] = some [] := rng1_ok (n := 0) (by decide)
  have r1 : rng1 [.int 1] = some [.int 0] := rng1_ok (n := 1) (by decide)
  have r2 : rng1 [.int 2] = some [.int 0, .int 1] := rng1_ok (n := 2) (by decide)
  have x20 : ixN 2 0 = some 0 := by decide
  have x21 : ixN 2 1 = some 1 := by decide
  have x30 : ixN 3 0 = some 0 := by decide
  have x31 : ixN 3 1 = some 1 := by decide
  have x32 : ixN 3 2 = some 2 := by decide
  match u, h1, h3 with
  | [p], _, _ => exact ⟨_, by simp [qE, encTr, dSub, r0, qF, ascT]; rfl⟩
  | [p, q], _, _ =>
    by_cases h : lexB p q = true
    · exact ⟨_, by simp [qE, encTr, dSub, r1, qF, ascT, stG, pr, wipeD_cons, wipeD_nil, x20, x21, lt, h]; rfl⟩
    · exact ⟨_, by simp [qE, encTr, dSub, r1, qF, ascT, stG, pr, wipeD_cons, wipeD_nil, x20, x21, lt, h]; rfl⟩
  | [p, q, r], _, _ =>
    by_cases h : lexB p q = true
    · by_cases h' : lexB q r = true
      · exact ⟨_, by simp [qE, encTr, dSub, r2, qF, ascT, stG, pr, wipeD_cons, wipeD_nil, x30, x31, x32, lt, h, h']; rfl⟩
      · exact ⟨_, by simp [qE, encTr, dSub, r2, qF, ascT, stG, pr, wipeD_cons, wipeD_nil, x30, x31, x32, lt, h, h']; rfl⟩
    · exact ⟨_, by simp [qE, encTr, dSub, r2, qF, ascT, stG, pr, wipeD_cons, wipeD_nil, x30, x31, x32, lt, h]; rfl⟩
theorem is_train_ok {ds : List D} {m : Nat} (hm : ds.length = m) (u : Tr) (hu : u.length ≤ 1000) : F_is_train [.tuple ds, encTr u] = .ok (.bool (isT m u)) := by
  have e : b_is_train = oSeq (oIf (bOr (bNot (bV (isE .tuple (rdV 1)))) (bNot (bV (chn dLeI dLeI (kI 1) (callD cLen (consA (rdV 1) nilA)) (kI 3))))) (oRet (kB false)) oNx) (oSeq (oSet 2 (asL (chk nilA))) (oSeq (oFor (onD itemsS (rdV 1)) (gN 3) bIsT) (oSeq (oIf (bV (qE true [5] (onD itemsS (rdV 2)) (gN 5) (bin dGtI (metL mCount (rdV 2) (consA (rdV 5) nilA)) (kI 1)))) (oRet (kB false)) oNx)
    (oRet (qE false [6] (onA rng1 (consA (bin dSub (callD cLen (consA (rdV 1) nilA)) (kI 1)) nilA)) (gN 6) (bin dLt (bin dIx (rdV 1) (rdV 6)) (bin dIx (rdV 1) (bin dAdd (rdV 6) (kI 1))))))))) := rfl
  have e0 : encTr u = .tuple (u.map pr) := rfl
  by_cases h1 : 1 ≤ u.length
  · have h1' : (1 : Int) ≤ u.length := by omega
    by_cases h3 : u.length ≤ 3
    · have h3' : (u.length : Int) ≤ 3 := by omega
      obtain ⟨c3, c4, f3, f4, hl⟩ := isT_loop hm (.val (encTr u)) .emp .emp u [] .emp .emp rfl rfl (by simp; omega)
      simp only [List.map_nil, List.nil_append] at hl
      have hd := dup_ok (s0 := .val (.tuple ds)) (s1 := .val (encTr u)) (c3 := c3) (c4 := c4) (c5 := .emp) (s6 := .emp) (usedT u)
      obtain ⟨σ, ha⟩ := asc_ok (s0 := .val (.tuple ds)) (s2 := .val (.list (nums (usedT u)))) (c3 := c3) (c4 := c4) (c5 := .emp) (c6 := .emp) u h1 h3
      simp only [backC_emp] at hd
      rw [e0] at hl hd ha ⊢
      by_cases hin : u.all (inP m) = true
      · rw [if_pos hin] at hl
        by_cases hn : (usedT u).Nodup
        · simp only [F_is_train, defD, e, List.length_cons, List.length_nil, if_true, startD]
          simp only [hn, decide_true, Bool.not_true] at hd
          simp [isD, h1', h3', dLeI, hl, hd, ha, isT, h1, h3, hin, hn, -qE, -List.all_eq_true]
        · simp only [F_is_train, defD, e, List.length_cons, List.length_nil, if_true, startD]
          simp only [hn, decide_false, Bool.not_false] at hd
          simp [isD, h1', h3', dLeI, hl, hd, ha, isT, h1, h3, hin, hn, -qE, -List.all_eq_true]
      · rw [if_neg hin] at hl
        simp only [F_is_train, defD, e, List.length_cons, List.length_nil, if_true, startD]
        simp [isD, h1', h3', dLeI, hl, isT, h1, h3, hin, -qE, -List.all_eq_true]
    · have h3' : ¬ (u.length : Int) ≤ 3 := by omega
      rw [e0]
      simp only [F_is_train, defD, e, List.length_cons, List.length_nil, if_true, startD]
      simp [isD, h1', h3', dLeI, isT, h3, -qE]
  · have h1' : ¬ (1 : Int) ≤ u.length := by omega
    rw [e0]
    simp only [F_is_train, defD, e, List.length_cons, List.length_nil, if_true, startD]
    simp [isD, h1', dLeI, isT, h1, -qE]
end PL
set_option Elab.async false
set_option linter.all false
set_option maxRecDepth 100000
set_option maxHeartbeats 1000000
set_option autoImplicit false
namespace PL
open PySem PySem.Spec PyProof.Rows L2
/-! ### the values that are asked -/
theorem int_int {i : Int} : F__law_int [.int i] = .ok (.bool true) := by simp [F__law_int, b__law_int, isD]
theorem int_bool {b : Bool} : F__law_int [.bool b] = .ok (.bool false) := by simp [F__law_int, b__law_int, isD]
theorem int_none : F__law_int [.none] = .ok (.bool false) := by simp [F__law_int, b__law_int, isD]
inductive Atom : D → Prop
  | int {i : Int} : Atom (.int i)
  | bool {b : Bool} : Atom (.bool b)
  | none : Atom .none
def notInt : D → Bool
  | .int _ => false
  | _ => true
theorem Atom.sh {d : D} (h : Atom d) : Sh 0 d := by
  cases h
  · exact Sh.int
  · exact Sh.bool
  · exact Sh.none
inductive Nice : D → Prop
  | tup {ds : List D} : (∀ d ∈ ds, Atom d) → ds.length ≤ 1000 → Nice (.tuple ds)
  | lst {ds : List D} : (∀ d ∈ ds, Atom d) → Nice (.list ds)
  | atom {d : D} : Atom d → Nice d
theorem Nice.sh {d : D} (h : Nice d) : Sh 1 d := by
  cases h with
  | tup h _ => exact Sh.tuple fun e he => (h e he).sh
  | lst h => exact Sh.list fun e he => (h e he).sh
  | atom h => exact h.sh.mono (by decide)
def kBad : D → Bool
  | .tuple ds => ds.any notInt
  | _ => true
def e12 : DEnv → R D := asL (lc [12] (onD itemsS (rdV 18)) (gN 12) (bNot (bV (callF F__law_int (consA (rdV 12) nilA)))) (rdV 12))
def e18 : DEnv → R D := asL (lc [18] (onD itemsS (rdV 16)) (gN 18) (bOr (bNot (bV (isE .tuple (rdV 18)))) (bV (bin dNe e12 (asL (chk nilA))))) (rdV 18))
section
variable (s0 s1 s2 s3 s4 s5 s6 s7 s8 s9 c10 s11 c12 s13 s14 s15 c16 s17 c18 : Cell)
theorem e12_ok {ds : List D} (h : ∀ d ∈ ds, Atom d) (hl : ds.length ≤ 1000) : e12 [s0, s1, s2, s3, s4, s5, s6, s7, s8, s9, c10, s11, c12, s13, s14, s15, c16, s17, .val (.tuple ds)]
    = .ok (.list (ds.filter notInt)) [s0, s1, s2, s3, s4, s5, s6, s7, s8, s9, c10, s11, backC (some c12), s13, s14, s15, c16, s17, .val (.tuple ds)] := by
  have h2 := lcF_map (vs := [12]) (g := gN 12) (t := bNot (bV (callF F__law_int (consA (rdV 12) nilA)))) (f := rdV 12) (σ := [s0, s1, s2, s3, s4, s5, s6, s7, s8, s9, c10, s11, .emp, s13, s14, s15, c16, s17, .val (.tuple ds)]) (k := fun d => if notInt d = true then some d else none) (ds := ds) (acc := []) (fun d hd => by
    cases h d hd
    · simp [turnL, int_int, notInt, wipeD_cons, wipeD_nil]
    · simp [turnL, int_bool, notInt, wipeD_cons, wipeD_nil]
    · simp [turnL, int_none, notInt, wipeD_cons, wipeD_nil]) (by simp; omega)
  have ef : ([] : List D) ++ ds.filterMap (fun d => if notInt d = true then some d else none) = ds.filter notInt := by
    rw [List.nil_append]
    exact (List.filterMap_eq_filter (p := notInt) ▸ rfl)
  rw [ef] at h2
  have h3 := lc_eq (src := onD itemsS (rdV 18)) (σ := [s0, s1, s2, s3, s4, s5, s6, s7, s8, s9, c10, s11, c12, s13, s14, s15, c16, s17, .val (.tuple ds)]) (σ1 := [s0, s1, s2, s3, s4, s5, s6, s7, s8, s9, c10, s11, c12, s13, s14, s15, c16, s17, .val (.tuple ds)]) (ds := ds) (by simp) h2
  simp only [e12, asL, h3, R.bind]
  simp [backD_cons, backD_nil]
theorem ne_nil {ds : List D} {n : Nat} (h : ∀ d ∈ ds, Sh n d) (hn : n + 1 ≤ 64) : dNe (.list ds) (.list []) = some (.bool (!ds.isEmpty)) ∧ dEq (.list ds) (.list []) = some (.bool ds.isEmpty) := by
  constructor
  · rw [dNe_sh (Sh.list h) (Sh.list (n := 0) (by simp)) hn (by decide)]
    cases ds <;> simp [PyData.eqv, PyData.eqvAll]
  · rw [dEq_sh (Sh.list h) (Sh.list (n := 0) (by simp)) hn (by decide)]
    cases ds <;> simp [PyData.eqv, PyData.eqvAll]
theorem filter_empty {α : Type} (p : α → Bool) (l : List α) : (!(l.filter p).isEmpty) = l.any p := by
  induction l with
  | nil => rfl
  | cons a l ih =>
    by_cases h : p a = true
    · simp [h]
    · simp [h] at ih ⊢
      simpa using ih
theorem e18_ok {vs : List D} (h : ∀ d ∈ vs, Nice d) (hl : vs.length ≤ 1000) (d12 t : D) (ht : itemsS t = some vs) : e18 [s0, s1, s2, s3, s4, s5, s6, s7, s8, s9, c10, s11, .val d12, s13, s14, s15, .val t, s17, c18]
    = .ok (.list (vs.filter kBad)) [s0, s1, s2, s3, s4, s5, s6, s7, s8, s9, c10, s11, .val d12, s13, s14, s15, .val t, s17, backC (some c18)] := by
  have h2 := lcF_map (vs := [18]) (g := gN 18) (t := bOr (bNot (bV (isE .tuple (rdV 18)))) (bV (bin dNe e12 (asL (chk nilA))))) (f := rdV 18) (σ := [s0, s1, s2, s3, s4, s5, s6, s7, s8, s9, c10, s11, .val d12, s13, s14, s15, .val t, s17, .emp]) (k := fun d => if kBad d = true then some d else none) (ds := vs) (acc := []) (fun d hd => by
    cases h d hd with
    | @tup ds ha hl =>
      have e := e12_ok s0 s1 s2 s3 s4 s5 s6 s7 s8 s9 c10 s11 (.val d12) s13 s14 s15 (.val t) s17 ha hl
      have n := (ne_nil (ds := ds.filter notInt) (n := 0) (fun d hd => (ha d ((List.mem_filter.mp hd).1)).sh) (by decide)).1
      rw [filter_empty] at n
      simp only [backC_val] at e
      by_cases hb : ds.any notInt = true
      · rw [hb] at n
        simp [turnL, isD, e, n, kBad, hb, wipeD_cons, wipeD_nil, -List.any_eq_true]
      · have hb' : ds.any notInt = false := by simpa using hb
        rw [hb'] at n
        simp [turnL, isD, e, n, kBad, hb', wipeD_cons, wipeD_nil, -List.any_eq_true, -List.any_eq_false]
    | lst ha => simp [turnL, isD, kBad, wipeD_cons, wipeD_nil]
    | atom ha => cases ha <;> simp [turnL, isD, kBad, wipeD_cons, wipeD_nil]) (by simp; omega)
  have ef : ([] : List D) ++ vs.filterMap (fun d => if kBad d = true then some d else none) = vs.filter kBad := by
    rw [List.nil_append]
    exact (List.filterMap_eq_filter (p := kBad) ▸ rfl)
  rw [ef] at h2
  have h3 := lc_eq (src := onD itemsS (rdV 16)) (σ := [s0, s1, s2, s3, s4, s5, s6, s7, s8, s9, c10, s11, .val d12, s13, s14, s15, .val t, s17, c18]) (σ1 := [s0, s1, s2, s3, s4, s5, s6, s7, s8, s9, c10, s11, .val d12, s13, s14, s15, .val t, s17, c18]) (ds := vs) (by simp [ht]) h2
  simp only [e18, asL, h3, R.bind]
  simp [backD_cons, backD_nil]
/-- what is due of a value -/
def due10 : DEnv → R D := vAnd (isE .tuple (rdV 16)) (vAnd (bin dEq e18 (asL (chk nilA))) (bin dIn (rdV 16) (rdV 6)))
theorem due_ok {vs : List D} (h : ∀ d ∈ vs, Nice d) (hl : vs.length ≤ 1000) (d12 : D) {T : List D} {b : Bool} (hb : vs.any kBad = false → dIn (.tuple vs) (.list T) = some (.bool b)) : due10 [s0, s1, s2, s3, s4, s5, .val (.list T), s7, s8, s9, c10, s11, .val d12, s13, s14, s15, .val (.tuple vs), s17, c18]
    = .ok (.bool (!vs.any kBad && b)) [s0, s1, s2, s3, s4, s5, .val (.list T), s7, s8, s9, c10, s11, .val d12, s13, s14, s15, .val (.tuple vs), s17, backC (some c18)] := by
  have e := e18_ok s0 s1 s2 s3 s4 s5 (.val (.list T)) s7 s8 s9 c10 s11 s13 s14 s15 s17 c18 h hl d12 (.tuple vs) rfl
  have n := (ne_nil (ds := vs.filter kBad) (n := 1) (fun d hd => (h d ((List.mem_filter.mp hd).1)).sh) (by decide)).2
  have f : (vs.filter kBad).isEmpty = !vs.any kBad := by rw [← filter_empty]; simp
  rw [f] at n
  by_cases hk : vs.any kBad = true
  · rw [hk] at n ⊢
    simp [due10, isD, e, n, -List.any_eq_true]
  · have hk' : vs.any kBad = false := by simpa using hk
    rw [hk'] at n ⊢
    simp [due10, isD, e, n, hb hk', -List.any_eq_true, -List.any_eq_false]
theorem due_not (t d12 : D) (h : isD .tuple t = false) : due10 [s0, s1, s2, s3, s4, s5, s6, s7, s8, s9, c10, s11, .val d12, s13, s14, s15, .val t, s17, c18] = .ok (.bool false) [s0, s1, s2, s3, s4, s5, s6, s7, s8, s9, c10, s11, .val d12, s13, s14, s15, .val t, s17, c18] := by
  simp [due10, h]
end
theorem in_trains {m : Nat} (u : Tr) : dIn (encTr u) (.list ((trainsT m).map encTr)) = some (.bool (isT m u)) := by
  rw [dIn_list (n := 2) (m := 2) sh_tr (fun e he => by
    obtain ⟨t, _, rfl⟩ := List.mem_map.mp he
    exact sh_tr)]
  congr 2
  rw [Bool.eq_iff_iff, ← mem_trainsT]
  simp [List.any_map, eqv_tr]
end PL
set_option Elab.async false
set_option linter.all false
set_option maxRecDepth 100000
set_option maxHeartbeats 1000000
set_option autoImplicit false
namespace PL
open PySem PySem.Spec PyProof.Rows L2
def bVal : DEnv → O := oSeq (oSet 10 due10) (oIf (bNot (bV (callF F__law_same (consA (callF F_is_train (consA (rdV 3) (consA (rdV 16) nilA))) (consA (rdV 10) nilA))))) (oRet (kB false)) oNx)
/-- a value of which the program says what is due -/
def Asked (S : D) (T : List D) (v : D) : Prop := ∃ b, F_is_train [S, v] = .ok (.bool b) ∧ ∀ (s0 s1 s2 s3 s4 s5 s7 s8 s9 c10 s11 s13 s14 s15 s17 c18 : Cell) (d12 : D), c18.free = true → ∃ c18' : Cell, c18'.free = true ∧
  due10 [s0, s1, s2, s3, s4, s5, .val (.list T), s7, s8, s9, c10, s11, .val d12, s13, s14, s15, .val v, s17, c18] = .ok (.bool b) [s0, s1, s2, s3, s4, s5, .val (.list T), s7, s8, s9, c10, s11, .val d12, s13, s14, s15, .val v, s17, c18']
theorem val_loop {S : D} {T : List D} (s0 s1 s2 s4 s5 s7 s8 s9 s11 s13 s14 s15 s17 : Cell) (d12 : D) : ∀ (vs : List D) (c10 c16 c18 : Cell), (∀ v ∈ vs, Asked S T v) → c10.free = true → c16.free = true → c18.free = true →
    ∃ σ, forF (gN 16) bVal vs [s0, s1, s2, .val S, s4, s5, .val (.list T), s7, s8, s9, c10, s11, .val d12, s13, s14, s15, c16, s17, c18] = .nx σ
  | [], _, _, _, _, _, _, _ => ⟨_, rfl⟩
  | v :: vs, c10, c16, c18, h, f10, f16, f18 => by
    obtain ⟨b, e1, e2⟩ := h v List.mem_cons_self
    obtain ⟨c18', f18', e3⟩ := e2 s0 s1 s2 (.val S) s4 s5 s7 s8 s9 c10 s11 s13 s14 s15 s17 c18 d12 f18
    obtain ⟨σ, e4⟩ := val_loop (S := S) (T := T) s0 s1 s2 s4 s5 s7 s8 s9 s11 s13 s14 s15 s17 d12 vs (.val (.bool b)) (.val v) c18' (fun w hw => h w (List.mem_cons_of_mem _ hw)) rfl rfl f18'
    refine ⟨σ, ?_⟩
    have t : turnF (gN 16) bVal v [s0, s1, s2, .val S, s4, s5, .val (.list T), s7, s8, s9, c10, s11, .val d12, s13, s14, s15, c16, s17, c18] = .nx [s0, s1, s2, .val S, s4, s5, .val (.list T), s7, s8, s9, .val (.bool b), s11, .val d12, s13, s14, s15, .val v, s17, c18'] := by
      have e5 := same_ok (b := b) (c := b)
      rw [beq_self_eq_true] at e5
      simp [turnF, bVal, f16, e3, f10, e1, e5]
    rw [forF_cons, t]
    exact e4
theorem asked_tr {ws : List Int} {m : Nat} (hm : ws.length = m) (u : Tr) (hu : u.length ≤ 1000) : Asked (.tuple (nums ws)) ((trainsT m).map encTr) (encTr u) := by
  have hk : (u.map pr).any kBad = false := by
    simp [List.any_map, kBad, pr, notInt]
  refine ⟨isT m u, is_train_ok (by simpa using hm) u hu, fun s0 s1 s2 s3 s4 s5 s7 s8 s9 c10 s11 s13 s14 s15 s17 c18 d12 f => ⟨backC (some c18), backC_free, ?_⟩⟩
  have := due_ok s0 s1 s2 s3 s4 s5 s7 s8 s9 c10 s11 s13 s14 s15 s17 c18 (vs := u.map pr) (T := (trainsT m).map encTr) (b := isT m u) (fun d hd => by
    obtain ⟨p, _, rfl⟩ := List.mem_map.mp hd
    refine Nice.tup (fun d hd => ?_) (by simp)
    simp at hd
    rcases hd with rfl | rfl <;> exact Atom.int) (by simpa using hu) d12 (fun _ => in_trains u)
  rw [hk] at this
  exact this
theorem asked_not {S : D} {T : List D} {v : D} (h : isD .tuple v = false) : Asked S T v := by
  refine ⟨false, ?_, fun s0 s1 s2 s3 s4 s5 s7 s8 s9 c10 s11 s13 s14 s15 s17 c18 d12 f => ⟨c18, f, due_not _ _ _ _ _ _ _ _ _ _ _ _ _ _ _ _ _ v d12 h⟩⟩
  simp [F_is_train, b_is_train, h]
/-- a tuple of one thing that is no pair of numbers -/
theorem asked_one {ws : List Int} {L : List Tr} {d : D} (hn : Nice d) (h : kBad d = false → ∀ p : Pr, PyData.eqv (pr p) d = false) (ht : F_is_train [.tuple (nums ws), .tuple [d]] = .ok (.bool false)) : Asked (.tuple (nums ws)) (L.map encTr) (.tuple [d]) := by
  refine ⟨false, ht, fun s0 s1 s2 s3 s4 s5 s7 s8 s9 c10 s11 s13 s14 s15 s17 c18 d12 f => ⟨backC (some c18), backC_free, ?_⟩⟩
  have := due_ok s0 s1 s2 s3 s4 s5 s7 s8 s9 c10 s11 s13 s14 s15 s17 c18 (vs := [d]) (T := L.map encTr) (b := false) (fun e he => by
    rw [List.mem_singleton] at he
    rw [he]
    exact hn) (by simp) d12 (fun hk => by
      rw [dIn_list (n := 2) (m := 2) (Sh.tuple fun e he => by
        rw [List.mem_singleton] at he
        rw [he]
        exact hn.sh) (fun e he => by
        obtain ⟨t, _, rfl⟩ := List.mem_map.mp he
        exact sh_tr)]
      congr 2
      rw [List.any_eq_false]
      intro e he
      obtain ⟨t, _, rfl⟩ := List.mem_map.mp he
      have hd : kBad d = false := by simpa using hk
      match t with
      | [] => simp [encTr, PyData.eqv, PyData.eqvAll]
      | [p] => simp [encTr, PyData.eqv, PyData.eqvAll, h hd p]
      | p :: q :: t => simp [encTr, PyData.eqv, PyData.eqvAll])
  rw [Bool.and_false] at this
  exact this
theorem it_list {ds es : List D} : F_is_train [.tuple ds, .tuple [.list es]] = .ok (.bool false) := by
  simp [F_is_train, b_is_train, isD, dLeI, forF_cons, turnF]
theorem it_none {ds : List D} : F_is_train [.tuple ds, .tuple [.none]] = .ok (.bool false) := by
  simp [F_is_train, b_is_train, isD, dLeI, forF_cons, turnF]
theorem it_len {ds es : List D} (h : es.length ≠ 2) : F_is_train [.tuple ds, .tuple [.tuple es]] = .ok (.bool false) := by
  have h' : ¬ (es.length : Int) = 2 := by omega
  simp [F_is_train, b_is_train, isD, dLeI, forF_cons, turnF, h']
theorem it_t0 {ds : List D} : F_is_train [.tuple ds, .tuple [.tuple [.bool true, .int 0]]] = .ok (.bool false) := by
  simp [F_is_train, b_is_train, isD, dLeI, forF_cons, turnF, qE, qF, stG, dSub, num_bool, wipeD_cons, wipeD_nil]
theorem it_0n {ds : List D} : F_is_train [.tuple ds, .tuple [.tuple [.int 0, .none]]] = .ok (.bool false) := by
  by_cases h : (0 : Int) ≤ (ds.length : Int) - 1
  · simp [F_is_train, b_is_train, isD, dLeI, forF_cons, turnF, qE, qF, stG, dSub, num_none, num_int, wipeD_cons, wipeD_nil, h]
  · simp [F_is_train, b_is_train, isD, dLeI, forF_cons, turnF, qE, qF, stG, dSub, num_none, num_int, wipeD_cons, wipeD_nil, h]
end PL
set_option Elab.async false
set_option linter.all false
set_option maxRecDepth 100000
set_option maxHeartbeats 1000000
set_option autoImplicit false
namespace PL
open PySem PySem.Spec PyProof.Rows L2
theorem open_ok {ns : List Int} (h : ns.length ≤ 1000) : ∃ tp, FF__law_open [.list (nums ns)] = .ok tp ∧ TapeOk 0 tp := by
  obtain ⟨cs, hcs⟩ : ∃ cs : List Int, cutD (nums ns) none (some 63) = nums cs ∧ cs.length ≤ 1000 := by
    refine ⟨cutD ns none (some 63), ?_, ?_⟩
    · unfold cutD
      simp only [← List.map_drop, ← List.map_take, List.length_map]
    · unfold cutD
      rw [List.length_take, List.length_drop]
      omega
  have h2 := lcF_map (vs := [2]) (g := gN 2) (t := yesB) (f := callD cAbs (consA (callD cInt (consA (rdV 2) nilA)) nilA)) (σ := [.val (.list (nums ns)), .emp, .emp]) (k := fun d => match d with | .int i => some (.int i.natAbs) | _ => none) (ds := nums cs) (acc := []) (fun d hd => by
    obtain ⟨w, _, rfl⟩ := List.mem_map.mp hd
    simp [turnL, wipeD_cons, wipeD_nil]) (by simp; omega)
  have ef : ([] : List D) ++ (nums cs).filterMap (fun d => match d with | .int i => some (.int (i.natAbs : Int)) | _ => none) = nums (cs.map fun i => (i.natAbs : Int)) := by
    rw [List.nil_append, List.filterMap_map, show nums (cs.map fun i => (i.natAbs : Int)) = cs.map (PyData.int ∘ fun i => (i.natAbs : Int)) from List.map_map, ← List.filterMap_eq_map]
    rfl
  rw [ef] at h2
  have h3 := lc_eq (src := onD itemsS (slE (rdV 0) noPart (part (kI 63)))) (σ := [.val (.list (nums ns)), .emp, .emp]) (σ1 := [.val (.list (nums ns)), .emp, .emp]) (ds := nums cs) (by simp [hcs.1]) h2
  refine ⟨[.int 0, .int 0, .list (nums (cs.map (fun i => (i.natAbs : Int)) ++ [0]))], ?_, 0, 0, _, rfl, by decide, by decide, by decide, by simp⟩
  have sl := sizeLine_mil
  have hz : cs.length + 1 ≤ sizeLine := by omega
  simp only [FF__law_open, defF, fb__law_open, List.length_cons, List.length_nil, if_true, startD]
  simp [h3, hz, backD_cons, backD_nil]
end PL
set_option Elab.async false
set_option linter.all false
set_option maxRecDepth 100000
set_option maxHeartbeats 1000000
set_option autoImplicit false
namespace PL
open PySem PySem.Spec PyProof.Rows L2
theorem TapeOk.mono {B C : Nat} {tp : List D} (h : TapeOk B tp) (hc : B ≤ C) : TapeOk C tp := by
  obtain ⟨t, l, c, e, h1, h2, h3, h4⟩ := h
  exact ⟨t, l, c, e, h1, by omega, h3, h4⟩
/-- a draw below a number of at most 9000 bits, the tape in slot 1 -/
theorem draw_b {tp : List D} {size : Int} {B : Nat} (h : TapeOk B tp) (hb : B ≤ 1000) (h0 : 0 < size) (hs : size < 100000) : ∃ (v : Int) (tp' : List D), F__law_draw tp [.int size] = .ok (.int v) tp' ∧ 0 ≤ v ∧ v < size ∧ TapeOk (B + 1) tp' := by
  refine draw_ok h (Nat.lt_of_le_of_lt hb ?_) h0 ?_
  · exact Nat.lt_of_lt_of_le (show 1000 < 2 ^ 10 by decide) (Nat.pow_le_pow_right (by decide) (by decide))
  · exact Nat.lt_of_lt_of_le (show size.natAbs < 2 ^ 17 by omega) (Nat.pow_le_pow_right (by decide) (by decide))
theorem stock_step {tp : List D} {B : Nat} {wide : Int} (h : TapeOk B tp) (hb : B ≤ 100) (w0 : 0 < wide) (w1 : wide ≤ 55) (s0 : Cell) : ∃ (ws : List Int) (tp' : List D), TapeOk 110 tp' ∧ 2 ≤ ws.length ∧ ws.length ≤ 6 ∧ (∀ w ∈ ws, 6 ≤ w ∧ w ≤ 60) ∧
    lc [17] (onA rng1 (consA (bin dAdd (kI 2) (callT F__law_draw 1 (consA (kI 5) nilA))) nilA)) (gN 17) yesB (bin dAdd (kI 6) (callT F__law_draw 1 (consA (rdV 2) nilA))) [s0, .own tp, .val (.int wide), .emp, .emp, .emp, .emp, .emp, .emp, .emp, .emp, .emp, .emp, .emp, .emp, .emp, .emp, .emp, .emp]
      = .ok (nums ws) [s0, .own tp', .val (.int wide), .emp, .emp, .emp, .emp, .emp, .emp, .emp, .emp, .emp, .emp, .emp, .emp, .emp, .emp, .emp, .emp] := by
  obtain ⟨v, tp1, e1, v0, v1, t1⟩ := draw_b h (by omega) (show (0 : Int) < 5 by decide) (by decide)
  obtain ⟨k, rfl⟩ : ∃ k : Nat, v = k := ⟨v.toNat, by omega⟩
  have hr : rng1 [.int (2 + (k : Int))] = some (rangeD 0 (k + 2)) := by
    have e : (2 : Int) + k = ((k + 2 : Nat) : Int) := by omega
    rw [e]
    exact rng1_nat (by omega)
  obtain ⟨ys, σ', e2, l2, ⟨tp2, rfl, t2⟩, p2⟩ := lcF_inv (vs := [17]) (g := gN 17) (t := yesB) (f := bin dAdd (kI 6) (callT F__law_draw 1 (consA (rdV 2) nilA))) (I := fun n σ => ∃ tp', σ = [s0, .own tp', .val (.int wide), .emp, .emp, .emp, .emp, .emp, .emp, .emp, .emp, .emp, .emp, .emp, .emp, .emp, .emp, .emp, .emp] ∧ TapeOk (B + 1 + n) tp') (Pd := fun y => ∃ w : Int, y = .int w ∧ 6 ≤ w ∧ w ≤ 60) (N := 8)
    (ds := rangeD 0 (k + 2)) (acc := []) (n := 0) (fun d hd n hn σ ⟨tq, e, hq⟩ => by
      subst e
      obtain ⟨x, tr, e3, x0, x1, h3⟩ := draw_b hq (by omega) w0 (by omega)
      refine ⟨.int (6 + x), _, ?_, ⟨tr, rfl, h3⟩, 6 + x, rfl, by omega, by omega⟩
      simp [turnL, e3, wipeD_cons, wipeD_nil]) ⟨tp1, rfl, t1⟩ (by simp [rangeD]; omega) (by simp [rangeD]; omega)
  obtain ⟨ws, rfl⟩ : ∃ ws : List Int, ys = nums ws := by
    clear e2 l2
    induction ys with
    | nil => exact ⟨[], rfl⟩
    | cons y ys ih =>
      obtain ⟨ws, rfl⟩ := ih fun y hy => p2 y (List.mem_cons_of_mem _ hy)
      obtain ⟨w, rfl, _⟩ := p2 y List.mem_cons_self
      exact ⟨w :: ws, rfl⟩
  have l3 : ws.length = k + 2 := by simpa [rangeD] using l2
  refine ⟨ws, tp2, t2.mono (by simp [rangeD]; omega), by omega, by omega, fun w hw => ?_, ?_⟩
  · obtain ⟨x, e, h1, h2⟩ := p2 (.int w) (List.mem_map.mpr ⟨w, hw, rfl⟩)
    cases e
    exact ⟨h1, h2⟩
  · rw [List.nil_append] at e2
    rw [lc_eq (σ1 := [s0, .own tp1, .val (.int wide), .emp, .emp, .emp, .emp, .emp, .emp, .emp, .emp, .emp, .emp, .emp, .emp, .emp, .emp, .emp, .emp]) (ds := rangeD 0 (k + 2)) (by simp [e1, hr]) e2]
    simp [backD_cons, backD_nil]
end PL
set_option Elab.async false
set_option linter.all false
set_option maxRecDepth 100000
set_option maxHeartbeats 1000000
set_option autoImplicit false
namespace PL
open PySem PySem.Spec PyProof.Rows L2
/-! ### the wider stock; the loop over the trains -/
theorem isT_up {m : Nat} {t : Tr} (h : isT m t = true) : isT (m + 1) t = true := by
  simp only [isT, Bool.and_eq_true, List.all_eq_true] at h ⊢
  refine ⟨h.1, fun p hp => ?_, h.2.2⟩
  have := h.2.1 p hp
  simp only [inP, Bool.and_eq_true, decide_eq_true_eq] at this ⊢
  omega
theorem gw_app {ws : List Int} {i : Int} (h0 : 0 ≤ i) (h1 : i < ws.length) (z : List Int) : gw (ws ++ z) i = gw ws i := by
  unfold gw
  rw [List.getD_eq_getElem?_getD, List.getD_eq_getElem?_getD, List.getElem?_append_left (by omega)]
theorem rat_app {ws : List Int} {t : Tr} (h : Within ws.length t) (z : List Int) : ratT (ws ++ z) t = ratT ws t := by
  have e : ∀ (f : Pr → Int), (∀ p ∈ t, 0 ≤ f p ∧ f p < (ws.length : Int)) → ∀ a : Int, t.foldl (fun a p => a * gw (ws ++ z) (f p)) a = t.foldl (fun a p => a * gw ws (f p)) a := fun f hf => by
    clear h
    induction t with
    | nil => intro a; rfl
    | cons p t ih =>
      intro a
      have := hf p List.mem_cons_self
      simp only [List.foldl_cons]
      rw [gw_app this.1 this.2, ih fun q hq => hf q (List.mem_cons_of_mem _ hq)]
  unfold ratT prod
  rw [e (·.1) fun p hp => (h p hp).1, e (·.2) fun p hp => (h p hp).2]
theorem wider_ok {ws : List Int} {m : Nat} (hw : Wheels ws) (hm : ws.length = m) (h6 : m < 6) {t : Tr} (ht : t ∈ trainsT m) : ∃ u : Tr, F_train_for [.tuple (nums (ws ++ [7])), pr (ratT ws t)] = .ok (encTr u) := by
  have hw' : Wheels (ws ++ [7]) := fun w h => by
    rcases List.mem_append.mp h with h | h
    · exact hw w h
    · rw [List.mem_singleton] at h
      rw [h]
      decide
  have h := train_for_ok (ws := ws ++ [7]) (m := m + 1) hw' (by simp [hm]) (by omega) (ratT ws t)
  have hin : Within ws.length t := by rw [hm]; exact (good_of (by omega) ht).within
  have ht' : t ∈ trainsT (m + 1) := mem_trainsT.mpr (isT_up (mem_trainsT.mp ht))
  cases e : firstT (ws ++ [7]) (ratT ws t) (trainsT (m + 1)) with
  | none =>
    have := List.find?_eq_none.mp e t ht'
    rw [rat_app hin] at this
    simp at this
  | some u =>
    rw [e] at h
    exact ⟨u, h⟩
/-- one train against the best -/
def bBest : DEnv → O := oIf (bV (callF F__law_less (consA (callF F__law_far (consA (callF F__law_ratio (consA (rdV 3) (consA (rdV 12) nilA))) (consA (rdV 9) nilA))) (consA (callF F__law_far (consA (callF F__law_ratio (consA (rdV 3) (consA (rdV 11) nilA))) (consA (rdV 9) nilA))) nilA)))) (oSet 11 (rdV 12)) oNx
theorem best_loop {ws : List Int} (hws : Wheels ws) {w : Pr} (hw : Pos 100 w) (s0 s1 s2 s4 s5 s6 s7 s8 s10 s13 s14 s15 s16 s17 s18 : Cell) : ∀ (L : List Tr) (b : Tr) (c12 : Cell), (∀ t ∈ L, Good ws.length t) → Good ws.length b → c12.free = true →
    forF (gN 12) bBest (L.map encTr) [s0, s1, s2, .val (.tuple (nums ws)), s4, s5, s6, s7, s8, .val (pr w), s10, .val (encTr b), c12, s13, s14, s15, s16, s17, s18]
      = .nx [s0, s1, s2, .val (.tuple (nums ws)), s4, s5, s6, s7, s8, .val (pr w), s10, .val (encTr (bestT ws w b L)), (match L.getLast? with | some t => .val (encTr t) | none => c12), s13, s14, s15, s16, s17, s18] := by
  intro L
  induction L with
  | nil => intro b c12 _ _ _; rfl
  | cons t L ih =>
    intro b c12 hL gb h12
    have gt := hL t List.mem_cons_self
    have r1 := lratio_ok hws gt.within gt.len
    have r2 := lratio_ok hws gb.within gb.len
    have f1 := far_ok ((rat_pos hws gt.len).up (show 20 ≤ 100 by decide)) hw
    have f2 := far_ok ((rat_pos hws gb.len).up (show 20 ≤ 100 by decide)) hw
    have cm := (near_cmp hws hw gt gb).2
    have gl : ∀ c : Cell, (match (t :: L).getLast? with | some t => Cell.val (encTr t) | none => c) = (match L.getLast? with | some t => Cell.val (encTr t) | none => .val (encTr t)) := fun c => by
      cases L with
      | nil => rfl
      | cons x L =>
        rw [List.getLast?_cons_cons]
        cases h : (x :: L).getLast? with
        | none => simp at h
        | some y => rfl
    rw [List.map_cons, forF_cons, gl]
    by_cases e : nearer ws w t b = true
    · have e1 : bestT ws w b (t :: L) = bestT ws w t L := by simp [bestT, e]
      rw [e1, ← ih t (.val (encTr t)) (fun u hu => hL u (List.mem_cons_of_mem _ hu)) gt rfl]
      simp [turnF, bBest, h12, r1, r2, f1, f2, cm, e]
    · have e' : nearer ws w t b = false := by simpa using e
      have e1 : bestT ws w b (t :: L) = bestT ws w b L := by simp [bestT, e']
      rw [e1, ← ih b (.val (encTr t)) (fun u hu => hL u (List.mem_cons_of_mem _ hu)) gb rfl]
      simp [turnF, bBest, h12, r1, r2, f1, f2, cm, e']
/-- the trains of the wanted ratio -/
theorem good_lc {ws : List Int} (hws : Wheels ws) {w : Pr} (L : List Tr) (hl : L.length ≤ 100000) (hL : ∀ t ∈ L, Good ws.length t) (s0 s1 s2 s4 s5 s7 s8 s10 s11 c12 s13 s14 s15 s16 s17 s18 : Cell) :
    lc [12] (onD itemsS (rdV 6)) (gN 12) (bV (bin dEq (callF F__law_ratio (consA (rdV 3) (consA (rdV 12) nilA))) (rdV 9))) (rdV 12) [s0, s1, s2, .val (.tuple (nums ws)), s4, s5, .val (.list (L.map encTr)), s7, s8, .val (pr w), s10, s11, c12, s13, s14, s15, s16, s17, s18]
      = .ok ((L.filter fun t => decide (ratT ws t = w)).map encTr) [s0, s1, s2, .val (.tuple (nums ws)), s4, s5, .val (.list (L.map encTr)), s7, s8, .val (pr w), s10, s11, backC (some c12), s13, s14, s15, s16, s17, s18] := by
  have key : ∀ (L' : List Tr) (acc : List D), (∀ t ∈ L', Good ws.length t) → acc.length + L'.length ≤ 100000 → lcF [12] (gN 12) (bV (bin dEq (callF F__law_ratio (consA (rdV 3) (consA (rdV 12) nilA))) (rdV 9))) (rdV 12) (L'.map encTr) acc [s0, s1, s2, .val (.tuple (nums ws)), s4, s5, .val (.list (L.map encTr)), s7, s8, .val (pr w), s10, s11, .emp, s13, s14, s15, s16, s17, s18]
      = .ok (acc ++ (L'.filter fun t => decide (ratT ws t = w)).map encTr) [s0, s1, s2, .val (.tuple (nums ws)), s4, s5, .val (.list (L.map encTr)), s7, s8, .val (pr w), s10, s11, .emp, s13, s14, s15, s16, s17, s18] := by
    intro L'
    induction L' with
    | nil => intro acc _ _; simp [lcF]
    | cons t L' ih =>
      intro acc hg ha
      simp only [List.length_cons] at ha
      have gt := hg t List.mem_cons_self
      have r := lratio_ok hws gt.within gt.len
      rw [List.map_cons, lcF_cons (by omega)]
      by_cases e : ratT ws t = w
      · have := ih (acc ++ [encTr t]) (fun u hu => hg u (List.mem_cons_of_mem _ hu)) (by simp; omega)
        simp [turnL, r, eq_pr, e, wipeD_cons, wipeD_nil, this]
      · have := ih acc (fun u hu => hg u (List.mem_cons_of_mem _ hu)) (by omega)
        simp [turnL, r, eq_pr, e, wipeD_cons, wipeD_nil, this]
  have h2 := key L [] hL (by simpa using hl)
  rw [lc_eq (σ1 := [s0, s1, s2, .val (.tuple (nums ws)), s4, s5, .val (.list (L.map encTr)), s7, s8, .val (pr w), s10, s11, c12, s13, s14, s15, s16, s17, s18]) (ds := L.map encTr) (by simp) h2]
  simp [backD_cons, backD_nil]
end PL
set_option Elab.async false
set_option linter.all false
set_option maxRecDepth 100000
set_option maxHeartbeats 1000000
set_option autoImplicit false
namespace PL
open PySem PySem.Spec PyProof.Rows L2
/-! ### one wanted ratio -/
def gLc : DEnv → R (List D) := lc [12] (onD itemsS (rdV 6)) (gN 12) (bV (bin dEq (callF F__law_ratio (consA (rdV 3) (consA (rdV 12) nilA))) (rdV 9))) (rdV 12)
def bWant : DEnv → O := oSeq (oSetL 10 gLc) (oSeq (oSet 11 (bin dIx (rdV 6) (kI 0))) (oSeq (oFor (onD itemsS (rdV 6)) (gN 12) bBest)
    (oIf (bOr (bV (bin dNe (callF F_train_for (consA (rdV 3) (consA (rdV 9) nilA))) (ite' (bV (bin dNe (rdV 10) (asL (chk nilA)))) (bin dIx (rdV 10) (kI 0)) kN))) (bV (bin dNe (callF F_nearest_train (consA (rdV 3) (consA (rdV 9) nilA))) (rdV 11)))) (oRet (kB false)) oNx)))
theorem ne_tr {t : Tr} : dNe (encTr t) (encTr t) = some (.bool false) := by
  rw [dNe_sh sh_tr sh_tr, eqv_tr]
  simp
theorem ne_none : dNe .none .none = some (.bool false) := by
  rw [dNe_sh (n := 0) (m := 0) Sh.none Sh.none]
  simp [PyData.eqv]
theorem nearer_ir {ws : List Int} {w : Pr} {t : Tr} : nearer ws w t t = false := nearer_self
theorem want_turn {ws : List Int} {m : Nat} (hws : Wheels ws) (hm : ws.length = m) (h7 : m < 7) {w : Pr} (hw : Pos 100 w) {t0 : Tr} {L : List Tr} (hL : trainsT m = t0 :: L) (hlen : (trainsT m).length ≤ 100000) (s0 s1 s2 s4 s5 s7 s8 c9 c10 c11 c12 s13 s14 s15 s16 s17 s18 : Cell) (f9 : c9.free = true) (f10 : c10.free = true) (f11 : c11.free = true) (f12 : c12.free = true) :
    ∃ (c10' c11' : Cell) (d12 : D), c10'.free = true ∧ c11'.free = true ∧ turnF (gN 9) bWant (pr w) [s0, s1, s2, .val (.tuple (nums ws)), s4, s5, .val (.list ((trainsT m).map encTr)), s7, s8, c9, c10, c11, c12, s13, s14, s15, s16, s17, s18]
      = .nx [s0, s1, s2, .val (.tuple (nums ws)), s4, s5, .val (.list ((trainsT m).map encTr)), s7, s8, .val (pr w), c10', c11', .val d12, s13, s14, s15, s16, s17, s18] := by
  have good : ∀ t ∈ trainsT m, Good ws.length t := fun t ht => by rw [hm]; exact good_of h7 ht
  have g0 : Good ws.length t0 := good t0 (by rw [hL]; exact List.mem_cons_self)
  have hg := good_lc hws (w := w) (trainsT m) hlen good s0 s1 s2 s4 s5 s7 s8 c10 c11 c12 s13 s14 s15 s16 s17 s18
  have e0 : bestT ws w t0 (t0 :: L) = bestT ws w t0 L := by simp [bestT, nearer_ir]
  have hb := fun s10 c12 f => best_loop hws hw s0 s1 s2 s4 s5 (.val (.list ((trainsT m).map encTr))) s7 s8 s10 s13 s14 s15 s16 s17 s18 (trainsT m) t0 c12 good g0 f
  have hf := train_for_ok hws hm h7 w
  have hn := nearest_ok hws hm h7 hw hL
  obtain ⟨y, hy⟩ : ∃ y, (trainsT m).getLast? = some y := by
    cases h : (trainsT m).getLast? with
    | none => rw [List.getLast?_eq_none_iff, hL] at h; cases h
    | some y => exact ⟨y, rfl⟩
  rw [hy] at hb
  have eb : bestT ws w t0 (trainsT m) = bestT ws w t0 L := by rw [hL]; exact e0
  rw [eb] at hb
  have i0 : dIx (.list ((trainsT m).map encTr)) (.int 0) = some (encTr t0) := by
    rw [hL]
    simp [ixN]
  refine ⟨.val (.list (((trainsT m).filter fun t => decide (ratT ws t = w)).map encTr)), .val (encTr (bestT ws w t0 L)), encTr y, rfl, rfl, ?_⟩
  have sh : ∀ d ∈ ((trainsT m).filter fun t => decide (ratT ws t = w)).map encTr, Sh 2 d := fun d hd => by
    obtain ⟨t, _, rfl⟩ := List.mem_map.mp hd
    exact sh_tr
  have nn := (ne_nil sh (by decide)).1
  have hd : (((trainsT m).filter fun t => decide (ratT ws t = w))).head? = firstT ws w (trainsT m) := List.head?_filter
  cases e : firstT ws w (trainsT m) with
  | none =>
    rw [e, List.head?_eq_none_iff] at hd
    rw [e] at hf
    rw [hd] at hg nn ⊢
    have nn' : dNe (.list []) (.list []) = some (.bool false) := by simpa using nn
    simp only [turnF, gN, setC_eq, List.getElem?_cons_succ, List.getElem?_cons_zero, f9, if_true, List.set_cons_succ, List.set_cons_zero, bWant, oSeq, oSetL, gLc, hg, R.thn, setV, f10, O.seq]
    simp [f11, i0, hb _ _ backC_free, hf, hn, nn', encO, ne_none, ne_tr, -dIx_list]
  | some t =>
    rw [e] at hf
    obtain ⟨r, hr⟩ : ∃ r, ((trainsT m).filter fun t => decide (ratT ws t = w)) = t :: r := by
      cases h : ((trainsT m).filter fun t => decide (ratT ws t = w)) with
      | nil => rw [h, e] at hd; cases hd
      | cons a r => rw [h, e] at hd; cases hd; exact ⟨r, rfl⟩
    rw [hr] at hg nn ⊢
    have i1 : dIx (.list ((t :: r).map encTr)) (.int 0) = some (encTr t) := by
      simp [ixN]
    simp only [turnF, gN, setC_eq, List.getElem?_cons_succ, List.getElem?_cons_zero, f9, if_true, List.set_cons_succ, List.set_cons_zero, bWant, oSeq, oSetL, gLc, hg, R.thn, setV, f10, O.seq]
    simp only [List.map_cons] at i1 nn ⊢
    simp [f11, i0, i1, hb _ _ backC_free, hf, hn, nn, encO, ne_none, ne_tr, -dIx_list]
end PL
set_option Elab.async false
set_option linter.all false
set_option maxRecDepth 100000
set_option maxHeartbeats 1000000
set_option autoImplicit false
namespace PL
open PySem PySem.Spec PyProof.Rows L2
/-! ### the wrong stocks; the train turned round by the law -/
theorem wrong_lc {vs : List D} (h : ∀ v ∈ vs, F_is_stock [v] = .ok (.bool false)) (hl : vs.length ≤ 1000) (s0 s1 s2 s3 s4 s6 s7 s8 s9 s10 s11 s12 s13 s14 s15 c16 s17 s18 : Cell) :
    lc [16] (onD itemsS (rdV 5)) (gN 16) (bV (bin dIsNot (callF F_is_stock (consA (rdV 16) nilA)) (kB false))) (rdV 16) [s0, s1, s2, s3, s4, .val (.list vs), s6, s7, s8, s9, s10, s11, s12, s13, s14, s15, c16, s17, s18]
      = .ok [] [s0, s1, s2, s3, s4, .val (.list vs), s6, s7, s8, s9, s10, s11, s12, s13, s14, s15, backC (some c16), s17, s18] := by
  have hi : dIsNot (.bool false) (.bool false) = some (.bool false) := rfl
  have h2 := lcF_map (vs := [16]) (g := gN 16) (t := bV (bin dIsNot (callF F_is_stock (consA (rdV 16) nilA)) (kB false))) (f := rdV 16) (σ := [s0, s1, s2, s3, s4, .val (.list vs), s6, s7, s8, s9, s10, s11, s12, s13, s14, s15, .emp, s17, s18]) (k := fun _ => none) (ds := vs) (acc := []) (fun d hd => by
    have := h d hd
    simp [turnL, this, hi, wipeD_cons, wipeD_nil]) (by simp; omega)
  have ef : ([] : List D) ++ vs.filterMap (fun _ => none) = [] := by simp
  rw [ef] at h2
  rw [lc_eq (σ1 := [s0, s1, s2, s3, s4, .val (.list vs), s6, s7, s8, s9, s10, s11, s12, s13, s14, s15, c16, s17, s18]) (ds := vs) (by simp) h2]
  simp [backD_cons, backD_nil]
theorem lturn_lc {t : Tr} (h : t.length ≤ 3) (s0 s1 s2 s3 s4 s5 s6 s8 s9 s10 s11 s12 s13 s14 s15 s16 s17 c18 : Cell) :
    lc [18] (onD itemsS (rdV 7)) (gN 18) yesB (mkT (consA (bin dIx (rdV 18) (kI 1)) (consA (bin dIx (rdV 18) (kI 0)) nilA))) [s0, s1, s2, s3, s4, s5, s6, .val (encTr t), s8, s9, s10, s11, s12, s13, s14, s15, s16, s17, c18]
      = .ok ((swapT t).map pr) [s0, s1, s2, s3, s4, s5, s6, .val (encTr t), s8, s9, s10, s11, s12, s13, s14, s15, s16, s17, backC (some c18)] := by
  have h2 := lcF_map (vs := [18]) (g := gN 18) (t := yesB) (f := mkT (consA (bin dIx (rdV 18) (kI 1)) (consA (bin dIx (rdV 18) (kI 0)) nilA))) (σ := [s0, s1, s2, s3, s4, s5, s6, .val (encTr t), s8, s9, s10, s11, s12, s13, s14, s15, s16, s17, .emp]) (k := fun d => some (pr ((unpr d).2, (unpr d).1))) (ds := t.map pr) (acc := []) (fun d hd => by
    obtain ⟨p, _, rfl⟩ := List.mem_map.mp hd
    have e : unpr (pr p) = p := rfl
    simp [turnL, ix_pr0, ix_pr1, e, wipeD_cons, wipeD_nil]
    rfl) (by simp; omega)
  have ef : ([] : List D) ++ (t.map pr).filterMap (fun d => some (pr ((unpr d).2, (unpr d).1))) = (swapT t).map pr := by
    rw [List.nil_append, List.filterMap_map, swapT, List.map_map, ← List.filterMap_eq_map]
    rfl
  rw [ef] at h2
  rw [lc_eq (σ1 := [s0, s1, s2, s3, s4, s5, s6, .val (encTr t), s8, s9, s10, s11, s12, s13, s14, s15, s16, s17, c18]) (ds := t.map pr) (by simp [encTr]) h2]
  simp [backD_cons, backD_nil]
theorem sorted_turn {t : Tr} (h : t.length ≤ 3) : cSorted [.list ((swapT t).map pr)] = some (.list ((turnT t).map pr)) := by
  have ok := okSort_pr (swapT t) (by simp [swapT]; omega)
  rw [cSorted_list, if_pos ok, sortD_pr]
  rfl
end PL
set_option Elab.async false
set_option linter.all false
set_option maxRecDepth 100000
set_option maxHeartbeats 4000000
set_option autoImplicit false
namespace PL
open PySem PySem.Spec PyProof.Rows L2
/-! ### the last loop of the law -/
def askedL (t : Tr) (many : Int) : List D := [encTr t, .list (t.map pr), encTr t.reverse, encTr (t ++ cutD t none (some 1)), .tuple [], .none, .tuple [.tuple [.int 0, .int 0]], .tuple [.tuple [.int 0, .int many]], .tuple [.tuple [.int (-1), .int 0]], .tuple [.tuple [.bool true, .int 0]], .tuple [.tuple [.int 0, .none]], .tuple [.list [.int 0, .int 1]], .tuple [.tuple [.int 0]], .tuple [.tuple [.int 0, .int 1, .int 2]], .tuple [.none], .tuple [.tuple [.int 0, .int 1], .tuple [.int 1, .int 0]], encTr (turnT t), .tuple [.tuple [.int 1, .int 0]], .int 5]
theorem asked_all {ws : List Int} {m : Nat} (hm : ws.length = m) {t : Tr} (g : Good m t) (many : Int) : ∀ v ∈ askedL t many, Asked (.tuple (nums ws)) ((trainsT m).map encTr) v := by
  have hl := g.len
  have tr : ∀ u : Tr, u.length ≤ 1000 → Asked (.tuple (nums ws)) ((trainsT m).map encTr) (encTr u) := fun u h => asked_tr hm u h
  have at2 : ∀ a b : D, Atom a → Atom b → Nice (.tuple [a, b]) := fun a b ha hb => Nice.tup (fun d hd => by simp at hd; rcases hd with rfl | rfl <;> assumption) (by simp)
  intro v hv
  simp only [askedL, List.mem_cons, List.not_mem_nil, or_false] at hv
  rcases hv with rfl | rfl | rfl | rfl | rfl | rfl | rfl | rfl | rfl | rfl | rfl | rfl | rfl | rfl | rfl | rfl | rfl | rfl | rfl
  · exact tr t (by omega)
  · exact asked_not rfl
  · exact tr _ (by simp; omega)
  · refine tr _ ?_
    rw [List.length_append]
    unfold cutD
    rw [List.length_take, List.length_drop]
    omega
  · exact tr [] (by simp)
  · exact asked_not rfl
  · exact tr [(0, 0)] (by simp)
  · exact tr [(0, many)] (by simp)
  · exact tr [(-1, 0)] (by simp)
  · exact asked_one (at2 _ _ .bool .int) (fun h => by simp [kBad, notInt] at h) it_t0
  · exact asked_one (at2 _ _ .int .none) (fun h => by simp [kBad, notInt] at h) it_0n
  · exact asked_one (Nice.lst fun d hd => by simp at hd; rcases hd with rfl | rfl <;> exact .int) (fun h => by simp [kBad] at h) it_list
  · exact asked_one (Nice.tup (fun d hd => by simp at hd; rw [hd]; exact .int) (by simp)) (fun h p => by simp [pr, PyData.eqv, PyData.eqvAll]) (it_len (by simp))
  · exact asked_one (Nice.tup (fun d hd => by simp at hd; rcases hd with rfl | rfl | rfl <;> exact .int) (by simp)) (fun h p => by simp [pr, PyData.eqv, PyData.eqvAll]) (it_len (by simp))
  · exact asked_one (Nice.atom .none) (fun h => by simp [kBad] at h) it_none
  · exact tr [(0, 1), (1, 0)] (by simp)
  · refine tr _ ?_
    have := (turn_good g).len
    omega
  · exact tr [(1, 0)] (by simp)
  · exact asked_not rfl
end PL
set_option Elab.async false
set_option linter.all false
set_option maxRecDepth 100000
set_option maxHeartbeats 4000000
set_option autoImplicit false
namespace PL
open PySem PySem.Spec PyProof.Rows L2
def bSet15 : DEnv → O := (oSet 15 (asL (chk (consA (rdV 7) (consA (callD cList (consA (rdV 7) nilA)) (consA (revE (rdV 7)) (consA (bin dAdd (rdV 7) (slE (rdV 7) noPart (part (kI 1)))) (consA (mkT nilA) (consA kN (consA (mkT (consA (mkT (consA (kI 0) (consA (kI 0) nilA))) nilA)) (consA (mkT (consA (mkT (consA (kI 0) (consA (rdV 4) nilA))) nilA)) (consA (mkT (consA (mkT (consA (un dNeg (kI 1)) (consA (kI 0) nilA))) nilA)) (consA (mkT (consA (mkT (consA (kB true) (consA (kI 0) nilA))) nilA)) (consA (mkT (consA (mkT (consA (kI 0) (consA kN nilA))) nilA)) (consA (mkT (consA (asL (chk (consA (kI 0) (consA (kI 1) nilA)))) nilA)) (consA (mkT (consA (mkT (consA (kI 0) nilA)) nilA)) (consA (mkT (consA (mkT (consA (kI 0) (consA (kI 1) (consA (kI 2) nilA)))) nilA)) (consA (mkT (consA kN nilA)) (consA (mkT (consA (mkT (consA (kI 0) (consA (kI 1) nilA))) (consA (mkT (consA (kI 1) (consA (kI 0) nilA))) nilA))) (consA (callF F_turned_round (consA (rdV 7) nilA)) (consA (mkT (consA (mkT (consA (kI 1) (consA (kI 0) nilA))) nilA)) (consA (kI 5) nilA))))))))))))))))))))))
theorem set15_ok {t : Tr} {many : Int} (g : t.length ≤ 3) (s0 s1 s2 s3 s5 s6 s8 s9 s10 s11 s12 s13 s14 c15 s16 s17 s18 : Cell) (f15 : c15.free = true) : bSet15 [s0, s1, s2, s3, .val (.int many), s5, s6, .val (encTr t), s8, s9, s10, s11, s12, s13, s14, c15, s16, s17, s18]
    = .nx [s0, s1, s2, s3, .val (.int many), s5, s6, .val (encTr t), s8, s9, s10, s11, s12, s13, s14, .val (.list (askedL t many)), s16, s17, s18] := by
  have ht := turned_ok g
  have sl := sizeLine_mil
  have cm : ∀ a b, (cutD (t.map pr) a b) = (cutD t a b).map pr := fun a b => by
    unfold cutD
    simp only [← List.map_drop, ← List.map_take, List.length_map]
  have cl : (cutD t none (some 1)).length ≤ 3 := by
    unfold cutD
    rw [List.length_take, List.length_drop]
    omega
  have hz : t.length + (cutD t none (some 1)).length ≤ sizeLine := by omega
  have e : encTr t = .tuple (t.map pr) := rfl
  rw [e] at ht ⊢
  simp [bSet15, ht, cm, hz, f15, askedL, encTr, List.map_reverse]
end PL
set_option Elab.async false
set_option linter.all false
set_option maxRecDepth 100000
set_option maxHeartbeats 4000000
set_option autoImplicit false
namespace PL
open PySem PySem.Spec PyProof.Rows L2
def bSet13 : DEnv → O := (oSet2 13 14 (consA (bin dAdd (kI 1) (callT F__law_draw 1 (consA (kI 90) nilA))) (consA (bin dAdd (kI 1) (callT F__law_draw 1 (consA (kI 8) nilA))) nilA)))
def bFlash : DEnv → O := (oIf (bV (bin dNe (callF F_flash_period (consA (rdV 3) (consA (rdV 7) (consA (rdV 13) (consA (rdV 14) nilA))))) (callF F__law_lowest (consA (bin dMul (rdV 13) (bin dIx (rdV 8) (kI 1))) (consA (bin dMul (rdV 14) (bin dIx (rdV 8) (kI 0))) nilA))))) (oRet (kB false)) oNx)
theorem flash_step {ws : List Int} (hws : Wheels ws) {t : Tr} (g : Good ws.length t) {tp : List D} {B : Nat} (h : TapeOk B tp) (hb : B ≤ 700) (s0 s2 s4 s5 s6 s9 s10 s11 s12 c13 c14 s15 s16 s17 s18 : Cell) (f13 : c13.free = true) (f14 : c14.free = true) :
    ∃ (tp' : List D) (c13' c14' : Cell), oSeq bSet13 bFlash [s0, .own tp, s2, .val (.tuple (nums ws)), s4, s5, s6, .val (encTr t), .val (pr (ratT ws t)), s9, s10, s11, s12, c13, c14, s15, s16, s17, s18] = .nx [s0, .own tp', s2, .val (.tuple (nums ws)), s4, s5, s6, .val (encTr t), .val (pr (ratT ws t)), s9, s10, s11, s12, c13', c14', s15, s16, s17, s18] := by
  obtain ⟨a, tp1, e1, a0, a1, t1⟩ := draw_b h (by omega) (show (0 : Int) < 90 by decide) (by decide)
  obtain ⟨b, tp2, e2, b0, b1, t2⟩ := draw_b t1 (by omega) (show (0 : Int) < 8 by decide) (by decide)
  have hf := flash_ok hws g (s := 1 + a) (p := 1 + b) (by omega) (by omega) (by omega) (by omega)
  have x := (rat_pos hws g.len).up (show 20 ≤ 100 by decide)
  have y := rat_pos hws g.len
  have c1 : cMul (1 + a) (ratT ws t).2 = true := cMul_of (n := 100) (Nat.lt_of_lt_of_le (show (1 + a).natAbs < 2 ^ 7 by omega) (Nat.pow_le_pow_right (by decide) (by decide))) x.b2
  have c2 : cMul (1 + b) (ratT ws t).1 = true := cMul_of (n := 100) (Nat.lt_of_lt_of_le (show (1 + b).natAbs < 2 ^ 7 by omega) (Nat.pow_le_pow_right (by decide) (by decide))) x.b1
  have hm := mulB (show (1 + b).natAbs < 2 ^ 7 by omega) y.b1
  have hl := lawlow_spec (p := (1 + a) * (ratT ws t).2) (w := (1 + b) * (ratT ws t).1) (Int.mul_pos (by omega) y.p1) (up hm (by decide))
  refine ⟨tp2, .val (.int (1 + a)), .val (.int (1 + b)), ?_⟩
  simp [bSet13, bFlash, e1, e2, hf, hl, f13, f14, ix_pr0, ix_pr1, c1, c2, ne_pr]
end PL
set_option Elab.async false
set_option linter.all false
set_option maxRecDepth 100000
set_option maxHeartbeats 4000000
set_option autoImplicit false
namespace PL
open PySem PySem.Spec PyProof.Rows L2
def bRat : DEnv → O := (oIf (bOr (bV (bin dNe (callF F_ratio_of (consA (rdV 3) (consA (rdV 7) nilA))) (rdV 8))) (bOr (bV (bin dNe (callF F_turned_round (consA (rdV 7) nilA)) (callD cTuple (consA (callD cSorted (consA (asL (lc [18] (onD itemsS (rdV 7)) (gN 18) yesB (mkT (consA (bin dIx (rdV 18) (kI 1)) (consA (bin dIx (rdV 18) (kI 0)) nilA))))) nilA)) nilA)))) (bV (bin dNe (callF F_ratio_of (consA (rdV 3) (consA (callF F_turned_round (consA (rdV 7) nilA)) nilA))) (mkT (consA (bin dIx (rdV 8) (kI 1)) (consA (bin dIx (rdV 8) (kI 0)) nilA))))))) (oRet (kB false)) oNx)
theorem ratio_step {ws : List Int} (hws : Wheels ws) {t : Tr} (g : Good ws.length t) (s0 s1 s2 s4 s5 s6 s9 s10 s11 s12 s13 s14 s15 s16 s17 c18 : Cell) (f18 : c18.free = true) :
    bRat [s0, s1, s2, .val (.tuple (nums ws)), s4, s5, s6, .val (encTr t), .val (pr (ratT ws t)), s9, s10, s11, s12, s13, s14, s15, s16, s17, c18] = .nx [s0, s1, s2, .val (.tuple (nums ws)), s4, s5, s6, .val (encTr t), .val (pr (ratT ws t)), s9, s10, s11, s12, s13, s14, s15, s16, s17, backC (some c18)] := by
  have r1 := ratio_ok hws g.within g.len
  have gt := turn_good g
  have r2 := ratio_ok hws gt.within gt.len
  rw [rat_turn] at r2
  have tk := turned_ok g.len
  have ll := lturn_lc g.len s0 s1 s2 (.val (.tuple (nums ws))) s4 s5 s6 (.val (pr (ratT ws t))) s9 s10 s11 s12 s13 s14 s15 s16 s17 c18
  have so := sorted_turn g.len
  have ct : cTuple [.list ((turnT t).map pr)] = some (encTr (turnT t)) := rfl
  have np : dNe (pr ((ratT ws t).2, (ratT ws t).1)) (.tuple [.int (ratT ws t).2, .int (ratT ws t).1]) = some (.bool false) := by
    have := ne_pr (p := ((ratT ws t).2, (ratT ws t).1)) (q := ((ratT ws t).2, (ratT ws t).1))
    simpa [pr] using this
  simp [bRat, r1, r2, tk, ll, so, ct, ne_pr, ne_tr, np, ix_pr0, ix_pr1, -lc, -cSorted_list, -cTuple_list]
end PL
set_option Elab.async false
set_option linter.all false
set_option maxRecDepth 100000
set_option maxHeartbeats 4000000
set_option autoImplicit false
namespace PL
open PySem PySem.Spec PyProof.Rows L2
def rWant : DEnv → R (List D) := (onD itemsS (asL (chk (consA (rdV 8) (consA (callF F__law_lowest (consA (bin dAdd (kI 1) (callT F__law_draw 1 (consA (kI 9) nilA))) (consA (bin dAdd (kI 1) (callT F__law_draw 1 (consA (kI 9) nilA))) nilA))) (consA (callF F__law_lowest (consA (bin dAdd (bin dMul (bin dIx (rdV 8) (kI 0)) (kI 50)) (kI 1)) (consA (bin dMul (bin dIx (rdV 8) (kI 1)) (kI 50)) nilA))) nilA))))))
theorem low_pos' {p w : Int} {n : Nat} (hp : 0 < p) (hw : 0 < w) (b1 : p.natAbs < 2 ^ n) (b2 : w.natAbs < 2 ^ n) : Pos n (low p w) := low_pos hp hw b1 b2
theorem want_src {ws : List Int} {r : Pr} (hr : Pos 20 r) {tp : List D} {B : Nat} (h : TapeOk B tp) (hb : B ≤ 500) (s0 s2 s3 s4 s5 s6 s7 s9 s10 s11 s12 s13 s14 s15 s16 s17 s18 : Cell) :
    ∃ (tp' : List D) (w1 w2 : Pr), TapeOk 502 tp' ∧ Pos 100 w1 ∧ Pos 100 w2 ∧ rWant [s0, .own tp, s2, s3, s4, s5, s6, s7, .val (pr r), s9, s10, s11, s12, s13, s14, s15, s16, s17, s18] = .ok [pr r, pr w1, pr w2] [s0, .own tp', s2, s3, s4, s5, s6, s7, .val (pr r), s9, s10, s11, s12, s13, s14, s15, s16, s17, s18] := by
  obtain ⟨a, tp1, e1, a0, a1, t1⟩ := draw_b h (by omega) (show (0 : Int) < 9 by decide) (by decide)
  obtain ⟨b, tp2, e2, b0, b1, t2⟩ := draw_b t1 (by omega) (show (0 : Int) < 9 by decide) (by decide)
  have l1 := lawlow_spec (p := 1 + a) (w := 1 + b) (by omega) (up (n := 7) (show (1 + b).natAbs < 2 ^ 7 by omega) (by decide))
  have m1 := mulB hr.b1 (show (50 : Int).natAbs < 2 ^ 6 by decide)
  have m2 := mulB hr.b2 (show (50 : Int).natAbs < 2 ^ 6 by decide)
  have p1 := hr.p1
  have p2 := hr.p2
  have l2 := lawlow_spec (p := r.1 * 50 + 1) (w := r.2 * 50) (by omega) (up m2 (by decide))
  have c1 : cMul r.1 50 = true := cMul_of (n := 100) (up hr.b1 (by decide)) (up (n := 6) (by decide) (by decide))
  have c2 : cMul r.2 50 = true := cMul_of (n := 100) (up hr.b2 (by decide)) (up (n := 6) (by decide) (by decide))
  refine ⟨tp2, low (1 + a) (1 + b), low (r.1 * 50 + 1) (r.2 * 50), t2.mono (by omega), ?_, ?_, ?_⟩
  · exact low_pos' (by omega) (by omega) (up (n := 7) (by omega) (by decide)) (up (n := 7) (by omega) (by decide))
  · exact low_pos' (by omega) (by omega) (up (n := 27) (by omega) (by decide)) (up m2 (by decide))
  · simp [rWant, e1, e2, l1, l2, c1, c2, ix_pr0, ix_pr1]
end PL
set_option Elab.async false
set_option linter.all false
set_option maxRecDepth 100000
set_option maxHeartbeats 4000000
set_option autoImplicit false
namespace PL
open PySem PySem.Spec PyProof.Rows L2
def q1 : DEnv → O := (oSetF 1 (callNew FF__law_open (consA (rdV 0) nilA)))
def q2 : DEnv → O := (oSet 2 (bin dIx (asL (chk (consA (kI 3) (consA (kI 12) (consA (kI 55) nilA))))) (callT F__law_draw 1 (consA (kI 3) nilA))))
def q3 : DEnv → O := (oSet 3 (callD cTuple (consA (asL (lc [17] (onA rng1 (consA (bin dAdd (kI 2) (callT F__law_draw 1 (consA (kI 5) nilA))) nilA)) (gN 17) yesB (bin dAdd (kI 6) (callT F__law_draw 1 (consA (rdV 2) nilA))))) nilA)))
def q4 : DEnv → O := (oSet 4 (callD cLen (consA (rdV 3) nilA)))
def q5 : DEnv → O := (oSet 5 (asL (chk (consA kN (consA (mkT nilA) (consA (slE (rdV 3) noPart (part (kI 1))) (consA (callD cList (consA (rdV 3) nilA)) (consA (bin dMul (mkT (consA (kI 6) nilA)) (kI 9)) (consA (mkT (consA (kI 5) (consA (kI 6) nilA))) (consA (mkT (consA (kI 61) (consA (kI 6) nilA))) (consA (mkT (consA (kB true) (consA (kI 6) nilA))) (consA (mkT (consA kN (consA (kI 6) nilA))) (consA (kI 5) nilA)))))))))))))
def q6 : DEnv → O := (oIf (bOr (bV (bin dIsNot (callF F_is_stock (consA (rdV 3) nilA)) (kB true))) (bOr (bV (bin dIsNot (callF F_is_stock (consA (bin dMul (mkT (consA (kI 6) (consA (kI 60) nilA))) (kI 4)) nilA)) (kB true))) (bV (bin dNe (asL (lc [16] (onD itemsS (rdV 5)) (gN 16) (bV (bin dIsNot (callF F_is_stock (consA (rdV 16) nilA)) (kB false))) (rdV 16))) (asL (chk nilA)))))) (oRet (kB false)) oNx)
def q7 : DEnv → O := (oSet 6 (callF F__law_trains (consA (rdV 4) nilA)))
def q8 : DEnv → O := (oSet 7 (bin dIx (rdV 6) (callT F__law_draw 1 (consA (callD cLen (consA (rdV 6) nilA)) nilA))))
def q9 : DEnv → O := (oSet 8 (callF F__law_ratio (consA (rdV 3) (consA (rdV 7) nilA))))
def q11 : DEnv → O := (oIf (bAnd (bV (bin dLt (rdV 4) (kI 6))) (bV (bin dIs (callF F_train_for (consA (bin dAdd (rdV 3) (mkT (consA (kI 7) nilA))) (consA (rdV 8) nilA))) kN))) (oRet (kB false)) oNx)
def qLast : DEnv → O := oSeq (oFor (onD itemsS (rdV 15)) (gN 16) bVal) (oRet (kB true))
theorem b_law_eq : b_law = oSeq q1 (oSeq q2 (oSeq q3 (oSeq q4 (oSeq q5 (oSeq q6 (oSeq q7 (oSeq q8 (oSeq q9 (oSeq bRat (oSeq (oFor rWant (gN 9) bWant) (oSeq q11 (oSeq bSet13 (oSeq bFlash (oSeq bSet15 qLast)))))))))))))) := rfl
end PL
set_option Elab.async false
set_option linter.all false
set_option maxRecDepth 100000
set_option maxHeartbeats 4000000
set_option autoImplicit false
namespace PL
open PySem PySem.Spec PyProof.Rows L2
theorem q1_ok {ns : List Int} (h : ns.length ≤ 1000) (c2 c3 c4 c5 c6 c7 c8 c9 c10 c11 c12 c13 c14 c15 c16 c17 c18 : Cell) : ∃ tp, TapeOk 0 tp ∧ q1 [.val (.list (nums ns)), .emp, c2, c3, c4, c5, c6, c7, c8, c9, c10, c11, c12, c13, c14, c15, c16, c17, c18] = .nx [.val (.list (nums ns)), .own tp, c2, c3, c4, c5, c6, c7, c8, c9, c10, c11, c12, c13, c14, c15, c16, c17, c18] := by
  obtain ⟨tp, e, h1⟩ := open_ok h
  exact ⟨tp, h1, by simp [q1, oSetF, setF, e]⟩
theorem q2_ok {tp : List D} (h : TapeOk 0 tp) (s0 c3 c4 c5 c6 c7 c8 c9 c10 c11 c12 c13 c14 c15 c16 c17 c18 : Cell) : ∃ (tp' : List D) (wide : Int), TapeOk 1 tp' ∧ 0 < wide ∧ wide ≤ 55 ∧ q2 [s0, .own tp, .emp, c3, c4, c5, c6, c7, c8, c9, c10, c11, c12, c13, c14, c15, c16, c17, c18] = .nx [s0, .own tp', .val (.int wide), c3, c4, c5, c6, c7, c8, c9, c10, c11, c12, c13, c14, c15, c16, c17, c18] := by
  obtain ⟨v, tp1, e1, v0, v1, t1⟩ := draw_b h (by omega) (show (0 : Int) < 3 by decide) (by decide)
  have hv : v = 0 ∨ v = 1 ∨ v = 2 := by omega
  have i0 : ixN 3 0 = some 0 := by decide
  have i1 : ixN 3 1 = some 1 := by decide
  have i2 : ixN 3 2 = some 2 := by decide
  rcases hv with rfl | rfl | rfl
  · exact ⟨tp1, 3, t1, by decide, by decide, by simp [q2, e1, i0]⟩
  · exact ⟨tp1, 12, t1, by decide, by decide, by simp [q2, e1, i1]⟩
  · exact ⟨tp1, 55, t1, by decide, by decide, by simp [q2, e1, i2]⟩
end PL
set_option Elab.async false
set_option linter.all false
set_option maxRecDepth 100000
set_option maxHeartbeats 4000000
set_option autoImplicit false
namespace PL
open PySem PySem.Spec PyProof.Rows L2
def wrongL (ws : List Int) : List D := [.none, .tuple [], .tuple (nums (cutD ws none (some 1))), .list (nums ws), .tuple (nums (List.replicate 9 6)), .tuple (nums [5, 6]), .tuple (nums [61, 6]), .tuple [.bool true, .int 6], .tuple [.none, .int 6], .int 5]
theorem wrong_all {ws : List Int} : ∀ v ∈ wrongL ws, F_is_stock [v] = .ok (.bool false) := by
  intro v hv
  have cl : (cutD ws none (some 1)).length ≤ 1 := by
    unfold cutD
    rw [List.length_take]
    have : HT.sIx ws.length ws.length (some 1) ≤ 1 := by
      unfold HT.sIx
      simp
      omega
    omega
  simp only [wrongL, List.mem_cons, List.not_mem_nil, or_false] at hv
  rcases hv with rfl | rfl | rfl | rfl | rfl | rfl | rfl | rfl | rfl | rfl
  · exact stock_none
  · exact stock_ok (ws := [])
  · rw [stock_ok]
    have : ¬ 2 ≤ (cutD ws none (some 1)).length := by omega
    simp [okW, this]
  · exact stock_list
  · rw [stock_ok]; rfl
  · rw [stock_ok]; rfl
  · rw [stock_ok]; rfl
  · exact stock_t6
  · exact stock_n6
  · exact stock_int
end PL
set_option Elab.async false
set_option linter.all false
set_option maxRecDepth 100000
set_option maxHeartbeats 4000000
set_option autoImplicit false
namespace PL
open PySem PySem.Spec PyProof.Rows L2
theorem q3_ok {tp : List D} {wide : Int} (h : TapeOk 1 tp) (w0 : 0 < wide) (w1 : wide ≤ 55) (s0 : Cell) : ∃ (ws : List Int) (tp' : List D), TapeOk 110 tp' ∧ 2 ≤ ws.length ∧ ws.length ≤ 6 ∧ (∀ w ∈ ws, 6 ≤ w ∧ w ≤ 60) ∧
    oSeq q3 (oSeq q4 q5) [s0, .own tp, .val (.int wide), .emp, .emp, .emp, .emp, .emp, .emp, .emp, .emp, .emp, .emp, .emp, .emp, .emp, .emp, .emp, .emp] = .nx [s0, .own tp', .val (.int wide), .val (.tuple (nums ws)), .val (.int ws.length), .val (.list (wrongL ws)), .emp, .emp, .emp, .emp, .emp, .emp, .emp, .emp, .emp, .emp, .emp, .emp, .emp] := by
  obtain ⟨ws, tp', t, l2, l6, hw, e⟩ := stock_step h (by decide) w0 w1 s0
  refine ⟨ws, tp', t, l2, l6, hw, ?_⟩
  have cm : ∀ a b, cutD (nums ws) a b = nums (cutD ws a b) := fun a b => by
    unfold cutD
    simp only [← List.map_drop, ← List.map_take, List.length_map]
  simp [q3, q4, q5, e, cm, wrongL, -lc]
end PL
set_option Elab.async false
set_option linter.all false
set_option maxRecDepth 100000
set_option maxHeartbeats 4000000
set_option autoImplicit false
namespace PL
open PySem PySem.Spec PyProof.Rows L2
theorem q6_ok {ws : List Int} (l2 : 2 ≤ ws.length) (l6 : ws.length ≤ 6) (hw : ∀ w ∈ ws, 6 ≤ w ∧ w ≤ 60) (s0 s1 s2 s4 s6 s7 s8 s9 s10 s11 s12 s13 s14 s15 c16 s17 s18 : Cell) (f : c16.free = true) :
    q6 [s0, s1, s2, .val (.tuple (nums ws)), s4, .val (.list (wrongL ws)), s6, s7, s8, s9, s10, s11, s12, s13, s14, s15, c16, s17, s18] = .nx [s0, s1, s2, .val (.tuple (nums ws)), s4, .val (.list (wrongL ws)), s6, s7, s8, s9, s10, s11, s12, s13, s14, s15, backC (some c16), s17, s18] := by
  have h1 : F_is_stock [.tuple (nums ws)] = .ok (.bool true) := by
    rw [stock_ok]
    have : okW ws = true := by
      simp only [okW, Bool.and_eq_true, decide_eq_true_eq, List.all_eq_true]
      exact ⟨⟨l2, by omega⟩, fun w h => hw w h⟩
    rw [this]
  obtain ⟨X, e2, h2⟩ : ∃ X, dMul (.tuple [.int 6, .int 60]) (.int 4) = some X ∧ F_is_stock [X] = .ok (.bool true) := ⟨.tuple (nums (List.replicate 4 [6, 60]).flatten), rfl, by rw [stock_ok]; rfl⟩
  have h3 := wrong_lc (vs := wrongL ws) wrong_all (by simp [wrongL]) s0 s1 s2 (.val (.tuple (nums ws))) s4 s6 s7 s8 s9 s10 s11 s12 s13 s14 s15 c16 s17 s18
  have nn := (ne_nil (ds := []) (n := 0) (by simp) (by decide)).1
  have i1 : dIsNot (.bool true) (.bool true) = some (.bool false) := rfl
  simp only [List.isEmpty_nil, Bool.not_true] at nn
  simp [q6, h1, e2, h2, h3, nn, i1, -lc, -dMul_tuple]
end PL
set_option Elab.async false
set_option linter.all false
set_option maxRecDepth 100000
set_option maxHeartbeats 4000000
set_option autoImplicit false
namespace PL
open PySem PySem.Spec PyProof.Rows L2
theorem trains_size : ∀ m < 7, 2 ≤ m → 0 < (trainsT m).length ∧ (trainsT m).length ≤ 90000 := by decide +kernel
theorem q79_ok {ws : List Int} {tp : List D} (h : TapeOk 110 tp) (l2 : 2 ≤ ws.length) (l6 : ws.length ≤ 6) (hw : Wheels ws) (s0 s2 s5 s9 s10 s11 s12 s13 s14 s15 s16 s17 c18 : Cell) (f : c18.free = true) :
    ∃ (t : Tr) (tp' : List D), TapeOk 111 tp' ∧ t ∈ trainsT ws.length ∧ oSeq q7 (oSeq q8 (oSeq q9 bRat)) [s0, .own tp, s2, .val (.tuple (nums ws)), .val (.int ws.length), s5, .emp, .emp, .emp, s9, s10, s11, s12, s13, s14, s15, s16, s17, c18]
      = .nx [s0, .own tp', s2, .val (.tuple (nums ws)), .val (.int ws.length), s5, .val (.list ((trainsT ws.length).map encTr)), .val (encTr t), .val (pr (ratT ws t)), s9, s10, s11, s12, s13, s14, s15, s16, s17, backC (some c18)] := by
  have hT := law_trains_ok (m := ws.length) (by omega)
  obtain ⟨z1, z2⟩ := trains_size ws.length (by omega) l2
  obtain ⟨v, tp1, e1, v0, v1, t1⟩ := draw_b h (by omega) (show (0 : Int) < ((trainsT ws.length).length : Nat) by omega) (by omega)
  obtain ⟨t, ht⟩ : ∃ t, (trainsT ws.length)[v.toNat]? = some t := ⟨_, List.getElem?_eq_getElem (by omega)⟩
  have hm : t ∈ trainsT ws.length := List.mem_of_getElem? ht
  have g := good_of (by omega) hm
  have i1 : dIx (.list ((trainsT ws.length).map encTr)) (.int v) = some (encTr t) := by
    have : ixN (trainsT ws.length).length v = some v.toNat := by
      unfold ixN
      rw [if_pos v0, if_pos v1]
    simp [this, ht]
  have lr := lratio_ok hw g.within g.len
  have r := ratio_step hw g s0 (.own tp1) s2 (.val (.int ws.length)) s5 (.val (.list ((trainsT ws.length).map encTr))) s9 s10 s11 s12 s13 s14 s15 s16 s17 c18 f
  refine ⟨t, tp1, t1, hm, ?_⟩
  simp [q7, q8, q9, hT, e1, i1, lr, r, -dIx_list]
end PL
set_option Elab.async false
set_option linter.all false
set_option maxRecDepth 100000
set_option maxHeartbeats 4000000
set_option autoImplicit false
namespace PL
open PySem PySem.Spec PyProof.Rows L2
theorem q10_ok {ws : List Int} (hw : Wheels ws) (l2 : 2 ≤ ws.length) (l6 : ws.length ≤ 6) {t : Tr} (ht : t ∈ trainsT ws.length) {tp : List D} (h : TapeOk 111 tp) (s0 s2 s4 s5 s13 s14 s15 s16 s17 s18 : Cell) :
    ∃ (tp' : List D) (c9 c10 c11 : Cell) (d12 : D), TapeOk 502 tp' ∧ c9.free = true ∧ c10.free = true ∧ c11.free = true ∧
    oFor rWant (gN 9) bWant [s0, .own tp, s2, .val (.tuple (nums ws)), s4, s5, .val (.list ((trainsT ws.length).map encTr)), .val (encTr t), .val (pr (ratT ws t)), .emp, .emp, .emp, .emp, s13, s14, s15, s16, s17, s18]
      = .nx [s0, .own tp', s2, .val (.tuple (nums ws)), s4, s5, .val (.list ((trainsT ws.length).map encTr)), .val (encTr t), .val (pr (ratT ws t)), c9, c10, c11, .val d12, s13, s14, s15, s16, s17, s18] := by
  have g := good_of (by omega) ht
  have p0 := rat_pos hw g.len
  obtain ⟨tp', w1, w2, t1, p1, p2, e⟩ := want_src (ws := ws) p0 h (by decide) s0 s2 (.val (.tuple (nums ws))) s4 s5 (.val (.list ((trainsT ws.length).map encTr))) (.val (encTr t)) .emp .emp .emp .emp s13 s14 s15 s16 s17 s18
  obtain ⟨z1, z2⟩ := trains_size ws.length (by omega) l2
  obtain ⟨t0, L, hL⟩ : ∃ t0 L, trainsT ws.length = t0 :: L := by
    cases h : trainsT ws.length with
    | nil => rw [h] at z1; simp at z1
    | cons a b => exact ⟨a, b, rfl⟩
  obtain ⟨a10, a11, a12, fa10, fa11, e1⟩ := want_turn hw rfl (by omega) (p0.up (show 20 ≤ 100 by decide)) hL (by omega) s0 (.own tp') s2 s4 s5 (.val (encTr t)) (.val (pr (ratT ws t))) .emp .emp .emp .emp s13 s14 s15 s16 s17 s18 rfl rfl rfl rfl
  obtain ⟨b10, b11, b12, fb10, fb11, e2⟩ := want_turn hw rfl (by omega) p1 hL (by omega) s0 (.own tp') s2 s4 s5 (.val (encTr t)) (.val (pr (ratT ws t))) (.val (pr (ratT ws t))) a10 a11 (.val a12) s13 s14 s15 s16 s17 s18 rfl fa10 fa11 rfl
  obtain ⟨d10, d11, d12, fd10, fd11, e3⟩ := want_turn hw rfl (by omega) p2 hL (by omega) s0 (.own tp') s2 s4 s5 (.val (encTr t)) (.val (pr (ratT ws t))) (.val (pr w1)) b10 b11 (.val b12) s13 s14 s15 s16 s17 s18 rfl fb10 fb11 rfl
  refine ⟨tp', .val (pr w2), d10, d11, d12, t1, rfl, fd10, fd11, ?_⟩
  simp only [oFor, e, R.thn, forF_cons, e1, e2, e3, forF_nil]
theorem q11_ok {ws : List Int} (hw : Wheels ws) (l6 : ws.length ≤ 6) {t : Tr} (ht : t ∈ trainsT ws.length) (s0 s1 s2 s5 s6 s7 s9 s10 s11 s12 s13 s14 s15 s16 s17 s18 : Cell) :
    q11 [s0, s1, s2, .val (.tuple (nums ws)), .val (.int ws.length), s5, s6, s7, .val (pr (ratT ws t)), s9, s10, s11, s12, s13, s14, s15, s16, s17, s18] = .nx [s0, s1, s2, .val (.tuple (nums ws)), .val (.int ws.length), s5, s6, s7, .val (pr (ratT ws t)), s9, s10, s11, s12, s13, s14, s15, s16, s17, s18] := by
  by_cases h : (ws.length : Int) < 6
  · obtain ⟨u, hu⟩ := wider_ok hw rfl (by omega) ht
    have sl := sizeLine_mil
    have hz : ws.length + 1 ≤ sizeLine := by omega
    have e7 : nums ws ++ [PyData.int 7] = nums (ws ++ [7]) := by simp
    have hn : dIs (encTr u) .none = some (.bool false) := rfl
    have hlt : ws.length < 6 := by omega
    simp [q11, h, hlt, hz, e7, hu, hn, -List.map_append]
  · have hlt : ¬ ws.length < 6 := by omega
    simp [q11, h, hlt]
theorem O.seq_seq (x : O) (f g : DEnv → O) : (x.seq f).seq g = x.seq fun σ => (f σ).seq g := by cases x <;> rfl
theorem seq1 {a r : DEnv → O} {σ σ' : DEnv} (h : a σ = .nx σ') : oSeq a r σ = r σ' := by
  simp only [oSeq, h, O.seq]
theorem seq2 {a b r : DEnv → O} {σ σ' : DEnv} (h : oSeq a b σ = .nx σ') : oSeq a (oSeq b r) σ = r σ' := by
  have e : oSeq a (oSeq b r) σ = (oSeq a b σ).seq r := (O.seq_seq _ _ _).symm
  rw [e, h]
  rfl
theorem seq3 {a b c r : DEnv → O} {σ σ' : DEnv} (h : oSeq a (oSeq b c) σ = .nx σ') : oSeq a (oSeq b (oSeq c r)) σ = r σ' := by
  have e : oSeq a (oSeq b (oSeq c r)) = oSeq a (oSeq (oSeq b c) r) := by
    funext τ
    show (a τ).seq _ = (a τ).seq _
    congr 1
    funext τ
    exact (O.seq_seq _ _ _).symm
  rw [e]
  exact seq2 h
theorem seq4 {a b c d r : DEnv → O} {σ σ' : DEnv} (h : oSeq a (oSeq b (oSeq c d)) σ = .nx σ') : oSeq a (oSeq b (oSeq c (oSeq d r))) σ = r σ' := by
  have e : oSeq b (oSeq c (oSeq d r)) = oSeq (oSeq b (oSeq c d)) r := by
    funext τ
    show (b τ).seq _ = O.seq (O.seq (b τ) _) _
    rw [O.seq_seq]
    congr 1
    funext τ
    exact (O.seq_seq _ _ _).symm
  rw [e]
  exact seq2 h
theorem law_run {ns : List Int} (hl : ns.length ≤ 63) : F_law [.list (nums ns)] = .ok (.bool true) := by
  obtain ⟨tp, t0, e1⟩ := q1_ok (ns := ns) (by omega) .emp .emp .emp .emp .emp .emp .emp .emp .emp .emp .emp .emp .emp .emp .emp .emp .emp
  obtain ⟨tp2, wide, t1, w0, w1, e2⟩ := q2_ok t0 (.val (.list (nums ns))) .emp .emp .emp .emp .emp .emp .emp .emp .emp .emp .emp .emp .emp .emp .emp .emp
  obtain ⟨ws, tp3, t3, l2, l6, hw6, e3⟩ := q3_ok t1 w0 w1 (.val (.list (nums ns)))
  have hw : Wheels ws := fun w h => by
    have := hw6 w h
    omega
  have e6 := q6_ok l2 l6 hw6 (.val (.list (nums ns))) (.own tp3) (.val (.int wide)) (.val (.int ws.length)) .emp .emp .emp .emp .emp .emp .emp .emp .emp .emp .emp .emp .emp rfl
  obtain ⟨t, tp4, t4, ht, e7⟩ := q79_ok t3 l2 l6 hw (.val (.list (nums ns))) (.val (.int wide)) (.val (.list (wrongL ws))) .emp .emp .emp .emp .emp .emp .emp (backC (some .emp)) .emp .emp rfl
  have g := good_of (by omega) ht
  obtain ⟨tp5, c9, c10, c11, d12, t5, f9, f10, f11, e8⟩ := q10_ok hw l2 l6 ht t4 (.val (.list (nums ns))) (.val (.int wide)) (.val (.int ws.length)) (.val (.list (wrongL ws))) .emp .emp .emp (backC (some .emp)) .emp (backC (some .emp))
  have e9 := q11_ok hw l6 ht (.val (.list (nums ns))) (.own tp5) (.val (.int wide)) (.val (.list (wrongL ws))) (.val (.list ((trainsT ws.length).map encTr))) (.val (encTr t)) c9 c10 c11 (.val d12) .emp .emp .emp (backC (some .emp)) .emp (backC (some .emp))
  obtain ⟨tp6, c13, c14, e10⟩ := flash_step hw g t5 (by decide) (.val (.list (nums ns))) (.val (.int wide)) (.val (.int ws.length)) (.val (.list (wrongL ws))) (.val (.list ((trainsT ws.length).map encTr))) c9 c10 c11 (.val d12) .emp .emp .emp (backC (some .emp)) .emp (backC (some .emp)) rfl rfl
  have e11 := set15_ok (t := t) (many := ws.length) g.len (.val (.list (nums ns))) (.own tp6) (.val (.int wide)) (.val (.tuple (nums ws))) (.val (.list (wrongL ws))) (.val (.list ((trainsT ws.length).map encTr))) (.val (pr (ratT ws t))) c9 c10 c11 (.val d12) c13 c14 .emp (backC (some .emp)) .emp (backC (some .emp)) rfl
  obtain ⟨σ, e12⟩ := val_loop (S := .tuple (nums ws)) (T := (trainsT ws.length).map encTr) (.val (.list (nums ns))) (.own tp6) (.val (.int wide)) (.val (.int ws.length)) (.val (.list (wrongL ws))) (.val (encTr t)) (.val (pr (ratT ws t))) c9 c11 c13 c14 (.val (.list (askedL t ws.length))) .emp d12 (askedL t ws.length) c10 (backC (some .emp)) (backC (some .emp)) (asked_all rfl g ws.length) f10 rfl rfl
  have st : startD 19 [.list (nums ns)] = [.val (.list (nums ns)), .emp, .emp, .emp, .emp, .emp, .emp, .emp, .emp, .emp, .emp, .emp, .emp, .emp, .emp, .emp, .emp, .emp, .emp] := rfl
  have fin : qLast [.val (.list (nums ns)), .own tp6, .val (.int wide), .val (.tuple (nums ws)), .val (.int ws.length), .val (.list (wrongL ws)), .val (.list ((trainsT ws.length).map encTr)), .val (encTr t), .val (pr (ratT ws t)), c9, c10, c11, .val d12, c13, c14, .val (.list (askedL t ws.length)), backC (some .emp), .emp, backC (some .emp)] = .ret (.bool true) σ := by
    simp only [qLast, oSeq, oFor, onD, rdV, List.getElem?_cons_succ, List.getElem?_cons_zero, R.bind, itemsS_list, lift, R.thn, e12, O.seq, oRet]
  have run : b_law (startD 19 [.list (nums ns)]) = .ret (.bool true) σ := by
    rw [st, b_law_eq, seq1 e1, seq1 e2, seq3 e3, seq1 e6, seq4 e7, seq1 e8, seq1 e9, seq2 e10, seq1 e11]
    exact fin
  simp only [F_law, defD, List.length_cons, List.length_nil, if_true, run, answers]
end PL
set_option Elab.async false
set_option linter.all false
set_option maxRecDepth 100000
set_option autoImplicit false
namespace PL
open PySem PySem.Spec PyProof.Rows L2
theorem law_holds : ∀ ns : List Int, ns.length ≤ 63 → (∀ z ∈ ns, Builtin.Int.intBits z ≤ 1048576) → F_law [.list (ns.map .int)] = .ok (.bool true) := fun ns h _ => law_run h
end PL
set_option Elab.async false
set_option linter.all false
set_option maxRecDepth 100000
set_option maxHeartbeats 4000000
set_option autoImplicit false
open PySem PySem.W PyProof.Rows
set_option maxRecDepth 100000 in
set_option maxHeartbeats 0 in
theorem PySem.Challenge.cw_coastlit_k98_whole_gears_of_lenses_holds : PySem.Challenge.rw_coastlit_k98_whole_gears_of_lenses.Holds := by
  w_on; o_law; k_head; (case hw => w_witness2)
  k_fill
  refine PL.walk_T (l := PySem.Challenge.rw_coastlit_k98_whole_gears_of_lenses) (n := 63) (k := 5) (x := "script") rfl (by decide) rfl ⟨rfl, by decide, by decide⟩ (fun w h Y => PySem.W.kIn_of Y) ?F
  case F =>
    intro w mg mb fa h loose mean T KX G hmg
    refine' PL.all_mk T KX G hmg PL.law_holds ?a0 ?l0 ?e0 ?k0 ?a1 ?l1 ?e1 ?k1 ?a2 ?l2 ?e2 ?k2 ?a3 ?l3 ?e3 ?k3 ?a4 ?l4 ?e4 ?k4 ?a5 ?l5 ?e5 ?k5 ?a6 ?l6 ?e6 ?k6 ?a7 ?l7 ?e7 ?k7 ?a8 ?l8 ?e8 ?k8 ?a9 ?l9 ?e9 ?k9 ?a10 ?l10 ?e10 ?k10 ?a11 ?l11 ?e11 ?k11 ?a12 ?l12 ?e12 ?k12 ?t12 ?w12 ?n12 ?r12 ?a13 ?l13 ?e13 ?k13 ?a14 ?l14 ?e14 ?k14 ?a15 ?l15 ?e15 ?k15 ?a16 ?l16 ?e16 ?k16 ?a17 ?l17 ?e17 ?k17 ?a18 ?l18 ?e18 ?k18 ?a19 ?l19 ?e19 ?k19 ?a20 ?l20 ?e20 ?k20 ?a21 ?l21 ?e21 ?k21 ?a22 ?l22 ?e22 ?k22 ?t22 ?w22 ?n22 ?r22 ?a23 ?l23 ?e23 ?k23 ?a24 ?l24 ?e24 ?k24 ?z_abs ?z_all ?z_any ?z_bool ?z_int ?z_isinstance ?z_len ?z_list ?z_range ?z_sorted ?z_tuple ?y_LEAST_TEETH ?v_LEAST_TEETH ?y_MOST_PAIRS ?v_MOST_PAIRS ?y_MOST_TEETH ?v_MOST_TEETH ?y_MOST_WHEELS ?v_MOST_WHEELS ?m_gcd
    (case a0 => k_is)
    (case l0 => k_is)
    (case e0 => k_is)
    (case k0 => k_is)
    (case a1 => k_is)
    (case l1 => k_is)
    (case e1 => k_is)
    (case k1 => k_is)
    (case a2 => k_is)
    (case l2 => k_is)
    (case e2 => k_is)
    (case k2 => k_is)
    (case a3 => k_is)
    (case l3 => k_is)
    (case e3 => k_is)
    (case k3 => k_is)
    (case a4 => k_is)
    (case l4 => k_is)
    (case e4 => k_is)
    (case k4 => k_is)
    (case a5 => k_is)
    (case l5 => k_is)
    (case e5 => k_is)
    (case k5 => k_is)
    (case a6 => k_is)
    (case l6 => k_is)
    (case e6 => k_is)
    (case k6 => k_is)
    (case a7 => k_is)
    (case l7 => k_is)
    (case e7 => k_is)
    (case k7 => k_is)
    (case a8 => k_is)
    (case l8 => k_is)
    (case e8 => k_is)
    (case k8 => k_is)
    (case a9 => k_is)
    (case l9 => k_is)
    (case e9 => k_is)
    (case k9 => k_is)
    (case a10 => k_is)
    (case l10 => k_is)
    (case e10 => k_is)
    (case k10 => k_is)
    (case a11 => k_is)
    (case l11 => k_is)
    (case e11 => k_is)
    (case k11 => k_is)
    (case a12 => k_is)
    (case l12 => k_is)
    (case e12 => k_is)
    (case k12 => k_is)
    (case t12 => k_is)
    (case w12 => rfl)
    (case n12 => kernel_rfl)
    (case r12 => rfl)
    (case a13 => k_is)
    (case l13 => k_is)
    (case e13 => k_is)
    (case k13 => k_is)
    (case a14 => k_is)
    (case l14 => k_is)
    (case e14 => k_is)
    (case k14 => k_is)
    (case a15 => k_is)
    (case l15 => k_is)
    (case e15 => k_is)
    (case k15 => k_is)
    (case a16 => k_is)
    (case l16 => k_is)
    (case e16 => k_is)
    (case k16 => k_is)
    (case a17 => k_is)
    (case l17 => k_is)
    (case e17 => k_is)
    (case k17 => k_is)
    (case a18 => k_is)
    (case l18 => k_is)
    (case e18 => k_is)
    (case k18 => k_is)
    (case a19 => k_is)
    (case l19 => k_is)
    (case e19 => k_is)
    (case k19 => k_is)
    (case a20 => k_is)
    (case l20 => k_is)
    (case e20 => k_is)
    (case k20 => k_is)
    (case a21 => k_is)
    (case l21 => k_is)
    (case e21 => k_is)
    (case k21 => k_is)
    (case a22 => k_is)
    (case l22 => k_is)
    (case e22 => k_is)
    (case k22 => k_is)
    (case t22 => k_is)
    (case w22 => rfl)
    (case n22 => kernel_rfl)
    (case r22 => rfl)
    (case a23 => k_is)
    (case l23 => k_is)
    (case e23 => k_is)
    (case k23 => k_is)
    (case a24 => k_is)
    (case l24 => k_is)
    (case e24 => k_is)
    (case k24 => k_is)
    (case z_abs => k_is)
    (case z_all => k_is)
    (case z_any => k_is)
    (case z_bool => k_is)
    (case z_int => k_is)
    (case z_isinstance => k_is)
    (case z_len => k_is)
    (case z_list => k_is)
    (case z_range => k_is)
    (case z_sorted => k_is)
    (case z_tuple => k_is)
    (case y_LEAST_TEETH => k_is)
    (case v_LEAST_TEETH => exact ⟨_, rfl⟩)
    (case y_MOST_PAIRS => k_is)
    (case v_MOST_PAIRS => exact ⟨_, rfl⟩)
    (case y_MOST_TEETH => k_is)
    (case v_MOST_TEETH => exact ⟨_, rfl⟩)
    (case y_MOST_WHEELS => k_is)
    (case v_MOST_WHEELS => exact ⟨_, rfl⟩)
    (case m_gcd => k_is)
