import PyProof.Rows.All
import Wide.All
import OpenK.AllK
import Wide.FinOn
import HandS.ForMost
import HandS.ForExc
import HandS.Walk
import HandS.TupAny
import HandS.Wide
import HandS.Defaults
import HandS.ExcCtx
import HandS.HeadHook1
import HandS.Deep
import HandS.TupMul
import KE.GoesEnum
import KE.GoesMore
import HandS.Head0
import HandS.Head1
import HandS.Head2
import HandS.HeadEnd
import HandS.HeadHook2
import HandS.IsInst
import KE.DataMinMax
import PyProof.ReprLen
import PyProof.ReprRoads
import HandS.HeadHook4
import HandS.Style
import HandS.Dict
import KE.KRevSl
import HandS.ExcInit
import HandS.HotCalls
import KE.KExcIs
import KE.KIsAll
import HandS.ExcField
import PyProof.NeKinds
import HandS.SetFor
import HandS.TupSets
import PySem.Challenge.RW_widthmix_k45_whole_far_powers
set_option autoImplicit true
set_option Elab.async false
set_option linter.all false
set_option maxRecDepth 100000
set_option maxHeartbeats 2000000
namespace Den
open PySem PySem.Spec PyProof.Rows L2
set_option autoImplicit false
abbrev St := L2.St

/-! ### data, and how a value stands for it -/
inductive D where
  | non | bl (b : Bool) | int (i : Int) | str (x : Str) | tup (xs : List D) | lst (xs : List D) | emp | dk | exc (nm f : Str) (d : D)

/-- a tuple that may be read and is not protected -/
def TupAt (K : PySem.W.Frag) (H : Hp) (P : Addr → Prop) (a : Addr) (xs : List V) : Prop :=
  (Rd H a (.tup xs) ∧ ¬ P a) ∨
    ∃ (o : Obj) (its : Array Value) (n : Nat), K.lookup a = some o ∧ o.cls = .type "tuple" ∧ o.data = .seq its n ∧ its.size ≤ sizeLine ∧ Vals xs its.toList
theorem TupAt.sq {K : PySem.W.Frag} {H : Hp} {P : Addr → Prop} {a : Addr} {xs : List V} (h : TupAt K H P a xs) : SqT K H a xs := by
  rcases h with h | h
  · exact .inl h.1
  · exact .inr h

/-- the exception that is handled: where it lies, its record -/
abbrev EX := Option (Addr × Obj)
structure KA where
  dk : Option Addr
  ex : EX
mutual
inductive Rep (K : PySem.W.Frag) (H : Hp) (P : Addr → Prop) (k : KA) : D → V → Prop
  | non : Rep K H P k .non .non
  | bl (b : Bool) : Rep K H P k (.bl b) (.bl b)
  | int (i : Int) : Rep K H P k (.int i) (.int i)
  | str (x : Str) : Rep K H P k (.str x) (.str x)
  | tup {a : Addr} {xs : List V} {ds : List D} : TupAt K H P a xs → RepL K H P k ds xs → Rep K H P k (.tup ds) (.ref a)
  | lst {a : Addr} {xs : List V} {ds : List D} : H a = some (.lst xs) → ¬ P a → RepL K H P k ds xs → Rep K H P k (.lst ds) (.ref a)
  | emp {a : Addr} : H a = some (.dK []) → ¬ P a → Rep K H P k .emp (.ref a)
  | dk {a : Addr} : k.dk = some a → Rep K H P k .dk (.ref a)
  | exc {a dd : Addr} {oe : Obj} {nm f : Str} {d : D} {v : V} : nm ≠ "()" → k.ex = some (a, oe) → oe.cls = .ref (He.ga K nm) → oe.dict = some dd → H dd = some (.xd [(f, v)]) → ¬ P dd → Rep K H P k d v → Rep K H P k (.exc nm f d) (.ref a)
  | fn (x : Str) : Rep K H P k (.exc "()" x .non) (.ref (He.ga K x))
  | ex0 {a : Addr} {oe : Obj} {nm : Str} : nm ≠ "()" → k.ex = some (a, oe) → oe.cls = .ref (He.ga K nm) → oe.dict = none → Rep K H P k (.exc nm "" .non) (.ref a)
inductive RepL (K : PySem.W.Frag) (H : Hp) (P : Addr → Prop) (k : KA) : List D → List V → Prop
  | nil : RepL K H P k [] []
  | cons {d : D} {ds : List D} {v : V} {vs : List V} : Rep K H P k d v → RepL K H P k ds vs → RepL K H P k (d :: ds) (v :: vs)
end

/-- from (H, P) to (H', P'): what was tracked and not protected stands; what is protected now was protected or is new -/
structure Ext (P : Addr → Prop) (H : Hp) (P' : Addr → Prop) (H' : Hp) : Prop where
  keep : ∀ a o, H a = some o → ¬ P a → H' a = some o
  prot : ∀ a, P' a → P a ∨ H a = none
theorem Ext.refl (P : Addr → Prop) (H : Hp) : Ext P H P H := ⟨fun _ _ h _ => h, fun _ h => .inl h⟩
theorem Ext.notP {P P' : Addr → Prop} {H H' : Hp} (e : Ext P H P' H') {a : Addr} {o : HO} (h : H a = some o) (np : ¬ P a) : ¬ P' a := fun q => by
  rcases e.prot a q with z | z
  · exact np z
  · rw [h] at z; cases z
theorem Ext.trans {P P' P'' : Addr → Prop} {H H' H'' : Hp} (e : Ext P H P' H') (f : Ext P' H' P'' H'') : Ext P H P'' H'' := by
  refine ⟨fun a o h np => f.keep a o (e.keep a o h np) (e.notP h np), fun a q => ?_⟩
  rcases f.prot a q with z | z
  · exact e.prot a z
  · by_cases np : P a
    · exact .inl np
    · refine .inr ?_
      cases q' : H a with
      | none => rfl
      | some o => rw [e.keep a o q' np] at z; cases z

section
variable {K : PySem.W.Frag} {H H' : Hp} {P P' : Addr → Prop} {k : KA}
theorem TupAt.ext {a : Addr} {xs : List V} (h : TupAt K H P a xs) (e : Ext P H P' H') : TupAt K H' P' a xs := by
  rcases h with ⟨h, np⟩ | h
  · refine .inl ?_
    rcases h with h | ⟨o, h⟩
    · exact ⟨.inl (e.keep _ _ h np), e.notP h np⟩
    · exact ⟨.inr ⟨o, e.keep _ _ h np⟩, e.notP h np⟩
  · exact .inr h
mutual
theorem Rep.ext (e : Ext P H P' H') : ∀ (d : D) (v : V), Rep K H P k d v → Rep K H' P' k d v
  | .non, _, h => by cases h; exact .non
  | .bl b, _, h => by cases h; exact .bl b
  | .int i, _, h => by cases h; exact .int i
  | .str x, _, h => by cases h; exact .str x
  | .tup ds, _, h => by
    cases h with
    | tup h1 h2 => exact .tup (h1.ext e) (RepL.ext e ds _ h2)
  | .lst ds, _, h => by
    cases h with
    | lst h1 np h2 => exact .lst (e.keep _ _ h1 np) (e.notP h1 np) (RepL.ext e ds _ h2)
  | .emp, _, h => by
    cases h with
    | emp h1 np => exact .emp (e.keep _ _ h1 np) (e.notP h1 np)
  | .dk, _, h => by
    cases h with
    | dk e => exact .dk e
  | .exc nm f d, _, h => by
    cases h with
    | exc h0 h1 h2 h3 h4 np h5 => exact .exc h0 h1 h2 h3 (e.keep _ _ h4 np) (e.notP h4 np) (Rep.ext e d _ h5)
    | fn => exact .fn _
    | ex0 h0 h1 h2 h3 => exact .ex0 h0 h1 h2 h3
theorem RepL.ext (e : Ext P H P' H') : ∀ (ds : List D) (vs : List V), RepL K H P k ds vs → RepL K H' P' k ds vs
  | [], _, h => by cases h; exact .nil
  | d :: ds, _, h => by
    cases h with
    | cons h1 h2 => exact .cons (Rep.ext e d _ h1) (RepL.ext e ds _ h2)
end
theorem Rep.to {d : D} {v : V} (h : Rep K H P k d v) (e : Ext P H P' H') : Rep K H' P' k d v := Rep.ext e d v h
theorem RepL.to {ds : List D} {vs : List V} (h : RepL K H P k ds vs) (e : Ext P H P' H') : RepL K H' P' k ds vs := RepL.ext e ds vs h
theorem RepL.len : ∀ {ds : List D} {vs : List V}, RepL K H P k ds vs → vs.length = ds.length
  | [], _, h => by cases h; rfl
  | d :: ds, _, h => by
    cases h with
    | cons h1 h2 => simp [RepL.len h2]
theorem RepL.get : ∀ {ds : List D} {vs : List V} {i : Nat} {d : D}, RepL K H P k ds vs → ds[i]? = some d → ∃ v, vs[i]? = some v ∧ Rep K H P k d v
  | [], _, _, _, _, e => by simp at e
  | d :: ds, _, 0, _, h, e => by
    cases h with
    | cons h1 h2 => simp at e; subst e; exact ⟨_, rfl, h1⟩
  | d :: ds, _, i + 1, _, h, e => by
    cases h with
    | cons h1 h2 =>
      obtain ⟨v, a, b⟩ := RepL.get (i := i) h2 (by simpa using e)
      exact ⟨v, by simpa using a, b⟩
theorem RepL.getV : ∀ {ds : List D} {vs : List V} {i : Nat} {v : V}, RepL K H P k ds vs → vs[i]? = some v → ∃ d, ds[i]? = some d ∧ Rep K H P k d v
  | [], _, _, _, h, e => by cases h; simp at e
  | d :: ds, _, 0, _, h, e => by
    cases h with
    | cons h1 h2 => simp at e; subst e; exact ⟨_, rfl, h1⟩
  | d :: ds, _, i + 1, _, h, e => by
    cases h with
    | cons h1 h2 =>
      obtain ⟨v, a, b⟩ := RepL.getV (i := i) h2 (by simpa using e)
      exact ⟨v, by simpa using a, b⟩
theorem RepL.append : ∀ {ds es : List D} {vs ws : List V}, RepL K H P k ds vs → RepL K H P k es ws → RepL K H P k (ds ++ es) (vs ++ ws)
  | [], _, _, _, h, q => by cases h; exact q
  | d :: ds, _, _, _, h, q => by
    cases h with
    | cons h1 h2 => exact .cons h1 (RepL.append h2 q)
theorem RepL.take : ∀ {ds : List D} {vs : List V} (n : Nat), RepL K H P k ds vs → RepL K H P k (ds.take n) (vs.take n)
  | _, _, 0, _ => by simp; exact .nil
  | [], _, _ + 1, h => by cases h; exact .nil
  | d :: ds, _, n + 1, h => by
    cases h with
    | cons h1 h2 => exact .cons h1 (RepL.take n h2)
theorem RepL.drop : ∀ {ds : List D} {vs : List V} (n : Nat), RepL K H P k ds vs → RepL K H P k (ds.drop n) (vs.drop n)
  | _, _, 0, h => h
  | [], _, _ + 1, h => by cases h; exact .nil
  | d :: ds, _, n + 1, h => by
    cases h with
    | cons h1 h2 => exact RepL.drop n h2
theorem RepL.set : ∀ {ds : List D} {vs : List V} (i : Nat) {d : D} {v : V}, RepL K H P k ds vs → Rep K H P k d v → RepL K H P k (ds.set i d) (vs.set i v)
  | [], _, _, _, _, h, _ => by cases h; exact .nil
  | d :: ds, _, 0, _, _, h, q => by
    cases h with
    | cons h1 h2 => exact .cons q h2
  | d :: ds, _, i + 1, _, _, h, q => by
    cases h with
    | cons h1 h2 => exact .cons h1 (RepL.set i h2 q)
theorem RepL.erase : ∀ {ds : List D} {vs : List V} (i : Nat), RepL K H P k ds vs → RepL K H P k (ds.eraseIdx i) (vs.eraseIdx i)
  | [], _, _, h => by cases h; exact .nil
  | d :: ds, _, 0, h => by
    cases h with
    | cons h1 h2 => exact h2
  | d :: ds, _, i + 1, h => by
    cases h with
    | cons h1 h2 => exact .cons h1 (RepL.erase i h2)
theorem RepL.rep {ds : List D} {vs : List V} (h : RepL K H P k ds vs) : ∀ m : Nat, RepL K H P k (List.replicate m ds).flatten (List.replicate m vs).flatten
  | 0 => .nil
  | m + 1 => by
    simp only [List.replicate_succ, List.flatten_cons]
    exact h.append (RepL.rep h m)
theorem RepL.ints : ∀ {ns : List Int} {vs : List V}, RepL K H P k (ns.map D.int) vs → vs = ns.map V.int
  | [], _, h => by cases h; rfl
  | n :: ns, _, h => by
    cases h with
    | cons h1 h2 =>
      cases h1
      rw [RepL.ints h2]
      rfl
theorem RepL.bls : ∀ {ns : List Bool} {vs : List V}, RepL K H P k (ns.map D.bl) vs → vs = ns.map V.bl
  | [], _, h => by cases h; rfl
  | n :: ns, _, h => by
    cases h with
    | cons h1 h2 =>
      cases h1
      rw [RepL.bls h2]
      rfl
theorem repL_ints (ns : List Int) : RepL K H P k (ns.map D.int) (ns.map V.int) := by
  induction ns with
  | nil => exact .nil
  | cons n ns ih => exact .cons (.int n) ih
end

/-! ### the monad -/
structure Exc where
  name : Str
  fld : Option (Str × D) := none
def M (α : Type) : Type := Nat → (α → Nat → Prop) → (Exc → Nat → Prop) → Prop
def ret {α : Type} (a : α) : M α := fun n Q _ => Q a n
def bnd {α β : Type} (m : M α) (f : α → M β) : M β := fun n Q E => m n (fun a n' => f a n' Q E) E
def fail {α : Type} : M α := fun _ _ _ => False
def raise {α : Type} (x : Exc) : M α := fun n _ E => E x n
def opt {α : Type} : Option α → M α
  | some a => ret a
  | none => fail
/-- nothing may be raised -/
def noex {α : Type} (m : M α) : M α := fun n Q _ => m n Q fun _ _ => False
theorem bnd_ret {α β : Type} (a : α) (f : α → M β) : bnd (ret a) f = f a := rfl
theorem bnd_fail {α β : Type} (f : α → M β) : bnd fail f = fail := rfl
theorem bnd_raise {α β : Type} (x : Exc) (f : α → M β) : bnd (raise x) f = raise x := rfl
theorem bnd_bnd {α β γ : Type} (m : M α) (f : α → M β) (g : β → M γ) : bnd (bnd m f) g = bnd m fun a => bnd (f a) g := rfl
theorem ret_bnd {α : Type} (m : M α) : bnd m ret = m := rfl
theorem noex_ret {α : Type} (a : α) : noex (ret a) = ret a := rfl
theorem noex_fail {α : Type} : noex (fail : M α) = fail := rfl

/-! ### slots, the environment -/
inductive Slot where
  | un | sh (d : D) | own (ds : List D)
abbrev Env' := List Slot

/-- the deck's three lists -/
abbrev Dk := Option (Addr × Addr × Addr)
def inDk : Dk → Addr → Prop
  | none, _ => False
  | some (a, b, c), x => x = a ∨ x = b ∨ x = c
def dkA : Dk → Option Addr
  | none => none
  | some (a, _, _) => some a
/-- the deck's lists stand: n bounds the counter -/
def DkOk (H : Hp) : Dk → Nat → Prop
  | none, _ => True
  | some (a, b, c), n => a ≠ b ∧ a ≠ c ∧ b ≠ c ∧ ∃ (xs ys : List Int) (m : Int), H a = some (.lst [.ref b, .ref c, .int m]) ∧ H b = some (.lst (xs.map V.int)) ∧ H c = some (.lst (ys.map V.int)) ∧
      0 < ys.length ∧ ys.length ≤ 64 ∧ xs.length ≤ 64 ∧ 0 ≤ m ∧ m ≤ n
theorem DkOk.keep {H H' : Hp} {k : Dk} {n : Nat} (h : DkOk H k n) (e : ∀ a o, H a = some o → inDk k a → H' a = some o) : DkOk H' k n := by
  cases k with
  | none => trivial
  | some t =>
    obtain ⟨a, b, c⟩ := t
    obtain ⟨h1, h2, h3, xs, ys, m, ha, hb, hc, r⟩ := h
    exact ⟨h1, h2, h3, xs, ys, m, e _ _ ha (.inl rfl), e _ _ hb (.inr (.inl rfl)), e _ _ hc (.inr (.inr rfl)), r⟩
theorem DkOk.there {H : Hp} {k : Dk} {n : Nat} (h : DkOk H k n) {a : Addr} (i : inDk k a) : H a ≠ none := by
  cases k with
  | none => exact i.elim
  | some t =>
    obtain ⟨x, b, c⟩ := t
    obtain ⟨h1, h2, h3, xs, ys, m, ha, hb, hc, r⟩ := h
    rcases i with rfl | rfl | rfl
    · rw [ha]; intro z; cases z
    · rw [hb]; intro z; cases z
    · rw [hc]; intro z; cases z

/-- what is fixed within a def: the deck, what the callers protect -/
structure Gh (ex : EX) where
  k : Dk
  P0 : Addr → Prop
def ow (env : Env') (σ : St) (a : Addr) : Prop := ∃ (i : Nat) (ds : List D), env[i]? = some (Slot.own ds) ∧ σ[i]? = some (some (V.ref a))
def kA {ex : EX} (g : Gh ex) : KA := ⟨dkA g.k, ex⟩
/-- one more address is protected -/
abbrev Gh.add {ex : EX} (g : Gh ex) (x : Addr) : Gh ex := ⟨g.k, fun a => g.P0 a ∨ a = x⟩
/-- what is wished of exceptions, and the one that is handled -/
structure WY where
  w : WX
  ex : EX
def pv {ex : EX} (g : Gh ex) (env : Env') (σ : St) (a : Addr) : Prop := g.P0 a ∨ ow env σ a

structure Rl (K : PySem.W.Frag) {ex : EX} (g : Gh ex) (H : Hp) (σ : St) (n : Nat) (env : Env') : Prop where
  len : env.length = σ.length
  sh : ∀ (i : Nat) (d : D), env[i]? = some (Slot.sh d) → ∃ v, σ[i]? = some (some v) ∧ Rep K H (pv g env σ) (kA g) d v
  own : ∀ (i : Nat) (ds : List D), env[i]? = some (Slot.own ds) → ∃ (a : Addr) (xs : List V), σ[i]? = some (some (V.ref a)) ∧ H a = some (HO.lst xs) ∧ ¬ g.P0 a ∧ RepL K H (pv g env σ) (kA g) ds xs
  nd : ∀ (i j : Nat) (ds es : List D) (a : Addr), env[i]? = some (Slot.own ds) → env[j]? = some (Slot.own es) → σ[i]? = some (some (V.ref a)) → σ[j]? = some (some (V.ref a)) → i = j
  dk : DkOk H g.k n
  p0 : ∀ a, g.P0 a → H a ≠ none
  kp : ∀ a, inDk g.k a → g.P0 a
theorem Rl.there {K : PySem.W.Frag} {ex : EX} {g : Gh ex} {H : Hp} {σ : St} {n : Nat} {env : Env'} (R : Rl K g H σ n env) : ∀ a, pv g env σ a → H a ≠ none := fun a h => by
  rcases h with h | ⟨i, ds, h1, h2⟩
  · exact R.p0 a h
  · obtain ⟨b, xs, e1, e2, _⟩ := R.own i ds h1
    rw [h2] at e1
    cases e1
    rw [e2]
    intro z; cases z
/-- nothing but the deck has changed (an expression) -/
def Frm (k : Dk) (H H' : Hp) : Prop := ∀ a o, H a = some o → ¬ inDk k a → H' a = some o
theorem Frm.refl (k : Dk) (H : Hp) : Frm k H H := fun _ _ h _ => h
theorem Frm.trans {k : Dk} {H H1 H2 : Hp} (a : Frm k H H1) (b : Frm k H1 H2) : Frm k H H2 := fun x o h n => b x o (a x o h n) n
theorem Same.frm {k : Dk} {H H' : Hp} (s : Same H H') : Frm k H H' := fun a o h _ => s a o h
theorem Frm.ext {k : Dk} {H H' : Hp} {P : Addr → Prop} (f : Frm k H H') (h : ∀ a, inDk k a → P a) : Ext P H P H' := ⟨fun a o e np => f a o e fun z => np (h a z), fun _ q => .inl q⟩
theorem Same.ext {P : Addr → Prop} {H H' : Hp} (s : Same H H') : Ext P H P H' := ⟨fun a o e _ => s a o e, fun _ q => .inl q⟩
theorem Rl.frm {K : PySem.W.Frag} {ex : EX} {g : Gh ex} {H H' : Hp} {σ : St} {n n' : Nat} {env : Env'} (R : Rl K g H σ n env) (f : Frm g.k H H') (dk : DkOk H' g.k n') : Rl K g H' σ n' env := by
  have e : Ext (pv g env σ) H (pv g env σ) H' := f.ext fun a h => .inl (R.kp a h)
  refine ⟨R.len, fun i d h => ?_, fun i ds h => ?_, R.nd, dk, fun a h => ?_, R.kp⟩
  · obtain ⟨v, h1, h2⟩ := R.sh i d h
    exact ⟨v, h1, h2.to e⟩
  · obtain ⟨a, xs, h1, h2, h3, h4⟩ := R.own i ds h
    exact ⟨a, xs, h1, f a _ h2 (fun z => h3 (R.kp a z)), h3, h4.to e⟩
  · by_cases z : inDk g.k a
    · exact dk.there z
    · cases q : H a with
      | none => exact absurd q (R.p0 a h)
      | some o => rw [f a o q z]; intro w; cases w

/-- an exception that lies behind: its class by name, its one field in its own dict -/
def ExR (K : PySem.W.Frag) (mg : Str → Option Value) (H : Hp) (P : Addr → Prop) (k : KA) (x : Exc) (cls : Value) (dd : Option Addr) : Prop :=
  ∃ C, mg x.name = some (.ref C) ∧ cls = .ref C ∧ match x.fld with
    | none => dd = none
    | some (f, d) => ∃ a v, dd = some a ∧ H a = some (.xd [(f, v)]) ∧ ¬ P a ∧ Rep K H P k d v

/-! ### judgements -/
section
variable (K : PySem.W.Frag) (mg : Str → Option Value) (W : WY)
/-- how an expression's reading ends, for data -/
def tX {α β : Type} (rel : Gh W.ex → Env' → St → α → β → Hp → Prop) (φ : Env' → M α) : St → Hp → (β → Hp → Prop) → Prop := fun σ H Q =>
  ∃ g n env Qd Ed, Rl K g H σ n env ∧ φ env n Qd Ed ∧
    (∀ d n' v H', Qd d n' → rel g env σ d v H' → Frm g.k H H' → DkOk H' g.k n' → Q v H') ∧
    (∀ x n' cls dd H', Ed x n' → ExR K mg H' (pv g env σ) (kA g) x cls dd → Frm g.k H H' → DkOk H' g.k n' → W.w cls dd σ H')
def relE {ex : EX} : Gh ex → Env' → St → D → V → Hp → Prop := fun g env σ d v H => Rep K H (pv g env σ) (kA g) d v
def relA {ex : EX} : Gh ex → Env' → St → List D → List V → Hp → Prop := fun g env σ ds vs H => RepL K H (pv g env σ) (kA g) ds vs
def relT {ex : EX} : Gh ex → Env' → St → Bool → Bool → Hp → Prop := fun _ _ _ b c _ => c = b
end
def DE (X : Cx) (W : WY) (e : Expr) (φ : Env' → M D) : Prop := PE X e (tX X.K X.mg W (relE X.K) φ)
def DA (X : Cx) (W : WY) (es : List Expr) (φ : Env' → M (List D)) : Prop := PA X es (tX X.K X.mg W (relA X.K) φ)
def DT (X : Cx) (W : WY) (e : Expr) (φ : Env' → M Bool) : Prop := PT X e (tX X.K X.mg W relT φ)
def DW (X : Cx) (W : WY) (e : Expr) (φ : Env' → M Bool) : Prop := PW X e (tX X.K X.mg W relT φ)

theorem PE.imp {X : Cx} {e : Expr} {t u : TE} (h : PE X e t) (i : ∀ σ H Q, u σ H Q → t σ H Q) : PE X e u := ⟨fun p s σ H Q I q => h.run p s σ H Q I (i σ H Q q)⟩
theorem PT.imp {X : Cx} {e : Expr} {t u : TT} (h : PT X e t) (i : ∀ σ H Q, u σ H Q → t σ H Q) : PT X e u := ⟨fun p s σ H Q I q => h.run p s σ H Q I (i σ H Q q)⟩
theorem PW.imp {X : Cx} {e : Expr} {t u : TT} (h : PW X e t) (i : ∀ σ H Q, u σ H Q → t σ H Q) : PW X e u := ⟨fun w p s σ H Q I q => h.run w p s σ H Q I (i σ H Q q)⟩
theorem PA.imp {X : Cx} {e : List Expr} {t u : TA} (h : PA X e t) (i : ∀ σ H Q, u σ H Q → t σ H Q) : PA X e u := ⟨fun o p s σ H Q I q => h.run o p s σ H Q I (i σ H Q q)⟩
theorem PS.imp {X : Cx} {e : Stmt} {t u : TS} (h : PS X e t) (i : ∀ D σ H, u D σ H → t D σ H) : PS X e u := ⟨fun p s σ H D I q => h.run p s σ H D I (i D σ H q)⟩
theorem PSs.imp {X : Cx} {e : List Stmt} {t u : TS} (h : PSs X e t) (i : ∀ D σ H, u D σ H → t D σ H) : PSs X e u := ⟨fun p s σ H D I q => h.run p s σ H D I (i D σ H q)⟩

/-- one step of a chain of readings: behind φ comes k -/
theorem tX_bnd {K : PySem.W.Frag} {mg : Str → Option Value} {W : WY} {α β γ δ : Type} {rel : Gh W.ex → Env' → St → α → β → Hp → Prop} {rel2 : Gh W.ex → Env' → St → γ → δ → Hp → Prop} {φ : Env' → M α} {f : α → Env' → M γ} {σ : St} {H : Hp} {Q : δ → Hp → Prop} {k : β → Hp → Prop}
    (h : tX K mg W rel2 (fun env => bnd (φ env) fun x => f x env) σ H Q)
    (hk : ∀ g env n d v H1 Qd Ed, Rl K g H1 σ n env → rel g env σ d v H1 → f d env n Qd Ed →
      (∀ d n' v H', Qd d n' → rel2 g env σ d v H' → Frm g.k H1 H' → DkOk H' g.k n' → Q v H') →
      (∀ x n' cls dd H', Ed x n' → ExR K mg H' (pv g env σ) (kA g) x cls dd → Frm g.k H1 H' → DkOk H' g.k n' → W.w cls dd σ H') → k v H1) :
    tX K mg W rel φ σ H k := by
  obtain ⟨g, n, env, Qd, Ed, R, p, q, r⟩ := h
  refine ⟨g, n, env, _, Ed, R, p, fun d n' v H' hd hr hf hdk => ?_, fun x n' cls dd H' he hx hf hdk => r x n' cls dd H' he hx hf hdk⟩
  exact hk g env n' d v H' Qd Ed (R.frm hf hdk) hr hd (fun d2 n2 v2 H2 a b c e => q d2 n2 v2 H2 a b (hf.trans c) e) fun x n2 cls dd H2 a b c e => r x n2 cls dd H2 a b (hf.trans c) e
theorem tX_in {K : PySem.W.Frag} {mg : Str → Option Value} {W : WY} {α β : Type} {rel : Gh W.ex → Env' → St → α → β → Hp → Prop} {φ : Env' → M α} {σ : St} {H : Hp} {Q : β → Hp → Prop} {g : Gh W.ex} {env : Env'} {n : Nat} {Qd : α → Nat → Prop} {Ed : Exc → Nat → Prop}
    (R : Rl K g H σ n env) (p : φ env n Qd Ed) (q : ∀ d n' v H', Qd d n' → rel g env σ d v H' → Frm g.k H H' → DkOk H' g.k n' → Q v H')
    (r : ∀ x n' cls dd H', Ed x n' → ExR K mg H' (pv g env σ) (kA g) x cls dd → Frm g.k H H' → DkOk H' g.k n' → W.w cls dd σ H') : tX K mg W rel φ σ H Q := ⟨g, n, env, Qd, Ed, R, p, q, r⟩

/-! ### names, constants -/
section
variable {X : Cx} {W : WY}
def eVar (i : Nat) : Env' → M D := fun env => match env[i]? with
  | some (.sh d) => ret d
  | _ => fail
def eC (d : D) : Env' → M D := fun _ => ret d
theorem dE_pv {e : Expr} {i : Nat} (h : PE X e (tVar i)) : DE X W e (eVar i) := by
  refine PE.imp h fun σ H Q ⟨g, n, env, Qd, Ed, R, p, q, r⟩ => ?_
  have p' : (match env[i]? with
    | some (.sh d) => (ret d : M D)
    | _ => fail) n Qd Ed := p
  cases e : env[i]? with
  | none => rw [e] at p'; exact p'.elim
  | some sl =>
    rw [e] at p'
    cases sl with
    | un => exact p'.elim
    | own _ => exact p'.elim
    | sh d =>
      obtain ⟨v, h1, h2⟩ := R.sh i d e
      exact ⟨v, h1, q d n v H p' h2 (Frm.refl _ _) R.dk⟩
theorem dE_var (i : Nat) {x : Str} {pos : Pos} (hN : X.N[i]? = some x := by rfl) (hv : Vis X.env.scope x := by first | exact Or.inl rfl | exact Or.inr (Or.inl rfl) | exact Or.inr (Or.inr rfl)) (hd : (x == ("__debug__" : Str)) = false := by decide)
    (hcd : (x == ("__classdict__" : Str)) = false := by decide) : DE X W (.Name x pos) (eVar i) := dE_pv (pe_var hN hv hd hcd)
theorem rel_int (i : Int) (t : Tok) : RelV (.int i) (.int i t) := ⟨t, rfl⟩
theorem dE_c {e : Expr} {d : D} {v : V} (h : PE X e (tC v)) (hr : ∀ H P k, Rep X.K H P k d v) : DE X W e (eC d) := by
  refine PE.imp h fun σ H Q ⟨g, n, env, Qd, Ed, R, p, q, r⟩ => ?_
  exact q d n v H p (hr _ _ _) (Frm.refl _ _) R.dk
theorem dE_int {i j pos} : DE X W (.Constant (.int i) j pos) (eC (.int i)) := dE_c pe_int fun _ _ _ => .int i
theorem dE_bl {i j pos} : DE X W (.Constant (.bool i) j pos) (eC (.bl i)) := dE_c pe_bl fun _ _ _ => .bl i
theorem dE_non {j pos} : DE X W (.Constant .none j pos) (eC .non) := dE_c pe_non fun _ _ _ => .non
theorem dE_str {x j pos} : DE X W (.Constant (.str x) j pos) (eC (.str x)) := dE_c pe_str fun _ _ _ => .str x
theorem dE_globI {x : Str} {i : Int} {pos : Pos} (hm : ∃ t, X.mg x = some (.int i t)) (hg : Gl X x := by rfl) (hd : (x == ("__debug__" : Str)) = false := by decide) : DE X W (.Name x pos) (eC (.int i)) := by
  obtain ⟨t, h⟩ := hm
  exact dE_c (pe_glob hg h (rel_int i t) hd) fun _ _ _ => .int i

/-! ### operators -/
def eOp (o : D → D → Option D) (a b : Env' → M D) : Env' → M D := fun env => bnd (a env) fun x => bnd (b env) fun y => opt (o x y)
def eUn (o : D → Option D) (a : Env' → M D) : Env' → M D := fun env => bnd (a env) fun x => opt (o x)
/-- what an operator's rule asks is answered by the data's operation -/
def Pure2 (K : PySem.W.Frag) (r : R2) (o : D → D → Option D) : Prop := ∀ (P : Addr → Prop) (k : KA) (H : Hp) (x y : V) (dx dy d : D) (Q : VK), (∀ a, P a → H a ≠ none) → Rep K H P k dx x → Rep K H P k dy y → o dx dy = some d →
  (∀ v H', Same H H' → Rep K H' P k d v → Q v H') → r x y H Q
def Pure1 (K : PySem.W.Frag) (r : V → Hp → VK → Prop) (o : D → Option D) : Prop := ∀ (P : Addr → Prop) (k : KA) (H : Hp) (x : V) (dx d : D) (Q : VK), (∀ a, P a → H a ≠ none) → Rep K H P k dx x → o dx = some d →
  (∀ v H', Same H H' → Rep K H' P k d v → Q v H') → r x H Q
theorem DkOk.same {H H' : Hp} {k : Dk} {n : Nat} (h : DkOk H k n) (s : Same H H') : DkOk H' k n := h.keep fun a o e _ => s a o e
theorem opt_some {α : Type} {o : Option α} {n : Nat} {Q : α → Nat → Prop} {E : Exc → Nat → Prop} (h : opt o n Q E) : ∃ a, o = some a ∧ Q a n := by
  cases o with
  | none => exact h.elim
  | some a => exact ⟨a, rfl, h⟩
theorem op2 {a b : Expr} {r : R2} {o : D → D → Option D} {φa φb : Env' → M D} {σ : St} {H : Hp} {Q : VK} (pu : Pure2 X.K r o) (h : tX X.K X.mg W (relE X.K) (eOp o φa φb) σ H Q) :
    tOp r (tX X.K X.mg W (relE X.K) φa) (tX X.K X.mg W (relE X.K) φb) σ H Q := by
  refine tX_bnd (f := fun x env => bnd (φb env) fun y => opt (o x y)) h fun g env n dx x H1 Qd Ed R1 rx p q r => ?_
  refine tX_in (φ := φb) R1 p (fun dy n2 y H2 p2 ry f2 k2 => ?_) (fun x n' cls dd H' a b c e => r x n' cls dd H' a b c e)
  obtain ⟨d, e, qd⟩ := opt_some p2
  have R2 := R1.frm f2 k2
  refine pu (pv g env σ) (kA g) H2 x y dx dy d Q R2.there (rx.to (f2.ext fun a z => .inl (R1.kp a z))) ry e fun v H' s rv => ?_
  exact q d n2 v H' qd rv (f2.trans (Same.frm s)) (k2.same s)
theorem dE_op {op : Operator} {r : R2} {o : D → D → Option D} {a b : Expr} {φa φb : Env' → M D} {pos : Pos} (ho : OpR X (binaryOp op) r) (pu : Pure2 X.K r o) (ha : DE X W a φa) (hb : DE X W b φb) : DE X W (.BinOp a op b pos) (eOp o φa φb) :=
  PE.imp (pe_op ho ha hb) fun σ H Q h => op2 (a := a) (b := b) pu h
theorem dE_cmp {op : CmpOp} {r : R2} {o : D → D → Option D} {a b : Expr} {φa φb : Env' → M D} {pos : Pos} (ho : OpR X (compareOp op) r) (pu : Pure2 X.K r o) (hm : behindInMarks op b = false) (ha : DE X W a φa) (hb : DE X W b φb) : DE X W (.Compare a [op] [b] pos) (eOp o φa φb) :=
  PE.imp (pe_cmpR ho ha hb hm) fun σ H Q h => op2 (a := a) (b := b) pu h
theorem dE_ix {r : R2} {o : D → D → Option D} {a b : Expr} {φa φb : Env' → M D} {pos : Pos} (hr : IxR X r) (pu : Pure2 X.K r o) (hs : PlainIx b) (ha : DE X W a φa) (hb : DE X W b φb) : DE X W (.Subscript a b pos) (eOp o φa φb) :=
  PE.imp (pe_ix hr ha hb hs) fun σ H Q h => op2 (a := a) (b := b) pu h
theorem dE_un {op : UnaryOp} {r : V → Hp → VK → Prop} {o : D → Option D} {a : Expr} {φa : Env' → M D} {pos : Pos} (ho : UnR X (unaryOp op) r) (pu : Pure1 X.K r o) (ha : DE X W a φa) : DE X W (.UnaryOp op a pos) (eUn o φa) := by
  refine PE.imp (pe_un ho ha) fun σ H Q h => ?_
  refine tX_bnd (f := fun x env => opt (o x)) h fun g env n dx x H1 Qd Ed R1 rx p q r => ?_
  obtain ⟨d, e, qd⟩ := opt_some p
  exact pu (pv g env σ) (kA g) H1 x dx d Q R1.there rx e fun v H' s rv => q d n v H' qd rv (Same.frm s) (R1.dk.same s)
end
end Den

set_option autoImplicit true
set_option Elab.async false
set_option linter.all false
set_option maxRecDepth 100000
set_option maxHeartbeats 2000000
set_option autoImplicit false
namespace Den
open PySem PySem.Spec PyProof.Rows L2
abbrev big : Nat := 16777216
theorem big_eq : sizeLine = big := sizeLine_eq

theorem OpR.or {X : Cx} {f : Value → Value → Sem Value} {r r' : R2} (h : OpR X f r) (h' : OpR X f r') : OpR X f (fun x y H Q => r x y H Q ∨ r' x y H Q) := by
  intro pins s σ H x y v u Q I rx ry q
  rcases q with q | q
  · exact h pins s σ H x y v u Q I rx ry q
  · exact h' pins s σ H x y v u Q I rx ry q
theorem same_upd {H : Hp} {p : Addr} {o : HO} (h : H p = none) : Same H (upd H p o) := fun b u e => by rw [upd_ne (ne_of_none e h)]; exact e
section
variable {K : PySem.W.Frag} {H : Hp} {P : Addr → Prop} {k : KA}
theorem newP {p : Addr} (hP : ∀ a, P a → H a ≠ none) (h : H p = none) : ¬ P p := fun z => hP p z h
theorem rep_new_tup {p : Addr} {ds : List D} {vs : List V} (hP : ∀ a, P a → H a ≠ none) (h : H p = none) (r : RepL K H P k ds vs) : Rep K (upd H p (.tup vs)) P k (.tup ds) (.ref p) :=
  .tup (.inl ⟨.inl upd_same, newP hP h⟩) (r.to (Same.ext (same_upd h)))
theorem rep_new_lst {p : Addr} {ds : List D} {vs : List V} (hP : ∀ a, P a → H a ≠ none) (h : H p = none) (r : RepL K H P k ds vs) : Rep K (upd H p (.lst vs)) P k (.lst ds) (.ref p) :=
  .lst upd_same (newP hP h) (r.to (Same.ext (same_upd h)))

/-! ### + - * // % -/
def oAdd : D → D → Option D
  | .int i, .int j => some (.int (i + j))
  | .tup xs, .tup ys => if xs.length + ys.length ≤ big then some (.tup (xs ++ ys)) else none
  | .lst xs, .lst ys => if xs.length + ys.length ≤ big then some (.lst (xs ++ ys)) else none
  | .str x, .str y => if x.length + y.length ≤ big then some (.str (x ++ y)) else none
  | _, _ => none
def rStrAdd : R2 := fun x y H Q => ∃ i j, x = .str i ∧ y = .str j ∧ i.length + j.length ≤ sizeLine ∧ Q (.str (i ++ j)) H
def rAddA (K : PySem.W.Frag) : R2 := fun x y H Q => rI0 (fun i j => .int (i + j)) x y H Q ∨ rCatA K x y H Q ∨ rCat x y H Q ∨ rStrAdd x y H Q
theorem op_addA {X : Cx} : OpR X (binaryOp .Add) (rAddA X.K) := OpR.or op_add (OpR.or op_catA (OpR.or op_cat op_add_str))
theorem pu_add : Pure2 K (rAddA K) oAdd := by
  intro P k H x y dx dy d Q hP rx ry e q
  cases rx with
  | int i =>
    cases ry with
    | int j =>
      cases e
      exact .inl ⟨i, j, rfl, rfl, q _ H (Same.refl _) (.int _)⟩
    | _ => cases e
  | str i =>
    cases ry with
    | str j =>
      simp only [oAdd] at e
      split at e
      · rename_i hl
        cases e
        exact .inr (.inr (.inr ⟨i, j, rfl, rfl, hl, q _ H (Same.refl _) (.str _)⟩))
      · cases e
    | _ => cases e
  | tup h1 h2 =>
    rename_i a xs ds
    cases ry with
    | tup h3 h4 =>
      rename_i b ys es
      simp only [oAdd] at e
      split at e
      · rename_i hl
        cases e
        have l1 := h2.len
        have l2 := h4.len
        refine .inr (.inl ⟨a, b, xs, ys, rfl, rfl, h1.sq, h3.sq, by rw [l1, l2]; exact hl, fun e => ?_, fun n e => ?_, fun n1 n2 p hp => ?_⟩)
        · subst e
          cases h2
          exact q _ H (Same.refl _) (.tup h3 h4)
        · subst e
          cases h4
          rw [List.append_nil] at q
          exact q _ H (Same.refl _) (.tup h1 h2)
        · exact q _ _ (same_upd hp) (rep_new_tup hP hp (h2.append h4))
      · cases e
    | _ => cases e
  | lst h1 np h2 =>
    rename_i a xs ds
    cases ry with
    | lst h3 np2 h4 =>
      rename_i b ys es
      simp only [oAdd] at e
      split at e
      · rename_i hl
        cases e
        have l1 := h2.len
        have l2 := h4.len
        refine .inr (.inr (.inl ⟨a, b, xs, ys, rfl, rfl, h1, h3, by rw [l1, l2]; exact hl, fun p hp => ?_⟩))
        exact q _ _ (same_upd hp) (rep_new_lst hP hp (h2.append h4))
      · cases e
    | _ => cases e
  | _ => cases e
def oSub : D → D → Option D
  | .int i, .int j => some (.int (i - j))
  | _, _ => none
theorem pu_I0 {g : Int → Int → Int} {o : D → D → Option D} (ho : ∀ dx dy d, o dx dy = some d → ∃ i j, dx = .int i ∧ dy = .int j ∧ d = .int (g i j)) : Pure2 K (rI0 fun i j => .int (g i j)) o := by
  intro P k H x y dx dy d Q hP rx ry e q
  obtain ⟨i, j, rfl, rfl, rfl⟩ := ho _ _ _ e
  cases rx
  cases ry
  exact ⟨i, j, rfl, rfl, q _ H (Same.refl _) (.int _)⟩
theorem pu_sub : Pure2 K (rI0 fun i j => .int (i - j)) oSub := pu_I0 fun dx dy d e => by
  cases dx <;> cases dy <;> first | (cases e; done) | (cases e; exact ⟨_, _, rfl, rfl, rfl⟩)
def mulOk (i j : Int) : Prop := ((-(2 ^ 64) < i ∧ i < 2 ^ 64) ∨ (-(2 ^ 64) < j ∧ j < 2 ^ 64)) ∨ i.natAbs.log2 + j.natAbs.log2 < 1000000
instance (i j : Int) : Decidable (mulOk i j) := by unfold mulOk; infer_instance
/-! tuple * 1 is the tuple itself -/
theorem tupMul1 (l : Addr) (items : Array Value) (n : Nat) (dd : Option Addr) (sl : Array (Option Value)) (u : Tok) :
    Meets (Builtin.«tuple.__mul__» ⟨[.ref l, .int 1 u], []⟩) (fun _ R s => s.heap.get? l = some { cls := .type "tuple", dict := dd, data := .seq items n, slots := sl } ∧ R (.ok (.ret (Value.ref l))) s) :=
  .of_wp fun prog w A R s h => by
    obtain ⟨hp, g, d, tk, os⟩ := s
    obtain ⟨hl, h⟩ := h
    have f1 := AutoSeq1.idx_int
    wp_walk using wpAny_loadPart' hl
    exact ⟨_, rfl, h⟩
def rRep1 (K : PySem.W.Frag) : R2 := fun x y H Q => ∃ l xs, x = .ref l ∧ y = .int 1 ∧ SqT K H l xs ∧ Q (.ref l) H
theorem op_rep1 {X : Cx} : OpR X (binaryOp .Mult) (rRep1 X.K) := by
  intro pins s σ H x y v u Q I rx ry hh
  obtain ⟨l, xs, rfl, rfl, hT, q⟩ := hh
  cases rx
  obtain ⟨tk, rfl⟩ := ry
  obtain ⟨its, r, ⟨⟨cl, dd, dt, sl⟩, hg, e1, n, e2⟩, _⟩ := I.tuple hT
  simp only at e1 e2
  subst e1 e2
  have tI : ∀ s' : Shared, s'.TypeIs (.int 1 tk) "int" := fun s' => typeIs_int s' 1 tk
  exact wpAny_binaryOp_repeat_ref (T := "tuple") (U := "int") (by decide) ⟨_, hg, rfl⟩ tI noFill_tuple_mul F.fills_int_mul F.slot_int_rmul repeat_tuple F.slot_int_index.lookup
    (call_meets F.slot_int_rmul (tI s) F.entry_int_rmul (F.args_int_rmul_2 _ _) (int_rmul_tuple 1 tk l its.toArray n dd sl) ⟨hg, rfl, ⟨_, hg, rfl⟩,
      call_meets F.slot_tuple_mul ⟨_, hg, rfl⟩ F.entry_tuple_mul (F.args_tuple_mul_2 _ _) (tupMul1 l its.toArray n dd sl tk) ⟨hg, .ref l, H, I, rfl, q⟩⟩)
/-- data repeated -/
def rpt (ds : List D) (k : Int) : List D := (List.replicate k.toNat ds).flatten
def oMul : D → D → Option D
  | .int i, .int j => if mulOk i j then some (.int (i * j)) else none
  | .lst xs, .int k => if -(2 ^ 63) ≤ k ∧ k < 2 ^ 63 ∧ xs.length * k.toNat ≤ big then some (.lst (rpt xs k)) else none
  | .tup xs, .int k => if k = 1 then some (.tup xs) else if xs ≠ [] ∧ 2 ≤ k ∧ k ≤ 1000 ∧ xs.length ≤ 1000 then some (.tup (rpt xs k)) else none
  | _, _ => none
def rMulI : R2 := rI (fun i j => mulOk i j) fun i j => .int (i * j)
theorem op_mulI {X : Cx} : OpR X (binaryOp .Mult) rMulI := opI fun i j _ _ _ _ _ hc q => mul_int q (by
  rcases hc with h | h
  · exact CMul.ok h
  · exact CMulW.ok h)
def rMulA (K : PySem.W.Frag) : R2 := fun x y H Q => rMulI x y H Q ∨ rRep x y H Q ∨ rRepT K x y H Q ∨ rRep1 K x y H Q
theorem op_mulA {X : Cx} : OpR X (binaryOp .Mult) (rMulA X.K) := OpR.or op_mulI (OpR.or op_rep (OpR.or op_repT op_rep1))
theorem pu_mul : Pure2 K (rMulA K) oMul := by
  intro P k H x y dx dy d Q hP rx ry e q
  cases rx with
  | int i =>
    cases ry with
    | int j =>
      simp only [oMul] at e
      split at e
      · rename_i hl
        cases e
        exact .inl ⟨i, j, rfl, rfl, hl, q _ H (Same.refl _) (.int _)⟩
      · cases e
    | _ => cases e
  | lst h1 np h2 =>
    rename_i a xs ds
    cases ry with
    | int j =>
      simp only [oMul] at e
      split at e
      · rename_i hl
        cases e
        have l1 := h2.len
        refine .inr (.inl ⟨a, j, xs, rfl, rfl, h1, hl.1, hl.2.1, by rw [l1]; exact hl.2.2, fun p hp => ?_⟩)
        exact q _ _ (same_upd hp) (rep_new_lst hP hp (h2.rep _))
      · cases e
    | _ => cases e
  | tup h1 h2 =>
    rename_i a xs ds
    cases ry with
    | int j =>
      simp only [oMul] at e
      split at e
      · rename_i h1k
        subst h1k
        cases e
        exact .inr (.inr (.inr ⟨a, xs, rfl, rfl, h1.sq, q _ H (Same.refl _) (.tup h1 h2)⟩))
      split at e
      · rename_i hl
        cases e
        have l1 := h2.len
        refine .inr (.inr (.inl ⟨a, j, xs, rfl, rfl, h1.sq, fun z => ?_, hl.2.1, hl.2.2.1, by rw [l1]; exact hl.2.2.2, fun p hp => ?_⟩))
        · subst z
          cases h2
          exact hl.1 rfl
        · exact q _ _ (same_upd hp) (rep_new_tup hP hp (h2.rep _))
      · cases e
    | _ => cases e
  | _ => cases e
theorem pu_I {C : Int → Int → Prop} {g : Int → Int → Int} {o : D → D → Option D} (ho : ∀ dx dy d, o dx dy = some d → ∃ i j, dx = .int i ∧ dy = .int j ∧ C i j ∧ d = .int (g i j)) : Pure2 K (rI C fun i j => .int (g i j)) o := by
  intro P k H x y dx dy d Q hP rx ry e q
  obtain ⟨i, j, rfl, rfl, hc, rfl⟩ := ho _ _ _ e
  cases rx
  cases ry
  exact ⟨i, j, rfl, rfl, hc, q _ H (Same.refl _) (.int _)⟩
def oDiv : D → D → Option D
  | .int i, .int j => if 0 < j ∧ j.natAbs.log2 < 9000 then some (.int (i / j)) else none
  | _, _ => none
theorem pu_div : Pure2 K (rI CDivW fun i j => .int (i / j)) oDiv := pu_I fun dx dy d e => by
  cases dx <;> cases dy <;> first
    | cases e
    | (simp only [oDiv] at e
       split at e
       · rename_i h
         cases e
         exact ⟨_, _, rfl, rfl, h, rfl⟩
       · cases e)
def oMod : D → D → Option D
  | .int i, .int j => if 0 < j then some (.int (i % j)) else none
  | _, _ => none
theorem pu_mod : Pure2 K (rI (fun _ j => 0 < j) fun i j => .int (i % j)) oMod := pu_I fun dx dy d e => by
  cases dx <;> cases dy <;> first
    | cases e
    | (simp only [oMod] at e
       split at e
       · rename_i h
         cases e
         exact ⟨_, _, rfl, rfl, h, rfl⟩
       · cases e)
def oNeg : D → Option D
  | .int i => some (.int (-i))
  | _ => none
theorem pu_neg : Pure1 K (rU fun i => .int (-i)) oNeg := by
  intro P k H x dx d Q hP rx e q
  cases rx <;> first | (cases e; done) | (cases e; exact ⟨_, rfl, q _ H (Same.refl _) (.int _)⟩)

/-! ### comparisons -/
mutual
def D.py : D → PyData
  | .non => .none
  | .bl b => .bool b
  | .int i => .int i
  | .str x => .str x
  | .tup xs => .tuple (pys xs)
  | .lst xs => .list (pys xs)
  | .emp => .dict []
  | .dk => .dict []
  | .exc _ _ _ => .dict []
def pys : List D → List PyData
  | [] => []
  | d :: ds => D.py d :: pys ds
end
theorem pys_map : ∀ ds : List D, pys ds = ds.map D.py
  | [] => rfl
  | d :: ds => by simp [pys, pys_map ds]
mutual
theorem Rep.dp : ∀ (d : D) (v : V), Rep K H P k d v → d.py.canLay0 = true → Dp K H v d.py
  | .non, _, h, _ => by cases h; exact .non
  | .bl b, _, h, _ => by cases h; exact .bl b
  | .int i, _, h, _ => by cases h; exact .int i
  | .str x, _, h, _ => by cases h; exact .str x
  | .tup ds, _, h, c => by
    cases h with
    | tup h1 h2 => exact .tup h1.sq (RepL.dp ds _ h2 (by simpa [D.py, PyData.canLay0] using c))
  | .lst ds, _, h, c => by
    cases h with
    | lst h1 np h2 => exact .lst (SqL.of h1) (RepL.dp ds _ h2 (by simpa [D.py, PyData.canLay0] using c))
  | .emp, _, h, c => by simp [D.py, PyData.canLay0] at c
  | .dk, _, h, c => by simp [D.py, PyData.canLay0] at c
  | .exc _ _ _, _, h, c => by simp [D.py, PyData.canLay0] at c
theorem RepL.dp : ∀ (ds : List D) (vs : List V), RepL K H P k ds vs → PyData.canLayAll0 (pys ds) = true → DpAll K H vs (pys ds)
  | [], _, h, _ => by cases h; exact .nil
  | d :: ds, _, h, c => by
    have c' : d.py.canLay0 = true ∧ PyData.canLayAll0 (pys ds) = true := by simpa [pys, PyData.canLayAll0] using c
    cases h with
    | cons h1 h2 => exact .cons (Rep.dp d _ h1 c'.1) (RepL.dp ds _ h2 c'.2)
end
def dOk (d : D) : Bool := SeqAt.shaped d.py
def deq (a b : D) : Bool := PyData.eqv a.py b.py
def oEq (a b : D) : Option D := if dOk a = true ∧ dOk b = true then some (.bl (deq a b)) else none
def oNe (a b : D) : Option D := if dOk a = true ∧ dOk b = true then some (.bl (!deq a b)) else none
theorem pu_eq : Pure2 K (rEqD K) oEq := by
  intro P k H x y dx dy d Q hP rx ry e q
  unfold oEq at e
  split at e
  · rename_i h
    cases e
    exact ⟨dx.py, dy.py, Rep.dp _ _ rx (SeqAt.canLay_of_shaped h.1), Rep.dp _ _ ry (SeqAt.canLay_of_shaped h.2), h.1, h.2, q _ H (Same.refl _) (.bl _)⟩
  · cases e
theorem pu_ne : Pure2 K (rNeD K) oNe := by
  intro P k H x y dx dy d Q hP rx ry e q
  unfold oNe at e
  split at e
  · rename_i h
    cases e
    exact ⟨dx.py, dy.py, Rep.dp _ _ rx (SeqAt.canLay_of_shaped h.1), Rep.dp _ _ ry (SeqAt.canLay_of_shaped h.2), h.1, h.2, q _ H (Same.refl _) (.bl _)⟩
  · cases e
def oCmpI (f : Int → Int → Bool) : D → D → Option D
  | .int i, .int j => some (.bl (f i j))
  | _, _ => none
theorem pu_cmpI {f : Int → Int → Bool} : Pure2 K (rI0 fun i j => .bl (f i j)) (oCmpI f) := by
  intro P k H x y dx dy d Q hP rx ry e q
  cases rx with
  | int i =>
    cases ry with
    | int j =>
      cases e
      exact ⟨_, _, rfl, rfl, q _ H (Same.refl _) (.bl _)⟩
    | _ => cases e
  | _ => cases e
abbrev oLt : D → D → Option D := oCmpI fun i j => decide (i < j)
abbrev oLe : D → D → Option D := oCmpI fun i j => decide (i ≤ j)
abbrev oGt : D → D → Option D := oCmpI fun i j => decide (j < i)
abbrev oGe : D → D → Option D := oCmpI fun i j => decide (j ≤ i)
def isNon : D → Bool
  | .non => true
  | _ => false
theorem Rep.isNon {d : D} {v : V} (r : Rep K H P k d v) : decide (v = .non) = Den.isNon d := by
  cases r <;> rfl
def oIs : D → D → Option D
  | d, .non => some (.bl (isNon d))
  | .bl a, .bl b => some (.bl (decide (a = b)))
  | _, _ => none
def oIsNot : D → D → Option D
  | d, .non => some (.bl (!isNon d))
  | .bl a, .bl b => some (.bl (!decide (a = b)))
  | _, _ => none
def rIsB : R2 := fun x y H Q => (y = .non ∧ Q (.bl (decide (x = .non))) H) ∨ ∃ a b, x = .bl a ∧ y = .bl b ∧ Q (.bl (decide (a = b))) H
def rIsNB : R2 := fun x y H Q => (y = .non ∧ Q (.bl (!decide (x = .non))) H) ∨ ∃ a b, x = .bl a ∧ y = .bl b ∧ Q (.bl (!decide (a = b))) H
theorem blv_beq (a b : Bool) : (Value.bool a == Value.bool b) = decide (a = b) := by cases a <;> cases b <;> rfl
theorem op_isB {X : Cx} : OpR X (compareOp .Is) rIsB := by
  intro pins s σ H x y v u Q I rx ry h
  rcases h with h | ⟨a, b, rfl, rfl, q⟩
  · exact op_isN _ _ _ _ _ _ _ _ _ I rx ry h
  cases (show v = Value.bool a from rx)
  cases (show u = Value.bool b from ry)
  exact wpAny_is_plain rfl (fin_bl I q (blv_beq a b).symm)
theorem op_isNB {X : Cx} : OpR X (compareOp .IsNot) rIsNB := by
  intro pins s σ H x y v u Q I rx ry h
  rcases h with h | ⟨a, b, rfl, rfl, q⟩
  · exact op_notN _ _ _ _ _ _ _ _ _ I rx ry h
  cases (show v = Value.bool a from rx)
  cases (show u = Value.bool b from ry)
  exact wpAny_isNot_plain rfl (fin_bl I q (congrArg not (blv_beq a b).symm))
theorem pu_is : Pure2 K rIsB oIs := by
  intro P k H x y dx dy d Q hP rx ry e q
  cases ry with
  | non =>
    simp only [oIs] at e
    cases e
    refine .inl ⟨rfl, ?_⟩
    rw [rx.isNon]
    exact q _ H (Same.refl _) (.bl _)
  | bl b =>
    cases rx with
    | bl a =>
      simp only [oIs] at e
      cases e
      exact .inr ⟨a, b, rfl, rfl, q _ H (Same.refl _) (.bl _)⟩
    | _ => cases e
  | _ => simp only [oIs] at e; cases e
theorem pu_isNot : Pure2 K rIsNB oIsNot := by
  intro P k H x y dx dy d Q hP rx ry e q
  cases ry with
  | non =>
    simp only [oIsNot] at e
    cases e
    refine .inl ⟨rfl, ?_⟩
    rw [rx.isNon]
    exact q _ H (Same.refl _) (.bl _)
  | bl b =>
    cases rx with
    | bl a =>
      simp only [oIsNot] at e
      cases e
      exact .inr ⟨a, b, rfl, rfl, q _ H (Same.refl _) (.bl _)⟩
    | _ => cases e
  | _ => simp only [oIsNot] at e; cases e
/-- x in a list or tuple of data -/
def oIn : D → D → Option D
  | d, .lst es => if dOk d = true ∧ dOk (.lst es) = true then some (.bl (es.any fun z => deq z d)) else none
  | d, .tup es => if dOk d = true ∧ dOk (.tup es) = true then some (.bl (es.any fun z => deq z d)) else none
  | _, _ => none
def oNotIn : D → D → Option D
  | d, .lst es => if dOk d = true ∧ dOk (.lst es) = true then some (.bl (!es.any fun z => deq z d)) else none
  | d, .tup es => if dOk d = true ∧ dOk (.tup es) = true then some (.bl (!es.any fun z => deq z d)) else none
  | _, _ => none
theorem any_pys (d : D) : ∀ es : List D, (pys es).any (fun z => PyData.eqv z d.py) = es.any fun z => deq z d
  | [] => rfl
  | e :: es => by simp only [pys, List.any_cons, any_pys d es]; rfl
def rInT (K : PySem.W.Frag) : R2 := fun x y H Q => ∃ d ds, Dp K H x d ∧ Dp K H y (.tuple ds) ∧ SeqAt.shaped d = true ∧ SeqAt.shaped (.tuple ds) = true ∧ Q (.bl (ds.any fun z => PyData.eqv z d)) H
def rNotInT (K : PySem.W.Frag) : R2 := fun x y H Q => ∃ d ds, Dp K H x d ∧ Dp K H y (.tuple ds) ∧ SeqAt.shaped d = true ∧ SeqAt.shaped (.tuple ds) = true ∧ Q (.bl (!ds.any fun z => PyData.eqv z d)) H
def rInA (K : PySem.W.Frag) : R2 := fun x y H Q => rInD K x y H Q ∨ rInT K x y H Q
def rNotInA (K : PySem.W.Frag) : R2 := fun x y H Q => rNotInD K x y H Q ∨ rNotInT K x y H Q
theorem op_inA {X : Cx} (hu : X.A.units + 65 < cLine) : OpR X (compareOp .In) (rInA X.K) := by
  intro pins s σ H x y v u Q I rx ry h
  rcases h with h | ⟨d, ds, hd, he, sd, se, q⟩
  · exact op_inD hu _ _ _ _ _ _ _ _ _ I rx ry h
  obtain ⟨as, r1⟩ := Dp.reads I d x v hd rx
  obtain ⟨bs, r2⟩ := Dp.reads I (.tuple ds) y u he ry
  exact SeqAt.in_tuple_reads r2 r1 (SeqAt.canLay_of_shaped se) (SeqAt.canLay_of_shaped sd) (room_in_shaped sd hu) ⟨.bl _, H, I, rfl, q⟩
theorem op_notInA {X : Cx} (hu : X.A.units + 65 < cLine) : OpR X (compareOp .NotIn) (rNotInA X.K) := by
  intro pins s σ H x y v u Q I rx ry h
  rcases h with h | ⟨d, ds, hd, he, sd, se, q⟩
  · exact op_notInD hu _ _ _ _ _ _ _ _ _ I rx ry h
  obtain ⟨as, r1⟩ := Dp.reads I d x v hd rx
  obtain ⟨bs, r2⟩ := Dp.reads I (.tuple ds) y u he ry
  exact SeqAt.notIn_tuple_reads r2 r1 (SeqAt.canLay_of_shaped se) (SeqAt.canLay_of_shaped sd) (room_in_shaped sd hu) ⟨.bl _, H, I, rfl, q⟩
theorem pu_in : Pure2 K (rInA K) oIn := by
  intro P k H x y dx dy d Q hP rx ry e q
  cases ry <;> first
    | (simp only [oIn] at e; cases e; done)
    | skip
  · rename_i a xs es h2 h1
    simp only [oIn] at e
    split at e
    · rename_i h
      cases e
      refine .inr ⟨dx.py, pys es, Rep.dp _ _ rx (SeqAt.canLay_of_shaped h.1), Rep.dp (.tup es) _ (.tup ‹_› ‹_›) (SeqAt.canLay_of_shaped h.2), h.1, h.2, ?_⟩
      rw [any_pys]
      exact q _ H (Same.refl _) (.bl _)
    · cases e
  · rename_i a xs es h1 np h2
    simp only [oIn] at e
    split at e
    · rename_i h
      cases e
      refine .inl ⟨dx.py, pys es, Rep.dp _ _ rx (SeqAt.canLay_of_shaped h.1), Rep.dp (.lst es) _ (.lst h1 np h2) (SeqAt.canLay_of_shaped h.2), h.1, h.2, ?_⟩
      rw [any_pys]
      exact q _ H (Same.refl _) (.bl _)
    · cases e
theorem pu_notIn : Pure2 K (rNotInA K) oNotIn := by
  intro P k H x y dx dy d Q hP rx ry e q
  cases ry <;> first
    | (simp only [oNotIn] at e; cases e; done)
    | skip
  · rename_i a xs es h2 h1
    simp only [oNotIn] at e
    split at e
    · rename_i h
      cases e
      refine .inr ⟨dx.py, pys es, Rep.dp _ _ rx (SeqAt.canLay_of_shaped h.1), Rep.dp (.tup es) _ (.tup ‹_› ‹_›) (SeqAt.canLay_of_shaped h.2), h.1, h.2, ?_⟩
      rw [any_pys]
      exact q _ H (Same.refl _) (.bl _)
    · cases e
  · rename_i a xs es h1 np h2
    simp only [oNotIn] at e
    split at e
    · rename_i h
      cases e
      refine .inl ⟨dx.py, pys es, Rep.dp _ _ rx (SeqAt.canLay_of_shaped h.1), Rep.dp (.lst es) _ (.lst h1 np h2) (SeqAt.canLay_of_shaped h.2), h.1, h.2, ?_⟩
      rw [any_pys]
      exact q _ H (Same.refl _) (.bl _)
    · cases e

/-! ### subscripts -/
def oIx : D → D → Option D
  | .tup xs, .int i => atI xs i
  | .lst xs, .int i => atI xs i
  | .str z, .int i => if z.length ≤ big then (atI z.cps.toList i).map fun c => .str ⟨#[c]⟩ else none
  | _, _ => none
theorem RepL.atI {ds : List D} {vs : List V} {i : Int} {d : D} (r : RepL K H P k ds vs) (h : atI ds i = some d) : ∃ v, L2.atI vs i = some v ∧ Rep K H P k d v := by
  unfold L2.atI at h ⊢
  rw [r.len]
  cases e : ixN ds.length i with
  | none => rw [e] at h; cases h
  | some j =>
    rw [e] at h
    obtain ⟨v, h1, h2⟩ := r.get (i := j) h
    exact ⟨v, h1, h2⟩
theorem pu_ix : Pure2 K (rIx K) oIx := by
  intro P k H x y dx dy d Q hP rx ry e q
  cases rx with
  | tup h1 h2 =>
    cases ry <;> first | cases e | skip
    rename_i j
    obtain ⟨v, h3, h4⟩ := h2.atI e
    exact .inr (.inl ⟨_, _, _, v, rfl, rfl, h1.sq, h3, q _ H (Same.refl _) h4⟩)
  | lst h1 np h2 =>
    cases ry <;> first | cases e | skip
    rename_i j
    obtain ⟨v, h3, h4⟩ := h2.atI e
    exact .inl ⟨_, _, _, v, rfl, rfl, SqL.of h1, h3, q _ H (Same.refl _) h4⟩
  | str z =>
    cases ry <;> first | cases e | skip
    rename_i j
    simp only [oIx] at e
    split at e
    · rename_i hl
      cases c : L2.atI z.cps.toList j with
      | none => rw [c] at e; cases e
      | some cp =>
        rw [c] at e
        cases e
        exact .inr (.inr ⟨z, j, cp, rfl, rfl, hl, c, q _ H (Same.refl _) (.str _)⟩)
    · cases e
  | _ => cases ry <;> cases e
end

/-! ### the rules -/
section
variable {X : Cx} {W : WY} {a b c : Expr} {φa φb φc : Env' → M D} {pos : Pos} {n : Nat}
theorem room64 (hr : Room n X.A) : X.A.units + 64 < cLine := hr.units
theorem room65 (hr : Room n X.A) : X.A.units + 65 < cLine := by have := hr.un; omega
theorem dE_add (ha : DE X W a φa) (hb : DE X W b φb) : DE X W (.BinOp a .Add b pos) (eOp oAdd φa φb) := dE_op op_addA pu_add ha hb
theorem dE_sub (ha : DE X W a φa) (hb : DE X W b φb) : DE X W (.BinOp a .Sub b pos) (eOp oSub φa φb) := dE_op op_sub pu_sub ha hb
theorem dE_mul (ha : DE X W a φa) (hb : DE X W b φb) : DE X W (.BinOp a .Mult b pos) (eOp oMul φa φb) := dE_op op_mulA pu_mul ha hb
theorem dE_div (ha : DE X W a φa) (hb : DE X W b φb) : DE X W (.BinOp a .FloorDiv b pos) (eOp oDiv φa φb) := dE_op op_fdivW pu_div ha hb
theorem dE_mod (ha : DE X W a φa) (hb : DE X W b φb) : DE X W (.BinOp a .Mod b pos) (eOp oMod φa φb) := dE_op op_mod pu_mod ha hb
theorem dE_neg (ha : DE X W a φa) : DE X W (.UnaryOp .USub a pos) (eUn oNeg φa) := dE_un un_neg pu_neg ha
/-- a written power -/
theorem dE_pow {i j N : Int} {t1 t2}  {p1 p2 : Pos} (h : CPow i j) (e : i ^ j.toNat = N) : DE X W (.BinOp (.Constant (.int i) t1 p1) .Pow (.Constant (.int j) t2 p2) pos) (eC (.int N)) := by
  refine PE.imp (pe_op op_pow pe_int pe_int) fun σ H Q ⟨g, n, env, Qd, Ed, R, p, q, r⟩ => ?_
  refine ⟨i, j, rfl, rfl, h, ?_⟩
  show Q (.int (i ^ j.toNat)) H
  rw [e]
  exact q _ n _ H p (.int _) (Frm.refl _ _) R.dk
theorem dE_eq (hr : Room n X.A) (ha : DE X W a φa) (hb : DE X W b φb) : DE X W (.Compare a [.Eq] [b] pos) (eOp oEq φa φb) := dE_cmp (op_eqD (room64 hr)) pu_eq (nomark _) ha hb
theorem dE_ne (hr : Room n X.A) (ha : DE X W a φa) (hb : DE X W b φb) : DE X W (.Compare a [.NotEq] [b] pos) (eOp oNe φa φb) := dE_cmp (op_neD (room64 hr)) pu_ne (nomark _) ha hb
theorem dE_lt (ha : DE X W a φa) (hb : DE X W b φb) : DE X W (.Compare a [.Lt] [b] pos) (eOp oLt φa φb) := dE_cmp op_lt pu_cmpI (nomark _) ha hb
theorem dE_le (ha : DE X W a φa) (hb : DE X W b φb) : DE X W (.Compare a [.LtE] [b] pos) (eOp oLe φa φb) := dE_cmp op_le pu_cmpI (nomark _) ha hb
theorem dE_gt (ha : DE X W a φa) (hb : DE X W b φb) : DE X W (.Compare a [.Gt] [b] pos) (eOp oGt φa φb) := dE_cmp op_gt pu_cmpI (nomark _) ha hb
theorem dE_ge (ha : DE X W a φa) (hb : DE X W b φb) : DE X W (.Compare a [.GtE] [b] pos) (eOp oGe φa φb) := dE_cmp op_ge pu_cmpI (nomark _) ha hb
theorem dE_is (ha : DE X W a φa) (hb : DE X W b φb) : DE X W (.Compare a [.Is] [b] pos) (eOp oIs φa φb) := dE_cmp op_isB pu_is (nomark _) ha hb
theorem dE_isNot (ha : DE X W a φa) (hb : DE X W b φb) : DE X W (.Compare a [.IsNot] [b] pos) (eOp oIsNot φa φb) := dE_cmp op_isNB pu_isNot (nomark _) ha hb
theorem dE_in (hr : Room n X.A) (ha : DE X W a φa) (hb : DE X W b φb) (hm : behindInMarks .In b = false := by rfl) : DE X W (.Compare a [.In] [b] pos) (eOp oIn φa φb) := dE_cmp (op_inA (room65 hr)) pu_in hm ha hb
theorem dE_notIn (hr : Room n X.A) (ha : DE X W a φa) (hb : DE X W b φb) (hm : behindInMarks .NotIn b = false := by rfl) : DE X W (.Compare a [.NotIn] [b] pos) (eOp oNotIn φa φb) := dE_cmp (op_notInA (room65 hr)) pu_notIn hm ha hb
theorem dE_at (ha : DE X W a φa) (hb : DE X W b φb) (hs : PlainIx b := by exact fun _ _ => rfl) : DE X W (.Subscript a b pos) (eOp oIx φa φb) := dE_ix ix_seq pu_ix hs ha hb

/-! ### tests -/
def toB : D → M Bool
  | .bl b => ret b
  | _ => fail
def eB (φ : Env' → M D) : Env' → M Bool := fun env => bnd (φ env) toB
theorem toB_some {d : D} {n : Nat} {Q : Bool → Nat → Prop} {E : Exc → Nat → Prop} (h : toB d n Q E) : ∃ b, d = .bl b ∧ Q b n := by
  cases d <;> first | exact h.elim | exact ⟨_, rfl, h⟩
theorem dT_val {φ : Env' → M D} (h : DE X W a φ) (he : ∀ whole, isTrue a X.env whole = (do let v ← whole; standAt a.pos; holding [v] (truthy v)) := by intro _; rfl) : DT X W a (eB φ) := by
  refine PT.imp (pt_val h he) fun σ H Q hh => ?_
  refine tX_bnd (f := fun x env => toB x) hh fun g env n dx x H1 Qd Ed R1 rx p q r => ?_
  obtain ⟨b, rfl, qd⟩ := toB_some p
  cases rx
  exact ⟨b, rfl, q b n b H1 qd rfl (Frm.refl _ _) R1.dk⟩
theorem tTest_eq (t : TE) : tTest t = tB t := rfl
/-- one comparison as a test -/
theorem dT_cmp {op : CmpOp} {r : R2} {o : D → D → Option D} (ho : OpR X (compareOp op) r) (pu : Pure2 X.K r o) (hm : behindInMarks op b = false) (ha : DE X W a φa) (hb : DE X W b φb) : DT X W (.Compare a [op] [b] pos) (eB (eOp o φa φb)) := by
  refine PT.imp (pt_cmpR ho ha hb hm) fun σ H Q hh => ?_
  refine op2 (a := a) (b := b) (Q := fun x H' => ∃ k, x = .bl k ∧ Q k H') pu ?_
  refine tX_bnd (f := fun x env => toB x) hh fun g env n dx x H1 Qd Ed R1 rx p q r => ?_
  obtain ⟨b, rfl, qd⟩ := toB_some p
  cases rx
  exact ⟨b, rfl, q b n b H1 qd rfl (Frm.refl _ _) R1.dk⟩
theorem dT_eq (hr : Room n X.A) (ha : DE X W a φa) (hb : DE X W b φb) : DT X W (.Compare a [.Eq] [b] pos) (eB (eOp oEq φa φb)) := dT_cmp (op_eqD (room64 hr)) pu_eq (nomark _) ha hb
theorem dT_ne (hr : Room n X.A) (ha : DE X W a φa) (hb : DE X W b φb) : DT X W (.Compare a [.NotEq] [b] pos) (eB (eOp oNe φa φb)) := dT_cmp (op_neD (room64 hr)) pu_ne (nomark _) ha hb
theorem dT_lt (ha : DE X W a φa) (hb : DE X W b φb) : DT X W (.Compare a [.Lt] [b] pos) (eB (eOp oLt φa φb)) := dT_cmp op_lt pu_cmpI (nomark _) ha hb
theorem dT_le (ha : DE X W a φa) (hb : DE X W b φb) : DT X W (.Compare a [.LtE] [b] pos) (eB (eOp oLe φa φb)) := dT_cmp op_le pu_cmpI (nomark _) ha hb
theorem dT_gt (ha : DE X W a φa) (hb : DE X W b φb) : DT X W (.Compare a [.Gt] [b] pos) (eB (eOp oGt φa φb)) := dT_cmp op_gt pu_cmpI (nomark _) ha hb
theorem dT_ge (ha : DE X W a φa) (hb : DE X W b φb) : DT X W (.Compare a [.GtE] [b] pos) (eB (eOp oGe φa φb)) := dT_cmp op_ge pu_cmpI (nomark _) ha hb
theorem dT_is (ha : DE X W a φa) (hb : DE X W b φb) : DT X W (.Compare a [.Is] [b] pos) (eB (eOp oIs φa φb)) := dT_cmp op_isB pu_is (nomark _) ha hb
theorem dT_isNot (ha : DE X W a φa) (hb : DE X W b φb) : DT X W (.Compare a [.IsNot] [b] pos) (eB (eOp oIsNot φa φb)) := dT_cmp op_isNB pu_isNot (nomark _) ha hb
theorem dT_in (hr : Room n X.A) (ha : DE X W a φa) (hb : DE X W b φb) (hm : behindInMarks .In b = false := by rfl) : DT X W (.Compare a [.In] [b] pos) (eB (eOp oIn φa φb)) := dT_cmp (op_inA (room65 hr)) pu_in hm ha hb
theorem dT_notIn (hr : Room n X.A) (ha : DE X W a φa) (hb : DE X W b φb) (hm : behindInMarks .NotIn b = false := by rfl) : DT X W (.Compare a [.NotIn] [b] pos) (eB (eOp oNotIn φa φb)) := dT_cmp (op_notInA (room65 hr)) pu_notIn hm ha hb
end
end Den

set_option autoImplicit true
set_option Elab.async false
set_option linter.all false
set_option maxRecDepth 100000
set_option maxHeartbeats 2000000
set_option autoImplicit false
namespace Den
open PySem PySem.Spec PyProof.Rows L2

/-! ### and, or, not, if-else, chains -/
section
variable {X : Cx} {W : WY} {a b c : Expr} {rest : List Expr} {φa φb φc : Env' → M D} {ψa ψb : Env' → M Bool} {pos : Pos} {n : Nat}
def eAndT (t u : Env' → M Bool) : Env' → M Bool := fun env => bnd (t env) fun k => if k = true then u env else ret false
def eOrT (t u : Env' → M Bool) : Env' → M Bool := fun env => bnd (t env) fun k => if k = true then ret true else u env
def eNotT (t : Env' → M Bool) : Env' → M Bool := fun env => bnd (t env) fun k => ret (!k)
theorem dW_and1 (h : DT X W a ψa) : DW X W (.BoolOp .And [a] pos) ψa := pw_and1 h
theorem dW_or1 (h : DT X W a ψa) : DW X W (.BoolOp .Or [a] pos) ψa := pw_or1 h
theorem dW_and (h : DT X W a ψa) (h2 : DW X W (.BoolOp .And (b :: rest) pos) ψb) : DW X W (.BoolOp .And (a :: b :: rest) pos) (eAndT ψa ψb) := by
  refine PW.imp (pw_and h h2) fun σ H Q hh => ?_
  refine tX_bnd (f := fun k env => if k = true then ψb env else ret false) hh fun g env n d k H1 Qd Ed R1 rk p q r => ?_
  have rk' : k = d := rk
  subst rk'
  cases k with
  | true => exact tX_in (φ := ψb) R1 p q r
  | false => exact q false n false H1 p rfl (Frm.refl _ _) R1.dk
theorem dW_or (h : DT X W a ψa) (h2 : DW X W (.BoolOp .Or (b :: rest) pos) ψb) : DW X W (.BoolOp .Or (a :: b :: rest) pos) (eOrT ψa ψb) := by
  refine PW.imp (pw_or h h2) fun σ H Q hh => ?_
  refine tX_bnd (f := fun k env => if k = true then ret true else ψb env) hh fun g env n d k H1 Qd Ed R1 rk p q r => ?_
  have rk' : k = d := rk
  subst rk'
  cases k with
  | false => exact tX_in (φ := ψb) R1 p q r
  | true => exact q true n true H1 p rfl (Frm.refl _ _) R1.dk
theorem dT_of (h : DW X W a ψa) : DT X W a ψa := h.pt
theorem dT_not (h : DT X W a ψa) : DT X W (.UnaryOp .Not a pos) (eNotT ψa) := by
  refine PT.imp (pt_not h) fun σ H Q hh => ?_
  refine tX_bnd (f := fun k env => ret (!k)) hh fun g env n d k H1 Qd Ed R1 rk p q r => ?_
  have rk' : k = d := rk
  subst rk'
  exact q (!k) n (!k) H1 p rfl (Frm.refl _ _) R1.dk
def eAnd (t u : Env' → M D) : Env' → M D := fun env => bnd (t env) fun x => bnd (toB x) fun k => if k = true then u env else ret (.bl false)
def eOr (t u : Env' → M D) : Env' → M D := fun env => bnd (t env) fun x => bnd (toB x) fun k => if k = true then ret (.bl true) else u env
def eNot (t : Env' → M D) : Env' → M D := fun env => bnd (t env) fun x => bnd (toB x) fun k => ret (.bl (!k))
theorem dE_one {op} (h : DE X W a φa) : DE X W (.BoolOp op [a] pos) φa := pe_one h
theorem dE_and (h : DE X W a φa) (h2 : DE X W (.BoolOp .And (b :: rest) pos) φb) : DE X W (.BoolOp .And (a :: b :: rest) pos) (eAnd φa φb) := by
  refine PE.imp (pe_and h h2) fun σ H Q hh => ?_
  refine tX_bnd (f := fun x env => bnd (toB x) fun k => if k = true then φb env else ret (.bl false)) hh fun g env n d v H1 Qd Ed R1 rk p q r => ?_
  obtain ⟨k, rfl, p⟩ := toB_some p
  cases rk
  refine ⟨k, rfl, ?_⟩
  cases k with
  | true => exact tX_in (φ := φb) R1 p q r
  | false => exact q _ n _ H1 p (.bl _) (Frm.refl _ _) R1.dk
theorem dE_or (h : DE X W a φa) (h2 : DE X W (.BoolOp .Or (b :: rest) pos) φb) : DE X W (.BoolOp .Or (a :: b :: rest) pos) (eOr φa φb) := by
  refine PE.imp (pe_or h h2) fun σ H Q hh => ?_
  refine tX_bnd (f := fun x env => bnd (toB x) fun k => if k = true then ret (.bl true) else φb env) hh fun g env n d v H1 Qd Ed R1 rk p q r => ?_
  obtain ⟨k, rfl, p⟩ := toB_some p
  cases rk
  refine ⟨k, rfl, ?_⟩
  cases k with
  | false => exact tX_in (φ := φb) R1 p q r
  | true => exact q _ n _ H1 p (.bl _) (Frm.refl _ _) R1.dk
theorem dE_not (h : DE X W a φa) : DE X W (.UnaryOp .Not a pos) (eNot φa) := by
  refine PE.imp (pe_not h) fun σ H Q hh => ?_
  refine tX_bnd (rel2 := relE X.K) (f := fun x env => bnd (toB x) fun k => ret (D.bl (!k))) hh fun g env n d v H1 Qd Ed R1 rk p q r => ?_
  obtain ⟨k, rfl, p⟩ := toB_some p
  cases rk
  exact ⟨k, rfl, q _ n _ H1 p (.bl _) (Frm.refl _ _) R1.dk⟩
def eIf (t : Env' → M Bool) (a b : Env' → M D) : Env' → M D := fun env => bnd (t env) fun k => if k = true then a env else b env
theorem dE_if (ht : DT X W c ψa) (ha : DE X W a φa) (hb : DE X W b φb) : DE X W (.IfExp c a b pos) (eIf ψa φa φb) := by
  refine PE.imp (pe_ifExp ht ha hb) fun σ H Q hh => ?_
  refine tX_bnd (f := fun k env => if k = true then φa env else φb env) hh fun g env n d k H1 Qd Ed R1 rk p q r => ?_
  have rk' : k = d := rk
  subst rk'
  cases k with
  | true => exact tX_in (φ := φa) R1 p q r
  | false => exact tX_in (φ := φb) R1 p q r
def eChain (o o' : D → D → Option D) (a b c : Env' → M D) : Env' → M D := fun env => bnd (a env) fun x => bnd (b env) fun y => bnd (opt (o x y)) fun z => bnd (toB z) fun k =>
  if k = true then bnd (c env) fun w => opt (o' y w) else ret (.bl false)
theorem chain_in {r r' : R2} {o o' : D → D → Option D} (pu : Pure2 X.K r o) (pu' : Pure2 X.K r' o') {σ : St} {H : Hp} {Q : VK} (hh : tX X.K X.mg W (relE X.K) (eChain o o' φa φb φc) σ H Q) :
    tChain r r' (tX X.K X.mg W (relE X.K) φa) (tX X.K X.mg W (relE X.K) φb) (tX X.K X.mg W (relE X.K) φc) σ H Q := by
  refine tX_bnd (f := fun x env => bnd (φb env) fun y => bnd (opt (o x y)) fun z => bnd (toB z) fun k => if k = true then bnd (φc env) fun w => opt (o' y w) else ret (.bl false)) hh fun g env n dx x H1 Qd Ed R1 rx p q r => ?_
  refine tX_in (φ := φb) R1 p (fun dy n2 y H2 p2 ry f2 k2 => ?_) (fun x n' cls dd H' a b c e => r x n' cls dd H' a b c e)
  obtain ⟨z, e, p3⟩ := opt_some p2
  obtain ⟨k, rfl, p4⟩ := toB_some p3
  have R2 := R1.frm f2 k2
  refine pu (pv g env σ) (kA g) H2 x y dx dy _ _ R2.there (rx.to (f2.ext fun a z => .inl (R1.kp a z))) ry e fun v H3 s rv => ?_
  cases rv
  refine ⟨k, rfl, ?_⟩
  have f3 : Frm g.k H1 H3 := f2.trans (Same.frm s)
  have k3 := k2.same s
  cases k with
  | false => exact q _ n2 _ H3 p4 (.bl _) f3 k3
  | true =>
    refine tX_in (φ := φc) (R2.frm (Same.frm s) k3) p4 (fun dw n4 w H4 p5 rw f4 k4 => ?_) (fun x n' cls dd H' a b c e => r x n' cls dd H' a b (f3.trans c) e)
    obtain ⟨d', e', qd⟩ := opt_some p5
    have R4 := (R2.frm (Same.frm s) k3).frm f4 k4
    refine pu' (pv g env σ) (kA g) H4 y w dy dw d' Q R4.there ((ry.to (Same.ext s)).to (f4.ext fun a z => .inl (R1.kp a z))) rw e' fun v H5 s5 rv => ?_
    exact q d' n4 v H5 qd rv ((f3.trans f4).trans (Same.frm s5)) (k4.same s5)
theorem dE_chain {op op' : CmpOp} {r r' : R2} {o o' : D → D → Option D} (ho : OpR X (compareOp op) r) (pu : Pure2 X.K r o) (ho' : OpR X (compareOp op') r') (pu' : Pure2 X.K r' o') (ha : DE X W a φa) (hb : DE X W b φb) (hc : DE X W c φc)
    (hm : lastMarks [op, op'] [b, c] = false := by with_unfolding_all rfl) : DE X W (.Compare a [op, op'] [b, c] pos) (eChain o o' φa φb φc) :=
  PE.imp (pe_chain ho ho' ha hb hc hm) fun σ H Q hh => chain_in pu pu' hh
theorem dT_chain {op op' : CmpOp} {r r' : R2} {o o' : D → D → Option D} (ho : OpR X (compareOp op) r) (pu : Pure2 X.K r o) (ho' : OpR X (compareOp op') r') (pu' : Pure2 X.K r' o') (ha : DE X W a φa) (hb : DE X W b φb) (hc : DE X W c φc)
    (hm : lastMarks [op, op'] [b, c] = false := by with_unfolding_all rfl) : DT X W (.Compare a [op, op'] [b, c] pos) (eB (eChain o o' φa φb φc)) := by
  refine PT.imp (pt_chain ho ho' ha hb hc hm) fun σ H Q hh => ?_
  refine chain_in (Q := fun x H' => ∃ k, x = .bl k ∧ Q k H') pu pu' ?_
  refine tX_bnd (f := fun x env => toB x) hh fun g env n dx x H1 Qd Ed R1 rx p q r => ?_
  obtain ⟨b, rfl, qd⟩ := toB_some p
  cases rx
  exact ⟨b, rfl, q b n b H1 qd rfl (Frm.refl _ _) R1.dk⟩

/-! ### lists of arguments, displays -/
variable {es : List Expr} {χ : Env' → M (List D)}
def aNil : Env' → M (List D) := fun _ => ret []
def aCons (a : Env' → M D) (r : Env' → M (List D)) : Env' → M (List D) := fun env => bnd (a env) fun x => bnd (r env) fun xs => ret (x :: xs)
theorem dA_nil : DA X W [] aNil := PA.imp pa_nil fun σ H Q ⟨g, n, env, Qd, Ed, R, p, q, r⟩ => q [] n [] H p .nil (Frm.refl _ _) R.dk
theorem dA_cons (ha : DE X W a φa) (hr : DA X W es χ) (hs : starEach (a :: es) X.env = (false, eval a X.env) :: starEach es X.env := by rfl) : DA X W (a :: es) (aCons φa χ) := by
  refine PA.imp (pa_cons ha hr hs) fun σ H Q hh => ?_
  refine tX_bnd (f := fun x env => bnd (χ env) fun xs => ret (x :: xs)) hh fun g env n dx x H1 Qd Ed R1 rx p q r => ?_
  refine tX_in (φ := χ) R1 p (fun ds n2 vs H2 p2 ry f2 k2 => ?_) r
  exact q _ n2 _ H2 p2 (.cons (rx.to (f2.ext fun a z => .inl (R1.kp a z))) ry) f2 k2
def mkT (f : List D → D) (xs : List D) : Option D := if xs.length ≤ big then some (f xs) else none
def eTup (as : Env' → M (List D)) : Env' → M D := fun env => bnd (as env) fun xs => opt (mkT .tup xs)
def eLst (as : Env' → M (List D)) : Env' → M D := fun env => bnd (as env) fun xs => opt (mkT .lst xs)
theorem mkT_some {f : List D → D} {xs : List D} {d : D} (h : mkT f xs = some d) : xs.length ≤ big ∧ d = f xs := by
  unfold mkT at h
  split at h
  · cases h; exact ⟨by assumption, rfl⟩
  · cases h
theorem dE_tup {x1} (ha : DA X W es χ) : DE X W (.Tuple es x1 pos) (eTup χ) := by
  refine PE.imp (pe_tup ha) fun σ H Q hh => ?_
  refine tX_bnd (f := fun xs env => opt (mkT .tup xs)) hh fun g env n ds vs H1 Qd Ed R1 rx p q r => ?_
  obtain ⟨d, e, qd⟩ := opt_some p
  obtain ⟨hl, rfl⟩ := mkT_some e
  refine ⟨by rw [rx.len]; exact hl, fun a hp => q _ n _ _ qd (rep_new_tup R1.there hp rx) (Same.frm (same_upd hp)) (R1.dk.same (same_upd hp))⟩
theorem dE_lst (ha : DA X W es χ) : DE X W (.List es pos) (eLst χ) := by
  refine PE.imp (pe_lst ha) fun σ H Q hh => ?_
  refine tX_bnd (f := fun xs env => opt (mkT .lst xs)) hh fun g env n ds vs H1 Qd Ed R1 rx p q r => ?_
  obtain ⟨d, e, qd⟩ := opt_some p
  obtain ⟨hl, rfl⟩ := mkT_some e
  refine ⟨by rw [rx.len]; exact hl, fun a hp => q _ n _ _ qd (rep_new_lst R1.there hp rx) (Same.frm (same_upd hp)) (R1.dk.same (same_upd hp))⟩

/-! ### built-ins called -/
def PureA (K : PySem.W.Frag) (r : List V → Hp → VK → Prop) (o : List D → Option D) : Prop := ∀ (P : Addr → Prop) (k : KA) (H : Hp) (vs : List V) (ds : List D) (d : D) (Q : VK), (∀ a, P a → H a ≠ none) → RepL K H P k ds vs → o ds = some d →
  (∀ v H', Same H H' → Rep K H' P k d v → Q v H') → r vs H Q
def eCallB (o : List D → Option D) (as : Env' → M (List D)) : Env' → M D := fun env => bnd (as env) fun xs => opt (o xs)
theorem callB_in {r : List V → Hp → VK → Prop} {o : List D → Option D} (pu : PureA X.K r o) {σ : St} {H : Hp} {Q : VK} (hh : tX X.K X.mg W (relE X.K) (eCallB o χ) σ H Q) : tCB r (tX X.K X.mg W (relA X.K) χ) σ H Q := by
  refine tX_bnd (f := fun xs env => opt (o xs)) hh fun g env n ds vs H1 Qd Ed R1 rx p q r => ?_
  obtain ⟨d, e, qd⟩ := opt_some p
  exact pu (pv g env σ) (kA g) H1 vs ds d Q R1.there rx e fun v H' s rv => q d n v H' qd rv (Same.frm s) (R1.dk.same s)
theorem dE_callB {x : Str} {p : Pos} {id : String} {r : List V → Hp → VK → Prop} {o : List D → Option D} (hc : CallR X (.builtin id) r) (pu : PureA X.K r o) (hv : bootBuiltins x = some (.builtin id)) (hm : X.mg x = none) (ha : DA X W (a :: es) χ) (hg : Gl X x := by rfl)
    (hn : x ≠ "__name__" := by decide) (hdb : (x == ("__debug__" : Str)) = false := by decide)
    (he : starEach (a :: es) X.env = (false, eval a X.env) :: starEach es X.env := by rfl) (hpl : (backTo pos (starEach es X.env)).any (·.1) = false := by rfl) : DE X W (.Call (.Name x p) (a :: es) [] pos) (eCallB o χ) :=
  PE.imp (pe_callB hc hg hm hv ha hn hdb he hpl) fun σ H Q hh => callB_in pu hh
theorem dE_callTy {x : Str} {p : Pos} {id : String} {r : List V → Hp → VK → Prop} {o : List D → Option D} (hc : CallR X (.type id) r) (pu : PureA X.K r o) (hv : bootBuiltins x = some (.type id)) (hm : X.mg x = none) (ha : DA X W (a :: es) χ) (hg : Gl X x := by rfl)
    (hn : x ≠ "__name__" := by decide) (hdb : (x == ("__debug__" : Str)) = false := by decide)
    (he : starEach (a :: es) X.env = (false, eval a X.env) :: starEach es X.env := by rfl) (hpl : (backTo pos (starEach es X.env)).any (·.1) = false := by rfl) : DE X W (.Call (.Name x p) (a :: es) [] pos) (eCallB o χ) :=
  PE.imp (pe_callTy hc hg hm hv ha hn hdb he hpl) fun σ H Q hh => callB_in pu hh
end
section
variable {K : PySem.W.Frag}
def oLen : List D → Option D
  | [.tup xs] => some (.int xs.length)
  | [.lst xs] => some (.int xs.length)
  | [.str z] => if z.length ≤ big then some (.int z.length) else none
  | _ => none
theorem pu_len : PureA K (fun xs H Q => ∃ x n, xs = [x] ∧ LenV K x H n ∧ Q (.int n) H) oLen := by
  intro P k H vs ds d Q hP rx e q
  cases rx with
  | nil => cases e
  | cons r1 r2 =>
    cases r2 with
    | cons _ _ => unfold oLen at e; split at e <;> simp_all
    | nil =>
      cases r1 with
      | tup h1 h2 =>
        cases e
        refine ⟨_, _, rfl, .inr ⟨_, h1.sq, rfl⟩, ?_⟩
        rw [h2.len]
        exact q _ H (Same.refl _) (.int _)
      | lst h1 np h2 =>
        cases e
        refine ⟨_, _, rfl, .inl ⟨_, SqL.of h1, rfl⟩, ?_⟩
        rw [h2.len]
        exact q _ H (Same.refl _) (.int _)
      | str z =>
        simp only [oLen] at e
        split at e
        · rename_i hl
          cases e
          exact ⟨_, _, rfl, ⟨hl, rfl⟩, q _ H (Same.refl _) (.int _)⟩
        · cases e
      | _ => cases e
/-- a list of ints | of truth values -/
def ints? : List D → Option (List Int)
  | [] => some []
  | .int i :: r => (ints? r).map (i :: ·)
  | _ :: _ => none
theorem ints?_some : ∀ {ds : List D} {ns : List Int}, ints? ds = some ns → ds = ns.map D.int
  | [], ns, h => by cases h; rfl
  | .int i :: r, ns, h => by
    simp only [ints?] at h
    cases e : ints? r with
    | none => rw [e] at h; cases h
    | some ms =>
      rw [e] at h
      cases h
      rw [ints?_some e]
      rfl
  | .non :: r, ns, h => by simp [ints?] at h
  | .bl _ :: r, ns, h => by simp [ints?] at h
  | .str _ :: r, ns, h => by simp [ints?] at h
  | .tup _ :: r, ns, h => by simp [ints?] at h
  | .lst _ :: r, ns, h => by simp [ints?] at h
  | .emp :: r, ns, h => by simp [ints?] at h
  | .dk :: r, ns, h => by simp [ints?] at h
theorem ints?_map : ∀ ns : List Int, ints? (ns.map D.int) = some ns
  | [] => rfl
  | n :: ns => by simp only [List.map_cons, ints?, ints?_map ns]; rfl
def bls? : List D → Option (List Bool)
  | [] => some []
  | .bl i :: r => (bls? r).map (i :: ·)
  | _ :: _ => none
theorem bls?_some : ∀ {ds : List D} {ns : List Bool}, bls? ds = some ns → ds = ns.map D.bl
  | [], ns, h => by cases h; rfl
  | .bl i :: r, ns, h => by
    simp only [bls?] at h
    cases e : bls? r with
    | none => rw [e] at h; cases h
    | some ms =>
      rw [e] at h
      cases h
      rw [bls?_some e]
      rfl
  | .non :: r, ns, h => by simp [bls?] at h
  | .int _ :: r, ns, h => by simp [bls?] at h
  | .str _ :: r, ns, h => by simp [bls?] at h
  | .tup _ :: r, ns, h => by simp [bls?] at h
  | .lst _ :: r, ns, h => by simp [bls?] at h
  | .emp :: r, ns, h => by simp [bls?] at h
  | .dk :: r, ns, h => by simp [bls?] at h
theorem bls?_map : ∀ ns : List Bool, bls? (ns.map D.bl) = some ns
  | [] => rfl
  | n :: ns => by simp only [List.map_cons, bls?, bls?_map ns]; rfl
/-- the greatest, the least of a list that is not empty -/
def maxL : List Int → Int
  | [] => 0
  | a :: r => r.foldl (fun m x => if m < x then x else m) a
def minL : List Int → Int
  | [] => 0
  | a :: r => r.foldl (fun m x => if x < m then x else m) a
theorem maxF_spec : ∀ (r : List Int) (a : Int), (r.foldl (fun m x => if m < x then x else m) a = a ∨ r.foldl (fun m x => if m < x then x else m) a ∈ r) ∧ a ≤ r.foldl (fun m x => if m < x then x else m) a ∧ ∀ y ∈ r, y ≤ r.foldl (fun m x => if m < x then x else m) a
  | [], a => ⟨.inl rfl, Int.le_refl _, by simp⟩
  | b :: r, a => by
    simp only [List.foldl_cons]
    by_cases h : a < b
    · rw [if_pos h]
      obtain ⟨h1, h2, h3⟩ := maxF_spec r b
      refine ⟨.inr ?_, by omega, ?_⟩
      · rcases h1 with h1 | h1
        · rw [h1]; exact List.mem_cons_self
        · exact List.mem_cons_of_mem _ h1
      · intro y hy
        rcases List.mem_cons.mp hy with rfl | hy
        · exact h2
        · exact h3 y hy
    · rw [if_neg h]
      obtain ⟨h1, h2, h3⟩ := maxF_spec r a
      refine ⟨?_, h2, ?_⟩
      · rcases h1 with h1 | h1
        · exact .inl h1
        · exact .inr (List.mem_cons_of_mem _ h1)
      · intro y hy
        rcases List.mem_cons.mp hy with rfl | hy
        · omega
        · exact h3 y hy
theorem minF_spec : ∀ (r : List Int) (a : Int), (r.foldl (fun m x => if x < m then x else m) a = a ∨ r.foldl (fun m x => if x < m then x else m) a ∈ r) ∧ r.foldl (fun m x => if x < m then x else m) a ≤ a ∧ ∀ y ∈ r, r.foldl (fun m x => if x < m then x else m) a ≤ y
  | [], a => ⟨.inl rfl, Int.le_refl _, by simp⟩
  | b :: r, a => by
    simp only [List.foldl_cons]
    by_cases h : b < a
    · rw [if_pos h]
      obtain ⟨h1, h2, h3⟩ := minF_spec r b
      refine ⟨.inr ?_, by omega, ?_⟩
      · rcases h1 with h1 | h1
        · rw [h1]; exact List.mem_cons_self
        · exact List.mem_cons_of_mem _ h1
      · intro y hy
        rcases List.mem_cons.mp hy with rfl | hy
        · exact h2
        · exact h3 y hy
    · rw [if_neg h]
      obtain ⟨h1, h2, h3⟩ := minF_spec r a
      refine ⟨?_, h2, ?_⟩
      · rcases h1 with h1 | h1
        · exact .inl h1
        · exact .inr (List.mem_cons_of_mem _ h1)
      · intro y hy
        rcases List.mem_cons.mp hy with rfl | hy
        · omega
        · exact h3 y hy
theorem maxL_mem {ns : List Int} (h : ns ≠ []) : maxL ns ∈ ns := by
  cases ns with
  | nil => exact absurd rfl h
  | cons a r =>
    rcases (maxF_spec r a).1 with e | e
    · show r.foldl _ a ∈ _
      rw [e]; exact List.mem_cons_self
    · exact List.mem_cons_of_mem _ e
theorem le_maxL {ns : List Int} {y : Int} (h : y ∈ ns) : y ≤ maxL ns := by
  cases ns with
  | nil => cases h
  | cons a r =>
    rcases List.mem_cons.mp h with rfl | h
    · exact (maxF_spec r _).2.1
    · exact (maxF_spec r a).2.2 y h
theorem minL_mem {ns : List Int} (h : ns ≠ []) : minL ns ∈ ns := by
  cases ns with
  | nil => exact absurd rfl h
  | cons a r =>
    rcases (minF_spec r a).1 with e | e
    · show r.foldl _ a ∈ _
      rw [e]; exact List.mem_cons_self
    · exact List.mem_cons_of_mem _ e
theorem minL_le {ns : List Int} {y : Int} (h : y ∈ ns) : minL ns ≤ y := by
  cases ns with
  | nil => cases h
  | cons a r =>
    rcases List.mem_cons.mp h with rfl | h
    · exact (minF_spec r _).2.1
    · exact (minF_spec r a).2.2 y h
theorem maxL_eq {ns : List Int} {m : Int} (h : m ∈ ns) (hm : ∀ y ∈ ns, y ≤ m) : m = maxL ns := by
  have h1 := le_maxL h
  have h2 := hm _ (maxL_mem (fun e => by rw [e] at h; cases h))
  omega
theorem minL_eq {ns : List Int} {m : Int} (h : m ∈ ns) (hm : ∀ y ∈ ns, m ≤ y) : m = minL ns := by
  have h1 := minL_le h
  have h2 := hm _ (minL_mem (fun e => by rw [e] at h; cases h))
  omega
def oMax1 : List D → Option D
  | [.lst ds] => match ints? ds with
    | some (a :: r) => some (.int (maxL (a :: r)))
    | _ => none
  | _ => none
def oMin1 : List D → Option D
  | [.lst ds] => match ints? ds with
    | some (a :: r) => some (.int (minL (a :: r)))
    | _ => none
  | _ => none
theorem one_lst {H : Hp} {P : Addr → Prop} {k : KA} {ds : List D} {vs : List V} {ns : List Int} (rx : RepL K H P k [.lst ds] vs) (e : ints? ds = some ns) : ∃ a, vs = [.ref a] ∧ H a = some (.lst (ns.map V.int)) := by
  cases rx with
  | cons r1 r2 =>
    cases r2
    cases r1 with
    | lst h1 np h2 =>
      rw [ints?_some e] at h2
      rw [h2.ints] at h1
      exact ⟨_, rfl, h1⟩
theorem pu_max1 : PureA K (rMax K) oMax1 := by
  intro P k H vs ds d Q hP rx e q
  unfold oMax1 at e
  split at e
  · rename_i ds
    split at e
    · rename_i a r h
      cases e
      obtain ⟨l, rfl, h1⟩ := one_lst rx h
      refine ⟨l, a :: r, rfl, SqL.of h1, by simp, fun m hm hle => ?_⟩
      rw [maxL_eq hm hle]
      exact q _ H (Same.refl _) (.int _)
    · cases e
  · cases e
theorem pu_min1 : PureA K (rMin K) oMin1 := by
  intro P k H vs ds d Q hP rx e q
  unfold oMin1 at e
  split at e
  · rename_i ds
    split at e
    · rename_i a r h
      cases e
      obtain ⟨l, rfl, h1⟩ := one_lst rx h
      refine ⟨l, a :: r, rfl, SqL.of h1, by simp, fun m hm hle => ?_⟩
      rw [minL_eq hm hle]
      exact q _ H (Same.refl _) (.int _)
    · cases e
  · cases e
def oSum : List D → Option D
  | [.lst ds] => (ints? ds).map fun ns => .int ns.sum
  | _ => none
theorem pu_sum : PureA K (rSum K) oSum := by
  intro P k H vs ds d Q hP rx e q
  unfold oSum at e
  split at e
  · rename_i ds
    cases h : ints? ds with
    | none => rw [h] at e; cases e
    | some ns =>
      rw [h] at e
      cases e
      obtain ⟨l, rfl, h1⟩ := one_lst rx h
      exact ⟨l, ns, rfl, SqL.of h1, q _ H (Same.refl _) (.int _)⟩
  · cases e
theorem one_bls {H : Hp} {P : Addr → Prop} {k : KA} {ds : List D} {vs : List V} {ns : List Bool} (rx : RepL K H P k [.lst ds] vs) (e : bls? ds = some ns) : ∃ a, vs = [.ref a] ∧ H a = some (.lst (ns.map V.bl)) := by
  cases rx with
  | cons r1 r2 =>
    cases r2
    cases r1 with
    | lst h1 np h2 =>
      rw [bls?_some e] at h2
      rw [h2.bls] at h1
      exact ⟨_, rfl, h1⟩
def oAll : List D → Option D
  | [.lst ds] => (bls? ds).map fun bs => .bl (bs.all id)
  | _ => none
def oAny : List D → Option D
  | [.lst ds] => (bls? ds).map fun bs => .bl (bs.any id)
  | _ => none
theorem pu_all : PureA K (rAll K) oAll := by
  intro P k H vs ds d Q hP rx e q
  unfold oAll at e
  split at e
  · rename_i ds
    cases h : bls? ds with
    | none => rw [h] at e; cases e
    | some ns =>
      rw [h] at e
      cases e
      obtain ⟨l, rfl, h1⟩ := one_bls rx h
      exact ⟨l, ns, rfl, SqL.of h1, q _ H (Same.refl _) (.bl _)⟩
  · cases e
theorem pu_any : PureA K (rAny K) oAny := by
  intro P k H vs ds d Q hP rx e q
  unfold oAny at e
  split at e
  · rename_i ds
    cases h : bls? ds with
    | none => rw [h] at e; cases e
    | some ns =>
      rw [h] at e
      cases e
      obtain ⟨l, rfl, h1⟩ := one_bls rx h
      exact ⟨l, ns, rfl, SqL.of h1, q _ H (Same.refl _) (.bl _)⟩
  · cases e
def oMax2 : List D → Option D
  | [.int i, .int j] => some (.int (if j > i then j else i))
  | _ => none
def oMin2 : List D → Option D
  | [.int i, .int j] => some (.int (if j < i then j else i))
  | _ => none
theorem two_int {H : Hp} {P : Addr → Prop} {k : KA} {i j : Int} {vs : List V} (rx : RepL K H P k [.int i, .int j] vs) : vs = [.int i, .int j] := by
  cases rx with
  | cons r1 r2 =>
    cases r2 with
    | cons r2 r3 =>
      cases r3
      cases r1
      cases r2
      rfl
theorem pu_max2 : PureA K (fun xs H Q => ∃ i j, xs = [.int i, .int j] ∧ Q (.int (if j > i then j else i)) H) oMax2 := by
  intro P k H vs ds d Q hP rx e q
  unfold oMax2 at e
  split at e
  · cases e
    rw [two_int rx]
    exact ⟨_, _, rfl, q _ H (Same.refl _) (.int _)⟩
  · cases e
theorem pu_min2 : PureA K (fun xs H Q => ∃ i j, xs = [.int i, .int j] ∧ Q (.int (if j < i then j else i)) H) oMin2 := by
  intro P k H vs ds d Q hP rx e q
  unfold oMin2 at e
  split at e
  · cases e
    rw [two_int rx]
    exact ⟨_, _, rfl, q _ H (Same.refl _) (.int _)⟩
  · cases e
theorem one_int {H : Hp} {P : Addr → Prop} {k : KA} {i : Int} {vs : List V} (rx : RepL K H P k [.int i] vs) : vs = [.int i] := by
  cases rx with
  | cons r1 r2 =>
    cases r2
    cases r1
    rfl
theorem one_bl {H : Hp} {P : Addr → Prop} {k : KA} {i : Bool} {vs : List V} (rx : RepL K H P k [.bl i] vs) : vs = [.bl i] := by
  cases rx with
  | cons r1 r2 =>
    cases r2
    cases r1
    rfl
def oInt : List D → Option D
  | [.int i] => some (.int i)
  | [.bl b] => some (.int (if b then 1 else 0))
  | _ => none
theorem pu_int : PureA K (fun xs H Q => (∃ i, xs = [.int i] ∧ Q (.int i) H) ∨ ∃ k, xs = [.bl k] ∧ Q (.int (if k then 1 else 0)) H) oInt := by
  intro P k H vs ds d Q hP rx e q
  unfold oInt at e
  split at e
  · cases e
    rw [one_int rx]
    exact .inl ⟨_, rfl, q _ H (Same.refl _) (.int _)⟩
  · cases e
    rw [one_bl rx]
    exact .inr ⟨_, rfl, q _ H (Same.refl _) (.int _)⟩
  · cases e
def oAbs : List D → Option D
  | [.int i] => some (.int (if i < 0 then -i else i))
  | _ => none
theorem pu_abs : PureA K (fun xs H Q => ∃ i, xs = [.int i] ∧ Q (.int (if i < 0 then -i else i)) H) oAbs := by
  intro P k H vs ds d Q hP rx e q
  unfold oAbs at e
  split at e
  · cases e
    rw [one_int rx]
    exact ⟨_, rfl, q _ H (Same.refl _) (.int _)⟩
  · cases e
def oTuple : List D → Option D
  | [.lst xs] => some (.tup xs)
  | [.tup xs] => some (.tup xs)
  | _ => none
def oList : List D → Option D
  | [.lst xs] => some (.lst xs)
  | [.tup xs] => some (.lst xs)
  | _ => none
theorem pu_tuple : PureA K (fun xs H Q => ∃ p ys, xs = [.ref p] ∧ ((SqL K H p ys ∧ ∀ l, H l = none → Q (.ref l) (upd H l (.tup ys))) ∨ (SqT K H p ys ∧ Q (.ref p) H))) oTuple := by
  intro P k H vs ds d Q hP rx e q
  unfold oTuple at e
  split at e
  · cases e
    cases rx with
    | cons r1 r2 =>
      cases r2
      cases r1 with
      | lst h1 np h2 => exact ⟨_, _, rfl, .inl ⟨SqL.of h1, fun l hl => q _ _ (same_upd hl) (rep_new_tup hP hl h2)⟩⟩
  · cases e
    cases rx with
    | cons r1 r2 =>
      cases r2
      cases r1 with
      | tup h1 h2 => exact ⟨_, _, rfl, .inr ⟨h1.sq, q _ _ (Same.refl _) (.tup h1 h2)⟩⟩
  · cases e
theorem pu_list : PureA K (fun xs H Q => ∃ p ys, xs = [.ref p] ∧ (SqL K H p ys ∨ SqT K H p ys) ∧ ∀ l, H l = none → Q (.ref l) (upd H l (.lst ys))) oList := by
  intro P k H vs ds d Q hP rx e q
  unfold oList at e
  split at e
  · cases e
    cases rx with
    | cons r1 r2 =>
      cases r2
      cases r1 with
      | lst h1 np h2 => exact ⟨_, _, rfl, .inl (SqL.of h1), fun l hl => q _ _ (same_upd hl) (rep_new_lst hP hl h2)⟩
  · cases e
    cases rx with
    | cons r1 r2 =>
      cases r2
      cases r1 with
      | tup h1 h2 => exact ⟨_, _, rfl, .inr h1.sq, fun l hl => q _ _ (same_upd hl) (rep_new_lst hP hl h2)⟩
  · cases e
end
section
variable {X : Cx} {W : WY} {a b : Expr} {es : List Expr} {χ : Env' → M (List D)} {p pos : Pos}
theorem boot_max' : bootBuiltins "max" = some (.builtin "max") := by decide +kernel
theorem boot_min' : bootBuiltins "min" = some (.builtin "min") := by decide +kernel
theorem boot_sum' : bootBuiltins "sum" = some (.builtin "sum") := by decide +kernel
theorem boot_all' : bootBuiltins "all" = some (.builtin "all") := by decide +kernel
theorem boot_any' : bootBuiltins "any" = some (.builtin "any") := by decide +kernel
theorem boot_abs' : bootBuiltins "abs" = some (.builtin "abs") := by decide +kernel
theorem boot_len' : bootBuiltins "len" = some (.builtin "len") := by decide +kernel
theorem boot_int' : bootBuiltins "int" = some (.type "int") := by decide +kernel
theorem boot_tuple' : bootBuiltins "tuple" = some (.type "tuple") := by decide +kernel
theorem boot_list' : bootBuiltins "list" = some (.type "list") := by decide +kernel
end
end Den

set_option autoImplicit true
set_option Elab.async false
set_option linter.all false
set_option maxRecDepth 100000
set_option maxHeartbeats 2000000
set_option autoImplicit false
namespace Den
open PySem PySem.Spec PyProof.Rows L2

/-! ### a list or a tuple: t says that it is a tuple -/
def SqK (K : PySem.W.Frag) (t : Bool) (H : Hp) (a : Addr) (xs : List V) : Prop := if t = true then SqT K H a xs else SqL K H a xs
def IsK (t : Bool) (h : Heap) (a : Addr) (items : Array Value) : Prop := if t = true then h.IsTuple a items else h.IsList a items
def ItK (t : Bool) (h : Heap) (it a : Addr) (i : Nat) : Prop := if t = true then h.IsTupleIter it a i else h.IsListIter it a i
def itO (t : Bool) (a : Addr) : Obj := { cls := .type (if t = true then "tuple_iterator" else "list_iterator"), data := .fields #[.ref a, .int 0 0] }
theorem itK_new {t : Bool} {h : Heap} {it a : Addr} (e : h.get? it = some (itO t a)) : ItK t h it a 0 := by
  cases t with
  | true => exact ⟨_, e, rfl, rfl⟩
  | false => exact ⟨_, e, rfl, rfl⟩
theorem ItK.at {t : Bool} {h h' : Heap} {it a : Addr} {i : Nat} (x : ItK t h it a i) (k : ∀ o, h.get? it = some o → h'.get? it = some o) : ItK t h' it a i := by
  cases t with
  | true => exact Heap.IsTupleIter.at x k
  | false => exact Heap.IsListIter.at x k
theorem ItK.obj {t : Bool} {h : Heap} {it a : Addr} {i : Nat} (x : ItK t h it a i) : ∃ o, h.get? it = some o ∧ ∀ v, o.data ≠ .cell v := by
  cases t with
  | true =>
    obtain ⟨o, e, c, d⟩ := x
    exact ⟨o, e, fun v z => by rw [d] at z; cases z⟩
  | false =>
    obtain ⟨o, e, c, d⟩ := x
    exact ⟨o, e, fun v z => by rw [d] at z; cases z⟩
theorem IsK.at {t : Bool} {h h' : Heap} {a : Addr} {xs : Array Value} (x : IsK t h a xs) (k : ∀ o, h.get? a = some o → h'.get? a = some o) : IsK t h' a xs := by
  cases t with
  | true => exact Heap.IsTuple.at x k
  | false => exact Heap.IsList.at x k
theorem IsK.lt {t : Bool} {h : Heap} {a : Addr} {xs : Array Value} (x : IsK t h a xs) : a < h.objs.size := by
  cases t with
  | true => obtain ⟨o, e, _⟩ := x; exact Heap.lt_size e
  | false => obtain ⟨o, e, _⟩ := x; exact Heap.lt_size e
theorem beginsK (t : Bool) (a : Addr) (items : Array Value) : Begins (.ref a) (itO t a) fun h => IsK t h a items := by
  cases t with
  | true => exact begins_tuple a items
  | false => exact begins_list a items
theorem drawsK {prog : Program} {w : World} {A : Around} (hh : A.handled = none) (t : Bool) (it a : Addr) (hne : a ≠ it) (items : Array Value) :
    Draws prog w A it [it, a] items.size (fun i v => items[i]? = some v) (fun i h => ItK t h it a i ∧ IsK t h a items) := by
  cases t with
  | true => exact Draws.tuple hh it a hne items
  | false => exact Draws.list hh it a hne items
section
variable {X : Cx} {pins : List (Addr × Obj)} {σ : L2.St} {H : Hp} {s : Shared} {a : Addr} {xs ys : List V} {t : Bool}
theorem Inv.seqK (I : Inv X pins σ H s) (h : SqK X.K t H a xs) : ∃ its : List Value, Vals xs its ∧ IsK t s.heap a its.toArray := by
  cases t with
  | true =>
    obtain ⟨its, r, p, _⟩ := I.tuple h
    exact ⟨its, r, p⟩
  | false =>
    obtain ⟨its, r, p, _⟩ := I.list h
    exact ⟨its, r, p.isList⟩
theorem Inv.seqK_inj (I : Inv X pins σ H s) (h : SqK X.K t H a xs) (h' : SqK X.K t H a ys) : xs = ys := by
  cases t with
  | true => exact I.tuple_inj h h'
  | false => exact I.list_inj h h'
end

/-! ### zip of two of these -/
def ItzG (K : PySem.W.Frag) (t1 t2 : Bool) (a b : Addr) : It :=
  ⟨fun i H => ∃ (xs ys : List V) (x y : V), SqK K t1 H a xs ∧ SqK K t2 H b ys ∧ xs[i]? = some x ∧ ys[i]? = some y,
    fun i H v H' => ∃ T x y, v = .ref T ∧ H T = none ∧ H' = upd H T (.tup [x, y]) ∧ (∀ xs, SqK K t1 H a xs → xs[i]? = some x) ∧ ∀ ys, SqK K t2 H b ys → ys[i]? = some y,
    fun i H => ∃ xs ys : List V, SqK K t1 H a xs ∧ SqK K t2 H b ys ∧ i ≤ xs.length ∧ i ≤ ys.length ∧ (xs.length = i ∨ ys.length = i)⟩
theorem turn_zipG {P : Program} {w : World} {K : PySem.W.Frag} {elts : List Expr} {kk : Nat} {tpos : Pos} {t1 t2 : Bool} {a b z TI TO i1 i2 : Addr} (S : ZipSep2 z TI TO i1 i2 [i1, a] [i2, b]) (n1 : a ≠ i1) (n2 : b ≠ i2) :
    Turn P w K (.Tuple elts kk tpos) (ItzG K t1 t2 a b) [z, TI, TO, i1, i2] z (fun i h => IsZip h z TI TO .none ∧ IsTupOf2 h TI (.ref i1) (.ref i2) ∧ (∃ x y, IsTupOf2 h TO x y) ∧ ItK t1 h i1 a i ∧ ItK t2 h i2 b i) where
  mem := by simp
  obj := fun i h st c hc => by
    obtain ⟨hz, hTI, ⟨x, y, hTO⟩, h1, h2⟩ := st
    have e' : c = z ∨ c = TI ∨ c = TO ∨ c = i1 ∨ c = i2 := by simpa using hc
    rcases e' with q | q | q | q | q
    · rw [q]; exact ⟨_, hz, fun v q => nomatch q⟩
    · rw [q]; exact ⟨_, hTI, fun v q => nomatch q⟩
    · rw [q]; exact ⟨_, hTO, fun v q => nomatch q⟩
    · rw [q]; exact h1.obj
    · rw [q]; exact h2.obj
  keep := fun i h h' st k => by
    obtain ⟨hz, hTI, ⟨x, y, hTO⟩, h1, h2⟩ := st
    exact ⟨k z (by simp) _ hz, k TI (by simp) _ hTI, ⟨x, y, k TO (by simp) _ hTO⟩, h1.at fun o q => k i1 (by simp) o q, h2.at fun o q => k i2 (by simp) o q⟩
  item := by
    intro X hP hw hK hc i pins s σ H E I hf st hg
    subst hP hw hK
    obtain ⟨hz, hTI, ⟨x0, y0, hTO⟩, h1, h2⟩ := st
    obtain ⟨xs, ys, x, y, hqx, hqy, hx, hy⟩ := hg
    obtain ⟨its, rv, p⟩ := Inv.seqK I hqx
    obtain ⟨its2, rv2, p2⟩ := Inv.seqK I hqy
    obtain ⟨u, hu, ru⟩ := rv.get hx
    obtain ⟨u2, hu2, ru2⟩ := rv2.get hy
    have l1 : i < its.toArray.size := by simpa using (List.getElem?_eq_some_iff.mp hu).1
    have l2 : i < its2.toArray.size := by simpa using (List.getElem?_eq_some_iff.mp hu2).1
    have hzl : z < s.heap.objs.size := Heap.lt_size hz
    have hcal : X.A.in1.handled = none := I.ok.hd hc
    refine wpAny_pyNext_zipD2_item S (drawsK hcal t1 i1 a n1 its.toArray) (drawsK hcal t2 i2 b n2 its2.toArray) hz hTI hTO ⟨h1, p⟩ ⟨h2, p2⟩ l1 l2 fun x1 x2 h' tk e1 e2 z' TO' h1' h2' hT hsz hk => ?_
    have e1' : u = x1 := by
      have q : its.toArray[i]? = some u := by simpa using hu
      rw [e1] at q; exact (Option.some.inj q).symm
    have e2' : u2 = x2 := by
      have q : its2.toArray[i]? = some u2 := by simpa using hu2
      rw [e2] at q; exact (Option.some.inj q).symm
    subst e1' e2'
    refine ⟨_, rfl, wpAny_letOwnedTupleGo_zip (s := { s with heap := h', toks := tk }) z' fun h'' z'' sb => ?_⟩
    have hT2 : h''.get? s.heap.objs.size = some { cls := .type "tuple", data := .seq #[u, u2] } := (sb.2 _ (Nat.ne_of_gt hzl)).trans hT
    have new : ObjOk X.prog X.w (upd H s.heap.objs.size (.tup [x, y])) h'' s.heap.objs.size (.tup [x, y]) :=
      ⟨by show 2 ≤ sizeLine; decide, [u, u2], .cons ru (.cons ru2 .nil), ⟨_, hT2, rfl, _, rfl⟩⟩
    have I1 : Inv X pins σ (upd H s.heap.objs.size (.tup [x, y])) { s with heap := h'', toks := tk } :=
      I.turnedNew (t' := tk) (ch := [z, TI, TO, i1, i2]) (fun c o hb q => (sb.2 c (fun q' => hb (by simp [q']))).trans (hk c o (fun q' => hb (by simp [q'])) (fun q' => hb (by simp [q'])) (fun q' => hb (by simp [q'])) (fun q' => hb (by simp [q'])) q)) hf (Nat.le_refl _) new
    refine ⟨.ref s.heap.objs.size, _, I1, rfl, ⟨_, x, y, rfl, I.hok.fresh (Nat.le_refl _), rfl, fun l hl => by rw [Inv.seqK_inj I hl hqx]; exact hx, fun l hl => by rw [Inv.seqK_inj I hl hqy]; exact hy⟩, ⟨z'', ?_, ⟨u, u2, ?_⟩, ?_, ?_⟩, fun c hcm => ?_⟩
    · exact (sb.2 _ S.TIz).trans (hk _ _ S.TIz S.TITO S.TIi1 S.TIi2 hTI)
    · exact (sb.2 _ S.TOz).trans TO'
    · exact h1'.1.at fun o q => (sb.2 _ S.zi1.symm).trans q
    · exact h2'.1.at fun o q => (sb.2 _ S.zi2.symm).trans q
    · have hlt : c < s.heap.objs.size := by
        have e' : c = z ∨ c = TI ∨ c = TO ∨ c = i1 ∨ c = i2 := by simpa using hcm
        rcases e' with q | q | q | q | q
        · rw [q]; exact hzl
        · rw [q]; exact Heap.lt_size hTI
        · rw [q]; exact Heap.lt_size hTO
        · rw [q]; obtain ⟨_, e1, _⟩ := h1.obj; exact Heap.lt_size e1
        · rw [q]; obtain ⟨_, e2, _⟩ := h2.obj; exact Heap.lt_size e2
      rw [upd_ne (Nat.ne_of_lt hlt)]
      exact (hf c hcm).1
  done := by
    intro X hP hw hK hc i pins s σ H E I hf st hg
    subst hP hw hK
    obtain ⟨hz, hTI, ⟨x0, y0, hTO⟩, h1, h2⟩ := st
    obtain ⟨xs, ys, hqx, hqy, b1, b2, hend⟩ := hg
    obtain ⟨its, rv, p⟩ := Inv.seqK I hqx
    obtain ⟨its2, rv2, p2⟩ := Inv.seqK I hqy
    have l1 : xs.length = its.toArray.size := by simpa using rv.length
    have l2 : ys.length = its2.toArray.size := by simpa using rv2.length
    have hcal : X.A.in1.handled = none := I.ok.hd hc
    exact wpAny_pyNext_zipD2_end S (drawsK hcal t1 i1 a n1 its.toArray) (drawsK hcal t2 i2 b n2 its2.toArray) hz hTI hTO ⟨h1, p⟩ ⟨h2, p2⟩ (by omega) (by omega) (by omega) fun h' tk hk => ⟨rfl, I.turnedL (t' := tk) (ch := [z, TI, TO, i1, i2]) (fun c o hb q =>
      hk c o (fun q' => hb (by simp [q'])) (fun q' => hb (by simp [q'])) (fun q' => hb (by simp [q'])) (fun q' => hb (by simp [q'])) q) hf⟩
  self := fun A i s Q E st h => wpAny_pyIter_zip st.1 h
def iZipG (K : PySem.W.Frag) (ta : TA) : TI := fun σ H R => ta σ H fun vs H1 => ∃ t1 t2 a b xs ys, vs = [.ref a, .ref b] ∧ SqK K t1 H1 a xs ∧ SqK K t2 H1 b ys ∧ R (ItzG K t1 t2 a b) H1
theorem pi_zipG {X : Cx} {e e2 : Expr} {ta : TA} {p pos tpos : Pos} {elts : List Expr} {kk : Nat} (hg : Gl X "zip") (hm : X.mg "zip" = none) (ha : PA X [e, e2] ta)
    (hs : starEach [e, e2] X.env = (false, eval e X.env) :: starEach [e2] X.env := by rfl) (hpl : (backTo pos (starEach [e2] X.env)).any (·.1) = false := by rfl) :
    PI X (.Tuple elts kk tpos) (.Call (.Name "zip" p) [e, e2] [] pos) (iZipG X.K ta) := by
  refine ⟨fun pins s σ H R I h => ?_⟩
  refine Call_ (ld_blt I hg hm PyProof.Rows.boot_zip (PyProof.Rows.callWith_type1 (thn (ha.run pos pins s σ H _ I h) fun us s1 ⟨vs, H1, I1, r1, q1⟩ => ?_) hs hpl))
  obtain ⟨t1, t2, a, b, xs, ys, ex, hqx, hqy, q⟩ := q1
  subst ex
  cases r1 with
  | cons r rr =>
    cases rr with
    | cons r' rr =>
      cases rr
      cases r
      cases r'
      have fresh5 : ∀ c, c ∈ [s1.heap.objs.size + 4, s1.heap.objs.size + 2, s1.heap.objs.size + 3, s1.heap.objs.size, s1.heap.objs.size + 1] → FpOk X pins H1 c := fun c hcm => by
        have e' : c = s1.heap.objs.size + 4 ∨ c = s1.heap.objs.size + 2 ∨ c = s1.heap.objs.size + 3 ∨ c = s1.heap.objs.size ∨ c = s1.heap.objs.size + 1 := by simpa using hcm
        have hle : s1.heap.objs.size ≤ c := by
          rcases e' with z | z | z | z | z
          · rw [z]; exact Nat.le_add_right _ _
          · rw [z]; exact Nat.le_add_right _ _
          · rw [z]; exact Nat.le_add_right _ _
          · rw [z]; exact Nat.le_refl _
          · rw [z]; exact Nat.le_add_right _ _
        exact I1.fpOk hle (I1.hok.fresh hle)
      obtain ⟨its, rv, p1⟩ := Inv.seqK I1 hqx
      obtain ⟨its2, rv2, p2⟩ := Inv.seqK I1 hqy
      have la := p1.lt
      have lb := p2.lt
      refine zip_begins2 (beginsK t1 a its.toArray) (beginsK t2 b its2.toArray) p1 p2 fun h' hz hTI hTO h1 h2 hsz hk => wpAny_pyIter_zip hz ?_
      have I2 : Inv X pins σ H1 { s1 with heap := h' } := I1.kept (t' := s1.toks) hk
      have S : ZipSep2 (s1.heap.objs.size + 4) (s1.heap.objs.size + 2) (s1.heap.objs.size + 3) s1.heap.objs.size (s1.heap.objs.size + 1) [s1.heap.objs.size, a] [s1.heap.objs.size + 1, b] :=
        zip_sep2 (fp1 := [a]) (fp2 := [b]) (fun c hc => by rw [List.mem_singleton.mp hc]; exact la) (fun c hc => by rw [List.mem_singleton.mp hc]; exact lb)
      exact ⟨s1.heap.objs.size + 4, [s1.heap.objs.size + 4, s1.heap.objs.size + 2, s1.heap.objs.size + 3, s1.heap.objs.size, s1.heap.objs.size + 1], _, _, H1, rfl, I2, turn_zipG S (Nat.ne_of_lt la) (Nat.ne_of_lt (Nat.lt_succ_of_lt lb)), ⟨hz, hTI, ⟨_, _, hTO⟩, itK_new h1, itK_new h2⟩, fresh5, q⟩

/-! ### enumerate -/
set_option maxHeartbeats 4000000 in
theorem meets_enumerate_newB1 {v : Value} {o : Obj} {H : Heap → Prop} (B : Begins v o H) :
    Meets (Builtin.«enumerate.__new__» ⟨[.type "enumerate", v], []⟩) (fun _ R s => H s.heap ∧
      R (.ok (.ret (.ref (s.heap.push o).objs.size))) { s with heap := (s.heap.push o).push { cls := .type "enumerate", data := .fields #[.none, .bool false, .ref s.heap.objs.size, rawInt 0, .none, .none] } }) :=
  .of_wp fun prog w A R s h => by
    obtain ⟨hp, g, d, tk, os⟩ := s; obtain ⟨h1, h⟩ := h
    have hsub := sub_enumerate
    have q1 : ∀ {A' : Around} {E : Value → Shared → Prop} {Q : Value → Shared → Prop}, Q (.ref hp.objs.size) ⟨hp.push o, g, d, tk, os⟩ → wpAny (model prog w) A' (pyIter v) Q E ⟨hp, g, d, tk, os⟩ :=
      fun q => B.iter prog w _ _ ⟨hp, g, d, tk, os⟩ _ h1 q
    wp_walk using q1
    refine wpAny_stack_any fun st => wpAny_pure ?_
    split
    · rename_i c _ _ _ _ _
      cases (c == Value.type "enumerate")
      · wp_walk using q1
        exact ⟨_, rfl, h⟩
      · wp_walk using q1
        exact ⟨_, rfl, h⟩
    · wp_walk using q1
      exact ⟨_, rfl, h⟩
theorem enum_begins1 {prog : Program} {w : World} {A : Around} {E : Value → Shared → Prop} {s : Shared} {v : Value} {o : Obj} {H : Heap → Prop} {Q : Value → Shared → Prop} (B : Begins v o H) (h1 : H s.heap)
    (h : ∀ h', IsEnum h' (s.heap.objs.size + 1) s.heap.objs.size 0 .none → h'.get? s.heap.objs.size = some o → h'.objs.size = s.heap.objs.size + 2 →
      (∀ b o, s.heap.get? b = some o → h'.get? b = some o) → Q (.ref (s.heap.objs.size + 1)) { s with heap := h' }) :
    wpAny (model prog w) A (call (.type "enumerate") [v]) Q E s := by
  refine callType_new F.called_enumerate (by decide) (F.typeCall_enumerate_1 _) (F.newCall_enumerate_1 _) (fun obj => F.args_object_init_2 obj _) F.entry_enumerate_new
    (meets_enumerate_newB1 B) ⟨h1, ?_⟩
  have hz : (s.heap.push o).objs.size = s.heap.objs.size + 1 := Heap.size_push ..
  show _ ∧ _
  rw [hz]
  have he : IsEnum ((s.heap.push o).push { cls := .type "enumerate", data := .fields #[.none, .bool false, .ref s.heap.objs.size, rawInt 0, .none, .none] }) (s.heap.objs.size + 1) s.heap.objs.size 0 .none := by
    have := Heap.get?_push_size (s.heap.push o) (o := { cls := .type "enumerate", data := .fields #[.none, .bool false, .ref s.heap.objs.size, rawInt 0, .none, .none] }) rfl
    rw [hz] at this; exact this
  refine ⟨⟨_, he, rfl⟩, h _ he (Heap.get?_push_of_some _ (Heap.get?_push_size _ B.free)) (by rw [Heap.size_push, hz]) fun b o x => Heap.get?_push_of_some _ (Heap.get?_push_of_some _ x)⟩
def IteG (K : PySem.W.Frag) (t : Bool) (a : Addr) : It :=
  ⟨fun i H => ∃ (xs : List V) (x : V), SqK K t H a xs ∧ xs[i]? = some x,
    fun i H v H' => ∃ T x, v = .ref T ∧ H T = none ∧ H' = upd H T (.tup [.int (i : Nat), x]) ∧ ∀ xs, SqK K t H a xs → xs[i]? = some x,
    fun i H => ∃ xs : List V, SqK K t H a xs ∧ xs.length = i⟩
theorem turn_enumG {P : Program} {w : World} {K : PySem.W.Frag} {elts : List Expr} {kk : Nat} {tpos : Pos} {t : Bool} (a e it : Addr) (hei : e ≠ it) (hea : e ≠ a) (hai : a ≠ it) :
    Turn P w K (.Tuple elts kk tpos) (IteG K t a) [e, it] e (fun i h => (∃ old, IsEnum h e it ((i : Nat) : Int) old) ∧ ItK t h it a i) where
  mem := by simp
  obj := fun i h st b hb => by
    obtain ⟨⟨old, he⟩, hi⟩ := st
    have e' : b = e ∨ b = it := by simpa using hb
    rcases e' with z | z
    · rw [z]; exact ⟨_, he, fun v q => nomatch q⟩
    · rw [z]; exact hi.obj
  keep := fun i h h' st k => let ⟨⟨old, he⟩, hi⟩ := st; ⟨⟨old, k e (by simp) _ he⟩, hi.at fun o q => k it (by simp) o q⟩
  item := by
    intro X hP hw hK hc i pins s σ H E I hf st hg
    subst hP hw hK
    obtain ⟨⟨old, he⟩, hit⟩ := st
    obtain ⟨xs, x, hq, hx⟩ := hg
    obtain ⟨its, rv, p⟩ := Inv.seqK I hq
    obtain ⟨u, hu, ru⟩ := rv.get hx
    have hel : e < s.heap.objs.size := Heap.lt_size he
    have hil : it < s.heap.objs.size := by obtain ⟨_, q, _⟩ := hit.obj; exact Heap.lt_size q
    have l1 : i < its.toArray.size := by simpa using (List.getElem?_eq_some_iff.mp hu).1
    have hcal : X.A.in1.handled = none := I.ok.hd hc
    have hef : e ∉ [it, a] := by simp [hei, hea]
    refine wpAny_pyNext_enum_itemC (drawsK hcal t it a hai its.toArray) he ⟨hit, p⟩ l1 hei hef fun x1 h' tk e1 ho hit' hT hsz hk => ?_
    have e1' : u = x1 := by
      have q : its.toArray[i]? = some u := by simpa using hu
      rw [e1] at q; exact (Option.some.inj q).symm
    subst e1'
    refine ⟨_, rfl, wpAny_letOwnedTupleGo_enum (s := { s with heap := h', toks := tk + 1 }) ho fun h'' he' sb => ?_⟩
    have hT2 : h''.get? s.heap.objs.size = some { cls := .type "tuple", data := .seq #[.int i tk, u] } := (sb.2 _ (Nat.ne_of_gt hel)).trans hT
    have new : ObjOk X.prog X.w (upd H s.heap.objs.size (.tup [.int (i : Nat), x])) h'' s.heap.objs.size (.tup [.int (i : Nat), x]) :=
      ⟨by show 2 ≤ sizeLine; decide, [.int i tk, u], .cons ⟨_, rfl⟩ (.cons ru .nil), ⟨_, hT2, rfl, _, rfl⟩⟩
    have I1 : Inv X pins σ (upd H s.heap.objs.size (.tup [.int (i : Nat), x])) { s with heap := h'', toks := tk + 1 } :=
      I.turnedNew (ch := [e, it]) (fun b ob hb q => (sb.2 b (fun z => hb (by simp [z]))).trans (hk b ob (fun z => hb (by simp [z])) (fun z => hb (by simp [z])) q)) hf (Nat.le_refl _) new
    refine ⟨.ref s.heap.objs.size, _, I1, rfl, ⟨_, x, rfl, I.hok.fresh (Nat.le_refl _), rfl, fun ys hy => by rw [Inv.seqK_inj I hy hq]; exact hx⟩, ⟨⟨u, ?_⟩, hit'.1.at fun o q => (sb.2 it (Ne.symm hei)).trans q⟩, fun b hb => ?_⟩
    · have e1 : ((i + 1 : Nat) : Int) = (i : Int) + 1 := by omega
      rw [e1]; exact he'
    · have hb' : b < s.heap.objs.size := by
        have e' : b = e ∨ b = it := by simpa using hb
        rcases e' with z | z
        · rw [z]; exact hel
        · rw [z]; exact hil
      rw [upd_ne (Nat.ne_of_lt hb')]
      exact (hf b hb).1
  done := by
    intro X hP hw hK hc i pins s σ H E I hf st hg
    subst hP hw hK
    obtain ⟨⟨old, he⟩, hit⟩ := st
    obtain ⟨xs, hq, hx⟩ := hg
    obtain ⟨its, rv, p⟩ := Inv.seqK I hq
    have l1 : xs.length = its.toArray.size := by simpa using rv.length
    obtain ⟨f0, f1, f2, f3, f4, f5⟩ := hf it (by simp)
    have hcal : X.A.in1.handled = none := I.ok.hd hc
    have hn : its.toArray.size = i := by omega
    have D := drawsK (prog := X.prog) (w := X.w) hcal t it a hai its.toArray
    rw [hn] at D
    exact wpAny_pyNext_enum_endD D he ⟨hit, p⟩ fun h' eb => ⟨rfl, I.turned (t' := s.toks) (fun b o hb q => eb b o hb q) f0 f1 f3 f4 f5⟩
  self := fun A i s Q E st h => let ⟨⟨_, he⟩, _⟩ := st; wpAny_pyIter_enum he h
def iEnumG (K : PySem.W.Frag) (ta : TA) : TI := fun σ H R => ta σ H fun vs H1 => ∃ t a xs, vs = [.ref a] ∧ SqK K t H1 a xs ∧ R (IteG K t a) H1
theorem pi_enumG {X : Cx} {e : Expr} {ta : TA} {p pos tpos : Pos} {elts : List Expr} {kk : Nat} (hg : Gl X "enumerate") (hm : X.mg "enumerate" = none) (ha : PA X [e] ta) (hs : starEach [e] X.env = [(false, eval e X.env)] := by rfl) :
    PI X (.Tuple elts kk tpos) (.Call (.Name "enumerate" p) [e] [] pos) (iEnumG X.K ta) := by
  refine ⟨fun pins s σ H R I h => ?_⟩
  refine Call_ (ld_blt I hg hm boot_enumerate (PyProof.Rows.callWith_type1 (thn (ha.run pos pins s σ H _ I h) fun us s1 ⟨vs, H1, I1, r1, q1⟩ => ?_) hs rfl))
  obtain ⟨t, a, xs, ex, hq, q⟩ := q1
  subst ex
  cases r1 with
  | cons r rr =>
    cases rr
    cases r
    obtain ⟨its, rv, p'⟩ := Inv.seqK I1 hq
    have la := p'.lt
    refine enum_begins1 (beginsK t a its.toArray) p' fun h' he hit hsz hk => wpAny_pyIter_enum he ?_
    have I2 : Inv X pins σ H1 { s1 with heap := h' } := I1.kept (t' := s1.toks) hk
    refine ⟨s1.heap.objs.size + 1, [s1.heap.objs.size + 1, s1.heap.objs.size], _, _, H1, rfl, I2, turn_enumG a (s1.heap.objs.size + 1) s1.heap.objs.size (Nat.succ_ne_self _) (Nat.ne_of_gt (Nat.lt_succ_of_lt la)) (Nat.ne_of_lt la), ⟨⟨.none, he⟩, itK_new hit⟩, fun b hb => ?_, q⟩
    have e' : b = s1.heap.objs.size + 1 ∨ b = s1.heap.objs.size := by simpa using hb
    have hle : s1.heap.objs.size ≤ b := by
      rcases e' with z | z
      · rw [z]; exact Nat.le_add_right _ _
      · rw [z]; exact Nat.le_refl _
    exact I1.fpOk hle (I1.hok.fresh hle)

/-! ### a list, a tuple, a text walked -/
def iSeq (K : PySem.W.Frag) (tl : TE) : TI := fun σ H R => tl σ H fun x H1 => (∃ a, x = .ref a ∧ ((∃ xs, SqL K H1 a xs) ∧ R (Itl K a) H1 ∨ (∃ xs, SqT K H1 a xs) ∧ R (Itt K a) H1))
theorem pi_seq {X : Cx} {tg l : Expr} {tl : TE} (hl : PE X l tl) : PI X tg l (iSeq X.K tl) := by
  refine ⟨fun pins s σ H R I h => ?_⟩
  refine thn (hl.run pins s σ H _ I h) fun v s1 ⟨x, H1, I1, r1, q1⟩ => ?_
  obtain ⟨a, e, ⟨⟨xs, hq⟩, q⟩ | ⟨⟨xs, hq⟩, q⟩⟩ := q1
  · subst e
    cases r1
    obtain ⟨its, rv, p, hz⟩ := I1.list hq
    refine wpAny_pyIter_list p.isList ?_
    refine ⟨s1.heap.objs.size, [s1.heap.objs.size], _, _, H1, rfl, I1.kept (t' := s1.toks) fun b o e => Heap.get?_push_of_some _ e, turn_list a _, ⟨_, Heap.get?_push_size _ rfl, rfl, rfl⟩, fun b hb => ?_, q⟩
    have e : b = s1.heap.objs.size := by simpa using hb
    subst e
    exact I1.fpOk (Nat.le_refl _) (I1.hok.fresh (Nat.le_refl _))
  · subst e
    cases r1
    obtain ⟨its, rv, p, hz⟩ := I1.tuple hq
    refine wpAny_pyIter_tuple (show s1.heap.IsTuple a its.toArray from p) ?_
    refine ⟨s1.heap.objs.size, [s1.heap.objs.size], _, _, H1, rfl, I1.kept (t' := s1.toks) fun b o e => Heap.get?_push_of_some _ e, turn_tuple a _, ⟨_, Heap.get?_push_size _ rfl, rfl, rfl⟩, fun b hb => ?_, q⟩
    have e : b = s1.heap.objs.size := by simpa using hb
    subst e
    exact I1.fpOk (Nat.le_refl _) (I1.hok.fresh (Nat.le_refl _))

/-! ### walks of data -/
structure WalkD (K : PySem.W.Frag) (k : KA) (J : It) (ds : List D) (Gd : (Addr → Prop) → Hp → Prop) : Prop where
  stab : ∀ P H P' H', Gd P H → Ext P H P' H' → Gd P' H'
  goes : ∀ i P H, i < ds.length → Gd P H → J.go i H
  stops : ∀ P H, Gd P H → J.stop ds.length H
  yields : ∀ i P H x H', i < ds.length → (∀ a, P a → H a ≠ none) → Gd P H → J.yld i H x H' → Same H H' ∧ ∃ d, ds[i]? = some d ∧ Rep K H' P k d x
section
variable {K : PySem.W.Frag} {k : KA}
theorem walkD_list (a : Addr) (ds : List D) : WalkD K k (Itl K a) ds (fun P H => ∃ xs, H a = some (.lst xs) ∧ ¬ P a ∧ RepL K H P k ds xs) where
  stab := fun P H P' H' ⟨xs, h1, h2, h3⟩ e => ⟨xs, e.keep _ _ h1 h2, e.notP h1 h2, h3.to e⟩
  goes := fun i P H hi ⟨xs, h1, h2, h3⟩ => ⟨xs, xs[i]'(by rw [h3.len]; exact hi), SqL.of h1, by simp⟩
  stops := fun P H ⟨xs, h1, h2, h3⟩ => ⟨xs, SqL.of h1, by rw [h3.len]; exact Nat.le_refl _⟩
  yields := fun i P H x H' hi hP ⟨xs, h1, h2, h3⟩ ⟨e, y⟩ => by
    subst e
    obtain ⟨d, q1, q2⟩ := h3.getV (y xs (SqL.of h1))
    exact ⟨Same.refl _, d, q1, q2⟩
theorem walkD_tup (a : Addr) (ds : List D) : WalkD K k (Itt K a) ds (fun P H => ∃ xs, TupAt K H P a xs ∧ RepL K H P k ds xs) where
  stab := fun P H P' H' ⟨xs, h1, h3⟩ e => ⟨xs, h1.ext e, h3.to e⟩
  goes := fun i P H hi ⟨xs, h1, h3⟩ => ⟨xs, xs[i]'(by rw [h3.len]; exact hi), h1.sq, by simp⟩
  stops := fun P H ⟨xs, h1, h3⟩ => ⟨xs, h1.sq, by rw [h3.len]; exact Nat.le_refl _⟩
  yields := fun i P H x H' hi hP ⟨xs, h1, h3⟩ ⟨e, y⟩ => by
    subst e
    obtain ⟨d, q1, q2⟩ := h3.getV (y xs h1.sq)
    exact ⟨Same.refl _, d, q1, q2⟩
/-- lo, lo + 1, .. -/
def rngD (lo : Int) (n : Nat) : List D := (List.range n).map fun i => D.int (lo + (i : Nat))
theorem walkD_rng (lo : Int) (n : Nat) : WalkD K k (Itr lo n) (rngD lo n) (fun _ _ => True) where
  stab := fun _ _ _ _ _ _ => trivial
  goes := fun i P H hi _ => by
    show i < n
    simpa [rngD] using hi
  stops := fun P H _ => by
    show n ≤ _
    simp [rngD]
  yields := fun i P H x H' hi hP _ ⟨e, y⟩ => by
    subst e y
    have hi' : i < n := by simpa [rngD] using hi
    exact ⟨Same.refl _, .int (lo + i), by simp [rngD, hi'], .int _⟩
def SqD (K : PySem.W.Frag) (k : KA) (t : Bool) (P : Addr → Prop) (H : Hp) (a : Addr) (ds : List D) : Prop := ∃ xs, RepL K H P k ds xs ∧ if t = true then TupAt K H P a xs else H a = some (.lst xs) ∧ ¬ P a
theorem SqD.ext {t : Bool} {P P' : Addr → Prop} {H H' : Hp} {a : Addr} {ds : List D} (h : SqD K k t P H a ds) (e : Ext P H P' H') : SqD K k t P' H' a ds := by
  obtain ⟨xs, h1, h2⟩ := h
  refine ⟨xs, h1.to e, ?_⟩
  cases t with
  | true => exact TupAt.ext h2 e
  | false =>
    obtain ⟨h2, h3⟩ : H a = some (.lst xs) ∧ ¬ P a := h2
    exact ⟨e.keep _ _ h2 h3, e.notP h2 h3⟩
theorem SqD.sq {t : Bool} {P : Addr → Prop} {H : Hp} {a : Addr} {ds : List D} (h : SqD K k t P H a ds) : ∃ xs, SqK K t H a xs ∧ RepL K H P k ds xs := by
  obtain ⟨xs, h1, h2⟩ := h
  cases t with
  | true => exact ⟨xs, TupAt.sq h2, h1⟩
  | false =>
    obtain ⟨h2, h3⟩ : H a = some (.lst xs) ∧ ¬ P a := h2
    exact ⟨xs, SqL.of h2, h1⟩
def zipD (xs ys : List D) : List D := List.zipWith (fun x y => D.tup [x, y]) xs ys
theorem walkD_zip (t1 t2 : Bool) (a b : Addr) (ds es : List D) : WalkD K k (ItzG K t1 t2 a b) (zipD ds es) (fun P H => SqD K k t1 P H a ds ∧ SqD K k t2 P H b es) where
  stab := fun P H P' H' h e => ⟨h.1.ext e, h.2.ext e⟩
  goes := fun i P H hi ⟨h1, h2⟩ => by
    obtain ⟨xs, q1, r1⟩ := h1.sq
    obtain ⟨ys, q2, r2⟩ := h2.sq
    have hi' : i < ds.length ∧ i < es.length := by simpa [zipD, Nat.lt_min] using hi
    exact ⟨xs, ys, xs[i]'(by rw [r1.len]; exact hi'.1), ys[i]'(by rw [r2.len]; exact hi'.2), q1, q2, by simp, by simp⟩
  stops := fun P H ⟨h1, h2⟩ => by
    obtain ⟨xs, q1, r1⟩ := h1.sq
    obtain ⟨ys, q2, r2⟩ := h2.sq
    have l1 := r1.len
    have l2 := r2.len
    refine ⟨xs, ys, q1, q2, ?_, ?_, ?_⟩ <;> simp only [zipD, List.length_zipWith] <;> omega
  yields := fun i P H x H' hi hP ⟨h1, h2⟩ ⟨T, x1, x2, e1, hT, e2, y1, y2⟩ => by
    obtain ⟨xs, q1, r1⟩ := h1.sq
    obtain ⟨ys, q2, r2⟩ := h2.sq
    obtain ⟨d1, f1, g1⟩ := r1.getV (y1 xs q1)
    obtain ⟨d2, f2, g2⟩ := r2.getV (y2 ys q2)
    subst e1 e2
    refine ⟨same_upd hT, .tup [d1, d2], ?_, rep_new_tup hP hT (.cons g1 (.cons g2 .nil))⟩
    simp [zipD, List.getElem?_zipWith, f1, f2]
def enumD (xs : List D) : List D := (List.range xs.length).zipWith (fun i x => D.tup [.int (i : Nat), x]) xs
theorem walkD_enum (t : Bool) (a : Addr) (ds : List D) : WalkD K k (IteG K t a) (enumD ds) (fun P H => SqD K k t P H a ds) where
  stab := fun P H P' H' h e => h.ext e
  goes := fun i P H hi h1 => by
    obtain ⟨xs, q1, r1⟩ := h1.sq
    have hi' : i < ds.length := by simpa [enumD] using hi
    exact ⟨xs, xs[i]'(by rw [r1.len]; exact hi'), q1, by simp⟩
  stops := fun P H h1 => by
    obtain ⟨xs, q1, r1⟩ := h1.sq
    have l1 := r1.len
    exact ⟨xs, q1, by simp only [enumD, List.length_zipWith, List.length_range]; omega⟩
  yields := fun i P H x H' hi hP h1 ⟨T, x1, e1, hT, e2, y1⟩ => by
    obtain ⟨xs, q1, r1⟩ := h1.sq
    obtain ⟨d1, f1, g1⟩ := r1.getV (y1 xs q1)
    have hi' : i < ds.length := by simpa [enumD] using hi
    subst e1 e2
    refine ⟨same_upd hT, .tup [.int (i : Nat), d1], ?_, rep_new_tup hP hT (.cons (.int _) (.cons g1 .nil))⟩
    have e3 : (List.range ds.length)[i]? = some i := by simp [hi']
    simp only [enumD, List.getElem?_zipWith, f1, e3]
end

/-! ### the walk's judgement -/
section
variable {X : Cx} {W : WY} {a b c : Expr} {es : List Expr} {φa φb : Env' → M D} {χ : Env' → M (List D)} {p pos tpos : Pos} {tg : Expr}
def tI (K : PySem.W.Frag) (mg : Str → Option Value) (W : WY) (φ : Env' → M (List D)) : TI := fun σ H R => ∃ (g : Gh W.ex) (n : Nat) (env : Env') (Qd : List D → Nat → Prop) (Ed : Exc → Nat → Prop), Rl K g H σ n env ∧ φ env n Qd Ed ∧
  (∀ ds n' J H1 Gd, Qd ds n' → WalkD K (kA g) J ds Gd → Gd (pv g env σ) H1 → Frm g.k H H1 → DkOk H1 g.k n' → R J H1) ∧
  (∀ x n' cls dd H', Ed x n' → ExR K mg H' (pv g env σ) (kA g) x cls dd → Frm g.k H H' → DkOk H' g.k n' → W.w cls dd σ H')
def DI (X : Cx) (W : WY) (tg e : Expr) (φ : Env' → M (List D)) : Prop := PI X tg e (tI X.K X.mg W φ)
theorem PI.imp {X : Cx} {tg e : Expr} {t u : TI} (h : PI X tg e t) (i : ∀ σ H R, u σ H R → t σ H R) : PI X tg e u := ⟨fun p s σ H R I q => h.run p s σ H R I (i σ H R q)⟩
def itL : D → Option (List D)
  | .lst xs => some xs
  | .tup xs => some xs
  | _ => none
def iEl (a : Env' → M D) : Env' → M (List D) := fun env => bnd (a env) fun x => opt (itL x)
/-- as tX_bnd, the end a walk -/
theorem tI_bnd {K : PySem.W.Frag} {mg : Str → Option Value} {W : WY} {α β : Type} {rel : Gh W.ex → Env' → St → α → β → Hp → Prop} {φ : Env' → M α} {f : α → M (List D)} {σ : St} {H : Hp} {R : It → Hp → Prop} {k : β → Hp → Prop}
    (h : tI K mg W (fun env => bnd (φ env) fun x => f x) σ H R)
    (hk : ∀ g env n d v H1 Qd Ed, Rl K g H1 σ n env → rel g env σ d v H1 → f d n Qd Ed →
      (∀ ds n' J H' Gd, Qd ds n' → WalkD K (kA g) J ds Gd → Gd (pv g env σ) H' → Frm g.k H1 H' → DkOk H' g.k n' → R J H') → k v H1) :
    tX K mg W rel φ σ H k := by
  obtain ⟨g, n, env, Qd, Ed, R', p, q, r⟩ := h
  refine ⟨g, n, env, _, Ed, R', p, fun d n' v H' hd hr hf hdk => ?_, fun x n' cls dd H' he hx hf hdk => r x n' cls dd H' he hx hf hdk⟩
  exact hk g env n' d v H' Qd Ed (R'.frm hf hdk) hr hd fun ds n2 J H2 Gd a b c d e => q ds n2 J H2 Gd a b c (hf.trans d) e
theorem dI_seq (ha : DE X W a φa) : DI X W tg a (iEl φa) := by
  refine PI.imp (pi_seq ha) fun σ H R hh => ?_
  refine tI_bnd hh fun g env n d v H1 Qd Ed R1 rx p q => ?_
  obtain ⟨ds, e, qd⟩ := opt_some p
  unfold itL at e
  split at e
  · cases e
    cases rx with
    | lst h1 np h2 => exact ⟨_, rfl, .inl ⟨⟨_, SqL.of h1⟩, q _ n _ H1 _ qd (walkD_list _ _) ⟨_, h1, np, h2⟩ (Frm.refl _ _) R1.dk⟩⟩
  · cases e
    cases rx with
    | tup h1 h2 => exact ⟨_, rfl, .inr ⟨⟨_, h1.sq⟩, q _ n _ H1 _ qd (walkD_tup _ _) ⟨_, h1, h2⟩ (Frm.refl _ _) R1.dk⟩⟩
  · cases e
def rng1 : List D → Option (List D)
  | [.int j] => if -(2 ^ 62) ≤ j ∧ j < 2 ^ 62 then some (rngD 0 j.toNat) else none
  | _ => none
def rng2 : List D → Option (List D)
  | [.int i, .int j] => if (-(2 ^ 62) ≤ i ∧ i < 2 ^ 62 ∧ -(2 ^ 62) ≤ j ∧ j < 2 ^ 62) then some (rngD i (j - i).toNat) else none
  | _ => none
def iAs (f : List D → Option (List D)) (as : Env' → M (List D)) : Env' → M (List D) := fun env => bnd (as env) fun xs => opt (f xs)
theorem dI_rng1 (hm : X.mg "range" = none) (ha : DA X W [a] χ) (hg : Gl X "range" := by rfl) (hs : starEach [a] X.env = [(false, eval a X.env)] := by rfl) : DI X W tg (.Call (.Name "range" p) [a] [] pos) (iAs rng1 χ) := by
  refine PI.imp (pi_range1 hg hm ha hs) fun σ H R hh => ?_
  refine tI_bnd hh fun g env n d v H1 Qd Ed R1 rx p q => ?_
  obtain ⟨ds, e, qd⟩ := opt_some p
  unfold rng1 at e
  split at e
  · split at e
    · rename_i hb
      cases e
      have e2 := one_int rx
      exact ⟨_, e2, hb.1, hb.2, q _ n _ H1 _ qd (walkD_rng _ _) trivial (Frm.refl _ _) R1.dk⟩
    · cases e
  · cases e
theorem dI_rng2 (hm : X.mg "range" = none) (ha : DA X W [a, b] χ) (hg : Gl X "range" := by rfl) (hs : starEach [a, b] X.env = [(false, eval a X.env), (false, eval b X.env)] := by rfl) (hs2 : starEach [b] X.env = [(false, eval b X.env)] := by rfl) : DI X W tg (.Call (.Name "range" p) [a, b] [] pos) (iAs rng2 χ) := by
  refine PI.imp (pi_range2 hg hm ha hs hs2) fun σ H R hh => ?_
  refine tI_bnd hh fun g env n d v H1 Qd Ed R1 rx p q => ?_
  obtain ⟨ds, e, qd⟩ := opt_some p
  unfold rng2 at e
  split at e
  · split at e
    · rename_i hb
      cases e
      have e2 := two_int rx
      exact ⟨_, _, e2, hb, q _ n _ H1 _ qd (walkD_rng _ _) trivial (Frm.refl _ _) R1.dk⟩
    · cases e
  · cases e
theorem itL_sqD {K : PySem.W.Frag} {k : KA} {P : Addr → Prop} {H : Hp} {d : D} {v : V} {ds : List D} (r : Rep K H P k d v) (h : itL d = some ds) : ∃ t a, v = .ref a ∧ SqD K k t P H a ds := by
  unfold itL at h
  split at h
  · cases h
    cases r with
    | lst h1 np h2 => exact ⟨false, _, rfl, _, h2, h1, np⟩
  · cases h
    cases r with
    | tup h1 h2 => exact ⟨true, _, rfl, _, h2, h1⟩
  · cases h
def zip2 : List D → Option (List D)
  | [x, y] => (itL x).bind fun xs => (itL y).map fun ys => zipD xs ys
  | _ => none
theorem dI_zip {elts : List Expr} {kk : Nat} (hm : X.mg "zip" = none) (ha : DA X W [a, b] χ) (hg : Gl X "zip" := by rfl) (hs : starEach [a, b] X.env = (false, eval a X.env) :: starEach [b] X.env := by rfl) (hpl : (backTo pos (starEach [b] X.env)).any (·.1) = false := by rfl) :
    DI X W (.Tuple elts kk tpos) (.Call (.Name "zip" p) [a, b] [] pos) (iAs zip2 χ) := by
  refine PI.imp (pi_zipG hg hm ha hs hpl) fun σ H R hh => ?_
  refine tI_bnd hh fun g env n d v H1 Qd Ed R1 rx p q => ?_
  obtain ⟨ds, e, qd⟩ := opt_some p
  unfold zip2 at e
  split at e
  · rename_i x y
    cases h1 : itL x with
    | none => rw [h1] at e; cases e
    | some xs =>
      rw [h1] at e
      cases h2 : itL y with
      | none => rw [h2] at e; cases e
      | some ys =>
        rw [h2] at e
        cases e
        cases rx with
        | cons r1 rr =>
          cases rr with
          | cons r2 rr =>
            cases rr
            obtain ⟨t1, a1, rfl, s1⟩ := itL_sqD r1 h1
            obtain ⟨t2, a2, rfl, s2⟩ := itL_sqD r2 h2
            obtain ⟨vs1, q1, _⟩ := s1.sq
            obtain ⟨vs2, q2, _⟩ := s2.sq
            exact ⟨t1, t2, a1, a2, vs1, vs2, rfl, q1, q2, q _ n _ H1 _ qd (walkD_zip t1 t2 a1 a2 xs ys) ⟨s1, s2⟩ (Frm.refl _ _) R1.dk⟩
  · cases e
def enum1 : List D → Option (List D)
  | [x] => (itL x).map enumD
  | _ => none
theorem dI_enum {elts : List Expr} {kk : Nat} (hm : X.mg "enumerate" = none) (ha : DA X W [a] χ) (hg : Gl X "enumerate" := by rfl) (hs : starEach [a] X.env = [(false, eval a X.env)] := by rfl) :
    DI X W (.Tuple elts kk tpos) (.Call (.Name "enumerate" p) [a] [] pos) (iAs enum1 χ) := by
  refine PI.imp (pi_enumG hg hm ha hs) fun σ H R hh => ?_
  refine tI_bnd hh fun g env n d v H1 Qd Ed R1 rx p q => ?_
  obtain ⟨ds, e, qd⟩ := opt_some p
  unfold enum1 at e
  split at e
  · rename_i x
    cases h1 : itL x with
    | none => rw [h1] at e; cases e
    | some xs =>
      rw [h1] at e
      cases e
      cases rx with
      | cons r1 rr =>
        cases rr
        obtain ⟨t1, a1, rfl, s1⟩ := itL_sqD r1 h1
        obtain ⟨vs1, q1, _⟩ := s1.sq
        exact ⟨t1, a1, vs1, rfl, q1, q _ n _ H1 _ qd (walkD_enum t1 a1 xs) s1 (Frm.refl _ _) R1.dk⟩
  · cases e
end
end Den

set_option autoImplicit true
set_option Elab.async false
set_option linter.all false
set_option maxRecDepth 100000
set_option maxHeartbeats 2000000
set_option autoImplicit false
namespace Den
open PySem PySem.Spec PyProof.Rows L2

/-! ### targets -/
inductive Tg where
  | nm (i : Nat) | tp (ts : List Tg)
mutual
def asg : Tg → D → Env' → Option Env'
  | .nm i, d, env => if i < env.length then some (env.set i (.sh d)) else none
  | .tp ts, .tup ds, env => asgL ts ds env
  | .tp ts, .lst ds, env => asgL ts ds env
  | .tp _, _, _ => none
def asgL : List Tg → List D → Env' → Option Env'
  | [], [], env => some env
  | t :: ts, d :: ds, env => (asg t d env).bind fun e => asgL ts ds e
  | _, _, _ => none
end
mutual
def Tg.slots : Tg → List Nat
  | .nm i => [i]
  | .tp ts => slotsL ts
def slotsL : List Tg → List Nat
  | [] => []
  | t :: ts => t.slots ++ slotsL ts
end
theorem asgL_len : ∀ {ts : List Tg} {ds : List D} {env env' : Env'}, asgL ts ds env = some env' → ts.length = ds.length
  | [], [], _, _, _ => rfl
  | [], _ :: _, _, _, h => by simp [asgL] at h
  | _ :: _, [], _, _, h => by simp [asgL] at h
  | t :: ts, d :: ds, env, env', h => by
    simp only [asgL] at h
    cases e : asg t d env with
    | none => rw [e] at h; cases h
    | some e1 =>
      rw [e] at h
      have := asgL_len (env := e1) h
      simp [this]
mutual
theorem asg_len : ∀ {t : Tg} {d : D} {env env' : Env'}, asg t d env = some env' → env'.length = env.length
  | .nm i, d, env, env', h => by
    simp only [asg] at h
    split at h
    · cases h; simp
    · cases h
  | .tp ts, .tup ds, env, env', h => asgL_elen (ts := ts) (ds := ds) (by simpa [asg] using h)
  | .tp ts, .lst ds, env, env', h => asgL_elen (ts := ts) (ds := ds) (by simpa [asg] using h)
  | .tp ts, .non, env, env', h => by simp [asg] at h
  | .tp ts, .bl _, env, env', h => by simp [asg] at h
  | .tp ts, .int _, env, env', h => by simp [asg] at h
  | .tp ts, .str _, env, env', h => by simp [asg] at h
  | .tp ts, .emp, env, env', h => by simp [asg] at h
  | .tp ts, .dk, env, env', h => by simp [asg] at h
  | .tp ts, .exc _ _ _, env, env', h => by simp [asg] at h
theorem asgL_elen : ∀ {ts : List Tg} {ds : List D} {env env' : Env'}, asgL ts ds env = some env' → env'.length = env.length
  | [], [], env, env', h => by simp [asgL] at h; rw [h]
  | [], _ :: _, _, _, h => by simp [asgL] at h
  | _ :: _, [], _, _, h => by simp [asgL] at h
  | t :: ts, d :: ds, env, env', h => by
    simp only [asgL] at h
    cases e : asg t d env with
    | none => rw [e] at h; cases h
    | some e1 =>
      rw [e] at h
      rw [asgL_elen (ts := ts) (ds := ds) (env := e1) h, asg_len e]
end
mutual
theorem asg_get : ∀ {t : Tg} {d : D} {env env' : Env'} {j : Nat}, asg t d env = some env' → j ∉ t.slots → env[j]? = env'[j]?
  | .nm i, d, env, env', j, h, hj => by
    simp only [asg] at h
    split at h
    · cases h
      rw [List.getElem?_set_ne (fun z => hj (by simp [Tg.slots, z]))]
    · cases h
  | .tp ts, .tup ds, env, env', j, h, hj => asgL_get (ts := ts) (ds := ds) (by simpa [asg] using h) (by simpa [Tg.slots] using hj)
  | .tp ts, .lst ds, env, env', j, h, hj => asgL_get (ts := ts) (ds := ds) (by simpa [asg] using h) (by simpa [Tg.slots] using hj)
  | .tp ts, .non, env, env', j, h, hj => by simp [asg] at h
  | .tp ts, .bl _, env, env', j, h, hj => by simp [asg] at h
  | .tp ts, .int _, env, env', j, h, hj => by simp [asg] at h
  | .tp ts, .str _, env, env', j, h, hj => by simp [asg] at h
  | .tp ts, .emp, env, env', j, h, hj => by simp [asg] at h
  | .tp ts, .dk, env, env', j, h, hj => by simp [asg] at h
  | .tp ts, .exc _ _ _, env, env', j, h, hj => by simp [asg] at h
theorem asgL_get : ∀ {ts : List Tg} {ds : List D} {env env' : Env'} {j : Nat}, asgL ts ds env = some env' → j ∉ slotsL ts → env[j]? = env'[j]?
  | [], [], env, env', j, h, hj => by simp [asgL] at h; rw [h]
  | [], _ :: _, _, _, _, h, _ => by simp [asgL] at h
  | _ :: _, [], _, _, _, h, _ => by simp [asgL] at h
  | t :: ts, d :: ds, env, env', j, h, hj => by
    simp only [asgL] at h
    simp only [slotsL, List.mem_append, not_or] at hj
    cases e : asg t d env with
    | none => rw [e] at h; cases h
    | some e1 =>
      rw [e] at h
      rw [asg_get e hj.1, asgL_get (ts := ts) (ds := ds) (env := e1) h hj.2]
end
section
variable {K : PySem.W.Frag}
/-- a slot is given a value -/
theorem Rl.set {ex : EX} {g : Gh ex} {H : Hp} {σ : St} {n : Nat} {env : Env'} {i : Nat} {d : D} {v : V} (R : Rl K g H σ n env) (hi : i < env.length) (r : Rep K H (pv g env σ) (kA g) d v) :
    Rl K g H (σ.set i (some v)) n (env.set i (.sh d)) ∧ ∀ a, ow (env.set i (.sh d)) (σ.set i (some v)) a → ow env σ a := by
  have hs : i < σ.length := by rw [← R.len]; exact hi
  have o : ∀ a, ow (env.set i (.sh d)) (σ.set i (some v)) a → ow env σ a := fun a ⟨j, ds, h1, h2⟩ => by
    by_cases e : i = j
    · subst e
      rw [List.getElem?_set_self hi] at h1
      cases h1
    · rw [List.getElem?_set_ne e] at h1 h2
      exact ⟨j, ds, h1, h2⟩
  have x : Ext (pv g env σ) H (pv g (env.set i (.sh d)) (σ.set i (some v))) H := ⟨fun _ _ h _ => h, fun a h => by
    rcases h with h | h
    · exact .inl (.inl h)
    · exact .inl (.inr (o a h))⟩
  refine ⟨⟨by simp [R.len], fun j e h => ?_, fun j ds h => ?_, fun j j' ds es a h1 h2 h3 h4 => ?_, R.dk, R.p0, R.kp⟩, o⟩
  · by_cases q : i = j
    · subst q
      rw [List.getElem?_set_self hi] at h
      cases h
      exact ⟨v, by rw [List.getElem?_set_self hs], r.to x⟩
    · rw [List.getElem?_set_ne q] at h
      obtain ⟨u, h1, h2⟩ := R.sh j e h
      exact ⟨u, by rw [List.getElem?_set_ne q]; exact h1, h2.to x⟩
  · by_cases q : i = j
    · subst q
      rw [List.getElem?_set_self hi] at h
      cases h
    · rw [List.getElem?_set_ne q] at h
      obtain ⟨a, xs, h1, h2, h3, h4⟩ := R.own j ds h
      exact ⟨a, xs, by rw [List.getElem?_set_ne q]; exact h1, h2, h3, h4.to x⟩
  · by_cases q : i = j
    · subst q
      rw [List.getElem?_set_self hi] at h1
      cases h1
    · by_cases q' : i = j'
      · subst q'
        rw [List.getElem?_set_self hi] at h2
        cases h2
      · rw [List.getElem?_set_ne q] at h1 h3
        rw [List.getElem?_set_ne q'] at h2 h4
        exact R.nd j j' ds es a h1 h2 h3 h4
theorem ow_ext {ex : EX} {g : Gh ex} {H : Hp} {env env' : Env'} {σ σ' : St} (o : ∀ a, ow env' σ' a → ow env σ a) : Ext (pv g env σ) H (pv g env' σ') H := ⟨fun _ _ h _ => h, fun a h => by
  rcases h with h | h
  · exact .inl (.inl h)
  · exact .inl (.inr (o a h))⟩
def tG (K : PySem.W.Frag) (t : Tg) : TG := fun v σ H Q => ∃ (ex : EX) (g : Gh ex) (n : Nat) (env : Env') (d : D) (env' : Env'), Rl K g H σ n env ∧ Rep K H (pv g env σ) (kA g) d v ∧ asg t d env = some env' ∧
  ∀ σ', Rl K g H σ' n env' → (∀ a, ow env' σ' a → ow env σ a) → (∀ j, j ∉ t.slots → σ'[j]? = σ[j]?) → Q σ' H
def tGs (K : PySem.W.Frag) (ts : List Tg) : TGs := fun vs σ H Q => ∃ (ex : EX) (g : Gh ex) (n : Nat) (env : Env') (ds : List D) (env' : Env'), Rl K g H σ n env ∧ RepL K H (pv g env σ) (kA g) ds vs ∧ asgL ts ds env = some env' ∧
  ∀ σ', Rl K g H σ' n env' → (∀ a, ow env' σ' a → ow env σ a) → (∀ j, j ∉ slotsL ts → σ'[j]? = σ[j]?) → Q σ' H
end
def DG (X : Cx) (tg : Expr) (t : Tg) : Prop := PG X tg (tG X.K t)
def DGs (X : Cx) (tg : List Expr) (t : List Tg) : Prop := PGs X tg (tGs X.K t)
theorem PG.imp {X : Cx} {e : Expr} {t u : TG} (h : PG X e t) (i : ∀ v σ H Q, u v σ H Q → t v σ H Q) : PG X e u := ⟨fun p s σ H v w Q I r q => h.run p s σ H v w Q I r (i v σ H Q q)⟩
theorem PGs.imp {X : Cx} {e : List Expr} {t u : TGs} (h : PGs X e t) (i : ∀ v σ H Q, u v σ H Q → t v σ H Q) : PGs X e u := ⟨fun p s σ H v w Q I r q => h.run p s σ H v w Q I r (i v σ H Q q)⟩
section
variable {X : Cx} {W : WY} {pos : Pos}
theorem dG_name (i : Nat) {x : Str} (hN : X.N.Nodup) (hi : X.N[i]? = some x := by rfl) (hx : Loc X.env.scope x := by first | exact Or.inl rfl | exact Or.inr rfl) (hf : X.fn x = true ∨ X.env.scope.names.lookup x = some .local := by first | exact .inl rfl | exact .inr rfl) : DG X (.Name x pos) (.nm i) := by
  refine PG.imp (pg_name hN hi hx hf) fun v σ H Q ⟨_, g, n, env, d, env', R, r, e, k⟩ => ?_
  simp only [asg] at e
  split at e
  · rename_i h
    cases e
    obtain ⟨R', o⟩ := R.set h r
    refine k _ R' o fun j hj => ?_
    have hj' : i ≠ j := fun z => hj (by simp [Tg.slots, z])
    exact List.getElem?_set_ne hj'
  · cases e
theorem dGs_nil : DGs X [] [] := by
  refine PGs.imp pgs_nil fun vs σ H Q ⟨_, g, n, env, ds, env', R, r, e, k⟩ => ?_
  cases ds with
  | nil =>
    cases r
    cases e
    exact ⟨rfl, k σ R (fun _ h => h) fun _ _ => rfl⟩
  | cons d ds => simp [asgL] at e
theorem dGs_cons {e : Expr} {es : List Expr} {t : Tg} {ts : List Tg} (h1 : DG X e t) (h2 : DGs X es ts) (hs : (assignEach (e :: es) X.env).map (·.2) = assign e X.env :: (assignEach es X.env).map (·.2) := by rfl) : DGs X (e :: es) (t :: ts) := by
  refine PGs.imp (pgs_cons h1 h2 hs) fun vs σ H Q ⟨_, g, n, env, ds, env', R, r, e, k⟩ => ?_
  cases ds with
  | nil => simp [asgL] at e
  | cons d ds =>
    cases r with
    | cons r1 r2 =>
      simp only [asgL] at e
      cases q : asg t d env with
      | none => rw [q] at e; cases e
      | some e1 =>
        rw [q] at e
        refine ⟨_, _, rfl, _, g, n, env, d, e1, R, r1, q, fun σ1 R1 o1 f1 => ?_⟩
        refine ⟨_, g, n, e1, ds, env', R1, r2.to (ow_ext o1), e, fun σ2 R2 o2 f2 => k σ2 R2 (fun a h => o1 a (o2 a h)) fun j hj => ?_⟩
        simp only [slotsL, List.mem_append, not_or] at hj
        exact (f2 j hj.2).trans (f1 j hj.1)
theorem PG.or {e : Expr} {t u : TG} (h : PG X e t) (h' : PG X e u) : PG X e (fun v σ H Q => t v σ H Q ∨ u v σ H Q) := ⟨fun p s σ H v w Q I r q => by
  rcases q with q | q
  · exact h.run p s σ H v w Q I r q
  · exact h'.run p s σ H v w Q I r q⟩
theorem dG_tup {es : List Expr} {k : Nat} {ts : List Tg} (hc : X.calm = true) (h : DGs X es ts) (hn : (assignEach es X.env).length = ts.length := by rfl) (hst : (assignEach es X.env).findIdx? (·.1) = none := by rfl) : DG X (.Tuple es k pos) (.tp ts) := by
  refine PG.imp (PG.or (pg_tup (k := k) (n := ts.length) hc h hn hst) (pg_lst (k := k) (n := ts.length) hc h hn hst)) fun v σ H Q ⟨_, g, n, env, d, env', R, r, e, q⟩ => ?_
  cases d <;> simp only [asg] at e <;> first | (cases e; done) | skip
  · have l := asgL_len e
    cases r with
    | tup h1 h2 => exact .inl ⟨_, _, rfl, h1.sq, by rw [h2.len]; exact l.symm, _, g, n, env, _, env', R, h2, e, q⟩
  · have l := asgL_len e
    cases r with
    | lst h1 np h2 => exact .inr ⟨_, _, rfl, SqL.of h1, by rw [h2.len]; exact l.symm, _, g, n, env, _, env', R, h2, e, q⟩
end

/-! ### comprehensions -/
/-- no slot of vs is owned -/
def okW (env : Env') : List Nat → Bool
  | [] => true
  | v :: vs => (match env[v]? with | some (.own _) => false | _ => true) && okW env vs
def wipeE (env : Env') : List Nat → Env'
  | [] => env
  | v :: vs => (wipeE env vs).set v .un
def compF (t : Tg) (tst : Env' → M Bool) (elt : Env' → M D) (env : Env') : List D → M (List D)
  | [] => ret []
  | x :: xs => bnd (opt (asg t x env)) fun e1 => bnd (tst e1) fun b => if b = true then bnd (elt e1) fun y => bnd (compF t tst elt env xs) fun ys => ret (y :: ys) else compF t tst elt env xs
def cYes : Env' → M Bool := fun _ => ret true
/-- the items of a comprehension, as data -/
def eLcL (it : Env' → M (List D)) (t : Tg) (tst : Env' → M Bool) (elt : Env' → M D) (vs : List Nat) : Env' → M (List D) := fun env => bnd (it env) fun items =>
  if okW env vs = true ∧ items.length ≤ big then noex (compF t tst elt (wipeE env vs) items) else fail
def eLc (it : Env' → M (List D)) (t : Tg) (tst : Env' → M Bool) (elt : Env' → M D) (vs : List Nat) : Env' → M D := fun env => bnd (eLcL it t tst elt vs env) fun ys => ret (.lst ys)
/-- a fresh list: its address is new and nothing of its items reads it -/
def tF (K : PySem.W.Frag) (mg : Str → Option Value) (W : WY) (φ : Env' → M (List D)) : TE := fun σ H Q => ∃ (g : Gh W.ex) (n : Nat) (env : Env') (Qd : List D → Nat → Prop) (Ed : Exc → Nat → Prop), Rl K g H σ n env ∧ φ env n Qd Ed ∧
  (∀ ds n' a xs H', Qd ds n' → H a = none → H' a = some (.lst xs) → RepL K H' (fun b => pv g env σ b ∨ b = a) (kA g) ds xs → Frm g.k H H' → DkOk H' g.k n' → Q (.ref a) H') ∧
  (∀ x n' cls dd H', Ed x n' → ExR K mg H' (pv g env σ) (kA g) x cls dd → Frm g.k H H' → DkOk H' g.k n' → W.w cls dd σ H')
def DF (X : Cx) (W : WY) (e : Expr) (φ : Env' → M (List D)) : Prop := PE X e (tF X.K X.mg W φ)
def toLst (φ : Env' → M (List D)) : Env' → M D := fun env => bnd (φ env) fun ys => ret (.lst ys)
theorem fresh_notP {K : PySem.W.Frag} {ex : EX} {g : Gh ex} {H H' : Hp} {σ : St} {n : Nat} {env : Env'} {a : Addr} (R : Rl K g H σ n env) (h : H a = none) : ¬ pv g env σ a := fun z => R.there a z h
theorem dE_of_F {X : Cx} {W : WY} {e : Expr} {φ : Env' → M (List D)} (h : DF X W e φ) : DE X W e (toLst φ) := by
  refine PE.imp h fun σ H Q ⟨g, n, env, Qd, Ed, R, p, q, r⟩ => ?_
  refine ⟨g, n, env, _, Ed, R, p, fun ds n' a xs H' hd ha hx hr hf hk => ?_, r⟩
  have np : ¬ pv g env σ a := fun z => R.there a z ha
  exact q _ n' _ H' hd (.lst hx np (hr.to ⟨fun _ _ h _ => h, fun b z => .inl (.inl z)⟩)) hf hk
theorem wipeE_get {env : Env'} : ∀ {vs : List Nat} {i : Nat} {s : Slot}, (wipeE env vs)[i]? = some s → s ≠ .un → env[i]? = some s ∧ i ∉ vs
  | [], _, _, h, _ => ⟨h, by simp⟩
  | v :: vs, i, s, h, ns => by
    simp only [wipeE] at h
    by_cases e : v = i
    · subst e
      by_cases hv : v < (wipeE env vs).length
      · rw [List.getElem?_set_self hv] at h
        cases h
        exact absurd rfl ns
      · rw [List.getElem?_eq_none (by simpa using hv)] at h
        cases h
    · rw [List.getElem?_set_ne e] at h
      obtain ⟨h1, h2⟩ := wipeE_get h ns
      exact ⟨h1, by simp only [List.mem_cons, not_or]; exact ⟨fun z => e z.symm, h2⟩⟩
theorem wipeE_len {env : Env'} : ∀ {vs : List Nat}, (wipeE env vs).length = env.length
  | [] => rfl
  | v :: vs => by simp [wipeE, wipeE_len]
theorem wipe_get {σ : L2.St} : ∀ {vs : List Nat} {i : Nat}, i ∉ vs → (wipe σ vs)[i]? = σ[i]?
  | [], _, _ => rfl
  | v :: vs, i, h => by
    simp only [List.mem_cons, not_or] at h
    unfold wipe
    rw [List.getElem?_set_ne (fun e => h.1 e.symm)]
    exact wipe_get h.2
theorem wipe_in {σ : L2.St} : ∀ {vs : List Nat} {i : Nat}, i ∈ vs → i < σ.length → (wipe σ vs)[i]? = some none
  | v :: vs, i, h, hl => by
    unfold wipe
    by_cases e : v = i
    · subst e
      rw [List.getElem?_set_self (by rw [wipe_length]; exact hl)]
    · rw [List.getElem?_set_ne e]
      exact wipe_in ((List.mem_cons.mp h).resolve_left fun z => e z.symm) hl
theorem wipe_eq {σ σ' : L2.St} {vs : List Nat} (hl : σ'.length = σ.length) (h : ∀ j, j ∉ vs → σ'[j]? = σ[j]?) : wipe σ' vs = wipe σ vs := by
  apply List.ext_getElem?
  intro i
  by_cases hi : i ∈ vs
  · by_cases hl2 : i < σ.length
    · rw [wipe_in hi hl2, wipe_in hi (by omega)]
    · rw [List.getElem?_eq_none (by rw [wipe_length]; omega), List.getElem?_eq_none (by rw [wipe_length]; omega)]
  · rw [wipe_get hi, wipe_get hi]
    exact h i hi
theorem okW_get {env : Env'} : ∀ {vs : List Nat} {i : Nat} {ds : List D}, okW env vs = true → i ∈ vs → env[i]? ≠ some (.own ds)
  | v :: vs, i, ds, h, hi => by
    unfold okW at h
    obtain ⟨h1, h2⟩ := Bool.and_eq_true_iff.mp h
    rcases List.mem_cons.mp hi with rfl | hi
    · intro z
      rw [z] at h1
      cases h1
    · exact okW_get h2 hi
section
variable {K : PySem.W.Frag}
theorem ow_wipe {env : Env'} {σ : St} {vs : List Nat} (hw : okW env vs = true) (a : Addr) : ow (wipeE env vs) (wipe σ vs) a ↔ ow env σ a := by
  constructor
  · rintro ⟨i, ds, h1, h2⟩
    obtain ⟨e, hi⟩ := wipeE_get h1 (fun z => nomatch z)
    rw [wipe_get hi] at h2
    exact ⟨i, ds, e, h2⟩
  · rintro ⟨i, ds, h1, h2⟩
    have hi : i ∉ vs := fun z => okW_get hw z h1
    refine ⟨i, ds, ?_, by rw [wipe_get hi]; exact h2⟩
    have : ∀ {us : List Nat}, i ∉ us → (wipeE env us)[i]? = env[i]? := by
      intro us hu
      induction us with
      | nil => rfl
      | cons u us ih =>
        simp only [List.mem_cons, not_or] at hu
        simp only [wipeE]
        rw [List.getElem?_set_ne (fun z => hu.1 z.symm)]
        exact ih hu.2
    rw [this hi]
    exact h1
/-- the block's slots: the targets are forgotten; D, the new list, is protected -/
theorem Rl.block {ex : EX} {g : Gh ex} {H : Hp} {σ : St} {n : Nat} {env : Env'} {vs : List Nat} {D : Addr} (R : Rl K g H σ n env) (hw : okW env vs = true) (hD : H D = none) :
    Rl K (g.add D) (upd H D (.lst [])) (wipe σ vs) n (wipeE env vs) := by
  have x : Ext (pv g env σ) H (pv (g.add D) (wipeE env vs) (wipe σ vs)) (upd H D (.lst [])) := by
    refine ⟨fun a o h _ => same_upd hD a o h, fun a h => ?_⟩
    rcases h with (h | h) | h
    · exact .inl (.inl h)
    · subst h; exact .inr hD
    · exact .inl (.inr ((ow_wipe hw a).mp h))
  refine ⟨by rw [wipeE_len, wipe_length]; exact R.len, fun i d h => ?_, fun i ds h => ?_, fun i j ds es a h1 h2 h3 h4 => ?_, R.dk.same (same_upd hD), fun a h => ?_, fun a h => .inl (R.kp a h)⟩
  · obtain ⟨e, hi⟩ := wipeE_get h (fun z => nomatch z)
    obtain ⟨v, h1, h2⟩ := R.sh i d e
    exact ⟨v, by rw [wipe_get hi]; exact h1, h2.to x⟩
  · obtain ⟨e, hi⟩ := wipeE_get h (fun z => nomatch z)
    obtain ⟨a, xs, h1, h2, h3, h4⟩ := R.own i ds e
    refine ⟨a, xs, by rw [wipe_get hi]; exact h1, same_upd hD _ _ h2, fun z => ?_, h4.to x⟩
    rcases z with z | z
    · exact h3 z
    · subst z; rw [hD] at h2; cases h2
  · obtain ⟨e1, hi⟩ := wipeE_get h1 (fun z => nomatch z)
    obtain ⟨e2, hj⟩ := wipeE_get h2 (fun z => nomatch z)
    rw [wipe_get hi] at h3
    rw [wipe_get hj] at h4
    exact R.nd i j ds es a e1 e2 h3 h4
  · rcases h with h | h
    · cases q : H a with
      | none => exact absurd q (R.p0 a h)
      | some o => rw [same_upd hD a o q]; intro z; cases z
    · subst h; rw [upd_same]; intro z; cases z
end
def DTs (X : Cx) (W : WY) (ifs : List Expr) (φ : Env' → M Bool) : Prop := PTs X ifs (tX X.K X.mg W relT φ)
theorem dTs_nil {X : Cx} {W : WY} : DTs X W [] cYes := ⟨fun p s σ H Q I h => pts_nil.run p s σ H Q I (by
  obtain ⟨g, n, env, Qd, Ed, R, p, q, r⟩ := h
  exact q true n true H p rfl (Frm.refl _ _) R.dk)⟩
theorem dTs_one {X : Cx} {W : WY} {c : Expr} {φ : Env' → M Bool} (h : DT X W c φ) : DTs X W [c] φ := pts_one h
/-- nothing is wished of exceptions -/
abbrev WY.no (W : WY) : WY := ⟨fun _ _ _ _ => False, W.ex⟩
theorem lc_in {K : PySem.W.Frag} {mg : Str → Option Value} {W : WY} {it : Env' → M (List D)} {t : Tg} {tst : Env' → M Bool} {elt : Env' → M D} {vs : List Nat} (hv : ∀ j ∈ t.slots, j ∈ vs) {σ : St} {H : Hp} {Q : VK}
    (h : tF K mg W (eLcL it t tst elt vs) σ H Q) : tLc (tI K mg W it) (tG K t) (tX K mg W.no relT tst) (tX K mg W.no (relE K) elt) vs σ H Q := by
  obtain ⟨g, n, env, Qd, Ed, R, p, q, r⟩ := h
  refine ⟨g, n, env, _, Ed, R, p, fun ds n1 J H1 Gd hd wk hG f1 k1 Da hD => ?_, r⟩
  by_cases hc : okW env vs = true ∧ ds.length ≤ big
  · have hd' : noex (compF t tst elt (wipeE env vs) ds) n1 Qd Ed := by
      have hd0 : (if okW env vs = true ∧ ds.length ≤ big then noex (compF t tst elt (wipeE env vs) ds) else fail) n1 Qd Ed := hd
      rw [if_pos hc] at hd0; exact hd0
    have R1 := R.frm f1 k1
    have B0 := R1.block hc.1 hD
    have hDH : H Da = none := by
      cases z : H Da with
      | none => rfl
      | some o =>
        by_cases zk : inDk g.k Da
        · exact absurd hD (k1.there zk)
        · rw [f1 Da o z zk] at hD; cases hD
    refine ⟨fun i m H2 => m = ds.length - i ∧ i ≤ ds.length ∧ ∃ n2 acc vacc, Rl K (g.add Da) H2 (wipe σ vs) n2 (wipeE env vs) ∧ H2 Da = some (.lst vacc) ∧
        RepL K H2 (pv (g.add Da) (wipeE env vs) (wipe σ vs)) (kA g) acc vacc ∧ acc.length ≤ i ∧ compF t tst elt (wipeE env vs) (ds.drop i) n2 (fun ys n' => Qd (acc ++ ys) n') (fun _ _ => False) ∧
        Gd (pv (g.add Da) (wipeE env vs) (wipe σ vs)) H2 ∧ (∀ a o, H1 a = some o → ¬ inDk g.k a → H2 a = some o),
      ⟨ds.length, by simp, Nat.zero_le _, n1, [], [], B0, upd_same, .nil, Nat.le_refl _, by simpa [noex] using hd', wk.stab _ _ _ _ hG ⟨fun a o h _ => same_upd hD a o h, fun a h => ?_⟩, fun a o h _ => same_upd hD a o h⟩, ?_⟩
    · rcases h with (h | h) | h
      · exact .inl (.inl h)
      · subst h; exact .inr hD
      · exact .inl (.inr ((ow_wipe hc.1 a).mp h))
    · rintro i m H2 ⟨rfl, hi, n2, acc, vacc, R2, hDl, racc, hl, hcomp, hG2, fr⟩
      by_cases hlt : i < ds.length
      · refine .inr ⟨wk.goes i _ H2 hlt hG2, fun H' => ∃ m', m' < ds.length - i ∧ _, fun H' z => z, fun x H3 hy => ?_⟩
        obtain ⟨sm, d, hdi, rd⟩ := wk.yields i _ H2 x H3 hlt R2.there hG2 hy
        have hdrop : ds.drop i = d :: ds.drop (i + 1) := by
          rw [List.drop_eq_getElem_cons hlt]
          have : ds[i] = d := by rw [List.getElem?_eq_getElem hlt] at hdi; exact Option.some.inj hdi
          rw [this]
        rw [hdrop] at hcomp
        unfold compF at hcomp
        obtain ⟨e1, ha, hcomp⟩ := opt_some hcomp
        have R3 := R2.frm (Same.frm sm) (R2.dk.same sm)
        refine ⟨_, _, n2, wipeE env vs, d, e1, R3, rd, ha, fun σ2 R4 o4 fs => ⟨?_, ?_⟩⟩
        · refine (wipe_eq ?_ fun j hj => fs j fun z => hj (hv j z)).trans ?_
          · rw [← R4.len, ← R3.len]
            have := R4.len
            have l1 : σ2.length = (wipe σ vs).length := by
              rw [← R4.len, ← R3.len]
              exact asg_len ha
            rw [R4.len, l1, R3.len]
          · exact wipe_eq (by rw [wipe_length]) fun j hj => wipe_get hj
        · have x4 : Ext (pv (g.add Da) (wipeE env vs) (wipe σ vs)) H2 (pv (g.add Da) e1 σ2) H3 := (Same.ext sm).trans (ow_ext o4)
          refine ⟨_, n2, e1, _, _, R4, hcomp, fun b n5 b' H5 hb eb f5 k5 => ?_, fun x n' cls dd H' z _ _ _ => z.elim⟩
          have eb' : b' = b := eb
          subst eb'
          have R5 : Rl K (g.add Da) H5 (wipe σ vs) n5 (wipeE env vs) := R3.frm f5 k5
          have nDk : ¬ inDk g.k Da := fun z => by
            have := k1.there z
            exact this hD
          cases b' with
          | false =>
            refine iteF ?_
            refine ⟨ds.length - (i + 1), by omega, rfl, hlt, n5, acc, vacc, R5, f5 Da _ (sm Da _ hDl) nDk, ?_, by omega, hb, ?_, fun a o h z => f5 a o (sm a o (fr a o h z)) z⟩
            · exact (racc.to (Same.ext sm)).to (f5.ext fun a z => .inl (.inl (R.kp a z)))
            · exact wk.stab _ _ _ _ hG2 ((Same.ext sm).trans (f5.ext fun a z => .inl (.inl (R.kp a z))))
          | true =>
            refine iteT ?_
            have hb' : bnd (elt e1) (fun y => bnd (compF t tst elt (wipeE env vs) (ds.drop (i + 1))) fun ys => ret (y :: ys)) n5 (fun ys n' => Qd (acc ++ ys) n') (fun _ _ => False) := hb
            refine ⟨_, n5, e1, _, _, R4.frm f5 k5, hb', fun y n6 vy H6 hy6 ry f6 k6 => ?_, fun x n' cls dd H' z _ _ _ => z.elim⟩
            have hDl6 : H6 Da = some (.lst vacc) := f6 Da _ (f5 Da _ (sm Da _ hDl) nDk) nDk
            refine ⟨vacc, hDl6, ?_, ?_⟩
            · have := racc.len
              rw [big_eq, this]
              omega
            · have fD : ∀ a o, a ≠ Da → H6 a = some o → upd H6 Da (.lst (vacc ++ [vy])) a = some o := fun a o h z => by rw [upd_ne h]; exact z
              have R6 : Rl K (g.add Da) H6 (wipe σ vs) n6 (wipeE env vs) := R5.frm f6 k6
              have xD : Ext (pv (g.add Da) (wipeE env vs) (wipe σ vs)) H6 (pv (g.add Da) (wipeE env vs) (wipe σ vs)) (upd H6 Da (.lst (vacc ++ [vy]))) :=
                ⟨fun a o h np => fD a o (fun z => np (.inl (.inr z))) h, fun a h => .inl h⟩
              have R7 : Rl K (g.add Da) (upd H6 Da (.lst (vacc ++ [vy]))) (wipe σ vs) n6 (wipeE env vs) := by
                refine ⟨R6.len, fun j e h => ?_, fun j es h => ?_, R6.nd, R6.dk.keep fun a o h z => fD a o (fun w => nDk (w ▸ z)) h, fun a h => ?_, R6.kp⟩
                · obtain ⟨v, h1, h2⟩ := R6.sh j e h
                  exact ⟨v, h1, h2.to xD⟩
                · obtain ⟨a, xs, h1, h2, h3, h4⟩ := R6.own j es h
                  exact ⟨a, xs, h1, fD a _ (fun z => h3 (.inr z)) h2, h3, h4.to xD⟩
                · by_cases z : a = Da
                  · subst z; rw [upd_same]; intro w; cases w
                  · rw [upd_ne z]; exact R6.p0 a h
              have back : Ext (pv (g.add Da) e1 σ2) H6 (pv (g.add Da) (wipeE env vs) (wipe σ vs)) H6 := by
                refine ⟨fun _ _ h _ => h, fun a h => ?_⟩
                rcases h with h | ⟨j, es, h1, h2⟩
                · exact .inl (.inl h)
                · refine .inl (.inr ?_)
                  have hj : j ∉ t.slots := fun z => by
                    obtain ⟨hw, hjv⟩ := wipeE_get h1 (fun z => nomatch z)
                    exact hjv (hv j z)
                  exact ⟨j, es, by rw [← asg_get ha hj]; exact h1, by rw [fs j hj]; exact h2⟩
              refine ⟨ds.length - (i + 1), by omega, rfl, hlt, n6, acc ++ [y], vacc ++ [vy], R7, upd_same, ?_, by simp; omega, ?_, ?_, fun a o h z => ?_⟩
              · exact ((((racc.to (Same.ext sm)).to (f5.ext fun a z => .inl (.inl (R.kp a z)))).to (f6.ext fun a z => .inl (.inl (R.kp a z)))).append (.cons (ry.to back) .nil)).to xD
              · have e : (fun (ys : List D) (n' : Nat) => Qd (acc ++ [y] ++ ys) n') = fun ys n' => Qd (acc ++ (y :: ys)) n' := by
                  funext ys n'
                  simp
                rw [e]
                exact hy6
              · exact wk.stab _ _ _ _ hG2 ((((Same.ext sm).trans (f5.ext fun a z => .inl (.inl (R.kp a z)))).trans (f6.ext fun a z => .inl (.inl (R.kp a z)))).trans xD)
              · refine fD a o (fun w => ?_) (f6 a o (f5 a o (sm a o (fr a o h z)) z) z)
                subst w
                rw [hD] at h
                cases h
      · have e : i = ds.length := by omega
        subst e
        rw [List.drop_length] at hcomp
        refine .inl ⟨wk.stops _ H2 hG2, ?_⟩
        have hcomp' : Qd (acc ++ []) n2 := hcomp
        rw [List.append_nil] at hcomp'
        have f12 : Frm g.k H1 H2 := fun a o h z => fr a o h z
        refine q acc n2 Da vacc H2 hcomp' hDH hDl (racc.to ⟨fun _ _ h _ => h, fun a h => ?_⟩) (f1.trans f12) R2.dk
        rcases h with (h | h) | h
        · exact .inl (.inl (.inl h))
        · exact .inl (.inr ((ow_wipe hc.1 a).mpr h))
        · exact .inl (.inl (.inr h))
  · have hd' : (fail : M (List D)) n1 Qd Ed := by
      have hd0 : (if okW env vs = true ∧ ds.length ≤ big then noex (compF t tst elt (wipeE env vs) ds) else fail) n1 Qd Ed := hd
      rw [if_neg hc] at hd0; exact hd0
    exact hd'.elim
end Den

set_option autoImplicit true
set_option Elab.async false
set_option linter.all false
set_option maxRecDepth 100000
set_option maxHeartbeats 2000000
set_option autoImplicit false
namespace Den
open PySem PySem.Spec PyProof.Rows L2

/-! ### comprehensions, as rules -/
section
variable {X : Cx} {W : WY} {elt tg iter : Expr} {ifs : List Expr} {scope : Scope} {own : List (Str × Nat)} {pos : Pos} {it : Env' → M (List D)} {t : Tg} {tst : Env' → M Bool} {φ : Env' → M D}
theorem dF_lc (hc : X.calm = true) (hN : X.N.Nodup) (hi : DI X W tg iter it) (ok : BlkOk X.N X.env.scope scope own)
    (hg : ∀ (s : Shared) (H : Hp) (C : Addr) (cl : List (Str × Addr)) (fp : List Addr), DG (X.blk s H scope (compEnvC scope cl C X.env) fp) tg t)
    (ht : ∀ (s : Shared) (H : Hp) (C : Addr) (cl : List (Str × Addr)) (fp : List Addr), DTs (X.blk s H scope (compEnvC scope cl C X.env) fp) W.no ifs tst)
    (he : ∀ (s : Shared) (H : Hp) (C : Addr) (cl : List (Str × Addr)) (fp : List Addr), DE (X.blk s H scope (compEnvC scope cl C X.env) fp) W.no elt φ)
    (hv : ∀ j ∈ t.slots, j ∈ own.map (·.2) := by decide) (hs : ∀ x, foldedSetIterable iter X.env x = pure x := by intro _; rfl) :
    DF X W (.ListComp elt [⟨tg, iter, ifs, 0⟩] scope pos) (eLcL it t tst φ (own.map (·.2))) :=
  PE.imp (pe_lc (wi := tI X.K X.mg W it) (g := tG X.K t) (tt := tX X.K X.mg W.no relT tst) (te := tX X.K X.mg W.no (relE X.K) φ) hc hN hi ok hg ht he hs) fun σ H Q h => lc_in hv h
theorem ps_lcF {i : Nat} {y : Str} {py spos : Pos} (hc : X.calm = true) (hN : X.N.Nodup) (hy : X.N[i]? = some y) (hyl : X.env.scope.names.lookup y = some .local)
    (hsw : swapsWith (.ListComp elt [⟨tg, iter, ifs, 0⟩] scope pos) (some (.Name y py)) spos.line X.env = pure true) (hi : DI X W tg iter it) (ok : BlkOk X.N X.env.scope scope own)
    (hg : ∀ (s : Shared) (H : Hp) (C : Addr) (cl : List (Str × Addr)) (fp : List Addr), DG (X.blk s H scope (compEnvC scope cl C X.env) fp) tg t)
    (ht : ∀ (s : Shared) (H : Hp) (C : Addr) (cl : List (Str × Addr)) (fp : List Addr), DTs (X.blk s H scope (compEnvC scope cl C X.env) fp) W.no ifs tst)
    (he : ∀ (s : Shared) (H : Hp) (C : Addr) (cl : List (Str × Addr)) (fp : List Addr), DE (X.blk s H scope (compEnvC scope cl C X.env) fp) W.no elt φ)
    (hv : ∀ j ∈ t.slots, j ∈ own.map (·.2) := by decide) (hs : ∀ x, foldedSetIterable iter X.env x = pure x := by intro _; rfl) :
    PS X (.Assign [.Name y py] (.ListComp elt [⟨tg, iter, ifs, 0⟩] scope pos) spos) (tAsg (tF X.K X.mg W (eLcL it t tst φ (own.map (·.2)))) (gName i)) :=
  PS.imp (ps_setLc (wi := tI X.K X.mg W it) (g := tG X.K t) (tt := tX X.K X.mg W.no relT tst) (te := tX X.K X.mg W.no (relE X.K) φ) hc hN hy hyl hsw hi ok hg ht he hs) fun D σ H h => lc_in hv h
/-- a written list, fresh -/
theorem dF_lst {es : List Expr} {χ : Env' → M (List D)} (ha : DA X W es χ) : DF X W (.List es pos) (fun env => bnd (χ env) fun xs => if xs.length ≤ big then ret xs else fail) := by
  refine PE.imp (pe_lst ha) fun σ H Q ⟨g, n, env, Qd, Ed, R, p, q, r⟩ => ?_
  refine ⟨g, n, env, _, Ed, R, p, fun ds n' vs H' hd hr hf hk => ?_, r⟩
  by_cases hl : ds.length ≤ big
  · have hd0 : (if ds.length ≤ big then (ret ds : M (List D)) else fail) n' Qd Ed := hd
    rw [if_pos hl] at hd0
    refine ⟨by rw [RepL.len hr]; exact hl, fun a ha => ?_⟩
    have hHa : H a = none := by
      cases z : H a with
      | none => rfl
      | some o =>
        by_cases zk : inDk g.k a
        · exact absurd ha (hk.there zk)
        · rw [hf a o z zk] at ha; cases ha
    refine q ds n' a vs _ hd0 hHa upd_same (RepL.to hr ⟨fun b o h _ => same_upd ha b o h, fun b h => ?_⟩) (hf.trans (Same.frm (same_upd ha))) (hk.same (same_upd ha))
    rcases h with h | h
    · exact .inl h
    · subst h; exact .inr ha
  · have hd0 : (if ds.length ≤ big then (ret ds : M (List D)) else fail) n' Qd Ed := hd
    rw [if_neg hl] at hd0
    exact hd0.elim
/-- list(x), fresh -/
theorem dF_list {a : Expr} {x : Str} {p : Pos} {φa : Env' → M D} (hm : X.mg "list" = none) (ha : DE X W a φa) (hg : Gl X "list" := by rfl)
    (he : starEach [a] X.env = (false, eval a X.env) :: starEach [] X.env := by rfl) (hpl : (backTo pos (starEach [] X.env)).any (·.1) = false := by rfl) : DF X W (.Call (.Name "list" p) [a] [] pos) (fun env => bnd (φa env) fun x => opt (itL x)) := by
  refine PE.imp (pe_callTy call_list_of hg hm boot_list' (pa_cons ha pa_nil he) (by decide) (by decide) he hpl) fun σ H Q ⟨g, n, env, Qd, Ed, R, p, q, r⟩ => ?_
  refine ⟨g, n, env, _, Ed, R, p, fun d n' v H' hd hr hf hk => ?_, r⟩
  obtain ⟨ds, e, qd⟩ := opt_some hd
  obtain ⟨t, a, rfl, s⟩ := itL_sqD hr e
  obtain ⟨xs, h1, h2⟩ := s.sq
  refine ⟨a, xs, rfl, ?_, fun l hl => ?_⟩
  · cases t with
    | true => exact .inr h1
    | false => exact .inl h1
  · have hHa : H l = none := by
      cases z : H l with
      | none => rfl
      | some o =>
        by_cases zk : inDk g.k l
        · exact absurd hl (hk.there zk)
        · rw [hf l o z zk] at hl; cases hl
    refine q ds n' l xs _ qd hHa upd_same (h2.to ⟨fun b o h _ => same_upd hl b o h, fun b h => ?_⟩) (hf.trans (Same.frm (same_upd hl))) (hk.same (same_upd hl))
    rcases h with h | h
    · exact .inl h
    · subst h; exact .inr hl
end

/-! ### statements -/
inductive Fl where
  | nx | bk | ct | rt (d : D)
abbrev R := Fl × Env'
abbrev MS := Nat → (R → Nat → Prop) → (Exc → Env' → Nat → Prop) → Prop
/-- from one state of a def's body to a later one -/
structure Stp {ex : EX} (g : Gh ex) (H : Hp) (σ : St) (env : Env') (H' : Hp) (σ' : St) (env' : Env') : Prop where
  keep : ∀ a o, H a = some o → ¬ inDk g.k a → ¬ ow env σ a → H' a = some o
  own : ∀ a, ow env' σ' a → ow env σ a ∨ H a = none
theorem Stp.refl {ex : EX} (g : Gh ex) (H : Hp) (σ : St) (env : Env') : Stp g H σ env H σ env := ⟨fun _ _ h _ _ => h, fun _ h => .inl h⟩
theorem Stp.of_frm {ex : EX} {g : Gh ex} {H H' : Hp} {σ : St} {env : Env'} (f : Frm g.k H H') : Stp g H σ env H' σ env := ⟨fun a o h n _ => f a o h n, fun _ h => .inl h⟩
theorem Stp.of_ow {ex : EX} {g : Gh ex} {H : Hp} {σ σ' : St} {env env' : Env'} (o : ∀ a, ow env' σ' a → ow env σ a) : Stp g H σ env H σ' env' := ⟨fun _ _ h _ _ => h, fun a h => .inl (o a h)⟩
theorem Stp.trans {K : PySem.W.Frag} {ex : EX} {g : Gh ex} {H H1 H2 : Hp} {σ σ1 σ2 : St} {env env1 env2 : Env'} {n : Nat} (a : Stp g H σ env H1 σ1 env1) (R1 : Rl K g H1 σ1 n env1) (b : Stp g H1 σ1 env1 H2 σ2 env2) : Stp g H σ env H2 σ2 env2 := by
  have fresh : ∀ x, H1 x = none → ow env σ x ∨ H x = none := fun x h => by
    by_cases o : ow env σ x
    · exact .inl o
    · refine .inr ?_
      cases q : H x with
      | none => rfl
      | some v =>
        by_cases k : inDk g.k x
        · exact absurd h (R1.dk.there k)
        · rw [a.keep x v q k o] at h; cases h
  refine ⟨fun x o h k w => b.keep x o (a.keep x o h k w) k fun z => ?_, fun x h => ?_⟩
  · rcases a.own x z with z | z
    · exact w z
    · rw [h] at z; cases z
  · rcases b.own x h with z | z
    · exact a.own x z
    · exact fresh x z
theorem Stp.ext {ex : EX} {g : Gh ex} {H H' : Hp} {σ σ' : St} {env env' : Env'} (s : Stp g H σ env H' σ' env') (kp : ∀ a, inDk g.k a → g.P0 a) : Ext (pv g env σ) H (pv g env' σ') H' := by
  refine ⟨fun a o h np => s.keep a o h (fun z => np (.inl (kp a z))) fun z => np (.inr z), fun a h => ?_⟩
  rcases h with h | h
  · exact .inl (.inl h)
  · rcases s.own a h with z | z
    · exact .inl (.inr z)
    · exact .inr z
section
variable (K : PySem.W.Frag) (mg : Str → Option Value) (W : WY)
def sNx {ex : EX} (g : Gh ex) (H : Hp) (σ : St) (env : Env') (Q : Env' → Nat → Prop) (k : St → Hp → Prop) : Prop := ∀ env' n' σ' H', Q env' n' → Rl K g H' σ' n' env' → Stp g H σ env H' σ' env' → k σ' H'
structure SEnd (g : Gh W.ex) (H : Hp) (σ : St) (env : Env') (Qd : R → Nat → Prop) (Ed : Exc → Env' → Nat → Prop) (D : Ends) : Prop where
  nx : sNx K g H σ env (fun e n => Qd (.nx, e) n) D.nx
  bk : sNx K g H σ env (fun e n => Qd (.bk, e) n) D.bk
  ct : sNx K g H σ env (fun e n => Qd (.ct, e) n) D.ct
  rt : ∀ d env' n' v H', Qd (.rt d, env') n' → Rep K H' g.P0 (kA g) d v → (∀ a o, H a = some o → ¬ inDk g.k a → ¬ ow env σ a → H' a = some o) → DkOk H' g.k n' → D.rt v H'
  ex : ∀ x env' n' σ' H' cls dd, Ed x env' n' → Rl K g H' σ' n' env' → ExR K mg H' (pv g env' σ') (kA g) x cls dd → Stp g H σ env H' σ' env' → W.w cls dd σ' H'
def tS (φ : Env' → MS) : TS := fun D σ H => ∃ g n env Qd Ed, Rl K g H σ n env ∧ φ env n Qd Ed ∧ SEnd K mg W g H σ env Qd Ed D
end
def DS (X : Cx) (W : WY) (st : Stmt) (φ : Env' → MS) : Prop := PS X st (tS X.K X.mg W φ)
def DSs (X : Cx) (W : WY) (st : List Stmt) (φ : Env' → MS) : Prop := PSs X st (tS X.K X.mg W φ)
section
variable {K : PySem.W.Frag} {mg : Str → Option Value} {W : WY}
theorem SEnd.after {g : Gh W.ex} {H H1 : Hp} {σ σ1 : St} {env env1 : Env'} {n : Nat} {Qd : R → Nat → Prop} {Ed : Exc → Env' → Nat → Prop} {D : Ends} (s : SEnd K mg W g H σ env Qd Ed D) (R1 : Rl K g H1 σ1 n env1) (a : Stp g H σ env H1 σ1 env1) :
    SEnd K mg W g H1 σ1 env1 Qd Ed D where
  nx := fun e n' σ' H' q R' st => s.nx e n' σ' H' q R' (a.trans R1 st)
  bk := fun e n' σ' H' q R' st => s.bk e n' σ' H' q R' (a.trans R1 st)
  ct := fun e n' σ' H' q R' st => s.ct e n' σ' H' q R' (a.trans R1 st)
  rt := fun d e n' v H' q r f k => s.rt d e n' v H' q r (fun x o h k' w => f x o (a.keep x o h k' w) k' fun z => by
    rcases a.own x z with z | z
    · exact w z
    · rw [h] at z; cases z) k
  ex := fun x e n' σ' H' cls dd q R' hx st => s.ex x e n' σ' H' cls dd q R' hx (a.trans R1 st)
/-- an expression within a statement -/
theorem s_of_e {α β : Type} {rel : Gh W.ex → Env' → St → α → β → Hp → Prop} {φ : Env' → M α} {σ : St} {H : Hp} {k : β → Hp → Prop} {g : Gh W.ex} {n : Nat} {env : Env'} {Qd : R → Nat → Prop} {Ed : Exc → Env' → Nat → Prop} {D : Ends} {f : α → Nat → Prop}
    (R0 : Rl K g H σ n env) (p : φ env n f (fun x n' => Ed x env n')) (s : SEnd K mg W g H σ env Qd Ed D)
    (hk : ∀ d n' v H', f d n' → rel g env σ d v H' → Rl K g H' σ n' env → Frm g.k H H' → SEnd K mg W g H' σ env Qd Ed D → k v H') : tX K mg W rel φ σ H k :=
  ⟨g, n, env, f, fun x n' => Ed x env n', R0, p, fun d n' v H' hd hr hf hdk => hk d n' v H' hd hr (R0.frm hf hdk) hf (s.after (R0.frm hf hdk) (Stp.of_frm hf)),
    fun x n' cls dd H' he hx hf hdk => s.ex x env n' σ H' cls dd he (R0.frm hf hdk) hx (Stp.of_frm hf)⟩
end
def sSeq (φ ψ : Env' → MS) : Env' → MS := fun env n Q E => φ env n (fun r n' => match r with
  | (.nx, e) => ψ e n' Q E
  | (.bk, e) => Q (.bk, e) n'
  | (.ct, e) => Q (.ct, e) n'
  | (.rt d, e) => Q (.rt d, e) n') E
def sNext : Env' → MS := fun env n Q _ => Q (.nx, env) n
section
variable {X : Cx} {W : WY} {st : Stmt} {rest : List Stmt} {φ ψ : Env' → MS} {pos : Pos} {e : Expr} {φa : Env' → M D} {ψt : Env' → M Bool}
theorem dSs_nil : DSs X W [] sNext := PSs.imp pss_nil fun D σ H ⟨g, n, env, Qd, Ed, R0, p, s⟩ => s.nx env n σ H p R0 (Stp.refl _ _ _ _)
theorem dSs_cons (h1 : DS X W st φ) (h2 : DSs X W rest ψ) : DSs X W (st :: rest) (sSeq φ ψ) := by
  refine PSs.imp (pss_cons h1 h2) fun D σ H ⟨g, n, env, Qd, Ed, R0, p, s⟩ => ?_
  exact ⟨g, n, env, _, Ed, R0, p, ⟨fun e n' σ' H' q R' stp => ⟨g, n', e, Qd, Ed, R', q, s.after R' stp⟩, s.bk, s.ct, s.rt, s.ex⟩⟩
theorem dSs_one (h1 : DS X W st φ) : DSs X W [st] φ := pss_one h1
def sBreak : Env' → MS := fun env n Q _ => Q (.bk, env) n
def sCont : Env' → MS := fun env n Q _ => Q (.ct, env) n
theorem dS_pass : DS X W (.Pass pos) sNext := PS.imp ps_pass fun D σ H ⟨g, n, env, Qd, Ed, R0, p, s⟩ => s.nx env n σ H p R0 (Stp.refl _ _ _ _)
theorem dS_break : DS X W (.Break pos) sBreak := PS.imp ps_break fun D σ H ⟨g, n, env, Qd, Ed, R0, p, s⟩ => s.bk env n σ H p R0 (Stp.refl _ _ _ _)
theorem dS_cont : DS X W (.Continue pos) sCont := PS.imp ps_continue fun D σ H ⟨g, n, env, Qd, Ed, R0, p, s⟩ => s.ct env n σ H p R0 (Stp.refl _ _ _ _)
def sRet (a : Env' → M D) : Env' → MS := fun env n Q E => a env n (fun d n' => Q (.rt d, env) n') (fun x n' => E x env n')
def sRetN : Env' → MS := fun env n Q _ => Q (.rt .non, env) n
theorem dS_ret (h : DE X W e φa) : DS X W (.Return (some e) pos) (sRet φa) := by
  refine PS.imp (ps_ret h) fun D σ H ⟨g, n, env, Qd, Ed, R0, p, s⟩ => ?_
  refine s_of_e (rel := relE X.K) R0 p s fun d n' v H' hd hr R1 st s1 => ?_
  exact s1.rt d env n' v H' hd (hr.to ⟨fun _ _ h _ => h, fun a h => .inl (.inl h)⟩) (fun _ _ h _ _ => h) R1.dk
theorem dS_retN : DS X W (.Return none pos) sRetN := PS.imp ps_retN fun D σ H ⟨g, n, env, Qd, Ed, R0, p, s⟩ => s.rt .non env n .non H p .non (fun _ _ h _ _ => h) R0.dk
def sIf (t : Env' → M Bool) (φ ψ : Env' → MS) : Env' → MS := fun env n Q E => t env n (fun b n' => if b = true then φ env n' Q E else ψ env n' Q E) (fun x n' => E x env n')
theorem dS_if {a b : List Stmt} (ht : DT X W e ψt) (ha : DSs X W a φ) (hb : DSs X W b ψ) : DS X W (.If e a b pos) (sIf ψt φ ψ) := by
  refine PS.imp (ps_if ht ha hb) fun D σ H ⟨g, n, env, Qd, Ed, R0, p, s⟩ => ?_
  refine s_of_e (rel := relT) R0 p s fun d n' v H' hd hr R1 st s1 => ?_
  have hr' : v = d := hr
  subst hr'
  cases v with
  | true => exact iteT ⟨g, n', env, Qd, Ed, R1, hd, s1⟩
  | false => exact iteF ⟨g, n', env, Qd, Ed, R1, hd, s1⟩
def sExpr (a : Env' → M D) : Env' → MS := fun env n Q E => a env n (fun _ n' => Q (.nx, env) n') (fun x n' => E x env n')
theorem dS_expr (h : DE X W e φa) (hs : swapsWith e none pos.line X.env = pure false := by rfl) : DS X W (.Expr e pos) (sExpr φa) := by
  refine PS.imp (ps_expr h hs) fun D σ H ⟨g, n, env, Qd, Ed, R0, p, s⟩ => ?_
  exact s_of_e (rel := relE X.K) R0 p s fun d n' v H' hd hr R1 st s1 => s1.nx env n' σ H' hd R1 (Stp.refl _ _ _ _)

/-! ### assignments -/
def wh {α : Type} (o : Option α) (k : α → Prop) : Prop := match o with
  | some a => k a
  | none => False
theorem wh_some {α : Type} {o : Option α} {k : α → Prop} (h : wh o k) : ∃ e, o = some e ∧ k e := by
  cases o with
  | none => exact h.elim
  | some e => exact ⟨e, rfl, h⟩
def sAsg (a : Env' → M D) (t : Tg) : Env' → MS := fun env n Q E => a env n (fun d n' => wh (asg t d env) fun e => Q (.nx, e) n') (fun x n' => E x env n')
theorem dS_asg {tg : Expr} {t : Tg} (he : DE X W e φa) (hg : DG X tg t) (hs : swapsWithSole [tg] e pos.line X.env = pure false := by rfl) (hw : swappedStores [tg] e X.env = pure none := by rfl)
    (h1 : (assignEach [tg] X.env).map (·.2) = [assign tg X.env] := by rfl) : DS X W (.Assign [tg] e pos) (sAsg φa t) := by
  refine PS.imp (ps_asg he hg hs hw h1) fun D σ H ⟨g, n, env, Qd, Ed, R0, p, s⟩ => ?_
  refine s_of_e (rel := relE X.K) R0 p s fun d n' v H' hd hr R1 st s1 => ?_
  obtain ⟨e1, ea, hq⟩ := wh_some hd
  exact ⟨_, g, n', env, d, e1, R1, hr, ea, fun σ' R2 o f => s1.nx e1 n' σ' H' hq R2 (Stp.of_ow o)⟩
theorem name_in {i : Nat} {d : D} {env e1 : Env'} (h : asg (.nm i) d env = some e1) : i < env.length ∧ e1 = env.set i (.sh d) := by
  simp only [asg] at h
  split at h
  · cases h; exact ⟨by assumption, rfl⟩
  · cases h
/-- from the plain rule for a name -/
theorem dS_nameE {i : Nat} (h : PS X st (tAsg (tX X.K X.mg W (relE X.K) φa) (gName i))) : DS X W st (sAsg φa (.nm i)) := by
  refine PS.imp h fun D σ H ⟨g, n, env, Qd, Ed, R0, p, s⟩ => ?_
  refine s_of_e (rel := relE X.K) R0 p s fun d n' v H' hd hr R1 st s1 => ?_
  obtain ⟨e1, ea, hq⟩ := wh_some hd
  obtain ⟨hi, rfl⟩ := name_in ea
  obtain ⟨R2, o⟩ := R1.set hi hr
  exact s1.nx _ n' _ H' hq R2 (Stp.of_ow o)
theorem dS_set {i : Nat} {x : Str} {pos' : Pos} (hN : X.N.Nodup) (he : DE X W e φa) (hi : X.N[i]? = some x := by rfl) (hx : Loc X.env.scope x := by first | exact Or.inl rfl | exact Or.inr rfl) (hs : swapsWith e (some (.Name x pos')) pos.line X.env = pure false := by rfl) (hf : X.fn x = true ∨ X.env.scope.names.lookup x = some .local := by first | exact .inl rfl | exact .inr rfl) :
    DS X W (.Assign [.Name x pos'] e pos) (sAsg φa (.nm i)) := dS_nameE (ps_set hN hi hx he hs hf)
/-- a fresh list that the name owns -/
def sOwn (i : Nat) (a : Env' → M (List D)) : Env' → MS := fun env n Q E => a env n (fun ds n' => i < env.length ∧ Q (.nx, env.set i (.own ds)) n') (fun x n' => E x env n')
theorem Rl.setOwn {K : PySem.W.Frag} {ex : EX} {g : Gh ex} {H : Hp} {σ : St} {n : Nat} {env : Env'} {i : Nat} {ds : List D} {a : Addr} {xs : List V} (R1 : Rl K g H σ n env) (hi : i < env.length) (np : ¬ g.P0 a) (no : ¬ ow env σ a) (hx : H a = some (.lst xs))
    (r : RepL K H (fun b => pv g env σ b ∨ b = a) (kA g) ds xs) (sep : ∀ (i : Nat) (d : D) (v : V), env[i]? = some (Slot.sh d) → σ[i]? = some (some v) → Rep K H (fun b => pv g env σ b ∨ b = a) (kA g) d v)
    (sepo : ∀ (i : Nat) (ds : List D) (b : Addr) (ys : List V), env[i]? = some (Slot.own ds) → σ[i]? = some (some (V.ref b)) → H b = some (HO.lst ys) → RepL K H (fun b => pv g env σ b ∨ b = a) (kA g) ds ys) :
    Rl K g H (σ.set i (some (.ref a))) n (env.set i (.own ds)) ∧ ∀ b, ow (env.set i (.own ds)) (σ.set i (some (.ref a))) b → ow env σ b ∨ b = a := by
  have hs : i < σ.length := by rw [← R1.len]; exact hi
  have o : ∀ b, ow (env.set i (.own ds)) (σ.set i (some (.ref a))) b → ow env σ b ∨ b = a := fun b ⟨j, es, h1, h2⟩ => by
    by_cases e : i = j
    · subst e
      rw [List.getElem?_set_self hs] at h2
      cases h2
      exact .inr rfl
    · rw [List.getElem?_set_ne e] at h1 h2
      exact .inl ⟨j, es, h1, h2⟩
  have x : Ext (fun b => pv g env σ b ∨ b = a) H (pv g (env.set i (.own ds)) (σ.set i (some (.ref a)))) H := ⟨fun _ _ h _ => h, fun b h => by
    rcases h with h | h
    · exact .inl (.inl (.inl h))
    · rcases o b h with z | z
      · exact .inl (.inl (.inr z))
      · exact .inl (.inr z)⟩
  refine ⟨⟨by simp [R1.len], fun j e h => ?_, fun j es h => ?_, fun j j' es fs b h1 h2 h3 h4 => ?_, R1.dk, R1.p0, R1.kp⟩, o⟩
  · by_cases q : i = j
    · subst q
      rw [List.getElem?_set_self hi] at h
      cases h
    · rw [List.getElem?_set_ne q] at h
      obtain ⟨u, h1, h2⟩ := R1.sh j e h
      exact ⟨u, by rw [List.getElem?_set_ne q]; exact h1, (sep j e u h h1).to x⟩
  · by_cases q : i = j
    · subst q
      rw [List.getElem?_set_self hi] at h
      cases h
      exact ⟨a, xs, by rw [List.getElem?_set_self hs], hx, np, r.to x⟩
    · rw [List.getElem?_set_ne q] at h
      obtain ⟨b, ys, h1, h2, h3, h4⟩ := R1.own j es h
      exact ⟨b, ys, by rw [List.getElem?_set_ne q]; exact h1, h2, h3, (sepo j es b ys h h1 h2).to x⟩
  · by_cases q : i = j
    · subst q
      rw [List.getElem?_set_self hs] at h3
      cases h3
      by_cases q' : i = j'
      · exact q'
      · rw [List.getElem?_set_ne q'] at h2 h4
        exact absurd ⟨j', fs, h2, h4⟩ no
    · by_cases q' : i = j'
      · subst q'
        rw [List.getElem?_set_self hs] at h4
        cases h4
        rw [List.getElem?_set_ne q] at h1 h3
        exact absurd ⟨j, es, h1, h3⟩ no
      · rw [List.getElem?_set_ne q] at h1 h3
        rw [List.getElem?_set_ne q'] at h2 h4
        exact R1.nd j j' es fs b h1 h2 h3 h4
theorem dS_own {i : Nat} {φl : Env' → M (List D)} (h : PS X st (tAsg (tF X.K X.mg W φl) (gName i))) : DS X W st (sOwn i φl) := by
  refine PS.imp h fun D σ H ⟨g, n, env, Qd, Ed, R0, p, s⟩ => ?_
  refine ⟨g, n, env, _, fun x n' => Ed x env n', R0, p, fun ds n' a xs H' hd ha hx hr hf hk => ?_, fun x n' cls dd H' he hx hf hdk => s.ex x env n' σ H' cls dd he (R0.frm hf hdk) hx (Stp.of_frm hf)⟩
  have x : Ext (pv g env σ) H (fun b => pv g env σ b ∨ b = a) H' := by
    refine ⟨fun b o h np => hf b o h fun z => np (.inl (R0.kp b z)), fun b h => ?_⟩
    rcases h with h | h
    · exact .inl h
    · subst h; exact .inr ha
  obtain ⟨R2, o⟩ := Rl.setOwn (i := i) (ds := ds) (R0.frm hf hk) hd.1 (fun z => R0.p0 a z ha) (fun z => R0.there a (.inr z) ha) hx hr
    (fun j d v h1 h2 => by
      obtain ⟨u, e1, e2⟩ := R0.sh j d h1
      rw [h2] at e1; cases e1
      exact e2.to x)
    (fun j es b ys h1 h2 h3 => by
      obtain ⟨c, zs, e1, e2, e3, e4⟩ := R0.own j es h1
      rw [h2] at e1; cases e1
      have : H' b = some (.lst zs) := hf b _ e2 fun z => e3 (R0.kp b z)
      rw [h3] at this; cases this
      exact e4.to x)
  refine s.nx _ n' _ H' hd.2 R2 ⟨fun b o' h k _ => hf b o' h k, fun b h => ?_⟩
  rcases o b h with z | z
  · exact .inl z
  · subst z; exact .inr ha
theorem dS_setF {i : Nat} {x : Str} {pos' : Pos} {φl : Env' → M (List D)} (hN : X.N.Nodup) (he : DF X W e φl) (hi : X.N[i]? = some x := by rfl) (hx : Loc X.env.scope x := by first | exact Or.inl rfl | exact Or.inr rfl) (hs : swapsWith e (some (.Name x pos')) pos.line X.env = pure false := by rfl) (hf : X.fn x = true ∨ X.env.scope.names.lookup x = some .local := by first | exact .inl rfl | exact .inr rfl) :
    DS X W (.Assign [.Name x pos'] e pos) (sOwn i φl) := dS_own (ps_set hN hi hx he hs hf)
/-- a fresh list that is not owned -/
theorem dS_shF {i : Nat} {φl : Env' → M (List D)} (h : PS X st (tAsg (tF X.K X.mg W φl) (gName i))) : DS X W st (sAsg (toLst φl) (.nm i)) := by
  refine dS_nameE (PS.imp h fun D σ H ⟨g, n, env, Qd, Ed, R0, p, q, r⟩ => ?_)
  refine ⟨g, n, env, _, Ed, R0, p, fun ds n' a xs H' hd ha hx hr hf hk => ?_, r⟩
  have np : ¬ pv g env σ a := fun z => R0.there a z ha
  exact q _ n' _ H' hd (.lst hx np (hr.to ⟨fun _ _ h _ => h, fun b z => .inl (.inl z)⟩)) hf hk
/-- a, b = x, y (two local names) -/
def sPar (i j : Nat) (a : Env' → M (List D)) : Env' → MS := fun env n Q E => a env n (fun ds n' => match ds with
  | [x, y] => i < env.length ∧ j < env.length ∧ Q (.nx, (env.set i (.sh x)).set j (.sh y)) n'
  | _ => False) (fun x n' => E x env n')
theorem dS_par {i j : Nat} {x y : Str} {a b : Expr} {χ : Env' → M (List D)} {px py pt : Pos} {kt k2 pt2} (hc : X.calm = true) (hN : X.N.Nodup) (ha : DA X W [a, b] χ) (hi : X.N[i]? = some x := by rfl) (hj : X.N[j]? = some y := by rfl) (hij : i ≠ j := by decide)
    (hx : X.env.scope.names.lookup x = some .local := by rfl) (hy : X.env.scope.names.lookup y = some .local := by rfl)
    (hw : swappedStores [.Tuple [.Name x px, .Name y py] kt pt] (.Tuple [a, b] k2 pt2) X.env = pure (some [x, y]) := by rfl)
    (hs : swapsWithSole [.Tuple [.Name x px, .Name y py] kt pt] (.Tuple [a, b] k2 pt2) pos.line X.env = pure false := by rfl) :
    DS X W (.Assign [.Tuple [.Name x px, .Name y py] kt pt] (.Tuple [a, b] k2 pt2) pos) (sPar i j χ) := by
  refine PS.imp (ps_par hc hN hi hj hij hx hy ha hw hs) fun D σ H ⟨g, n, env, Qd, Ed, R0, p, s⟩ => ?_
  refine s_of_e (rel := relA X.K) R0 p s fun ds n' vs H' hd hr R1 st s1 => ?_
  cases ds with
  | nil => exact hd.elim
  | cons d1 ds =>
    cases ds with
    | nil => exact hd.elim
    | cons d2 ds =>
      cases ds with
      | cons _ _ => exact hd.elim
      | nil =>
        cases hr with
        | cons r1 hr =>
          cases hr with
          | cons r2 hr =>
            cases hr
            have hd' : i < env.length ∧ j < env.length ∧ Qd (.nx, (env.set i (.sh d1)).set j (.sh d2)) n' := hd
            obtain ⟨R2, o⟩ := R1.set hd'.1 r1
            obtain ⟨R3, o3⟩ := R2.set (i := j) (d := d2) (by simpa using hd'.2.1) (r2.to (ow_ext o))
            exact ⟨_, _, rfl, s1.nx _ n' _ H' hd'.2.2 R3 (Stp.of_ow fun a h => o a (o3 a h))⟩
end
end Den

set_option autoImplicit true
set_option Elab.async false
set_option linter.all false
set_option maxRecDepth 100000
set_option maxHeartbeats 2000000
set_option autoImplicit false
namespace Den
open PySem PySem.Spec PyProof.Rows L2

/-! ### owned lists are changed, read, let go -/
section
variable {K : PySem.W.Frag}
theorem Rl.mut {ex : EX} {g : Gh ex} {H : Hp} {σ : St} {n : Nat} {env : Env'} {i : Nat} {ds es : List D} {a : Addr} {xs : List V} (R0 : Rl K g H σ n env) (he : env[i]? = some (Slot.own ds)) (hs : σ[i]? = some (some (V.ref a)))
    (r : RepL K H (pv g env σ) (kA g) es xs) : Rl K g (upd H a (.lst xs)) σ n (env.set i (.own es)) ∧ Stp g H σ env (upd H a (.lst xs)) σ (env.set i (.own es)) := by
  have hi : i < env.length := (List.getElem?_eq_some_iff.mp he).1
  obtain ⟨a', ys, h1, h2, h3, h4⟩ := R0.own i ds he
  rw [hs] at h1
  cases h1
  have o : ∀ b, ow (env.set i (.own es)) σ b → ow env σ b := fun b ⟨j, fs, q1, q2⟩ => by
    by_cases e : i = j
    · subst e
      exact ⟨i, ds, he, q2⟩
    · rw [List.getElem?_set_ne e] at q1
      exact ⟨j, fs, q1, q2⟩
  have nk : ¬ inDk g.k a := fun z => h3 (R0.kp a z)
  have oa : ow env σ a := ⟨i, ds, he, hs⟩
  have kp : ∀ b u, H b = some u → b ≠ a → upd H a (.lst xs) b = some u := fun b u h z => by rw [upd_ne z]; exact h
  have x : Ext (pv g env σ) H (pv g (env.set i (.own es)) σ) (upd H a (.lst xs)) := ⟨fun b u h np => kp b u h fun z => np (.inr (z ▸ oa)), fun b h => by
    rcases h with h | h
    · exact .inl (.inl h)
    · exact .inl (.inr (o b h))⟩
  refine ⟨⟨by simp [R0.len], fun j d h => ?_, fun j fs h => ?_, fun j j' fs gs b q1 q2 q3 q4 => ?_, R0.dk.keep fun b u h z => kp b u h (fun w => nk (w ▸ z)), fun b h => ?_, R0.kp⟩, ⟨fun b u h k w => kp b u h fun z => w (z ▸ oa), fun b h => .inl (o b h)⟩⟩
  · by_cases e : i = j
    · subst e
      rw [List.getElem?_set_self hi] at h
      cases h
    · rw [List.getElem?_set_ne e] at h
      obtain ⟨v, q1, q2⟩ := R0.sh j d h
      exact ⟨v, q1, q2.to x⟩
  · by_cases e : i = j
    · subst e
      rw [List.getElem?_set_self hi] at h
      cases h
      exact ⟨a, xs, hs, upd_same, h3, r.to x⟩
    · rw [List.getElem?_set_ne e] at h
      obtain ⟨b, zs, q1, q2, q3, q4⟩ := R0.own j fs h
      have ne : b ≠ a := fun z => e (R0.nd i j ds fs a he h hs (z ▸ q1))
      exact ⟨b, zs, q1, kp b _ q2 ne, q3, q4.to x⟩
  · have f : ∀ {j : Nat} {fs : List D}, (env.set i (.own es))[j]? = some (Slot.own fs) → ∃ fs', env[j]? = some (Slot.own fs') := fun {j fs} h => by
      by_cases e : i = j
      · subst e; exact ⟨ds, he⟩
      · rw [List.getElem?_set_ne e] at h; exact ⟨fs, h⟩
    obtain ⟨fs1, e1⟩ := f q1
    obtain ⟨fs2, e2⟩ := f q2
    exact R0.nd j j' fs1 fs2 b e1 e2 q3 q4
  · by_cases z : b = a
    · subst z; rw [upd_same]; intro w; cases w
    · rw [upd_ne z]; exact R0.p0 b h
/-- an owned slot is let go: its list may be shared from now on, and is not changed any more -/
def frz (i : Nat) (env : Env') : Env' := match env[i]? with
  | some (.own ds) => env.set i (.sh (.lst ds))
  | _ => env
theorem Rl.frz {ex : EX} {g : Gh ex} {H : Hp} {σ : St} {n : Nat} {env : Env'} (i : Nat) (R0 : Rl K g H σ n env) : Rl K g H σ n (Den.frz i env) ∧ ∀ a, ow (Den.frz i env) σ a → ow env σ a := by
  unfold Den.frz
  split
  · rename_i ds he
    have hi : i < env.length := (List.getElem?_eq_some_iff.mp he).1
    obtain ⟨a, ys, h1, h2, h3, h4⟩ := R0.own i ds he
    have o : ∀ b, ow (env.set i (.sh (.lst ds))) σ b → ow env σ b ∧ b ≠ a := fun b ⟨j, fs, q1, q2⟩ => by
      by_cases e : i = j
      · subst e
        rw [List.getElem?_set_self hi] at q1
        cases q1
      · rw [List.getElem?_set_ne e] at q1
        exact ⟨⟨j, fs, q1, q2⟩, fun z => e (R0.nd i j ds fs a he q1 h1 (z ▸ q2))⟩
    have x : Ext (pv g env σ) H (pv g (env.set i (.sh (.lst ds))) σ) H := ⟨fun _ _ h _ => h, fun b h => by
      rcases h with h | h
      · exact .inl (.inl h)
      · exact .inl (.inr (o b h).1)⟩
    refine ⟨⟨by simp [R0.len], fun j d h => ?_, fun j fs h => ?_, fun j j' fs gs b q1 q2 q3 q4 => ?_, R0.dk, R0.p0, R0.kp⟩, fun b h => (o b h).1⟩
    · by_cases e : i = j
      · subst e
        rw [List.getElem?_set_self hi] at h
        cases h
        refine ⟨.ref a, h1, .lst h2 (fun z => ?_) (h4.to x)⟩
        rcases z with z | z
        · exact h3 z
        · exact (o a z).2 rfl
      · rw [List.getElem?_set_ne e] at h
        obtain ⟨v, q1, q2⟩ := R0.sh j d h
        exact ⟨v, q1, q2.to x⟩
    · by_cases e : i = j
      · subst e
        rw [List.getElem?_set_self hi] at h
        cases h
      · rw [List.getElem?_set_ne e] at h
        obtain ⟨b, zs, q1, q2, q3, q4⟩ := R0.own j fs h
        exact ⟨b, zs, q1, q2, q3, q4.to x⟩
    · by_cases e : i = j
      · subst e
        rw [List.getElem?_set_self hi] at q1
        cases q1
      · by_cases e' : i = j'
        · subst e'
          rw [List.getElem?_set_self hi] at q2
          cases q2
        · rw [List.getElem?_set_ne e] at q1
          rw [List.getElem?_set_ne e'] at q2
          exact R0.nd j j' fs gs b q1 q2 q3 q4
  · exact ⟨R0, fun _ h => h⟩
end
theorem SEnd.sub {K : PySem.W.Frag} {mg : Str → Option Value} {W : WY} {g : Gh W.ex} {H : Hp} {σ : St} {env env' : Env'} {n : Nat} {Qd : R → Nat → Prop} {Ed : Exc → Env' → Nat → Prop} {D : Ends} (s : SEnd K mg W g H σ env Qd Ed D) (R' : Rl K g H σ n env') (o : ∀ a, ow env' σ a → ow env σ a) : SEnd K mg W g H σ env' Qd Ed D :=
  s.after R' (Stp.of_ow o)
def sFrz (i : Nat) (φ : Env' → MS) : Env' → MS := fun env => φ (frz i env)
/-- a reading that gives a flat value may look at an owned list -/
def scalD : D → Bool
  | .non => true
  | .bl _ => true
  | .int _ => true
  | .str _ => true
  | _ => false
def eBor (i : Nat) (φ : Env' → M D) : Env' → M D := fun env n Q E => φ (frz i env) n (fun d n' => scalD d = true ∧ Q d n') (fun _ _ => False)
def eBorT (i : Nat) (φ : Env' → M Bool) : Env' → M Bool := fun env n Q E => φ (frz i env) n Q (fun _ _ => False)
def lstOf : D → Option (List D)
  | .lst xs => some xs
  | _ => none
/-- with the list that slot i owns -/
def withO {α : Type} (i : Nat) (k : List D → α → Prop) (env : Env') (a : α) : Prop := match env[i]? with
  | some (.own ds) => k ds a
  | _ => False
theorem withO_some {α : Type} {i : Nat} {k : List D → α → Prop} {env : Env'} {a : α} (h : withO i k env a) : ∃ ds, env[i]? = some (Slot.own ds) ∧ k ds a := by
  unfold withO at h
  split at h
  · rename_i ds e
    exact ⟨ds, e, h⟩
  · exact h.elim
/-- an item of an owned list -/
def atD (ds : List D) : D → Option D
  | .int k => atI ds k
  | _ => none
def eOwnIx (i : Nat) (b : Env' → M D) : Env' → M D := fun env n Q E => withO i (fun ds (_ : Unit) => bnd (b env) (fun j => opt (atD ds j)) n Q E) env ()
section
variable {X : Cx} {W : WY} {st : Stmt} {rest : List Stmt} {φ ψ : Env' → MS} {pos : Pos} {e b : Expr} {φa φb : Env' → M D} {ψt : Env' → M Bool}
theorem dS_frz (i : Nat) (h : DS X W st φ) : DS X W st (sFrz i φ) := by
  refine PS.imp h fun D σ H ⟨g, n, env, Qd, Ed, R0, p, s⟩ => ?_
  obtain ⟨R1, o⟩ := R0.frz i
  exact ⟨g, n, frz i env, Qd, Ed, R1, p, s.sub R1 o⟩
theorem dSs_frz (i : Nat) {st : List Stmt} (h : DSs X W st φ) : DSs X W st (sFrz i φ) := by
  refine PSs.imp h fun D σ H ⟨g, n, env, Qd, Ed, R0, p, s⟩ => ?_
  obtain ⟨R1, o⟩ := R0.frz i
  exact ⟨g, n, frz i env, Qd, Ed, R1, p, s.sub R1 o⟩
theorem Rep.scal {K : PySem.W.Frag} {H : Hp} {P P' : Addr → Prop} {k : KA} {d : D} {v : V} (r : Rep K H P k d v) (h : scalD d = true) : Rep K H P' k d v := by
  cases r <;> first | (cases h; done) | constructor
theorem dE_bor (i : Nat) (h : DE X W e φa) : DE X W e (eBor i φa) := by
  refine PE.imp h fun σ H Q ⟨g, n, env, Qd, Ed, R0, p, q, r⟩ => ?_
  obtain ⟨R1, o⟩ := R0.frz i
  exact ⟨g, n, frz i env, _, _, R1, p, fun d n' v H' hd hr hf hk => q d n' v H' hd.2 (Rep.scal hr hd.1) hf hk, fun _ _ _ _ _ z _ _ _ => z.elim⟩
theorem dT_bor (i : Nat) (h : DT X W e ψt) : DT X W e (eBorT i ψt) := by
  refine PT.imp h fun σ H Q ⟨g, n, env, Qd, Ed, R0, p, q, r⟩ => ?_
  obtain ⟨R1, o⟩ := R0.frz i
  exact ⟨g, n, frz i env, _, _, R1, p, fun d n' v H' hd hr hf hk => q d n' v H' hd hr hf hk, fun _ _ _ _ _ z _ _ _ => z.elim⟩
/-- the list at a slot -/
theorem pe_own {i : Nat} {x : Str} {pos : Pos} (hN : X.N[i]? = some x := by rfl) (hv : Vis X.env.scope x := by first | exact Or.inl rfl | exact Or.inr (Or.inl rfl) | exact Or.inr (Or.inr rfl)) (hd : (x == ("__debug__" : Str)) = false := by decide)
    (hcd : (x == ("__classdict__" : Str)) = false := by decide) : PE X (.Name x pos) (tVar i) := pe_var hN hv hd hcd
theorem dE_ownIx {i : Nat} {o : Expr} (ho : PE X o (tVar i)) (hb : DE X W b φb) (hs : PlainIx b := by exact fun _ _ => rfl) : DE X W (.Subscript o b pos) (eOwnIx i φb) := by
  refine PE.imp (pe_ix ix_list ho hb hs) fun σ H Q hh => ?_
  obtain ⟨g, n, env, Qd, Ed, R0, p, q, r⟩ := hh
  obtain ⟨ds, he, p⟩ := withO_some p
  obtain ⟨a, xs, h1, h2, h3, h4⟩ := R0.own i ds he
  refine ⟨.ref a, h1, ?_⟩
  refine tX_in (φ := φb) R0 p (fun j n2 y H2 p2 ry f2 k2 => ?_) r
  obtain ⟨d, ej, qd⟩ := opt_some p2
  have R2 := R0.frm f2 k2
  have hx : H2 a = some (.lst xs) := f2 a _ h2 fun z => h3 (R0.kp a z)
  unfold atD at ej
  split at ej
  · rename_i k
    cases ry
    obtain ⟨v, e1, e2⟩ := (h4.to (f2.ext fun a z => .inl (R0.kp a z))).atI ej
    exact ⟨a, xs, k, v, rfl, rfl, SqL.of hx, e1, q d n2 v H2 qd e2 f2 k2⟩
  · cases ej
def sApp (i : Nat) (a : Env' → M D) : Env' → MS := fun env n Q E => withO i (fun ds (_ : Unit) => ds.length < big ∧ a env n (fun d n' => Q (.nx, env.set i (.own (ds ++ [d]))) n') (fun x n' => E x env n')) env ()
theorem dS_app {i : Nat} {o : Expr} {p p2 : Pos} (ho : PE X o (tVar i)) (ha : DE X W e φa) (hn : starEach [e] X.env = (false, eval e X.env) :: starEach [] X.env := by rfl)
    (hb : PE X (.Call (.Attribute o "append" p) [e] [] p2) (tBM X.K "list" rAppend (tVar i) (tCons (tX X.K X.mg W (relE X.K) φa) tNil)))
    (hs : swapsWith (.Call (.Attribute o "append" p) [e] [] p2) none pos.line X.env = pure false := by rfl) : DS X W (.Expr (.Call (.Attribute o "append" p) [e] [] p2) pos) (sApp i φa) := by
  refine PS.imp (ps_expr hb hs) fun D σ H ⟨g, n, env, Qd, Ed, R0, p, s⟩ => ?_
  obtain ⟨ds, he, hl, p⟩ := withO_some p
  obtain ⟨a, xs, h1, h2, h3, h4⟩ := R0.own i ds he
  refine ⟨.ref a, h1, .inl ⟨rfl, _, SqL.of h2⟩, ?_⟩
  refine s_of_e (rel := relE X.K) R0 p s fun d n' v H' hd hr R1 st s1 => ?_
  have hx : H' a = some (.lst xs) := st a _ h2 fun z => h3 (R0.kp a z)
  have x : Ext (pv g env σ) H (pv g env σ) H' := st.ext fun a z => .inl (R0.kp a z)
  refine ⟨a, xs, v, rfl, rfl, hx, by rw [big_eq, h4.len]; exact hl, ?_⟩
  obtain ⟨R2, s2⟩ := R1.mut (es := ds ++ [d]) he h1 ((h4.to x).append (.cons hr .nil))
  exact s1.nx _ n' σ _ hd R2 s2
def sExt (i : Nat) (a : Env' → M D) : Env' → MS := fun env n Q E => withO i (fun ds (_ : Unit) => a env n (fun d n' => wh (lstOf d) fun es => ds.length + es.length ≤ big ∧ Q (.nx, env.set i (.own (ds ++ es))) n') (fun x n' => E x env n')) env ()
theorem dS_ext {i : Nat} {o : Expr} {p p2 : Pos} (ho : PE X o (tVar i)) (ha : DE X W e φa) (hn : starEach [e] X.env = (false, eval e X.env) :: starEach [] X.env := by rfl)
    (hb : PE X (.Call (.Attribute o "extend" p) [e] [] p2) (tBM X.K "list" rExtend (tVar i) (tCons (tX X.K X.mg W (relE X.K) φa) tNil)))
    (hs : swapsWith (.Call (.Attribute o "extend" p) [e] [] p2) none pos.line X.env = pure false := by rfl) : DS X W (.Expr (.Call (.Attribute o "extend" p) [e] [] p2) pos) (sExt i φa) := by
  refine PS.imp (ps_expr hb hs) fun D σ H ⟨g, n, env, Qd, Ed, R0, p, s⟩ => ?_
  obtain ⟨ds, he, p⟩ := withO_some p
  obtain ⟨a, xs, h1, h2, h3, h4⟩ := R0.own i ds he
  refine ⟨.ref a, h1, .inl ⟨rfl, _, SqL.of h2⟩, ?_⟩
  refine s_of_e (rel := relE X.K) R0 p s fun d n' v H' hd hr R1 st s1 => ?_
  have hx : H' a = some (.lst xs) := st a _ h2 fun z => h3 (R0.kp a z)
  have x : Ext (pv g env σ) H (pv g env σ) H' := st.ext fun a z => .inl (R0.kp a z)
  obtain ⟨es, ee, hl, hq⟩ := wh_some hd
  cases d <;> first | (cases ee; done) | skip
  cases ee
  cases hr with
  | lst b1 b2 b3 =>
    rename_i b zs
    refine ⟨a, b, xs, zs, rfl, rfl, hx, b1, by rw [big_eq, h4.len, b3.len]; exact hl, ?_⟩
    obtain ⟨R2, s2⟩ := R1.mut (es := ds ++ es) he h1 ((h4.to x).append b3)
    exact s1.nx _ n' σ _ hq R2 s2
/-- x[j] = e -/
def setD (ds : List D) (j d : D) : Option (List D) := match j with
  | .int k => (ixN ds.length k).map fun m => ds.set m d
  | _ => none
def sSet (i : Nat) (b a : Env' → M D) : Env' → MS := fun env n Q E => withO i (fun ds (_ : Unit) => a env n (fun d n1 => b env n1 (fun j n' => wh (setD ds j d) fun es => Q (.nx, env.set i (.own es)) n') (fun x n' => E x env n')) (fun x n' => E x env n')) env ()
theorem dS_setIx {i : Nat} {o : Expr} {p : Pos} (ho : PE X o (tVar i)) (hb : DE X W b φb) (ha : DE X W e φa) (has : ∀ v, assign (.Subscript o b p) X.env v = (do
      let ov ← holding [v] (eval o X.env)
      let iv ← holding [v, ov] (eval b X.env)
      standAt p
      holding [v, ov, iv] (setItem ov iv v)
      release [v, ov, iv] []) := by intro _; rfl) (hs : swapsWithSole [.Subscript o b p] e pos.line X.env = pure false := by rfl) (hw : swappedStores [.Subscript o b p] e X.env = pure none := by rfl)
    (h1 : (assignEach [.Subscript o b p] X.env).map (·.2) = [assign (.Subscript o b p) X.env] := by rfl) : DS X W (.Assign [.Subscript o b p] e pos) (sSet i φb φa) := by
  refine PS.imp (ps_asg ha (pg_sub ho hb set_list has) hs hw h1) fun D σ H ⟨g, n, env, Qd, Ed, R0, p, s⟩ => ?_
  obtain ⟨ds, he, p⟩ := withO_some p
  obtain ⟨a, xs, h1, h2, h3, h4⟩ := R0.own i ds he
  refine s_of_e (rel := relE X.K) R0 p s fun d n' v H' hd hr R1 st s1 => ?_
  refine ⟨.ref a, h1, ?_⟩
  refine s_of_e (rel := relE X.K) R1 hd s1 fun j n2 jv H2 hj rj R2 st2 s2 => ?_
  obtain ⟨es, ee, hq⟩ := wh_some hj
  have st3 := st.trans st2
  have hx : H2 a = some (.lst xs) := st3 a _ h2 fun z => h3 (R0.kp a z)
  have x : Ext (pv g env σ) H (pv g env σ) H2 := st3.ext fun a z => .inl (R0.kp a z)
  have x2 : Ext (pv g env σ) H' (pv g env σ) H2 := st2.ext fun a z => .inl (R0.kp a z)
  unfold setD at ee
  split at ee
  · rename_i k
    cases rj
    cases c : ixN ds.length k with
    | none => rw [c] at ee; cases ee
    | some m =>
      rw [c] at ee
      cases ee
      obtain ⟨R3, s3⟩ := R2.mut (es := ds.set m d) he h1 ((h4.to x).set m (hr.to x2))
      exact ⟨a, xs, k, m, rfl, rfl, hx, by rw [h4.len]; exact c, s2.nx _ n2 σ _ hq R3 s3⟩
  · cases ee
end

/-! ### loops -/
def loopF (t : Tg) (body : Env' → MS) : List D → Env' → MS
  | [], env => fun n Q _ => Q (.nx, env) n
  | x :: xs, env => fun n Q E => wh (asg t x env) fun e1 => body e1 n (fun r n' => match r with
    | (.nx, e) => loopF t body xs e n' Q E
    | (.ct, e) => loopF t body xs e n' Q E
    | (.bk, e) => Q (.nx, e) n'
    | (.rt d, e) => Q (.rt d, e) n') E
def sFor (it : Env' → M (List D)) (t : Tg) (body : Env' → MS) : Env' → MS := fun env n Q E => it env n (fun ds n' => loopF t body ds env n' Q E) (fun x n' => E x env n')
def loopW (t : Env' → M Bool) (body : Env' → MS) : Nat → Env' → MS
  | 0, _ => fun _ _ _ => False
  | k + 1, env => fun n Q E => t env n (fun b n' => if b = true then body env n' (fun r n2 => match r with
    | (.nx, e) => loopW t body k e n2 Q E
    | (.ct, e) => loopW t body k e n2 Q E
    | (.bk, e) => Q (.nx, e) n2
    | (.rt d, e) => Q (.rt d, e) n2) E else Q (.nx, env) n') (fun x n' => E x env n')
def sWhile (t : Env' → M Bool) (body : Env' → MS) : Env' → MS := fun env n Q E => ∃ k, loopW t body k env n Q E
section
variable {X : Cx} {W : WY} {tg iter c : Expr} {body : List Stmt} {it : Env' → M (List D)} {t : Tg} {φ : Env' → MS} {ψt : Env' → M Bool} {pos : Pos}
theorem dS_for (hp : PassesOwn (model X.prog X.w) X.A X.env X.xe) (hc : X.calm = true) (hi : DI X W tg iter it) (hg : DG X tg t) (hb : DSs X W body φ) (hs : ∀ x, foldedSetIterable iter X.env x = pure x := by intro _; rfl) : DS X W (.For tg iter body [] pos) (sFor it t φ) := by
  refine PS.imp (ps_for (wi := tI X.K X.mg W it) (g := tG X.K t) (tb := tS X.K X.mg W φ) hp hc hi hg hb hs) fun D σ0 H0 ⟨g, n0, env0, Qd, Ed, R0, p, s⟩ => ?_
  refine ⟨g, n0, env0, _, _, R0, p, fun ds n1 J H1 Gd hd wk hG f1 k1 => ?_, fun x n' cls dd H' he hx hf hdk => s.ex x env0 n' σ0 H' cls dd he (R0.frm hf hdk) hx (Stp.of_frm hf)⟩
  have R1 := R0.frm f1 k1
  refine ⟨fun i m σ H => m = ds.length - i ∧ i ≤ ds.length ∧ ∃ n env, Rl X.K g H σ n env ∧ loopF t φ (ds.drop i) env n Qd Ed ∧ Gd (pv g env σ) H ∧ Stp g H0 σ0 env0 H σ env,
    ⟨ds.length, by simp, Nat.zero_le _, n1, env0, R1, by simpa using hd, hG, Stp.of_frm f1⟩, ?_⟩
  rintro i m σ H ⟨rfl, hi', n, env, R2, hl, hG2, st⟩
  by_cases hlt : i < ds.length
  · refine .inr ⟨wk.goes i _ H hlt hG2, fun σ' H' => ∃ m', m' < ds.length - i ∧ _, fun σ' H' z => z, fun x H' hy => ?_⟩
    obtain ⟨sm, d, hdi, rd⟩ := wk.yields i _ H x H' hlt R2.there hG2 hy
    have hdrop : ds.drop i = d :: ds.drop (i + 1) := by
      rw [List.drop_eq_getElem_cons hlt]
      have : ds[i] = d := by rw [List.getElem?_eq_getElem hlt] at hdi; exact Option.some.inj hdi
      rw [this]
    rw [hdrop] at hl
    obtain ⟨e1, ha, hl⟩ := wh_some hl
    have R3 := R2.frm (Same.frm sm) (R2.dk.same sm)
    have st3 : Stp g H0 σ0 env0 H' σ env := st.trans R2 (Stp.of_frm (Same.frm sm))
    refine ⟨_, g, n, env, d, e1, R3, rd, ha, fun σ2 R4 o4 fs => ?_⟩
    have st4 : Stp g H0 σ0 env0 H' σ2 e1 := st3.trans R3 (Stp.of_ow o4)
    have hG4 : Gd (pv g e1 σ2) H' := wk.stab _ _ _ _ hG2 ((Same.ext sm).trans (ow_ext o4))
    have s4 := s.after R4 st4
    have again : ∀ e n' σ' H'', loopF t φ (ds.drop (i + 1)) e n' Qd Ed → Rl X.K g H'' σ' n' e → Stp g H' σ2 e1 H'' σ' e → ∃ m', m' < ds.length - i ∧ m' = ds.length - (i + 1) ∧ i + 1 ≤ ds.length ∧ ∃ n env, Rl X.K g H'' σ' n env ∧ loopF t φ (ds.drop (i + 1)) env n Qd Ed ∧ Gd (pv g env σ') H'' ∧ Stp g H0 σ0 env0 H'' σ' env :=
      fun e n' σ' H'' q R' st' => ⟨ds.length - (i + 1), by omega, rfl, hlt, n', e, R', q, wk.stab _ _ _ _ hG4 (st'.ext R4.kp), st4.trans R4 st'⟩
    exact ⟨g, n, e1, _, Ed, R4, hl, ⟨fun e n' σ' H'' q R' st' => again e n' σ' H'' q R' st', fun e n' σ' H'' q R' st' => s4.nx e n' σ' H'' q R' st', fun e n' σ' H'' q R' st' => again e n' σ' H'' q R' st', s4.rt, s4.ex⟩⟩
  · have e : i = ds.length := by omega
    subst e
    rw [List.drop_length] at hl
    exact .inl ⟨wk.stops _ H hG2, s.nx env n σ H hl R2 st⟩
theorem dS_while (hp : PassesOwn (model X.prog X.w) X.A X.env X.xe) (hc : DT X W c ψt) (hb : DSs X W body φ) : DS X W (.While c body [] pos) (sWhile ψt φ) := by
  refine PS.imp (ps_while hp hc hb) fun D σ0 H0 ⟨g, n0, env0, Qd, Ed, R0, ⟨k, p⟩, s⟩ => ?_
  refine ⟨fun m σ H => ∃ n env, Rl X.K g H σ n env ∧ loopW ψt φ m env n Qd Ed ∧ Stp g H0 σ0 env0 H σ env, ⟨k, n0, env0, R0, p, Stp.refl _ _ _ _⟩, ?_⟩
  rintro m σ H ⟨n, env, R1, hl, st⟩
  cases m with
  | zero => exact hl.elim
  | succ m =>
    have s1 := s.after R1 st
    refine s_of_e (rel := relT) R1 hl s1 fun b n' b' H' hd hr R2 f2 s2 => ?_
    have hr' : b' = b := hr
    subst hr'
    have st2 : Stp g H0 σ0 env0 H' σ env := st.trans R1 (Stp.of_frm f2)
    cases b' with
    | false => exact iteF (s2.nx env n' σ H' hd R2 (Stp.refl _ _ _ _))
    | true =>
      refine iteT ⟨fun σ' H'' => ∃ m', m' < m + 1 ∧ ∃ n env, Rl X.K g H'' σ' n env ∧ loopW ψt φ m' env n Qd Ed ∧ Stp g H0 σ0 env0 H'' σ' env, fun σ' H'' z => z, ?_⟩
      have hd' : φ env n' (fun r n2 => match r with
        | (.nx, e) => loopW ψt φ m e n2 Qd Ed
        | (.ct, e) => loopW ψt φ m e n2 Qd Ed
        | (.bk, e) => Qd (.nx, e) n2
        | (.rt d, e) => Qd (.rt d, e) n2) Ed := hd
      refine ⟨g, n', env, _, Ed, R2, hd', ⟨fun e n2 σ' H'' q R' st' => ⟨m, Nat.lt_succ_self m, n2, e, R', q, st2.trans R2 st'⟩, fun e n2 σ' H'' q R' st' => s2.nx e n2 σ' H'' q R' st',
        fun e n2 σ' H'' q R' st' => ⟨m, Nat.lt_succ_self m, n2, e, R', q, st2.trans R2 st'⟩, s2.rt, s2.ex⟩⟩
end

/-! ### defs -/
def startE (N : Nat) (ds : List D) : Env' := ds.map .sh ++ List.replicate (N - ds.length) .un
/-- what a body gives back -/
def fnD (N : Nat) (body : Env' → MS) (ds : List D) : M D := fun n Q E => body (startE N ds) n (fun r n' => match r with
  | (.nx, _) => Q .non n'
  | (.rt d, _) => Q d n'
  | _ => False) (fun x _ n' => E x n')
/-- the promise of a def that does φ with data -/
def spX (ex : EX) (K : PySem.W.Frag) (mg : Str → Option Value) (ar : Nat) (φ : List D → M D) : Sp := fun vs H Q E => ∃ (k : Dk) (P : Addr → Prop) (n : Nat) (ds : List D) (Qd : D → Nat → Prop) (Ed : Exc → Nat → Prop),
  ds.length = ar ∧ (∀ a, P a → H a ≠ none) ∧ (∀ a, inDk k a → P a) ∧ DkOk H k n ∧ RepL K H P ⟨dkA k, ex⟩ ds vs ∧ φ ds n Qd Ed ∧
  (∀ d n' v H', Qd d n' → Rep K H' P ⟨dkA k, ex⟩ d v → Frm k H H' → DkOk H' k n' → Q v H') ∧
  (∀ x n' cls dd H', Ed x n' → ExR K mg H' P ⟨dkA k, ex⟩ x cls dd → Frm k H H' → DkOk H' k n' → E cls dd H')
/-- .. where nothing is handled -/
abbrev spD := spX none
def eCall (ar : Nat) (φ : List D → M D) (as : Env' → M (List D)) : Env' → M D := fun env => bnd (as env) fun ds => if ds.length = ar then φ ds else fail
section
variable {X : Cx} {W : WY} {e : Expr} {es : List Expr} {χ : Env' → M (List D)}
theorem dE_call {k ar : Nat} {f : Addr} {fd : FuncData} {ps : List Str} {φ : List D → M D} {x : Str} {p pos : Pos} (F : FnOk X.prog X.w X.K X.mg X.base (L2N.CX X.prog X.w) k f fd ps (spD X.K X.mg ar φ)) (hr : Room k X.A) (hm : X.mg x = some (.ref f)) (hk : PySem.W.keepIn X.K (.ref f) = true) (hb : Binds X.K fd ps [])
    (tk : L2N.Takes X W.w) (hx : W.ex = none) (ha : DA X W (e :: es) χ)
    (hg : Gl X x := by rfl) (hdb : (x == ("__debug__" : Str)) = false := by decide)
    (he : starEach (e :: es) X.env = (false, eval e X.env) :: starEach es X.env := by rfl) (hpl : (backTo pos (starEach es X.env)).any (·.1) = false := by rfl) : DE X W (.Call (.Name x p) (e :: es) [] pos) (eCall ar φ χ) := by
  obtain ⟨w, wex⟩ := W
  have hx : wex = none := hx
  subst hx
  refine PE.imp (pe_callS F hr hg hm hk hb (fun σ => L2N.passAt tk σ) ha hdb he hpl) fun σ H Q ⟨g, n, env, Qd, Ed, R0, p, q, r⟩ => ?_
  refine ⟨g, n, env, _, _, R0, p, fun ds n' vs H' hd hr hf hk => ?_, r⟩
  have R1 := R0.frm hf hk
  have hd0 : (if ds.length = ar then φ ds else fail) n' Qd Ed := hd
  by_cases hl : ds.length = ar
  case neg =>
    rw [if_neg hl] at hd0
    exact hd0.elim
  rw [if_pos hl] at hd0
  refine ⟨g.k, pv g env σ, n', ds, Qd, Ed, hl, R1.there, fun a z => .inl (R0.kp a z), hk, hr, hd0, fun d n2 v H2 h1 h2 h3 h4 => q d n2 v H2 h1 h2 (hf.trans h3) h4, fun x n2 cls dd H2 h1 h2 h3 h4 => r x n2 cls dd H2 h1 h2 (hf.trans h3) h4⟩
end
theorem rlStart {K : PySem.W.Frag} {ex : EX} {k : Dk} {P : Addr → Prop} {H : Hp} {n : Nat} {ds : List D} {vs : List V} {N : List Str} (hP : ∀ a, P a → H a ≠ none) (hk : ∀ a, inDk k a → P a) (dk : DkOk H k n) (r : RepL K H P ⟨dkA k, ex⟩ ds vs) :
    Rl K (⟨k, P⟩ : Gh ex) H (L2.start N vs) n (startE N.length ds) := by
  have no : ∀ (i : Nat) (es : List D), (startE N.length ds)[i]? ≠ some (Slot.own es) := fun i es h => by
    unfold startE at h
    rw [List.getElem?_append] at h
    split at h
    · rw [List.getElem?_map] at h
      cases q : ds[i]? with
      | none => rw [q] at h; cases h
      | some d => rw [q] at h; cases h
    · rw [List.getElem?_replicate] at h
      split at h <;> cases h
  have pe : ∀ a, pv (⟨k, P⟩ : Gh ex) (startE N.length ds) (L2.start N vs) a → P a := fun a h => by
    rcases h with h | ⟨i, es, h1, _⟩
    · exact h
    · exact absurd h1 (no i es)
  have x : Ext P H (pv (⟨k, P⟩ : Gh ex) (startE N.length ds) (L2.start N vs)) H := ⟨fun _ _ h _ => h, fun a h => .inl (pe a h)⟩
  refine ⟨?_, fun i d h => ?_, fun i es h => absurd h (no i es), fun i j es fs a h _ _ _ => absurd h (no i es), dk, hP, hk⟩
  · simp [startE, L2.start, r.len]
  · unfold startE at h
    rw [List.getElem?_append] at h
    split at h
    · rename_i hi
      rw [List.getElem?_map] at h
      cases q : ds[i]? with
      | none => rw [q] at h; cases h
      | some d' =>
        rw [q] at h
        cases h
        obtain ⟨v, e1, e2⟩ := r.get q
        refine ⟨v, ?_, e2.to x⟩
        unfold L2.start
        rw [List.getElem?_append_left (by rw [List.length_map]; exact (List.getElem?_eq_some_iff.mp e1).1), List.getElem?_map, e1]
        rfl
    · rw [List.getElem?_replicate] at h
      split at h <;> cases h
/-- THE RULE for a def -/
theorem fn_okD {P : Program} {w : World} {K : PySem.W.Frag} {mg : Str → Option Value} {base : Heap} {x qual : Str} {params : Arguments} {body : List Stmt} {scope : Scope} {dvs : List V} {kws : List (Str × V)} {f : Addr} {fd : FuncData} {N ps : List Str} {k : Nat} {φ : Env' → MS}
    (F : FunD K x qual params body scope dvs kws f fd) (S : FnScope N ps scope)
    (hb : ∀ (cdv : Value) (A : Around) (outer : List Env) (s : Shared) (H : Hp) (E : XK), Room k (A.deeper (envOfC qual scope s.heap.objs.size f cdv)) →
      DSs (cxOf (L2N.CX P w) P w K mg base N qual scope f cdv A outer s H E) ⟨fun cls d _ H' => E cls d H', none⟩ body φ) :
    FnOk P w K mg base (L2N.CX P w) (k + 1) f fd ps (spD K mg ps.length (fnD N.length φ)) := by
  refine F.ok S (fun vs H Q E ⟨_, _, _, ds, _, _, hl, _, _, _, r, _⟩ => by rw [r.len, hl]) fun cdv A outer s H vs Q E hr ⟨k, P0, n, ds, Qd, Ed, hl, hP, hk, dk, r, p, q, q2⟩ => ?_
  have no : ∀ a, ¬ ow (startE N.length ds) (L2.start N vs) a := fun a ⟨i, es, h1, _⟩ => by
    obtain ⟨_, _, e1, _, _, _⟩ := (rlStart (N := N) hP hk dk r).own i es h1
    unfold startE at h1
    rw [List.getElem?_append] at h1
    split at h1
    · rw [List.getElem?_map] at h1
      cases z : ds[i]? with
      | none => rw [z] at h1; cases h1
      | some d => rw [z] at h1; cases h1
    · rw [List.getElem?_replicate] at h1
      split at h1 <;> cases h1
  refine ⟨_, hb cdv A outer s H E hr, ⟨k, P0⟩, n, startE N.length ds, _, _, rlStart hP hk dk r, p, ⟨fun e n' σ' H' h R' st => ?_, fun e n' σ' H' h R' st => h.elim, fun e n' σ' H' h R' st => h.elim, fun d e n' v H' h rv f dk' => ?_, fun x e n' σ' H' cls dd h R' hx st => ?_⟩⟩
  · exact q .non n' .non H' h .non (fun a o h1 h2 => st.keep a o h1 h2 (no a)) R'.dk
  · exact q d n' v H' h rv (fun a o h1 h2 => f a o h1 h2 (no a)) dk'
  · refine q2 x n' cls dd H' h ?_ (fun a o h1 h2 => st.keep a o h1 h2 (no a)) R'.dk
    obtain ⟨C, e1, e2, e3⟩ := hx
    refine ⟨C, e1, e2, ?_⟩
    cases hf : x.fld with
    | none => rw [hf] at e3; exact e3
    | some fp =>
      obtain ⟨fn, d⟩ := fp
      rw [hf] at e3
      obtain ⟨a, v, h1, h2, h3, h4⟩ := e3
      exact ⟨a, v, h1, h2, fun z => h3 (.inl z), h4.to ⟨fun _ _ h _ => h, fun b z => .inl (.inl z)⟩⟩
end Den

set_option autoImplicit true
set_option Elab.async false
set_option linter.all false
set_option maxRecDepth 100000
set_option maxHeartbeats 2000000
set_option autoImplicit false
namespace Den
open PySem PySem.Spec PyProof.Rows L2

theorem big_val : big = 16777216 := rfl
/-! ### the deck: a draw -/
/-- any integer from 0 on below many; n counts the draws -/
def draw (many : Int) : M D := fun n Q _ => 0 < many ∧ many.natAbs.log2 < 9000 ∧ n < 2 ^ 60 ∧ ∀ r : Int, 0 ≤ r → r < many → Q (.int r) (n + 1)
def drawF : List D → M D
  | [.dk, .int many] => draw many
  | _ => fail
section
variable {K : PySem.W.Frag} {mg : Str → Option Value}
abbrev xD0 (K : PySem.W.Frag) : TE := tOp (rIx K) (tVar 0) (tC (.int 0))
abbrev xD1 (K : PySem.W.Frag) : TE := tOp (rIx K) (tVar 0) (tC (.int 1))
abbrev xD2 (K : PySem.W.Frag) : TE := tOp (rIx K) (tVar 0) (tC (.int 2))
abbrev rModP : R2 := rI (fun _ j => 0 < j) fun i j => .int (i % j)
abbrev rDivP : R2 := rI CDivW fun i j => .int (i / j)
abbrev rAddI : R2 := rI0 fun i j => .int (i + j)
abbrev rMulP : R2 := rI CMul fun i j => .int (i * j)
abbrev rLenA (K : PySem.W.Frag) : List V → Hp → VK → Prop := fun xs H Q => ∃ x n, xs = [x] ∧ LenV K x H n ∧ Q (.int n) H
def t_nextBody (K : PySem.W.Frag) : TS :=
  tSeq (tAsg (tOp (rIx K) (xD0 K) (tC (.int 0))) (gName 2))
  (tSeq (tIfS (tTest (tOp (rI0 fun i j => .bl (decide (j < i))) (tVar 2) (tC (.int 0))))
      (tSeq (tAsg (tOp rDivP (tVar 2) (tVar 1)) (gSub (xD0 K) (tC (.int 0)) rSetL)) (tRet (tOp rModP (tVar 2) (tVar 1)))) tNext)
    (tDrop (tBM K "list" rPopAt (xD0 K) (tCons (tC (.int 0)) tNil))))
def t_next (K : PySem.W.Frag) : TS :=
  tSeq (tWhile (tTest (tOp (rNeD K) (xD0 K) (tLst tNil))) (t_nextBody K))
  (tSeq (tAsg (tOp rAddI (xD2 K) (tC (.int 1))) (gSub (tVar 0) (tC (.int 2)) rSetL))
  (tSeq (tAsg (tOp rModP (tOp (rIx K) (xD1 K) (tOp rModP (xD2 K) (tCB (rLenA K) (tCons (xD1 K) tNil)))) (tC (.int 2147483647))) (gName 3))
  (tSeq (tAsg (tOp rAddI (tOp rAddI (tOp rMulP (tVar 3) (tOp rAddI (tC (.int 16807)) (tOp rMulP (tC (.int 39373)) (xD2 K)))) (tOp rMulP (tOp rMulP (tC (.int 40692)) (xD2 K)) (xD2 K))) (tC (.int 103))) (gName 4))
  (tSeq (tAsg (tOp rModP (tVar 4) (tC (.int 2147483629))) (gName 4))
    (tRet (tOp rModP (tOp rDivP (tOp rModP (tOp rMulP (tVar 4) (tVar 4)) (tC (.int 2147483587))) (tC (.int 16))) (tVar 1)))))))
theorem atI_0 {v : V} {xs : List V} : atI (v :: xs) 0 = some v := atI_nat (j := 0) rfl
theorem atI_1 {u v : V} {xs : List V} : atI (u :: v :: xs) 1 = some v := atI_nat (j := 1) rfl
theorem atI_2 {t u v : V} {xs : List V} : atI (t :: u :: v :: xs) 2 = some v := atI_nat (j := 2) rfl
theorem dpAll_ints {H : Hp} : ∀ xs : List Int, DpAll K H (xs.map V.int) (xs.map PyData.int)
  | [] => .nil
  | x :: xs => .cons (.int x) (dpAll_ints xs)
theorem lay_ints : ∀ xs : List Int, PyData.canLayAll0 (xs.map PyData.int) = true ∧ PyData.depthAll (xs.map PyData.int) ≤ 1
  | [] => ⟨rfl, by simp [PyData.depthAll]⟩
  | x :: xs => by
    obtain ⟨h1, h2⟩ := lay_ints xs
    refine ⟨by simpa [PyData.canLayAll0, PyData.canLay0] using h1, ?_⟩
    simp only [List.map_cons, PyData.depthAll, PyData.depth]
    omega
theorem shaped_ints (xs : List Int) : SeqAt.shaped (.list (xs.map PyData.int)) = true := by
  obtain ⟨h1, h2⟩ := lay_ints xs
  unfold SeqAt.shaped
  rw [Bool.and_eq_true, decide_eq_true_eq]
  refine ⟨by simpa [PyData.canLay0] using h1, ?_⟩
  simp only [PyData.depth]
  omega
theorem pure_next (vs : List V) (H : Hp) (Q : VK) (E : XK) (h : spD K mg 2 drawF vs H Q E) : t_next K { nx := fun _ H' => Q .non H', rt := Q } (L2.start ["_law_deck_here", "_law_many", "_law_rest", "_law_cell", "_law_mixed"] vs) H := by
  obtain ⟨k, P, n, ds, Qd, Ed, hl, hP, hk, dk, r, p, q, q2⟩ := h
  unfold drawF at p
  split at p
  case h_2 => exact p.elim
  rename_i many
  obtain ⟨h0, h9, hn, hd⟩ := p
  cases r with
  | cons r1 r2 =>
    cases r2 with
    | cons r2 r3 =>
      cases r3
      cases r2
      cases r1 with
      | dk ek =>
        rename_i a
        cases k with
        | none => cases ek
        | some t =>
          obtain ⟨a', b, c⟩ := t
          cases ek
          obtain ⟨ab, ac, bc, xs, ys, m, ha, hb, hc, y0, yl, xl, m0, mn⟩ := dk
          have st0 : L2.start ["_law_deck_here", "_law_many", "_law_rest", "_law_cell", "_law_mixed"] [V.ref a, V.int many] = [some (.ref a), some (.int many), none, none, none] := rfl
          rw [st0]
          refine ⟨fun mm σ H' => ∃ (xs' : List Int) (r2 : Option V), mm = xs'.length ∧ σ = [some (.ref a), some (.int many), r2, none, none] ∧ H' a = some (.lst [.ref b, .ref c, .int m]) ∧ H' b = some (.lst (xs'.map V.int)) ∧ H' c = some (.lst (ys.map V.int)) ∧ xs'.length ≤ 64 ∧ Frm (some (a, b, c)) H H',
            ⟨_, xs, none, rfl, rfl, ha, hb, hc, xl, Frm.refl _ _⟩, ?_⟩
          rintro mm σ H' ⟨xs', r2, rfl, rfl, ha', hb', hc', xl', fr⟩
          refine ⟨.ref a, rfl, .inl ⟨a, _, 0, _, rfl, rfl, SqL.of ha', atI_0, ?_⟩⟩
          refine ⟨Nat.zero_le _, fun z hz => ?_⟩
          have zb : b ≠ z := ne_of_none hb' hz
          have za : a ≠ z := ne_of_none ha' hz
          have zc : c ≠ z := ne_of_none hc' hz
          have hbz : upd H' z (.lst []) b = some (.lst (xs'.map V.int)) := by rw [upd_ne zb]; exact hb'
          have haz : upd H' z (.lst []) a = some (.lst [.ref b, .ref c, .int m]) := by rw [upd_ne za]; exact ha'
          have hcz : upd H' z (.lst []) c = some (.lst (ys.map V.int)) := by rw [upd_ne zc]; exact hc'
          have frz' : Frm (some (a, b, c)) H (upd H' z (.lst [])) := fr.trans (Same.frm (same_upd hz))
          have hzz : upd H' z (.lst []) z = some (.lst []) := upd_same
          generalize upd H' z (.lst []) = H1 at *
          refine ⟨.list (xs'.map PyData.int), .list [], .lst (SqL.of hbz) (dpAll_ints xs'), .lst (SqL.of hzz) .nil, shaped_ints xs', by decide, ?_⟩
          cases xs' with
          | nil =>
            refine ⟨false, rfl, ?_⟩
            refine iteF ?_
            -- deck[2] = deck[2] + 1
            refine ⟨.ref a, rfl, .inl ⟨a, _, 2, _, rfl, rfl, SqL.of haz, atI_2, m, 1, rfl, rfl, ?_⟩⟩
            refine ⟨.ref a, rfl, a, _, 2, 2, rfl, rfl, haz, rfl, ?_⟩
            have ha2 : upd H1 a (.lst [.ref b, .ref c, .int (m + 1)]) a = some (.lst [.ref b, .ref c, .int (m + 1)]) := upd_same
            have hb2 : upd H1 a (.lst [.ref b, .ref c, .int (m + 1)]) b = some (.lst ([] : List V)) := by rw [upd_ne ab.symm]; exact hbz
            have hc2 : upd H1 a (.lst [.ref b, .ref c, .int (m + 1)]) c = some (.lst (ys.map V.int)) := by rw [upd_ne ac.symm]; exact hcz
            have fr2 : Frm (some (a, b, c)) H (upd H1 a (.lst [.ref b, .ref c, .int (m + 1)])) := fun x o h nk => by
              rw [upd_ne fun e => nk (.inl e)]
              exact frz' x o h nk
            show tSeq _ _ _ _ (upd H1 a (.lst [.ref b, .ref c, .int (m + 1)]))
            generalize upd H1 a (.lst [.ref b, .ref c, .int (m + 1)]) = H2 at *
            -- cell
            obtain ⟨y, hy⟩ : ∃ y, ys[((m + 1) % (ys.length : Int)).toNat]? = some y := by
              have l0 : (0 : Int) < ys.length := by omega
              have e1 := Int.emod_nonneg (m + 1) (show (ys.length : Int) ≠ 0 by omega)
              have e2 := Int.emod_lt_of_pos (m + 1) l0
              exact ⟨ys[((m + 1) % (ys.length : Int)).toNat]'(by omega), by rw [List.getElem?_eq_getElem]⟩
            have hat : atI (ys.map V.int) ((m + 1) % (ys.length : Int)) = some (.int y) := by
              have l0 : (0 : Int) < ys.length := by omega
              have e1 := Int.emod_nonneg (m + 1) (show (ys.length : Int) ≠ 0 by omega)
              have e3 : (m + 1) % (ys.length : Int) = ((((m + 1) % (ys.length : Int)).toNat : Nat) : Int) := by omega
              rw [e3]
              refine atI_nat ?_
              rw [List.getElem?_map, hy]
              rfl
            refine ⟨.ref a, rfl, .inl ⟨a, _, 1, _, rfl, rfl, SqL.of ha2, atI_1, ?_⟩⟩
            refine ⟨.ref a, rfl, .inl ⟨a, _, 2, _, rfl, rfl, SqL.of ha2, atI_2, ?_⟩⟩
            refine ⟨.ref a, rfl, .inl ⟨a, _, 1, _, rfl, rfl, SqL.of ha2, atI_1, ?_⟩⟩
            refine ⟨.ref c, (ys.map V.int).length, rfl, .inl ⟨_, SqL.of hc2, rfl⟩, ?_⟩
            refine ⟨m + 1, _, rfl, rfl, by rw [List.length_map]; omega, ?_⟩
            refine .inl ⟨c, _, _, _, rfl, rfl, SqL.of hc2, by rw [List.length_map]; exact hat, ?_⟩
            refine ⟨y, 2147483647, rfl, rfl, (show (0 : Int) < 2147483647 by decide), ?_⟩
            show tSeq _ _ _ [some (.ref a), some (.int many), r2, some (.int (y % 2147483647)), none] H2
            have c1 := Int.emod_nonneg y (show (2147483647 : Int) ≠ 0 by decide)
            have c2 := Int.emod_lt_of_pos y (show (0 : Int) < 2147483647 by decide)
            generalize y % 2147483647 = cell at *
            -- mixed
            refine ⟨.int cell, rfl, ?_⟩
            refine ⟨.ref a, rfl, .inl ⟨a, _, 2, _, rfl, rfl, SqL.of ha2, atI_2, ?_⟩⟩
            refine ⟨39373, m + 1, rfl, rfl, .inl ⟨by decide, by decide⟩, 16807, _, rfl, rfl, cell, _, rfl, rfl, .inl ⟨by omega, by omega⟩, ?_⟩
            refine ⟨.ref a, rfl, .inl ⟨a, _, 2, _, rfl, rfl, SqL.of ha2, atI_2, ?_⟩⟩
            refine ⟨40692, m + 1, rfl, rfl, .inl ⟨by decide, by decide⟩, ?_⟩
            refine ⟨.ref a, rfl, .inl ⟨a, _, 2, _, rfl, rfl, SqL.of ha2, atI_2, ?_⟩⟩
            have hn' : (n : Int) < 2 ^ 60 := by exact_mod_cast hn
            refine ⟨_, m + 1, rfl, rfl, .inr ⟨by omega, by omega⟩, _, _, rfl, rfl, _, 103, rfl, rfl, ?_⟩
            show tSeq _ _ _ [some (.ref a), some (.int many), r2, some (.int cell), some (.int _)] H2
            generalize (cell * (16807 + 39373 * (m + 1)) + 40692 * (m + 1) * (m + 1) + 103) = mix
            refine ⟨.int mix, rfl, mix, 2147483629, rfl, rfl, (show (0 : Int) < 2147483629 by decide), ?_⟩
            show tRet (tOp rModP (tOp rDivP (tOp rModP (tOp rMulP (tVar 4) (tVar 4)) (tC (.int 2147483587))) (tC (.int 16))) (tVar 1)) { nx := fun _ H' => Q .non H', rt := Q } [some (.ref a), some (.int many), r2, some (.int cell), some (.int (mix % 2147483629))] H2
            have d1 := Int.emod_nonneg mix (show (2147483629 : Int) ≠ 0 by decide)
            have d2 := Int.emod_lt_of_pos mix (show (0 : Int) < 2147483629 by decide)
            generalize mix % 2147483629 = w at *
            refine ⟨.int w, rfl, .int w, rfl, w, w, rfl, rfl, .inl ⟨by omega, by omega⟩, _, 2147483587, rfl, rfl, (show (0 : Int) < 2147483587 by decide), _, 16, rfl, rfl, ⟨(show (0 : Int) < 16 by decide), by decide⟩, .int many, rfl, _, many, rfl, rfl, h0, ?_⟩
            refine q _ (n + 1) _ H2 (hd _ (Int.emod_nonneg _ (by omega)) (Int.emod_lt_of_pos _ h0)) (.int _) fr2 ?_
            exact ⟨ab, ac, bc, [], ys, m + 1, ha2, hb2, hc2, y0, yl, by simp, by omega, by push_cast; omega⟩
          | cons x xs' =>
            refine ⟨true, rfl, ?_⟩
            refine iteT ?_
            refine ⟨fun σ' H' => ∃ m', m' < (x :: xs').length ∧ _, fun σ' H' z => z, ?_⟩
            -- rest = deck[0][0]
            refine ⟨.ref a, rfl, .inl ⟨a, _, 0, _, rfl, rfl, SqL.of haz, atI_0, ?_⟩⟩
            refine .inl ⟨b, _, 0, _, rfl, rfl, SqL.of hbz, atI_0, ?_⟩
            show tSeq _ _ _ [some (.ref a), some (.int many), some (.int x), none, none] H1
            refine ⟨.int x, rfl, x, 0, rfl, rfl, _, rfl, ite2 (fun hx => ?_) (fun hx => ?_)⟩
            · have hx' : 0 < x := of_decide_eq_true hx
              refine ⟨.int x, rfl, .int many, rfl, x, many, rfl, rfl, ⟨h0, h9⟩, ?_⟩
              refine ⟨.ref a, rfl, .inl ⟨a, _, 0, _, rfl, rfl, SqL.of haz, atI_0, ?_⟩⟩
              refine ⟨b, _, 0, 0, rfl, rfl, hbz, by simp [ixN], ?_⟩
              refine ⟨.int x, rfl, .int many, rfl, x, many, rfl, rfl, h0, ?_⟩
              refine q _ (n + 1) _ _ (hd _ (Int.emod_nonneg _ (by omega)) (Int.emod_lt_of_pos _ h0)) (.int _) (fun u o h nk => ?_) ?_
              · rw [upd_ne fun e => nk (.inr (.inl e))]
                exact frz' u o h nk
              · refine ⟨ab, ac, bc, (x / many) :: xs', ys, m, by rw [upd_ne ab]; exact haz, by rw [upd_same]; rfl, by rw [upd_ne bc.symm]; exact hcz, y0, yl, by simpa using xl', m0, by push_cast; omega⟩
            · refine ⟨.ref a, rfl, .inl ⟨a, _, 0, _, rfl, rfl, SqL.of haz, atI_0, ?_⟩⟩
              refine ⟨.inl ⟨rfl, _, SqL.of hbz⟩, ?_⟩
              refine ⟨b, _, 0, 0, .int x, rfl, rfl, hbz, by decide, by decide, ?_, rfl, ?_⟩
              · simp [seqIndex?]
              · refine ⟨xs'.length, by simp, xs', some (.int x), rfl, rfl, by rw [upd_ne ab]; exact haz, by rw [upd_same]; rfl, by rw [upd_ne bc.symm]; exact hcz, by simp at xl'; omega, fun u o h nk => ?_⟩
                rw [upd_ne fun e => nk (.inr (.inl e))]
                exact frz' u o h nk

/-! ### the deck is made -/
abbrev rAbsA : List V → Hp → VK → Prop := fun xs H Q => ∃ i, xs = [.int i] ∧ Q (.int (if i < 0 then -i else i)) H
abbrev rGeI : R2 := rI0 fun i j => .bl (decide (j ≤ i))
abbrev rPowI : R2 := rI CPow fun i j => .int (i ^ j.toNat)
def t_deck (K : PySem.W.Frag) : TS :=
  tSeq (tAsg (tLc (iList K (tVar 0)) (gName 2) tYes (tCB rAbsA (tCons (tVar 2) tNil)) [2]) (gName 1))
    (tRet (tLst (tCons (tLc (iList K (tVar 1)) (gName 2) (tTest (tOp rGeI (tVar 2) (tOp rPowI (tC (.int 10)) (tC (.int 18))))) (tVar 2) [2])
      (tCons (tOp rCat (tVar 1) (tLst (tCons (tOp rAddI (tCB (rLenA K) (tCons (tVar 1) tNil)) (tC (.int 3))) tNil))) (tCons (tC (.int 0)) tNil)))))
/-- _law_deck(script) -/
def spDeck (K : PySem.W.Frag) : Sp := fun vs H Q _ => ∃ (s : Addr) (ns : List Int), vs = [.ref s] ∧ SqL K H s (ns.map V.int) ∧ ns.length ≤ 63 ∧
  ∀ H' a b c, Same H H' → H a = none → H b = none → H c = none → DkOk H' (some (a, b, c)) 0 → Q (.ref a) H'
theorem pure_deck (vs : List V) (H : Hp) (Q : VK) (E : XK) (h : spDeck K vs H Q E) : t_deck K { nx := fun _ H' => Q .non H', rt := Q } (L2.start ["_law_script", "_law_cells", "_law_cell"] vs) H := by
  obtain ⟨s, ns, rfl, hS, hl, q⟩ := h
  have st0 : L2.start ["_law_script", "_law_cells", "_law_cell"] [V.ref s] = [some (.ref s), none, none] := rfl
  rw [st0]
  refine ⟨_, rfl, s, rfl, ⟨_, hS⟩, fun D1 h1 => ?_⟩
  refine lc_list (K := K) (a := s) (xs := ns.map V.int) (fun i H' => Same H H' ∧ ∃ cs : List Int, H' D1 = some (.lst (cs.map V.int)) ∧ cs.length = i) ⟨same_upd h1, [], upd_same, rfl⟩ (fun i H' _ p => p.1.seq hS) ?_ ?_
  · rintro i x H' hx ⟨sm, cs, hc, hn⟩
    obtain ⟨y, hy, rfl⟩ : ∃ y, ns[i]? = some y ∧ x = V.int y := by
      rw [List.getElem?_map] at hx
      cases e : ns[i]? with
      | none => rw [e] at hx; cases hx
      | some z => rw [e] at hx; exact ⟨z, rfl, (Option.some.inj hx).symm⟩
    have hi : i < ns.length := (List.getElem?_eq_some_iff.mp hy).1
    refine ⟨rfl, ?_⟩
    dsimp only [tYes]
    rw [if_pos rfl]
    refine ⟨.int y, rfl, y, rfl, cs.map V.int, hc, by rw [List.length_map, big_eq, big_val]; omega, fun b o e => ?_, cs ++ [if y < 0 then -y else y], by rw [upd_same]; simp, by simp [hn]⟩
    have : b ≠ D1 := fun z => by subst z; rw [h1] at e; cases e
    rw [upd_ne this]
    exact sm b o e
  · rintro H1 ⟨sm1, cs, hc1, hn1⟩
    have ln : cs.length ≤ 63 := by rw [hn1, List.length_map]; exact hl
    refine ⟨_, rfl, D1, rfl, ⟨_, SqL.of hc1⟩, fun D2 h2 => ?_⟩
    have d12 : D1 ≠ D2 := ne_of_none hc1 h2
    refine lc_list (K := K) (a := D1) (xs := cs.map V.int) (fun i H' => Same H H' ∧ H' D1 = some (.lst (cs.map V.int)) ∧ ∃ bs : List Int, H' D2 = some (.lst (bs.map V.int)) ∧ bs.length ≤ i) ⟨sm1.trans (same_upd h2), by rw [upd_ne d12]; exact hc1, [], upd_same, Nat.le_refl _⟩ (fun i H' _ p => SqL.of p.2.1) ?_ ?_
    · rintro i x H' hx ⟨sm, hc, bs, hb, hn⟩
      obtain ⟨y, hy, rfl⟩ : ∃ y, cs[i]? = some y ∧ x = V.int y := by
        rw [List.getElem?_map] at hx
        cases e : cs[i]? with
        | none => rw [e] at hx; cases hx
        | some z => rw [e] at hx; exact ⟨z, rfl, (Option.some.inj hx).symm⟩
      have hi : i < cs.length := (List.getElem?_eq_some_iff.mp hy).1
      refine ⟨rfl, ?_⟩
      refine ⟨.int y, rfl, 10, 18, rfl, rfl, ⟨by decide, by decide, by decide⟩, y, _, rfl, rfl, _, rfl, ?_⟩
      refine ite2 (fun _ => ?_) (fun _ => ⟨sm, hc, bs, hb, by omega⟩)
      refine ⟨.int y, rfl, bs.map V.int, hb, by rw [List.length_map, big_eq, big_val]; omega, fun b o e => ?_, by rw [upd_ne d12]; exact hc, bs ++ [y], by rw [upd_same]; simp, by simp; omega⟩
      have : b ≠ D2 := fun z => by
        subst z
        rw [sm1 _ _ e] at h2
        cases h2
      rw [upd_ne this]
      exact sm b o e
    · rintro H2 ⟨sm2, hc2, bs, hb2, hn2⟩
      refine ⟨.ref D1, rfl, .ref D1, rfl, .ref D1, (cs.map V.int).length, rfl, .inl ⟨_, SqL.of hc2, rfl⟩, _, 3, rfl, rfl, (show 1 ≤ sizeLine by decide), fun p1 hp1 => ?_⟩
      have hc3 : upd H2 p1 (.lst [V.int (((cs.map V.int).length : Nat) + 3)]) D1 = some (.lst (cs.map V.int)) := by rw [upd_ne (ne_of_none hc2 hp1)]; exact hc2
      have hb3 : upd H2 p1 (.lst [V.int (((cs.map V.int).length : Nat) + 3)]) D2 = some (.lst (bs.map V.int)) := by rw [upd_ne (ne_of_none hb2 hp1)]; exact hb2
      have sm3 : Same H (upd H2 p1 (.lst [V.int (((cs.map V.int).length : Nat) + 3)])) := sm2.trans (same_upd hp1)
      have hp3 : upd H2 p1 (.lst [V.int (((cs.map V.int).length : Nat) + 3)]) p1 = some (.lst [V.int (((cs.map V.int).length : Nat) + 3)]) := upd_same
      refine ⟨D1, p1, _, _, rfl, rfl, hc3, hp3, by rw [List.length_map, big_eq, big_val]; simp; omega, fun p2 hp2 => ?_⟩
      refine ⟨(show 3 ≤ sizeLine by decide), fun p4 hp4 => ?_⟩
      generalize upd H2 p1 (.lst [V.int (((cs.map V.int).length : Nat) + 3)]) = H3 at *
      have hlt : ((cs.map V.int).length : Int) + 3 = ((cs.length + 3 : Nat) : Int) := by rw [List.length_map]; push_cast; rfl
      have hcat : upd H3 p2 (.lst (cs.map V.int ++ [V.int (((cs.map V.int).length : Nat) + 3)])) p2 = some (.lst ((cs ++ [((cs.length + 3 : Nat) : Int)]).map V.int)) := by
        rw [upd_same, List.map_append]
        show some (HO.lst (cs.map V.int ++ [V.int (((cs.map V.int).length : Nat) + 3)])) = _
        rw [hlt]
        rfl
      have hb4 : upd H3 p2 (.lst (cs.map V.int ++ [V.int (((cs.map V.int).length : Nat) + 3)])) D2 = some (.lst (bs.map V.int)) := by rw [upd_ne (ne_of_none hb3 hp2)]; exact hb3
      have sm4 : Same H (upd H3 p2 (.lst (cs.map V.int ++ [V.int (((cs.map V.int).length : Nat) + 3)]))) := sm3.trans (same_upd hp2)
      have hp2' : H p2 = none := sm3.free hp2
      generalize upd H3 p2 (.lst (cs.map V.int ++ [V.int (((cs.map V.int).length : Nat) + 3)])) = H4 at *
      have hD2 : H D2 = none := sm1.free h2
      have n1 : D2 ≠ p4 := ne_of_none hb4 hp4
      have n2 : p2 ≠ p4 := ne_of_none hcat hp4
      have n3 : D2 ≠ p2 := ne_of_none hb3 hp2
      refine q _ p4 D2 p2 (sm4.trans (same_upd hp4)) (sm4.free hp4) hD2 hp2' ⟨n1.symm, n2.symm, n3, bs, cs ++ [((cs.length + 3 : Nat) : Int)], 0, upd_same, by rw [upd_ne n1]; exact hb4, by rw [upd_ne n2]; exact hcat, by simp, by simp; omega, ?_, Int.le_refl _, by simp⟩
      rw [List.length_map] at hn2
      omega
end

/-! ### the law's own def -/
/-- law(script): the deck first, then the rest, which gives True -/
def spLaw (K : PySem.W.Frag) : Sp := fun vs H Q _ => ∃ (s : Addr) (ns : List Int), vs = [.ref s] ∧ SqL K H s (ns.map V.int) ∧ ns.length ≤ 63 ∧ (∀ H', Q (.bl true) H')
/-- the rest gives True, whatever is drawn -/
def Gives (N : Nat) (φ : Env' → MS) : Prop := φ ([.un, .sh .dk] ++ List.replicate N .un) 0 (fun r _ => r.1 = .rt (.bl true)) (fun _ _ _ => False)
theorem law_in {K : PySem.W.Frag} {mg : Str → Option Value} {W : WY} {N : Nat} {φ : Env' → MS} (hφ : Gives N φ) {s : Addr} {ns : List Int} {H : Hp} {Q : VK} {E : St → XK} (hS : SqL K H s (ns.map V.int)) (hl : ns.length ≤ 63) (hQ : ∀ H', Q (.bl true) H') :
    tSeq (tAsg (tCallS (spDeck K) E (tCons (tVar 0) tNil)) (gName 1)) (tS K mg W φ) { nx := fun _ H' => Q .non H', rt := Q } ([some (V.ref s), none] ++ List.replicate N none) H := by
  refine ⟨.ref s, rfl, s, ns, rfl, hS, hl, fun H' a b c sm h1 h2 h3 dk => ?_⟩
  refine ⟨⟨some (a, b, c), inDk (some (a, b, c))⟩, 0, [Slot.un, Slot.sh .dk] ++ List.replicate N Slot.un, fun r _ => r.1 = Fl.rt (.bl true), fun _ _ _ => False, ?_, hφ, ?_⟩
  · have no : ∀ (i : Nat) (es : List D), ([Slot.un, .sh .dk] ++ List.replicate N .un)[i]? ≠ some (Slot.own es) := fun i es h => by
      match i with
      | 0 => cases h
      | 1 => cases h
      | i + 2 =>
        rw [List.getElem?_append_right (by simp), List.getElem?_replicate] at h
        split at h <;> cases h
    refine ⟨by simp, fun i d h => ?_, fun i es h => absurd h (no i es), fun i j es fs x h _ _ _ => absurd h (no i es), dk, fun x h => dk.there h, fun x h => h⟩
    match i with
    | 0 => cases h
    | 1 =>
      cases h
      exact ⟨.ref a, rfl, .dk rfl⟩
    | i + 2 =>
      rw [List.getElem?_append_right (by simp), List.getElem?_replicate] at h
      split at h <;> cases h
  · refine ⟨fun e n σ' H'' q _ _ => Fl.noConfusion (show Fl.nx = Fl.rt (.bl true) from q), fun e n σ' H'' q _ _ => Fl.noConfusion (show Fl.bk = Fl.rt (.bl true) from q), fun e n σ' H'' q _ _ => Fl.noConfusion (show Fl.ct = Fl.rt (.bl true) from q), fun d e n v H'' q r _ _ => ?_, fun x e n σ' H'' cls dd q _ _ _ => False.elim q⟩
    have q' : Fl.rt d = .rt (.bl true) := q
    cases q'
    cases r
    exact hQ H''
end Den

set_option autoImplicit true
set_option Elab.async false
set_option linter.all false
set_option maxRecDepth 100000
set_option maxHeartbeats 2000000
set_option autoImplicit false
namespace Den
open PySem PySem.Spec PyProof.Rows L2

/-! ### a def by its name -/
/-- the def that the module's name x stands for does φ with data, at level k -/
structure OkF (P : Program) (w : World) (K : PySem.W.Frag) (mg : Str → Option Value) (base : Heap) (x : Str) (ar k : Nat) (φ : List D → M D) : Prop where
  ex : ∃ (a : Addr) (fd : FuncData) (ps : List Str), mg x = some (.ref a) ∧ PySem.W.keepIn K (.ref a) = true ∧ Binds K fd ps [] ∧ FnOk P w K mg base (L2N.CX P w) k a fd ps (spD K mg ar φ)
theorem dE_f {X : Cx} {W : WY} {e : Expr} {es : List Expr} {χ : Env' → M (List D)} {ar k j : Nat} {φ : List D → M D} {x : Str} {p pos : Pos} (O : OkF X.prog X.w X.K X.mg X.base x ar k φ) (hr : Room j X.A) (tk : L2N.Takes X W.w) (ha : DA X W (e :: es) χ)
    (hk : k ≤ j := by decide) (hx : W.ex = none := by rfl) (hg : Gl X x := by rfl) (hdb : (x == ("__debug__" : Str)) = false := by decide)
    (he : starEach (e :: es) X.env = (false, eval e X.env) :: starEach es X.env := by rfl) (hpl : (backTo pos (starEach es X.env)).any (·.1) = false := by rfl) : DE X W (.Call (.Name x p) (e :: es) [] pos) (eCall ar φ χ) := by
  obtain ⟨a, fd, ps, hm, hkp, hb, F⟩ := O.ex
  exact dE_call F (hr.mono hk) hm hkp hb tk hx ha hg hdb he hpl
theorem okF_mk {P : Program} {w : World} {K : PySem.W.Frag} {mg : Str → Option Value} {base : Heap} {x qual : Str} {params : Arguments} {body : List Stmt} {scope : Scope} {kws : List (Str × V)} {f : Addr} {fd : FuncData} {N ps : List Str} {k : Nat} {φ : Env' → MS}
    (F : FunD K x qual params body scope [] kws f fd) (hm : mg x = some (.ref f)) (S : FnScope N ps scope)
    (hbi : ∀ (kV doc pm : Value) (an : Option Addr) (cdv ct : Value) (us : List Value), us.length = ps.length → bindArgs (PySem.W.fnOf x qual params body scope .none kV doc pm an cdv ct) ⟨us, []⟩ = pure (ps.zip us))
    (hb : ∀ (cdv : Value) (A : Around) (outer : List Env) (s : Shared) (H : Hp) (E : XK), Room k (A.deeper (envOfC qual scope s.heap.objs.size f cdv)) →
      DSs (cxOf (L2N.CX P w) P w K mg base N qual scope f cdv A outer s H E) ⟨fun cls d _ H' => E cls d H', none⟩ body φ) :
    OkF P w K mg base x ps.length (k + 1) (fnD N.length φ) := ⟨f, fd, ps, hm, F.kp, F.bindsN hbi, fn_okD F S hb⟩
/-- code that is not reached -/
def sNever : Env' → MS := fun _ _ _ _ => False
theorem dS_never {X : Cx} {W : WY} {st : Stmt} : DS X W st sNever := PS.imp ps_never fun D σ H ⟨g, n, env, Qd, Ed, R0, p, s⟩ => p.elim
theorem dS_append {X : Cx} {W : WY} {i : Nat} {o e : Expr} {φa : Env' → M D} {p p2 pos : Pos} (ho : PE X o (tVar i)) (ha : DE X W e φa) (hbase : attributeBase o "append" X.env (eval o X.env) = eval o X.env := by rfl)
    (hfew : ((backTo p2 (starEach [e] X.env)).all (fun x => !x.1) && (backToKw p2 (keywordEach [] X.env)).all (fun x => x.1.isSome)
      && decide ([e].length + ([] : List Keyword).length + (if ([] : List Keyword).isEmpty then 0 else 1) < 30)) = true := by rfl)
    (hline : (p.endLine == p2.line) = true := by rfl) (hn : starEach [e] X.env = (false, eval e X.env) :: starEach [] X.env := by rfl) (hplain : (backTo p2 (starEach [] X.env)).any (·.1) = false := by rfl)
    (hs : swapsWith (.Call (.Attribute o "append" p) [e] [] p2) none pos.line X.env = pure false := by rfl) : DS X W (.Expr (.Call (.Attribute o "append" p) [e] [] p2) pos) (sApp i φa) :=
  dS_app ho ha hn (pe_bm PySem.F.plainAttrs_list PySem.F.slot_list_append PySem.F.type_list_append mt_append ho (pa_cons ha pa_nil hn) hbase hfew hline hn hplain) hs
theorem dS_extend {X : Cx} {W : WY} {i : Nat} {o e : Expr} {φa : Env' → M D} {p p2 pos : Pos} (ho : PE X o (tVar i)) (ha : DE X W e φa) (hbase : attributeBase o "extend" X.env (eval o X.env) = eval o X.env := by rfl)
    (hfew : ((backTo p2 (starEach [e] X.env)).all (fun x => !x.1) && (backToKw p2 (keywordEach [] X.env)).all (fun x => x.1.isSome)
      && decide ([e].length + ([] : List Keyword).length + (if ([] : List Keyword).isEmpty then 0 else 1) < 30)) = true := by rfl)
    (hline : (p.endLine == p2.line) = true := by rfl) (hn : starEach [e] X.env = (false, eval e X.env) :: starEach [] X.env := by rfl) (hplain : (backTo p2 (starEach [] X.env)).any (·.1) = false := by rfl)
    (hs : swapsWith (.Call (.Attribute o "extend" p) [e] [] p2) none pos.line X.env = pure false := by rfl) : DS X W (.Expr (.Call (.Attribute o "extend" p) [e] [] p2) pos) (sExt i φa) :=
  dS_ext ho ha hn (pe_bm PySem.F.plainAttrs_list PySem.F.slot_list_extend PySem.F.type_list_extend mt_extend ho (pa_cons ha pa_nil hn) hbase hfew hline hn hplain) hs
/-! ### slices of tuples and lists -/
def optI : Option D → Option (Option Int)
  | none => some none
  | some (.int i) => some (some i)
  | some _ => none
def cutD (xs : List D) (lo hi : Option Int) : List D := (xs.drop (HT.sIx xs.length 0 lo)).take (HT.sIx xs.length xs.length hi - HT.sIx xs.length 0 lo)
def slD : D → Option Int → Option Int → Option D
  | .tup xs, lo, hi => some (.tup (cutD xs lo hi))
  | .lst xs, lo, hi => some (.lst (cutD xs lo hi))
  | _, _, _ => none
def ePart (a : Env' → M D) : Env' → M (Option Int) := fun env => bnd (a env) fun x => opt (optI (some x))
def eNoPart : Env' → M (Option Int) := fun _ => ret none
def relO {ex : EX} : Gh ex → Env' → St → Option Int → Option Int → Hp → Prop := fun _ _ _ a b _ => b = a
def DO (X : Cx) (W : WY) (e : Option Expr) (φ : Env' → M (Option Int)) : Prop := PO X e (tX X.K X.mg W relO φ)
theorem PO.imp {X : Cx} {e : Option Expr} {t u : TO} (h : PO X e t) (i : ∀ σ H Q, u σ H Q → t σ H Q) : PO X e u := ⟨fun p s σ H Q I q => h.run p s σ H Q I (i σ H Q q)⟩
def eSl (a : Env' → M D) (lo hi : Env' → M (Option Int)) : Env' → M D := fun env => bnd (a env) fun x => bnd (lo env) fun l => bnd (hi env) fun h => opt (slD x l h)
section
variable {X : Cx} {W : WY} {a : Expr} {lo hi : Option Expr} {φa : Env' → M D} {φl φh : Env' → M (Option Int)} {pos p2 : Pos}
theorem dO_none : DO X W none eNoPart := PO.imp po_none fun σ H Q ⟨g, n, env, Qd, Ed, R, p, q, r⟩ => q none n none H p rfl (Frm.refl _ _) R.dk
theorem dO_some (h : DE X W a φa) : DO X W (some a) (ePart φa) := by
  refine PO.imp (po_some h) fun σ H Q hh => ?_
  refine tX_bnd (rel2 := relO) (f := fun x env => opt (optI (some x))) hh fun g env n dx x H1 Qd Ed R1 rx p q r => ?_
  obtain ⟨b, e, qd⟩ := opt_some p
  cases dx <;> simp only [optI] at e <;> first | (cases e; done) | skip
  cases e
  cases rx
  exact ⟨_, rfl, q _ n _ H1 qd rfl (Frm.refl _ _) R1.dk⟩
theorem repL_cut {K : PySem.W.Frag} {H : Hp} {P : Addr → Prop} {k : KA} {ds : List D} {vs : List V} (r : RepL K H P k ds vs) (l h : Option Int) : RepL K H P k (cutD ds l h) (cutV vs l h) := by
  unfold cutD cutV
  rw [r.len]
  exact (r.drop _).take _
theorem cutD_whole {ds : List D} {l h : Option Int} (h1 : HT.sIx ds.length 0 l = 0) (h2 : HT.sIx ds.length ds.length h = ds.length) : cutD ds l h = ds := by
  unfold cutD
  rw [h1, h2]
  simp
def rSlAny (K : PySem.W.Frag) : V → Option Int → Option Int → Hp → VK → Prop := fun x l u H Q => rSlA K x l u H Q ∨ rSlL K x l u H Q
theorem dE_sl (ha : DE X W a φa) (hl : DO X W lo φl) (hh : DO X W hi φh) : DE X W (.Subscript a (.Slice lo hi none p2) pos) (eSl φa φl φh) := by
  refine PE.imp (pe_slice (r := rSlAny X.K) (SlR.or sl_tupA sl_list) ha hl hh) fun σ H Q hq => ?_
  refine tX_bnd (f := fun x env => bnd (φl env) fun l => bnd (φh env) fun h => opt (slD x l h)) hq fun g env n dx x H1 Qd Ed R1 rx p q r => ?_
  refine tX_in (φ := φl) R1 p (fun l n2 l' H2 p2 el f2 k2 => ?_) r
  have el' : l' = l := el
  subst el'
  have R2 := R1.frm f2 k2
  refine tX_in (φ := φh) R2 p2 (fun h n3 h' H3 p3 eh f3 k3 => ?_) (fun x n' cls dd H' a b c e => r x n' cls dd H' a b (f2.trans c) e)
  have eh' : h' = h := eh
  subst eh'
  have R3 := R2.frm f3 k3
  obtain ⟨d, e, qd⟩ := opt_some p3
  have rx3 : Rep X.K H3 (pv g env σ) (kA g) dx x := (rx.to (f2.ext fun a z => .inl (R1.kp a z))).to (f3.ext fun a z => .inl (R1.kp a z))
  cases dx <;> simp only [slD] at e <;> first | (cases e; done) | skip
  · cases e
    cases rx3 with
    | tup h1 h2 =>
      rename_i a xs
      refine .inl ⟨a, xs, rfl, h1.sq, fun hw => ?_, fun hw p hp => ?_⟩
      · rw [h2.len] at hw
        exact q _ n3 _ H3 qd (by rw [cutD_whole hw.1 hw.2]; exact .tup h1 h2) (f2.trans f3) k3
      · exact q _ n3 _ _ qd (rep_new_tup R3.there hp (repL_cut h2 _ _)) ((f2.trans f3).trans (Same.frm (same_upd hp))) (k3.same (same_upd hp))
  · cases e
    cases rx3 with
    | lst h1 np h2 =>
      rename_i a xs
      exact .inr ⟨a, xs, rfl, SqL.of h1, fun p hp => q _ n3 _ _ qd (rep_new_lst R3.there hp (repL_cut h2 _ _)) ((f2.trans f3).trans (Same.frm (same_upd hp))) (k3.same (same_upd hp))⟩
end
end Den

set_option autoImplicit true
set_option Elab.async false
set_option linter.all false
set_option maxRecDepth 100000
set_option maxHeartbeats 2000000
set_option autoImplicit false
namespace Den
open PySem PySem.Spec PyProof.Rows L2

/-! ### isinstance of data -/
inductive Ty where
  | int | bool | str | tup | lst | dict
  deriving DecidableEq
def Ty.nm : Ty → String
  | .int => "int" | .bool => "bool" | .str => "str" | .tup => "tuple" | .lst => "list" | .dict => "dict"
/-- whether a datum is an instance of a built-in class -/
def isT : Ty → D → Option Bool
  | _, .dk => none
  | _, .exc _ _ _ => none
  | .int, .int _ => some true
  | .int, .bl _ => some true
  | .bool, .bl _ => some true
  | .str, .str _ => some true
  | .tup, .tup _ => some true
  | .lst, .lst _ => some true
  | .dict, .emp => some true
  | _, _ => some false
def tyN : D → String
  | .non => "NoneType" | .bl _ => "bool" | .int _ => "int" | .str _ => "str" | .tup _ => "tuple" | .lst _ => "list" | .emp => "dict" | .dk => "list" | .exc _ _ _ => "list"
def tyK : D → Bool
  | .dk => false
  | .exc _ _ _ => false
  | _ => true
theorem kit_all : ∀ t ∈ [Ty.int, .bool, .str, .tup, .lst, .dict], ∀ d ∈ [D.non, .bl true, .int 0, .str "", .tup [], .lst [], .emp], kitB (tyN d) t.nm = isT t d := by decide +kernel
theorem kit_is (t : Ty) (d : D) (b : Bool) (h : isT t d = some b) : kitB (tyN d) t.nm = some b := by
  have ht : t ∈ [Ty.int, .bool, .str, .tup, .lst, .dict] := by cases t <;> simp
  have k := kit_all t ht
  cases d with
  | non => rw [← h]; exact k .non (by simp)
  | bl x =>
    have e : isT t (.bl x) = isT t (.bl true) := by cases t <;> rfl
    rw [← h, e]; exact k (.bl true) (by simp)
  | int x =>
    have e : isT t (.int x) = isT t (.int 0) := by cases t <;> rfl
    rw [← h, e]; exact k (.int 0) (by simp)
  | str x =>
    have e : isT t (.str x) = isT t (.str "") := by cases t <;> rfl
    rw [← h, e]; exact k (.str "") (by simp)
  | tup x =>
    have e : isT t (.tup x) = isT t (.tup []) := by cases t <;> rfl
    rw [← h, e]; exact k (.tup []) (by simp)
  | lst x =>
    have e : isT t (.lst x) = isT t (.lst []) := by cases t <;> rfl
    rw [← h, e]; exact k (.lst []) (by simp)
  | emp => rw [← h]; exact k .emp (by simp)
  | dk => cases t <;> cases h
  | exc => cases t <;> cases h
theorem rep_ty {K : PySem.W.Frag} {H : Hp} {P : Addr → Prop} {k : KA} {d : D} {v : V} (r : Rep K H P k d v) (hd : tyK d = true) : TyX K H v (.type (tyN d)) := by
  cases r with
  | non => exact .base .non
  | bl b => exact .base (.bl b)
  | int i => exact .base (.int i)
  | str x => exact .base (.str x)
  | tup h1 h2 =>
    rcases h1 with ⟨h | ⟨o, h⟩, np⟩ | ⟨o, its, n, h, c, _⟩
    · exact .base (.tup h)
    · exact .fTuple h
    · exact .kTuple h c
  | lst h1 np h2 => exact .base (.lst h1)
  | emp h1 np => exact .base (.dK h1)
  | dk e => cases hd
  | exc => cases hd
  | fn => cases hd
  | ex0 => cases hd
def oIsi (t : Ty) (d : D) : Option D := (isT t d).map D.bl
/-- an instance of one of several -/
def anyT : List Ty → D → Option Bool
  | [], .dk => none
  | [], .exc _ _ _ => none
  | [], _ => some false
  | t :: ts, d => (isT t d).bind fun b => (anyT ts d).map fun c => b || c
def oIsiT (ts : List Ty) (d : D) : Option D := (anyT ts d).map D.bl
section
variable {X : Cx} {W : WY} {a : Expr} {φa : Env' → M D} {p pos p2 : Pos}
theorem boot_isi : bootBuiltins "isinstance" = some (.builtin "isinstance") := by decide +kernel
def Ty.py : Ty → Str
  | .int => "int" | .bool => "bool" | .str => "str" | .tup => "tuple" | .lst => "list" | .dict => "dict"
theorem boot_ty (t : Ty) : bootBuiltins t.py = some (.type t.nm) := by
  cases t <;> decide +kernel
theorem ty_ne (t : Ty) : t.py ≠ "__name__" ∧ (t.py == ("__debug__" : Str)) = false := by
  cases t <;> decide
theorem ne_dk {t : Ty} {d : D} {b : Bool} (h : isT t d = some b) : tyK d = true := by
  cases d <;> first | rfl | (cases t <;> cases h)
/-- a built-in class as a value -/
theorem pe_ty (t : Ty) {x : Str} (hx : x = t.py) (hm : X.mg x = none) (hg : Gl X x) : PE X (.Name x p) (tC (.ty t.nm)) := by
  subst hx
  exact pe_bltn hg hm (boot_ty t) rfl (ty_ne t).1 (ty_ne t).2
theorem dE_isi (t : Ty) {x : Str} (hm : X.mg "isinstance" = none) (hmx : X.mg x = none) (ha : DE X W a φa) (hx : x = t.py := by rfl) (hg : Gl X "isinstance" := by rfl) (hgx : Gl X x := by rfl)
    (hn : starEach [a, .Name x p2] X.env = (false, eval a X.env) :: starEach [.Name x p2] X.env := by rfl) (hpl : (backTo pos (starEach [.Name x p2] X.env)).any (·.1) = false := by rfl) : DE X W (.Call (.Name "isinstance" p) [a, .Name x p2] [] pos) (eUn (oIsi t) φa) := by
  refine PE.imp (pe_callB call_isi hg hm boot_isi (pa_cons ha (pa_cons (pe_ty t hx hmx hgx) pa_nil) hn) (by decide) (by decide) hn hpl) fun σ H Q hh => ?_
  refine tX_bnd (f := fun x env => opt (oIsi t x)) hh fun g env n dx x H1 Qd Ed R1 rx p q r => ?_
  obtain ⟨d, e, qd⟩ := opt_some p
  unfold oIsi at e
  cases hb : isT t dx with
  | none => rw [hb] at e; cases e
  | some b =>
    rw [hb] at e
    cases e
    exact ⟨x, .ty t.nm, _, _, b, rfl, .ty _, rep_ty rx (ne_dk hb), kit_ty (kit_is t dx b hb), q _ n _ H1 qd (.bl b) (Frm.refl _ _) R1.dk⟩
def DTy (X : Cx) (es : List Expr) (ts : List Ty) : Prop := PA X es fun _ H Q => Q (ts.map fun t => V.ty t.nm) H
theorem dTy_nil : DTy X [] [] := PA.imp pa_nil fun _ _ _ h => h
theorem dTy_cons (t : Ty) {x : Str} {es : List Expr} {ts : List Ty} (hmx : X.mg x = none) (h : DTy X es ts) (hx : x = t.py := by rfl) (hgx : Gl X x := by rfl) (hs : starEach (.Name x p :: es) X.env = (false, eval (.Name x p) X.env) :: starEach es X.env := by rfl) : DTy X (.Name x p :: es) (t :: ts) :=
  PA.imp (pa_cons (pe_ty t hx hmx hgx) h hs) fun _ _ _ h => h
theorem any_kit {K : PySem.W.Frag} {d : D} : ∀ {ts : List Ty} {b : Bool}, anyT ts d = some b → PySem.W.kitAny K (.type (tyN d)) (ts.map fun t => Value.type t.nm) = some b
  | [], b, h => by
    cases d <;> simp only [anyT] at h <;> first | (cases h; done) | (cases h; rfl)
  | t :: ts, b, h => by
    simp only [anyT] at h
    cases h1 : isT t d with
    | none => rw [h1] at h; cases h
    | some c =>
      rw [h1] at h
      cases h2 : anyT ts d with
      | none => rw [h2] at h; cases h
      | some e =>
        rw [h2] at h
        have hb : (c || e) = b := Option.some.inj h
        refine kitAny_cons (b := c) (kit_ty (kit_is t d c h1)) (fun hc => ?_) fun hc => ?_
        · subst hc
          rw [← hb]
          exact any_kit h2
        · subst hc
          rw [← hb]
          rfl
theorem clsV_all : ∀ ts : List Ty, Paired ClsV (ts.map fun t => V.ty t.nm) (ts.map fun t => Value.type t.nm)
  | [] => .nil
  | t :: ts => .cons (.ty _) (clsV_all ts)
theorem dE_isiT {ts : List Ty} {es : List Expr} {k : Nat} (hm : X.mg "isinstance" = none) (ha : DE X W a φa) (ht : DTy X es ts) (hl : ts.length ≤ 16 := by decide) (hne : ts ≠ [] := by decide) (hg : Gl X "isinstance" := by rfl)
    (hn : starEach [a, .Tuple es k p2] X.env = (false, eval a X.env) :: starEach [.Tuple es k p2] X.env := by rfl) (hn2 : starEach [.Tuple es k p2] X.env = (false, eval (.Tuple es k p2) X.env) :: starEach [] X.env := by rfl) (hpl : (backTo pos (starEach [.Tuple es k p2] X.env)).any (·.1) = false := by rfl) :
    DE X W (.Call (.Name "isinstance" p) [a, .Tuple es k p2] [] pos) (eUn (oIsiT ts) φa) := by
  refine PE.imp (pe_callB call_isiT hg hm boot_isi (pa_cons ha (pa_cons (pe_tup ht) pa_nil hn2) hn) (by decide) (by decide) hn hpl) fun σ H Q hh => ?_
  refine tX_bnd (f := fun x env => opt (oIsiT ts x)) hh fun g env n dx x H1 Qd Ed R1 rx p q r => ?_
  obtain ⟨d, e, qd⟩ := opt_some p
  unfold oIsiT at e
  cases hb : anyT ts dx with
  | none => rw [hb] at e; cases e
  | some b =>
    rw [hb] at e
    cases e
    have nd : tyK dx = true := by
      cases ts with
      | nil => exact absurd rfl hne
      | cons t ts => cases dx <;> first | rfl | (cases t <;> cases hb)
    refine ⟨by rw [List.length_map, big_eq, big_val]; omega, fun tp htp => ?_⟩
    exact ⟨x, tp, _, _, _, b, rfl, upd_same, clsV_all ts, rep_ty (rx.to (Same.ext (same_upd htp))) nd, any_kit hb, q _ n _ _ qd (.bl b) (Same.frm (same_upd htp)) (R1.dk.same (same_upd htp))⟩
end
/-- a promise that lets nothing out, where the wish about exceptions does not matter -/
theorem FnOk.cx0 {P : Program} {w : World} {K : PySem.W.Frag} {mg : Str → Option Value} {base : Heap} {k : Nat} {f : Addr} {fd : FuncData} {ps : List Str} {sp : Sp} (F : FnOk P w K mg base (L2N.CX P w) k f fd ps sp)
    (h : ∀ vs H Q E, sp vs H Q E → sp vs H Q (fun _ _ _ => False)) : FnOk P w K mg base CX0 k f fd ps sp :=
  ⟨F.len, fun A outer s H args us vs Q E hr he hb hv hs => codeAny_mono (F.run A outer s H args us vs Q (fun _ _ _ => False) hr he hb hv (h _ _ _ _ hs)) fun r s' q => by
    cases r with
    | error e =>
      obtain ⟨_, _, _, _, _, _, _, _, _, _, _, _, z⟩ := q
      exact z
    | ok fl =>
      cases fl <;> exact q⟩
/-- a fresh list's data -/
def fLst (as : Env' → M (List D)) : Env' → M (List D) := fun env => bnd (as env) fun xs => if xs.length ≤ big then ret xs else fail
def fList (a : Env' → M D) : Env' → M (List D) := fun env => bnd (a env) fun x => opt (itL x)
end Den

set_option autoImplicit true
set_option Elab.async false
set_option linter.all false
set_option maxRecDepth 100000
set_option maxHeartbeats 2000000
set_option autoImplicit false
namespace Den
open PySem PySem.Spec PyProof.Rows L2

/-! ### two names at once, one of them a fresh empty list that it owns -/
section
variable {K : PySem.W.Frag}
theorem Rl.newOwn {ex : EX} {g : Gh ex} {H1 H2 : Hp} {σ : St} {n : Nat} {env : Env'} {i : Nat} {l : Addr} (R1 : Rl K g H1 σ n env) (hi : i < env.length) (hs : Same H1 H2) (hl : H1 l = none) (hl2 : H2 l = some (.lst [])) :
    Rl K g H2 (σ.set i (some (.ref l))) n (env.set i (.own [])) ∧ Stp g H1 σ env H2 (σ.set i (some (.ref l))) (env.set i (.own [])) := by
  have x : Ext (pv g env σ) H1 (fun b => pv g env σ b ∨ b = l) H2 := ⟨fun a o h _ => hs a o h, fun a h => by
    rcases h with h | rfl
    · exact .inl h
    · exact .inr hl⟩
  have R2 : Rl K g H2 σ n env := R1.frm (Same.frm hs) (R1.dk.same hs)
  obtain ⟨R3, o⟩ := Rl.setOwn (i := i) (ds := []) R2 hi (fun z => R1.p0 l z hl) (fun z => R1.there l (.inr z) hl) hl2 .nil
    (fun j d v h1 h2 => by
      obtain ⟨u, e1, e2⟩ := R1.sh j d h1
      rw [h2] at e1; cases e1
      exact e2.to x)
    (fun j es b ys h1 h2 h3 => by
      obtain ⟨c, zs, e1, e2, e3, e4⟩ := R1.own j es h1
      rw [h2] at e1; cases e1
      have := hs b _ e2
      rw [h3] at this; cases this
      exact e4.to x)
  exact ⟨R3, fun b o' h _ _ => hs b o' h, fun b h => by
    rcases o b h with z | rfl
    · exact .inl z
    · exact .inr hl⟩
end
section
variable {X : Cx} {W : WY} {φa : Env' → M D}
/-- i, j = e, [] -/
def sParSO (i j : Nat) (a : Env' → M D) : Env' → MS := fun env n Q E => a env n (fun d n' => i < env.length ∧ j < env.length ∧ Q (.nx, (env.set i (.sh d)).set j (.own [])) n') (fun x n' => E x env n')
theorem parSO_in {i j : Nat} {g : Gh W.ex} {env : Env'} {Qd : R → Nat → Prop} {Ed : Exc → Env' → Nat → Prop} {D : Ends} {d : Den.D} {n' : Nat} {v : V} {H1 H2 : Hp} {σ : St} {l : Addr} (s1 : SEnd X.K X.mg W g H1 σ env Qd Ed D)
    (hd : i < env.length ∧ j < env.length ∧ Qd (.nx, (env.set i (.sh d)).set j (.own [])) n') (hr : Rep X.K H1 (pv g env σ) (kA g) d v) (R1 : Rl X.K g H1 σ n' env) (hs : Same H1 H2) (hl : H1 l = none) (hl2 : H2 l = some (.lst [])) :
    D.nx ((σ.set i (some v)).set j (some (.ref l))) H2 := by
  obtain ⟨R2, o⟩ := R1.set hd.1 hr
  obtain ⟨R3, s3⟩ := R2.newOwn (i := j) (by simpa using hd.2.1) hs hl hl2
  exact s1.nx _ n' _ H2 hd.2.2 R3 ((Stp.of_ow o).trans R2 s3)
theorem dS_parSO {i j : Nat} {x y : Str} {a : Expr} {px py pt pl pos : Pos} {kt k2 pt2} (hc : X.calm = true) (hN : X.N.Nodup) (ha : DE X W a φa) (hi : X.N[i]? = some x := by rfl) (hj : X.N[j]? = some y := by rfl) (hij : i ≠ j := by decide)
    (hx : X.env.scope.names.lookup x = some .local := by rfl) (hy : X.env.scope.names.lookup y = some .local := by rfl)
    (hn : starEach [a, .List [] pl] X.env = (false, eval a X.env) :: starEach [.List [] pl] X.env := by rfl)
    (hw : swappedStores [.Tuple [.Name x px, .Name y py] kt pt] (.Tuple [a, .List [] pl] k2 pt2) X.env = pure (some [x, y]) := by rfl)
    (hs : swapsWithSole [.Tuple [.Name x px, .Name y py] kt pt] (.Tuple [a, .List [] pl] k2 pt2) pos.line X.env = pure false := by rfl) :
    DS X W (.Assign [.Tuple [.Name x px, .Name y py] kt pt] (.Tuple [a, .List [] pl] k2 pt2) pos) (sParSO i j φa) := by
  refine PS.imp (ps_par hc hN hi hj hij hx hy (pa_cons ha (pa_cons (pe_lst pa_nil) pa_nil) hn) hw hs) fun D σ H ⟨g, n, env, Qd, Ed, R0, p, s⟩ => ?_
  refine s_of_e (rel := relE X.K) R0 p s fun d n' v H' hd hr R1 st s1 => ?_
  refine ⟨Nat.zero_le _, fun l hl => ⟨v, .ref l, rfl, ?_⟩⟩
  exact parSO_in s1 hd hr R1 (same_upd hl) hl upd_same
/-- the same where a name is read by a comprehension: a tuple is made and taken apart -/
theorem dS_asgSO {i j : Nat} {x y : Str} {a : Expr} {px py pt pl pos : Pos} {kt k2 pt2} (hc : X.calm = true) (hN : X.N.Nodup) (ha : DE X W a φa) (hi : X.N[i]? = some x := by rfl) (hj : X.N[j]? = some y := by rfl)
    (hx : Loc X.env.scope x := by first | exact Or.inl rfl | exact Or.inr rfl) (hy : Loc X.env.scope y := by first | exact Or.inl rfl | exact Or.inr rfl)
    (hfx : X.fn x = true ∨ X.env.scope.names.lookup x = some .local := by first | exact .inl rfl | exact .inr rfl) (hfy : X.fn y = true ∨ X.env.scope.names.lookup y = some .local := by first | exact .inl rfl | exact .inr rfl)
    (hn : starEach [a, .List [] pl] X.env = (false, eval a X.env) :: starEach [.List [] pl] X.env := by rfl)
    (hg1 : (assignEach [.Name x px, .Name y py] X.env).map (·.2) = assign (.Name x px) X.env :: (assignEach [.Name y py] X.env).map (·.2) := by rfl)
    (hg2 : (assignEach [.Name y py] X.env).map (·.2) = assign (.Name y py) X.env :: (assignEach [] X.env).map (·.2) := by rfl)
    (hl2 : (assignEach [.Name x px, .Name y py] X.env).length = 2 := by rfl) (hst : (assignEach [.Name x px, .Name y py] X.env).findIdx? (·.1) = none := by rfl)
    (hs : swapsWithSole [.Tuple [.Name x px, .Name y py] kt pt] (.Tuple [a, .List [] pl] k2 pt2) pos.line X.env = pure false := by rfl) (hw : swappedStores [.Tuple [.Name x px, .Name y py] kt pt] (.Tuple [a, .List [] pl] k2 pt2) X.env = pure none := by rfl)
    (h1 : (assignEach [.Tuple [.Name x px, .Name y py] kt pt] X.env).map (·.2) = [assign (.Tuple [.Name x px, .Name y py] kt pt) X.env] := by rfl) :
    DS X W (.Assign [.Tuple [.Name x px, .Name y py] kt pt] (.Tuple [a, .List [] pl] k2 pt2) pos) (sParSO i j φa) := by
  refine PS.imp (ps_asg (pe_tup (pa_cons ha (pa_cons (pe_lst pa_nil) pa_nil) hn)) (pg_tup (n := 2) hc (pgs_cons (pg_name hN hi hx hfx) (pgs_cons (pg_name hN hj hy hfy) pgs_nil hg2) hg1) hl2 hst) hs hw h1) fun D σ H ⟨g, n, env, Qd, Ed, R0, p, s⟩ => ?_
  refine s_of_e (rel := relE X.K) R0 p s fun d n' v H' hd hr R1 st s1 => ?_
  refine ⟨Nat.zero_le _, fun l hl => ⟨by show 2 ≤ sizeLine; rw [big_eq, big_val]; omega, fun t ht => ?_⟩⟩
  have tl : t ≠ l := fun e => by rw [e, upd_same] at ht; cases ht
  refine ⟨t, [v, .ref l], rfl, .inl (.inl upd_same), rfl, v, [.ref l], rfl, .ref l, [], rfl, rfl, ?_⟩
  exact parSO_in s1 hd hr R1 ((same_upd hl).trans (same_upd ht)) hl (by rw [upd_ne (Ne.symm tl)]; exact upd_same)
/-- i, j = [], [] -/
def sParOO (i j : Nat) : Env' → MS := fun env n Q E => i < env.length ∧ j < env.length ∧ Q (.nx, (env.set i (.own [])).set j (.own [])) n
theorem dS_parOO {i j : Nat} {x y : Str} {px py pt pl pl2 pos : Pos} {kt k2 pt2} (hc : X.calm = true) (hN : X.N.Nodup) (hi : X.N[i]? = some x := by rfl) (hj : X.N[j]? = some y := by rfl) (hij : i ≠ j := by decide)
    (hx : X.env.scope.names.lookup x = some .local := by rfl) (hy : X.env.scope.names.lookup y = some .local := by rfl)
    (hn : starEach [.List [] pl2, .List [] pl] X.env = (false, eval (.List [] pl2) X.env) :: starEach [.List [] pl] X.env := by rfl)
    (hw : swappedStores [.Tuple [.Name x px, .Name y py] kt pt] (.Tuple [.List [] pl2, .List [] pl] k2 pt2) X.env = pure (some [x, y]) := by rfl)
    (hs : swapsWithSole [.Tuple [.Name x px, .Name y py] kt pt] (.Tuple [.List [] pl2, .List [] pl] k2 pt2) pos.line X.env = pure false := by rfl) :
    DS X W (.Assign [.Tuple [.Name x px, .Name y py] kt pt] (.Tuple [.List [] pl2, .List [] pl] k2 pt2) pos) (sParOO i j) := by
  refine PS.imp (ps_par hc hN hi hj hij hx hy (pa_cons (pe_lst pa_nil) (pa_cons (pe_lst pa_nil) pa_nil) hn) hw hs) fun D σ H ⟨g, n, env, Qd, Ed, R0, p, s⟩ => ?_
  refine ⟨Nat.zero_le _, fun l1 h1 => ⟨Nat.zero_le _, fun l2 h2 => ⟨.ref l1, .ref l2, rfl, ?_⟩⟩⟩
  obtain ⟨R1, s1⟩ := R0.newOwn (i := i) p.1 (same_upd h1) h1 upd_same
  obtain ⟨R2, s2⟩ := R1.newOwn (i := j) (by simpa using p.2.1) (same_upd h2) h2 upd_same
  exact s.nx _ n _ _ p.2.2 R2 (s1.trans R1 s2)
/-- i, j = [], e -/
def sParOS (i j : Nat) (a : Env' → M D) : Env' → MS := fun env n Q E => a env n (fun d n' => i < env.length ∧ j < env.length ∧ Q (.nx, (env.set i (.own [])).set j (.sh d)) n') (fun x n' => E x env n')
theorem Rl.guard {K : PySem.W.Frag} {ex : EX} {g : Gh ex} {H : Hp} {σ : St} {n : Nat} {env : Env'} {l : Addr} {o : HO} (R0 : Rl K g H σ n env) (hl : H l = none) : Rl K (g.add l) (upd H l o) σ n env := by
  have x : Ext (pv g env σ) H (pv (g.add l) env σ) (upd H l o) := ⟨fun a o h _ => same_upd hl a o h, fun a h => by
    rcases h with (h | rfl) | h
    · exact .inl (.inl h)
    · exact .inr hl
    · exact .inl (.inr h)⟩
  refine ⟨R0.len, fun i d h => ?_, fun i ds h => ?_, R0.nd, R0.dk.same (same_upd hl), fun a h => ?_, fun a h => .inl (R0.kp a h)⟩
  · obtain ⟨v, h1, h2⟩ := R0.sh i d h
    exact ⟨v, h1, h2.to x⟩
  · obtain ⟨a, xs, h1, h2, h3, h4⟩ := R0.own i ds h
    refine ⟨a, xs, h1, same_upd hl _ _ h2, fun z => ?_, h4.to x⟩
    rcases z with z | rfl
    · exact h3 z
    · rw [hl] at h2; cases h2
  · rcases h with h | rfl
    · cases q : H a with
      | none => exact absurd q (R0.p0 a h)
      | some u => rw [same_upd hl a u q]; simp
    · rw [upd_same]; simp
theorem Rl.unguard {K : PySem.W.Frag} {ex : EX} {g : Gh ex} {H : Hp} {σ : St} {n : Nat} {env : Env'} {l : Addr} (kp : ∀ a, inDk g.k a → g.P0 a) (R0 : Rl K (g.add l) H σ n env) : Rl K g H σ n env := by
  have x : Ext (pv (g.add l) env σ) H (pv g env σ) H := ⟨fun _ _ h _ => h, fun a h => by
    rcases h with h | h
    · exact .inl (.inl (.inl h))
    · exact .inl (.inr h)⟩
  refine ⟨R0.len, fun i d h => ?_, fun i ds h => ?_, R0.nd, R0.dk, fun a h => R0.p0 a (.inl h), kp⟩
  · obtain ⟨v, h1, h2⟩ := R0.sh i d h
    exact ⟨v, h1, h2.to x⟩
  · obtain ⟨a, xs, h1, h2, h3, h4⟩ := R0.own i ds h
    exact ⟨a, xs, h1, h2, fun z => h3 (.inl z), h4.to x⟩
theorem ExR.weak {K : PySem.W.Frag} {mg : Str → Option Value} {H : Hp} {P P' : Addr → Prop} {k : KA} {x : Exc} {cls : Value} {dd : Option Addr} (h : ExR K mg H P k x cls dd) (hp : ∀ a, P' a → P a) : ExR K mg H P' k x cls dd := by
  obtain ⟨C, h1, h2, h3⟩ := h
  refine ⟨C, h1, h2, ?_⟩
  cases e : x.fld with
  | none =>
    rw [e] at h3
    exact h3
  | some q =>
    rw [e] at h3
    obtain ⟨a, v, e1, e2, e3, e4⟩ := h3
    exact ⟨a, v, e1, e2, fun z => e3 (hp a z), e4.to ⟨fun _ _ h _ => h, fun a h => .inl (hp a h)⟩⟩
theorem dS_parOS {i j : Nat} {x y : Str} {a : Expr} {px py pt pl pos : Pos} {kt k2 pt2} (hc : X.calm = true) (hN : X.N.Nodup) (ha : DE X W a φa) (hi : X.N[i]? = some x := by rfl) (hj : X.N[j]? = some y := by rfl) (hij : i ≠ j := by decide)
    (hx : X.env.scope.names.lookup x = some .local := by rfl) (hy : X.env.scope.names.lookup y = some .local := by rfl)
    (hn : starEach [.List [] pl, a] X.env = (false, eval (.List [] pl) X.env) :: starEach [a] X.env := by rfl) (hn2 : starEach [a] X.env = (false, eval a X.env) :: starEach [] X.env := by rfl)
    (hw : swappedStores [.Tuple [.Name x px, .Name y py] kt pt] (.Tuple [.List [] pl, a] k2 pt2) X.env = pure (some [x, y]) := by rfl)
    (hs : swapsWithSole [.Tuple [.Name x px, .Name y py] kt pt] (.Tuple [.List [] pl, a] k2 pt2) pos.line X.env = pure false := by rfl) :
    DS X W (.Assign [.Tuple [.Name x px, .Name y py] kt pt] (.Tuple [.List [] pl, a] k2 pt2) pos) (sParOS i j φa) := by
  refine PS.imp (ps_par hc hN hi hj hij hx hy (pa_cons (pe_lst pa_nil) (pa_cons ha pa_nil hn2) hn) hw hs) fun D σ H ⟨g, n, env, Qd, Ed, R0, p, s⟩ => ?_
  refine ⟨Nat.zero_le _, fun l hl => ?_⟩
  have f0 : Frm g.k H (upd H l (.lst [])) := Same.frm (same_upd hl)
  refine ⟨(g.add l), n, env, _, fun x n' => Ed x env n', R0.guard hl, p, fun d n' v H' hd hr hf hdk => ?_, fun x n' cls dd H' he hx hf hdk => ?_⟩
  · have Rg : Rl X.K (g.add l) H' σ n' env := (R0.guard hl).frm hf hdk
    have R1 : Rl X.K g H' σ n' env := Rg.unguard R0.kp
    have hl2 : H' l = some (.lst []) := hf l _ upd_same fun z => R0.p0 l (R0.kp l z) hl
    have hd' : i < env.length ∧ j < env.length ∧ Qd (.nx, (env.set i (.own [])).set j (.sh d)) n' := hd
    have x : Ext (pv (g.add l) env σ) H' (fun b => pv g env σ b ∨ b = l) H' := ⟨fun _ _ h _ => h, fun b h => by
      rcases h with (h | h) | h
      · exact .inl (.inl (.inl h))
      · exact .inl (.inr h)
      · exact .inl (.inl (.inr h))⟩
    obtain ⟨R2, o⟩ := Rl.setOwn (i := i) (ds := []) R1 hd'.1 (fun z => R0.p0 l z hl) (fun z => R0.there l (.inr z) hl) hl2 .nil
      (fun k d v h1 h2 => by
        obtain ⟨u, e1, e2⟩ := Rg.sh k d h1
        rw [h2] at e1; cases e1
        exact e2.to x)
      (fun k es b ys h1 h2 h3 => by
        obtain ⟨c, zs, e1, e2, e3, e4⟩ := Rg.own k es h1
        rw [h2] at e1; cases e1
        rw [h3] at e2; cases e2
        exact e4.to x)
    obtain ⟨R3, o3⟩ := R2.set (i := j) (d := d) (by simpa using hd'.2.1) (hr.to ⟨fun _ _ h _ => h, fun b h => by
      rcases h with h | h
      · exact .inl (.inl (.inl h))
      · rcases o b h with z | z
        · exact .inl (.inr z)
        · exact .inl (.inl (.inr z))⟩)
    refine ⟨.ref l, v, rfl, s.nx _ n' _ H' hd'.2.2 R3 ⟨fun b u h k _ => hf b u (f0 b u h k) k, fun b h => ?_⟩⟩
    rcases o b (o3 b h) with z | rfl
    · exact .inl z
    · exact .inr hl
  · have Rg : Rl X.K (g.add l) H' σ n' env := (R0.guard hl).frm hf hdk
    exact s.ex x env n' σ H' cls dd he (Rg.unguard R0.kp) (hx.weak fun a h => by
      rcases h with h | h
      · exact .inl (.inl h)
      · exact .inr h) (Stp.of_frm (f0.trans hf))
end
end Den

set_option autoImplicit true
set_option Elab.async false
set_option linter.all false
set_option maxRecDepth 100000
set_option maxHeartbeats 2000000
set_option autoImplicit false
namespace Den
open PySem PySem.Spec PyProof.Rows L2 PySem.W PySem.SeqAt

/-! ### min of a list of data that can be compared: the first of the least -/
section
variable {prog : Program} {w : World} {A : Around} {s : Shared} {E : Value → Shared → Prop}
theorem min_list_at {l : Addr} {vs : Array Value} {x : PyData} {xs : List PyData} {as : List Addr} {Q : Value → Shared → Prop} (hh : A.handled = none) (hl : s.heap.IsList l vs) (hr : ReadsAll s.heap vs.toList (x :: xs) as) (ha : AlikeAll (x :: xs)) (hu : A.units + 1 + PyData.depthAll (x :: xs) < cLine)
    (h : ∀ v h' tk, vs[argBest (fun i j => dataLt ((x :: xs).getD i .none) ((x :: xs).getD j .none)) xs.length]? = some v → (∀ b o, s.heap.get? b = some o → h'.get? b = some o) → Q v { s with heap := h', toks := tk }) :
    wpAny (model prog w) A (call (.builtin "min") [.ref l]) Q E s := by
  have hn : vs.size = xs.length + 1 := readsAll_len hr
  refine call_min_walkH (iter_listW (A := A.in1) hh hl fun s₂ e W st hfp hw hk => ?_)
  refine ⟨_, _, _, _, _, _, _, s.heap, _, rfl, W, st, hfp, by omega, hw, hk, cmpIn_lt (A := A.in1) hr ha (by show A.units + 1 + _ < _; exact hu), fun v s' hP m => ?_⟩
  obtain ⟨h', tk, rfl, hk'⟩ := moved_old e rfl m
  have e1 : vs.size - 1 = xs.length := by omega
  rw [e1] at hP
  exact h v h' tk hP hk'
end
def rMinDt (K : PySem.W.Frag) : List V → Hp → VK → Prop := fun vs H Q => ∃ (a : Addr) (xs : List V) (x : PyData) (ds : List PyData), vs = [.ref a] ∧ SqL K H a xs ∧ DpAll K H xs (x :: ds) ∧ AlikeAll (x :: ds) ∧ PyData.depthAll (x :: ds) ≤ 63 ∧
  ∀ v, xs[argBest (fun i j => dataLt ((x :: ds).getD i .none) ((x :: ds).getD j .none)) ds.length]? = some v → Q v H
theorem DpAll.len {K : PySem.W.Frag} {H : Hp} : ∀ {vs : List V} {ds : List PyData}, DpAll K H vs ds → vs.length = ds.length
  | _, _, .nil => rfl
  | _, _, .cons _ h => by simp [DpAll.len h]
theorem cr_minDt {X : Cx} {n : Nat} (hr : Room n X.A) (hc : X.calm = true) : CallR X (.builtin "min") (rMinDt X.K) := by
  intro pins s σ H vs us Q I r h
  obtain ⟨a, xs, x, ds, rfl, hs, hd, ha, hu, q⟩ := h
  obtain ⟨its, rv, hl, _⟩ := I.list hs
  rw [Vals.ref1 r]
  obtain ⟨as, ra⟩ := Dp.readsAll I _ _ _ hd rv
  have hu2 := hr.un
  refine min_list_at (I.ok.hd hc) hl.isList (by simpa using ra) ha (by omega) fun v h' tk hv hk => ?_
  have hi : argBest (fun i j => dataLt ((x :: ds).getD i .none) ((x :: ds).getD j .none)) ds.length ≤ ds.length := (argBest_fold dataLt PyData.none x ds ds.length (Nat.le_refl _)).1
  have hlen : xs.length = ds.length + 1 := DpAll.len hd
  obtain ⟨y, hy⟩ : ∃ y, xs[argBest (fun i j => dataLt ((x :: ds).getD i .none) ((x :: ds).getD j .none)) ds.length]? = some y := ⟨_, List.getElem?_eq_getElem (by omega)⟩
  obtain ⟨u, hu1, hu2⟩ := rv.get hy
  have e : u = v := by
    have : its.toArray[argBest (fun i j => dataLt ((x :: ds).getD i .none) ((x :: ds).getD j .none)) ds.length]? = some u := by simpa using hu1
    rw [this] at hv
    exact Option.some.inj hv
  subst e
  exact ⟨y, H, I.kept hk, hu2, q y hy⟩
def alikeB (xs : List PyData) : Bool := (xs.all fun x => xs.all fun y => alike x y) && xs.all fun x => !(match x with | .none => true | _ => false)
theorem alikeB_all {xs : List PyData} (h : alikeB xs = true) : AlikeAll xs := by
  unfold alikeB at h
  rw [Bool.and_eq_true] at h
  refine ⟨fun x hx y hy => List.all_eq_true.mp (List.all_eq_true.mp h.1 x hx) y hy, fun x hx e => ?_⟩
  have := List.all_eq_true.mp h.2 x hx
  subst e
  cases this
def oMinD : List D → Option D
  | [.lst (d :: ds)] => if alikeB (pys (d :: ds)) = true ∧ PyData.canLayAll0 (pys (d :: ds)) = true ∧ PyData.depthAll (pys (d :: ds)) ≤ 63 then some (ds.foldl (fun a y => if dataLt y.py a.py then y else a) d) else none
  | _ => none
theorem pys_getD : ∀ (ds : List D) (i : Nat), (pys ds).getD i .none = (ds.getD i .non).py
  | [], i => rfl
  | d :: ds, 0 => rfl
  | d :: ds, i + 1 => by
    have := pys_getD ds i
    simpa [pys] using this
theorem pys_len : ∀ ds : List D, (pys ds).length = ds.length
  | [] => rfl
  | d :: ds => by simp [pys, pys_len ds]
theorem pu_minDt {K : PySem.W.Frag} : PureA K (rMinDt K) oMinD := by
  intro P k H vs ds d Q hP rx e q
  unfold oMinD at e
  split at e
  · rename_i d0 ds
    split at e
    · rename_i h
      cases e
      cases rx with
      | cons r1 r2 =>
        cases r2
        cases r1 with
        | lst h1 np h2 =>
          refine ⟨_, _, d0.py, pys ds, rfl, SqL.of h1, RepL.dp (d0 :: ds) _ h2 h.2.1, alikeB_all h.1, h.2.2, fun v hv => ?_⟩
          obtain ⟨d', hd', rv⟩ := RepL.getV h2 hv
          have ef : (fun i j => dataLt ((d0.py :: pys ds).getD i .none) ((d0.py :: pys ds).getD j .none)) = fun i j => dataLt ((d0 :: ds).getD i .non).py ((d0 :: ds).getD j .non).py := by
            funext i j
            have a := pys_getD (d0 :: ds) i
            have b := pys_getD (d0 :: ds) j
            simp only [pys] at a b
            rw [a, b]
          rw [ef, pys_len] at hd'
          have e2 := argBest_fold (fun a b : D => dataLt a.py b.py) D.non d0 ds ds.length (Nat.le_refl _)
          rw [List.take_length] at e2
          have e3 : d' = (d0 :: ds).getD (argBest (fun i j => dataLt ((d0 :: ds).getD i .non).py ((d0 :: ds).getD j .non).py) ds.length) .non := by
            rw [List.getD_eq_getElem?_getD, hd']
            rfl
          rw [e2.2] at e3
          subst e3
          exact q v H (Same.refl _) rv
    · cases e
  · cases e
theorem oMinD_mem {d : D} {ds : List D} {x : D} (h : oMinD [.lst (d :: ds)] = some x) : x ∈ d :: ds := by
  simp only [oMinD] at h
  split at h
  · cases h
    have : ∀ (l : List D) (a : D), l.foldl (fun a y => if dataLt y.py a.py then y else a) a ∈ a :: l := by
      intro l
      induction l with
      | nil => intro a; simp
      | cons y l ih =>
        intro a
        rw [List.foldl_cons]
        have := ih (if dataLt y.py a.py then y else a)
        rcases List.mem_cons.mp this with e | e
        · rw [e]
          split
          · simp
          · simp
        · exact List.mem_cons_of_mem _ (List.mem_cons_of_mem _ e)
    exact this ds d
  · cases h
end Den

set_option autoImplicit true
set_option Elab.async false
set_option linter.all false
set_option maxRecDepth 100000
set_option maxHeartbeats 2000000
set_option autoImplicit false
namespace Den
open PySem PySem.Spec PyProof.Rows L2

/-! ### promises that may lean on it that no repr is under way -/
structure FnG (P : Program) (w : World) (K : PySem.W.Frag) (mg : Str → Option Value) (base : Heap) (CX : CXT) (k : Nat) (f : Addr) (fd : FuncData) (ps : List Str) (sp : Sp) : Prop where
  ln : ∀ vs H Q E, sp vs H Q E → vs.length = ps.length
  go : ∀ A outer s H args us vs Q E, Room k A → A.guards = some [] → Env0 P w K mg base A outer s H → BindsTo s fd args (ps.zip us) → Vals vs us → sp vs H Q E → codeAny (model P w) A (.call (.ref f) args) (CR CX outer P w H s Q E) s
theorem fnG {P : Program} {w : World} {K : PySem.W.Frag} {mg : Str → Option Value} {base : Heap} {CX : CXT} {k : Nat} {f : Addr} {fd : FuncData} {ps : List Str} {sp : Sp} (F : FnOk P w K mg base CX k f fd ps sp) : FnG P w K mg base CX k f fd ps sp :=
  ⟨F.len, fun A o s H args us vs Q E hr _ => F.run A o s H args us vs Q E hr⟩
theorem guards_deeper (A : Around) (env : Env) : (A.deeper env).guards = A.guards := rfl
/-- a def's promise by its body's walk -/
theorem FnG.mk' {CX : CXT} {P : Program} {w : World} {K : PySem.W.Frag} {mg : Str → Option Value} {base : Heap} {x qual : Str} {params : Arguments} {body : List Stmt} {scope : Scope} {dvs : List V} {kws : List (Str × V)} {f : Addr} {fd : FuncData} {N ps : List Str} {k : Nat} {sp : Sp}
    (F : FunD K x qual params body scope dvs kws f fd) (S : FnScope N ps scope) (ln : ∀ vs H Q E, sp vs H Q E → vs.length = ps.length)
    (hbody : ∀ (cdv : Value) (A : Around) (outer : List Env) (s : Shared) (H : Hp) (vs : List V) (Q : VK) (E : XK), Room k (A.deeper (envOfC qual scope s.heap.objs.size f cdv)) → A.guards = some [] → sp vs H Q E →
      ∃ t, PSs (cxOf CX P w K mg base N qual scope f cdv A outer s H E) body t ∧ t { nx := fun _ H' => Q .non H', rt := Q } (L2.start N vs) H) : FnG P w K mg base CX (k + 1) f fd ps sp := by
  obtain ⟨oc, od, dV, kV, doc, pm, an, cdv, ct, osl, efd, lk, hcd, _, _⟩ := F.ex
  subst efd
  constructor
  · exact ln
  intro A outer s H args us vs Q E room gd e0 bd rv given
  have lnv := ln vs H Q E given
  have inS := e0.mod.kin.keeps fun b o e => (e0.bs b o e).1
  have noLim := e0.mod.nolimit.keeps fun b o e => (e0.bs b o e).1
  have kinds : ∀ y ∈ ps.zip us, scope.names.lookup y.1 = some .local ∨ (scope.names.lookup y.1 = some .cell ∧ ((cellsFrom (s.heap.objs.size + 1) scope.names []).lookup y.1).isSome = true) := by
    intro y hy
    have hm : y.1 ∈ ps := (List.of_mem_zip (show (y.1, y.2) ∈ ps.zip us from hy)).1
    rcases S.par y.1 hm with a | a
    · exact Or.inl a
    · exact Or.inr ⟨a, PySem.W.cellsFrom_some _ _ _ (Or.inl a)⟩
  refine codeAny_call_function room.depth (inS _ _ lk) rfl S.co S.gen rfl (PySem.W.codeRec_of inS hcd) (bd _ _ _ _ ?_)
  refine wpAny_newFunctionEnv_cells S.kind kinds fun env eenv s1 inCall => ?_
  cases eenv
  refine ⟨noLim.keeps inCall.toInCall.keep, codeAny_func ?_⟩
  obtain ⟨t, walk, ends⟩ := hbody cdv A outer s H vs Q E (room.deeper _) gd given
  have I0 := inv_start (CX := CX) (E := E) S room.hd e0 lnv rv inCall
  refine wpAny_mono (walk.run [] s1 (L2.start N vs) H _ I0 ends) ?_ (fun _ _ z => z)
  intro fl s' z
  match fl, z with
  | .ret u, ⟨v, σ', H', J, rvu, q⟩ => exact ⟨v, H', J.os, J.bare, J.base, J.hok, rvu, q⟩
  | .next, ⟨σ', H', J, q⟩ => exact ⟨V.non, H', J.os, J.bare, J.base, J.hok, rfl, q⟩
  | .brk, ⟨_, _, _, q⟩ => exact q.elim
  | .cont, ⟨_, _, _, q⟩ => exact q.elim

theorem FnG.cx0 {P : Program} {w : World} {K : PySem.W.Frag} {mg : Str → Option Value} {base : Heap} {k : Nat} {f : Addr} {fd : FuncData} {ps : List Str} {sp : Sp} (F : FnG P w K mg base (L2N.CX P w) k f fd ps sp)
    (h : ∀ vs H Q E, sp vs H Q E → sp vs H Q (fun _ _ _ => False)) : FnG P w K mg base CX0 k f fd ps sp :=
  ⟨F.ln, fun A outer s H args us vs Q E hr gd he hb hv hs => codeAny_mono (F.go A outer s H args us vs Q (fun _ _ _ => False) hr gd he hb hv (h _ _ _ _ hs)) fun r s' q => by
    cases r with
    | error e =>
      obtain ⟨_, _, _, _, _, _, _, _, _, _, _, _, z⟩ := q
      exact z
    | ok fl =>
      cases fl <;> exact q⟩
/-! ### repr of data -/
def rprOk (p : PyData) : Bool := p.showable && (p.canLay0 && (!p.hasDict && (p.leavesShort 400 && (decide (p.depth ≤ 60) && decide (p.weight ≤ 40000)))))
theorem rprOk_len {p : PyData} (h : rprOk p = true) : p.shown.length ≤ sizeLine := by
  simp only [rprOk, Bool.and_eq_true, decide_eq_true_eq] at h
  have := PyData.shown_le 400 (by decide) p h.2.2.2.1
  have e := sizeLine_eq
  omega
def rRepr (K : PySem.W.Frag) : List V → Hp → VK → Prop := fun vs H Q => ∃ (v : V) (p : PyData), vs = [v] ∧ Dp K H v p ∧ rprOk p = true ∧ Q (.str p.shown) H
theorem cr_repr {X : Cx} {n : Nat} (hg : X.A.guards = some []) (hr : Room n X.A) : CallR X (.builtin "repr") (rRepr X.K) := by
  intro pins s σ H vs us Q I r h
  obtain ⟨v, p, rfl, hd, ok, q⟩ := h
  have len := rprOk_len ok
  simp only [rprOk, Bool.and_eq_true, decide_eq_true_eq, Bool.not_eq_true'] at ok
  obtain ⟨u, hu, rv⟩ := r.get (i := 0) rfl
  have eu : us = [u] := by
    cases r with
    | cons a b =>
      cases b
      have e := Option.some.inj (show some _ = some u from hu)
      rw [e]
  subst eu
  have un := hr.un
  have byRef : ∀ a, v = .ref a → wpAny (model X.prog X.w) X.A (call (.builtin "repr") [u]) (EP X pins σ Q) X.xe s := by
    rintro a rfl
    obtain ⟨as, rd⟩ := Dp.reads I _ _ _ hd rv
    have e : u = .ref a := rv
    subst e
    exact repr_of_reads' rd ok.1 (fun z => by rw [ok.2.2.1] at z; cases z) hg (by omega) (fun b o e => e) (fun h' t tk hk => ⟨.str _, H, I.kept hk, ⟨_, rfl⟩, q⟩) len
  cases hd with
  | non =>
    have e : u = .none := rv
    subst e
    exact PySem.P.repr_of_none ⟨.str _, H, I.kept fun b o e => e, ⟨_, rfl⟩, q⟩
  | bl b =>
    have e : u = .bool b := rv
    subst e
    exact PySem.P.repr_of_bool ⟨.str _, H, I.kept fun b o e => e, ⟨_, rfl⟩, q⟩
  | int i =>
    obtain ⟨t, e⟩ := rv
    subst e
    exact PySem.P.repr_of_int (by simpa [PyData.showable] using ok.1) ⟨.str _, H, I.kept fun b o e => e, ⟨_, rfl⟩, q⟩
  | str x =>
    obtain ⟨t, e⟩ := rv
    subst e
    exact PySem.P.repr_of_str ⟨.str _, H, I.kept fun b o e => e, ⟨_, rfl⟩, q⟩ len
  | lst _ _ => exact byRef _ rfl
  | tup _ _ => exact byRef _ rfl
def oRepr : List D → Option D
  | [d] => if rprOk d.py = true then some (.str d.py.shown) else none
  | _ => none
theorem pu_repr {K : PySem.W.Frag} : PureA K (rRepr K) oRepr := by
  intro P k H vs ds d Q hP rx e q
  unfold oRepr at e
  split at e
  · rename_i d0
    split at e
    · rename_i h
      cases e
      cases rx with
      | cons r1 r2 =>
        cases r2
        have c : d0.py.canLay0 = true := by
          simp only [rprOk, Bool.and_eq_true] at h
          exact h.2.1
        exact ⟨_, _, rfl, Rep.dp d0 _ r1 c, h, q _ H (Same.refl _) (.str _)⟩
    · cases e
  · cases e
theorem boot_repr' : bootBuiltins "repr" = some (.builtin "repr") := by decide +kernel
/-! ### the law's own end -/
theorem endG {P : Program} {w : World} {K : PySem.W.Frag} {mg mb : Str → Option Value} {CX : CXT} {k : Nat} {fa a : Addr} {fd : FuncData} {x : Str} {sp : Sp} {s₁ : Shared} {vs : List Value} {ns : List Int}
    (inK : K.In s₁.heap) (gl : s₁.heap.Ns mainGlobals mg) (bl : s₁.heap.Ns builtinsNs mb) (bb : ∀ x : Str, x ≠ "__name__" → mb x = bootBuiltins x) (nl : s₁.heap.NoLimit) (gens : s₁.gens = #[])
    (obj : s₁.heap.get? a = some { cls := .type "list", data := .seq vs.toArray }) (isI : IntsAre vs ns) (few : ns.length ≤ sizeLine) (room : Room k callerA)
    (F : ∀ base : Heap, K.In base → base.Ns mainGlobals mg → FnG P w K mg base CX k fa fd [x] sp) (bind : ∀ (s : Shared) (u : Value), BindsTo s fd ⟨[u], []⟩ [(x, u)])
    (given : ∀ H : Hp, Only H → SqL K H a (ns.map V.int) → sp [.ref a] H (fun v _ => v = .bl true) fun _ _ _ => False) (noX : ∀ H e s', CX [] H s₁ (fun _ _ _ => False) e s' → False) :
    codeAny (model P w) callerA (.call (.ref fa) ⟨[.ref a], []⟩) (fun r s' => r = .ok (.ret (.bool true)) ∧ OldK s₁.heap s'.heap ∧ s'.os = s₁.os ∧ AllBare s'.gens) s₁ := by
  have go : ∀ H : Hp, Only H → SqL K H a (ns.map V.int) → HOk P w H s₁.heap → (∀ b, H b ≠ none → b = a ∧ K.lookup b = none) →
      codeAny (model P w) callerA (.call (.ref fa) ⟨[.ref a], []⟩) (fun r s' => r = .ok (.ret (.bool true)) ∧ OldK s₁.heap s'.heap ∧ s'.os = s₁.os ∧ AllBare s'.gens) s₁ := by
    intro H only sq ok at_a
    -- what is no list stays in the base
    have stays : ∀ {b : Addr} {o : Obj}, s₁.heap.get? b = some o → H b = none → (hidT s₁.heap H).get? b = some o := hidT_get
    have dictFree : ∀ {b : Addr} {o : Obj} {es : Array DictEntry} {ep : Nat}, s₁.heap.get? b = some o → o.data = .dict es ep → H b = none := by
      intro b o es ep hb hd
      by_cases z : H b = none
      · exact z
      · have := (at_a b z).1
        subst this
        rw [obj] at hb
        cases hb
        cases (show Data.seq vs.toArray _ = Data.dict es ep from hd)
    have nsB : ∀ {b : Addr} {m : Str → Option Value}, s₁.heap.Ns b m → (hidT s₁.heap H).Ns b m := by
      intro b m ⟨o, es, ep, hb, hd, r⟩
      exact ⟨o, es, ep, stays hb (dictFree hb hd), hd, r⟩
    have inB : K.In (hidT s₁.heap H) := by
      intro b o hb
      refine stays (inK b o hb) ?_
      by_cases z : H b = none
      · exact z
      · have := (at_a b z).2
        rw [hb] at this
        cases this
    obtain ⟨mc, nl1, nl2⟩ := nl
    have md : Mod K mg (hidT s₁.heap H) := ⟨inB, nsB gl, ⟨mb, nsB bl, bb⟩, ⟨mc, nsB nl1, nl2⟩⟩
    have e0 : Env0 P w K mg (hidT s₁.heap H) callerA [] s₁ H := ⟨rfl, md, fun b o e => of_hidT e, Nat.le_of_eq (hidT_size _ _), trivial, fun b hb => absurd hb (List.not_mem_nil), ok, .of_eq gens⟩
    have run := (F _ inB (nsB gl)).go callerA [] s₁ H ⟨[.ref a], []⟩ [.ref a] [.ref a] _ _ room rfl e0 (bind s₁ (.ref a)) (.cons rfl .nil) (given H only sq)
    refine codeAny_mono run ?_
    rintro (e | fl) s' z
    · exact (noX H e s' z).elim
    · match fl, z with
      | .next, z => exact False.elim z
      | .brk, z => exact False.elim z
      | .cont, z => exact False.elim z
      | .ret u, ⟨v, H', os, bare, un, ok', ru, ev⟩ =>
        have ev : v = .bl true := ev
        subst ev
        have eu : u = Value.bool true := ru
        subst eu
        refine ⟨rfl, OldK.of_keep ?_, os, bare⟩
        intro b o hb
        rcases only b with z | ⟨ob, xs, z⟩
        · exact un.keep b o hb z (fun h => List.not_mem_nil h) (by simp)
        · obtain ⟨e1, _⟩ := ok b _ z
          obtain ⟨e2, _⟩ := ok' b _ (un.frzs b ob _ z)
          rw [hb] at e1
          cases e1
          exact e2
  have rv := vals_ints isI
  have ln := isI.length
  by_cases hk : K.lookup a = none
  · -- the script is no object of the module's: it is tracked, locked
    let H : Hp := fun b => if b = a then some (.frz { cls := .type "list", data := .seq vs.toArray } (.lst (ns.map V.int))) else none
    have Ha : H a = some (.frz { cls := .type "list", data := .seq vs.toArray } (.lst (ns.map V.int))) := if_pos rfl
    have Hn : ∀ b, b ≠ a → H b = none := fun b hb => if_neg hb
    have Hs : ∀ b u, H b = some u → b = a := fun b u z => by
      by_cases hb : b = a
      · exact hb
      · rw [Hn b hb] at z
        cases z
    refine go H (fun b => ?_) (.inl (.inr ⟨_, Ha⟩)) (fun b u z => ?_) fun b z => ?_
    · by_cases hb : b = a
      · subst hb
        exact .inr ⟨_, _, Ha⟩
      · exact .inl (Hn b hb)
    · have := Hs b u z
      subst this
      rw [Ha] at z
      cases z
      exact ⟨obj, by rw [List.length_map]; exact few, vs, _, rv, obj⟩
    · cases e : H b with
      | none => exact absurd e z
      | some u =>
        have := Hs b u e
        subst this
        exact ⟨rfl, hk⟩
  · cases e : K.lookup a with
    | none => exact absurd e hk
    | some o =>
      have eo := inK a o e
      rw [obj] at eo
      cases eo
      refine go (fun _ => none) (fun _ => .inl rfl) (.inr ⟨_, vs.toArray, _, e, rfl, rfl, rfl, by rw [List.size_toArray, ln]; exact few, by simpa using rv⟩) (fun b u z => ?_) fun b z => absurd rfl z
      cases (show (none : Option HO) = some u from z)
theorem walk_G {l : PySem.W.OpenLaw} {n k : Nat} {q : Program} {loose : List Str} {XP : (Str → Option Value) → Heap → Prop} {YP : World → Heap → Prop} {d : DefRec} {CX : CXT} {x : Str}
    (hn : l.most = some n) (hn2 : n ≤ sizeLine) (hdf : d.params.defaults = []) (hr : Room k callerA)
    (F : ∀ (w : World) (mg : Str → Option Value) (fa : Addr) (h : Heap), YP w h → h.Ns mainGlobals mg → mg d.name = some (.ref fa) →
      ∃ (K : PySem.W.Frag) (fd : FuncData) (sp : Sp), K.In h ∧ (∀ (s : Shared) (u : Value), BindsTo s fd ⟨[u], []⟩ [(x, u)]) ∧
        (∀ (H : Hp) (a : Addr) (ns : List Int), ns.length ≤ n → Only H → SqL K H a (ns.map V.int) → sp [.ref a] H (fun v _ => v = .bl true) fun _ _ _ => False) ∧
        ∀ base : Heap, K.In base → base.Ns mainGlobals mg → FnG l.prog w K mg base CX k fa fd [x] sp)
    (hCX : ∀ (H : Hp) (s : Shared) (e : Value) (s' : Shared), CX [] H s (fun _ _ _ => False) e s' → False) : PySem.W.WalkO q loose XP YP l.row.toRowW d [] (fun f vs => PySem.call f vs) := by
  apply Att.attach_call hn hdf
  intro w s₀ s₁ mg mb fa o pm cd doc a vs ns G Y ho hd hcd hmg hobj hints hlen hg
  obtain ⟨K, fd, sp, KX, hb, hsp, hF⟩ := F w mg fa _ Y G.T.g hmg
  exact endG KX G.T.g G.T.b G.T.builtins G.T.nolimit hg hobj hints (Nat.le_trans hlen hn2) hr hF hb (fun H hO hS => hsp H a ns hlen hO hS) fun H e s' => hCX H s₁ e s'
end Den

set_option autoImplicit true
set_option Elab.async false
set_option linter.all false
set_option maxRecDepth 100000
set_option maxHeartbeats 2000000
set_option autoImplicit false
namespace Den
open PySem PySem.Spec PyProof.Rows L2

/-! ### the hook that knows where the modules' dict lies -/
def sysOk (K : PySem.W.Frag) : Bool := match K.lookup sysModules with
  | some o => match o.data with
    | .dict _ _ => true
    | _ => false
  | none => false
def frS (g : Addr → Option Obj) (n : Nat) : PySem.W.Frag := He.frG g (sysModules :: He.asD g n)
def obsS (n : Nat) (fa : List He.Fa) (fn : List He.DefD) (g : Addr → Option Obj) : He.AlD := ((He.obsD fa fn (frS g n)).1 && sysOk (frS g n), (He.obsD fa fn (frS g n)).2)
def SaysS (fa : List He.Fa) (fn : List He.DefD) (K : PySem.W.Frag) : Prop := He.SaysD fa fn K ∧ sysOk K = true
theorem says_ofS {fa : List He.Fa} {fn : List He.DefD} {K : PySem.W.Frag} (h : ((He.obsD fa fn K).1 && sysOk K, (He.obsD fa fn K).2) = He.valD fn) : SaysS fa fn K := by
  have h1 : ((He.obsD fa fn K).1 && sysOk K) = true := congrArg (fun z : He.AlD => z.1) h
  have h2 : (He.obsD fa fn K).2 = fn.map He.DefD.val := congrArg (fun z : He.AlD => z.2) h
  rw [Bool.and_eq_true] at h1
  refine ⟨?_, h1.2⟩
  unfold He.SaysD He.valD
  exact Prod.ext h1.1 h2
def hookS (n : Nat) (fa : List He.Fa) (fn : List He.DefD) : PySem.W.Hook where
  α := He.AlD
  obs := fun s => obsS n fa fn s.heap.get?
  val := fun _ => He.valD fn
  says := fun _ h => ∃ K : PySem.W.Frag, K.In h ∧ SaysS fa fn K
  of := fun _ _ e => ⟨_, He.frG_in, says_ofS e⟩
  keeps := fun _ _ _ ⟨K, hK, c⟩ k => ⟨K, PySem.W.Frag.In.keeps hK k, c⟩
theorem obsS_eq {n : Nat} {fa : List He.Fa} {fn : List He.DefD} {g : Addr → Option Obj} {s : Shared} (h : ∀ a, g a = s.heap.get? a) : obsS n fa fn g = (hookS n fa fn).obs s := by
  have e : g = s.heap.get? := funext h
  rw [e] <;> rfl
theorem not_sys {X : Cx} {pins : List (Addr × Obj)} {σ : St} {H : Hp} {s : Shared} (I : Inv X pins σ H s) (hs : sysOk X.K = true) {a : Addr} (h : H a ≠ none) : a ≠ sysModules := by
  rintro rfl
  unfold sysOk at hs
  cases e : X.K.lookup sysModules with
  | none => rw [e] at hs; cases hs
  | some o => exact h (I.bs _ o (I.mod.kin _ _ e)).2
/-! ### data with {} among them, read off the heap -/
mutual
def dkFree : D → Bool
  | .tup xs => dkFrees xs
  | .lst xs => dkFrees xs
  | .dk => false
  | .exc _ _ _ => false
  | _ => true
def dkFrees : List D → Bool
  | [] => true
  | d :: ds => dkFree d && dkFrees ds
end
section
variable {X : Cx} {pins : List (Addr × Obj)} {σ : St} {H : Hp} {s : Shared} {P : Addr → Prop} {k : KA}
theorem emp_reads (I : Inv X pins σ H s) {a : Addr} (h : H a = some (.dK [])) : Reads s.heap (.ref a) (.dict []) [a] := by
  obtain ⟨_, _, vs, kv, o, es, ep, ho, hc, hd, _, hp, _⟩ := I.hok a _ h
  cases kv
  have e : es.toList = [] := by
    cases q : es.toList with
    | nil => rfl
    | cons x r => rw [q] at hp; cases hp
  have := Reads.dict (h := s.heap) (a := a) (o := o) (es := es) (n := ep) (kvs := []) (as := []) (bs := []) ho hc.1 hd (by rw [e]; exact .nil) (by rw [e]; exact .nil)
  simpa using this
mutual
theorem Rep.reads (I : Inv X pins σ H s) (hs : sysOk X.K = true) : ∀ (d : D) (v : V) (u : Value), Rep X.K H P k d v → RelV v u → dkFree d = true → ∃ as, Reads s.heap u d.py as ∧ sysModules ∉ as
  | .non, _, _, h, r, _ => by cases h; cases r; exact ⟨[], Reads.none, by simp⟩
  | .bl b, _, _, h, r, _ => by cases h; cases r; exact ⟨[], Reads.bool b, by simp⟩
  | .int i, _, _, h, r, _ => by cases h; obtain ⟨t, rfl⟩ := r; exact ⟨[], Reads.int i t, by simp⟩
  | .str x, _, _, h, r, _ => by cases h; obtain ⟨t, rfl⟩ := r; exact ⟨[], Reads.str x t, by simp⟩
  | .tup ds, _, _, h, r, c => by
    cases h with
    | tup h1 h2 =>
      cases r
      obtain ⟨its, rv, ⟨o, ho, hc, n, hd⟩, _⟩ := I.tuple h1.sq
      obtain ⟨as, q1, q2⟩ := RepL.reads I hs ds _ its h2 rv (by simpa [dkFree] using c)
      exact ⟨as, Reads.tuple ho hc hd (by simpa using q1), q2⟩
  | .lst ds, _, _, h, r, c => by
    cases h with
    | @lst a xs _ h1 np h2 =>
      cases r
      obtain ⟨its, rv, hl, _⟩ := I.list (SqL.of h1)
      obtain ⟨o, ho, hc, n, hd⟩ := hl.isList
      obtain ⟨as, q1, q2⟩ := RepL.reads I hs ds _ its h2 rv (by simpa [dkFree] using c)
      refine ⟨_, Reads.list ho hc hd (by simpa using q1), ?_⟩
      intro z
      rcases List.mem_cons.mp z with z | z
      · exact not_sys I hs (a := a) (by rw [h1]; exact nofun) z.symm
      · exact q2 z
  | .emp, _, _, h, r, _ => by
    cases h with
    | @emp a h1 np =>
      cases r
      refine ⟨_, emp_reads I h1, ?_⟩
      intro z
      exact not_sys I hs (a := a) (by rw [h1]; exact nofun) (List.mem_singleton.mp z).symm
  | .dk, _, _, _, _, c => by cases c
  | .exc _ _ _, _, _, _, _, c => by cases c
theorem RepL.reads (I : Inv X pins σ H s) (hs : sysOk X.K = true) : ∀ (ds : List D) (vs : List V) (us : List Value), RepL X.K H P k ds vs → Vals vs us → dkFrees ds = true → ∃ as, ReadsAll s.heap us (pys ds) as ∧ sysModules ∉ as
  | [], _, _, h, r, _ => by cases h; cases r; exact ⟨[], .nil, by simp⟩
  | d :: ds, _, _, h, r, c => by
    cases h with
    | cons h1 h2 =>
      cases r with
      | cons r1 r2 =>
        have c : dkFree d = true ∧ dkFrees ds = true := by simpa [dkFrees] using c
        obtain ⟨as, q1, q2⟩ := Rep.reads I hs d _ _ h1 r1 c.1
        obtain ⟨bs, q3, q4⟩ := RepL.reads I hs ds _ _ h2 r2 c.2
        refine ⟨as ++ bs, .cons q1 q3, fun z => ?_⟩
        rcases List.mem_append.mp z with z | z
        · exact q2 z
        · exact q4 z
end
end
/-! ### repr of such data -/
def rprS (p : PyData) : Bool := p.showable && (p.leavesShort 400 && (decide (p.depth ≤ 60) && decide (p.weight ≤ 40000)))
theorem rprS_len {p : PyData} (h : rprS p = true) : p.shown.length ≤ sizeLine := by
  simp only [rprS, Bool.and_eq_true, decide_eq_true_eq] at h
  have := PyData.shown_le 400 (by decide) p h.2.1
  have e := sizeLine_eq
  omega
def rReprS (K : PySem.W.Frag) : List V → Hp → VK → Prop := fun vs H Q => ∃ (v : V) (d : D) (P : Addr → Prop) (k : KA), vs = [v] ∧ Rep K H P k d v ∧ dkFree d = true ∧ rprS d.py = true ∧ Q (.str d.py.shown) H
theorem cr_reprS {X : Cx} {n : Nat} (hg : X.A.guards = some []) (hr : Room n X.A) (hs : sysOk X.K = true) : CallR X (.builtin "repr") (rReprS X.K) := by
  intro pins s σ H vs us Q I r h
  obtain ⟨v, d, P, k, rfl, hd, dk, ok, q⟩ := h
  have len := rprS_len ok
  simp only [rprS, Bool.and_eq_true, decide_eq_true_eq] at ok
  obtain ⟨u, hu, rv⟩ := r.get (i := 0) rfl
  have eu : us = [u] := by
    cases r with
    | cons a b =>
      cases b
      have e := Option.some.inj (show some _ = some u from hu)
      rw [e]
  subst eu
  have un := hr.un
  have byRef : ∀ a, v = .ref a → wpAny (model X.prog X.w) X.A (call (.builtin "repr") [u]) (EP X pins σ Q) X.xe s := by
    rintro a rfl
    obtain ⟨as, rd, ns⟩ := Rep.reads I hs d _ _ hd rv dk
    have e : u = .ref a := rv
    subst e
    exact repr_of_reads' rd ok.1 (fun _ => ns) hg (by omega) (fun b o e => e) (fun h' t tk hk => ⟨.str _, H, I.kept hk, ⟨_, rfl⟩, q⟩) len
  cases hd with
  | non =>
    have e : u = .none := rv
    subst e
    exact PySem.P.repr_of_none ⟨.str _, H, I.kept fun b o e => e, ⟨_, rfl⟩, q⟩
  | bl b =>
    have e : u = .bool b := rv
    subst e
    exact PySem.P.repr_of_bool ⟨.str _, H, I.kept fun b o e => e, ⟨_, rfl⟩, q⟩
  | int i =>
    obtain ⟨t, e⟩ := rv
    subst e
    exact PySem.P.repr_of_int (by simpa [D.py, PyData.showable] using ok.1) ⟨.str _, H, I.kept fun b o e => e, ⟨_, rfl⟩, q⟩
  | str x =>
    obtain ⟨t, e⟩ := rv
    subst e
    exact PySem.P.repr_of_str ⟨.str _, H, I.kept fun b o e => e, ⟨_, rfl⟩, q⟩ len
  | tup _ _ => exact byRef _ rfl
  | lst _ _ _ => exact byRef _ rfl
  | emp _ _ => exact byRef _ rfl
  | dk _ => cases dk
  | exc => cases dk
  | fn => cases dk
  | ex0 => cases dk
def oReprS : List D → Option D
  | [d] => if dkFree d = true ∧ rprS d.py = true then some (.str d.py.shown) else none
  | _ => none
theorem pu_reprS {K : PySem.W.Frag} : PureA K (rReprS K) oReprS := by
  intro P k H vs ds d Q hP rx e q
  unfold oReprS at e
  split at e
  · rename_i d0
    split at e
    · rename_i h
      cases e
      cases rx with
      | cons r1 r2 =>
        cases r2
        exact ⟨_, _, P, k, rfl, r1, h.1, h.2, q _ H (Same.refl _) (.str _)⟩
    · cases e
  · cases e
/-! ### {} -/
section
variable {X : Cx} {W : WY} {pos : Pos}
theorem rep_new_emp {K : PySem.W.Frag} {H : Hp} {P : Addr → Prop} {k : KA} {p : Addr} (hP : ∀ a, P a → H a ≠ none) (h : H p = none) : Rep K (upd H p (.dK [])) P k .emp (.ref p) :=
  .emp upd_same fun z => hP p z h
theorem dE_emp : DE X W (.Dict [] [] pos) (eC .emp) := PE.imp pe_dnewK fun σ H Q ⟨g, n, env, Qd, Ed, R, p, q, r⟩ => fun a hp =>
  q .emp n _ _ p (rep_new_emp R.there hp) (Same.frm (same_upd hp)) (R.dk.same (same_upd hp))
end
/-! ### str of a number -/
def rStr : List V → Hp → VK → Prop := fun xs H Q => (∃ i, xs = [.int i] ∧ i.natAbs.log2 < 1920 ∧ Q (.str (toString i)) H) ∨ ∃ b : Bool, xs = [.bl b] ∧ Q (.str (if b then Str.ofString "True" else Str.ofString "False")) H
theorem call_strA {X : Cx} : CallR X (.type "str") rStr := by
  intro pins s σ H xs us Q I r h
  rcases h with h | ⟨b, rfl, q⟩
  · exact call_str_int _ _ _ _ _ _ _ I r h
  · obtain ⟨u, rfl, r1⟩ := vals1 r
    cases r1
    exact PySem.P.str_of_bool ⟨.str _, H, I.tok _, ⟨_, rfl⟩, q⟩
def oStr : List D → Option D
  | [.int i] => if i.natAbs.log2 < 1920 then some (.str (toString i)) else none
  | [.bl b] => some (.str (if b then Str.ofString "True" else Str.ofString "False"))
  | _ => none
theorem pu_strA {K : PySem.W.Frag} : PureA K rStr oStr := by
  intro P k H vs ds d Q hP rx e q
  unfold oStr at e
  split at e
  · split at e
    · rename_i h
      cases e
      cases rx with
      | cons r1 r2 =>
        cases r2
        cases r1
        exact .inl ⟨_, rfl, h, q _ H (Same.refl _) (.str _)⟩
    · cases e
  · cases e
    cases rx with
    | cons r1 r2 =>
      cases r2
      cases r1
      exact .inr ⟨_, rfl, q _ H (Same.refl _) (.str _)⟩
  · cases e
theorem boot_str' : bootBuiltins "str" = some (.type "str") := by decide +kernel

/-! ### t[::-1] -/
section
variable {prog : Program} {w : World} {A : Around} {E : Value → Shared → Prop} {s : Shared}
theorem adjust_rev (n : Nat) : Builtin.Slice.sliceAdjust none none (-1) (n : Int) = ((n : Int) - 1, -1) := rfl
theorem places_rev (n : Nat) : Builtin.Slice.slicePlaces ((n : Int) - 1) (-1) (-1) = n := by
  unfold Builtin.Slice.slicePlaces
  rw [if_neg (by decide)]
  rw [show (-(-1) : Int) = 1 by decide, Int.ediv_one]
  split <;> omega
theorem applied_rev {sl : Addr} {vl vu vs : Value} {n : Nat} {Q : Int × Int × Nat → Shared → Prop} (hs : s.heap.IsSliceOf sl vl vu vs) (pl : IsPart vl none) (pu : IsPart vu none) (ps : IsPart vs (some (-1)))
    (h : Q ((n : Int) - 1, -1, n) s) : wpAny (model prog w) A (Builtin.Slice.sliceApplied (.ref sl) (pure (n : Int))) Q E s := by
  obtain ⟨os, hos, hcs, hds⟩ := id hs
  unfold Builtin.Slice.sliceApplied Builtin.Slice.sliceFields
  refine wpAny_bind (wpAny_bind (wpAny_field hos hds (x := vl) rfl (wpAny_bind (wpAny_field hos hds (x := vu) rfl (wpAny_bind (wpAny_field hos hds (x := vs) rfl (wpAny_pure ?_)))))))
  refine wpAny_bind (HT.slicePart_ ps ?_)
  show wpAny _ _ (if ((-1 : Int) == 0) = true then _ else _) _ _ s
  rw [if_neg (by decide)]
  refine wpAny_bind (HT.slicePart_ pl (wpAny_bind (HT.slicePart_ pu (wpAny_bind (wpAny_pure ?_)))))
  show wpAny _ _ (match Builtin.Slice.sliceAdjust none none (-1) (n : Int) with | (lo, hi) => pure (lo, (-1 : Int), Builtin.Slice.slicePlaces lo hi (-1))) _ _ s
  rw [adjust_rev]
  show wpAny _ _ (pure ((n : Int) - 1, (-1 : Int), Builtin.Slice.slicePlaces ((n : Int) - 1) (-1) (-1))) _ _ s
  rw [places_rev]
  exact wpAny_pure h
theorem pick_rev (xs : Array Value) : ((List.range xs.size).filterMap fun (m : Nat) => xs[(((xs.size : Int) - 1) + (m : Int) * (-1)).toNat]?).toArray = xs.toList.reverse.toArray := by
  have e : ((List.range xs.size).filterMap fun (m : Nat) => xs[(((xs.size : Int) - 1) + (m : Int) * (-1)).toNat]?) = ((List.range xs.size).map fun k => xs.size - 1 - k).filterMap (xs[·]?) := by
    rw [List.filterMap_map]
    refine congrArg (fun f => List.filterMap f (List.range xs.size)) (funext fun m => ?_)
    show xs[((xs.size : Int) - 1 + (m : Int) * -1).toNat]? = xs[xs.size - 1 - m]?
    rw [show ((xs.size : Int) - 1 + (m : Int) * -1).toNat = xs.size - 1 - m by omega]
  rw [e, PySem.W.krv_range, List.filterMap_reverse, PySem.W.krv_all]
theorem getItem_tuple_rev {t sl : Addr} {items : Array Value} {vl vu vs : Value} {Q : Value → Shared → Prop} (ht : PyProof.Rows.IsTup s.heap t items) (hs : s.heap.IsSliceOf sl vl vu vs) (pl : IsPart vl none) (pu : IsPart vu none) (ps : IsPart vs (some (-1)))
    (h : Q (.ref s.heap.objs.size) { s with heap := s.heap.push { cls := .type "tuple", data := .seq items.toList.reverse.toArray } }) (hsz : items.size ≤ sizeLine) : wpAny (model prog w) A (getItem (.ref t) (.ref sl)) Q E s := by
  have room : sizeOk (.seq items.toList.reverse.toArray) := by
    show items.toList.reverse.toArray.size ≤ sizeLine
    rw [List.size_toArray, List.length_reverse, Array.length_toList]
    exact hsz
  obtain ⟨os, hos, hcs, hds⟩ := id hs
  have hTs : s.TypeIs (.ref sl) "slice" := ⟨os, hos, hcs⟩
  unfold getItem
  try with_reducible refine wpAny_holding ?_
  first | refine wpAny_bind (wpAny_pure ?_) | skip
  refine wpAny_bind (wpAny_sequenceKey ht.typeIs (by decide) ?_)
  refine wpAny_bind (wpAny_callSpecial?_slot (name := Str.ofString "__getitem__") ht.typeIs PyProof.Rows.slot_tuple_getitem
    (wpAny_call_entry PyProof.Rows.slot_tuple_getitem ht.typeIs entry_tuple_getitem ?_ (args_tuple_getitem _ _)))
  show wpAny _ _ (Builtin.Tuple.tupleItemsOf (.ref t) >>= _) _ _ s
  refine wpAny_bind (PyProof.Rows.tupleItemsOf_ ht ?_)
  refine wpAny_bind (wpAny_typeOf hTs ?_)
  rw [if_pos (by decide)]
  refine wpAny_bind (applied_rev hs pl pu ps ?_)
  have hno : ¬ ((((items.size : Int) - 1) == 0 && (-1 : Int) == 1 && items.size == items.size) = true) := by
    rw [show ((-1 : Int) == 1) = false from rfl, Bool.and_false, Bool.false_and]
    exact Bool.false_ne_true
  show wpAny _ _ (if (((items.size : Int) - 1) == 0 && (-1 : Int) == 1 && items.size == items.size) = true then _ else _) _ _ s
  rw [if_neg hno, pick_rev]
  first
    | exact wpAny_bind (m := Builtin.Tuple.tupleExact _) (wpAny_newObj_type (wpAny_pure ⟨_, rfl, wpAny_pure h⟩) room)
    | exact wpAny_bind (m := Builtin.Tuple.tupleExact _) (wpAny_newObj_type (wpAny_bind (wpAny_pure (wpAny_pure ⟨_, rfl, wpAny_pure h⟩))) room)
    | exact wpAny_bind (wpAny_bind (m := Builtin.Tuple.tupleExact _) (wpAny_newObj_type (wpAny_pure (wpAny_pure ⟨_, rfl, wpAny_pure h⟩)) room))
    | exact wpAny_bind (wpAny_bind (m := Builtin.Tuple.tupleExact _) (wpAny_newObj_type (wpAny_pure ⟨_, rfl, wpAny_pure h⟩) room))
end
def tRevT (K : PySem.W.Frag) (te : TE) : TE := fun σ H Q => te σ H fun x H1 => ∃ a xs, x = .ref a ∧ SqT K H1 a xs ∧ ∀ p, H1 p = none → Q (.ref p) (upd H1 p (.tup xs.reverse))
section
variable {X : Cx}
theorem pe_revT {e : Expr} {te : TE} {k : Nat} {p1 p2 p3 pos : Pos} (he : PE X e te) : PE X (.Subscript e (.Slice none none (some (.UnaryOp .USub (.Constant (.int 1) k p1) p2)) p3) pos) (tRevT X.K te) := by
  refine ⟨fun pins s σ H Q I h => ?_⟩
  refine Subscript_ (thn (he.run pins s σ H _ I h) fun v s1 ⟨x, H1, I1, r1, q1⟩ => ?_)
  obtain ⟨a, xs, rfl, hx, q⟩ := q1
  cases r1
  have hst : PO X (some (.UnaryOp .USub (.Constant (.int 1) k p1) p2)) (tPart (tUn (rU fun i => .int (-i)) (tC (.int 1)))) := po_some (pe_un un_neg pe_int)
  refine wpAny_Slice (thn (po_none.run pins s1 σ H1 (fun o H2 => o = none ∧ H2 = H1) I1 ⟨rfl, rfl⟩) fun vl s2 ⟨l, H2, I2, pl, el, e2⟩ => ?_)
  subst el e2
  refine thn (po_none.run pins s2 σ H2 (fun o H3 => o = none ∧ H3 = H2) I2 ⟨rfl, rfl⟩) fun vu s3 ⟨u, H3, I3, pu, eu, e3⟩ => ?_
  subst eu e3
  refine thn (hst.run pins s3 σ H3 (fun o H4 => o = some (-1) ∧ H4 = H3) I3 ⟨1, rfl, -1, rfl, rfl, rfl⟩) fun vs s4 ⟨o, H4, I4, ps, eo, e4⟩ => ?_
  subst eo e4
  have I5 : Inv X pins σ H4 { s4 with heap := s4.heap.push { cls := .type "slice", data := .fields #[vl, vu, vs] } } := I4.kept (t' := s4.toks) fun b ob q => Heap.get?_push_of_some _ q
  obtain ⟨its, r, ht, hz⟩ := I5.tuple hx
  have hlen := r.length
  show wpAny (model X.prog X.w) X.A (subscriptTail e (.Slice none none (some (.UnaryOp .USub (.Constant (.int 1) k p1) p2)) p3) (.ref a) (.ref s4.heap.objs.size)) (EP X pins σ Q) X.xe { s4 with heap := s4.heap.push { cls := .type "slice", data := .fields #[vl, vu, vs] } }
  refine tail_any (ops := [.ref a, .ref s4.heap.objs.size]) ht.typeIs (PyProof.Rows.slot_tuple_getitem.lookup) ?_ (by with_unfolding_all rfl)
  refine getItem_tuple_rev ht (Heap.IsSliceOf.new _ vl vu vs) pl pu ps ?_ (by rw [List.size_toArray]; omega)
  refine ⟨.ref _, _, I5.laid (t' := s4.toks) (o := .tup xs.reverse) (fun b ob q => Heap.get?_push_of_some _ q) (Nat.le_refl _) ?_, rfl, q _ (I5.hok.fresh (Nat.le_refl _))⟩
  exact ⟨by rw [List.length_reverse]; exact hz, _, r.reverse, PyProof.Rows.IsTup.new _ _⟩
end
def oRevT : D → Option D
  | .tup xs => some (.tup xs.reverse)
  | _ => none
theorem RepL.rev {K : PySem.W.Frag} {H : Hp} {P : Addr → Prop} {k : KA} : ∀ {ds : List D} {vs : List V}, RepL K H P k ds vs → RepL K H P k ds.reverse vs.reverse
  | [], _, h => by cases h; exact .nil
  | d :: ds, _, h => by
    cases h with
    | cons h1 h2 =>
      rw [List.reverse_cons, List.reverse_cons]
      exact (RepL.rev h2).append (.cons h1 .nil)
section
variable {X : Cx} {W : WY}
theorem dE_revT {e : Expr} {φ : Env' → M D} {k : Nat} {p1 p2 p3 pos : Pos} (ha : DE X W e φ) : DE X W (.Subscript e (.Slice none none (some (.UnaryOp .USub (.Constant (.int 1) k p1) p2)) p3) pos) (eUn oRevT φ) := by
  refine PE.imp (pe_revT ha) fun σ H Q hh => ?_
  refine tX_bnd (f := fun x env => opt (oRevT x)) hh fun g env n dx x H1 Qd Ed R1 rx p q r => ?_
  obtain ⟨d, e, qd⟩ := opt_some p
  cases dx <;> simp only [oRevT] at e <;> first | (cases e; done) | skip
  cases e
  cases rx with
  | tup h1 h2 => exact ⟨_, _, rfl, h1.sq, fun a hp => q _ n _ _ qd (rep_new_tup R1.there hp (RepL.rev h2)) (Same.frm (same_upd hp)) (R1.dk.same (same_upd hp))⟩
end

/-! ### xs == [], whatever the items -/
def oEqN : D → D → Option D
  | .lst xs, .lst [] => some (.bl xs.isEmpty)
  | a, b => oEq a b
@[simp] theorem oEqN_nil (xs : List D) : oEqN (.lst xs) (.lst []) = some (.bl xs.isEmpty) := by
  cases xs <;> rfl
def rEqN (K : PySem.W.Frag) : R2 := fun x y H Q => rEqD K x y H Q ∨ ∃ (a b : Addr) (xs : List V), x = .ref a ∧ y = .ref b ∧ SqL K H a xs ∧ SqL K H b [] ∧ Q (.bl xs.isEmpty) H
theorem op_eqN {X : Cx} (hu : X.A.units + 64 < cLine) : OpR X (compareOp .Eq) (rEqN X.K) := by
  intro pins s σ H x y v u Q I rx ry h
  rcases h with h | ⟨a, b, xs, rfl, rfl, ha, hb, q⟩
  · exact op_eqD hu _ _ _ _ _ _ _ _ _ I rx ry h
  cases rx
  cases ry
  obtain ⟨its, r1, p1, _⟩ := I.list ha
  obtain ⟨its2, r2, p2, _⟩ := I.list hb
  cases r2
  have fin : ∀ k, k = xs.isEmpty → EP X pins σ Q (.bool k) s := fun k e => by
    subst e
    exact ⟨.bl _, H, I, rfl, q⟩
  have hl := r1.length
  cases xs with
  | nil =>
    cases r1
    have R := SeqAt.RcAt.lists (A := X.A) (s := s) (e := fun _ => true) p1.isList p2.isList rfl (by omega) (fun j h1 h2 => absurd h1 (Nat.not_lt_zero j))
    have z : wpAny (model X.prog X.w) X.A (compareOp .Eq (.ref a) (.ref b)) (EP X pins σ Q) X.xe s := R X.prog X.w X.xe (EP X pins σ Q) (fin _ rfl)
    exact z
  | cons x0 xs0 =>
    have ne : (its.toArray.size != ([] : List Value).toArray.size) = true := by
      rw [List.size_toArray, ← hl]
      rfl
    have R := SeqAt.RcAt.lists_lengths (A := X.A) (s := s) p1.isList p2.isList ne (by omega)
    have z : wpAny (model X.prog X.w) X.A (compareOp .Eq (.ref a) (.ref b)) (EP X pins σ Q) X.xe s := R X.prog X.w X.xe (EP X pins σ Q) (fin _ rfl)
    exact z
theorem pu_eqN {K : PySem.W.Frag} : Pure2 K (rEqN K) oEqN := by
  intro P k H x y dx dy d Q hP rx ry e q
  unfold oEqN at e
  split at e
  · rename_i xs
    cases e
    cases rx with
    | lst h1 n1 h2 =>
      cases ry with
      | lst h3 n3 h4 =>
        cases h4
        refine .inr ⟨_, _, _, rfl, rfl, SqL.of h1, SqL.of h3, ?_⟩
        have el := h2.len
        have ee : ∀ {ds : List D} {vs : List V}, RepL K H P k ds vs → vs.isEmpty = ds.isEmpty := fun {ds vs} h => by
          cases h <;> rfl
        rw [ee h2]
        exact q _ H (Same.refl _) (.bl _)
  · exact .inl (pu_eq P k H x y dx dy d Q hP rx ry e q)
section
variable {X : Cx} {W : WY} {n : Nat} {a b : Expr} {φa φb : Env' → M D} {pos : Pos}
theorem dE_eqN (hr : Room n X.A) (ha : DE X W a φa) (hb : DE X W b φb) : DE X W (.Compare a [.Eq] [b] pos) (eOp oEqN φa φb) := dE_cmp (op_eqN (room64 hr)) pu_eqN (nomark _) ha hb
theorem dT_eqN (hr : Room n X.A) (ha : DE X W a φa) (hb : DE X W b φb) : DT X W (.Compare a [.Eq] [b] pos) (eB (eOp oEqN φa φb)) := dT_cmp (op_eqN (room64 hr)) pu_eqN (nomark _) ha hb
end

/-! ### texts that differ -/
def oNeS : D → D → Option D
  | .str x, .str y => some (.bl (!decide (x = y)))
  | a, b => oNe a b
@[simp] theorem oNeS_self (x : Str) : oNeS (.str x) (.str x) = some (.bl false) := by simp [oNeS]
def rNeS (K : PySem.W.Frag) : R2 := fun x y H Q => rNeD K x y H Q ∨ rNe x y H Q
theorem op_neS {X : Cx} (hu : X.A.units + 64 < cLine) : OpR X (compareOp .NotEq) (rNeS X.K) := by
  intro pins s σ H x y v u Q I rx ry h
  rcases h with h | h
  · exact op_neD hu _ _ _ _ _ _ _ _ _ I rx ry h
  · exact op_ne _ _ _ _ _ _ _ _ _ I rx ry h
theorem pu_neS {K : PySem.W.Frag} : Pure2 K (rNeS K) oNeS := by
  intro P k H x y dx dy d Q hP rx ry e q
  unfold oNeS at e
  split at e
  · cases e
    cases rx
    cases ry
    refine .inr ⟨rfl, ?_⟩
    have := q _ H (Same.refl _) (.bl _)
    simpa using this
  · exact .inl (pu_ne P k H x y dx dy d Q hP rx ry e q)
section
variable {X : Cx} {W : WY} {n : Nat} {a b : Expr} {φa φb : Env' → M D} {pos : Pos}
theorem dE_neS (hr : Room n X.A) (ha : DE X W a φa) (hb : DE X W b φb) : DE X W (.Compare a [.NotEq] [b] pos) (eOp oNeS φa φb) := dE_cmp (op_neS (room64 hr)) pu_neS (nomark _) ha hb
theorem dT_neS (hr : Room n X.A) (ha : DE X W a φa) (hb : DE X W b φb) : DT X W (.Compare a [.NotEq] [b] pos) (eB (eOp oNeS φa φb)) := dT_cmp (op_neS (room64 hr)) pu_neS (nomark _) ha hb
end
end Den

set_option autoImplicit true
set_option Elab.async false
set_option linter.all false
set_option maxRecDepth 100000
set_option maxHeartbeats 4000000
set_option autoImplicit false
namespace Den
open PySem PySem.Spec PyProof.Rows L2 PySem.W PySem.SeqAt

/-! ### zip whose target is a name: the tuple that went out may still be there, or not -/
abbrev IsZ (h : Heap) (z TI TO : Addr) (f0 : Value) (f1 : Bool) : Prop :=
  h.get? z = some { cls := .type "zip", dict := none, data := .fields #[f0, .bool f1, .bool false, .ref TI, .ref TO], slots := #[] }
section
variable {prog : Program} {w : World} {A : Around} {E : Value → Shared → Prop} {s : Shared} {z TI TO i1 i2 : Addr} {fp1 fp2 : List Addr} {n1 n2 i : Nat} {P1 P2 : Nat → Value → Prop} {St1 St2 : Nat → Heap → Prop} {a1 a2 f0 : Value} {f1 : Bool}
theorem none_alive {a : Addr} {Q : Option Obj → Shared → Prop} (ho : s.heap.get? a = none) (h : Q none s) : wpAny (model prog w) A (loadIfAlive a) Q E s := by
  have h' : Q (s.heap.get? a) s := by rw [ho]; exact h
  exact fun _ _ _ => h'
/-- what the zip holds back is free, or not -/
theorem z_free {Q : Bool → Shared → Prop} (hz : IsZ s.heap z TI TO f0 f1) (hf : f0 = .none ∨ ∃ T : Addr, f0 = rawInt T) (h1 : Q true s) (h2 : ∀ (T : Addr) (h' : Heap), f0 = rawInt T → IsZ h' z TI TO f0 true → Heap.SameBut z s.heap h' → Q false { s with heap := h' }) :
    wpAny (model prog w) A (Builtin.SmallTypes.ownedTupleIsFree (.ref z)) Q E s := by
  unfold Builtin.SmallTypes.ownedTupleIsFree
  refine wpAny_bind (wpAny_field hz rfl (x := f0) rfl ?_)
  rcases hf with rfl | ⟨T, rfl⟩
  · exact wpAny_pure h1
  · show wpAny _ _ (loadIfAlive ((T : Int).toNat) >>= _) _ _ _
    rw [Int.toNat_natCast]
    cases e : s.heap.get? T with
    | none =>
      refine wpAny_bind (none_alive e ?_)
      simp only [Option.isNone_none, if_true]
      exact wpAny_pure h1
    | some o =>
      refine wpAny_bind (kdx_alive e ?_)
      simp only [Option.isNone_some, Bool.false_eq_true, if_false]
      refine wpAny_bind (wpAny_field hz rfl (x := .bool f1) rfl ?_)
      cases f1 with
      | true =>
        rw [if_neg (show ¬ ((Value.bool true != Value.bool true) = true) from Bool.false_ne_true)]
        exact wpAny_pure (h2 T s.heap rfl hz (Heap.SameBut.refl _ _))
      | false =>
        rw [if_pos (show (Value.bool false != Value.bool true) = true from rfl)]
        exact wpAny_bind (wpAny_setField_rec hz (by simp) fun h₁ hz₁ hs₁ => wpAny_pure (h2 T h₁ rfl hz₁ hs₁))
theorem z_next_item {Q : Value → Shared → Prop} (S : ZipSep2 z TI TO i1 i2 fp1 fp2) (D1 : Draws prog w A i1 fp1 n1 P1 St1) (D2 : Draws prog w A i2 fp2 n2 P2 St2)
    (hz : IsZ s.heap z TI TO f0 f1) (hf : f0 = .none ∨ ∃ T : Addr, f0 = rawInt T) (hTI : IsTupOf2 s.heap TI (.ref i1) (.ref i2)) (hTO : IsTupOf2 s.heap TO a1 a2) (st1 : St1 i s.heap) (st2 : St2 i s.heap) (hlt1 : i < n1) (hlt2 : i < n2)
    (hQ : ∀ x1 x2 h' tk, P1 i x1 → P2 i x2 → (∃ (T : Addr) (g : Bool), IsZ h' z TI TO (rawInt T) g) → (∃ b1 b2, IsTupOf2 h' TO b1 b2) → St1 (i + 1) h' → St2 (i + 1) h' → IsTupOf2 h' s.heap.objs.size x1 x2 → h'.objs.size = s.heap.objs.size + 1 →
      (∀ c o, c ≠ z → c ≠ TO → c ≠ i1 → c ≠ i2 → s.heap.get? c = some o → h'.get? c = some o) → Q (.ref s.heap.objs.size) { s with heap := h', toks := tk }) :
    wpAny (model prog w) A (Builtin.«zip.__next__» ⟨[.ref z], []⟩) (fun fin s' => ∃ v, fin = .done (.ret v) ∧ Q v s') E s := by
  obtain ⟨hp, g, d, tk0, os⟩ := s
  show wpAny _ _ (field (.ref z) 2 >>= _) _ _ _
  refine wpAny_bind (wpAny_field hz rfl (x := .bool false) rfl ?_)
  show wpAny _ _ (field (.ref z) 3 >>= _) _ _ _
  refine wpAny_bind (wpAny_field hz rfl (x := .ref TI) rfl ?_)
  refine wpAny_bind (wpAny_seqItems hTI rfl ?_)
  show wpAny _ _ (Builtin.SmallTypes.ownedTupleIsFree (.ref z) >>= _) _ _ _
  refine wpAny_bind (z_free hz hf ?_ fun T g0 eT hz0 hs0 => ?_)
  · -- free: it is made anew
    simp only [if_true]
    refine wpAny_bind (wpAny_rule ?_)
    refine wpAny_bind (wpAny_field hz rfl (x := .ref TO) rfl ?_)
    refine wpAny_bind (wpAny_setField_rec hz (by simp) fun g0 hz0 hs0 => ?_)
    replace hz0 : IsZ g0 z TI TO .ellipsis f1 := hz0
    replace hs0 : Heap.SameBut z hp g0 := hs0
    refine wpAny_bind ?_
    simp only [List.zipIdx_cons, List.zipIdx_nil, List.forIn_cons, List.forIn_nil]
    refine wpAny_bind (wpAny_bind (wpAny_onRaise ?_))
    show wpAny _ _ (Builtin.SmallTypes.nextOf (.ref i1) >>= _) _ _ ⟨g0, g, d, tk0, os⟩
    refine wpAny_bind (D1.item i _ _ _ hlt1 (D1.over st1 hs0 S.zf1) fun x1 p1 tk1 hx1 sn1 hp1 => wpAny_pure ?_)
    replace hp1 : Heap.SameBut i1 g0 p1 := hp1
    have hU1 : IsTupOf2 p1 TO a1 a2 := hp1.extBut _ _ S.Ti1 (hs0.extBut _ _ S.TOz hTO)
    refine wpAny_bind (wpAny_seqItems (s := ⟨p1, g, d, tk1, os⟩) hU1 rfl ?_)
    refine wpAny_bind (updateSeq_IsTupOf2 (s := ⟨p1, g, d, tk1, os⟩) hU1 fun g1 hT1 hs1 => ?_)
    replace hT1 : IsTupOf2 g1 TO x1 a2 := hT1
    replace hs1 : Heap.SameBut TO p1 g1 := hs1
    refine wpAny_bind (wpAny_letGo (wpAny_pure ?_))
    refine wpAny_bind (wpAny_bind (wpAny_onRaise ?_))
    show wpAny _ _ (Builtin.SmallTypes.nextOf (.ref i2) >>= _) _ _ ⟨g1, g, d, tk1, os⟩
    refine wpAny_bind (D2.item i _ _ _ hlt2 (D2.over (D2.over (D2.over st2 hs0 S.zf2) hp1 S.sep1_2) hs1 S.Tf2) fun x2 p2 tk2 hx2 sn2 hp2 => wpAny_pure ?_)
    replace hp2 : Heap.SameBut i2 g1 p2 := hp2
    have hU2 : IsTupOf2 p2 TO x1 a2 := hp2.extBut _ _ S.Ti2 hT1
    refine wpAny_bind (wpAny_seqItems (s := ⟨p2, g, d, tk2, os⟩) hU2 rfl ?_)
    refine wpAny_bind (updateSeq_IsTupOf2 (s := ⟨p2, g, d, tk2, os⟩) hU2 fun g2 hT2 hs2 => ?_)
    replace hT2 : IsTupOf2 g2 TO x1 x2 := hT2
    replace hs2 : Heap.SameBut TO p2 g2 := hs2
    refine wpAny_bind (wpAny_letGo (wpAny_pure (wpAny_pure ?_)))
    refine wpAny_bind (wpAny_seqItems (s := ⟨g2, g, d, tk2, os⟩) hT2 rfl ?_)
    refine wpAny_bind (wpAny_newTuple ?_)
    have hsz : g2.objs.size = hp.objs.size := by rw [hs2.1, hp2.1, hs1.1, hp1.1, hs0.1]
    have hzz : IsZ g2 z TI TO .ellipsis f1 := hs2.extBut _ _ S.TOz.symm (hp2.extBut _ _ S.zi2 (hs1.extBut _ _ S.TOz.symm (hp1.extBut _ _ S.zi1 hz0)))
    have hkk : ∀ c o, c ≠ z → c ≠ TO → c ≠ i1 → c ≠ i2 → hp.get? c = some o → g2.get? c = some o := fun c o cz cT c1 c2 e =>
      hs2.extBut _ _ cT (hp2.extBut _ _ c2 (hs1.extBut _ _ cT (hp1.extBut _ _ c1 (hs0.extBut _ _ cz e))))
    have hj1 : St1 (i + 1) g2 := D1.over (D1.over (D1.over sn1 hs1 S.Tf1) hp2 S.sep2_1) hs2 S.Tf1
    have hj2 : St2 (i + 1) g2 := D2.over sn2 hs2 S.Tf2
    have hzlt : z < g2.objs.size := Heap.lt_size hzz
    show wpAny _ _ (Builtin.SmallTypes.ownedTupleHandOut (.ref z) (.ref g2.objs.size) >>= _) _ _ ⟨g2.push { cls := .type "tuple", data := .seq #[x1, x2] }, g, d, tk2, os⟩
    refine wpAny_bind ?_
    unfold Builtin.SmallTypes.ownedTupleHandOut
    have hz₆ : IsZ (g2.push { cls := .type "tuple", data := .seq #[x1, x2] }) z TI TO .ellipsis f1 := Heap.get?_push_of_some _ hzz
    refine wpAny_bind (wpAny_setField_rec hz₆ (by simp) fun h₇ hz₇ hs₇ => ?_)
    replace hz₇ : IsZ h₇ z TI TO (rawInt g2.objs.size) f1 := hz₇
    refine wpAny_setField_rec hz₇ (by simp) fun h₈ hz₈ hs₈ => ?_
    replace hz₈ : IsZ h₈ z TI TO (rawInt g2.objs.size) false := hz₈
    replace hs₇ : Heap.SameBut z (g2.push { cls := .type "tuple", data := .seq #[x1, x2] }) h₇ := hs₇
    replace hs₈ : Heap.SameBut z h₇ h₈ := hs₈
    have up : ∀ c o, c ≠ z → g2.get? c = some o → h₈.get? c = some o := fun c o c1 e => hs₈.extBut _ _ c1 (hs₇.extBut _ _ c1 (Heap.get?_push_of_some _ e))
    have hT₈ : IsTupOf2 h₈ g2.objs.size x1 x2 := hs₈.extBut _ _ (Nat.ne_of_gt hzlt) (hs₇.extBut _ _ (Nat.ne_of_gt hzlt) (Heap.get?_push_size _ rfl))
    have hz8 : h₈.objs.size = g2.objs.size + 1 := by rw [hs₈.1, hs₇.1, Heap.size_push]
    rw [hsz] at hz₈ hT₈ hz8
    refine wpAny_pure ⟨_, rfl, ?_⟩
    show Q (.ref g2.objs.size) ⟨h₈, g, d, tk2, os⟩
    rw [hsz]
    exact hQ x1 x2 h₈ tk2 hx1 hx2 ⟨_, _, hz₈⟩ ⟨_, _, up _ _ S.TOz hT2⟩ (D1.frame _ _ _ hj1 fun b hb o e => up b o (fun q => S.zf1 (q ▸ hb)) e) (D2.frame _ _ _ hj2 fun b hb o e => up b o (fun q => S.zf2 (q ▸ hb)) e) hT₈ hz8 fun c o cz cT c1 c2 e => up c o cz (hkk c o cz cT c1 c2 e)
  · -- held: a new one, the zip keeps what it knows
    replace hs0 : Heap.SameBut z hp g0 := hs0
    simp only [Bool.false_eq_true, if_false]
    refine wpAny_bind ?_
    rw [← Array.forIn_toList]
    simp only [List.forIn_cons, List.forIn_nil]
    refine wpAny_bind (wpAny_bind (wpAny_holding ?_))
    show wpAny _ _ (Builtin.SmallTypes.nextOf (.ref i1) >>= _) _ _ ⟨g0, g, d, tk0, os⟩
    refine wpAny_bind (D1.item i _ _ _ hlt1 (D1.over st1 hs0 S.zf1) fun x1 p1 tk1 hx1 sn1 hp1 => wpAny_pure ?_)
    replace hp1 : Heap.SameBut i1 g0 p1 := hp1
    refine wpAny_pure ?_
    refine wpAny_bind (wpAny_bind (wpAny_holding ?_))
    show wpAny _ _ (Builtin.SmallTypes.nextOf (.ref i2) >>= _) _ _ ⟨p1, g, d, tk1, os⟩
    refine wpAny_bind (D2.item i _ _ _ hlt2 (D2.over (D2.over st2 hs0 S.zf2) hp1 S.sep1_2) fun x2 p2 tk2 hx2 sn2 hp2 => wpAny_pure ?_)
    replace hp2 : Heap.SameBut i2 p1 p2 := hp2
    refine wpAny_pure (wpAny_pure ?_)
    show wpAny _ _ (newTuple [x1, x2] >>= _) _ _ ⟨p2, g, d, tk2, os⟩
    refine wpAny_bind (wpAny_newTuple ?_)
    have hsz : p2.objs.size = hp.objs.size := by rw [hp2.1, hp1.1, hs0.1]
    have hzz : IsZ p2 z TI TO f0 true := hp2.extBut _ _ S.zi2 (hp1.extBut _ _ S.zi1 hz0)
    have hTT : IsTupOf2 p2 TO a1 a2 := hp2.extBut _ _ S.Ti2 (hp1.extBut _ _ S.Ti1 (hs0.extBut _ _ S.TOz hTO))
    have hkk : ∀ c o, c ≠ z → c ≠ TO → c ≠ i1 → c ≠ i2 → hp.get? c = some o → p2.get? c = some o := fun c o cz cT c1 c2 e =>
      hp2.extBut _ _ c2 (hp1.extBut _ _ c1 (hs0.extBut _ _ cz e))
    have hj1 : St1 (i + 1) p2 := D1.over sn1 hp2 S.sep2_1
    have up : ∀ c o, p2.get? c = some o → (p2.push { cls := .type "tuple", data := .seq #[x1, x2] }).get? c = some o := fun c o e => Heap.get?_push_of_some _ e
    have hT8 : IsTupOf2 (p2.push { cls := .type "tuple", data := .seq #[x1, x2] }) p2.objs.size x1 x2 := Heap.get?_push_size _ rfl
    have hz8 : (p2.push { cls := .type "tuple", data := .seq #[x1, x2] }).objs.size = p2.objs.size + 1 := Heap.size_push ..
    refine wpAny_pure ⟨_, rfl, ?_⟩
    show Q (.ref p2.objs.size) ⟨p2.push { cls := .type "tuple", data := .seq #[x1, x2] }, g, d, tk2, os⟩
    rw [hsz] at hT8 hz8 ⊢
    exact hQ x1 x2 _ tk2 hx1 hx2 ⟨T, true, by rw [← eT]; exact up _ _ hzz⟩ ⟨_, _, up _ _ hTT⟩ (D1.frame _ _ _ hj1 fun b _ o e => up b o e) (D2.frame _ _ _ sn2 fun b _ o e => up b o e) hT8 hz8 fun c o cz cT c1 c2 e => up c o (hkk c o cz cT c1 c2 e)

theorem z_next_end {Q : Fin → Shared → Prop} (S : ZipSep2 z TI TO i1 i2 fp1 fp2) (D1 : Draws prog w A i1 fp1 n1 P1 St1) (D2 : Draws prog w A i2 fp2 n2 P2 St2)
    (hz : IsZ s.heap z TI TO f0 f1) (hf : f0 = .none ∨ ∃ T : Addr, f0 = rawInt T) (hTI : IsTupOf2 s.heap TI (.ref i1) (.ref i2)) (hTO : IsTupOf2 s.heap TO a1 a2) (st1 : St1 i s.heap) (st2 : St2 i s.heap) (hle1 : i ≤ n1) (hle2 : i ≤ n2) (hend : i = n1 ∨ i = n2)
    (hE : ∀ h' tk e, (∀ c o, c ≠ z → c ≠ TO → c ≠ i1 → c ≠ i2 → s.heap.get? c = some o → h'.get? c = some o) → (∃ o, h'.get? e = some o ∧ o.cls = .type "StopIteration") → E (.ref e) { s with heap := h', toks := tk }) :
    wpAny (model prog w) A (Builtin.«zip.__next__» ⟨[.ref z], []⟩) Q E s := by
  obtain ⟨hp, g, d, tk0, os⟩ := s
  show wpAny _ _ (field (.ref z) 2 >>= _) _ _ _
  refine wpAny_bind (wpAny_field hz rfl (x := .bool false) rfl ?_)
  show wpAny _ _ (field (.ref z) 3 >>= _) _ _ _
  refine wpAny_bind (wpAny_field hz rfl (x := .ref TI) rfl ?_)
  refine wpAny_bind (wpAny_seqItems hTI rfl ?_)
  show wpAny _ _ (Builtin.SmallTypes.ownedTupleIsFree (.ref z) >>= _) _ _ _
  refine wpAny_bind (z_free hz hf ?_ fun T g0 eT hz0 hs0 => ?_)
  · simp only [if_true]
    refine wpAny_bind (wpAny_rule ?_)
    refine wpAny_bind (wpAny_field hz rfl (x := .ref TO) rfl ?_)
    refine wpAny_bind (wpAny_setField_rec hz (by simp) fun g0 hz0 hs0 => ?_)
    replace hz0 : IsZ g0 z TI TO .ellipsis f1 := hz0
    replace hs0 : Heap.SameBut z hp g0 := hs0
    refine wpAny_bind ?_
    simp only [List.zipIdx_cons, List.zipIdx_nil, List.forIn_cons, List.forIn_nil]
    refine wpAny_bind (wpAny_bind (wpAny_onRaise ?_))
    show wpAny _ _ (Builtin.SmallTypes.nextOf (.ref i1) >>= _) _ _ ⟨g0, g, d, tk0, os⟩
    by_cases hlt1 : i < n1
    · refine wpAny_bind (D1.item i _ _ _ hlt1 (D1.over st1 hs0 S.zf1) fun x1 p1 tk1 hx1 sn1 hp1 => wpAny_pure ?_)
      replace hp1 : Heap.SameBut i1 g0 p1 := hp1
      have hU1 : IsTupOf2 p1 TO a1 a2 := hp1.extBut _ _ S.Ti1 (hs0.extBut _ _ S.TOz hTO)
      refine wpAny_bind (wpAny_seqItems (s := ⟨p1, g, d, tk1, os⟩) hU1 rfl ?_)
      refine wpAny_bind (updateSeq_IsTupOf2 (s := ⟨p1, g, d, tk1, os⟩) hU1 fun g1 hT1 hs1 => ?_)
      replace hs1 : Heap.SameBut TO p1 g1 := hs1
      refine wpAny_bind (wpAny_letGo (wpAny_pure ?_))
      have hi2 : i = n2 := by omega
      refine wpAny_bind (wpAny_bind (wpAny_onRaise ?_))
      show wpAny _ _ (Builtin.SmallTypes.nextOf (.ref i2) >>= _) _ _ ⟨g1, g, d, tk1, os⟩
      refine wpAny_bind (D2.done ⟨g1, g, d, tk1, os⟩ _ _ (by rw [← hi2]; exact D2.over (D2.over (D2.over st2 hs0 S.zf2) hp1 S.sep1_2) hs1 S.Tf2) fun q e hq he => ?_)
      replace hq : Heap.ExtBut i2 g1 q := hq
      obtain ⟨oe, hoe, hce⟩ := he
      replace hoe : q.get? e = some oe := hoe
      have hzq : IsZ q z TI TO .ellipsis f1 := hq _ _ S.zi2 (hs1.extBut _ _ S.TOz.symm (hp1.extBut _ _ S.zi1 hz0))
      have hez : e ≠ z := fun x => by subst x; rw [hzq] at hoe; cases hoe; simp at hce
      refine wpAny_setField_rec (s := ⟨q, g, d, tk1, os⟩) hzq (by simp) fun q' _ hq' => ?_
      replace hq' : Heap.SameBut z q q' := hq'
      exact hE q' tk1 e (fun c o cz cT c1 c2 x => hq'.extBut _ _ cz (hq _ _ c2 (hs1.extBut _ _ cT (hp1.extBut _ _ c1 (hs0.extBut _ _ cz x))))) ⟨oe, hq'.extBut _ _ hez hoe, hce⟩
    · have hi1 : i = n1 := by omega
      refine wpAny_bind (D1.done ⟨g0, g, d, tk0, os⟩ _ _ (by rw [← hi1]; exact D1.over st1 hs0 S.zf1) fun q e hq he => ?_)
      replace hq : Heap.ExtBut i1 g0 q := hq
      obtain ⟨oe, hoe, hce⟩ := he
      replace hoe : q.get? e = some oe := hoe
      have hzq : IsZ q z TI TO .ellipsis f1 := hq _ _ S.zi1 hz0
      have hez : e ≠ z := fun x => by subst x; rw [hzq] at hoe; cases hoe; simp at hce
      refine wpAny_setField_rec (s := ⟨q, g, d, tk0, os⟩) hzq (by simp) fun q' _ hq' => ?_
      replace hq' : Heap.SameBut z q q' := hq'
      exact hE q' tk0 e (fun c o cz cT c1 c2 x => hq'.extBut _ _ cz (hq _ _ c1 (hs0.extBut _ _ cz x))) ⟨oe, hq'.extBut _ _ hez hoe, hce⟩
  · replace hs0 : Heap.SameBut z hp g0 := hs0
    simp only [Bool.false_eq_true, if_false]
    refine wpAny_bind ?_
    rw [← Array.forIn_toList]
    simp only [List.forIn_cons, List.forIn_nil]
    refine wpAny_bind (wpAny_bind (wpAny_holding ?_))
    show wpAny _ _ (Builtin.SmallTypes.nextOf (.ref i1) >>= _) _ _ ⟨g0, g, d, tk0, os⟩
    by_cases hlt1 : i < n1
    · refine wpAny_bind (D1.item i _ _ _ hlt1 (D1.over st1 hs0 S.zf1) fun x1 p1 tk1 hx1 sn1 hp1 => wpAny_pure ?_)
      replace hp1 : Heap.SameBut i1 g0 p1 := hp1
      refine wpAny_pure ?_
      have hi2 : i = n2 := by omega
      refine wpAny_bind (wpAny_bind (wpAny_holding ?_))
      show wpAny _ _ (Builtin.SmallTypes.nextOf (.ref i2) >>= _) _ _ ⟨p1, g, d, tk1, os⟩
      refine wpAny_bind (D2.done ⟨p1, g, d, tk1, os⟩ _ _ (by rw [← hi2]; exact D2.over (D2.over st2 hs0 S.zf2) hp1 S.sep1_2) fun q e hq he => ?_)
      replace hq : Heap.ExtBut i2 p1 q := hq
      exact hE q tk1 e (fun c o cz cT c1 c2 x => hq _ _ c2 (hp1.extBut _ _ c1 (hs0.extBut _ _ cz x))) he
    · have hi1 : i = n1 := by omega
      refine wpAny_bind (D1.done ⟨g0, g, d, tk0, os⟩ _ _ (by rw [← hi1]; exact D1.over st1 hs0 S.zf1) fun q e hq he => ?_)
      replace hq : Heap.ExtBut i1 g0 q := hq
      exact hE q tk0 e (fun c o cz cT c1 c2 x => hq _ _ c1 (hs0.extBut _ _ cz x)) he
theorem z_pyNext_item {Q : Option Value → Shared → Prop} (S : ZipSep2 z TI TO i1 i2 fp1 fp2) (D1 : Draws prog w A.in1 i1 fp1 n1 P1 St1) (D2 : Draws prog w A.in1 i2 fp2 n2 P2 St2)
    (hz : IsZ s.heap z TI TO f0 f1) (hf : f0 = .none ∨ ∃ T : Addr, f0 = rawInt T) (hTI : IsTupOf2 s.heap TI (.ref i1) (.ref i2)) (hTO : IsTupOf2 s.heap TO a1 a2) (st1 : St1 i s.heap) (st2 : St2 i s.heap) (hlt1 : i < n1) (hlt2 : i < n2)
    (hQ : ∀ x1 x2 h' tk, P1 i x1 → P2 i x2 → (∃ (T : Addr) (g : Bool), IsZ h' z TI TO (rawInt T) g) → (∃ b1 b2, IsTupOf2 h' TO b1 b2) → St1 (i + 1) h' → St2 (i + 1) h' → IsTupOf2 h' s.heap.objs.size x1 x2 → h'.objs.size = s.heap.objs.size + 1 →
      (∀ c o, c ≠ z → c ≠ TO → c ≠ i1 → c ≠ i2 → s.heap.get? c = some o → h'.get? c = some o) → Q (some (.ref s.heap.objs.size)) { s with heap := h', toks := tk }) :
    wpAny (model prog w) A (pyNext (.ref z)) Q E s := by
  have hT : s.TypeIs (.ref z) "zip" := ⟨_, hz, rfl⟩
  unfold pyNext
  exact wpAny_bind (wpAny_attempt (wpAny_callSpecial?_slot (name := Str.ofString "__next__") hT F.slot_zip_next
    (wpAny_call_entry F.slot_zip_next hT F.entry_zip_next
      (z_next_item S D1 D2 hz hf hTI hTO st1 st2 hlt1 hlt2 fun x1 x2 h' tk y1 y2 b1 b2 d1 d2 b5 b6 b7 => wpAny_pure (hQ x1 x2 h' tk y1 y2 b1 b2 d1 d2 b5 b6 b7)) (F.args_zip_next_1 _))))
theorem z_pyNext_end {Q : Option Value → Shared → Prop} (S : ZipSep2 z TI TO i1 i2 fp1 fp2) (D1 : Draws prog w A.in1 i1 fp1 n1 P1 St1) (D2 : Draws prog w A.in1 i2 fp2 n2 P2 St2)
    (hz : IsZ s.heap z TI TO f0 f1) (hf : f0 = .none ∨ ∃ T : Addr, f0 = rawInt T) (hTI : IsTupOf2 s.heap TI (.ref i1) (.ref i2)) (hTO : IsTupOf2 s.heap TO a1 a2) (st1 : St1 i s.heap) (st2 : St2 i s.heap) (hle1 : i ≤ n1) (hle2 : i ≤ n2) (hend : i = n1 ∨ i = n2)
    (hQ : ∀ h' tk, (∀ c o, c ≠ z → c ≠ TO → c ≠ i1 → c ≠ i2 → s.heap.get? c = some o → h'.get? c = some o) → Q none { s with heap := h', toks := tk }) : wpAny (model prog w) A (pyNext (.ref z)) Q E s := by
  have hT : s.TypeIs (.ref z) "zip" := ⟨_, hz, rfl⟩
  unfold pyNext
  refine wpAny_bind (wpAny_attempt (wpAny_callSpecial?_slot (name := Str.ofString "__next__") hT F.slot_zip_next
    (wpAny_call_entry F.slot_zip_next hT F.entry_zip_next (z_next_end S D1 D2 hz hf hTI hTO st1 st2 hle1 hle2 hend fun h' tk e hk he => ?_) (F.args_zip_next_1 _))))
  obtain ⟨o, ho, hc⟩ := he
  refine wpAny_bind (wpAny_isInstance (T := "StopIteration") (b := true) ⟨o, ho, hc⟩ isSubtype_stop ?_)
  exact wpAny_pure (hQ _ _ hk)
theorem z_pyIter {Q : Value → Shared → Prop} (hz : IsZ s.heap z TI TO f0 f1) (h : Q (.ref z) s) : wpAny (model prog w) A (pyIter (.ref z)) Q E s := by
  have hT : s.TypeIs (.ref z) "zip" := ⟨_, hz, rfl⟩
  refine wpAny_pyIter_slot hT F.slot_zip_iter (wpAny_call_entry F.slot_zip_iter hT F.entry_zip_iter ?_ (F.args_zip_iter_1 _))
  show wpAny _ _ (PySem.ret (.ref z)) _ _ s
  exact wpAny_pure ⟨_, rfl, "zip", _, hT, F.slot_zip_next.lookup, h⟩
end
/-! ### the turn -/
theorem turn_zipN {P : Program} {w : World} {K : PySem.W.Frag} {nm : Str} {npos : Pos} {t1 t2 : Bool} {a b z TI TO i1 i2 : Addr} (S : ZipSep2 z TI TO i1 i2 [i1, a] [i2, b]) (n1 : a ≠ i1) (n2 : b ≠ i2) :
    Turn P w K (.Name nm npos) (ItzG K t1 t2 a b) [z, TI, TO, i1, i2] z (fun i h => (∃ f0 f1, IsZ h z TI TO f0 f1 ∧ (f0 = .none ∨ ∃ T : Addr, f0 = rawInt T)) ∧ IsTupOf2 h TI (.ref i1) (.ref i2) ∧ (∃ x y, IsTupOf2 h TO x y) ∧ ItK t1 h i1 a i ∧ ItK t2 h i2 b i) where
  mem := by simp
  obj := fun i h st c hc => by
    obtain ⟨⟨f0, f1, hz, hf⟩, hTI, ⟨x, y, hTO⟩, h1, h2⟩ := st
    have e' : c = z ∨ c = TI ∨ c = TO ∨ c = i1 ∨ c = i2 := by simpa using hc
    rcases e' with q | q | q | q | q
    · rw [q]; exact ⟨_, hz, fun v q => nomatch q⟩
    · rw [q]; exact ⟨_, hTI, fun v q => nomatch q⟩
    · rw [q]; exact ⟨_, hTO, fun v q => nomatch q⟩
    · rw [q]; exact h1.obj
    · rw [q]; exact h2.obj
  keep := fun i h h' st k => by
    obtain ⟨⟨f0, f1, hz, hf⟩, hTI, ⟨x, y, hTO⟩, h1, h2⟩ := st
    exact ⟨⟨f0, f1, k z (by simp) _ hz, hf⟩, k TI (by simp) _ hTI, ⟨x, y, k TO (by simp) _ hTO⟩, h1.at fun o q => k i1 (by simp) o q, h2.at fun o q => k i2 (by simp) o q⟩
  item := by
    intro X hP hw hK hc i pins s σ H E I hf st hg
    subst hP hw hK
    obtain ⟨⟨f0, f1, hz, hf0⟩, hTI, ⟨x0, y0, hTO⟩, h1, h2⟩ := st
    obtain ⟨xs, ys, x, y, hqx, hqy, hx, hy⟩ := hg
    obtain ⟨its, rv, p⟩ := Inv.seqK I hqx
    obtain ⟨its2, rv2, p2⟩ := Inv.seqK I hqy
    obtain ⟨u, hu, ru⟩ := rv.get hx
    obtain ⟨u2, hu2, ru2⟩ := rv2.get hy
    have l1 : i < its.toArray.size := by simpa using (List.getElem?_eq_some_iff.mp hu).1
    have l2 : i < its2.toArray.size := by simpa using (List.getElem?_eq_some_iff.mp hu2).1
    have hzl : z < s.heap.objs.size := Heap.lt_size hz
    have hcal : X.A.in1.handled = none := I.ok.hd hc
    refine z_pyNext_item S (drawsK hcal t1 i1 a n1 its.toArray) (drawsK hcal t2 i2 b n2 its2.toArray) hz hf0 hTI hTO ⟨h1, p⟩ ⟨h2, p2⟩ l1 l2 fun x1 x2 h' tk e1 e2 z' TO' h1' h2' hT hsz hk => ?_
    have e1' : u = x1 := by
      have q : its.toArray[i]? = some u := by simpa using hu
      rw [e1] at q; exact (Option.some.inj q).symm
    have e2' : u2 = x2 := by
      have q : its2.toArray[i]? = some u2 := by simpa using hu2
      rw [e2] at q; exact (Option.some.inj q).symm
    subst e1' e2'
    refine ⟨_, rfl, wpAny_pure ?_⟩
    have new : ObjOk X.prog X.w (upd H s.heap.objs.size (.tup [x, y])) h' s.heap.objs.size (.tup [x, y]) :=
      ⟨by show 2 ≤ sizeLine; decide, [u, u2], .cons ru (.cons ru2 .nil), ⟨_, hT, rfl, _, rfl⟩⟩
    have I1 : Inv X pins σ (upd H s.heap.objs.size (.tup [x, y])) { s with heap := h', toks := tk } :=
      I.turnedNew (t' := tk) (ch := [z, TI, TO, i1, i2]) (fun c o hb q => hk c o (fun q' => hb (by simp [q'])) (fun q' => hb (by simp [q'])) (fun q' => hb (by simp [q'])) (fun q' => hb (by simp [q'])) q) hf (Nat.le_refl _) new
    obtain ⟨T, gg, z''⟩ := z'
    refine ⟨.ref s.heap.objs.size, _, I1, rfl, ⟨_, x, y, rfl, I.hok.fresh (Nat.le_refl _), rfl, fun l hl => by rw [Inv.seqK_inj I hl hqx]; exact hx, fun l hl => by rw [Inv.seqK_inj I hl hqy]; exact hy⟩, ⟨⟨_, _, z'', .inr ⟨T, rfl⟩⟩, hk _ _ S.TIz S.TITO S.TIi1 S.TIi2 hTI, TO', h1'.1, h2'.1⟩, fun c hcm => ?_⟩
    have hlt : c < s.heap.objs.size := by
      have e' : c = z ∨ c = TI ∨ c = TO ∨ c = i1 ∨ c = i2 := by simpa using hcm
      rcases e' with q | q | q | q | q
      · rw [q]; exact hzl
      · rw [q]; exact Heap.lt_size hTI
      · rw [q]; exact Heap.lt_size hTO
      · rw [q]; obtain ⟨_, e1, _⟩ := h1.obj; exact Heap.lt_size e1
      · rw [q]; obtain ⟨_, e2, _⟩ := h2.obj; exact Heap.lt_size e2
    rw [upd_ne (Nat.ne_of_lt hlt)]
    exact (hf c hcm).1
  done := by
    intro X hP hw hK hc i pins s σ H E I hf st hg
    subst hP hw hK
    obtain ⟨⟨f0, f1, hz, hf0⟩, hTI, ⟨x0, y0, hTO⟩, h1, h2⟩ := st
    obtain ⟨xs, ys, hqx, hqy, b1, b2, hend⟩ := hg
    obtain ⟨its, rv, p⟩ := Inv.seqK I hqx
    obtain ⟨its2, rv2, p2⟩ := Inv.seqK I hqy
    have l1 : xs.length = its.toArray.size := by simpa using rv.length
    have l2 : ys.length = its2.toArray.size := by simpa using rv2.length
    have hcal : X.A.in1.handled = none := I.ok.hd hc
    exact z_pyNext_end S (drawsK hcal t1 i1 a n1 its.toArray) (drawsK hcal t2 i2 b n2 its2.toArray) hz hf0 hTI hTO ⟨h1, p⟩ ⟨h2, p2⟩ (by omega) (by omega) (by omega) fun h' tk hk => ⟨rfl, I.turnedL (t' := tk) (ch := [z, TI, TO, i1, i2]) (fun c o hb q =>
      hk c o (fun q' => hb (by simp [q'])) (fun q' => hb (by simp [q'])) (fun q' => hb (by simp [q'])) (fun q' => hb (by simp [q'])) q) hf⟩
  self := fun A i s Q E st h => by
    obtain ⟨⟨f0, f1, hz, _⟩, _⟩ := st
    exact z_pyIter hz h
theorem pi_zipN {X : Cx} {e e2 : Expr} {ta : TA} {p pos : Pos} {nm : Str} {npos : Pos} (hg : Gl X "zip") (hm : X.mg "zip" = none) (ha : PA X [e, e2] ta)
    (hs : starEach [e, e2] X.env = (false, eval e X.env) :: starEach [e2] X.env := by rfl) (hpl : (backTo pos (starEach [e2] X.env)).any (·.1) = false := by rfl) :
    PI X (.Name nm npos) (.Call (.Name "zip" p) [e, e2] [] pos) (iZipG X.K ta) := by
  refine ⟨fun pins s σ H R I h => ?_⟩
  refine Call_ (ld_blt I hg hm PyProof.Rows.boot_zip (PyProof.Rows.callWith_type1 (thn (ha.run pos pins s σ H _ I h) fun us s1 ⟨vs, H1, I1, r1, q1⟩ => ?_) hs hpl))
  obtain ⟨t1, t2, a, b, xs, ys, ex, hqx, hqy, q⟩ := q1
  subst ex
  cases r1 with
  | cons r rr =>
    cases rr with
    | cons r' rr =>
      cases rr
      cases r
      cases r'
      have fresh5 : ∀ c, c ∈ [s1.heap.objs.size + 4, s1.heap.objs.size + 2, s1.heap.objs.size + 3, s1.heap.objs.size, s1.heap.objs.size + 1] → FpOk X pins H1 c := fun c hcm => by
        have e' : c = s1.heap.objs.size + 4 ∨ c = s1.heap.objs.size + 2 ∨ c = s1.heap.objs.size + 3 ∨ c = s1.heap.objs.size ∨ c = s1.heap.objs.size + 1 := by simpa using hcm
        have hle : s1.heap.objs.size ≤ c := by
          rcases e' with z | z | z | z | z
          · rw [z]; exact Nat.le_add_right _ _
          · rw [z]; exact Nat.le_add_right _ _
          · rw [z]; exact Nat.le_add_right _ _
          · rw [z]; exact Nat.le_refl _
          · rw [z]; exact Nat.le_add_right _ _
        exact I1.fpOk hle (I1.hok.fresh hle)
      obtain ⟨its, rv, p1⟩ := Inv.seqK I1 hqx
      obtain ⟨its2, rv2, p2⟩ := Inv.seqK I1 hqy
      have la := p1.lt
      have lb := p2.lt
      refine zip_begins2 (beginsK t1 a its.toArray) (beginsK t2 b its2.toArray) p1 p2 fun h' hz hTI hTO h1 h2 hsz hk => wpAny_pyIter_zip hz ?_
      have I2 : Inv X pins σ H1 { s1 with heap := h' } := I1.kept (t' := s1.toks) hk
      have S : ZipSep2 (s1.heap.objs.size + 4) (s1.heap.objs.size + 2) (s1.heap.objs.size + 3) s1.heap.objs.size (s1.heap.objs.size + 1) [s1.heap.objs.size, a] [s1.heap.objs.size + 1, b] :=
        zip_sep2 (fp1 := [a]) (fp2 := [b]) (fun c hc => by rw [List.mem_singleton.mp hc]; exact la) (fun c hc => by rw [List.mem_singleton.mp hc]; exact lb)
      exact ⟨s1.heap.objs.size + 4, [s1.heap.objs.size + 4, s1.heap.objs.size + 2, s1.heap.objs.size + 3, s1.heap.objs.size, s1.heap.objs.size + 1], _, _, H1, rfl, I2, turn_zipN S (Nat.ne_of_lt la) (Nat.ne_of_lt (Nat.lt_succ_of_lt lb)), ⟨⟨_, _, hz, .inl rfl⟩, hTI, ⟨_, _, hTO⟩, itK_new h1, itK_new h2⟩, fresh5, q⟩

section
variable {X : Cx} {W : WY} {a b : Expr} {χ : Env' → M (List D)} {p pos tpos p2 : Pos}
theorem dI_zipN {nm : Str} {npos : Pos} (hm : X.mg "zip" = none) (ha : DA X W [a, b] χ) (hg : Gl X "zip" := by rfl) (hs : starEach [a, b] X.env = (false, eval a X.env) :: starEach [b] X.env := by rfl) (hpl : (backTo pos (starEach [b] X.env)).any (·.1) = false := by rfl) :
    DI X W (.Name nm npos) (.Call (.Name "zip" p) [a, b] [] pos) (iAs zip2 χ) := by
  refine PI.imp (pi_zipN hg hm ha hs hpl) fun σ H R hh => ?_
  refine tI_bnd hh fun g env n d v H1 Qd Ed R1 rx p q => ?_
  obtain ⟨ds, e, qd⟩ := opt_some p
  unfold zip2 at e
  split at e
  · rename_i x y
    cases h1 : itL x with
    | none => rw [h1] at e; cases e
    | some xs =>
      rw [h1] at e
      cases h2 : itL y with
      | none => rw [h2] at e; cases e
      | some ys =>
        rw [h2] at e
        cases e
        cases rx with
        | cons r1 rr =>
          cases rr with
          | cons r2 rr =>
            cases rr
            obtain ⟨t1, a1, rfl, s1⟩ := itL_sqD r1 h1
            obtain ⟨t2, a2, rfl, s2⟩ := itL_sqD r2 h2
            obtain ⟨vs1, q1, _⟩ := s1.sq
            obtain ⟨vs2, q2, _⟩ := s2.sq
            exact ⟨t1, t2, a1, a2, vs1, vs2, rfl, q1, q2, q _ n _ H1 _ qd (walkD_zip t1 t2 a1 a2 xs ys) ⟨s1, s2⟩ (Frm.refl _ _) R1.dk⟩
  · cases e
end

/-! ### min of a pair of ints -/
def rMinP (K : PySem.W.Frag) : List V → Hp → VK → Prop := fun vs H Q => ∃ (a : Addr) (i j : Int), vs = [.ref a] ∧ SqT K H a [.int i, .int j] ∧ Q (.int (min i j)) H
theorem cr_minP {X : Cx} {n : Nat} (hr : Room n X.A) (hc : X.calm = true) : CallR X (.builtin "min") (rMinP X.K) := by
  intro pins s σ H vs us Q I r h
  obtain ⟨a, i, j, rfl, hs, q⟩ := h
  obtain ⟨its, rv, hl, _⟩ := I.tuple hs
  rw [Vals.ref1 r]
  obtain ⟨as, ra⟩ := Dp.readsAll I _ _ _ (DpAll.cons (.int i) (.cons (.int j) .nil)) rv
  have hu2 := hr.un
  refine PySem.W.min_tuple_data (I.ok.hd hc) hl (by simpa using ra) (alikeB_all (by simp [alikeB, alike])) (by simp only [PyData.depthAll, PyData.depth]; omega) fun k v h' tk bs hv hrd hk => ?_
  have e : minD (.int i) [.int j] = .int (min i j) := minD_ints i [j]
  rw [e] at hrd
  cases hrd
  exact ⟨.int _, H, I.kept hk, ⟨_, rfl⟩, q⟩
def oMinP : List D → Option D
  | [.tup [.int i, .int j]] => some (.int (min i j))
  | _ => none
theorem pu_minP {K : PySem.W.Frag} : PureA K (rMinP K) oMinP := by
  intro P k H vs ds d Q hP rx e q
  unfold oMinP at e
  split at e
  · cases e
    cases rx with
    | cons r1 r2 =>
      cases r2
      cases r1 with
      | tup h1 h2 =>
        cases h2 with
        | cons x1 x2 =>
          cases x1
          cases x2 with
          | cons y1 y2 =>
            cases y1
            cases y2
            exact ⟨_, _, _, rfl, h1.sq, q _ H (Same.refl _) (.int _)⟩
  · cases e

/-! ### max of a pair of ints -/
def rMaxP (K : PySem.W.Frag) : List V → Hp → VK → Prop := fun vs H Q => ∃ (a : Addr) (i j : Int), vs = [.ref a] ∧ SqT K H a [.int i, .int j] ∧ Q (.int (max i j)) H
theorem cr_maxP {X : Cx} {n : Nat} (hr : Room n X.A) (hc : X.calm = true) : CallR X (.builtin "max") (rMaxP X.K) := by
  intro pins s σ H vs us Q I r h
  obtain ⟨a, i, j, rfl, hs, q⟩ := h
  obtain ⟨its, rv, hl, _⟩ := I.tuple hs
  rw [Vals.ref1 r]
  obtain ⟨as, ra⟩ := Dp.readsAll I _ _ _ (DpAll.cons (.int i) (.cons (.int j) .nil)) rv
  have hu2 := hr.un
  refine PySem.W.max_tuple_data (I.ok.hd hc) hl (by simpa using ra) (alikeB_all (by simp [alikeB, alike])) (by simp only [PyData.depthAll, PyData.depth]; omega) fun k v h' tk bs hv hrd hk => ?_
  have e : maxD (.int i) [.int j] = .int (max i j) := maxD_ints i [j]
  rw [e] at hrd
  cases hrd
  exact ⟨.int _, H, I.kept hk, ⟨_, rfl⟩, q⟩
def oMaxP : List D → Option D
  | [.tup [.int i, .int j]] => some (.int (max i j))
  | _ => none
theorem pu_maxP {K : PySem.W.Frag} : PureA K (rMaxP K) oMaxP := by
  intro P k H vs ds d Q hP rx e q
  unfold oMaxP at e
  split at e
  · cases e
    cases rx with
    | cons r1 r2 =>
      cases r2
      cases r1 with
      | tup h1 h2 =>
        cases h2 with
        | cons x1 x2 =>
          cases x1
          cases x2 with
          | cons y1 y2 =>
            cases y1
            cases y2
            exact ⟨_, _, _, rfl, h1.sq, q _ H (Same.refl _) (.int _)⟩
  · cases e
end Den

set_option autoImplicit true
set_option Elab.async false
set_option linter.all false
set_option maxRecDepth 100000
set_option maxHeartbeats 2000000
set_option autoImplicit false
namespace Den
open PySem PySem.Spec PyProof.Rows L2

/-! ### classes of exceptions -/
/-- a class without an __init__ of its own -/
structure X0 (K : PySem.W.Frag) (mg : Str → Option Value) (nm : Str) : Prop where
  g : mg nm = some (.ref (He.ga K nm))
  x : PySem.W.excIn K (He.ga K nm) He.veBase "ValueError.__new__" = true
  k : PySem.W.keepIn K (.ref (He.ga K nm)) = true
  s : PySem.W.subIn K (.ref (He.ga K nm)) (.type "BaseException") = some true
  t : PySem.W.typeIn K (.ref (He.ga K nm)) = some (.type "type")
theorem X0.mk' {K : PySem.W.Frag} {mg : Str → Option Value} {nm : Str} (g : mg nm = some (.ref (He.ga K nm))) (c : (He.Fa.exc nm).ok K = true) : X0 K mg nm :=
  let ⟨a, b, d, e⟩ := He.exc_ok c
  ⟨g, a, b, d, e⟩
theorem mk0 {X : Cx} {nm : Str} {p pos : Pos} (T : X0 X.K X.mg nm) (hg : Gl X nm) (hdb : (nm == ("__debug__" : Str)) = false := by decide) :
    L2N.PMk X (.Call (.Name nm p) [] [] pos) (fun _ H Q => Q (.ref (He.ga X.K nm)) none H) := by
  intro pins s σ H Q I given
  refine wpAny_Call_Name_kw (ld_glob I hg T.g ?_ hdb)
  refine PySem.W.callWith_K0 I.kIn T.k ?_
  show wpAny _ _ (call (.ref (He.ga X.K nm)) []) _ _ _
  obtain ⟨_, _, _, _, _, _, _, _, _, _, _, _, _, _, _, _, _, atC, nsC, noI, tail⟩ := exc_obj I.kIn T.x
  exact wpAny_call_exc_subT F.excBase_ValueError tail atC nsC noI (fun h' e made => L2N.mk_of I made (raises_own T.s T.t) given (I.hok.gone made.new)) (Nat.zero_le _)
def sRz (nm : Str) : Env' → MS := fun env n _ E => E ⟨nm, none⟩ env n
theorem dS_raise0 {X : Cx} {W : WY} {nm : Str} {p pos pos2 : Pos} (hc : X.calm = true) (tk : L2N.Takes X W.w) (T : X0 X.K X.mg nm) (hg : Gl X nm := by rfl) (hdb : (nm == ("__debug__" : Str)) = false := by decide) :
    DS X W (.Raise (some (.Call (.Name nm p) [] [] pos)) none pos2) (sRz nm) :=
  PS.imp (L2N.ps_raise hc tk (mk0 T hg hdb)) fun D σ H ⟨g, n, env, Qd, Ed, R0, p, s⟩ => s.ex ⟨nm, none⟩ env n σ H _ _ p R0 ⟨_, T.g, rfl, rfl⟩ (Stp.refl _ _ _ _)

/-! ### a class with one field -/
def oexB (K : PySem.W.Frag) (C : Addr) : Bool := (match K.lookup C with
  | some ⟨.type "type", _, .cls cd, sl⟩ => (match cd.mro, sl.toList with
    | .ref C' :: bm, [_, _, _, _, some (.builtin n), _] => decide (C' = C) && (decide (n = "ValueError.__new__") && (!cd.hasDel && (cd.hasDict && PySem.HandSPX.refsVE bm)))
    | _, _ => false)
  | _ => false) && (He.eqO (PySem.W.findIn K (.ref C) "__setattr__") (some (some (.builtin "object.__setattr__"))) && (decide (PySem.W.subIn K (.ref C) (.type "BaseException") = some true) && (decide (PySem.W.typeIn K (.ref C) = some (.type "type")) && PySem.W.keepIn K (.ref C))))
theorem oexB_ok {K : PySem.W.Frag} {C : Addr} (h : oexB K C = true) : OexC K C := by
  unfold oexB at h
  obtain ⟨h1, h⟩ := He.ba h
  obtain ⟨h2, h⟩ := He.ba h
  obtain ⟨h3, h⟩ := He.ba h
  obtain ⟨h4, h5⟩ := He.ba h
  refine ⟨?_, He.eqO_ok h2, of_decide_eq_true h3, of_decide_eq_true h4, h5⟩
  split at h1
  · rename_i dd cd sl ho
    split at h1
    · rename_i C' bm k0 k1 k2 k3 n k5 hm hs
      obtain ⟨a1, h1⟩ := He.ba h1
      obtain ⟨a2, h1⟩ := He.ba h1
      obtain ⟨a3, h1⟩ := He.ba h1
      obtain ⟨a4, a5⟩ := He.ba h1
      have a1 := of_decide_eq_true a1
      have a2 := of_decide_eq_true a2
      subst a1 a2
      obtain ⟨nm, bs, mro, ns, qn, hd, sn, sub, ab, col, del⟩ := cd
      dsimp only at hm a3 a4
      have a3 : del = false := by simpa using a3
      subst hm a3 a4
      have hsl : sl = #[k0, k1, k2, k3, some (.builtin "ValueError.__new__"), k5] := by
        obtain ⟨l⟩ := sl
        simp only at hs
        rw [hs]
      subst hsl
      exact ⟨nm, qn, ns, bs, bm, sn, sub, ab, col, dd, k0, k1, k2, k3, k5, ho, a5⟩
    · cases h1
  · cases h1
/-- what __init__(self, v) promises: self.f is v -/
def spInit (K : PySem.W.Frag) (C : Addr) (f : Str) : Sp := fun vs H Q _ => ∃ (a : Addr) (y : V), vs = [.ref a, y] ∧ H a = some (exo a C none) ∧
  ∀ dx, H dx = none → dx ≠ a → Q .non (upd (upd H dx (exd dx [(f, y)])) a (exo a C (some dx)))
theorem pure_init {K : PySem.W.Frag} {C : Addr} {f pn : Str} (T : OexC K C) (no : PySem.W.findIn K (.ref C) f = some none) (vs : List V) (H : Hp) (Q : VK) (E : XK) (h : spInit K C f vs H Q E) :
    tOst K f (tVar 0) (tVar 1) { nx := fun _ H' => Q .non H', rt := Q } (L2.start ["self", pn] vs) H := by
  obtain ⟨a, y, rfl, ha, q⟩ := h
  exact ⟨y, rfl, .ref a, rfl, a, C, rfl, T, no, .inl ⟨ha, fun dx h1 h2 => q dx h1 h2⟩⟩
structure X1 (P : Program) (w : World) (K : PySem.W.Frag) (mg : Str → Option Value) (base : Heap) (nm f : Str) : Prop where
  g : mg nm = some (.ref (He.ga K nm))
  o : OexC K (He.ga K nm)
  i : ∃ (fI : Addr) (fd : FuncData) (pn : Str), PySem.W.findIn K (.ref (He.ga K nm)) "__init__" = some (some (.ref fI)) ∧ PySem.W.typeIn K (.ref fI) = some (.type "function") ∧ Binds K fd ["self", pn] [] ∧ FnOk P w K mg base CX0 1 fI fd ["self", pn] (spInit K (He.ga K nm) f)
theorem mk1 {X : Cx} {nm f : Str} {p pos : Pos} {e : Expr} {ta : TA} {k : Nat} (T : X1 X.prog X.w X.K X.mg X.base nm f) (room : Room k X.A) (hk : 2 ≤ k) (ha : PA X [e] ta) (hg : Gl X nm) (hdb : (nm == ("__debug__" : Str)) = false := by decide)
    (he : starEach [e] X.env = (false, eval e X.env) :: starEach [] X.env := by rfl) (hpl : (backTo pos (starEach [] X.env)).any (·.1) = false := by rfl) :
    L2N.PMk X (.Call (.Name nm p) [e] [] pos) (fun σ H Q => ta σ H fun vs H1 => ∃ y, vs = [y] ∧ ∀ dx H3, H1 dx = none → Same H1 H3 → H3 dx = some (.xd [(f, y)]) → Q (.ref (He.ga X.K nm)) (some dx) H3) := by
  obtain ⟨fI, fd, pn, iC, tI, bI, FI⟩ := T.i
  intro pins s σ H Q I given
  obtain ⟨nm', q', N', bs', bm', sn', sub', ab', col', dd', k0', k1', k2', k3', k5', atC, refs⟩ := T.o.cls
  refine wpAny_Call_Name_kw (ld_glob I hg T.g ?_ hdb)
  refine PySem.W.callWith_K (h₀ := X.base) I.ok.mod.kin T.o.kC (thn (ha.run pos pins s σ H _ I given) fun us s1 ⟨vs, H1, J, paired, y, ey, fin⟩ => ⟨J.kIn, ?_⟩) he hpl
  subst ey
  show wpAny _ _ (call (.ref (He.ga X.K nm)) us) _ _ _
  obtain ⟨hp, g, dr, tk, os⟩ := s1
  have later : hp.objs.size ≤ hp.objs.size + 1 := Nat.le_succ _
  have free : H1 (hp.objs.size + 1) = none := J.hok.fresh later
  have grown : ∀ b o, hp.get? b = some o → ((hp.push (PySem.W.kdv_tup us)).push (PySem.HandSPX.excO (He.ga X.K nm) hp.objs.size)).get? b = some o := fun b o z => Heap.get?_push_of_some _ (Heap.get?_push_of_some _ z)
  have there : ((hp.push (PySem.W.kdv_tup us)).push (PySem.HandSPX.excO (He.ga X.K nm) hp.objs.size)).get? (hp.objs.size + 1) = some (PySem.HandSPX.excO (He.ga X.K nm) hp.objs.size) := by heap_get
  have J2 := J.laid (t' := tk) (a := hp.objs.size + 1) (o := exo (hp.objs.size + 1) (He.ga X.K nm) none) grown later (exo_ok there)
  have r2 : Vals [V.ref (hp.objs.size + 1), y] (Value.ref (hp.objs.size + 1) :: us) := .cons rfl paired
  have lus : us.length = 1 := by have := paired.length; simpa using this.symm
  have lim : us.length ≤ sizeLine := by rw [lus, sizeLine_eq]; omega
  have ask : spInit X.K (He.ga X.K nm) f [V.ref (hp.objs.size + 1), y] (upd H1 (hp.objs.size + 1) (exo (hp.objs.size + 1) (He.ga X.K nm) none))
      (fun v H2 => v = .non ∧ ∃ (d : Addr) (fs : List (Str × V)), H2 (hp.objs.size + 1) = some (exo (hp.objs.size + 1) (He.ga X.K nm) (some d)) ∧ H2 d = some (exd d fs) ∧ H1 d = none ∧ Q (.ref (He.ga X.K nm)) (some d) (upd (del H2 (hp.objs.size + 1)) d (.xd fs))) (fun _ _ _ => False) := by
    refine ⟨_, y, rfl, upd_same, fun dx h1 h2 => ⟨rfl, dx, [(f, y)], upd_same, ?_, ?_, ?_⟩⟩
    · rw [upd_ne h2, upd_same]
    · rw [upd_ne h2] at h1; exact h1
    · rw [upd_ne h2] at h1
      refine fin dx _ h1 (fun b o z => ?_) upd_same
      have n1 : b ≠ dx := fun w => by rw [w, h1] at z; cases z
      have n2 : b ≠ hp.objs.size + 1 := fun w => by rw [w, free] at z; cases z
      rw [upd_ne n1, del_ne n2, upd_ne n2, upd_ne n1, upd_ne n2]
      exact z
  have bnd := bI _ (Value.ref (hp.objs.size + 1) :: us) J2.kIn (by simp [lus])
  rw [List.append_nil] at bnd
  refine wpAny_call (PySem.HandSPX.call_own F.excBase_ValueError (fun Y => PySem.HandSPX.refsVE_contains Y bm' refs) (J.kIn _ _ atC) (PySem.W.looks_findIn J.kIn iC) (fun self => PySem.W.bind_fn J.kIn self tI) lim
    (codeAny_mono (FI.run _ X.stack _ _ ⟨Value.ref (hp.objs.size + 1) :: us, []⟩ (Value.ref (hp.objs.size + 1) :: us) _ _ (fun _ _ _ => False) ((room.mono hk).make _ us []) (J2.env0.make _ us []) bnd r2 ask) fun r s' hq' => ?_))
  match r, hq' with
  | .error er, z => exact z.elim
  | .ok .next, z => exact z.elim
  | .ok .brk, z => exact z.elim
  | .ok .cont, z => exact z.elim
  | .ok (.ret u), ⟨v, H2, o2, b2, un2, ok2, rv, ev, d, fs, ea, ed, hd1, q2⟩ =>
    subst ev
    obtain ⟨h2, g2, d2, t2, os'⟩ := s'
    obtain ⟨t0, G, J3, kG, ge, hoe, na⟩ := mk_end0 (d2 := d2) (t2 := t2) J later grown un2 ok2 o2 b2 ea ed hd1
    refine ⟨rv, hp.objs.size + 1, _, _, ⟨G, g2, d2, t2, os'⟩, _, .ref (He.ga X.K nm), some d, rfl, J3, kG, ge, hoe, ⟨rfl, rfl, fun vs e => ?_⟩, rfl, rfl, na, rfl, b2, raises_own T.o.exC T.o.tyC, q2⟩
    cases e
    rfl
def sRz1 (nm f : Str) (φ : Env' → M D) : Env' → MS := fun env n _ E => φ env n (fun d n' => E ⟨nm, some (f, d)⟩ env n') (fun x n' => E x env n')
theorem dS_raise1 {X : Cx} {W : WY} {nm f : Str} {p pos pos2 : Pos} {e : Expr} {φ : Env' → M D} {k : Nat} (hc : X.calm = true) (tk : L2N.Takes X W.w) (T : X1 X.prog X.w X.K X.mg X.base nm f) (room : Room k X.A) (ha : DE X W e φ) (hk : 2 ≤ k := by decide) (hg : Gl X nm := by rfl) (hdb : (nm == ("__debug__" : Str)) = false := by decide)
    (he : starEach [e] X.env = (false, eval e X.env) :: starEach [] X.env := by rfl) (hpl : (backTo pos (starEach [] X.env)).any (·.1) = false := by rfl) :
    DS X W (.Raise (some (.Call (.Name nm p) [e] [] pos)) none pos2) (sRz1 nm f φ) := by
  refine PS.imp (L2N.ps_raise hc tk (mk1 T room hk (pa_cons ha pa_nil he) hg hdb he hpl)) fun D σ H ⟨g, n, env, Qd, Ed, R0, p, s⟩ => ?_
  refine s_of_e (rel := relE X.K) R0 p s fun d n' v H' hd hr R1 st s1 => ?_
  refine ⟨v, rfl, fun dx H3 h1 sm h3 => ?_⟩
  have np : ¬ pv g env σ dx := fun z => R1.there dx z h1
  exact s1.ex ⟨nm, some (f, d)⟩ env n' σ H3 _ _ hd (R1.frm (Same.frm sm) (R1.dk.same sm)) ⟨_, T.g, rfl, dx, v, rfl, h3, np, Rep.to hr (Same.ext sm)⟩ (Stp.of_frm (Same.frm sm))
end Den

set_option autoImplicit true
set_option Elab.async false
set_option linter.all false
set_option maxRecDepth 100000
set_option maxHeartbeats 2000000
set_option autoImplicit false
namespace Den
open PySem PySem.Spec PyProof.Rows L2

/-! ### data without the handled exception -/
mutual
def cool : D → Bool
  | .tup xs => cools xs
  | .lst xs => cools xs
  | .exc nm _ _ => nm == "()"
  | _ => true
def cools : List D → Bool
  | [] => true
  | d :: ds => cool d && cools ds
end
def coolS : Slot → Bool
  | .un => true
  | .sh d => cool d
  | .own ds => cools ds
def coolE : Env' → Bool
  | [] => true
  | s :: r => coolS s && coolE r
theorem coolE_get : ∀ {env : Env'} {i : Nat} {s : Slot}, coolE env = true → env[i]? = some s → coolS s = true
  | [], _, _, _, h => by simp at h
  | s :: r, 0, _, c, h => by
    simp at h
    subst h
    exact (Bool.and_eq_true_iff.mp c).1
  | s :: r, i + 1, _, c, h => coolE_get (env := r) (i := i) (Bool.and_eq_true_iff.mp c).2 (by simpa using h)
section
variable {K : PySem.W.Frag} {H : Hp} {P : Addr → Prop} {k k' : KA}
mutual
theorem Rep.turn (hd : k'.dk = k.dk) (hx : k.ex = none ∨ k'.ex = k.ex) : ∀ (d : D) (v : V), Rep K H P k d v → Rep K H P k' d v
  | .non, _, h => by cases h; exact .non
  | .bl b, _, h => by cases h; exact .bl b
  | .int i, _, h => by cases h; exact .int i
  | .str x, _, h => by cases h; exact .str x
  | .tup ds, _, h => by
    cases h with
    | tup h1 h2 => exact .tup h1 (RepL.turn hd hx ds _ h2)
  | .lst ds, _, h => by
    cases h with
    | lst h1 np h2 => exact .lst h1 np (RepL.turn hd hx ds _ h2)
  | .emp, _, h => by
    cases h with
    | emp h1 np => exact .emp h1 np
  | .dk, _, h => by
    cases h with
    | dk e => exact .dk (hd.trans e)
  | .exc nm f d, _, h => by
    cases h with
    | fn => exact .fn _
    | exc h0 h1 h2 h3 h4 np h5 =>
      rcases hx with z | z
      · rw [z] at h1; cases h1
      · exact .exc h0 (z.trans h1) h2 h3 h4 np (Rep.turn hd (.inr z) d _ h5)
    | ex0 h0 h1 h2 h3 =>
      rcases hx with z | z
      · rw [z] at h1; cases h1
      · exact .ex0 h0 (z.trans h1) h2 h3
theorem RepL.turn (hd : k'.dk = k.dk) (hx : k.ex = none ∨ k'.ex = k.ex) : ∀ (ds : List D) (vs : List V), RepL K H P k ds vs → RepL K H P k' ds vs
  | [], _, h => by cases h; exact .nil
  | d :: ds, _, h => by
    cases h with
    | cons h1 h2 => exact .cons (Rep.turn hd hx d _ h1) (RepL.turn hd hx ds _ h2)
end
mutual
theorem Rep.cool (hd : k'.dk = k.dk) : ∀ (d : D) (v : V), Rep K H P k d v → Den.cool d = true → Rep K H P k' d v
  | .non, _, h, _ => by cases h; exact .non
  | .bl b, _, h, _ => by cases h; exact .bl b
  | .int i, _, h, _ => by cases h; exact .int i
  | .str x, _, h, _ => by cases h; exact .str x
  | .tup ds, _, h, c => by
    cases h with
    | tup h1 h2 => exact .tup h1 (RepL.cool hd ds _ h2 (by simpa [Den.cool] using c))
  | .lst ds, _, h, c => by
    cases h with
    | lst h1 np h2 => exact .lst h1 np (RepL.cool hd ds _ h2 (by simpa [Den.cool] using c))
  | .emp, _, h, _ => by
    cases h with
    | emp h1 np => exact .emp h1 np
  | .dk, _, h, _ => by
    cases h with
    | dk e => exact .dk (hd.trans e)
  | .exc nm f d, _, h, c => by
    cases h with
    | fn => exact .fn _
    | exc h0 _ _ _ _ _ _ => exact absurd (eq_of_beq c) h0
    | ex0 h0 _ _ _ => exact absurd (eq_of_beq c) h0
theorem RepL.cool (hd : k'.dk = k.dk) : ∀ (ds : List D) (vs : List V), RepL K H P k ds vs → Den.cools ds = true → RepL K H P k' ds vs
  | [], _, h, _ => by cases h; exact .nil
  | d :: ds, _, h, c => by
    have c : Den.cool d = true ∧ Den.cools ds = true := by simpa [Den.cools] using c
    cases h with
    | cons h1 h2 => exact .cons (Rep.cool hd d _ h1 c.1) (RepL.cool hd ds _ h2 c.2)
end
end
/-- the same deck and protection, another exception handled -/
abbrev Gh.at {ex : EX} (g : Gh ex) (ex' : EX) : Gh ex' := ⟨g.k, g.P0⟩
section
variable {K : PySem.W.Frag} {H H' : Hp} {σ σ' : St} {n : Nat} {env env' : Env'}
theorem Rl.hot {g : Gh none} (R : Rl K g H σ n env) (ex : EX) : Rl K (g.at ex) H σ n env :=
  ⟨R.len, fun i d h => let ⟨v, a, b⟩ := R.sh i d h; ⟨v, a, Rep.turn (k := kA g) (k' := kA (g.at ex)) rfl (.inl rfl) d v b⟩, fun i ds h => let ⟨a, xs, b1, b2, b3, b4⟩ := R.own i ds h; ⟨a, xs, b1, b2, b3, RepL.turn (k := kA g) (k' := kA (g.at ex)) rfl (.inl rfl) ds xs b4⟩, R.nd, R.dk, R.p0, R.kp⟩
theorem Rl.cold {ex : EX} {g : Gh ex} (R : Rl K g H σ n env) (c : coolE env = true) (ex' : EX) : Rl K (g.at ex') H σ n env :=
  ⟨R.len, fun i d h => let ⟨v, a, b⟩ := R.sh i d h; ⟨v, a, Rep.cool (k := kA g) (k' := kA (g.at ex')) rfl d v b (coolE_get c h)⟩, fun i ds h => let ⟨a, xs, b1, b2, b3, b4⟩ := R.own i ds h; ⟨a, xs, b1, b2, b3, RepL.cool (k := kA g) (k' := kA (g.at ex')) rfl ds xs b4 (coolE_get c h)⟩, R.nd, R.dk, R.p0, R.kp⟩
theorem Stp.at {ex : EX} {g : Gh ex} (s : Stp g H σ env H' σ' env') (ex' : EX) : Stp (g.at ex') H σ env H' σ' env' := ⟨s.keep, s.own⟩
/-- a slot is forgotten -/
theorem Rl.unset {ex : EX} {g : Gh ex} (R : Rl K g H σ n env) (i : Nat) : Rl K g H (σ.set i none) n (env.set i .un) ∧ ∀ a, ow (env.set i .un) (σ.set i none) a → ow env σ a := by
  have back : ∀ {j : Nat} {s : Slot}, (env.set i .un)[j]? = some s → s ≠ .un → env[j]? = some s ∧ i ≠ j := fun {j s} h ns => by
    by_cases e : i = j
    · subst e
      by_cases hl : i < env.length
      · rw [List.getElem?_set_self hl] at h
        cases h
        exact absurd rfl ns
      · rw [List.getElem?_eq_none (by simpa using hl)] at h
        cases h
    · rw [List.getElem?_set_ne e] at h
      exact ⟨h, e⟩
  have o : ∀ a, ow (env.set i .un) (σ.set i none) a → ow env σ a := fun a ⟨j, ds, h1, h2⟩ => by
    obtain ⟨b1, b2⟩ := back h1 nofun
    rw [List.getElem?_set_ne b2] at h2
    exact ⟨j, ds, b1, h2⟩
  refine ⟨⟨by simp [R.len], fun j d h => ?_, fun j ds h => ?_, fun j j' ds es a h1 h2 h3 h4 => ?_, R.dk, R.p0, R.kp⟩, o⟩
  · obtain ⟨b1, b2⟩ := back h nofun
    obtain ⟨v, e1, e2⟩ := R.sh j d b1
    exact ⟨v, by rw [List.getElem?_set_ne b2]; exact e1, e2.to (ow_ext o)⟩
  · obtain ⟨b1, b2⟩ := back h nofun
    obtain ⟨a, xs, e1, e2, e3, e4⟩ := R.own j ds b1
    exact ⟨a, xs, by rw [List.getElem?_set_ne b2]; exact e1, e2, e3, e4.to (ow_ext o)⟩
  · obtain ⟨b1, b2⟩ := back h1 nofun
    obtain ⟨c1, c2⟩ := back h2 nofun
    rw [List.getElem?_set_ne b2] at h3
    rw [List.getElem?_set_ne c2] at h4
    exact R.nd j j' ds es a b1 c1 h3 h4
end

/-! ### try: .. except C as x: .. -/
def excD (x : Exc) : D := match x.fld with
  | none => .exc x.name "" .non
  | some (f, d) => .exc x.name f d
def okR (r : R) : Bool := coolE r.2 && (match r.1 with
  | .rt d => cool d
  | _ => true)
/-- names: what may be raised in the body; all of it is caught -/
def sTry (names : List Str) (i : Nat) (body suite : Env' → MS) : Env' → MS := fun env n Q E => body env n Q fun x env' n' =>
  (i < env'.length ∧ x.name ∈ names) ∧ suite (env'.set i (.sh (excD x))) n' (fun r n2 => okR (r.1, r.2.set i .un) = true ∧ Q (r.1, r.2.set i .un) n2) fun _ _ _ => False
abbrev WN : WX := fun _ _ _ _ => False
theorem rep_exc {K : PySem.W.Frag} {mg : Str → Option Value} {H : Hp} {P : Addr → Prop} {k : KA} {x : Exc} {cls : Value} {dd : Option Addr} {a : Addr} {oe : Obj} (hx : ExR K mg H P k x cls dd) (hn : k.ex = none) (hg : mg x.name = some (.ref (He.ga K x.name))) (hz : L2N.Zn cls dd oe) (nf : x.name ≠ "()") :
    Rep K H P ⟨k.dk, some (a, oe)⟩ (excD x) (.ref a) := by
  obtain ⟨C, h1, rfl, h3⟩ := hx
  rw [hg] at h1
  cases h1
  obtain ⟨nm, fld⟩ := x
  cases fld with
  | none =>
    dsimp only at h3
    subst h3
    exact .ex0 nf rfl hz.1 hz.2.1
  | some p =>
    obtain ⟨f, d⟩ := p
    obtain ⟨b, v, h4, h5, h6, h7⟩ := h3
    exact .exc nf rfl hz.1 (hz.2.1.trans h4) h5 h6 (Rep.turn (k := k) (k' := ⟨k.dk, some (a, oe)⟩) rfl (.inl hn) d v h7)
section
variable {X : Cx} {W : WY} {x n : Str} {i : Nat} {body suite : List Stmt} {b₀ : Stmt} {np pos pos' : Pos} {φ ψ : Env' → MS} {names : List Str}
theorem dS_try (hx : W.ex = none) (hs : X.stack = X.env :: X.outer) (hf : X.env.frame = some X.env.locals) (hN : X.N.Nodup) (hm : X.mg x = some (.ref (He.ga X.K x))) (tk : L2N.Takes X W.w)
    (hg : ∀ nm ∈ names, X.mg nm = some (.ref (He.ga X.K nm)) ∧ PySem.W.exmOne X.K (.ref (He.ga X.K nm)) (.ref (He.ga X.K x)) = some true ∧ nm ≠ "()")
    (hb : ∀ (w : WX) (pn : List (Addr × Obj)) (xe : Value → Shared → Prop), L2N.Takes (X.tr pn xe) w → PassesOwn (model X.prog X.w) X.A X.env xe → DSs (X.tr pn xe) ⟨w, none⟩ body φ)
    (hsu : ∀ (a : Addr) (oe : Obj) (pn : List (Addr × Obj)), (∃ vs : Array Value, oe.data = .fields vs ∧ vs[2]? = some .none) → DSs (X.suite a ((a, oe) :: pn)) ⟨WN, some (a, oe)⟩ (b₀ :: suite) ψ)
    (hi : X.N[i]? = some n := by rfl) (hln : X.env.kindOf n = some .local := by rfl) (hgl : Gl X x := by rfl) (hdb : (x == ("__debug__" : Str)) = false := by decide) :
    DS X W (.Try body [.ExceptHandler (some (.Name x np)) (some n) (b₀ :: suite) pos'] [] [] pos) (sTry names i φ ψ) := by
  obtain ⟨w, wex⟩ := W
  have hx : wex = none := hx
  subst hx
  refine PS.imp (L2N.ps_try_as (tb := fun w' => tS X.K X.mg ⟨w', none⟩ φ) (ts := fun a cls d D σ H => ∀ oe : Obj, L2N.Zn cls d oe → (∃ vs, oe.data = .fields vs) → tS X.K X.mg ⟨WN, some (a, oe)⟩ ψ D σ H) (Wout := w) hs hf hN hi hln ⟨hgl, hdb, .inl hm⟩ tk
    (fun w' pn xe t' po => hb w' pn xe t' po) (fun a oe cls d pn hz hv => PSs.imp (hsu a oe pn (by obtain ⟨vs, e⟩ := hv; exact ⟨vs, e, hz.2.2 vs e⟩)) fun D σ H h => h oe hz hv)) fun D σ H ⟨g, n0, env, Qd, Ed, R0, p, s⟩ => ?_
  refine ⟨g, n0, env, Qd, _, R0, p, ⟨s.nx, s.bk, s.ct, s.rt, fun x1 env' n' σ' H' cls dd q R1 hx1 st => ?_⟩⟩
  obtain ⟨⟨hlen, hmem⟩, qs⟩ := q
  obtain ⟨hgm, hex, hnf⟩ := hg _ hmem
  have ecls : cls = .ref (He.ga X.K x1.name) := by
    obtain ⟨C, e1, e2, _⟩ := hx1
    rw [hgm] at e1
    cases e1
    exact e2
  refine ⟨true, by rw [ecls]; exact hex, fun _ a na oe hz hv => ?_, fun z => Bool.noConfusion z⟩
  have rx : Rep X.K H' (pv (g.at (some (a, oe))) env' σ') (kA (g.at (some (a, oe)))) (excD x1) (.ref a) := rep_exc (k := kA g) hx1 rfl hgm hz hnf
  obtain ⟨R2, o2⟩ := (R1.hot (some (a, oe))).set hlen rx
  refine ⟨g.at (some (a, oe)), n', _, _, _, R2, qs, ?_⟩
  have back : ∀ {H2 : Hp} {σ2 : St} {env2 : Env'} {n2 : Nat}, Rl X.K (g.at (some (a, oe))) H2 σ2 n2 env2 → Stp (g.at (some (a, oe))) H' (σ'.set i (some (.ref a))) (env'.set i (.sh (excD x1))) H2 σ2 env2 → coolE (env2.set i .un) = true →
      Rl X.K g H2 (σ2.set i none) n2 (env2.set i .un) ∧ Stp g H σ env H2 (σ2.set i none) (env2.set i .un) := fun {H2 σ2 env2 n2} R3 st3 hc => by
    obtain ⟨R4, o4⟩ := R3.unset i
    refine ⟨Rl.cold (ex' := none) R4 hc, ?_⟩
    have s1 : Stp g H σ env H' (σ'.set i (some (.ref a))) (env'.set i (.sh (excD x1))) := ⟨st.keep, fun b z => st.own b (o2 b z)⟩
    have s2 : Stp (g.at (some (a, oe))) H' (σ'.set i (some (.ref a))) (env'.set i (.sh (excD x1))) H2 (σ2.set i none) (env2.set i .un) := ⟨st3.keep, fun b z => st3.own b (o4 b z)⟩
    exact Stp.at (Stp.trans (Stp.at s1 (some (a, oe))) R2 s2) none
  have ok1 : ∀ {f : Fl} {e : Env'}, okR (f, e) = true → coolE e = true := fun {f e} h => (Bool.and_eq_true_iff.mp h).1
  refine ⟨fun e2 n2 σ2 H2 q R3 st3 => ?_, fun e2 n2 σ2 H2 q R3 st3 => ?_, fun e2 n2 σ2 H2 q R3 st3 => ?_, fun d e2 n2 v H2 q r f dk => ?_, fun _ _ _ _ _ _ _ z _ _ _ => z.elim⟩
  · obtain ⟨c, q⟩ := q
    obtain ⟨R4, st4⟩ := back R3 st3 (ok1 c)
    exact s.nx _ n2 _ H2 q R4 st4
  · obtain ⟨c, q⟩ := q
    obtain ⟨R4, st4⟩ := back R3 st3 (ok1 c)
    exact s.bk _ n2 _ H2 q R4 st4
  · obtain ⟨c, q⟩ := q
    obtain ⟨R4, st4⟩ := back R3 st3 (ok1 c)
    exact s.ct _ n2 _ H2 q R4 st4
  · obtain ⟨c, q⟩ := q
    have cd : cool d = true := (Bool.and_eq_true_iff.mp c).2
    refine s.rt d _ n2 v H2 q (Rep.cool (k := kA (g.at (some (a, oe)))) (k' := kA g) rfl d v r cd) (fun b o h nk no => ?_) dk
    have h1 : H' b = some o := st.keep b o h nk no
    refine f b o h1 nk fun z => ?_
    have z' := o2 b z
    rcases st.own b z' with y | y
    · exact no y
    · rw [h] at y; cases y
end
end Den

set_option autoImplicit true
set_option Elab.async false
set_option linter.all false
set_option maxRecDepth 100000
set_option maxHeartbeats 2000000
set_option autoImplicit false
namespace Den
open PySem PySem.Spec PyProof.Rows L2

/-! ### where an exception is handled -/
structure HotW (X : Cx) (W : WY) (p : Addr × Obj) : Prop where
  ex : W.ex = some p
  pn : p ∈ X.pn
  dat : ∃ vs : Array Value, p.2.data = .fields vs ∧ vs[2]? = some .none
  hd : X.A.handled = some (.ref p.1)
theorem HotW.suite {X : Cx} {w : WX} {a : Addr} {oe : Obj} {pn : List (Addr × Obj)} (h : ∃ vs : Array Value, oe.data = .fields vs ∧ vs[2]? = some .none) : HotW (X.suite a ((a, oe) :: pn)) ⟨w, some (a, oe)⟩ (a, oe) := ⟨rfl, List.mem_cons_self, h, rfl⟩

/-! ### the exception's field -/
/-- what an own class of exceptions says of its instances' field -/
def fldB (K : PySem.W.Frag) (nm f : Str) : Bool := !(nm == "()") && (xfB K (He.ga K nm) && decide (PySem.W.findIn K (.ref (He.ga K nm)) f = some none))
def eXf (flds : List (Str × Str)) (i : Nat) (f : Str) : Env' → M D := fun env => match env[i]? with
  | some (.sh (.exc nm f' d)) => if f' = f ∧ (nm, f) ∈ flds then ret d else fail
  | _ => fail
theorem eXf_get {flds : List (Str × Str)} {i : Nat} {f : Str} {env : Env'} {n : Nat} {Q : D → Nat → Prop} {E : Exc → Nat → Prop} (h : eXf flds i f env n Q E) : ∃ nm d, env[i]? = some (.sh (.exc nm f d)) ∧ (nm, f) ∈ flds ∧ Q d n := by
  unfold eXf at h
  cases e : env[i]? with
  | none => rw [e] at h; exact h.elim
  | some sl =>
    rw [e] at h
    cases sl with
    | un => exact h.elim
    | own _ => exact h.elim
    | sh d' =>
      cases d' with
      | exc nm f' d =>
        have h2 : (if f' = f ∧ (nm, f) ∈ flds then (ret d : M D) else fail) n Q E := h
        by_cases c : f' = f ∧ (nm, f) ∈ flds
        · rw [if_pos c] at h2
          obtain ⟨rfl, c⟩ := c
          exact ⟨nm, d, rfl, c, h2⟩
        · rw [if_neg c] at h2
          exact h2.elim
      | _ => exact h.elim
theorem dE_xf {X : Cx} {W : WY} {p : Addr × Obj} {i : Nat} {flds : List (Str × Str)} {f : Str} {o : Expr} {pos : Pos} (h : HotW X W p) (hf : (flds.all fun q => fldB X.K q.1 q.2) = true) (ho : PE X o (tVar i)) (nz : f ≠ "" := by decide)
    (hb : attributeBase o f X.env (eval o X.env) = eval o X.env := by rfl) : DE X W (.Attribute o f pos) (eXf flds i f) := by
  obtain ⟨w, wex⟩ := W
  have ew : wex = some p := h.ex
  subst ew
  refine ⟨fun pins s σ H Q I hh => ?_⟩
  obtain ⟨g, n, env, Qd, Ed, R, q, fin, r⟩ := hh
  obtain ⟨nm, d, he, hm, q⟩ := eXf_get q
  obtain ⟨x, hx, rx⟩ := R.sh i _ he
  have b0 := He.ba (List.all_eq_true.mp hf _ hm)
  cases rx with
  | ex0 h0 h1 h2 h3 => exact absurd rfl nz
  | fn => exact absurd (show (!(("()" : Str) == "()")) = true from b0.1) (by decide +kernel)
  | @exc a dd oe _ _ _ v h0 h1 h2 h3 h4 np h5 =>
    have e1 : p = (a, oe) := Option.some.inj h1
    subst e1
    refine attr_of hb (thn (ho.run pins s σ H (fun x' H' => x' = .ref a ∧ H' = H) I ⟨_, hx, rfl, rfl⟩) fun u s1 ⟨x', H', I1, ru, ex, eH⟩ => ?_)
    subst ex eH
    obtain rfl : u = Value.ref a := ru
    obtain ⟨at_, _⟩ := I1.pin (a, oe) (List.mem_append_left _ h.pn)
    obtain ⟨vs, dat, _⟩ := h.dat
    obtain ⟨mA, ns, rel⟩ := (show ObjOk X.prog X.w H' s1.heap dd (.xd [(f, v)]) from I1.hok dd _ h4)
    obtain ⟨od, hod, lk⟩ := lookIn_ns ns
    have one : ([(f, v)] : List (Str × V)).lookup f = some v := by simp [List.lookup]
    obtain ⟨z, hz, rz⟩ := RelO.some_of (v := v) (o := mA f) (by rw [← one]; exact rel f)
    have b := He.ba b0.2
    have T := xfB_ok b.1
    have J : PySem.W.InstAt s1.heap a oe (He.ga X.K nm) (some od) := ⟨at_, h2, by unfold PySem.W.notCls; rw [dat] <;> rfl, by rw [h3]; exact hod⟩
    exact HandSPX.exc_get I1.kIn J T.ga T.gg T.exC (PySem.W.findObj_own T.hdC (of_decide_eq_true b.2) rfl (by rw [lk, hz])) (handed_of rz) ⟨v, H', I1.tok _, rz, fin d n v H' q h5 (Frm.refl _ _) R.dk⟩

/-! ### isinstance of the exception -/
def exccB (K : PySem.W.Frag) (D : Addr) : Bool := (PySem.W.clsIn K D).isSome && (He.eqO (PySem.W.findIn K (.ref D) "__getattribute__") (some (some (.builtin "BaseException.__getattribute__"))) && (He.eqO (PySem.W.findIn K (.ref D) "__getattr__") (some none) &&
  (decide (PySem.W.subIn K (.ref D) (.type "BaseException") = some true) && (He.eqO (PySem.W.findIn K (.ref D) "__class__") (some (some (.builtin "object.__class__"))) && (He.eqO (PySem.W.specialIn K (.builtin "object.__class__") "__get__") (some (some (.builtin "getset_descriptor.__get__"))) &&
  (decide (PySem.W.takesIn K (.builtin "object.__class__") = some true) && decide (PySem.W.mroIn K D (.type "object") = some true)))))))
theorem kitE {K : PySem.W.Frag} {D x : Addr} {ox : Obj} {od : Option Obj} (h : exccB K D = true) : PySem.W.KitX K (.ref x) (.ref D) (fun h => PySem.W.InstAt h x ox D od) := by
  obtain ⟨h1, h⟩ := He.ba h
  obtain ⟨h2, h⟩ := He.ba h
  obtain ⟨h3, h⟩ := He.ba h
  obtain ⟨h4, h⟩ := He.ba h
  obtain ⟨h5, h⟩ := He.ba h
  obtain ⟨h6, h⟩ := He.ba h
  obtain ⟨h7, h8⟩ := He.ba h
  exact PySem.W.kitx_exc h1 (He.eqO_ok h2) (He.eqO_ok h3) (of_decide_eq_true h4) (He.eqO_ok h5) (He.eqO_ok h6) (of_decide_eq_true h7) (of_decide_eq_true h8)
/-- every class of the package is WidthError's; ValueError is built in -/
def subE (nm c : Str) : Bool := (nm == c) || ((c == ("WidthError" : Str)) || (c == ("ValueError" : Str)))
def clsVal (K : PySem.W.Frag) (c : Str) : Value := if c = "ValueError" then .type "ValueError" else .ref (He.ga K c)
def clsV (K : PySem.W.Frag) (c : Str) : V := if c = "ValueError" then .ty "ValueError" else .ref (He.ga K c)
/-- what the walk wants of the classes that may be raised, and of those that are asked for -/
def isB (K : PySem.W.Frag) (names cs : List Str) : Bool := (names.all fun nm => !(nm == "()") && exccB K (He.ga K nm)) && (names.all fun nm => cs.all fun c => decide (PySem.W.kitOne K (.ref (He.ga K nm)) (clsVal K c) = some (subE nm c)))
theorem isB_nf {K : PySem.W.Frag} {names cs : List Str} (h : isB K names cs = true) {nm : Str} (hm : nm ∈ names) : nm ≠ "()" := fun z => by
  have b := (He.ba (List.all_eq_true.mp (He.ba h).1 nm hm)).1
  rw [z] at b
  exact absurd b (by decide +kernel)
structure ClsOk (K : PySem.W.Frag) (mg : Str → Option Value) (names cs : List Str) : Prop where
  is : isB K names cs = true
  gl : ∀ c ∈ cs, c ≠ "ValueError" → mg c = some (.ref (He.ga K c))
  ve : mg "ValueError" = none
def eIsE (names : List Str) (i : Nat) (cs : List Str) : Env' → M D := fun env => match env[i]? with
  | some (.sh (.exc nm _ _)) => if nm ∈ names then ret (.bl (cs.any fun c => subE nm c)) else fail
  | _ => fail
theorem eIsE_get {names cs : List Str} {i : Nat} {env : Env'} {n : Nat} {Q : D → Nat → Prop} {E : Exc → Nat → Prop} (h : eIsE names i cs env n Q E) : ∃ nm f d, env[i]? = some (.sh (.exc nm f d)) ∧ nm ∈ names ∧ Q (.bl (cs.any fun c => subE nm c)) n := by
  unfold eIsE at h
  cases e : env[i]? with
  | none => rw [e] at h; exact h.elim
  | some sl =>
    rw [e] at h
    cases sl with
    | un => exact h.elim
    | own _ => exact h.elim
    | sh d' =>
      cases d' with
      | exc nm f d =>
        have h : (if nm ∈ names then (ret (.bl (cs.any fun c => subE nm c)) : M D) else fail) n Q E := h
        by_cases c : nm ∈ names
        · rw [if_pos c] at h
          exact ⟨nm, f, d, rfl, c, h⟩
        · rw [if_neg c] at h
          exact h.elim
      | _ => exact h.elim
theorem relV_cls {K : PySem.W.Frag} {c : Str} {u : Value} (h : RelV (clsV K c) u) : u = clsVal K c := by
  unfold clsV at h
  unfold clsVal
  split
  · rename_i e; rw [if_pos e] at h; exact h
  · rename_i e; rw [if_neg e] at h; exact h
theorem rel_cls {K : PySem.W.Frag} {c : Str} : RelV (clsV K c) (clsVal K c) := by
  unfold clsV clsVal
  split <;> rfl
theorem cls_its {K : PySem.W.Frag} : ∀ {cs : List Str} {its : List Value}, Vals (cs.map (clsV K)) its → its = cs.map (clsVal K)
  | [], _, h => by cases h; rfl
  | c :: cs, _, h => by
    cases h with
    | cons r1 r2 => rw [relV_cls r1, cls_its r2]; rfl
theorem kit_anyE {K : PySem.W.Frag} {names cs0 : List Str} {nm : Str} (h : isB K names cs0 = true) (hn : nm ∈ names) : ∀ cs : List Str, (∀ c ∈ cs, c ∈ cs0) → PySem.W.kitAny K (.ref (He.ga K nm)) (cs.map (clsVal K)) = some (cs.any fun c => subE nm c)
  | [], _ => rfl
  | c :: cs, hc => by
    have e : PySem.W.kitOne K (.ref (He.ga K nm)) (clsVal K c) = some (subE nm c) := of_decide_eq_true (List.all_eq_true.mp (List.all_eq_true.mp (He.ba h).2 nm hn) c (hc c List.mem_cons_self))
    have ih := kit_anyE h hn cs fun c' hc' => hc c' (List.mem_cons_of_mem _ hc')
    show (match PySem.W.kitOne K (.ref (He.ga K nm)) (clsVal K c) with
      | some true => some true
      | some false => PySem.W.kitAny K (.ref (He.ga K nm)) (cs.map (clsVal K))
      | none => none) = _
    rw [e]
    cases q : subE nm c with
    | true => simp [q]
    | false => simp [q, ih]
section
variable {X : Cx} {W : WY} {p : Addr × Obj} {i : Nat} {o : Expr} {names cs0 : List Str} {pos p1 p2 : Pos}
theorem pe_cls {c : Str} (T : ClsOk X.K X.mg names cs0) (hc : c ∈ cs0) (hg : Gl X c) (hdb : (c == ("__debug__" : Str)) = false) : PE X (.Name c p1) (tC (clsV X.K c)) := by
  by_cases e : c = "ValueError"
  · subst e
    exact pe_bltn hg T.ve PyProof.Rows.Boot.«ValueError» (rel_cls (K := X.K) (c := "ValueError")) (by decide) hdb
  · have r := rel_cls (K := X.K) (c := c)
    unfold clsVal at r
    rw [if_neg e] at r
    exact pe_glob hg (T.gl c hc e) r hdb
def DCl (X : Cx) (es : List Expr) (cs : List Str) : Prop := PA X es fun _ H Q => Q (cs.map (clsV X.K)) H
theorem dCl_nil : DCl X [] [] := PA.imp pa_nil fun _ _ _ h => h
theorem dCl_cons {c : Str} {es : List Expr} {cs : List Str} (T : ClsOk X.K X.mg names cs0) (h : DCl X es cs) (hc : c ∈ cs0 := by decide) (hg : Gl X c := by rfl) (hdb : (c == ("__debug__" : Str)) = false := by decide) (hs : starEach (.Name c p1 :: es) X.env = (false, eval (.Name c p1) X.env) :: starEach es X.env := by rfl) : DCl X (.Name c p1 :: es) (c :: cs) :=
  PA.imp (pa_cons (pe_cls T hc hg hdb) h hs) fun _ _ _ h => h
/-- the instance, as the kit wants it -/
theorem instE {pins : List (Addr × Obj)} {σ : St} {H : Hp} {s : Shared} {D : Addr} (h : HotW X W p) (I : Inv X pins σ H s) (hc : p.2.cls = .ref D) (hd : p.2.dict = none ∨ ∃ dd fs, p.2.dict = some dd ∧ H dd = some (.xd fs)) : ∃ od, PySem.W.InstAt s.heap p.1 p.2 D od := by
  obtain ⟨at_, _⟩ := I.pin p (List.mem_append_left _ h.pn)
  obtain ⟨vs, dat, _⟩ := h.dat
  have no : PySem.W.notCls p.2 = true := by unfold PySem.W.notCls; rw [dat] <;> rfl
  rcases hd with e | ⟨dd, fs, e, q⟩
  · exact ⟨none, at_, hc, no, by rw [e]; trivial⟩
  · obtain ⟨_, ⟨o, _, _, ho, _⟩, _⟩ := (show ObjOk X.prog X.w H s.heap dd (.xd fs) from I.hok dd _ q)
    exact ⟨some o, at_, hc, no, by rw [e]; exact ho⟩
def dOkE (p : Addr × Obj) (H : Hp) : Prop := p.2.dict = none ∨ ∃ dd fs, p.2.dict = some dd ∧ H dd = some (.xd fs)
/-- one class, or a tuple of classes -/
def rIsX (K : PySem.W.Frag) (p : Addr × Obj) (names cs0 : List Str) : List V → Hp → VK → Prop := fun xs H Q => ∃ (nm : Str) (cs : List Str), nm ∈ names ∧ (∀ c ∈ cs, c ∈ cs0) ∧ p.2.cls = .ref (He.ga K nm) ∧ dOkE p H ∧
  ((∃ c, cs = [c] ∧ xs = [.ref p.1, clsV K c] ∧ Q (.bl (subE nm c)) H) ∨ ∃ tp, xs = [.ref p.1, .ref tp] ∧ SqT K H tp (cs.map (clsV K)) ∧ Q (.bl (cs.any fun c => subE nm c)) H)
theorem call_isX (h : HotW X W p) (T : isB X.K names cs0 = true) : CallR X (.builtin "isinstance") (rIsX X.K p names cs0) := by
  intro pins s σ H xs us Q I rel hh
  obtain ⟨nm, cs, hn, hcs, hcl, hd, hh⟩ := hh
  have kit := List.all_eq_true.mp (He.ba T).1 nm hn
  obtain ⟨od, J⟩ := instE h I hcl hd
  rcases hh with ⟨c, rfl, rfl, q⟩ | ⟨tp, rfl, hT, q⟩
  · cases rel with
    | cons rx rr =>
      cases rr with
      | cons rc rr =>
        cases rr
        cases rx
        have ec := relV_cls rc
        subst ec
        have one : PySem.W.kitOne X.K (.ref (He.ga X.K nm)) (clsVal X.K c) = some (subE nm c) := of_decide_eq_true (List.all_eq_true.mp (List.all_eq_true.mp (He.ba T).2 nm hn) c (hcs c List.mem_cons_self))
        exact PySem.W.kia_one (kitE (He.ba kit).2) I.kIn J one (fun z => nomatch z) fun tk => ⟨.bl _, H, I.kept (t' := tk) fun _ _ z => z, rfl, q⟩
  · cases rel with
    | cons rx rr =>
      cases rr with
      | cons rc rr =>
        cases rr
        cases rx
        cases rc
        obtain ⟨its, rits, ⟨⟨oc, odd, od2, osl⟩, ho, ec, n, ed⟩, _⟩ := I.tuple hT
        dsimp only at ec ed
        subst ec ed
        have eits := cls_its rits
        subst eits
        exact PySem.W.kia_tup (kitE (He.ba kit).2) I.kIn J ho (kit_anyE T hn cs hcs) (fun z => nomatch z) fun tk => ⟨.bl _, H, I.kept (t' := tk) fun _ _ z => z, rfl, q⟩
theorem exc_read {g : Gh (some p)} {K : PySem.W.Frag} {H : Hp} {σ : St} {n : Nat} {env : Env'} {nm f : Str} {d : D} (R : Rl K g H σ n env) (he : env[i]? = some (.sh (.exc nm f d))) (nf : nm ≠ "()") : σ[i]? = some (some (.ref p.1)) ∧ p.2.cls = .ref (He.ga K nm) ∧ dOkE p H := by
  obtain ⟨x, hx, rx⟩ := R.sh i _ he
  cases rx with
  | fn => exact absurd rfl nf
  | ex0 h0 h1 h2 h3 =>
    have e1 := Option.some.inj h1
    subst e1
    exact ⟨hx, h2, .inl h3⟩
  | exc h0 h1 h2 h3 h4 np h5 =>
    have e1 := Option.some.inj h1
    subst e1
    exact ⟨hx, h2, .inr ⟨_, _, h3, h4⟩⟩
theorem dE_isE {c : Str} (h : HotW X W p) (T : ClsOk X.K X.mg names cs0) (hm : X.mg "isinstance" = none) (ho : PE X o (tVar i)) (hc : c ∈ cs0 := by decide) (hg : Gl X "isinstance" := by rfl) (hgc : Gl X c := by rfl) (hdb : (c == ("__debug__" : Str)) = false := by decide)
    (hn : starEach [o, .Name c p2] X.env = (false, eval o X.env) :: starEach [.Name c p2] X.env := by rfl) (hpl : (backTo pos (starEach [.Name c p2] X.env)).any (·.1) = false := by rfl) : DE X W (.Call (.Name "isinstance" p1) [o, .Name c p2] [] pos) (eIsE names i [c]) := by
  refine PE.imp (pe_callB (call_isX h T.is) hg hm boot_isi (pa_cons ho (pa_cons (pe_cls T hc hgc hdb) pa_nil) hn) (by decide) (by decide) hn hpl) fun σ H Q hh => ?_
  obtain ⟨w, wex⟩ := W
  have ew : wex = some p := h.ex
  subst ew
  obtain ⟨g, n, env, Qd, Ed, R, q, fin, r⟩ := hh
  obtain ⟨nm, f', d, he, hm, q⟩ := eIsE_get q
  obtain ⟨e1, e2, e3⟩ := exc_read R he (isB_nf T.is hm)
  have q' : Qd (.bl (subE nm c || false)) n := q
  rw [Bool.or_false] at q'
  exact ⟨_, e1, nm, [c], hm, by simpa using hc, e2, e3, .inl ⟨c, rfl, rfl, fin _ n _ H q' (.bl _) (Frm.refl _ _) R.dk⟩⟩
theorem dE_isEs {es : List Expr} {cs : List Str} {k : Nat} (h : HotW X W p) (T : ClsOk X.K X.mg names cs0) (hm : X.mg "isinstance" = none) (ho : PE X o (tVar i)) (hes : DCl X es cs) (hc : ∀ c ∈ cs, c ∈ cs0 := by decide) (hl : cs.length ≤ 1000 := by decide) (hg : Gl X "isinstance" := by rfl)
    (hn : starEach [o, .Tuple es k p2] X.env = (false, eval o X.env) :: starEach [.Tuple es k p2] X.env := by rfl) (hn2 : starEach [.Tuple es k p2] X.env = (false, eval (.Tuple es k p2) X.env) :: starEach [] X.env := by rfl) (hpl : (backTo pos (starEach [.Tuple es k p2] X.env)).any (·.1) = false := by rfl) :
    DE X W (.Call (.Name "isinstance" p1) [o, .Tuple es k p2] [] pos) (eIsE names i cs) := by
  refine PE.imp (pe_callB (call_isX h T.is) hg hm boot_isi (pa_cons ho (pa_cons (pe_tup hes) pa_nil hn2) hn) (by decide) (by decide) hn hpl) fun σ H Q hh => ?_
  obtain ⟨w, wex⟩ := W
  have ew : wex = some p := h.ex
  subst ew
  obtain ⟨g, n, env, Qd, Ed, R, q, fin, r⟩ := hh
  obtain ⟨nm, f', d, he, hm, q⟩ := eIsE_get q
  obtain ⟨e1, e2, e3⟩ := exc_read R he (isB_nf T.is hm)
  refine ⟨_, e1, by rw [List.length_map, big_eq, big_val]; omega, fun tp htp => ?_⟩
  have e3' : dOkE p (upd H tp (.tup (cs.map (clsV X.K)))) := by
    rcases e3 with z | ⟨dd, fs, z1, z2⟩
    · exact .inl z
    · exact .inr ⟨dd, fs, z1, same_upd htp _ _ z2⟩
  exact ⟨nm, cs, hm, hc, e2, e3', .inr ⟨tp, rfl, .inl (.inl upd_same), fin _ n _ _ q (.bl _) (Frm.trans (Frm.refl _ _) (Same.frm (same_upd htp))) (R.dk.same (same_upd htp))⟩⟩
end
end Den

set_option autoImplicit true
set_option Elab.async false
set_option linter.all false
set_option maxRecDepth 100000
set_option maxHeartbeats 2000000
set_option autoImplicit false
namespace Den
open PySem PySem.Spec PyProof.Rows L2

/-! ### defs that are called while an exception is handled -/
structure FnE (P : Program) (w : World) (K : PySem.W.Frag) (mg : Str → Option Value) (base : Heap) (k : Nat) (f : Addr) (fd : FuncData) (ps : List Str) (sp : Addr × Obj → Sp) : Prop where
  ln : ∀ p vs H Q E, sp p vs H Q E → vs.length = ps.length
  go : ∀ A outer s H args us vs Q E p, L2H.RoomH k A → L2H.Hot1 A p → L2H.PinOk outer H s p → Env0 P w K mg base A outer s H → BindsTo s fd args (ps.zip us) → Vals vs us → sp p vs H Q E →
    codeAny (model P w) A (.call (.ref f) args) (CR (L2N.CX P w) outer P w H s Q E) s
theorem hotW_body {P : Program} {w : World} {K : PySem.W.Frag} {mg : Str → Option Value} {base : Heap} {N : List Str} {qual : Str} {scope : Scope} {f : Addr} {cd : Value} {A : Around} {outer : List Env} {s : Shared} {H : Hp} {E : XK} {p : Addr × Obj} {w' : WX} (h : L2H.Hot1 A p) :
    HotW (L2H.cxH (L2N.CX P w) P w K mg base N qual scope f cd A outer s H E p) ⟨w', some p⟩ p := ⟨rfl, List.mem_singleton.mpr rfl, h.2, h.1⟩
theorem FnE.mk' {P : Program} {w : World} {K : PySem.W.Frag} {mg : Str → Option Value} {base : Heap} {x qual : Str} {params : Arguments} {body : List Stmt} {scope : Scope} {dvs : List V} {kws : List (Str × V)} {f : Addr} {fd : FuncData} {N ps : List Str} {k : Nat} {sp : Addr × Obj → Sp}
    (F : FunD K x qual params body scope dvs kws f fd) (S : FnScope N ps scope) (ln : ∀ p vs H Q E, sp p vs H Q E → vs.length = ps.length)
    (hbody : ∀ (cdv : Value) (A : Around) (outer : List Env) (s : Shared) (H : Hp) (vs : List V) (Q : VK) (E : XK) (p : Addr × Obj), L2H.RoomH k (A.deeper (envOfC qual scope s.heap.objs.size f cdv)) → L2H.Hot1 A p → sp p vs H Q E →
      ∃ t, PSs (L2H.cxH (L2N.CX P w) P w K mg base N qual scope f cdv A outer s H E p) body t ∧ t { nx := fun _ H' => Q .non H', rt := Q } (L2.start N vs) H) : FnE P w K mg base (k + 1) f fd ps sp := by
  obtain ⟨oc, od, dV, kV, doc, pm, an, cdv, ct, osl, efd, lk, hcd, _, _⟩ := F.ex
  subst efd
  constructor
  · exact ln
  intro A outer s H args us vs Q E p room hot pinned e0 bd rv given
  have lnv := ln p vs H Q E given
  have inS := e0.mod.kin.keeps fun b o e => (e0.bs b o e).1
  have noLim := e0.mod.nolimit.keeps fun b o e => (e0.bs b o e).1
  have kinds : ∀ y ∈ ps.zip us, scope.names.lookup y.1 = some .local ∨ (scope.names.lookup y.1 = some .cell ∧ ((cellsFrom (s.heap.objs.size + 1) scope.names []).lookup y.1).isSome = true) := by
    intro y hy
    have hm : y.1 ∈ ps := (List.of_mem_zip (show (y.1, y.2) ∈ ps.zip us from hy)).1
    rcases S.par y.1 hm with a | a
    · exact Or.inl a
    · exact Or.inr ⟨a, PySem.W.cellsFrom_some _ _ _ (Or.inl a)⟩
  refine codeAny_call_function room.depth (inS _ _ lk) rfl S.co S.gen rfl (PySem.W.codeRec_of inS hcd) (bd _ _ _ _ ?_)
  refine wpAny_newFunctionEnv_cells S.kind kinds fun env eenv s1 inCall => ?_
  cases eenv
  refine ⟨noLim.keeps inCall.toInCall.keep, codeAny_func ?_⟩
  obtain ⟨t, walk, ends⟩ := hbody cdv A outer s H vs Q E p (room.deeper _) hot given
  have I0 := L2H.inv_startH (CX := L2N.CX P w) (E := E) S pinned e0 lnv rv inCall
  refine wpAny_mono (walk.run [] s1 (L2.start N vs) H _ I0 ends) ?_ (fun _ _ z => z)
  intro fl s' z
  match fl, z with
  | .ret u, ⟨v, σ', H', J, rvu, q⟩ => exact ⟨v, H', J.os, J.bare, J.base, J.hok, rvu, q⟩
  | .next, ⟨σ', H', J, q⟩ => exact ⟨V.non, H', J.os, J.bare, J.base, J.hok, rfl, q⟩
  | .brk, ⟨_, _, _, q⟩ => exact q.elim
  | .cont, ⟨_, _, _, q⟩ => exact q.elim
section
variable {X : Cx} {k : Nat} {f : Addr} {fd : FuncData} {ps : List Str} {sp : Addr × Obj → Sp} {E : St → XK} {x : Str} {q pos : Pos} {e : Expr} {es : List Expr} {t : TA} {p : Addr × Obj} {w : WX}
theorem run_fnE {pins : List (Addr × Obj)} {σ : St} {H : Hp} {s : Shared} {Q : VK} {us : List Value} {vs : List V} (FE : FnE X.prog X.w X.K X.mg X.base k f fd ps sp) (room : L2H.RoomH k X.A) (hot : L2H.Hot1 X.A p) (hp : p ∈ X.pn) (bd : Binds X.K fd ps []) (hx : PassesAt (L2N.CX X.prog X.w) X σ (E σ))
    (I : Inv X pins σ H s) (rv : Vals vs us) (given : sp p vs H Q (E σ)) : wpAny (model X.prog X.w) X.A (call (.ref f) us) (EP X pins σ Q) X.xe s := by
  have hl : us.length = ps.length := by rw [← rv.length]; exact FE.ln p _ _ _ _ given
  have b := bd s us I.kIn (by rw [List.append_nil]; exact hl)
  rw [List.append_nil] at b
  obtain ⟨y1, y2, y3, y4, y5⟩ := I.pin p (List.mem_append_left _ hp)
  have pinned : L2H.PinOk X.stack H s p := ⟨y1, y2, fun hm => (List.mem_cons.mp (I.stkSub p.1 hm)).elim y3 y4, y5⟩
  refine wpAny_call (codeAny_mono (FE.go X.A X.stack s H ⟨us, []⟩ us vs Q (E σ) p room hot pinned I.env0 b rv given) fun r s' z => ?_)
  match r, z with
  | .error e, z => exact hx pins H s e s' I z
  | .ok (.ret u), z => exact I.after z
  | .ok .next, z => exact z.elim
  | .ok .brk, z => exact z.elim
  | .ok .cont, z => exact z.elim
theorem pe_callE (FE : FnE X.prog X.w X.K X.mg X.base k f fd ps sp) (room : L2H.RoomH k X.A) (hot : L2H.Hot1 X.A p) (hp : p ∈ X.pn) (hg : Gl X x) (hm : X.mg x = some (.ref f)) (hk : PySem.W.keepIn X.K (.ref f) = true) (bd : Binds X.K fd ps []) (hx : ∀ σ, PassesAt (L2N.CX X.prog X.w) X σ (E σ))
    (ha : PA X (e :: es) t) (hdb : (x == ("__debug__" : Str)) = false) (he : starEach (e :: es) X.env = (false, eval e X.env) :: starEach es X.env) (hpl : (backTo pos (starEach es X.env)).any (·.1) = false) :
    PE X (.Call (.Name x q) (e :: es) [] pos) (tCallS (sp p) E t) := by
  constructor
  intro pins s σ H Q I given
  refine wpAny_Call_Name_kw (ld_glob I hg hm ?_ hdb)
  refine PySem.W.callWith_K (h₀ := X.base) I.ok.mod.kin hk (thn (ha.run pos pins s σ H _ I given) fun us s1 ⟨vs, H1, J, rv, z⟩ => ⟨J.kIn, ?_⟩) he hpl
  exact run_fnE FE room hot hp bd (hx σ) J rv z
end
structure OkE (P : Program) (w : World) (K : PySem.W.Frag) (mg : Str → Option Value) (base : Heap) (x : Str) (ar k : Nat) (φ : List D → M D) : Prop where
  ex : ∃ (a : Addr) (fd : FuncData) (ps : List Str), mg x = some (.ref a) ∧ PySem.W.keepIn K (.ref a) = true ∧ Binds K fd ps [] ∧ FnE P w K mg base k a fd ps (fun p => spX (some p) K mg ar φ)
theorem dE_fE {X : Cx} {W : WY} {p : Addr × Obj} {e : Expr} {es : List Expr} {χ : Env' → M (List D)} {ar k j : Nat} {φ : List D → M D} {x : Str} {q pos : Pos} (O : OkE X.prog X.w X.K X.mg X.base x ar k φ) (h : HotW X W p) (hr : L2H.RoomH j X.A) (tk : L2N.Takes X W.w) (ha : DA X W (e :: es) χ)
    (hk : k ≤ j := by decide) (hg : Gl X x := by rfl) (hdb : (x == ("__debug__" : Str)) = false := by decide)
    (he : starEach (e :: es) X.env = (false, eval e X.env) :: starEach es X.env := by rfl) (hpl : (backTo pos (starEach es X.env)).any (·.1) = false := by rfl) : DE X W (.Call (.Name x q) (e :: es) [] pos) (eCall ar φ χ) := by
  obtain ⟨a, fd, ps, hm, hkp, hb, FE⟩ := O.ex
  obtain ⟨w, wex⟩ := W
  have ew : wex = some p := h.ex
  subst ew
  refine PE.imp (pe_callE FE (hr.mono hk) ⟨h.hd, h.dat⟩ h.pn hg hm hkp hb (fun σ => L2N.passAt tk σ) ha hdb he hpl) fun σ H Q ⟨g, n, env, Qd, Ed, R0, z, fin, r⟩ => ?_
  refine ⟨g, n, env, _, _, R0, z, fun ds n' vs H' hd hr hf hk => ?_, r⟩
  have R1 := R0.frm hf hk
  have hd0 : (if ds.length = ar then φ ds else fail) n' Qd Ed := hd
  by_cases hl : ds.length = ar
  case neg =>
    rw [if_neg hl] at hd0
    exact hd0.elim
  rw [if_pos hl] at hd0
  exact ⟨g.k, pv g env σ, n', ds, Qd, Ed, hl, R1.there, fun a z => .inl (R0.kp a z), hk, hr, hd0, fun d n2 v H2 h1 h2 h3 h4 => fin d n2 v H2 h1 h2 (hf.trans h3) h4, fun x n2 cls dd H2 h1 h2 h3 h4 => r x n2 cls dd H2 h1 h2 (hf.trans h3) h4⟩
theorem sp_start {ex : EX} {K : PySem.W.Frag} {mg : Str → Option Value} {N ps : List Str} {φ : Env' → MS} {vs : List V} {H : Hp} {Q : VK} {E : XK} (h : spX ex K mg ps.length (fnD N.length φ) vs H Q E) :
    tS K mg ⟨fun cls d _ H' => E cls d H', ex⟩ φ { nx := fun _ H' => Q .non H', rt := Q } (L2.start N vs) H := by
  obtain ⟨k, P0, n, ds, Qd, Ed, hl, hP, hk, dk, r, p, q, q2⟩ := h
  have no : ∀ a, ¬ ow (startE N.length ds) (L2.start N vs) a := fun a ⟨i, es, h1, _⟩ => by
    obtain ⟨_, _, e1, _, _, _⟩ := (rlStart (N := N) hP hk dk r).own i es h1
    unfold startE at h1
    rw [List.getElem?_append] at h1
    split at h1
    · rw [List.getElem?_map] at h1
      cases z : ds[i]? with
      | none => rw [z] at h1; cases h1
      | some d => rw [z] at h1; cases h1
    · rw [List.getElem?_replicate] at h1
      split at h1 <;> cases h1
  refine ⟨⟨k, P0⟩, n, startE N.length ds, _, _, rlStart hP hk dk r, p, ⟨fun e n' σ' H' h R' st => ?_, fun e n' σ' H' h R' st => h.elim, fun e n' σ' H' h R' st => h.elim, fun d e n' v H' h rv f dk' => ?_, fun x e n' σ' H' cls dd h R' hx st => ?_⟩⟩
  · exact q .non n' .non H' h .non (fun a o h1 h2 => st.keep a o h1 h2 (no a)) R'.dk
  · exact q d n' v H' h rv (fun a o h1 h2 => f a o h1 h2 (no a)) dk'
  · refine q2 x n' cls dd H' h ?_ (fun a o h1 h2 => st.keep a o h1 h2 (no a)) R'.dk
    obtain ⟨C, e1, e2, e3⟩ := hx
    refine ⟨C, e1, e2, ?_⟩
    cases hf : x.fld with
    | none => rw [hf] at e3; exact e3
    | some fp =>
      obtain ⟨fn, d⟩ := fp
      rw [hf] at e3
      obtain ⟨a, v, h1, h2, h3, h4⟩ := e3
      exact ⟨a, v, h1, h2, fun z => h3 (.inl z), h4.to ⟨fun _ _ h _ => h, fun b z => .inl (.inl z)⟩⟩
theorem okE_mk {P : Program} {w : World} {K : PySem.W.Frag} {mg : Str → Option Value} {base : Heap} {x qual : Str} {params : Arguments} {body : List Stmt} {scope : Scope} {kws : List (Str × V)} {f : Addr} {fd : FuncData} {N ps : List Str} {k : Nat} {φ : Env' → MS}
    (F : FunD K x qual params body scope [] kws f fd) (hm : mg x = some (.ref f)) (S : FnScope N ps scope)
    (hbi : ∀ (kV doc pm : Value) (an : Option Addr) (cdv ct : Value) (us : List Value), us.length = ps.length → bindArgs (PySem.W.fnOf x qual params body scope .none kV doc pm an cdv ct) ⟨us, []⟩ = pure (ps.zip us))
    (hb : ∀ (cdv : Value) (A : Around) (outer : List Env) (s : Shared) (H : Hp) (E : XK) (p : Addr × Obj), L2H.RoomH k (A.deeper (envOfC qual scope s.heap.objs.size f cdv)) →
      HotW (L2H.cxH (L2N.CX P w) P w K mg base N qual scope f cdv A outer s H E p) ⟨fun cls d _ H' => E cls d H', some p⟩ p →
      DSs (L2H.cxH (L2N.CX P w) P w K mg base N qual scope f cdv A outer s H E p) ⟨fun cls d _ H' => E cls d H', some p⟩ body φ) :
    OkE P w K mg base x ps.length (k + 1) (fnD N.length φ) :=
  ⟨f, fd, ps, hm, F.kp, F.bindsN hbi, FnE.mk' F S (fun p vs H Q E ⟨_, _, _, ds, _, _, hl, _, _, _, r, _⟩ => by rw [r.len, hl]) fun cdv A outer s H vs Q E p hr hot h => ⟨_, hb cdv A outer s H E p hr (hotW_body hot), sp_start h⟩⟩
/-! ### comparisons there -/
section
variable {X : Cx} {W : WY} {a b : Expr} {φa φb : Env' → M D} {pos : Pos} {n : Nat}
theorem roomH64 (hr : L2H.RoomH n X.A) : X.A.units + 64 < cLine := by have := hr.un; omega
theorem roomH_suite {k : Nat} {X : Cx} {a : Addr} {pn : List (Addr × Obj)} (r : Room k X.A) : L2H.RoomH k (X.suite a pn).A := ⟨r.dp, r.un⟩
theorem dE_eqH (hr : L2H.RoomH n X.A) (ha : DE X W a φa) (hb : DE X W b φb) : DE X W (.Compare a [.Eq] [b] pos) (eOp oEq φa φb) := dE_cmp (op_eqD (roomH64 hr)) pu_eq (nomark _) ha hb
theorem dE_neH (hr : L2H.RoomH n X.A) (ha : DE X W a φa) (hb : DE X W b φb) : DE X W (.Compare a [.NotEq] [b] pos) (eOp oNe φa φb) := dE_cmp (op_neD (roomH64 hr)) pu_ne (nomark _) ha hb
theorem dT_eqH (hr : L2H.RoomH n X.A) (ha : DE X W a φa) (hb : DE X W b φb) : DT X W (.Compare a [.Eq] [b] pos) (eB (eOp oEq φa φb)) := dT_cmp (op_eqD (roomH64 hr)) pu_eq (nomark _) ha hb
theorem dT_neH (hr : L2H.RoomH n X.A) (ha : DE X W a φa) (hb : DE X W b φb) : DT X W (.Compare a [.NotEq] [b] pos) (eB (eOp oNe φa φb)) := dT_cmp (op_neD (roomH64 hr)) pu_ne (nomark _) ha hb
end
/-- an expression that is not read here -/
def eNever : Env' → M D := fun _ => fail
theorem dE_never {X : Cx} {W : WY} {e : Expr} : DE X W e eNever := ⟨fun pins s σ H Q I ⟨g, n, env, Qd, Ed, R0, p, q, r⟩ => p.elim⟩
theorem takesN0 {X : Cx} : L2N.Takes X (fun _ _ _ _ => False) := fun _ _ ⟨_, _, _, _, _, _, _, _, _, _, _, _, _, _, _, _, w⟩ => w.elim
/-! ### the classes' facts, as one Bool -/
def iniB (K : PySem.W.Frag) (nm : Str) : Bool := He.eqO (PySem.W.findIn K (.ref (He.ga K nm)) "__init__") (some (some (.ref (He.ma K (He.ga K nm) "__init__")))) && decide (PySem.W.typeIn K (.ref (He.ma K (He.ga K nm) "__init__")) = some (.type "function"))
def ckX (K : PySem.W.Frag) (names cs : List Str) (fl : List (Str × Str)) : Bool := isB K names cs && ((names.all fun nm => !(nm == "()") && decide (PySem.W.exmOne K (.ref (He.ga K nm)) (.ref (He.ga K "WidthError")) = some true)) && ((fl.all fun q => fldB K q.1 q.2) && fl.all fun q => oexB K (He.ga K q.1) && iniB K q.1))
section
variable {K : PySem.W.Frag} {names cs : List Str} {fl : List (Str × Str)}
theorem ckX_is (h : ckX K names cs fl = true) : isB K names cs = true := (He.ba h).1
theorem ckX_x (h : ckX K names cs fl = true) : ∀ nm ∈ names, PySem.W.exmOne K (.ref (He.ga K nm)) (.ref (He.ga K "WidthError")) = some true ∧ nm ≠ "()" := fun nm hn =>
  have b := He.ba (List.all_eq_true.mp (He.ba (He.ba h).2).1 nm hn)
  ⟨of_decide_eq_true b.2, fun z => by
    have b := b.1
    rw [z] at b
    exact absurd b (by decide +kernel)⟩
theorem ckX_f (h : ckX K names cs fl = true) : (fl.all fun q => fldB K q.1 q.2) = true := (He.ba (He.ba (He.ba h).2).2).1
theorem X1.of {P : Program} {w : World} {mg : Str → Option Value} {base : Heap} {q : Str × Str} {fd : FuncData} {pn : Str} (g : mg q.1 = some (.ref (He.ga K q.1))) (h : ckX K names cs fl = true) (hq : q ∈ fl) (b : Binds K fd ["self", pn] [])
    (F : OexC K (He.ga K q.1) → PySem.W.findIn K (.ref (He.ga K q.1)) q.2 = some none → FnOk P w K mg base CX0 1 (He.ma K (He.ga K q.1) "__init__") fd ["self", pn] (spInit K (He.ga K q.1) q.2)) : X1 P w K mg base q.1 q.2 := by
  have c := He.ba (List.all_eq_true.mp (He.ba (He.ba (He.ba h).2).2).2 q hq)
  have i := He.ba c.2
  have no : PySem.W.findIn K (.ref (He.ga K q.1)) q.2 = some none := of_decide_eq_true (He.ba (He.ba (List.all_eq_true.mp (ckX_f h) q hq)).2).2
  exact ⟨g, oexB_ok c.1, _, fd, pn, He.eqO_ok i.1, of_decide_eq_true i.2, b, F (oexB_ok c.1) no⟩
end
/-- a statement of a class's body -/
def clsSt (s : Stmt) (j : Nat) : Stmt := match s with
  | .ClassDef _ _ _ b _ _ _ _ _ _ _ => b.getD j (.Pass ⟨0, 0, 0, 0⟩)
  | _ => .Pass ⟨0, 0, 0, 0⟩
/-! ### the hook that checks the classes, too -/
def obsE (n : Nat) (fa : List He.Fa) (fn : List He.DefD) (ck : PySem.W.Frag → Bool) (g : Addr → Option Obj) : He.AlD := ((He.obsD fa fn (frS g n)).1 && (sysOk (frS g n) && ck (frS g n)), (He.obsD fa fn (frS g n)).2)
def SaysC (fa : List He.Fa) (fn : List He.DefD) (ck : PySem.W.Frag → Bool) (K : PySem.W.Frag) : Prop := He.SaysD fa fn K ∧ sysOk K = true ∧ ck K = true
theorem says_ofE {fa : List He.Fa} {fn : List He.DefD} {ck : PySem.W.Frag → Bool} {K : PySem.W.Frag} (h : ((He.obsD fa fn K).1 && (sysOk K && ck K), (He.obsD fa fn K).2) = He.valD fn) : SaysC fa fn ck K := by
  have h1 : ((He.obsD fa fn K).1 && (sysOk K && ck K)) = true := congrArg (fun z : He.AlD => z.1) h
  have h2 : (He.obsD fa fn K).2 = fn.map He.DefD.val := congrArg (fun z : He.AlD => z.2) h
  rw [Bool.and_eq_true, Bool.and_eq_true] at h1
  refine ⟨?_, h1.2.1, h1.2.2⟩
  unfold He.SaysD He.valD
  exact Prod.ext h1.1 h2
def hookC (n : Nat) (fa : List He.Fa) (fn : List He.DefD) (ck : PySem.W.Frag → Bool) : PySem.W.Hook where
  α := He.AlD
  obs := fun s => obsE n fa fn ck s.heap.get?
  val := fun _ => He.valD fn
  says := fun _ h => ∃ K : PySem.W.Frag, K.In h ∧ SaysC fa fn ck K
  of := fun _ _ e => ⟨_, He.frG_in, says_ofE e⟩
  keeps := fun _ _ _ ⟨K, hK, c⟩ k => ⟨K, PySem.W.Frag.In.keeps hK k, c⟩
theorem obsE_eq {n : Nat} {fa : List He.Fa} {fn : List He.DefD} {ck : PySem.W.Frag → Bool} {g : Addr → Option Obj} {s : Shared} (h : ∀ a, g a = s.heap.get? a) : obsE n fa fn ck g = (hookC n fa fn ck).obs s := by
  have e : g = s.heap.get? := funext h
  rw [e] <;> rfl
end Den

set_option autoImplicit true
set_option Elab.async false
set_option linter.all false
set_option maxRecDepth 100000
set_option maxHeartbeats 2000000
set_option autoImplicit false
namespace Den
open PySem PySem.Spec PyProof.Rows L2
/-! ### truth values in sums -/
def oAddB : D → D → Option D
  | .bl a, .int j => some (.int (b2i a + j))
  | a, b => oAdd a b
def oSubB : D → D → Option D
  | .bl a, .int j => some (.int (b2i a - j))
  | a, b => oSub a b
@[simp] theorem oAddB_bl (a : Bool) (j : Int) : oAddB (.bl a) (.int j) = some (.int (b2i a + j)) := id rfl
@[simp] theorem oAddB_int (i j : Int) : oAddB (.int i) (.int j) = some (.int (i + j)) := id rfl
@[simp] theorem oSubB_bl (a : Bool) (j : Int) : oSubB (.bl a) (.int j) = some (.int (b2i a - j)) := id rfl
@[simp] theorem oSubB_int (i j : Int) : oSubB (.int i) (.int j) = some (.int (i - j)) := id rfl
def rBI (g : Int → Int → Int) : R2 := fun x y H Q => ∃ a j, x = .bl a ∧ y = .int j ∧ Q (.int (g (b2i a) j)) H
theorem op_addBI {X : Cx} : OpR X (binaryOp .Add) (rBI fun i j => i + j) := by
  intro pins s σ H x y v u Q I rx ry h
  obtain ⟨a, j, rfl, rfl, q⟩ := h
  cases rx
  obtain ⟨t, rfl⟩ := ry
  exact IntBool.add_bool_int ⟨.int (b2i a + j), H, I.tok _, ⟨_, rfl⟩, q⟩
theorem op_subBI {X : Cx} : OpR X (binaryOp .Sub) (rBI fun i j => i - j) := by
  intro pins s σ H x y v u Q I rx ry h
  obtain ⟨a, j, rfl, rfl, q⟩ := h
  cases rx
  obtain ⟨t, rfl⟩ := ry
  exact IntBool.sub_bool_int ⟨.int (b2i a - j), H, I.tok _, ⟨_, rfl⟩, q⟩
theorem pu_addB {K : PySem.W.Frag} : Pure2 K (fun x y H Q => rAddA K x y H Q ∨ rBI (fun i j => i + j) x y H Q) oAddB := by
  intro P k H x y dx dy d Q hP rx ry e q
  unfold oAddB at e
  split at e
  · cases e
    cases rx
    cases ry
    exact .inr ⟨_, _, rfl, rfl, q _ H (Same.refl _) (.int _)⟩
  · exact .inl (pu_add P k H x y dx dy d Q hP rx ry e q)
theorem pu_subB {K : PySem.W.Frag} : Pure2 K (fun x y H Q => rI0 (fun i j => .int (i - j)) x y H Q ∨ rBI (fun i j => i - j) x y H Q) oSubB := by
  intro P k H x y dx dy d Q hP rx ry e q
  unfold oSubB at e
  split at e
  · cases e
    cases rx
    cases ry
    exact .inr ⟨_, _, rfl, rfl, q _ H (Same.refl _) (.int _)⟩
  · exact .inl (pu_sub P k H x y dx dy d Q hP rx ry e q)
/-! ### xs != (), whatever the items -/
def oNeT : D → D → Option D
  | .tup xs, .tup [] => some (.bl (!xs.isEmpty))
  | a, b => oNe a b
@[simp] theorem oNeT_nil (xs : List D) : oNeT (.tup xs) (.tup []) = some (.bl (!xs.isEmpty)) := by
  cases xs <;> rfl
def rNeT (K : PySem.W.Frag) : R2 := fun x y H Q => rNeD K x y H Q ∨ ∃ (a b : Addr) (xs : List V), x = .ref a ∧ y = .ref b ∧ SqT K H a xs ∧ SqT K H b [] ∧ Q (.bl (!xs.isEmpty)) H
theorem op_neT {X : Cx} (hu : X.A.units + 64 < cLine) : OpR X (compareOp .NotEq) (rNeT X.K) := by
  intro pins s σ H x y v u Q I rx ry h
  rcases h with h | ⟨a, b, xs, rfl, rfl, ha, hb, q⟩
  · exact op_neD hu _ _ _ _ _ _ _ _ _ I rx ry h
  cases rx
  cases ry
  obtain ⟨its, r1, p1, _⟩ := I.tuple ha
  obtain ⟨its2, r2, p2, _⟩ := I.tuple hb
  cases r2
  have R := SeqAt.RcNeAt.tuples (A := X.A) (s := s) (e := fun _ => true) (show s.heap.IsTuple a its.toArray from p1) (show s.heap.IsTuple b #[] from p2) (by omega) (fun j h1 h2 => absurd h2 (Nat.not_lt_zero j))
  have el := r1.length
  have e : (!((List.range (min its.toArray.size (#[] : Array Value).size)).all (fun _ => true) && its.toArray.size == (#[] : Array Value).size)) = !xs.isEmpty := by
    cases xs with
    | nil => cases r1; rfl
    | cons x0 xs0 => cases r1; rfl
  rw [e] at R
  have z : wpAny (model X.prog X.w) X.A (compareOp .NotEq (.ref a) (.ref b)) (EP X pins σ Q) X.xe s := R X.prog X.w X.xe (EP X pins σ Q) ⟨.bl _, H, I, rfl, q⟩
  exact z
theorem pu_neT {K : PySem.W.Frag} : Pure2 K (rNeT K) oNeT := by
  intro P k H x y dx dy d Q hP rx ry e q
  unfold oNeT at e
  split at e
  · rename_i xs
    cases e
    cases rx with
    | tup h1 h2 =>
      cases ry with
      | tup h3 h4 =>
        cases h4
        refine .inr ⟨_, _, _, rfl, rfl, h1.sq, h3.sq, ?_⟩
        have ee : ∀ {ds : List D} {vs : List V}, RepL K H P k ds vs → vs.isEmpty = ds.isEmpty := fun {ds vs} h => by
          cases h <;> rfl
        rw [ee h2]
        exact q _ H (Same.refl _) (.bl _)
  · exact .inl (pu_ne P k H x y dx dy d Q hP rx ry e q)
section
variable {X : Cx} {W : WY} {n : Nat} {a b : Expr} {φa φb : Env' → M D} {pos : Pos}
theorem dE_addB (ha : DE X W a φa) (hb : DE X W b φb) : DE X W (.BinOp a .Add b pos) (eOp oAddB φa φb) := dE_op (OpR.or op_addA op_addBI) pu_addB ha hb
theorem dE_subB (ha : DE X W a φa) (hb : DE X W b φb) : DE X W (.BinOp a .Sub b pos) (eOp oSubB φa φb) := dE_op (OpR.or op_sub op_subBI) pu_subB ha hb
theorem dE_neT (hr : Room n X.A) (ha : DE X W a φa) (hb : DE X W b φb) : DE X W (.Compare a [.NotEq] [b] pos) (eOp oNeT φa φb) := dE_cmp (op_neT (room64 hr)) pu_neT (nomark _) ha hb
theorem dT_neT (hr : Room n X.A) (ha : DE X W a φa) (hb : DE X W b φb) : DT X W (.Compare a [.NotEq] [b] pos) (eB (eOp oNeT φa φb)) := dT_cmp (op_neT (room64 hr)) pu_neT (nomark _) ha hb
end
end Den

set_option autoImplicit true
set_option Elab.async false
set_option linter.all false
set_option maxRecDepth 100000
set_option maxHeartbeats 2000000
set_option autoImplicit false
namespace Den
open PySem PySem.Spec PyProof.Rows L2
/-! ### helpers that call repr -/
section
variable {X : Cx} {CX : CXT} {k : Nat} {f C : Addr} {fd : FuncData} {ps : List Str} {sp : Sp} {E : St → XK} {x m : Str} {p pos apos : Pos} {e o : Expr} {es : List Expr} {ta : TE} {t : TA}
theorem run_fnG {pins : List (Addr × Obj)} {σ : St} {H : Hp} {s : Shared} {Q : VK} {us : List Value} {vs : List V} (F : FnG X.prog X.w X.K X.mg X.base CX k f fd ps sp) (hr : Room k X.A) (gd : X.A.guards = some []) (hb : Binds X.K fd ps []) (hx : PassesAt CX X σ (E σ))
    (I : Inv X pins σ H s) (r : Vals vs us) (h : sp vs H Q (E σ)) : wpAny (model X.prog X.w) X.A (call (.ref f) us) (EP X pins σ Q) X.xe s := by
  have hl : us.length = ps.length := by rw [← r.length]; exact F.ln _ _ _ _ h
  have b := hb s us I.kIn (by rw [List.append_nil]; exact hl)
  rw [List.append_nil] at b
  refine wpAny_call (codeAny_mono (F.go X.A X.stack s H ⟨us, []⟩ us vs Q (E σ) hr gd I.env0 b r h) fun r s' hq => ?_)
  cases r with
  | error e => exact hx pins H s e s' I hq
  | ok fl =>
    cases fl with
    | ret u => exact I.after hq
    | next => exact False.elim hq
    | brk => exact False.elim hq
    | cont => exact False.elim hq
theorem pe_callG (F : FnG X.prog X.w X.K X.mg X.base CX k f fd ps sp) (hr : Room k X.A) (gd : X.A.guards = some []) (hg : Gl X x) (hm : X.mg x = some (.ref f)) (hk : PySem.W.keepIn X.K (.ref f) = true) (hb : Binds X.K fd ps []) (hx : ∀ σ, PassesAt CX X σ (E σ))
    (ha : PA X (e :: es) t) (hdb : (x == ("__debug__" : Str)) = false := by decide) (he : starEach (e :: es) X.env = (false, eval e X.env) :: starEach es X.env := by rfl) (hpl : (backTo pos (starEach es X.env)).any (·.1) = false := by rfl) :
    PE X (.Call (.Name x p) (e :: es) [] pos) (tCallS sp E t) := by
  refine ⟨fun pins s σ H Q I h => ?_⟩
  refine wpAny_Call_Name_kw (ld_glob I hg hm ?_ hdb)
  refine PySem.W.callWith_K (h₀ := X.base) I.ok.mod.kin hk (thn (ha.run pos pins s σ H _ I h) fun us s1 ⟨vs, H1, I1, r, q⟩ => ⟨I1.kIn, ?_⟩) he hpl
  exact run_fnG F hr gd hb (hx σ) I1 r q
end
structure OkG (P : Program) (w : World) (K : PySem.W.Frag) (mg : Str → Option Value) (base : Heap) (x : Str) (ar k : Nat) (φ : List D → M D) : Prop where
  ex : ∃ (a : Addr) (fd : FuncData) (ps : List Str), mg x = some (.ref a) ∧ PySem.W.keepIn K (.ref a) = true ∧ Binds K fd ps [] ∧ FnG P w K mg base (L2N.CX P w) k a fd ps (spD K mg ar φ)
theorem dE_g {X : Cx} {W : WY} {e : Expr} {es : List Expr} {χ : Env' → M (List D)} {ar k j : Nat} {φ : List D → M D} {x : Str} {p pos : Pos} (O : OkG X.prog X.w X.K X.mg X.base x ar k φ) (gd : X.A.guards = some []) (hr : Room j X.A) (tk : L2N.Takes X W.w) (ha : DA X W (e :: es) χ)
    (hk : k ≤ j := by decide) (hx : W.ex = none := by rfl) (hg : Gl X x := by rfl) (hdb : (x == ("__debug__" : Str)) = false := by decide)
    (he : starEach (e :: es) X.env = (false, eval e X.env) :: starEach es X.env := by rfl) (hpl : (backTo pos (starEach es X.env)).any (·.1) = false := by rfl) : DE X W (.Call (.Name x p) (e :: es) [] pos) (eCall ar φ χ) := by
  obtain ⟨a, fd, ps, hm, hkp, hb, F⟩ := O.ex
  have hr := hr.mono hk
  obtain ⟨w, wex⟩ := W
  have hx : wex = none := hx
  subst hx
  refine PE.imp (pe_callG F hr gd hg hm hkp hb (fun σ => L2N.passAt tk σ) ha hdb he hpl) fun σ H Q ⟨g, n, env, Qd, Ed, R0, p, q, r⟩ => ?_
  refine ⟨g, n, env, _, _, R0, p, fun ds n' vs H' hd hr hf hk => ?_, r⟩
  have R1 := R0.frm hf hk
  have hd0 : (if ds.length = ar then φ ds else fail) n' Qd Ed := hd
  by_cases hl : ds.length = ar
  case neg =>
    rw [if_neg hl] at hd0
    exact hd0.elim
  rw [if_pos hl] at hd0
  refine ⟨g.k, pv g env σ, n', ds, Qd, Ed, hl, R1.there, fun a z => .inl (R0.kp a z), hk, hr, hd0, fun d n2 v H2 h1 h2 h3 h4 => q d n2 v H2 h1 h2 (hf.trans h3) h4, fun x n2 cls dd H2 h1 h2 h3 h4 => r x n2 cls dd H2 h1 h2 (hf.trans h3) h4⟩
theorem fn_okG {P : Program} {w : World} {K : PySem.W.Frag} {mg : Str → Option Value} {base : Heap} {x qual : Str} {params : Arguments} {body : List Stmt} {scope : Scope} {dvs : List V} {kws : List (Str × V)} {f : Addr} {fd : FuncData} {N ps : List Str} {k : Nat} {φ : Env' → MS}
    (F : FunD K x qual params body scope dvs kws f fd) (S : FnScope N ps scope)
    (hb : ∀ (cdv : Value) (A : Around) (outer : List Env) (s : Shared) (H : Hp) (E : XK), Room k (A.deeper (envOfC qual scope s.heap.objs.size f cdv)) → A.guards = some [] →
      DSs (cxOf (L2N.CX P w) P w K mg base N qual scope f cdv A outer s H E) ⟨fun cls d _ H' => E cls d H', none⟩ body φ) :
    FnG P w K mg base (L2N.CX P w) (k + 1) f fd ps (spD K mg ps.length (fnD N.length φ)) := by
  refine FnG.mk' F S (fun vs H Q E ⟨_, _, _, ds, _, _, hl, _, _, _, r, _⟩ => by rw [r.len, hl]) fun cdv A outer s H vs Q E hr gd ⟨k, P0, n, ds, Qd, Ed, hl, hP, hk, dk, r, p, q, q2⟩ => ?_
  have no : ∀ a, ¬ ow (startE N.length ds) (L2.start N vs) a := fun a ⟨i, es, h1, _⟩ => by
    obtain ⟨_, _, e1, _, _, _⟩ := (rlStart (N := N) hP hk dk r).own i es h1
    unfold startE at h1
    rw [List.getElem?_append] at h1
    split at h1
    · rw [List.getElem?_map] at h1
      cases z : ds[i]? with
      | none => rw [z] at h1; cases h1
      | some d => rw [z] at h1; cases h1
    · rw [List.getElem?_replicate] at h1
      split at h1 <;> cases h1
  refine ⟨_, hb cdv A outer s H E hr gd, ⟨k, P0⟩, n, startE N.length ds, _, _, rlStart hP hk dk r, p, ⟨fun e n' σ' H' h R' st => ?_, fun e n' σ' H' h R' st => h.elim, fun e n' σ' H' h R' st => h.elim, fun d e n' v H' h rv f dk' => ?_, fun x e n' σ' H' cls dd h R' hx st => ?_⟩⟩
  · exact q .non n' .non H' h .non (fun a o h1 h2 => st.keep a o h1 h2 (no a)) R'.dk
  · exact q d n' v H' h rv (fun a o h1 h2 => f a o h1 h2 (no a)) dk'
  · refine q2 x n' cls dd H' h ?_ (fun a o h1 h2 => st.keep a o h1 h2 (no a)) R'.dk
    obtain ⟨C, e1, e2, e3⟩ := hx
    refine ⟨C, e1, e2, ?_⟩
    cases hf : x.fld with
    | none => rw [hf] at e3; exact e3
    | some fp =>
      obtain ⟨fn, d⟩ := fp
      rw [hf] at e3
      obtain ⟨a, v, h1, h2, h3, h4⟩ := e3
      exact ⟨a, v, h1, h2, fun z => h3 (.inl z), h4.to ⟨fun _ _ h _ => h, fun b z => .inl (.inl z)⟩⟩
theorem okG_mk {P : Program} {w : World} {K : PySem.W.Frag} {mg : Str → Option Value} {base : Heap} {x qual : Str} {params : Arguments} {body : List Stmt} {scope : Scope} {kws : List (Str × V)} {f : Addr} {fd : FuncData} {N ps : List Str} {k : Nat} {φ : Env' → MS}
    (F : FunD K x qual params body scope [] kws f fd) (hm : mg x = some (.ref f)) (S : FnScope N ps scope)
    (hbi : ∀ (kV doc pm : Value) (an : Option Addr) (cdv ct : Value) (us : List Value), us.length = ps.length → bindArgs (PySem.W.fnOf x qual params body scope .none kV doc pm an cdv ct) ⟨us, []⟩ = pure (ps.zip us))
    (hb : ∀ (cdv : Value) (A : Around) (outer : List Env) (s : Shared) (H : Hp) (E : XK), Room k (A.deeper (envOfC qual scope s.heap.objs.size f cdv)) → A.guards = some [] →
      DSs (cxOf (L2N.CX P w) P w K mg base N qual scope f cdv A outer s H E) ⟨fun cls d _ H' => E cls d H', none⟩ body φ) :
    OkG P w K mg base x ps.length (k + 1) (fnD N.length φ) := ⟨f, fd, ps, hm, F.kp, F.bindsN hbi, fn_okG F S hb⟩
end Den

set_option autoImplicit true
set_option Elab.async false
set_option linter.all false
set_option maxRecDepth 100000
set_option maxHeartbeats 2000000
set_option autoImplicit false
namespace Den
open PySem PySem.Spec PyProof.Rows L2

/-! ### reading what a def does with data -/
def done (r : R) : MS := fun n Q _ => Q r n
def failS : MS := fun _ _ _ => False
def liftS {α : Type} (env : Env') (m : M α) (f : α → MS) : MS := fun n Q E => m n (fun a n' => f a n' Q E) (fun x n' => E x env n')
def bndR (m : MS) (f : R → MS) : MS := fun n Q E => m n (fun r n' => f r n' Q E) E
def optS {α : Type} (o : Option α) (f : α → MS) : MS := match o with
  | some a => f a
  | none => failS
def unR (m : MS) : M D := fun n Q E => m n (fun r n' => match r with
  | (.nx, _) => Q .non n'
  | (.rt d, _) => Q d n'
  | _ => False) (fun x _ n' => E x n')
def seqK (ψ : Env' → MS) : R → MS
  | (.nx, e) => ψ e
  | (.bk, e) => done (.bk, e)
  | (.ct, e) => done (.ct, e)
  | (.rt d, e) => done (.rt d, e)
def loopK (f : Env' → MS) : R → MS
  | (.nx, e) => f e
  | (.ct, e) => f e
  | (.bk, e) => done (.nx, e)
  | (.rt d, e) => done (.rt d, e)
section
variable {α β : Type} {env e : Env'} {d x : D} {ds xs : List D}
@[simp] theorem liftS_ret (a : α) (f : α → MS) : liftS env (ret a) f = f a := id rfl
@[simp] theorem liftS_fail (f : α → MS) : liftS env fail f = failS := id rfl
@[simp] theorem bndR_done (r : R) (f : R → MS) : bndR (done r) f = f r := id rfl
@[simp] theorem optS_some (a : α) (f : α → MS) : optS (some a) f = f a := id rfl
@[simp] theorem unR_rt : unR (done (.rt d, e)) = ret d := id rfl
@[simp] theorem unR_nx : unR (done (.nx, e)) = ret .non := id rfl
@[simp] theorem seqK_nx (ψ : Env' → MS) : seqK ψ (.nx, e) = ψ e := id rfl
@[simp] theorem seqK_rt (ψ : Env' → MS) : seqK ψ (.rt d, e) = done (.rt d, e) := id rfl
@[simp] theorem seqK_ct (ψ : Env' → MS) : seqK ψ (.ct, e) = done (.ct, e) := id rfl
@[simp] theorem seqK_bk (ψ : Env' → MS) : seqK ψ (.bk, e) = done (.bk, e) := id rfl
@[simp] theorem loopK_nx (ψ : Env' → MS) : loopK ψ (.nx, e) = ψ e := id rfl
@[simp] theorem loopK_rt (ψ : Env' → MS) : loopK ψ (.rt d, e) = done (.rt d, e) := id rfl
@[simp] theorem loopK_ct (ψ : Env' → MS) : loopK ψ (.ct, e) = ψ e := id rfl
@[simp] theorem loopK_bk (ψ : Env' → MS) : loopK ψ (.bk, e) = done (.nx, e) := id rfl
@[simp] theorem bnd_ret' (a : α) (f : α → M β) : bnd (ret a) f = f a := id rfl
@[simp] theorem bnd_fail' (f : α → M β) : bnd (fail : M α) f = fail := id rfl
@[simp] theorem opt_some' (a : α) : opt (some a) = ret a := id rfl
@[simp] theorem opt_none' : (opt none : M α) = fail := id rfl
@[simp] theorem noex_ret' (a : α) : noex (ret a) = ret a := id rfl
@[simp] theorem toB_bl (b : Bool) : toB (.bl b) = ret b := id rfl
-- statements
@[simp] theorem sRet_e (a : Env' → M D) : sRet a env = liftS env (a env) fun d => done (.rt d, env) := id rfl
@[simp] theorem sRetN_e : sRetN env = done (.rt .non, env) := id rfl
@[simp] theorem sNext_e : sNext env = done (.nx, env) := id rfl
@[simp] theorem sNever_e : sNever env = failS := id rfl
@[simp] theorem sCont_e : sCont env = done (.ct, env) := id rfl
@[simp] theorem sBreak_e : sBreak env = done (.bk, env) := id rfl
@[simp] theorem sExpr_e (a : Env' → M D) : sExpr a env = liftS env (a env) fun _ => done (.nx, env) := id rfl
@[simp] theorem sSeq_e (φ ψ : Env' → MS) : sSeq φ ψ env = bndR (φ env) (seqK ψ) := by
  funext n Q E
  show φ env n _ E = φ env n _ E
  congr 1
  funext r n'
  obtain ⟨f, e⟩ := r
  cases f <;> rfl
@[simp] theorem sIf_e (t : Env' → M Bool) (φ ψ : Env' → MS) : sIf t φ ψ env = liftS env (t env) fun b => if b = true then φ env else ψ env := by
  funext n Q E
  show t env n _ _ = t env n _ _
  congr 1
  funext b n'
  cases b <;> rfl
theorem wh_opt {α : Type} (o : Option α) (f : α → MS) (n : Nat) (Q : R → Nat → Prop) (E : Exc → Env' → Nat → Prop) : (wh o fun e => f e n Q E) = optS o f n Q E := by
  cases o <;> rfl
theorem ite_ms (c : Prop) [Decidable c] (m : MS) (n : Nat) (Q : R → Nat → Prop) (E : Exc → Env' → Nat → Prop) : (c ∧ m n Q E) = (if c then m else failS) n Q E := by
  by_cases h : c
  · rw [if_pos h]; simp [h]
  · rw [if_neg h]; simp [h, failS]
@[simp] theorem sAsg_e (a : Env' → M D) (t : Tg) : sAsg a t env = liftS env (a env) fun d => optS (asg t d env) fun e => done (.nx, e) := by
  funext n Q E
  show a env n _ _ = a env n _ _
  congr 1
  funext d n'
  exact wh_opt (asg t d env) (fun e => done (.nx, e)) n' Q E
@[simp] theorem sFor_e (it : Env' → M (List D)) (t : Tg) (body : Env' → MS) : sFor it t body env = liftS env (it env) fun ds => loopF t body ds env := id rfl
@[simp] theorem loopF_nil (t : Tg) (body : Env' → MS) : loopF t body [] env = done (.nx, env) := id rfl
@[simp] theorem loopF_cons (t : Tg) (body : Env' → MS) : loopF t body (x :: xs) env = optS (asg t x env) fun e1 => bndR (body e1) (loopK (loopF t body xs)) := by
  funext n Q E
  simp only [loopF]
  cases asg t x env with
  | none => rfl
  | some e1 =>
    show body e1 n _ E = body e1 n _ E
    congr 1
    funext r n'
    obtain ⟨f, e⟩ := r
    cases f <;> rfl
@[simp] theorem sPar_e (i j : Nat) (a : Env' → M (List D)) : sPar i j a env = liftS env (a env) fun ds => match ds with
    | [x, y] => if i < env.length ∧ j < env.length then done (.nx, (env.set i (.sh x)).set j (.sh y)) else failS
    | _ => failS := by
  funext n Q E
  show a env n _ _ = a env n _ _
  congr 1
  funext ds n'
  match ds with
  | [x, y] =>
    show (i < env.length ∧ j < env.length ∧ done (.nx, (env.set i (.sh x)).set j (.sh y)) n' Q E) = _
    rw [← and_assoc]
    exact ite_ms _ (done (.nx, (env.set i (.sh x)).set j (.sh y))) n' Q E
  | [] => rfl
  | [_] => rfl
  | _ :: _ :: _ :: _ => rfl
@[simp] theorem sOwn_e (i : Nat) (a : Env' → M (List D)) : sOwn i a env = liftS env (a env) fun ds => if i < env.length then done (.nx, env.set i (.own ds)) else failS := by
  funext n Q E
  show a env n _ _ = a env n _ _
  congr 1
  funext ds n'
  exact ite_ms _ (done (.nx, env.set i (.own ds))) n' Q E
@[simp] theorem sApp_e (i : Nat) (a : Env' → M D) (h : env[i]? = some (.own ds)) (hl : ds.length < big) : sApp i a env = liftS env (a env) fun d => done (.nx, env.set i (.own (ds ++ [d]))) := by
  funext n Q E
  simp only [sApp, withO, h, hl, true_and, liftS, done]
@[simp] theorem sExt_e (i : Nat) (a : Env' → M D) (h : env[i]? = some (.own ds)) : sExt i a env = liftS env (a env) fun d => optS (lstOf d) fun es => if ds.length + es.length ≤ big then done (.nx, env.set i (.own (ds ++ es))) else failS := by
  funext n Q E
  simp only [sExt, withO, h, liftS]
  congr 1
  funext d n'
  rw [← wh_opt]
  congr 1
  funext es
  exact ite_ms _ (done (.nx, env.set i (.own (ds ++ es)))) n' Q E
@[simp] theorem sSet_e (i : Nat) (b a : Env' → M D) (h : env[i]? = some (.own ds)) : sSet i b a env = liftS env (a env) fun d => liftS env (b env) fun j => optS (setD ds j d) fun es => done (.nx, env.set i (.own es)) := by
  funext n Q E
  simp only [sSet, withO, h, liftS]
  congr 1
  funext d n'
  congr 1
  funext j n2
  exact wh_opt (setD ds j d) (fun es => done (.nx, env.set i (.own es))) n2 Q E
@[simp] theorem sFrz_e (i : Nat) (φ : Env' → MS) : sFrz i φ env = φ (frz i env) := id rfl
@[simp] theorem fnD_e (N : Nat) (body : Env' → MS) : fnD N body ds = unR (body (startE N ds)) := id rfl
-- expressions
@[simp] theorem eCall_e (ar : Nat) (φ : List D → M D) (as : Env' → M (List D)) : eCall ar φ as env = bnd (as env) fun ds => if ds.length = ar then φ ds else fail := id rfl
@[simp] theorem eCallB_e (o : List D → Option D) (as : Env' → M (List D)) : eCallB o as env = bnd (as env) fun xs => opt (o xs) := id rfl
@[simp] theorem aCons_e (a : Env' → M D) (r : Env' → M (List D)) : aCons a r env = bnd (a env) fun x => bnd (r env) fun xs => ret (x :: xs) := id rfl
@[simp] theorem aNil_e : aNil env = ret [] := id rfl
@[simp] theorem eC_e : eC d env = ret d := id rfl
@[simp] theorem eOp_e (o : D → D → Option D) (a b : Env' → M D) : eOp o a b env = bnd (a env) fun x => bnd (b env) fun y => opt (o x y) := id rfl
@[simp] theorem eUn_e (o : D → Option D) (a : Env' → M D) : eUn o a env = bnd (a env) fun x => opt (o x) := id rfl
@[simp] theorem eTup_e (as : Env' → M (List D)) : eTup as env = bnd (as env) fun xs => opt (mkT .tup xs) := id rfl
@[simp] theorem eLst_e (as : Env' → M (List D)) : eLst as env = bnd (as env) fun xs => opt (mkT .lst xs) := id rfl
@[simp] theorem eB_e (φ : Env' → M D) : eB φ env = bnd (φ env) toB := id rfl
@[simp] theorem eNotT_e (t : Env' → M Bool) : eNotT t env = bnd (t env) fun k => ret (!k) := id rfl
@[simp] theorem eAndT_e (t u : Env' → M Bool) : eAndT t u env = bnd (t env) fun k => if k = true then u env else ret false := id rfl
@[simp] theorem eOrT_e (t u : Env' → M Bool) : eOrT t u env = bnd (t env) fun k => if k = true then ret true else u env := id rfl
@[simp] theorem eAnd_e (t u : Env' → M D) : eAnd t u env = bnd (t env) fun x => bnd (toB x) fun k => if k = true then u env else ret (.bl false) := id rfl
@[simp] theorem eOr_e (t u : Env' → M D) : eOr t u env = bnd (t env) fun x => bnd (toB x) fun k => if k = true then ret (.bl true) else u env := id rfl
@[simp] theorem eNot_e (t : Env' → M D) : eNot t env = bnd (t env) fun x => bnd (toB x) fun k => ret (.bl (!k)) := id rfl
@[simp] theorem eIf_e (t : Env' → M Bool) (a b : Env' → M D) : eIf t a b env = bnd (t env) fun k => if k = true then a env else b env := id rfl
@[simp] theorem eChain_e (o o' : D → D → Option D) (a b c : Env' → M D) : eChain o o' a b c env = bnd (a env) fun x => bnd (b env) fun y => bnd (opt (o x y)) fun z => bnd (toB z) fun k =>
  if k = true then bnd (c env) fun w => opt (o' y w) else ret (.bl false) := rfl
@[simp] theorem toLst_e (φ : Env' → M (List D)) : toLst φ env = bnd (φ env) fun ys => ret (.lst ys) := id rfl
@[simp] theorem iAs_e (f : List D → Option (List D)) (as : Env' → M (List D)) : iAs f as env = bnd (as env) fun xs => opt (f xs) := id rfl
@[simp] theorem iEl_e (a : Env' → M D) : iEl a env = bnd (a env) fun x => opt (itL x) := id rfl
@[simp] theorem eLcL_e (it : Env' → M (List D)) (t : Tg) (tst : Env' → M Bool) (elt : Env' → M D) (vs : List Nat) : eLcL it t tst elt vs env = bnd (it env) fun items =>
  if okW env vs = true ∧ items.length ≤ big then noex (compF t tst elt (wipeE env vs) items) else fail := rfl
@[simp] theorem eSl_e (a : Env' → M D) (lo hi : Env' → M (Option Int)) : eSl a lo hi env = bnd (a env) fun x => bnd (lo env) fun l => bnd (hi env) fun h => opt (slD x l h) := id rfl
@[simp] theorem ePart_e (a : Env' → M D) : ePart a env = bnd (a env) fun x => opt (optI (some x)) := id rfl
@[simp] theorem eNoPart_e : eNoPart env = ret none := id rfl
@[simp] theorem fLst_e (as : Env' → M (List D)) : fLst as env = bnd (as env) fun xs => if xs.length ≤ big then ret xs else fail := id rfl
@[simp] theorem fList_e (a : Env' → M D) : fList a env = bnd (a env) fun x => opt (itL x) := id rfl
-- slots
@[simp] theorem eVar_0 {r : Env'} : eVar 0 (.sh d :: r) = ret d := id rfl
@[simp] theorem eVar_s {i : Nat} {a : Slot} {r : Env'} : eVar (i + 1) (a :: r) = eVar i r := id rfl
@[simp] theorem cYes_e : cYes env = ret true := id rfl
end

/-! ### comprehensions -/
theorem compF_map {α : Type} {t : Tg} {elt : Env' → M D} {env : Env'} (enc g : α → D) : ∀ (ys : List α), (∀ y ∈ ys, ∃ e1, asg t (enc y) env = some e1 ∧ elt e1 = ret (g y)) → compF t cYes elt env (ys.map enc) = ret (ys.map g)
  | [], _ => rfl
  | y :: ys, h => by
    obtain ⟨e1, h1, h2⟩ := h y (by simp)
    have ih := compF_map (t := t) (elt := elt) (env := env) enc g ys fun z hz => h z (by simp [hz])
    simp only [List.map_cons, compF, h1, opt_some', bnd_ret', cYes_e, h2, ih, if_true]
theorem compF_filter {α : Type} {t : Tg} {tst : Env' → M Bool} {elt : Env' → M D} {env : Env'} (enc g : α → D) (p : α → Bool) : ∀ (ys : List α), (∀ y ∈ ys, ∃ e1, asg t (enc y) env = some e1 ∧ tst e1 = ret (p y) ∧ (p y = true → elt e1 = ret (g y))) → compF t tst elt env (ys.map enc) = ret ((ys.filter p).map g)
  | [], _ => rfl
  | y :: ys, h => by
    obtain ⟨e1, h1, h2, h3⟩ := h y (by simp)
    have ih := compF_filter (t := t) (tst := tst) (elt := elt) (env := env) enc g p ys fun z hz => h z (by simp [hz])
    simp only [List.map_cons, compF, h1, opt_some', bnd_ret', h2, ih]
    cases hp : p y with
    | true => simp [h3 hp, hp]
    | false => simp [hp]

/-! ### what is drawn -/
/-- m gives something in S, raises nothing, by at most c draws -/
structure Gv {α : Type} (m : M α) (c : Nat) (S : α → Prop) : Prop where
  run : ∀ n Q E, n + c < 2 ^ 60 → (∀ d n', S d → n ≤ n' → n' ≤ n + c → Q d n') → m n Q E
section
variable {α β : Type}
theorem Gv.ret {S : α → Prop} {a : α} (h : S a) : Gv (Den.ret a) 0 S := ⟨fun n Q E _ k => k a n h (Nat.le_refl _) (Nat.le_refl _)⟩
theorem Gv.pure {S : α → Prop} {m : M α} {a : α} (e : m = Den.ret a) (h : S a) : Gv m 0 S := by subst e; exact Gv.ret h
theorem Gv.bnd {m : M α} {f : α → M β} {c c' : Nat} {S : α → Prop} {S' : β → Prop} (h : Gv m c S) (h' : ∀ a, S a → Gv (f a) c' S') : Gv (Den.bnd m f) (c + c') S' := ⟨fun n Q E hn k =>
  h.run n _ E (by omega) fun a n1 ha h1 h2 => (h' a ha).run n1 Q E (by omega) fun b n2 hb h3 h4 => k b n2 hb (by omega) (by omega)⟩
theorem Gv.mono {m : M α} {c c' : Nat} {S S' : α → Prop} (h : Gv m c S) (hc : c ≤ c') (hS : ∀ a, S a → S' a) : Gv m c' S' := ⟨fun n Q E hn k => h.run n Q E (by omega) fun a n1 ha h1 h2 => k a n1 (hS a ha) h1 (by omega)⟩
theorem Gv.noex {m : M α} {c : Nat} {S : α → Prop} (h : Gv m c S) : Gv (Den.noex m) c S := ⟨fun n Q E hn k => h.run n Q _ hn k⟩
theorem Gv.draw {many : Int} (h : 0 < many) (h9 : many.natAbs.log2 < 9000) : Gv (Den.draw many) 1 (fun d => ∃ r : Int, d = .int r ∧ 0 ≤ r ∧ r < many) := ⟨fun n Q E hn k => ⟨h, h9, by omega, fun r h0 h1 => k _ _ ⟨r, rfl, h0, h1⟩ (by omega) (by omega)⟩⟩
/-- a comprehension whose turns draw -/
theorem Gv.comp {t : Tg} {elt : Env' → M D} {env : Env'} {c : Nat} {S : D → D → Prop} : ∀ (items : List D), (∀ y ∈ items, ∃ e1, asg t y env = some e1 ∧ Gv (elt e1) c (S y)) →
    Gv (compF t cYes elt env items) (items.length * c) (fun ys => ys.length = items.length ∧ ∀ (i : Nat) (y z : D), items[i]? = some y → ys[i]? = some z → S y z)
  | [], _ => by
    simp only [List.length_nil, Nat.zero_mul]
    exact Gv.ret ⟨rfl, by simp⟩
  | y :: items, h => by
    obtain ⟨e1, h1, h2⟩ := h y (by simp)
    have ih := Gv.comp (S := S) (t := t) (elt := elt) (env := env) (c := c) items fun z hz => h z (by simp [hz])
    have e : (y :: items).length * c = c + (items.length * c + 0) := by simp [Nat.succ_mul]; omega
    rw [e]
    simp only [compF, h1, opt_some', bnd_ret', cYes_e, if_true]
    refine Gv.bnd h2 fun z hz => Gv.bnd ih fun ys ⟨hl, hy⟩ => Gv.ret ⟨by simp [hl], fun i a b ha hb => ?_⟩
    cases i with
    | zero =>
      simp at ha hb
      subst ha hb
      exact hz
    | succ i => exact hy i a b (by simpa using ha) (by simpa using hb)
end
/-- a block of statements goes on, by at most c draws -/
structure GvS (m : MS) (c : Nat) (S : R → Prop) : Prop where
  run : ∀ n Q E, n + c < 2 ^ 60 → (∀ r n', S r → n ≤ n' → n' ≤ n + c → Q r n') → m n Q E
section
variable {α : Type} {env : Env'}
theorem GvS.done {S : R → Prop} {r : R} (h : S r) : GvS (Den.done r) 0 S := ⟨fun n Q E _ k => k r n h (Nat.le_refl _) (Nat.le_refl _)⟩
theorem GvS.mono {m : MS} {c c' : Nat} {S S' : R → Prop} (h : GvS m c S) (hc : c ≤ c') (hS : ∀ a, S a → S' a) : GvS m c' S' := ⟨fun n Q E hn k => h.run n Q E (by omega) fun a n1 ha h1 h2 => k a n1 (hS a ha) h1 (by omega)⟩
theorem GvS.lift {m : M α} {f : α → MS} {c c' : Nat} {S : α → Prop} {S' : R → Prop} (h : Gv m c S) (h' : ∀ a, S a → GvS (f a) c' S') : GvS (liftS env m f) (c + c') S' := ⟨fun n Q E hn k =>
  h.run n _ _ (by omega) fun a n1 ha h1 h2 => (h' a ha).run n1 Q E (by omega) fun b n2 hb h3 h4 => k b n2 hb (by omega) (by omega)⟩
theorem GvS.bnd {m : MS} {f : R → MS} {c c' : Nat} {S S' : R → Prop} (h : GvS m c S) (h' : ∀ a, S a → GvS (f a) c' S') : GvS (bndR m f) (c + c') S' := ⟨fun n Q E hn k =>
  h.run n _ E (by omega) fun a n1 ha h1 h2 => (h' a ha).run n1 Q E (by omega) fun b n2 hb h3 h4 => k b n2 hb (by omega) (by omega)⟩
theorem GvS.un {m : MS} {c : Nat} {S : R → Prop} {S' : D → Prop} (h : GvS m c S) (h' : ∀ r, S r → (∃ e, r = (.nx, e) ∧ S' .non) ∨ ∃ d e, r = (.rt d, e) ∧ S' d) : Gv (unR m) c S' := ⟨fun n Q E hn k =>
  h.run n _ _ hn fun r n1 hr h1 h2 => by
    rcases h' r hr with ⟨e, rfl, hs⟩ | ⟨d, e, rfl, hs⟩
    · exact k _ n1 hs h1 h2
    · exact k _ n1 hs h1 h2⟩
/-- a loop whose turns all go on and keep I -/
theorem GvS.loop {t : Tg} {body : Env' → MS} {c : Nat} (I : Env' → Prop) : ∀ (xs : List D) (env : Env'), I env → (∀ x ∈ xs, ∀ env, I env → ∃ e1, asg t x env = some e1 ∧ GvS (body e1) c (fun r => ∃ e, r = (.nx, e) ∧ I e)) → GvS (loopF t body xs env) (xs.length * c) (fun r => ∃ e, r = (.nx, e) ∧ I e)
  | [], env, hi, _ => by
    simp only [List.length_nil, Nat.zero_mul]
    rw [loopF_nil]
    exact GvS.done ⟨env, rfl, hi⟩
  | x :: xs, env, hi, h => by
    obtain ⟨e1, h1, h2⟩ := h x (by simp) env hi
    rw [loopF_cons, h1, optS_some]
    have e : (x :: xs).length * c = c + xs.length * c := by simp [Nat.succ_mul]; omega
    rw [e]
    refine GvS.bnd h2 fun r ⟨e2, hr, hi2⟩ => ?_
    subst hr
    exact GvS.loop I xs e2 hi2 fun y hy => h y (by simp [hy])
/-- the law gives True -/
theorem gives_of {N c : Nat} {φ : Env' → MS} (hc : c < 2 ^ 60) (h : GvS (φ ([.un, .sh .dk] ++ List.replicate N .un)) c (fun r => r.1 = .rt (.bl true))) : Gives N φ := h.run 0 _ _ (by omega) fun r n' hr _ _ => hr
end
end Den

set_option autoImplicit true
set_option Elab.async false
set_option linter.all false
set_option maxRecDepth 100000
set_option maxHeartbeats 2000000
set_option autoImplicit false
namespace Den
open PySem PySem.Spec PyProof.Rows L2

/-! ### more slots filled do no harm -/
def Sle (s t : Slot) : Prop := s = t ∨ (s = .un ∧ ∃ d, t = .sh d)
theorem Sle.refl (s : Slot) : Sle s s := .inl rfl
theorem Sle.trans {s t u : Slot} (h : Sle s t) (k : Sle t u) : Sle s u := by
  rcases h with rfl | ⟨rfl, d, rfl⟩
  · exact k
  · rcases k with rfl | ⟨z, _⟩
    · exact .inr ⟨rfl, d, rfl⟩
    · cases z
inductive Ele : Env' → Env' → Prop
  | nil : Ele [] []
  | cons {s t : Slot} {e f : Env'} : Sle s t → Ele e f → Ele (s :: e) (t :: f)
theorem Ele.refl : ∀ e : Env', Ele e e
  | [] => .nil
  | s :: e => .cons (.refl s) (Ele.refl e)
theorem Ele.trans {e f g : Env'} (h : Ele e f) (k : Ele f g) : Ele e g := by
  induction h generalizing g with
  | nil => exact k
  | cons a b ih =>
    cases k with
    | cons c d => exact .cons (a.trans c) (ih d)
theorem Ele.len {e f : Env'} (h : Ele e f) : f.length = e.length := by
  induction h with
  | nil => rfl
  | cons a b ih => simp [ih]
theorem Ele.get {e f : Env'} (h : Ele e f) : ∀ {i : Nat} {s : Slot}, e[i]? = some s → ∃ t, f[i]? = some t ∧ Sle s t := by
  induction h with
  | nil => intro i s h; simp at h
  | cons a b ih =>
    intro i s h
    cases i with
    | zero => simp at h; subst h; exact ⟨_, rfl, a⟩
    | succ i => exact ih (by simpa using h)
theorem Ele.set {e f : Env'} (h : Ele e f) (i : Nat) {s t : Slot} (k : Sle s t) : Ele (e.set i s) (f.set i t) := by
  induction h generalizing i with
  | nil => exact .nil
  | cons a b ih =>
    cases i with
    | zero => exact .cons k b
    | succ i => exact .cons a (ih i)
theorem Ele.wipe {e f : Env'} (h : Ele e f) : ∀ vs : List Nat, Ele (wipeE e vs) (wipeE f vs)
  | [] => h
  | v :: vs => (h.wipe vs).set v (.refl _)
theorem Ele.okW {e f : Env'} (h : Ele e f) : ∀ vs : List Nat, Den.okW e vs = true → Den.okW f vs = true
  | [], _ => rfl
  | v :: vs, q => by
    unfold Den.okW at q ⊢
    rw [Bool.and_eq_true] at q ⊢
    refine ⟨?_, h.okW vs q.2⟩
    have q1 := q.1
    cases he : e[v]? with
    | none =>
      have hl : e.length ≤ v := List.getElem?_eq_none_iff.mp he
      rw [List.getElem?_eq_none (by rw [h.len]; exact hl)]
    | some s =>
      obtain ⟨t, ht, hs⟩ := h.get he
      rw [ht]
      rw [he] at q1
      rcases hs with rfl | ⟨rfl, d, rfl⟩
      · exact q1
      · rfl
theorem Ele.frz {e f : Env'} (h : Ele e f) (i : Nat) : Ele (Den.frz i e) (Den.frz i f) := by
  unfold Den.frz
  cases he : e[i]? with
  | none =>
    have hl : e.length ≤ i := List.getElem?_eq_none_iff.mp he
    rw [List.getElem?_eq_none (by rw [h.len]; exact hl)]
    exact h
  | some s =>
    obtain ⟨t, ht, hs⟩ := h.get he
    rw [ht]
    rcases hs with rfl | ⟨rfl, d, rfl⟩
    · cases s with
      | own ds => exact h.set i (.refl _)
      | _ => exact h
    · exact h
mutual
theorem asg_mono : ∀ (t : Tg) (d : D) {e f e1 : Env'}, Ele e f → asg t d e = some e1 → ∃ f1, asg t d f = some f1 ∧ Ele e1 f1
  | .nm i, d, e, f, e1, h, q => by
    simp only [asg] at q ⊢
    split at q
    · rename_i hi
      cases q
      exact ⟨_, by rw [if_pos (by rw [h.len]; exact hi)], h.set i (.refl _)⟩
    · cases q
  | .tp ts, .tup ds, e, f, e1, h, q => by
    simp only [asg] at q ⊢
    exact asgL_mono ts ds h q
  | .tp ts, .lst ds, e, f, e1, h, q => by
    simp only [asg] at q ⊢
    exact asgL_mono ts ds h q
  | .tp ts, .non, _, _, _, h, q => by simp [asg] at q
  | .tp ts, .bl _, _, _, _, h, q => by simp [asg] at q
  | .tp ts, .int _, _, _, _, h, q => by simp [asg] at q
  | .tp ts, .str _, _, _, _, h, q => by simp [asg] at q
  | .tp ts, .emp, _, _, _, h, q => by simp [asg] at q
  | .tp ts, .dk, _, _, _, h, q => by simp [asg] at q
theorem asgL_mono : ∀ (ts : List Tg) (ds : List D) {e f e1 : Env'}, Ele e f → asgL ts ds e = some e1 → ∃ f1, asgL ts ds f = some f1 ∧ Ele e1 f1
  | [], [], e, f, e1, h, q => by
    simp only [asgL] at q ⊢
    cases q
    exact ⟨f, rfl, h⟩
  | [], _ :: _, _, _, _, h, q => by simp [asgL] at q
  | _ :: _, [], _, _, _, h, q => by simp [asgL] at q
  | t :: ts, d :: ds, e, f, e1, h, q => by
    simp only [asgL] at q ⊢
    cases z : asg t d e with
    | none => rw [z] at q; cases q
    | some e2 =>
      rw [z] at q
      obtain ⟨f2, h1, h2⟩ := asg_mono t d h z
      obtain ⟨f3, h3, h4⟩ := asgL_mono ts ds h2 q
      exact ⟨f3, by rw [h1]; exact h3, h4⟩
end

/-! ### readings keep the order -/
def MoM {α : Type} (m m' : M α) : Prop := ∀ n (Q Q' : α → Nat → Prop) (E E' : Exc → Nat → Prop), (∀ a k, Q a k → Q' a k) → (∀ x k, E x k → E' x k) → m n Q E → m' n Q' E'
def MoR (m m' : MS) : Prop := ∀ n (Q Q' : R → Nat → Prop) (E E' : Exc → Env' → Nat → Prop), (∀ fl e k, Q (fl, e) k → ∀ e', Ele e e' → Q' (fl, e') k) → (∀ x e k, E x e k → ∀ e', Ele e e' → E' x e' k) → m n Q E → m' n Q' E'
class MoE {α : Type} (φ : Env' → M α) : Prop where
  le : ∀ e f, Ele e f → MoM (φ e) (φ f)
class MoS (φ : Env' → MS) : Prop where
  le : ∀ e f, Ele e f → MoR (φ e) (φ f)
class MoF (φ : List D → M D) : Prop where
  le : ∀ ds, MoM (φ ds) (φ ds)
theorem MoM.ret {α : Type} (a : α) : MoM (Den.ret a) (Den.ret a) := fun n Q Q' E E' hq _ h => hq a n h
theorem MoM.fail {α : Type} {m : M α} : MoM (Den.fail : M α) m := fun _ _ _ _ _ _ _ h => h.elim
theorem MoM.bnd {α β : Type} {m m' : M α} {f f' : α → M β} (h : MoM m m') (k : ∀ a, MoM (f a) (f' a)) : MoM (Den.bnd m f) (Den.bnd m' f') := fun n Q Q' E E' hq he q =>
  h n _ _ E E' (fun a j z => k a j Q Q' E E' hq he z) he q
theorem MoM.opt {α : Type} (o : Option α) : MoM (Den.opt o) (Den.opt o) := by
  cases o with
  | none => exact MoM.fail
  | some a => exact MoM.ret a
theorem MoM.noex {α : Type} {m m' : M α} (h : MoM m m') : MoM (Den.noex m) (Den.noex m') := fun n Q Q' E E' hq _ q => h n Q Q' _ _ hq (fun _ _ z => z) q
theorem MoM.ite {α : Type} {c : Prop} [Decidable c] {m m' k k' : M α} (h : MoM m m') (g : MoM k k') : MoM (if c then m else k) (if c then m' else k') := by
  split
  · exact h
  · exact g
theorem MoM.toB (d : D) : MoM (Den.toB d) (Den.toB d) := by
  cases d <;> first | exact MoM.ret _ | exact MoM.fail
section
variable {a b c : Env' → M D} {as : Env' → M (List D)} {t u : Env' → M Bool}
instance (i : Nat) : MoE (eVar i) := ⟨fun e f h n Q Q' E E' hq he q => by
  unfold eVar at q ⊢
  cases z : e[i]? with
  | none => rw [z] at q; exact q.elim
  | some s =>
    obtain ⟨s', h1, h2⟩ := h.get z
    rw [z] at q
    rw [h1]
    rcases h2 with rfl | ⟨rfl, d, rfl⟩
    · cases s with
      | sh d => exact hq _ _ q
      | _ => exact q.elim
    · exact q.elim⟩
instance (d : D) : MoE (eC d) := ⟨fun _ _ _ => MoM.ret d⟩
instance (o : D → D → Option D) [x : MoE a] [y : MoE b] : MoE (eOp o a b) := ⟨fun e f h => (x.le e f h).bnd fun _ => (y.le e f h).bnd fun _ => MoM.opt _⟩
instance (o : D → Option D) [x : MoE a] : MoE (eUn o a) := ⟨fun e f h => (x.le e f h).bnd fun _ => MoM.opt _⟩
instance [x : MoE a] : MoE (eB a) := ⟨fun e f h => (x.le e f h).bnd fun _ => MoM.toB _⟩
instance [x : MoE t] [y : MoE u] : MoE (eAndT t u) := ⟨fun e f h => (x.le e f h).bnd fun _ => MoM.ite (y.le e f h) (MoM.ret _)⟩
instance [x : MoE t] [y : MoE u] : MoE (eOrT t u) := ⟨fun e f h => (x.le e f h).bnd fun _ => MoM.ite (MoM.ret _) (y.le e f h)⟩
instance [x : MoE t] : MoE (eNotT t) := ⟨fun e f h => (x.le e f h).bnd fun _ => MoM.ret _⟩
instance [x : MoE a] [y : MoE b] : MoE (eAnd a b) := ⟨fun e f h => (x.le e f h).bnd fun _ => (MoM.toB _).bnd fun _ => MoM.ite (y.le e f h) (MoM.ret _)⟩
instance [x : MoE a] [y : MoE b] : MoE (eOr a b) := ⟨fun e f h => (x.le e f h).bnd fun _ => (MoM.toB _).bnd fun _ => MoM.ite (MoM.ret _) (y.le e f h)⟩
instance [x : MoE a] : MoE (eNot a) := ⟨fun e f h => (x.le e f h).bnd fun _ => (MoM.toB _).bnd fun _ => MoM.ret _⟩
instance [x : MoE t] [y : MoE a] [z : MoE b] : MoE (eIf t a b) := ⟨fun e f h => (x.le e f h).bnd fun _ => MoM.ite (y.le e f h) (z.le e f h)⟩
instance (o o' : D → D → Option D) [x : MoE a] [y : MoE b] [z : MoE c] : MoE (eChain o o' a b c) := ⟨fun e f h => (x.le e f h).bnd fun _ => (y.le e f h).bnd fun _ => (MoM.opt _).bnd fun _ => (MoM.toB _).bnd fun _ => MoM.ite ((z.le e f h).bnd fun _ => MoM.opt _) (MoM.ret _)⟩
instance : MoE aNil := ⟨fun _ _ _ => MoM.ret _⟩
instance [x : MoE a] [y : MoE as] : MoE (aCons a as) := ⟨fun e f h => (x.le e f h).bnd fun _ => (y.le e f h).bnd fun _ => MoM.ret _⟩
instance [y : MoE as] : MoE (eTup as) := ⟨fun e f h => (y.le e f h).bnd fun _ => MoM.opt _⟩
instance [y : MoE as] : MoE (eLst as) := ⟨fun e f h => (y.le e f h).bnd fun _ => MoM.opt _⟩
instance (o : List D → Option D) [y : MoE as] : MoE (eCallB o as) := ⟨fun e f h => (y.le e f h).bnd fun _ => MoM.opt _⟩
instance (k : Nat) (φ : List D → M D) [x : MoF φ] [y : MoE as] : MoE (eCall k φ as) := ⟨fun e f h => (y.le e f h).bnd fun _ => MoM.ite (x.le _) MoM.fail⟩
instance [x : MoE a] : MoE (ePart a) := ⟨fun e f h => (x.le e f h).bnd fun _ => MoM.opt _⟩
instance : MoE eNoPart := ⟨fun _ _ _ => MoM.ret _⟩
instance (l k : Env' → M (Option Int)) [x : MoE a] [y : MoE l] [z : MoE k] : MoE (eSl a l k) := ⟨fun e f h => (x.le e f h).bnd fun _ => (y.le e f h).bnd fun _ => (z.le e f h).bnd fun _ => MoM.opt _⟩
instance [y : MoE as] : MoE (fLst as) := ⟨fun e f h => (y.le e f h).bnd fun _ => MoM.ite (MoM.ret _) MoM.fail⟩
instance [x : MoE a] : MoE (fList a) := ⟨fun e f h => (x.le e f h).bnd fun _ => MoM.opt _⟩
instance [x : MoE a] : MoE (iEl a) := ⟨fun e f h => (x.le e f h).bnd fun _ => MoM.opt _⟩
instance (o : List D → Option (List D)) [y : MoE as] : MoE (iAs o as) := ⟨fun e f h => (y.le e f h).bnd fun _ => MoM.opt _⟩
instance [y : MoE as] : MoE (toLst as) := ⟨fun e f h => (y.le e f h).bnd fun _ => MoM.ret _⟩
instance : MoE cYes := ⟨fun _ _ _ => MoM.ret _⟩
theorem compF_mono {tg : Tg} [x : MoE t] [y : MoE a] {e f : Env'} (h : Ele e f) : ∀ xs : List D, MoM (compF tg t a e xs) (compF tg t a f xs)
  | [] => MoM.ret _
  | d :: xs => by
    simp only [compF]
    cases z : asg tg d e with
    | none => exact fun n Q Q' E E' _ _ q => q.elim
    | some e1 =>
      obtain ⟨f1, h1, h2⟩ := asg_mono tg d h z
      rw [h1]
      exact (x.le e1 f1 h2).bnd fun _ => MoM.ite ((y.le e1 f1 h2).bnd fun _ => (compF_mono h xs).bnd fun _ => MoM.ret _) (compF_mono h xs)
instance (tg : Tg) (vs : List Nat) [z : MoE as] [x : MoE t] [y : MoE a] : MoE (eLcL as tg t a vs) := ⟨fun e f h => (z.le e f h).bnd fun items => by
  by_cases q : okW e vs = true ∧ items.length ≤ big
  · rw [if_pos q, if_pos ⟨h.okW vs q.1, q.2⟩]
    exact (compF_mono (h.wipe vs) items).noex
  · rw [if_neg q]
    exact MoM.fail⟩
instance (i : Nat) [x : MoE a] : MoE (eBor i a) := ⟨fun e f h n Q Q' E E' hq _ q => x.le _ _ (h.frz i) n _ _ _ _ (fun d k z => ⟨z.1, hq _ _ z.2⟩) (fun _ _ z => z) q⟩
instance (i : Nat) [x : MoE t] : MoE (eBorT i t) := ⟨fun e f h n Q Q' E E' hq _ q => x.le _ _ (h.frz i) n _ _ _ _ hq (fun _ _ z => z) q⟩
theorem own_mono {e f : Env'} (h : Ele e f) {i : Nat} {ds : List D} (q : e[i]? = some (.own ds)) : f[i]? = some (.own ds) := by
  obtain ⟨t, h1, h2⟩ := h.get q
  rcases h2 with rfl | ⟨z, _⟩
  · exact h1
  · cases z
instance (i : Nat) [x : MoE a] : MoE (eOwnIx i a) := ⟨fun e f h n Q Q' E E' hq he q => by
  obtain ⟨ds, h1, h2⟩ := withO_some q
  unfold eOwnIx withO
  rw [own_mono h h1]
  exact ((x.le e f h).bnd fun _ => MoM.opt _) n Q Q' E E' hq he h2⟩
end

section
variable {a b : Env' → M D} {as : Env' → M (List D)} {t : Env' → M Bool} {φ ψ : Env' → MS}
instance : MoS sNext := ⟨fun e f h n Q Q' E E' hq _ q => hq _ _ _ q f h⟩
instance : MoS sNever := ⟨fun e f h n Q Q' E E' hq _ q => q.elim⟩
instance : MoS sBreak := ⟨fun e f h n Q Q' E E' hq _ q => hq _ _ _ q f h⟩
instance : MoS sCont := ⟨fun e f h n Q Q' E E' hq _ q => hq _ _ _ q f h⟩
instance : MoS sRetN := ⟨fun e f h n Q Q' E E' hq _ q => hq _ _ _ q f h⟩
instance [x : MoE a] : MoS (sRet a) := ⟨fun e f h n Q Q' E E' hq he q => x.le e f h n _ _ _ _ (fun d k z => hq _ _ _ z f h) (fun y k z => he _ _ _ z f h) q⟩
instance [x : MoE a] : MoS (sExpr a) := ⟨fun e f h n Q Q' E E' hq he q => x.le e f h n _ _ _ _ (fun d k z => hq _ _ _ z f h) (fun y k z => he _ _ _ z f h) q⟩
instance [x : MoS φ] [y : MoS ψ] : MoS (sSeq φ ψ) := ⟨fun e f h n Q Q' E E' hq he q => x.le e f h n _ _ E E' (fun fl e1 k z e2 h2 => by
  cases fl with
  | nx => exact y.le e1 e2 h2 k Q Q' E E' hq he z
  | bk => exact hq _ _ _ z _ h2
  | ct => exact hq _ _ _ z _ h2
  | rt d => exact hq _ _ _ z _ h2) he q⟩
instance [w : MoE t] [x : MoS φ] [y : MoS ψ] : MoS (sIf t φ ψ) := ⟨fun e f h n Q Q' E E' hq he q => w.le e f h n _ _ _ _ (fun b k z => by
  cases b with
  | true => exact x.le e f h k Q Q' E E' hq he z
  | false => exact y.le e f h k Q Q' E E' hq he z) (fun y k z => he _ _ _ z f h) q⟩
instance (tg : Tg) [x : MoE a] : MoS (sAsg a tg) := ⟨fun e f h n Q Q' E E' hq he q => x.le e f h n _ _ _ _ (fun d k z => by
  obtain ⟨e1, h1, h2⟩ := wh_some z
  obtain ⟨f1, h3, h4⟩ := asg_mono tg d h h1
  show wh (asg tg d f) _
  rw [h3]
  exact hq _ _ _ h2 _ h4) (fun y k z => he _ _ _ z f h) q⟩
instance (i : Nat) [x : MoE as] : MoS (sOwn i as) := ⟨fun e f h n Q Q' E E' hq he q => x.le e f h n _ _ _ _ (fun d k z => ⟨by rw [h.len]; exact z.1, hq _ _ _ z.2 _ (h.set i (.refl _))⟩) (fun y k z => he _ _ _ z f h) q⟩
instance (i j : Nat) [x : MoE as] : MoS (sPar i j as) := ⟨fun e f h n Q Q' E E' hq he q => x.le e f h n _ _ _ _ (fun ds k z => by
  match ds, z with
  | [u, v], z => exact ⟨by rw [h.len]; exact z.1, by rw [h.len]; exact z.2.1, hq _ _ _ z.2.2 _ ((h.set i (.refl _)).set j (.refl _))⟩) (fun y k z => he _ _ _ z f h) q⟩
instance (i j : Nat) [x : MoE a] : MoS (sParSO i j a) := ⟨fun e f h n Q Q' E E' hq he q => x.le e f h n _ _ _ _ (fun d k z => ⟨by rw [h.len]; exact z.1, by rw [h.len]; exact z.2.1, hq _ _ _ z.2.2 _ ((h.set i (.refl _)).set j (.refl _))⟩) (fun y k z => he _ _ _ z f h) q⟩
instance (i j : Nat) [x : MoE a] : MoS (sParOS i j a) := ⟨fun e f h n Q Q' E E' hq he q => x.le e f h n _ _ _ _ (fun d k z => ⟨by rw [h.len]; exact z.1, by rw [h.len]; exact z.2.1, hq _ _ _ z.2.2 _ ((h.set i (.refl _)).set j (.refl _))⟩) (fun y k z => he _ _ _ z f h) q⟩
instance (i j : Nat) : MoS (sParOO i j) := ⟨fun e f h n Q Q' E E' hq he z => ⟨by rw [h.len]; exact z.1, by rw [h.len]; exact z.2.1, hq _ _ _ z.2.2 _ ((h.set i (.refl _)).set j (.refl _))⟩⟩
@[simp] theorem sParSO_e (i j : Nat) (a : Env' → M D) (env : Env') : sParSO i j a env = liftS env (a env) fun d => if i < env.length ∧ j < env.length then done (.nx, (env.set i (.sh d)).set j (.own [])) else failS := by
  funext n Q E
  simp only [sParSO, liftS]
  congr 1
  funext d n'
  rw [← and_assoc]
  exact ite_ms _ (done (.nx, (env.set i (.sh d)).set j (.own []))) n' Q E
@[simp] theorem sParOS_e (i j : Nat) (a : Env' → M D) (env : Env') : sParOS i j a env = liftS env (a env) fun d => if i < env.length ∧ j < env.length then done (.nx, (env.set i (.own [])).set j (.sh d)) else failS := by
  funext n Q E
  simp only [sParOS, liftS]
  congr 1
  funext d n'
  rw [← and_assoc]
  exact ite_ms _ (done (.nx, (env.set i (.own [])).set j (.sh d))) n' Q E
@[simp] theorem sParOO_e (i j : Nat) (env : Env') : sParOO i j env = if i < env.length ∧ j < env.length then done (.nx, (env.set i (.own [])).set j (.own [])) else failS := by
  funext n Q E
  simp only [sParOO]
  rw [← and_assoc]
  exact ite_ms _ (done (.nx, (env.set i (.own [])).set j (.own []))) n Q E
instance (i : Nat) [x : MoS φ] : MoS (sFrz i φ) := ⟨fun e f h => x.le _ _ (h.frz i)⟩
instance (i : Nat) [x : MoE a] : MoS (sApp i a) := ⟨fun e f h n Q Q' E E' hq he q => by
  obtain ⟨ds, h1, h2, h3⟩ := withO_some q
  unfold sApp withO
  rw [own_mono h h1]
  exact ⟨h2, x.le e f h n _ _ _ _ (fun d k z => hq _ _ _ z _ (h.set i (.refl _))) (fun y k z => he _ _ _ z f h) h3⟩⟩
instance (i : Nat) [x : MoE a] : MoS (sExt i a) := ⟨fun e f h n Q Q' E E' hq he q => by
  obtain ⟨ds, h1, h3⟩ := withO_some q
  unfold sExt withO
  rw [own_mono h h1]
  refine x.le e f h n _ _ _ _ (fun d k z => ?_) (fun y k z => he _ _ _ z f h) h3
  obtain ⟨es, z1, z2, z3⟩ := wh_some z
  show wh (lstOf d) _
  rw [z1]
  exact ⟨z2, hq _ _ _ z3 _ (h.set i (.refl _))⟩⟩
instance (i : Nat) [x : MoE a] [y : MoE b] : MoS (sSet i b a) := ⟨fun e f h n Q Q' E E' hq he q => by
  obtain ⟨ds, h1, h3⟩ := withO_some q
  unfold sSet withO
  rw [own_mono h h1]
  refine x.le e f h n _ _ _ _ (fun d k z => y.le e f h k _ _ _ _ (fun j k2 z => ?_) (fun y k z => he _ _ _ z f h) z) (fun y k z => he _ _ _ z f h) h3
  obtain ⟨es, z1, z2⟩ := wh_some z
  show wh (setD ds j d) _
  rw [z1]
  exact hq _ _ _ z2 _ (h.set i (.refl _))⟩
theorem loopF_mono {tg : Tg} [x : MoS φ] : ∀ (xs : List D) {e f : Env'}, Ele e f → MoR (loopF tg φ xs e) (loopF tg φ xs f)
  | [], e, f, h => fun n Q Q' E E' hq _ q => hq _ _ _ q f h
  | d :: xs, e, f, h => fun n Q Q' E E' hq he q => by
    simp only [loopF] at q ⊢
    obtain ⟨e1, h1, h2⟩ := wh_some q
    obtain ⟨f1, h3, h4⟩ := asg_mono tg d h h1
    rw [h3]
    refine x.le e1 f1 h4 n _ _ E E' (fun fl e2 k z f2 h5 => ?_) he h2
    cases fl with
    | nx => exact loopF_mono xs h5 k Q Q' E E' hq he z
    | ct => exact loopF_mono xs h5 k Q Q' E E' hq he z
    | bk => exact hq _ _ _ z _ h5
    | rt d => exact hq _ _ _ z _ h5
instance (tg : Tg) [w : MoE as] [x : MoS φ] : MoS (sFor as tg φ) := ⟨fun e f h n Q Q' E E' hq he q => w.le e f h n _ _ _ _ (fun ds k z => loopF_mono ds h k Q Q' E E' hq he z) (fun y k z => he _ _ _ z f h) q⟩
theorem loopW_mono [w : MoE t] [x : MoS φ] : ∀ (k : Nat) {e f : Env'}, Ele e f → MoR (loopW t φ k e) (loopW t φ k f)
  | 0, e, f, h => fun n Q Q' E E' hq _ q => q.elim
  | k + 1, e, f, h => fun n Q Q' E E' hq he q => by
    refine w.le e f h n _ _ _ _ (fun b j z => ?_) (fun y k z => he _ _ _ z f h) q
    cases b with
    | false => exact hq _ _ _ z _ h
    | true =>
      refine x.le e f h j _ _ E E' (fun fl e2 k2 z f2 h5 => ?_) he z
      cases fl with
      | nx => exact loopW_mono k h5 k2 Q Q' E E' hq he z
      | ct => exact loopW_mono k h5 k2 Q Q' E E' hq he z
      | bk => exact hq _ _ _ z _ h5
      | rt d => exact hq _ _ _ z _ h5
instance [w : MoE t] [x : MoS φ] : MoS (sWhile t φ) := ⟨fun e f h n Q Q' E E' hq he ⟨k, q⟩ => ⟨k, loopW_mono k h n Q Q' E E' hq he q⟩⟩
end
instance (N : Nat) (φ : Env' → MS) [x : MoS φ] : MoF (fnD N φ) := ⟨fun ds n Q Q' E E' hq he q => x.le _ _ (Ele.refl _) n _ _ _ _ (fun fl e k z e' _ => by
  cases fl with
  | nx => exact hq _ _ z
  | rt d => exact hq _ _ z
  | bk => exact z.elim
  | ct => exact z.elim) (fun y e k z e' _ => he _ _ z) q⟩
theorem draw_mono (many : Int) : MoM (draw many) (draw many) := fun n Q Q' E E' hq he q => ⟨q.1, q.2.1, q.2.2.1, fun r h0 h1 => hq _ _ (q.2.2.2 r h0 h1)⟩
instance : MoF drawF := ⟨fun ds => by
  unfold drawF
  split
  · exact draw_mono _
  · exact MoM.fail⟩
instance : MoF (fun _ => fail) := ⟨fun ds => MoM.fail⟩

/-! ### drawing loops from one environment -/
class MoK (k : R → MS) : Prop where
  le : ∀ fl e f, Ele e f → MoR (k (fl, e)) (k (fl, f))
theorem MoR.done (fl : Fl) {e f : Env'} (h : Ele e f) : MoR (Den.done (fl, e)) (Den.done (fl, f)) := fun n Q Q' E E' hq _ q => hq _ _ _ q _ h
theorem MoR.bnd {m m' : MS} {k : R → MS} [x : MoK k] (h : MoR m m') : MoR (bndR m k) (bndR m' k) := fun n Q Q' E E' hq he q => h n _ _ E E' (fun fl e j z f hf => x.le fl e f hf j Q Q' E E' hq he z) he q
instance (ψ : Env' → MS) [x : MoS ψ] : MoK (seqK ψ) := ⟨fun fl e f h => by
  cases fl with
  | nx => exact x.le e f h
  | bk => exact MoR.done _ h
  | ct => exact MoR.done _ h
  | rt d => exact MoR.done _ h⟩
instance (tg : Tg) (φ : Env' → MS) (xs : List D) [x : MoS φ] : MoK (loopK (loopF tg φ xs)) := ⟨fun fl e f h => by
  cases fl with
  | nx => exact loopF_mono xs h
  | ct => exact loopF_mono xs h
  | bk => exact MoR.done _ h
  | rt d => exact MoR.done _ h⟩
instance (k k' : R → MS) [x : MoK k] [y : MoK k'] : MoK (fun r => bndR (k r) k') := ⟨fun fl e f h => (x.le fl e f h).bnd⟩
/-- what may be asked of an end: it holds of fuller environments too -/
class UpS (S : R → Prop) : Prop where
  up : ∀ fl e f, Ele e f → S (fl, e) → S (fl, f)
/-- goes on, and keeps what stood in env -/
def Nx (env : Env') : R → Prop := fun r => r.1 = .nx ∧ Ele env r.2
instance (env : Env') : UpS (Nx env) := ⟨fun fl e f h q => ⟨q.1, Ele.trans q.2 h⟩⟩
def Rt (d : D) : R → Prop := fun r => r.1 = .rt d
instance (d : D) : UpS (Rt d) := ⟨fun fl e f h q => q⟩
theorem GvS.up {m m' : MS} {c : Nat} {S : R → Prop} [u : UpS S] (h : GvS m c S) (k : MoR m m') : GvS m' c S := ⟨fun n Q E hn q =>
  k n (fun r j => S r ∧ n ≤ j ∧ j ≤ n + c) Q (fun _ _ _ => False) E (fun fl e j z f hf => q _ _ (u.up fl e f hf z.1) z.2.1 z.2.2) (fun _ _ _ z => z.elim) (h.run n _ _ hn fun r j a b d => ⟨a, b, d⟩)⟩
theorem GvS.forU {t : Tg} {body : Env' → MS} {c : Nat} {env : Env'} [x : MoS body] {xs : List D} (h : ∀ d ∈ xs, ∃ e1, asg t d env = some e1 ∧ GvS (body e1) c (Nx env)) :
    GvS (loopF t body xs env) (xs.length * c) (Nx env) := by
  suffices z : ∀ (xs : List D), (∀ d ∈ xs, ∃ e1, asg t d env = some e1 ∧ GvS (body e1) c (Nx env)) → ∀ e, Ele env e → GvS (loopF t body xs e) (xs.length * c) (Nx env) from z xs h env (Ele.refl _)
  intro xs
  induction xs with
  | nil =>
    intro _ e he
    rw [loopF_nil]
    simp only [List.length_nil, Nat.zero_mul]
    exact GvS.done ⟨rfl, he⟩
  | cons d xs ih =>
    intro h e he
    obtain ⟨e1, h1, h2⟩ := h d (by simp)
    obtain ⟨f1, h3, h4⟩ := asg_mono t d he h1
    rw [loopF_cons, h3, optS_some]
    have e' : (d :: xs).length * c = c + xs.length * c := by simp [Nat.succ_mul]; omega
    rw [e']
    refine GvS.bnd (h2.up (x.le _ _ h4)) ?_
    rintro ⟨fl, e2⟩ ⟨q1, q2⟩
    have q1' : fl = .nx := q1
    subst q1'
    rw [loopK_nx]
    exact ih (fun d hd => h d (by simp [hd])) e2 q2
/-- behind something that goes on -/
theorem GvS.andThen {m : MS} {k : R → MS} {env : Env'} {c c' : Nat} {S : R → Prop} [x : MoK k] [u : UpS S] (h : GvS m c (Nx env)) (h' : GvS (k (.nx, env)) c' S) : GvS (bndR m k) (c + c') S := by
  refine GvS.bnd h ?_
  rintro ⟨fl, e⟩ ⟨q1, q2⟩
  have q1' : fl = .nx := q1
  subst q1'
  exact h'.up (x.le _ _ _ q2)
/-- a loop of a law, then the rest -/
theorem GvS.loopU {t : Tg} {body : Env' → MS} {c c' : Nat} {env : Env'} {xs : List D} {k : R → MS} {S : R → Prop} [x : MoS body] [y : MoK k] [u : UpS S] (h : ∀ d ∈ xs, ∃ e1, asg t d env = some e1 ∧ GvS (body e1) c (Nx env)) (h' : GvS (k (.nx, env)) c' S) : GvS (bndR (loopF t body xs env) k) (xs.length * c + c') S :=
  (GvS.forU h).andThen h'
theorem GvS.ite {c : Prop} [Decidable c] {m m' : MS} {a b : Nat} {S : R → Prop} (h : c → GvS m a S) (h' : ¬ c → GvS m' b S) : GvS (if c then m else m') (max a b) S := by
  split
  · exact (h ‹_›).mono (Nat.le_max_left _ _) fun _ z => z
  · exact (h' ‹_›).mono (Nat.le_max_right _ _) fun _ z => z
theorem Gv.ite {α : Type} {c : Prop} [Decidable c] {m m' : M α} {a b : Nat} {S : α → Prop} (h : c → Gv m a S) (h' : ¬ c → Gv m' b S) : Gv (if c then m else m') (max a b) S := by
  split
  · exact (h ‹_›).mono (Nat.le_max_left _ _) fun _ z => z
  · exact (h' ‹_›).mono (Nat.le_max_right _ _) fun _ z => z
theorem gives_ofU {N : Nat} {φ : Env' → MS} (h : ∃ c, GvS (φ ([.un, .sh .dk] ++ List.replicate N .un)) c (Rt (.bl true)) ∧ c < 2 ^ 60) : Gives N φ := by
  obtain ⟨c, h, hc⟩ := h
  exact h.run 0 _ _ (by omega) fun r n' hr _ _ => hr
end Den

set_option autoImplicit true
set_option Elab.async false
set_option linter.all false
set_option maxRecDepth 100000
set_option maxHeartbeats 2000000
set_option autoImplicit false
namespace Den
open PySem PySem.Spec PyProof.Rows L2

/-! ### exceptions, read in the plain world -/
def raiseS (x : Exc) (env : Env') : MS := fun n _ E => E x env n
def tryS (names : List Str) (i : Nat) (m : MS) (ψ : Env' → MS) : MS := fun n Q E => m n Q fun x env' n' =>
  (i < env'.length ∧ x.name ∈ names) ∧ ψ (env'.set i (.sh (excD x))) n' (fun r n2 => okR (r.1, r.2.set i .un) = true ∧ Q (r.1, r.2.set i .un) n2) fun _ _ _ => False
def outS (i : Nat) (m : MS) : MS := fun n Q _ => m n (fun r n2 => okR (r.1, r.2.set i .un) = true ∧ Q (r.1, r.2.set i .un) n2) fun _ _ _ => False
section
variable {α β : Type} {env : Env'} {names : List Str} {i : Nat} {φ ψ : Env' → MS}
@[simp] theorem sRz_e (nm : Str) : sRz nm env = raiseS ⟨nm, none⟩ env := id rfl
@[simp] theorem sRz1_e (nm f : Str) (a : Env' → M D) : sRz1 nm f a env = liftS env (a env) fun d => raiseS ⟨nm, some (f, d)⟩ env := id rfl
@[simp] theorem bnd_raise' (x : Exc) (f : α → M β) : bnd (raise x) f = raise x := id rfl
@[simp] theorem liftS_raise (x : Exc) (f : α → MS) : liftS env (raise x) f = raiseS x env := id rfl
@[simp] theorem bndR_raise (x : Exc) (f : R → MS) : bndR (raiseS x env) f = raiseS x env := id rfl
@[simp] theorem unR_raise (x : Exc) : unR (raiseS x env) = raise x := id rfl
@[simp] theorem sTry_e : sTry names i φ ψ env = tryS names i (φ env) ψ := id rfl
@[simp] theorem tryS_done (r : R) : tryS names i (done r) ψ = done r := id rfl
@[simp] theorem tryS_raise (x : Exc) : tryS names i (raiseS x env) ψ = if i < env.length ∧ x.name ∈ names then outS i (ψ (env.set i (.sh (excD x)))) else failS := by
  funext n Q E
  show ((i < env.length ∧ x.name ∈ names) ∧ _) = _
  by_cases h : i < env.length ∧ x.name ∈ names
  · rw [if_pos h]; simp only [h, true_and, outS]
  · rw [if_neg h]; simp only [h, false_and, failS]
@[simp] theorem outS_done (r : R) : outS i (done r) = if okR (r.1, r.2.set i .un) = true then done (r.1, r.2.set i .un) else failS := by
  funext n Q E
  show (okR (r.1, r.2.set i .un) = true ∧ done (r.1, r.2.set i .un) n Q E) = _
  exact ite_ms _ (done (r.1, r.2.set i .un)) n Q E
@[simp] theorem excD_0 (nm : Str) : excD ⟨nm, none⟩ = .exc nm "" .non := id rfl
@[simp] theorem excD_1 (nm f : Str) (d : D) : excD ⟨nm, some (f, d)⟩ = .exc nm f d := id rfl
theorem eXf_at {flds : List (Str × Str)} {f nm : Str} {d : D} (h : env[i]? = some (.sh (.exc nm f d))) (hm : (nm, f) ∈ flds) : eXf flds i f env = ret d := by
  unfold eXf
  rw [h]
  simp [hm]
theorem eIsE_at {cs : List Str} {nm f : Str} {d : D} (h : env[i]? = some (.sh (.exc nm f d))) (hm : nm ∈ names) : eIsE names i cs env = ret (.bl (cs.any fun c => subE nm c)) := by
  unfold eIsE
  rw [h]
  simp [hm]
def subAny (nm : Str) (cs : List Str) : Bool := cs.any fun c => subE nm c
@[simp] theorem eIsE_s {cs : List Str} {a : Slot} {r : Env'} : eIsE names (i + 1) cs (a :: r) = eIsE names i cs r := id rfl
@[simp] theorem eXf_s {fl : List (Str × Str)} {f : Str} {a : Slot} {r : Env'} : eXf fl (i + 1) f (a :: r) = eXf fl i f r := id rfl
theorem eIsE_0 {cs : List Str} {nm f : Str} {d : D} {r : Env'} (h : nm ∈ names) : eIsE names 0 cs (.sh (.exc nm f d) :: r) = ret (.bl (subAny nm cs)) := eIsE_at (by rfl) h
theorem eXf_0 {fl : List (Str × Str)} {nm f : Str} {d : D} {r : Env'} (h : (nm, f) ∈ fl) : eXf fl 0 f (.sh (.exc nm f d) :: r) = ret d := eXf_at (by rfl) h
@[simp] theorem outS_fail : outS i failS = failS := id rfl
@[simp] theorem tryS_fail : tryS names i failS ψ = failS := id rfl
@[simp] theorem outS_ite (c : Prop) [Decidable c] (m m' : MS) : outS i (if c then m else m') = if c then outS i m else outS i m' := by split <;> rfl
@[simp] theorem okR_nx' (e : Env') : okR (.nx, e) = true ↔ coolE e = true := by simp [okR]
@[simp] theorem eNever_e : eNever env = fail := id rfl
end
/-! ### coolness -/
@[simp] theorem cools_iff : ∀ {ds : List D}, cools ds = true ↔ ∀ d ∈ ds, cool d = true
  | [] => by simp [cools]
  | d :: ds => by simp [cools, cools_iff (ds := ds)]
@[simp] theorem cool_tup (ds : List D) : cool (.tup ds) = true ↔ ∀ d ∈ ds, cool d = true := by simp [cool]
@[simp] theorem cool_lst (ds : List D) : cool (.lst ds) = true ↔ ∀ d ∈ ds, cool d = true := by simp [cool]
@[simp] theorem cool_non : cool .non = true := id rfl
@[simp] theorem cool_bl (b : Bool) : cool (.bl b) = true := id rfl
@[simp] theorem cool_int (i : Int) : cool (.int i) = true := id rfl
@[simp] theorem cool_str (x : Str) : cool (.str x) = true := id rfl
@[simp] theorem cool_emp : cool .emp = true := id rfl
@[simp] theorem cool_dk : cool .dk = true := id rfl
@[simp] theorem coolE_nil : coolE [] = true := id rfl
@[simp] theorem coolE_cons (s : Slot) (r : Env') : coolE (s :: r) = true ↔ coolS s = true ∧ coolE r = true := by simp [coolE]
@[simp] theorem coolS_un : coolS .un = true := id rfl
@[simp] theorem coolS_sh (d : D) : coolS (.sh d) = cool d := id rfl
@[simp] theorem coolS_own (ds : List D) : coolS (.own ds) = cools ds := id rfl
theorem okR_nx (e : Env') : okR (.nx, e) = coolE e := by simp [okR]
theorem okR_rt (d : D) (e : Env') : okR (.rt d, e) = (coolE e && cool d) := by simp [okR]

/-! ### the order -/
instance (nm : Str) : MoS (sRz nm) := ⟨fun e f h n Q Q' E E' _ he q => he _ _ _ q f h⟩
instance (nm fl : Str) (a : Env' → M D) [x : MoE a] : MoS (sRz1 nm fl a) := ⟨fun e f h n Q Q' E E' hq he q => x.le e f h n _ _ _ _ (fun d k z => he _ _ _ z f h) (fun y k z => he _ _ _ z f h) q⟩
instance (flds : List (Str × Str)) (i : Nat) (fl : Str) : MoE (eXf flds i fl) := ⟨fun e f h n Q Q' E E' hq he q => by
  obtain ⟨nm, d, h1, h2, h3⟩ := eXf_get q
  obtain ⟨t, ht, hs⟩ := h.get h1
  rcases hs with rfl | ⟨z, _⟩
  · rw [eXf_at ht h2]
    exact hq _ _ h3
  · cases z⟩
instance (names : List Str) (i : Nat) (cs : List Str) : MoE (eIsE names i cs) := ⟨fun e f h n Q Q' E E' hq he q => by
  obtain ⟨nm, fl, d, h1, h2, h3⟩ := eIsE_get q
  obtain ⟨t, ht, hs⟩ := h.get h1
  rcases hs with rfl | ⟨z, _⟩
  · rw [eIsE_at ht h2]
    exact hq _ _ h3
  · cases z⟩
instance : MoE eNever := ⟨fun _ _ _ => MoM.fail⟩
/-- defs with a try: from one environment -/
class MoQ (φ : Env' → MS) : Prop where
  le : ∀ e n (Q Q' : R → Nat → Prop) (E E' : Exc → Env' → Nat → Prop), (∀ r k, Q r k → Q' r k) → (∀ x e k, E x e k → E' x e k) → φ e n Q E → φ e n Q' E'
section
variable {a b : Env' → M D} {as : Env' → M (List D)} {t : Env' → M Bool} {φ ψ : Env' → MS}
instance : MoQ sNext := ⟨fun e n Q Q' E E' hq _ q => hq _ _ q⟩
instance : MoQ sNever := ⟨fun e n Q Q' E E' hq _ q => q.elim⟩
instance : MoQ sRetN := ⟨fun e n Q Q' E E' hq _ q => hq _ _ q⟩
instance [x : MoE a] : MoQ (sRet a) := ⟨fun e n Q Q' E E' hq he q => x.le e e (.refl e) n _ _ _ _ (fun d k z => hq _ _ z) (fun y k z => he _ _ _ z) q⟩
instance [x : MoE a] : MoQ (sExpr a) := ⟨fun e n Q Q' E E' hq he q => x.le e e (.refl e) n _ _ _ _ (fun d k z => hq _ _ z) (fun y k z => he _ _ _ z) q⟩
instance [x : MoQ φ] [y : MoQ ψ] : MoQ (sSeq φ ψ) := ⟨fun e n Q Q' E E' hq he q => x.le e n _ _ _ _ (fun r k z => by
  obtain ⟨f, e1⟩ := r
  cases f with
  | nx => exact y.le e1 k Q Q' E E' hq he z
  | _ => exact hq _ _ z) he q⟩
instance [w : MoE t] [x : MoQ φ] [y : MoQ ψ] : MoQ (sIf t φ ψ) := ⟨fun e n Q Q' E E' hq he q => w.le e e (.refl e) n _ _ _ _ (fun b k z => by
  cases b with
  | true => exact x.le e k Q Q' E E' hq he z
  | false => exact y.le e k Q Q' E E' hq he z) (fun y k z => he _ _ _ z) q⟩
instance (tg : Tg) [x : MoE a] : MoQ (sAsg a tg) := ⟨fun e n Q Q' E E' hq he q => x.le e e (.refl e) n _ _ _ _ (fun d k z => by
  obtain ⟨e1, h1, h2⟩ := wh_some z
  show wh (asg tg d e) _
  rw [h1]
  exact hq _ _ h2) (fun y k z => he _ _ _ z) q⟩
instance (i : Nat) [x : MoE as] : MoQ (sOwn i as) := ⟨fun e n Q Q' E E' hq he q => x.le e e (.refl e) n _ _ _ _ (fun d k z => ⟨z.1, hq _ _ z.2⟩) (fun y k z => he _ _ _ z) q⟩
instance (i : Nat) [x : MoQ φ] : MoQ (sFrz i φ) := ⟨fun e => x.le (frz i e)⟩
instance (names : List Str) (i : Nat) [x : MoQ φ] [y : MoQ ψ] : MoQ (sTry names i φ ψ) := ⟨fun e n Q Q' E E' hq he q => x.le e n _ _ _ _ hq (fun x1 e1 k z => ⟨z.1, y.le _ k _ _ _ _ (fun r n2 w => ⟨w.1, hq _ _ w.2⟩) (fun _ _ _ w => w) z.2⟩) q⟩
instance (i : Nat) [x : MoE a] : MoQ (sApp i a) := ⟨fun e n Q Q' E E' hq he q => by
  obtain ⟨ds, h1, h2, h3⟩ := withO_some q
  show withO i _ e ()
  unfold withO
  rw [h1]
  exact ⟨h2, x.le e e (.refl e) n _ _ _ _ (fun d k z => hq _ _ z) (fun y k z => he _ _ _ z) h3⟩⟩
instance (priority := low) moF_of (N : Nat) [x : MoQ φ] : MoF (fnD N φ) := ⟨fun ds n Q Q' E E' hq he q => x.le _ n _ _ _ _ (fun r k z => by
  obtain ⟨f, e1⟩ := r
  cases f with
  | nx => exact hq _ _ z
  | rt d => exact hq _ _ z
  | _ => exact z.elim) (fun y _ k z => he _ _ z) q⟩
end
end Den

set_option autoImplicit true
set_option Elab.async false
set_option linter.all false
set_option maxRecDepth 100000
set_option maxHeartbeats 2000000
set_option autoImplicit false
namespace Den
open PySem PySem.Spec PyProof.Rows L2
/-! ### l.index(x), l.count(x) -/
def isL : D → Bool
  | .lst _ => true
  | _ => false
def eMt (o : D → D → Option D) (a b : Env' → M D) : Env' → M D := fun env => bnd (a env) fun x => if isL x = true then bnd (b env) fun y => opt (o x y) else fail
def rMt (r : V → List V → Hp → VK → Prop) : R2 := fun x y H Q => r x [y] H Q
section
variable {X : Cx} {W : WY}
theorem dE_mt1 {T : String} {r : V → List V → Hp → VK → Prop} {o : D → D → Option D} {ob e : Expr} {φo φa : Env' → M D} {name : Str} {id : String} {ap cpos : Pos}
    (slot : PySem.Slot "list" name id) (hty : typeOf (.builtin id) = pure (.type "method_descriptor")) (hm : MtR X id r) (pu : Pure2 X.K (rMt r) o) (ho : DE X W ob φo) (ha : DE X W e φa)
    (hbase : attributeBase ob name X.env (eval ob X.env) = eval ob X.env := by rfl)
    (hfew : ((backTo cpos (starEach [e] X.env)).all (fun x => !x.1) && (backToKw cpos (keywordEach [] X.env)).all (fun x => x.1.isSome)
      && decide ([e].length + ([] : List Keyword).length + (if ([] : List Keyword).isEmpty then 0 else 1) < 30)) = true := by rfl)
    (hline : (ap.endLine == cpos.line) = true := by rfl) (hs : starEach [e] X.env = (false, eval e X.env) :: starEach [] X.env := by rfl) (hplain : (backTo cpos (starEach [] X.env)).any (·.1) = false := by rfl) :
    DE X W (.Call (.Attribute ob name ap) [e] [] cpos) (eMt o φo φa) := by
  refine PE.imp (pe_bm PySem.F.plainAttrs_list slot hty hm ho (pa_cons ha pa_nil hs) hbase hfew hline hs hplain) fun σ H Q h => ?_
  refine tX_bnd (f := fun x env => if isL x = true then bnd (φa env) fun y => opt (o x y) else fail) h fun g env n dx x H1 Qd Ed R1 rx p q r => ?_
  cases dx with
  | lst xs =>
    cases rx with
    | lst h1 np h2 =>
      refine ⟨.inl ⟨rfl, _, SqL.of h1⟩, ?_⟩
      have rx := Rep.lst (K := X.K) h1 np h2
      have p : (bnd (φa env) fun y => opt (o (D.lst xs) y)) n Qd Ed := p
      refine tX_in (φ := φa) R1 p (fun dy n2 y H2 p2 ry f2 k2 => ?_) (fun x n' cls dd H' a b c e => r x n' cls dd H' a b c e)
      obtain ⟨d, e, qd⟩ := opt_some p2
      have R2 := R1.frm f2 k2
      refine pu (pv g env σ) (kA g) H2 _ y _ dy d Q R2.there (rx.to (f2.ext fun a z => .inl (R1.kp a z))) ry e fun v H' s rv => ?_
      exact q d n2 v H' qd rv (f2.trans (Same.frm s)) (k2.same s)
  | _ => exact p.elim
def rCountD (K : PySem.W.Frag) : V → List V → Hp → VK → Prop := fun x xs H Q => ∃ (a : Addr) (y : V) (d : PyData) (ds : List PyData), x = V.ref a ∧ xs = [y] ∧ Dp K H (V.ref a) (.list ds) ∧ Dp K H y d ∧
  SeqAt.shaped (.list ds) = true ∧ SeqAt.shaped d = true ∧ Q (.int ((ds.countP fun z => PyData.eqv z d : Nat) : Int)) H
theorem mt_countD (hu : X.A.units + 65 < cLine) : MtR X "list.count" (rCountD X.K) := by
  intro pins s σ H x xs v us Q I rx rxs h
  obtain ⟨a, y, d, ds, rfl, rfl, hl, hy, sl, sd, q⟩ := h
  cases rx
  cases rxs with
  | cons ry rt =>
    rename_i uy ut
    cases rt
    obtain ⟨bs, r1⟩ := Dp.reads I d y uy hy ry
    have hxs : PyData.canLayAll0 ds = true := SeqAt.canLay_of_shaped sl
    have hroom : X.A.units + 1 + min (PyData.depthAll ds) d.depth < cLine := room_in_shaped sd hu
    cases hl with
    | lst hs ha =>
      obtain ⟨its, rv, ⟨⟨cls, dd, data, sls⟩, n, ho, hc, hdn, hdt⟩, hlen⟩ := I.list hs
      simp only at hc hdt
      subst hc hdt
      obtain ⟨as, h4⟩ := Dp.readsAll I ds _ its ha rv
      have hmap : its.map (SeqAt.readOf s.heap) = ds := SeqAt.readsAll_map ds its as hxs h4
      refine call_meets PySem.F.slot_list_count ⟨_, ho, rfl⟩ PySem.F.entry_list_count (PySem.F.args_list_count_2 _ _)
        (SeqAt.list_countAt a its.toArray n dd sls uy (fun u => PyData.eqv (SeqAt.readOf s.heap u) d)) ⟨ho, SeqAt.items_eqAt (vs := its.toArray) (show ReadsAll s.heap its.toArray.toList ds as from h4) r1 hxs (SeqAt.canLay_of_shaped sd) hroom, ?_⟩
      have ec : its.toArray.toList.countP (fun u => PyData.eqv (SeqAt.readOf s.heap u) d) = ds.countP fun z => PyData.eqv z d := by
        rw [← hmap, List.countP_map]
        rfl
      rw [ec]
      exact ⟨.int _, H, I.tok _, ⟨_, rfl⟩, q⟩
end
def oCount : D → D → Option D
  | .lst xs, d => if dOk d = true ∧ dOk (.lst xs) = true then some (.int ((xs.countP fun z => deq z d : Nat) : Int)) else none
  | _, _ => none
def oIndex : D → D → Option D
  | .lst xs, d => if dOk d = true ∧ dOk (.lst xs) = true then (xs.findIdx? fun z => deq z d).map fun j => .int (j : Nat) else none
  | _, _ => none
theorem pys_countP (d : D) : ∀ xs : List D, (pys xs).countP (fun z => PyData.eqv z d.py) = xs.countP fun z => deq z d
  | [] => rfl
  | x :: xs => by
    simp only [pys, List.countP_cons, pys_countP d xs]
    rfl
theorem pys_get : ∀ (xs : List D) (j : Nat), (pys xs)[j]? = (xs[j]?).map D.py
  | [], j => by simp [pys]
  | x :: xs, 0 => by simp [pys]
  | x :: xs, j + 1 => by simp [pys, pys_get xs j]
theorem pu_count {K : PySem.W.Frag} : Pure2 K (rMt (rCountD K)) oCount := by
  intro P k H x y dx dy d Q hP rx ry e q
  unfold oCount at e
  split at e
  · rename_i xs
    split at e
    · rename_i h
      cases e
      have c1 : dy.py.canLay0 = true := SeqAt.canLay_of_shaped h.1
      have c2 : (D.lst xs).py.canLay0 = true := SeqAt.canLay_of_shaped h.2
      have r1 := Rep.dp _ _ ry c1
      have r2 := Rep.dp _ _ rx c2
      cases rx with
      | lst h1 np h2 =>
        refine ⟨_, y, dy.py, pys xs, rfl, rfl, r2, r1, h.2, h.1, ?_⟩
        rw [pys_countP]
        exact q _ H (Same.refl _) (.int _)
    · cases e
  · cases e
theorem pu_index {K : PySem.W.Frag} : Pure2 K (rMt (rIndexD K)) oIndex := by
  intro P k H x y dx dy d Q hP rx ry e q
  unfold oIndex at e
  split at e
  · rename_i xs
    split at e
    · rename_i h
      have c1 : dy.py.canLay0 = true := SeqAt.canLay_of_shaped h.1
      have c2 : (D.lst xs).py.canLay0 = true := SeqAt.canLay_of_shaped h.2
      have r1 := Rep.dp _ _ ry c1
      have r2 := Rep.dp _ _ rx c2
      cases hj : xs.findIdx? (fun z => deq z dy) with
      | none => rw [hj] at e; cases e
      | some j =>
        rw [hj] at e
        cases e
        obtain ⟨h3, h4, h5⟩ := List.findIdx?_eq_some_iff_getElem.mp hj
        cases rx with
        | lst h1 np h2 =>
          refine ⟨_, y, dy.py, pys xs, j, xs[j].py, rfl, rfl, r2, r1, h.2, h.1, ?_, h4, fun m z' hm hz => ?_, q _ H (Same.refl _) (.int _)⟩
          · rw [pys_get, List.getElem?_eq_getElem h3]
            rfl
          · have hm' : m < xs.length := by omega
            rw [pys_get, List.getElem?_eq_getElem hm'] at hz
            cases hz
            have := h5 m hm
            exact Bool.eq_false_iff.mpr this
    · cases e
  · cases e
section
variable {X : Cx} {W : WY} {n : Nat} {ob e : Expr} {φo φa : Env' → M D} {ap cpos : Pos}
theorem dE_count (hu : X.A.units + 65 < cLine) (ho : DE X W ob φo) (ha : DE X W e φa) (hbase : attributeBase ob "count" X.env (eval ob X.env) = eval ob X.env := by rfl)
    (hfew : ((backTo cpos (starEach [e] X.env)).all (fun x => !x.1) && (backToKw cpos (keywordEach [] X.env)).all (fun x => x.1.isSome)
      && decide ([e].length + ([] : List Keyword).length + (if ([] : List Keyword).isEmpty then 0 else 1) < 30)) = true := by rfl)
    (hline : (ap.endLine == cpos.line) = true := by rfl) (hs : starEach [e] X.env = (false, eval e X.env) :: starEach [] X.env := by rfl) (hplain : (backTo cpos (starEach [] X.env)).any (·.1) = false := by rfl) :
    DE X W (.Call (.Attribute ob "count" ap) [e] [] cpos) (eMt oCount φo φa) := dE_mt1 (T := "list") PySem.F.slot_list_count PySem.F.type_list_count (mt_countD hu) pu_count ho ha hbase hfew hline hs hplain
theorem dE_index (hu : X.A.units + 65 < cLine) (ho : DE X W ob φo) (ha : DE X W e φa) (hbase : attributeBase ob "index" X.env (eval ob X.env) = eval ob X.env := by rfl)
    (hfew : ((backTo cpos (starEach [e] X.env)).all (fun x => !x.1) && (backToKw cpos (keywordEach [] X.env)).all (fun x => x.1.isSome)
      && decide ([e].length + ([] : List Keyword).length + (if ([] : List Keyword).isEmpty then 0 else 1) < 30)) = true := by rfl)
    (hline : (ap.endLine == cpos.line) = true := by rfl) (hs : starEach [e] X.env = (false, eval e X.env) :: starEach [] X.env := by rfl) (hplain : (backTo cpos (starEach [] X.env)).any (·.1) = false := by rfl) :
    DE X W (.Call (.Attribute ob "index" ap) [e] [] cpos) (eMt oIndex φo φa) := dE_mt1 (T := "list") PySem.F.slot_list_index PySem.F.type_list_index (mt_indexD hu) pu_index ho ha hbase hfew hline hs hplain
end
theorem roomH65 {n : Nat} {A : Around} (hr : L2H.RoomH n A) : A.units + 65 < cLine := by have := hr.un; omega
@[simp] theorem eMt_e (o : D → D → Option D) (a b : Env' → M D) (env : Env') : eMt o a b env = bnd (a env) fun x => if isL x = true then bnd (b env) fun y => opt (o x y) else fail := id rfl
@[simp] theorem isL_l (xs : List D) : isL (.lst xs) = true := id rfl
instance (o : D → D → Option D) {a b : Env' → M D} [x : MoE a] [y : MoE b] : MoE (eMt o a b) := ⟨fun e f h => (x.le e f h).bnd fun d => by
  cases isL d
  · exact MoM.fail
  · exact (y.le e f h).bnd fun _ => MoM.opt _⟩
end Den

set_option autoImplicit true
set_option Elab.async false
set_option linter.all false
set_option maxRecDepth 100000
set_option maxHeartbeats 2000000
set_option autoImplicit false
namespace Den
open PySem PySem.Spec PyProof.Rows L2
/-! ### functions as values -/
abbrev dFn (nm : Str) : D := .exc "()" nm .non
def isFn (nm : Str) : Option Slot → Bool
  | some (.sh (.exc t x .non)) => t == "()" && x == nm
  | _ => false
theorem isFn_get {nm : Str} {s : Option Slot} (h : isFn nm s = true) : s = some (.sh (dFn nm)) := by
  unfold isFn at h
  split at h
  · have := Bool.and_eq_true_iff.mp h
    rw [eq_of_beq this.1, eq_of_beq this.2]
  · cases h
@[simp] theorem isFn_self (nm : Str) : isFn nm (some (.sh (.exc "()" nm .non))) = true := by simp [isFn]
def eFn (i : Nat) (nm : Str) (ar : Nat) (φ : List D → M D) (χ : Env' → M (List D)) : Env' → M D := fun env => if isFn nm env[i]? = true then eCall ar φ χ env else fail
@[simp] theorem eFn_e (i : Nat) (nm : Str) (ar : Nat) (φ : List D → M D) (χ : Env' → M (List D)) (env : Env') : eFn i nm ar φ χ env = if isFn nm env[i]? = true then eCall ar φ χ env else fail := id rfl
theorem rep_fn {K : PySem.W.Frag} {H : Hp} {P : Addr → Prop} {k : KA} {nm : Str} {v : V} (h : Rep K H P k (dFn nm) v) : v = .ref (He.ga K nm) := by
  cases h with
  | fn => rfl
  | exc h0 => exact absurd rfl h0
  | ex0 h0 => exact absurd rfl h0
section
variable {X : Cx} {CX : CXT} {k i : Nat} {f : Addr} {fd : FuncData} {ps : List Str} {sp : Sp} {E : St → XK} {x : Str} {p pos : Pos} {e : Expr} {es : List Expr} {t : TA}
theorem pe_callVar (hv : PE X (.Name x p) (tVar i)) (F : FnOk X.prog X.w X.K X.mg X.base CX k f fd ps sp) (hr : Room k X.A) (hk : PySem.W.keepIn X.K (.ref f) = true) (hb : Binds X.K fd ps []) (hx : ∀ σ, PassesAt CX X σ (E σ))
    (ha : PA X (e :: es) t) (he : starEach (e :: es) X.env = (false, eval e X.env) :: starEach es X.env := by rfl) (hpl : (backTo pos (starEach es X.env)).any (·.1) = false := by rfl) :
    PE X (.Call (.Name x p) (e :: es) [] pos) (fun σ H Q => σ[i]? = some (some (.ref f)) ∧ tCallS sp E t σ H Q) := by
  refine ⟨fun pins s σ H Q I ⟨h0, h⟩ => ?_⟩
  refine wpAny_Call_Name_kw (thn (hv.run pins s σ H (fun v' H' => v' = .ref f ∧ H' = H) I ⟨_, h0, rfl, rfl⟩) fun u s1 ⟨v', H', I1, ru, ev, eH⟩ => ?_)
  subst ev eH
  obtain rfl : u = Value.ref f := ru
  refine PySem.W.callWith_K (h₀ := X.base) I1.ok.mod.kin hk (thn (ha.run pos pins s1 σ H' _ I1 h) fun us s2 ⟨vs, H1, I2, r, q⟩ => ⟨I2.kIn, ?_⟩) he hpl
  exact run_fnS F hr hb (hx σ) I2 r q
end
theorem dE_callV {X : Cx} {W : WY} {e : Expr} {es : List Expr} {χ : Env' → M (List D)} {ar k j i : Nat} {φ : List D → M D} {x nm : Str} {p pos : Pos} (O : OkF X.prog X.w X.K X.mg X.base nm ar k φ) (hm0 : X.mg nm = some (.ref (He.ga X.K nm))) (hv : PE X (.Name x p) (tVar i)) (hr : Room j X.A) (tk : L2N.Takes X W.w) (ha : DA X W (e :: es) χ)
    (hk : k ≤ j := by decide) (hx : W.ex = none := by rfl)
    (he : starEach (e :: es) X.env = (false, eval e X.env) :: starEach es X.env := by rfl) (hpl : (backTo pos (starEach es X.env)).any (·.1) = false := by rfl) : DE X W (.Call (.Name x p) (e :: es) [] pos) (eFn i nm ar φ χ) := by
  obtain ⟨a, fd, ps, hm, hkp, hb, F⟩ := O.ex
  rw [hm0] at hm
  obtain rfl : He.ga X.K nm = a := by cases hm; rfl
  have hr := hr.mono hk
  obtain ⟨w, wex⟩ := W
  have hx : wex = none := hx
  subst hx
  refine PE.imp (pe_callVar hv F hr hkp hb (fun σ => L2N.passAt tk σ) ha he hpl) fun σ H Q ⟨g, n, env, Qd, Ed, R0, p, q, r⟩ => ?_
  by_cases c : isFn nm env[i]? = true
  case neg =>
    have p' : (if isFn nm env[i]? = true then eCall ar φ χ env else fail) n Qd Ed := p
    rw [if_neg c] at p'
    exact p'.elim
  have p' : (if isFn nm env[i]? = true then eCall ar φ χ env else fail) n Qd Ed := p
  rw [if_pos c] at p'
  obtain ⟨v, hv1, hv2⟩ := R0.sh i _ (isFn_get c)
  rw [rep_fn hv2] at hv1
  refine ⟨hv1, g, n, env, _, _, R0, p', fun ds n' vs H' hd hr hf hk => ?_, r⟩
  have R1 := R0.frm hf hk
  have hd0 : (if ds.length = ar then φ ds else fail) n' Qd Ed := hd
  by_cases hl : ds.length = ar
  case neg =>
    rw [if_neg hl] at hd0
    exact hd0.elim
  rw [if_pos hl] at hd0
  refine ⟨g.k, pv g env σ, n', ds, Qd, Ed, hl, R1.there, fun a z => .inl (R0.kp a z), hk, hr, hd0, fun d n2 v H2 h1 h2 h3 h4 => q d n2 v H2 h1 h2 (hf.trans h3) h4, fun x n2 cls dd H2 h1 h2 h3 h4 => r x n2 cls dd H2 h1 h2 (hf.trans h3) h4⟩
theorem dE_fnv {X : Cx} {W : WY} {nm : Str} {pos : Pos} (hm : X.mg nm = some (.ref (He.ga X.K nm))) (hg : Gl X nm := by rfl) (hd : (nm == ("__debug__" : Str)) = false := by decide) : DE X W (.Name nm pos) (eC (dFn nm)) := by
  refine PE.imp (pe_glob (v := .ref (He.ga X.K nm)) hg hm rfl hd) fun σ H Q ⟨g, n, env, Qd, Ed, R, p, q, r⟩ => ?_
  exact q _ n _ H p (.fn _) (Frm.refl _ _) R.dk
instance {χ : Env' → M (List D)} (i : Nat) (nm : Str) (ar : Nat) (φ : List D → M D) [y : MoE (eCall ar φ χ)] : MoE (eFn i nm ar φ χ) := ⟨fun e f h n Q Q' E E' hq he q => by
  have q' : (if isFn nm e[i]? = true then eCall ar φ χ e else fail) n Q E := q
  by_cases c : isFn nm e[i]? = true
  · rw [if_pos c] at q'
    obtain ⟨t, ht, hs⟩ := h.get (isFn_get c)
    rcases hs with rfl | ⟨z, _⟩
    · have c2 : isFn nm f[i]? = true := by rw [ht]; exact isFn_self nm
      show (if isFn nm f[i]? = true then eCall ar φ χ f else fail) n Q' E'
      rw [if_pos c2]
      exact y.le e f h n Q Q' E E' hq he q'
    · cases z
  · rw [if_neg c] at q'
    exact q'.elim⟩
@[simp] theorem cool_fn (nm : Str) : cool (.exc "()" nm .non) = true := id rfl
end Den

set_option autoImplicit true
set_option Elab.async false
set_option linter.all false
set_option maxRecDepth 100000
set_option maxHeartbeats 4000000
set_option autoImplicit false
namespace Den
open PySem PySem.Spec PyProof.Rows L2 PySem.W PySem.SeqAt

/-! ### zip of three whose target is a name -/
section
variable {prog : Program} {w : World} {A : Around} {E : Value → Shared → Prop} {s : Shared} {z TI TO i1 i2 i3 : Addr} {fp1 fp2 fp3 : List Addr} {n1 n2 n3 i : Nat} {P1 P2 P3 : Nat → Value → Prop} {St1 St2 St3 : Nat → Heap → Prop} {a1 a2 a3 f0 : Value} {f1 : Bool}
theorem z3_next_item {Q : Value → Shared → Prop} (S : ZipSep3 z TI TO i1 i2 i3 fp1 fp2 fp3) (D1 : Draws prog w A i1 fp1 n1 P1 St1) (D2 : Draws prog w A i2 fp2 n2 P2 St2) (D3 : Draws prog w A i3 fp3 n3 P3 St3)
    (hz : IsZ s.heap z TI TO f0 f1) (hf : f0 = .none ∨ ∃ T : Addr, f0 = rawInt T) (hTI : IsTupOf3 s.heap TI (.ref i1) (.ref i2) (.ref i3)) (hTO : IsTupOf3 s.heap TO a1 a2 a3) (st1 : St1 i s.heap) (st2 : St2 i s.heap) (st3 : St3 i s.heap) (hlt1 : i < n1) (hlt2 : i < n2) (hlt3 : i < n3)
    (hQ : ∀ x1 x2 x3 h' tk, P1 i x1 → P2 i x2 → P3 i x3 → (∃ (T : Addr) (g : Bool), IsZ h' z TI TO (rawInt T) g) → (∃ b1 b2 b3, IsTupOf3 h' TO b1 b2 b3) → St1 (i + 1) h' → St2 (i + 1) h' → St3 (i + 1) h' → IsTupOf3 h' s.heap.objs.size x1 x2 x3 → h'.objs.size = s.heap.objs.size + 1 →
      (∀ c o, c ≠ z → c ≠ TO → c ≠ i1 → c ≠ i2 → c ≠ i3 → s.heap.get? c = some o → h'.get? c = some o) → Q (.ref s.heap.objs.size) { s with heap := h', toks := tk }) :
    wpAny (model prog w) A (Builtin.«zip.__next__» ⟨[.ref z], []⟩) (fun fin s' => ∃ v, fin = .done (.ret v) ∧ Q v s') E s := by
  obtain ⟨hp, g, d, tk0, os⟩ := s
  show wpAny _ _ (field (.ref z) 2 >>= _) _ _ _
  refine wpAny_bind (wpAny_field hz rfl (x := .bool false) rfl ?_)
  show wpAny _ _ (field (.ref z) 3 >>= _) _ _ _
  refine wpAny_bind (wpAny_field hz rfl (x := .ref TI) rfl ?_)
  refine wpAny_bind (wpAny_seqItems hTI rfl ?_)
  show wpAny _ _ (Builtin.SmallTypes.ownedTupleIsFree (.ref z) >>= _) _ _ _
  refine wpAny_bind (z_free hz hf ?_ fun T g0 eT hz0 hs0 => ?_)
  · simp only [if_true]
    refine wpAny_bind (wpAny_rule ?_)
    refine wpAny_bind (wpAny_field hz rfl (x := .ref TO) rfl ?_)
    refine wpAny_bind (wpAny_setField_rec hz (by simp) fun g0 hz0 hs0 => ?_)
    replace hz0 : IsZ g0 z TI TO .ellipsis f1 := hz0
    replace hs0 : Heap.SameBut z hp g0 := hs0
    refine wpAny_bind ?_
    simp only [List.zipIdx_cons, List.zipIdx_nil, List.forIn_cons, List.forIn_nil]
    refine wpAny_bind (wpAny_bind (wpAny_onRaise ?_))
    show wpAny _ _ (Builtin.SmallTypes.nextOf (.ref i1) >>= _) _ _ ⟨g0, g, d, tk0, os⟩
    refine wpAny_bind (D1.item i _ _ _ hlt1 (D1.over st1 hs0 S.zf1) fun x1 p1 tk1 hx1 sn1 hp1 => wpAny_pure ?_)
    replace hp1 : Heap.SameBut i1 g0 p1 := hp1
    have hU1 : IsTupOf3 p1 TO a1 a2 a3 := hp1.extBut _ _ S.Ti1 (hs0.extBut _ _ S.TOz hTO)
    refine wpAny_bind (wpAny_seqItems (s := ⟨p1, g, d, tk1, os⟩) hU1 rfl ?_)
    refine wpAny_bind (updateSeq_IsTupOf3 (s := ⟨p1, g, d, tk1, os⟩) hU1 fun g1 hT1 hs1 => ?_)
    replace hT1 : IsTupOf3 g1 TO x1 a2 a3 := hT1
    replace hs1 : Heap.SameBut TO p1 g1 := hs1
    refine wpAny_bind (wpAny_letGo (wpAny_pure ?_))
    refine wpAny_bind (wpAny_bind (wpAny_onRaise ?_))
    show wpAny _ _ (Builtin.SmallTypes.nextOf (.ref i2) >>= _) _ _ ⟨g1, g, d, tk1, os⟩
    refine wpAny_bind (D2.item i _ _ _ hlt2 (D2.over (D2.over (D2.over st2 hs0 S.zf2) hp1 S.sep1_2) hs1 S.Tf2) fun x2 p2 tk2 hx2 sn2 hp2 => wpAny_pure ?_)
    replace hp2 : Heap.SameBut i2 g1 p2 := hp2
    have hU2 : IsTupOf3 p2 TO x1 a2 a3 := hp2.extBut _ _ S.Ti2 hT1
    refine wpAny_bind (wpAny_seqItems (s := ⟨p2, g, d, tk2, os⟩) hU2 rfl ?_)
    refine wpAny_bind (updateSeq_IsTupOf3 (s := ⟨p2, g, d, tk2, os⟩) hU2 fun g2 hT2 hs2 => ?_)
    replace hT2 : IsTupOf3 g2 TO x1 x2 a3 := hT2
    replace hs2 : Heap.SameBut TO p2 g2 := hs2
    refine wpAny_bind (wpAny_letGo (wpAny_pure ?_))
    refine wpAny_bind (wpAny_bind (wpAny_onRaise ?_))
    show wpAny _ _ (Builtin.SmallTypes.nextOf (.ref i3) >>= _) _ _ ⟨g2, g, d, tk2, os⟩
    refine wpAny_bind (D3.item i _ _ _ hlt3 (D3.over (D3.over (D3.over (D3.over (D3.over st3 hs0 S.zf3) hp1 S.sep1_3) hs1 S.Tf3) hp2 S.sep2_3) hs2 S.Tf3) fun x3 p3 tk3 hx3 sn3 hp3 => wpAny_pure ?_)
    replace hp3 : Heap.SameBut i3 g2 p3 := hp3
    have hU3 : IsTupOf3 p3 TO x1 x2 a3 := hp3.extBut _ _ S.Ti3 hT2
    refine wpAny_bind (wpAny_seqItems (s := ⟨p3, g, d, tk3, os⟩) hU3 rfl ?_)
    refine wpAny_bind (updateSeq_IsTupOf3 (s := ⟨p3, g, d, tk3, os⟩) hU3 fun g3 hT3 hs3 => ?_)
    replace hT3 : IsTupOf3 g3 TO x1 x2 x3 := hT3
    replace hs3 : Heap.SameBut TO p3 g3 := hs3
    refine wpAny_bind (wpAny_letGo (wpAny_pure (wpAny_pure ?_)))
    refine wpAny_bind (wpAny_seqItems (s := ⟨g3, g, d, tk3, os⟩) hT3 rfl ?_)
    refine wpAny_bind (wpAny_newTuple ?_)
    have hsz : g3.objs.size = hp.objs.size := by rw [hs3.1, hp3.1, hs2.1, hp2.1, hs1.1, hp1.1, hs0.1]
    have hzz : IsZ g3 z TI TO .ellipsis f1 := (hs3.extBut _ _ S.TOz.symm (hp3.extBut _ _ S.zi3 (hs2.extBut _ _ S.TOz.symm (hp2.extBut _ _ S.zi2 (hs1.extBut _ _ S.TOz.symm (hp1.extBut _ _ S.zi1 hz0))))))
    have hkk : ∀ c o, c ≠ z → c ≠ TO → c ≠ i1 → c ≠ i2 → c ≠ i3 → hp.get? c = some o → g3.get? c = some o := fun c o cz cT c1 c2 c3 e =>
      (hs3.extBut _ _ cT (hp3.extBut _ _ c3 (hs2.extBut _ _ cT (hp2.extBut _ _ c2 (hs1.extBut _ _ cT (hp1.extBut _ _ c1 (hs0.extBut _ _ cz e)))))))
    have hj1 : St1 (i + 1) g3 := (D1.over (D1.over (D1.over (D1.over (D1.over sn1 hs1 S.Tf1) hp2 S.sep2_1) hs2 S.Tf1) hp3 S.sep3_1) hs3 S.Tf1)
    have hj2 : St2 (i + 1) g3 := (D2.over (D2.over (D2.over sn2 hs2 S.Tf2) hp3 S.sep3_2) hs3 S.Tf2)
    have hj3 : St3 (i + 1) g3 := (D3.over sn3 hs3 S.Tf3)
    have hzlt : z < g3.objs.size := Heap.lt_size hzz
    show wpAny _ _ (Builtin.SmallTypes.ownedTupleHandOut (.ref z) (.ref g3.objs.size) >>= _) _ _ ⟨g3.push { cls := .type "tuple", data := .seq #[x1, x2, x3] }, g, d, tk3, os⟩
    refine wpAny_bind ?_
    unfold Builtin.SmallTypes.ownedTupleHandOut
    have hz₆ : IsZ (g3.push { cls := .type "tuple", data := .seq #[x1, x2, x3] }) z TI TO .ellipsis f1 := Heap.get?_push_of_some _ hzz
    refine wpAny_bind (wpAny_setField_rec hz₆ (by simp) fun h₇ hz₇ hs₇ => ?_)
    replace hz₇ : IsZ h₇ z TI TO (rawInt g3.objs.size) f1 := hz₇
    refine wpAny_setField_rec hz₇ (by simp) fun h₈ hz₈ hs₈ => ?_
    replace hz₈ : IsZ h₈ z TI TO (rawInt g3.objs.size) false := hz₈
    replace hs₇ : Heap.SameBut z (g3.push { cls := .type "tuple", data := .seq #[x1, x2, x3] }) h₇ := hs₇
    replace hs₈ : Heap.SameBut z h₇ h₈ := hs₈
    have up : ∀ c o, c ≠ z → g3.get? c = some o → h₈.get? c = some o := fun c o c1 e => hs₈.extBut _ _ c1 (hs₇.extBut _ _ c1 (Heap.get?_push_of_some _ e))
    have hT₈ : IsTupOf3 h₈ g3.objs.size x1 x2 x3 := hs₈.extBut _ _ (Nat.ne_of_gt hzlt) (hs₇.extBut _ _ (Nat.ne_of_gt hzlt) (Heap.get?_push_size _ rfl))
    have hz8 : h₈.objs.size = g3.objs.size + 1 := by rw [hs₈.1, hs₇.1, Heap.size_push]
    rw [hsz] at hz₈ hT₈ hz8
    refine wpAny_pure ⟨_, rfl, ?_⟩
    show Q (.ref g3.objs.size) ⟨h₈, g, d, tk3, os⟩
    rw [hsz]
    exact hQ x1 x2 x3 h₈ tk3 hx1 hx2 hx3 ⟨_, _, hz₈⟩ ⟨_, _, _, up _ _ S.TOz hT3⟩ (D1.frame _ _ _ hj1 fun b hb o e => up b o (fun q => S.zf1 (q ▸ hb)) e) (D2.frame _ _ _ hj2 fun b hb o e => up b o (fun q => S.zf2 (q ▸ hb)) e) (D3.frame _ _ _ hj3 fun b hb o e => up b o (fun q => S.zf3 (q ▸ hb)) e) hT₈ hz8 fun c o cz cT c1 c2 c3 e => up c o cz (hkk c o cz cT c1 c2 c3 e)
  · replace hs0 : Heap.SameBut z hp g0 := hs0
    simp only [Bool.false_eq_true, if_false]
    refine wpAny_bind ?_
    rw [← Array.forIn_toList]
    simp only [List.forIn_cons, List.forIn_nil]
    refine wpAny_bind (wpAny_bind (wpAny_holding ?_))
    show wpAny _ _ (Builtin.SmallTypes.nextOf (.ref i1) >>= _) _ _ ⟨g0, g, d, tk0, os⟩
    refine wpAny_bind (D1.item i _ _ _ hlt1 (D1.over st1 hs0 S.zf1) fun x1 p1 tk1 hx1 sn1 hp1 => wpAny_pure ?_)
    replace hp1 : Heap.SameBut i1 g0 p1 := hp1
    refine wpAny_pure ?_
    refine wpAny_bind (wpAny_bind (wpAny_holding ?_))
    show wpAny _ _ (Builtin.SmallTypes.nextOf (.ref i2) >>= _) _ _ ⟨p1, g, d, tk1, os⟩
    refine wpAny_bind (D2.item i _ _ _ hlt2 (D2.over (D2.over st2 hs0 S.zf2) hp1 S.sep1_2) fun x2 p2 tk2 hx2 sn2 hp2 => wpAny_pure ?_)
    replace hp2 : Heap.SameBut i2 p1 p2 := hp2
    refine wpAny_pure ?_
    refine wpAny_bind (wpAny_bind (wpAny_holding ?_))
    show wpAny _ _ (Builtin.SmallTypes.nextOf (.ref i3) >>= _) _ _ ⟨p2, g, d, tk2, os⟩
    refine wpAny_bind (D3.item i _ _ _ hlt3 (D3.over (D3.over (D3.over st3 hs0 S.zf3) hp1 S.sep1_3) hp2 S.sep2_3) fun x3 p3 tk3 hx3 sn3 hp3 => wpAny_pure ?_)
    replace hp3 : Heap.SameBut i3 p2 p3 := hp3
    refine wpAny_pure (wpAny_pure ?_)
    show wpAny _ _ (newTuple [x1, x2, x3] >>= _) _ _ ⟨p3, g, d, tk3, os⟩
    refine wpAny_bind (wpAny_newTuple ?_)
    have hsz : p3.objs.size = hp.objs.size := by rw [hp3.1, hp2.1, hp1.1, hs0.1]
    have hzz : IsZ p3 z TI TO f0 true := hp3.extBut _ _ S.zi3 (hp2.extBut _ _ S.zi2 (hp1.extBut _ _ S.zi1 hz0))
    have hTT : IsTupOf3 p3 TO a1 a2 a3 := hp3.extBut _ _ S.Ti3 (hp2.extBut _ _ S.Ti2 (hp1.extBut _ _ S.Ti1 (hs0.extBut _ _ S.TOz hTO)))
    have hkk : ∀ c o, c ≠ z → c ≠ TO → c ≠ i1 → c ≠ i2 → c ≠ i3 → hp.get? c = some o → p3.get? c = some o := fun c o cz cT c1 c2 c3 e =>
      hp3.extBut _ _ c3 (hp2.extBut _ _ c2 (hp1.extBut _ _ c1 (hs0.extBut _ _ cz e)))
    have hj1 : St1 (i + 1) p3 := D1.over (D1.over sn1 hp2 S.sep2_1) hp3 S.sep3_1
    have hj2 : St2 (i + 1) p3 := D2.over sn2 hp3 S.sep3_2
    have up : ∀ c o, p3.get? c = some o → (p3.push { cls := .type "tuple", data := .seq #[x1, x2, x3] }).get? c = some o := fun c o e => Heap.get?_push_of_some _ e
    have hT8 : IsTupOf3 (p3.push { cls := .type "tuple", data := .seq #[x1, x2, x3] }) p3.objs.size x1 x2 x3 := Heap.get?_push_size _ rfl
    have hz8 : (p3.push { cls := .type "tuple", data := .seq #[x1, x2, x3] }).objs.size = p3.objs.size + 1 := Heap.size_push ..
    refine wpAny_pure ⟨_, rfl, ?_⟩
    show Q (.ref p3.objs.size) ⟨p3.push { cls := .type "tuple", data := .seq #[x1, x2, x3] }, g, d, tk3, os⟩
    rw [hsz] at hT8 hz8 ⊢
    exact hQ x1 x2 x3 _ tk3 hx1 hx2 hx3 ⟨T, true, by rw [← eT]; exact up _ _ hzz⟩ ⟨_, _, _, up _ _ hTT⟩ (D1.frame _ _ _ hj1 fun b _ o e => up b o e) (D2.frame _ _ _ hj2 fun b _ o e => up b o e) (D3.frame _ _ _ sn3 fun b _ o e => up b o e) hT8 hz8 fun c o cz cT c1 c2 c3 e => up c o (hkk c o cz cT c1 c2 c3 e)
theorem z3_next_end {Q : Fin → Shared → Prop} (S : ZipSep3 z TI TO i1 i2 i3 fp1 fp2 fp3) (D1 : Draws prog w A i1 fp1 n1 P1 St1) (D2 : Draws prog w A i2 fp2 n2 P2 St2) (D3 : Draws prog w A i3 fp3 n3 P3 St3)
    (hz : IsZ s.heap z TI TO f0 f1) (hf : f0 = .none ∨ ∃ T : Addr, f0 = rawInt T) (hTI : IsTupOf3 s.heap TI (.ref i1) (.ref i2) (.ref i3)) (hTO : IsTupOf3 s.heap TO a1 a2 a3) (st1 : St1 i s.heap) (st2 : St2 i s.heap) (st3 : St3 i s.heap) (hle1 : i ≤ n1) (hle2 : i ≤ n2) (hle3 : i ≤ n3) (hend : i = n1 ∨ i = n2 ∨ i = n3)
    (hE : ∀ h' tk e, (∀ c o, c ≠ z → c ≠ TO → c ≠ i1 → c ≠ i2 → c ≠ i3 → s.heap.get? c = some o → h'.get? c = some o) → (∃ o, h'.get? e = some o ∧ o.cls = .type "StopIteration") → E (.ref e) { s with heap := h', toks := tk }) :
    wpAny (model prog w) A (Builtin.«zip.__next__» ⟨[.ref z], []⟩) Q E s := by
  obtain ⟨hp, g, d, tk0, os⟩ := s
  show wpAny _ _ (field (.ref z) 2 >>= _) _ _ _
  refine wpAny_bind (wpAny_field hz rfl (x := .bool false) rfl ?_)
  show wpAny _ _ (field (.ref z) 3 >>= _) _ _ _
  refine wpAny_bind (wpAny_field hz rfl (x := .ref TI) rfl ?_)
  refine wpAny_bind (wpAny_seqItems hTI rfl ?_)
  show wpAny _ _ (Builtin.SmallTypes.ownedTupleIsFree (.ref z) >>= _) _ _ _
  refine wpAny_bind (z_free hz hf ?_ fun T g0 eT hz0 hs0 => ?_)
  · simp only [if_true]
    refine wpAny_bind (wpAny_rule ?_)
    refine wpAny_bind (wpAny_field hz rfl (x := .ref TO) rfl ?_)
    refine wpAny_bind (wpAny_setField_rec hz (by simp) fun g0 hz0 hs0 => ?_)
    replace hz0 : IsZ g0 z TI TO .ellipsis f1 := hz0
    replace hs0 : Heap.SameBut z hp g0 := hs0
    refine wpAny_bind ?_
    simp only [List.zipIdx_cons, List.zipIdx_nil, List.forIn_cons, List.forIn_nil]
    refine wpAny_bind (wpAny_bind (wpAny_onRaise ?_))
    show wpAny _ _ (Builtin.SmallTypes.nextOf (.ref i1) >>= _) _ _ ⟨g0, g, d, tk0, os⟩
    by_cases hlt1 : i < n1
    · refine wpAny_bind (D1.item i _ _ _ hlt1 (D1.over st1 hs0 S.zf1) fun x1 p1 tk1 hx1 sn1 hp1 => wpAny_pure ?_)
      replace hp1 : Heap.SameBut i1 g0 p1 := hp1
      have hU1 : IsTupOf3 p1 TO a1 a2 a3 := hp1.extBut _ _ S.Ti1 (hs0.extBut _ _ S.TOz hTO)
      refine wpAny_bind (wpAny_seqItems (s := ⟨p1, g, d, tk1, os⟩) hU1 rfl ?_)
      refine wpAny_bind (updateSeq_IsTupOf3 (s := ⟨p1, g, d, tk1, os⟩) hU1 fun g1 hT1 hs1 => ?_)
      replace hT1 : IsTupOf3 g1 TO x1 a2 a3 := hT1
      replace hs1 : Heap.SameBut TO p1 g1 := hs1
      refine wpAny_bind (wpAny_letGo (wpAny_pure ?_))
      refine wpAny_bind (wpAny_bind (wpAny_onRaise ?_))
      show wpAny _ _ (Builtin.SmallTypes.nextOf (.ref i2) >>= _) _ _ ⟨g1, g, d, tk1, os⟩
      by_cases hlt2 : i < n2
      · refine wpAny_bind (D2.item i _ _ _ hlt2 (D2.over (D2.over (D2.over st2 hs0 S.zf2) hp1 S.sep1_2) hs1 S.Tf2) fun x2 p2 tk2 hx2 sn2 hp2 => wpAny_pure ?_)
        replace hp2 : Heap.SameBut i2 g1 p2 := hp2
        have hU2 : IsTupOf3 p2 TO x1 a2 a3 := hp2.extBut _ _ S.Ti2 hT1
        refine wpAny_bind (wpAny_seqItems (s := ⟨p2, g, d, tk2, os⟩) hU2 rfl ?_)
        refine wpAny_bind (updateSeq_IsTupOf3 (s := ⟨p2, g, d, tk2, os⟩) hU2 fun g2 hT2 hs2 => ?_)
        replace hT2 : IsTupOf3 g2 TO x1 x2 a3 := hT2
        replace hs2 : Heap.SameBut TO p2 g2 := hs2
        refine wpAny_bind (wpAny_letGo (wpAny_pure ?_))
        have hi3 : i = n3 := by omega
        refine wpAny_bind (wpAny_bind (wpAny_onRaise ?_))
        show wpAny _ _ (Builtin.SmallTypes.nextOf (.ref i3) >>= _) _ _ ⟨g2, g, d, tk2, os⟩
        refine wpAny_bind (D3.done ⟨g2, g, d, tk2, os⟩ _ _ (by rw [← hi3]; exact (D3.over (D3.over (D3.over (D3.over (D3.over st3 hs0 S.zf3) hp1 S.sep1_3) hs1 S.Tf3) hp2 S.sep2_3) hs2 S.Tf3)) fun q e hq he => ?_)
        replace hq : Heap.ExtBut i3 g2 q := hq
        obtain ⟨oe, hoe, hce⟩ := he
        replace hoe : q.get? e = some oe := hoe
        have hzq : IsZ q z TI TO .ellipsis f1 := hq _ _ S.zi3 (hs2.extBut _ _ S.TOz.symm (hp2.extBut _ _ S.zi2 (hs1.extBut _ _ S.TOz.symm (hp1.extBut _ _ S.zi1 hz0))))
        have hez : e ≠ z := fun x => by subst x; rw [hzq] at hoe; cases hoe; simp at hce
        refine wpAny_setField_rec (s := ⟨q, g, d, tk2, os⟩) hzq (by simp) fun q' _ hq' => ?_
        replace hq' : Heap.SameBut z q q' := hq'
        exact hE q' tk2 e (fun c o cz cT c1 c2 c3 x => hq'.extBut _ _ cz (hq _ _ c3 (hs2.extBut _ _ cT (hp2.extBut _ _ c2 (hs1.extBut _ _ cT (hp1.extBut _ _ c1 (hs0.extBut _ _ cz x))))))) ⟨oe, hq'.extBut _ _ hez hoe, hce⟩
      · have hi2 : i = n2 := by omega
        refine wpAny_bind (D2.done ⟨g1, g, d, tk1, os⟩ _ _ (by rw [← hi2]; exact D2.over (D2.over (D2.over st2 hs0 S.zf2) hp1 S.sep1_2) hs1 S.Tf2) fun q e hq he => ?_)
        replace hq : Heap.ExtBut i2 g1 q := hq
        obtain ⟨oe, hoe, hce⟩ := he
        replace hoe : q.get? e = some oe := hoe
        have hzq : IsZ q z TI TO .ellipsis f1 := hq _ _ S.zi2 (hs1.extBut _ _ S.TOz.symm (hp1.extBut _ _ S.zi1 hz0))
        have hez : e ≠ z := fun x => by subst x; rw [hzq] at hoe; cases hoe; simp at hce
        refine wpAny_setField_rec (s := ⟨q, g, d, tk1, os⟩) hzq (by simp) fun q' _ hq' => ?_
        replace hq' : Heap.SameBut z q q' := hq'
        exact hE q' tk1 e (fun c o cz cT c1 c2 c3 x => hq'.extBut _ _ cz (hq _ _ c2 (hs1.extBut _ _ cT (hp1.extBut _ _ c1 (hs0.extBut _ _ cz x))))) ⟨oe, hq'.extBut _ _ hez hoe, hce⟩
    · have hi1 : i = n1 := by omega
      refine wpAny_bind (D1.done ⟨g0, g, d, tk0, os⟩ _ _ (by rw [← hi1]; exact D1.over st1 hs0 S.zf1) fun q e hq he => ?_)
      replace hq : Heap.ExtBut i1 g0 q := hq
      obtain ⟨oe, hoe, hce⟩ := he
      replace hoe : q.get? e = some oe := hoe
      have hzq : IsZ q z TI TO .ellipsis f1 := hq _ _ S.zi1 hz0
      have hez : e ≠ z := fun x => by subst x; rw [hzq] at hoe; cases hoe; simp at hce
      refine wpAny_setField_rec (s := ⟨q, g, d, tk0, os⟩) hzq (by simp) fun q' _ hq' => ?_
      replace hq' : Heap.SameBut z q q' := hq'
      exact hE q' tk0 e (fun c o cz cT c1 c2 c3 x => hq'.extBut _ _ cz (hq _ _ c1 (hs0.extBut _ _ cz x))) ⟨oe, hq'.extBut _ _ hez hoe, hce⟩
  · replace hs0 : Heap.SameBut z hp g0 := hs0
    simp only [Bool.false_eq_true, if_false]
    refine wpAny_bind ?_
    rw [← Array.forIn_toList]
    simp only [List.forIn_cons, List.forIn_nil]
    refine wpAny_bind (wpAny_bind (wpAny_holding ?_))
    show wpAny _ _ (Builtin.SmallTypes.nextOf (.ref i1) >>= _) _ _ ⟨g0, g, d, tk0, os⟩
    by_cases hlt1 : i < n1
    · refine wpAny_bind (D1.item i _ _ _ hlt1 (D1.over st1 hs0 S.zf1) fun x1 p1 tk1 hx1 sn1 hp1 => wpAny_pure ?_)
      replace hp1 : Heap.SameBut i1 g0 p1 := hp1
      refine wpAny_pure ?_
      refine wpAny_bind (wpAny_bind (wpAny_holding ?_))
      show wpAny _ _ (Builtin.SmallTypes.nextOf (.ref i2) >>= _) _ _ ⟨p1, g, d, tk1, os⟩
      by_cases hlt2 : i < n2
      · refine wpAny_bind (D2.item i _ _ _ hlt2 (D2.over (D2.over st2 hs0 S.zf2) hp1 S.sep1_2) fun x2 p2 tk2 hx2 sn2 hp2 => wpAny_pure ?_)
        replace hp2 : Heap.SameBut i2 p1 p2 := hp2
        refine wpAny_pure ?_
        have hi3 : i = n3 := by omega
        refine wpAny_bind (wpAny_bind (wpAny_holding ?_))
        show wpAny _ _ (Builtin.SmallTypes.nextOf (.ref i3) >>= _) _ _ ⟨p2, g, d, tk2, os⟩
        refine wpAny_bind (D3.done ⟨p2, g, d, tk2, os⟩ _ _ (by rw [← hi3]; exact D3.over (D3.over (D3.over st3 hs0 S.zf3) hp1 S.sep1_3) hp2 S.sep2_3) fun q e hq he => ?_)
        replace hq : Heap.ExtBut i3 p2 q := hq
        exact hE q tk2 e (fun c o cz cT c1 c2 c3 x => hq _ _ c3 (hp2.extBut _ _ c2 (hp1.extBut _ _ c1 (hs0.extBut _ _ cz x)))) he
      · have hi2 : i = n2 := by omega
        refine wpAny_bind (D2.done ⟨p1, g, d, tk1, os⟩ _ _ (by rw [← hi2]; exact D2.over (D2.over st2 hs0 S.zf2) hp1 S.sep1_2) fun q e hq he => ?_)
        replace hq : Heap.ExtBut i2 p1 q := hq
        exact hE q tk1 e (fun c o cz cT c1 c2 c3 x => hq _ _ c2 (hp1.extBut _ _ c1 (hs0.extBut _ _ cz x))) he
    · have hi1 : i = n1 := by omega
      refine wpAny_bind (D1.done ⟨g0, g, d, tk0, os⟩ _ _ (by rw [← hi1]; exact D1.over st1 hs0 S.zf1) fun q e hq he => ?_)
      replace hq : Heap.ExtBut i1 g0 q := hq
      exact hE q tk0 e (fun c o cz cT c1 c2 c3 x => hq _ _ c1 (hs0.extBut _ _ cz x)) he
theorem z3_pyNext_item {Q : Option Value → Shared → Prop} (S : ZipSep3 z TI TO i1 i2 i3 fp1 fp2 fp3) (D1 : Draws prog w A.in1 i1 fp1 n1 P1 St1) (D2 : Draws prog w A.in1 i2 fp2 n2 P2 St2) (D3 : Draws prog w A.in1 i3 fp3 n3 P3 St3)
    (hz : IsZ s.heap z TI TO f0 f1) (hf : f0 = .none ∨ ∃ T : Addr, f0 = rawInt T) (hTI : IsTupOf3 s.heap TI (.ref i1) (.ref i2) (.ref i3)) (hTO : IsTupOf3 s.heap TO a1 a2 a3) (st1 : St1 i s.heap) (st2 : St2 i s.heap) (st3 : St3 i s.heap) (hlt1 : i < n1) (hlt2 : i < n2) (hlt3 : i < n3)
    (hQ : ∀ x1 x2 x3 h' tk, P1 i x1 → P2 i x2 → P3 i x3 → (∃ (T : Addr) (g : Bool), IsZ h' z TI TO (rawInt T) g) → (∃ b1 b2 b3, IsTupOf3 h' TO b1 b2 b3) → St1 (i + 1) h' → St2 (i + 1) h' → St3 (i + 1) h' → IsTupOf3 h' s.heap.objs.size x1 x2 x3 → h'.objs.size = s.heap.objs.size + 1 →
      (∀ c o, c ≠ z → c ≠ TO → c ≠ i1 → c ≠ i2 → c ≠ i3 → s.heap.get? c = some o → h'.get? c = some o) → Q (some (.ref s.heap.objs.size)) { s with heap := h', toks := tk }) :
    wpAny (model prog w) A (pyNext (.ref z)) Q E s := by
  have hT : s.TypeIs (.ref z) "zip" := ⟨_, hz, rfl⟩
  unfold pyNext
  exact wpAny_bind (wpAny_attempt (wpAny_callSpecial?_slot (name := Str.ofString "__next__") hT F.slot_zip_next
    (wpAny_call_entry F.slot_zip_next hT F.entry_zip_next
      (z3_next_item S D1 D2 D3 hz hf hTI hTO st1 st2 st3 hlt1 hlt2 hlt3 fun x1 x2 x3 h' tk y1 y2 y3 b1 b2 d1 d2 d3 b5 b6 b7 => wpAny_pure (hQ x1 x2 x3 h' tk y1 y2 y3 b1 b2 d1 d2 d3 b5 b6 b7)) (F.args_zip_next_1 _))))
theorem z3_pyNext_end {Q : Option Value → Shared → Prop} (S : ZipSep3 z TI TO i1 i2 i3 fp1 fp2 fp3) (D1 : Draws prog w A.in1 i1 fp1 n1 P1 St1) (D2 : Draws prog w A.in1 i2 fp2 n2 P2 St2) (D3 : Draws prog w A.in1 i3 fp3 n3 P3 St3)
    (hz : IsZ s.heap z TI TO f0 f1) (hf : f0 = .none ∨ ∃ T : Addr, f0 = rawInt T) (hTI : IsTupOf3 s.heap TI (.ref i1) (.ref i2) (.ref i3)) (hTO : IsTupOf3 s.heap TO a1 a2 a3) (st1 : St1 i s.heap) (st2 : St2 i s.heap) (st3 : St3 i s.heap) (hle1 : i ≤ n1) (hle2 : i ≤ n2) (hle3 : i ≤ n3) (hend : i = n1 ∨ i = n2 ∨ i = n3)
    (hQ : ∀ h' tk, (∀ c o, c ≠ z → c ≠ TO → c ≠ i1 → c ≠ i2 → c ≠ i3 → s.heap.get? c = some o → h'.get? c = some o) → Q none { s with heap := h', toks := tk }) : wpAny (model prog w) A (pyNext (.ref z)) Q E s := by
  have hT : s.TypeIs (.ref z) "zip" := ⟨_, hz, rfl⟩
  unfold pyNext
  refine wpAny_bind (wpAny_attempt (wpAny_callSpecial?_slot (name := Str.ofString "__next__") hT F.slot_zip_next
    (wpAny_call_entry F.slot_zip_next hT F.entry_zip_next (z3_next_end S D1 D2 D3 hz hf hTI hTO st1 st2 st3 hle1 hle2 hle3 hend fun h' tk e hk he => ?_) (F.args_zip_next_1 _))))
  obtain ⟨o, ho, hc⟩ := he
  refine wpAny_bind (wpAny_isInstance (T := "StopIteration") (b := true) ⟨o, ho, hc⟩ isSubtype_stop ?_)
  exact wpAny_pure (hQ _ _ hk)
end
/-! ### the turn -/
def It3 (K : PySem.W.Frag) (t1 t2 t3 : Bool) (a b c : Addr) : It :=
  ⟨fun i H => ∃ (xs ys zs : List V) (x y z : V), SqK K t1 H a xs ∧ SqK K t2 H b ys ∧ SqK K t3 H c zs ∧ xs[i]? = some x ∧ ys[i]? = some y ∧ zs[i]? = some z,
    fun i H v H' => ∃ T x y z, v = .ref T ∧ H T = none ∧ H' = upd H T (.tup [x, y, z]) ∧ (∀ xs, SqK K t1 H a xs → xs[i]? = some x) ∧ (∀ ys, SqK K t2 H b ys → ys[i]? = some y) ∧ ∀ zs, SqK K t3 H c zs → zs[i]? = some z,
    fun i H => ∃ xs ys zs : List V, SqK K t1 H a xs ∧ SqK K t2 H b ys ∧ SqK K t3 H c zs ∧ i ≤ xs.length ∧ i ≤ ys.length ∧ i ≤ zs.length ∧ (xs.length = i ∨ ys.length = i ∨ zs.length = i)⟩
theorem turn_zip3 {P : Program} {w : World} {K : PySem.W.Frag} {nm : Str} {npos : Pos} {t1 t2 t3 : Bool} {a b c3 z TI TO i1 i2 i3 : Addr} (S : ZipSep3 z TI TO i1 i2 i3 [i1, a] [i2, b] [i3, c3]) (n1 : a ≠ i1) (n2 : b ≠ i2) (n3 : c3 ≠ i3) :
    Turn P w K (.Name nm npos) (It3 K t1 t2 t3 a b c3) [z, TI, TO, i1, i2, i3] z (fun i h => (∃ f0 f1, IsZ h z TI TO f0 f1 ∧ (f0 = .none ∨ ∃ T : Addr, f0 = rawInt T)) ∧ IsTupOf3 h TI (.ref i1) (.ref i2) (.ref i3) ∧ (∃ x y u, IsTupOf3 h TO x y u) ∧ ItK t1 h i1 a i ∧ ItK t2 h i2 b i ∧ ItK t3 h i3 c3 i) where
  mem := by simp
  obj := fun i h st c hc => by
    obtain ⟨⟨f0, f1, hz, hf⟩, hTI, ⟨x, y, u, hTO⟩, h1, h2, h3⟩ := st
    have e' : c = z ∨ c = TI ∨ c = TO ∨ c = i1 ∨ c = i2 ∨ c = i3 := by simpa using hc
    rcases e' with q | q | q | q | q | q
    · rw [q]; exact ⟨_, hz, fun v q => nomatch q⟩
    · rw [q]; exact ⟨_, hTI, fun v q => nomatch q⟩
    · rw [q]; exact ⟨_, hTO, fun v q => nomatch q⟩
    · rw [q]; exact h1.obj
    · rw [q]; exact h2.obj
    · rw [q]; exact h3.obj
  keep := fun i h h' st k => by
    obtain ⟨⟨f0, f1, hz, hf⟩, hTI, ⟨x, y, u, hTO⟩, h1, h2, h3⟩ := st
    exact ⟨⟨f0, f1, k z (by simp) _ hz, hf⟩, k TI (by simp) _ hTI, ⟨x, y, u, k TO (by simp) _ hTO⟩, h1.at fun o q => k i1 (by simp) o q, h2.at fun o q => k i2 (by simp) o q, h3.at fun o q => k i3 (by simp) o q⟩
  item := by
    intro X hP hw hK hc i pins s σ H E I hf st hg
    subst hP hw hK
    obtain ⟨⟨f0, f1, hz, hf0⟩, hTI, ⟨x0, y0, u0, hTO⟩, h1, h2, h3⟩ := st
    obtain ⟨xs, ys, zs, x, y, zz, hqx, hqy, hqz, hx, hy, hzz⟩ := hg
    obtain ⟨its, rv, p⟩ := Inv.seqK I hqx
    obtain ⟨its2, rv2, p2⟩ := Inv.seqK I hqy
    obtain ⟨its3, rv3, p3⟩ := Inv.seqK I hqz
    obtain ⟨u, hu, ru⟩ := rv.get hx
    obtain ⟨u2, hu2, ru2⟩ := rv2.get hy
    obtain ⟨u3, hu3, ru3⟩ := rv3.get hzz
    have l1 : i < its.toArray.size := by simpa using (List.getElem?_eq_some_iff.mp hu).1
    have l2 : i < its2.toArray.size := by simpa using (List.getElem?_eq_some_iff.mp hu2).1
    have l3 : i < its3.toArray.size := by simpa using (List.getElem?_eq_some_iff.mp hu3).1
    have hzl : z < s.heap.objs.size := Heap.lt_size hz
    have hcal : X.A.in1.handled = none := I.ok.hd hc
    refine z3_pyNext_item S (drawsK hcal t1 i1 a n1 its.toArray) (drawsK hcal t2 i2 b n2 its2.toArray) (drawsK hcal t3 i3 c3 n3 its3.toArray) hz hf0 hTI hTO ⟨h1, p⟩ ⟨h2, p2⟩ ⟨h3, p3⟩ l1 l2 l3 fun x1 x2 x3 h' tk e1 e2 e3 z' TO' h1' h2' h3' hT hsz hk => ?_
    have e1' : u = x1 := by
      have q : its.toArray[i]? = some u := by simpa using hu
      rw [e1] at q; exact (Option.some.inj q).symm
    have e2' : u2 = x2 := by
      have q : its2.toArray[i]? = some u2 := by simpa using hu2
      rw [e2] at q; exact (Option.some.inj q).symm
    have e3' : u3 = x3 := by
      have q : its3.toArray[i]? = some u3 := by simpa using hu3
      rw [e3] at q; exact (Option.some.inj q).symm
    subst e1' e2' e3'
    refine ⟨_, rfl, wpAny_pure ?_⟩
    have new : ObjOk X.prog X.w (upd H s.heap.objs.size (.tup [x, y, zz])) h' s.heap.objs.size (.tup [x, y, zz]) :=
      ⟨by show 3 ≤ sizeLine; decide, [u, u2, u3], .cons ru (.cons ru2 (.cons ru3 .nil)), ⟨_, hT, rfl, _, rfl⟩⟩
    have I1 : Inv X pins σ (upd H s.heap.objs.size (.tup [x, y, zz])) { s with heap := h', toks := tk } :=
      I.turnedNew (t' := tk) (ch := [z, TI, TO, i1, i2, i3]) (fun c o hb q => hk c o (fun q' => hb (by simp [q'])) (fun q' => hb (by simp [q'])) (fun q' => hb (by simp [q'])) (fun q' => hb (by simp [q'])) (fun q' => hb (by simp [q'])) q) hf (Nat.le_refl _) new
    obtain ⟨T, gg, z''⟩ := z'
    refine ⟨.ref s.heap.objs.size, _, I1, rfl, ⟨_, x, y, zz, rfl, I.hok.fresh (Nat.le_refl _), rfl, fun l hl => by rw [Inv.seqK_inj I hl hqx]; exact hx, fun l hl => by rw [Inv.seqK_inj I hl hqy]; exact hy, fun l hl => by rw [Inv.seqK_inj I hl hqz]; exact hzz⟩, ⟨⟨_, _, z'', .inr ⟨T, rfl⟩⟩, hk _ _ S.TIz S.TITO S.TIi1 S.TIi2 S.TIi3 hTI, TO', h1'.1, h2'.1, h3'.1⟩, fun c hcm => ?_⟩
    have hlt : c < s.heap.objs.size := by
      have e' : c = z ∨ c = TI ∨ c = TO ∨ c = i1 ∨ c = i2 ∨ c = i3 := by simpa using hcm
      rcases e' with q | q | q | q | q | q
      · rw [q]; exact hzl
      · rw [q]; exact Heap.lt_size hTI
      · rw [q]; exact Heap.lt_size hTO
      · rw [q]; obtain ⟨_, e1, _⟩ := h1.obj; exact Heap.lt_size e1
      · rw [q]; obtain ⟨_, e2, _⟩ := h2.obj; exact Heap.lt_size e2
      · rw [q]; obtain ⟨_, e3, _⟩ := h3.obj; exact Heap.lt_size e3
    rw [upd_ne (Nat.ne_of_lt hlt)]
    exact (hf c hcm).1
  done := by
    intro X hP hw hK hc i pins s σ H E I hf st hg
    subst hP hw hK
    obtain ⟨⟨f0, f1, hz, hf0⟩, hTI, ⟨x0, y0, u0, hTO⟩, h1, h2, h3⟩ := st
    obtain ⟨xs, ys, zs, hqx, hqy, hqz, b1, b2, b3, hend⟩ := hg
    obtain ⟨its, rv, p⟩ := Inv.seqK I hqx
    obtain ⟨its2, rv2, p2⟩ := Inv.seqK I hqy
    obtain ⟨its3, rv3, p3⟩ := Inv.seqK I hqz
    have l1 : xs.length = its.toArray.size := by simpa using rv.length
    have l2 : ys.length = its2.toArray.size := by simpa using rv2.length
    have l3 : zs.length = its3.toArray.size := by simpa using rv3.length
    have hcal : X.A.in1.handled = none := I.ok.hd hc
    exact z3_pyNext_end S (drawsK hcal t1 i1 a n1 its.toArray) (drawsK hcal t2 i2 b n2 its2.toArray) (drawsK hcal t3 i3 c3 n3 its3.toArray) hz hf0 hTI hTO ⟨h1, p⟩ ⟨h2, p2⟩ ⟨h3, p3⟩ (by omega) (by omega) (by omega) (by omega) fun h' tk hk => ⟨rfl, I.turnedL (t' := tk) (ch := [z, TI, TO, i1, i2, i3]) (fun c o hb q =>
      hk c o (fun q' => hb (by simp [q'])) (fun q' => hb (by simp [q'])) (fun q' => hb (by simp [q'])) (fun q' => hb (by simp [q'])) (fun q' => hb (by simp [q'])) q) hf⟩
  self := fun A i s Q E st h => by
    obtain ⟨⟨f0, f1, hz, _⟩, _⟩ := st
    exact z_pyIter hz h
def iZip3 (K : PySem.W.Frag) (ta : TA) : TI := fun σ H R => ta σ H fun vs H1 => ∃ t1 t2 t3 a b c xs ys zs, vs = [.ref a, .ref b, .ref c] ∧ SqK K t1 H1 a xs ∧ SqK K t2 H1 b ys ∧ SqK K t3 H1 c zs ∧ R (It3 K t1 t2 t3 a b c) H1
theorem pi_zip3 {X : Cx} {e e2 e3 : Expr} {ta : TA} {p pos : Pos} {nm : Str} {npos : Pos} (hg : Gl X "zip") (hm : X.mg "zip" = none) (ha : PA X [e, e2, e3] ta)
    (hs : starEach [e, e2, e3] X.env = (false, eval e X.env) :: starEach [e2, e3] X.env := by rfl) (hpl : (backTo pos (starEach [e2, e3] X.env)).any (·.1) = false := by rfl) :
    PI X (.Name nm npos) (.Call (.Name "zip" p) [e, e2, e3] [] pos) (iZip3 X.K ta) := by
  refine ⟨fun pins s σ H R I h => ?_⟩
  refine Call_ (ld_blt I hg hm PyProof.Rows.boot_zip (PyProof.Rows.callWith_type1 (thn (ha.run pos pins s σ H _ I h) fun us s1 ⟨vs, H1, I1, r1, q1⟩ => ?_) hs hpl))
  obtain ⟨t1, t2, t3, a, b, c3, xs, ys, zs, ex, hqx, hqy, hqz, q⟩ := q1
  subst ex
  cases r1 with
  | cons r rr =>
    cases rr with
    | cons r' rr =>
      cases rr with
      | cons r'' rr =>
        cases rr
        cases r
        cases r'
        cases r''
        have fresh6 : ∀ c, c ∈ [s1.heap.objs.size + 5, s1.heap.objs.size + 3, s1.heap.objs.size + 4, s1.heap.objs.size, s1.heap.objs.size + 1, s1.heap.objs.size + 2] → FpOk X pins H1 c := fun c hcm => by
          have e' : c = s1.heap.objs.size + 5 ∨ c = s1.heap.objs.size + 3 ∨ c = s1.heap.objs.size + 4 ∨ c = s1.heap.objs.size ∨ c = s1.heap.objs.size + 1 ∨ c = s1.heap.objs.size + 2 := by simpa using hcm
          have hle : s1.heap.objs.size ≤ c := by
            rcases e' with z | z | z | z | z | z
            · rw [z]; exact Nat.le_add_right _ _
            · rw [z]; exact Nat.le_add_right _ _
            · rw [z]; exact Nat.le_add_right _ _
            · rw [z]; exact Nat.le_refl _
            · rw [z]; exact Nat.le_add_right _ _
            · rw [z]; exact Nat.le_add_right _ _
          exact I1.fpOk hle (I1.hok.fresh hle)
        obtain ⟨its, rv, p1⟩ := Inv.seqK I1 hqx
        obtain ⟨its2, rv2, p2⟩ := Inv.seqK I1 hqy
        obtain ⟨its3, rv3, p3⟩ := Inv.seqK I1 hqz
        have la := p1.lt
        have lb := p2.lt
        have lc := p3.lt
        refine zip_begins3 (beginsK t1 a its.toArray) (beginsK t2 b its2.toArray) (beginsK t3 c3 its3.toArray) p1 p2 p3 fun h' hz hTI hTO h1 h2 h3 hsz hk => wpAny_pyIter_zip hz ?_
        have I2 : Inv X pins σ H1 { s1 with heap := h' } := I1.kept (t' := s1.toks) hk
        have S : ZipSep3 (s1.heap.objs.size + 5) (s1.heap.objs.size + 3) (s1.heap.objs.size + 4) s1.heap.objs.size (s1.heap.objs.size + 1) (s1.heap.objs.size + 2) [s1.heap.objs.size, a] [s1.heap.objs.size + 1, b] [s1.heap.objs.size + 2, c3] :=
          zip_sep3 (fp1 := [a]) (fp2 := [b]) (fp3 := [c3]) (fun c hc => by rw [List.mem_singleton.mp hc]; exact la) (fun c hc => by rw [List.mem_singleton.mp hc]; exact lb) (fun c hc => by rw [List.mem_singleton.mp hc]; exact lc)
        exact ⟨s1.heap.objs.size + 5, [s1.heap.objs.size + 5, s1.heap.objs.size + 3, s1.heap.objs.size + 4, s1.heap.objs.size, s1.heap.objs.size + 1, s1.heap.objs.size + 2], _, _, H1, rfl, I2, turn_zip3 S (Nat.ne_of_lt la) (Nat.ne_of_lt (Nat.lt_succ_of_lt lb)) (Nat.ne_of_lt (Nat.lt_succ_of_lt (Nat.lt_succ_of_lt lc))), ⟨⟨_, _, hz, .inl rfl⟩, hTI, ⟨_, _, _, hTO⟩, itK_new h1, itK_new h2, itK_new h3⟩, fresh6, q⟩
/-! ### over data -/
def zipD3 (xs ys zs : List D) : List D := (List.range (min xs.length (min ys.length zs.length))).map fun i => D.tup [(xs[i]?).getD .non, (ys[i]?).getD .non, (zs[i]?).getD .non]
def zip3 : List D → Option (List D)
  | [x, y, z] => (itL x).bind fun xs => (itL y).bind fun ys => (itL z).map fun zs => zipD3 xs ys zs
  | _ => none
theorem walkD_zip3 {K : PySem.W.Frag} {k : KA} (t1 t2 t3 : Bool) (a b c : Addr) (ds es fs : List D) : WalkD K k (It3 K t1 t2 t3 a b c) (zipD3 ds es fs) (fun P H => SqD K k t1 P H a ds ∧ SqD K k t2 P H b es ∧ SqD K k t3 P H c fs) where
  stab := fun P H P' H' h e => ⟨h.1.ext e, h.2.1.ext e, h.2.2.ext e⟩
  goes := fun i P H hi ⟨h1, h2, h3⟩ => by
    obtain ⟨xs, q1, r1⟩ := h1.sq
    obtain ⟨ys, q2, r2⟩ := h2.sq
    obtain ⟨zs, q3, r3⟩ := h3.sq
    have hi' : i < ds.length ∧ i < es.length ∧ i < fs.length := by simpa [zipD3, Nat.lt_min] using hi
    exact ⟨xs, ys, zs, xs[i]'(by rw [r1.len]; exact hi'.1), ys[i]'(by rw [r2.len]; exact hi'.2.1), zs[i]'(by rw [r3.len]; exact hi'.2.2), q1, q2, q3, by simp, by simp, by simp⟩
  stops := fun P H ⟨h1, h2, h3⟩ => by
    obtain ⟨xs, q1, r1⟩ := h1.sq
    obtain ⟨ys, q2, r2⟩ := h2.sq
    obtain ⟨zs, q3, r3⟩ := h3.sq
    have l1 := r1.len
    have l2 := r2.len
    have l3 := r3.len
    refine ⟨xs, ys, zs, q1, q2, q3, ?_, ?_, ?_, ?_⟩ <;> simp only [zipD3, List.length_map, List.length_range] <;> omega
  yields := fun i P H x H' hi hP ⟨h1, h2, h3⟩ ⟨T, x1, x2, x3, e1, hT, e2, y1, y2, y3⟩ => by
    obtain ⟨xs, q1, r1⟩ := h1.sq
    obtain ⟨ys, q2, r2⟩ := h2.sq
    obtain ⟨zs, q3, r3⟩ := h3.sq
    obtain ⟨d1, f1, g1⟩ := r1.getV (y1 xs q1)
    obtain ⟨d2, f2, g2⟩ := r2.getV (y2 ys q2)
    obtain ⟨d3, f3, g3⟩ := r3.getV (y3 zs q3)
    subst e1 e2
    refine ⟨same_upd hT, .tup [d1, d2, d3], ?_, rep_new_tup hP hT (.cons g1 (.cons g2 (.cons g3 .nil)))⟩
    have hi' : i < min ds.length (min es.length fs.length) := by simpa [zipD3] using hi
    simp only [zipD3]
    rw [List.getElem?_map, List.getElem?_range hi']
    simp [f1, f2, f3]
section
variable {X : Cx} {W : WY} {a b c : Expr} {χ : Env' → M (List D)} {p pos tpos p2 : Pos}
theorem dI_zip3 {nm : Str} {npos : Pos} (hm : X.mg "zip" = none) (ha : DA X W [a, b, c] χ) (hg : Gl X "zip" := by rfl) (hs : starEach [a, b, c] X.env = (false, eval a X.env) :: starEach [b, c] X.env := by rfl) (hpl : (backTo pos (starEach [b, c] X.env)).any (·.1) = false := by rfl) :
    DI X W (.Name nm npos) (.Call (.Name "zip" p) [a, b, c] [] pos) (iAs zip3 χ) := by
  refine PI.imp (pi_zip3 hg hm ha hs hpl) fun σ H R hh => ?_
  refine tI_bnd hh fun g env n d v H1 Qd Ed R1 rx p q => ?_
  obtain ⟨ds, e, qd⟩ := opt_some p
  unfold zip3 at e
  split at e
  · rename_i x y z
    cases h1 : itL x with
    | none => rw [h1] at e; cases e
    | some xs =>
      rw [h1] at e
      cases h2 : itL y with
      | none => rw [h2] at e; cases e
      | some ys =>
        rw [h2] at e
        cases h3 : itL z with
        | none => rw [h3] at e; cases e
        | some zs =>
          rw [h3] at e
          cases e
          cases rx with
          | cons r1 rr =>
            cases rr with
            | cons r2 rr =>
              cases rr with
              | cons r3 rr =>
                cases rr
                obtain ⟨t1, a1, rfl, s1⟩ := itL_sqD r1 h1
                obtain ⟨t2, a2, rfl, s2⟩ := itL_sqD r2 h2
                obtain ⟨t3, a3, rfl, s3⟩ := itL_sqD r3 h3
                obtain ⟨vs1, q1, _⟩ := s1.sq
                obtain ⟨vs2, q2, _⟩ := s2.sq
                obtain ⟨vs3, q3, _⟩ := s3.sq
                exact ⟨t1, t2, t3, a1, a2, a3, vs1, vs2, vs3, rfl, q1, q2, q3, q _ n _ H1 _ qd (walkD_zip3 t1 t2 t3 a1 a2 a3 xs ys zs) ⟨s1, s2, s3⟩ (Frm.refl _ _) R1.dk⟩
  · cases e
end
/-! ### min of three ints in a tuple -/
def rMin3 (K : PySem.W.Frag) : List V → Hp → VK → Prop := fun vs H Q => ∃ (a : Addr) (i j k : Int), vs = [.ref a] ∧ SqT K H a [.int i, .int j, .int k] ∧ Q (.int (min (min i j) k)) H
theorem cr_min3 {X : Cx} {n : Nat} (hr : Room n X.A) (hc : X.calm = true) : CallR X (.builtin "min") (rMin3 X.K) := by
  intro pins s σ H vs us Q I r h
  obtain ⟨a, i, j, m, rfl, hs, q⟩ := h
  obtain ⟨its, rv, hl, _⟩ := I.tuple hs
  rw [Vals.ref1 r]
  obtain ⟨as, ra⟩ := Dp.readsAll I _ _ _ (DpAll.cons (.int i) (.cons (.int j) (.cons (.int m) .nil))) rv
  have hu2 := hr.un
  refine PySem.W.min_tuple_data (I.ok.hd hc) hl (by simpa using ra) (alikeB_all (by simp [alikeB, alike])) (by simp only [PyData.depthAll, PyData.depth]; omega) fun k v h' tk bs hv hrd hk => ?_
  have e : minD (.int i) [.int j, .int m] = .int (min (min i j) m) := minD_ints i [j, m]
  rw [e] at hrd
  cases hrd
  exact ⟨.int _, H, I.kept hk, ⟨_, rfl⟩, q⟩
def oMin3 : List D → Option D
  | [.tup [.int i, .int j, .int k]] => some (.int (min (min i j) k))
  | _ => none
theorem pu_min3 {K : PySem.W.Frag} : PureA K (rMin3 K) oMin3 := by
  intro P k H vs ds d Q hP rx e q
  unfold oMin3 at e
  split at e
  · cases e
    cases rx with
    | cons r1 r2 =>
      cases r2
      cases r1 with
      | tup h1 h2 =>
        cases h2 with
        | cons x1 x2 =>
          cases x1
          cases x2 with
          | cons y1 y2 =>
            cases y1
            cases y2 with
            | cons z1 z2 =>
              cases z1
              cases z2
              exact ⟨_, _, _, _, rfl, h1.sq, q _ H (Same.refl _) (.int _)⟩
  · cases e
end Den

set_option autoImplicit true
set_option Elab.async false
set_option linter.all false
set_option maxRecDepth 100000
set_option maxHeartbeats 2000000
set_option autoImplicit false
namespace Den
open PySem PySem.Spec PyProof.Rows L2
/-! ### xs != [], whatever the items -/
def oNeL : D → D → Option D
  | .lst xs, .lst [] => some (.bl (!xs.isEmpty))
  | a, b => oNe a b
@[simp] theorem oNeL_nil (xs : List D) : oNeL (.lst xs) (.lst []) = some (.bl (!xs.isEmpty)) := by
  cases xs <;> rfl
def rNeL (K : PySem.W.Frag) : R2 := fun x y H Q => rNeD K x y H Q ∨ ∃ (a b : Addr) (xs : List V), x = .ref a ∧ y = .ref b ∧ SqL K H a xs ∧ SqL K H b [] ∧ Q (.bl (!xs.isEmpty)) H
theorem op_neL {X : Cx} (hu : X.A.units + 64 < cLine) : OpR X (compareOp .NotEq) (rNeL X.K) := by
  intro pins s σ H x y v u Q I rx ry h
  rcases h with h | ⟨a, b, xs, rfl, rfl, ha, hb, q⟩
  · exact op_neD hu _ _ _ _ _ _ _ _ _ I rx ry h
  cases rx
  cases ry
  obtain ⟨its, r1, p1, _⟩ := I.list ha
  obtain ⟨its2, r2, p2, _⟩ := I.list hb
  cases r2
  have fin : ∀ k, k = (!xs.isEmpty) → EP X pins σ Q (.bool k) s := fun k e => by
    subst e
    exact ⟨.bl _, H, I, rfl, q⟩
  have hl := r1.length
  cases xs with
  | nil =>
    cases r1
    have R := SeqAt.RcNeAt.lists (A := X.A) (s := s) (e := fun _ => true) p1.isList p2.isList rfl (by omega) (fun j h1 h2 => absurd h1 (Nat.not_lt_zero j))
    have z : wpAny (model X.prog X.w) X.A (compareOp .NotEq (.ref a) (.ref b)) (EP X pins σ Q) X.xe s := R X.prog X.w X.xe (EP X pins σ Q) (fin _ rfl)
    exact z
  | cons x0 xs0 =>
    have ne : (its.toArray.size != ([] : List Value).toArray.size) = true := by
      rw [List.size_toArray, ← hl]
      rfl
    have R := SeqAt.RcNeAt.lists_lengths (A := X.A) (s := s) p1.isList p2.isList ne (by omega)
    have z : wpAny (model X.prog X.w) X.A (compareOp .NotEq (.ref a) (.ref b)) (EP X pins σ Q) X.xe s := R X.prog X.w X.xe (EP X pins σ Q) (fin _ rfl)
    exact z
theorem pu_neL {K : PySem.W.Frag} : Pure2 K (rNeL K) oNeL := by
  intro P k H x y dx dy d Q hP rx ry e q
  unfold oNeL at e
  split at e
  · rename_i xs
    cases e
    cases rx with
    | lst h1 np h2 =>
      cases ry with
      | lst h3 np' h4 =>
        cases h4
        refine .inr ⟨_, _, _, rfl, rfl, SqL.of h1, SqL.of h3, ?_⟩
        have ee : ∀ {ds : List D} {vs : List V}, RepL K H P k ds vs → vs.isEmpty = ds.isEmpty := fun {ds vs} h => by
          cases h <;> rfl
        rw [ee h2]
        exact q _ H (Same.refl _) (.bl _)
  · exact .inl (pu_ne P k H x y dx dy d Q hP rx ry e q)
section
variable {X : Cx} {W : WY} {n : Nat} {a b : Expr} {φa φb : Env' → M D} {pos : Pos}
theorem dE_neL (hr : Room n X.A) (ha : DE X W a φa) (hb : DE X W b φb) : DE X W (.Compare a [.NotEq] [b] pos) (eOp oNeL φa φb) := dE_cmp (op_neL (room64 hr)) pu_neL (nomark _) ha hb
theorem dT_neL (hr : Room n X.A) (ha : DE X W a φa) (hb : DE X W b φb) : DT X W (.Compare a [.NotEq] [b] pos) (eB (eOp oNeL φa φb)) := dT_cmp (op_neL (room64 hr)) pu_neL (nomark _) ha hb
end
end Den

set_option autoImplicit true
set_option Elab.async false
set_option linter.all false
set_option maxRecDepth 100000
set_option maxHeartbeats 2000000
set_option autoImplicit false
namespace Den
open PySem PySem.Spec PyProof.Rows L2

/-! ### equality of data -/
mutual
theorem eqv_self : ∀ d : D, d.py.canLay0 = true → PyData.eqv d.py d.py = true
  | .non, _ => rfl
  | .bl b, _ => by simp [D.py, PyData.eqv]
  | .int i, _ => by simp [D.py, PyData.eqv]
  | .str x, _ => by simp [D.py, PyData.eqv]
  | .tup ds, h => by
    simp only [D.py, PyData.eqv]
    exact eqvs_self ds (by simpa [D.py, PyData.canLay0] using h)
  | .lst ds, h => by
    simp only [D.py, PyData.eqv]
    exact eqvs_self ds (by simpa [D.py, PyData.canLay0] using h)
  | .emp, h => by simp [D.py, PyData.canLay0] at h
  | .dk, h => by simp [D.py, PyData.canLay0] at h
theorem eqvs_self : ∀ ds : List D, PyData.canLayAll0 (pys ds) = true → PyData.eqvAll (pys ds) (pys ds) = true
  | [], _ => rfl
  | d :: ds, h => by
    have c : d.py.canLay0 = true ∧ PyData.canLayAll0 (pys ds) = true := by simpa [pys, PyData.canLayAll0] using h
    simp only [pys, PyData.eqvAll, eqv_self d c.1, eqvs_self ds c.2, Bool.and_self]
end
theorem deq_self {d : D} (h : dOk d = true) : deq d d = true := eqv_self d (SeqAt.canLay_of_shaped h)
theorem oEq_self {d : D} (h : dOk d = true) : oEq d d = some (.bl true) := by simp [oEq, h, deq_self h]
theorem oNe_self {d : D} (h : dOk d = true) : oNe d d = some (.bl false) := by simp [oNe, h, deq_self h]
@[simp] theorem dOk_int (i : Int) : dOk (.int i) = true := by
  simp only [dOk, D.py, SeqAt.shaped]
  rfl
@[simp] theorem oEq_int (i j : Int) : oEq (.int i) (.int j) = some (.bl (decide (i = j))) := by
  simp only [oEq, dOk_int, and_self, if_true, deq, D.py, PyData.eqv]
  congr 2
@[simp] theorem oNe_int (i j : Int) : oNe (.int i) (.int j) = some (.bl (!decide (i = j))) := by
  simp only [oNe, dOk_int, and_self, if_true, deq, D.py, PyData.eqv]
  congr 2
theorem oAdd_int (i j : Int) : oAdd (.int i) (.int j) = some (.int (i + j)) := id rfl
/-- depth at most k, and it can be laid -/
def okN (k : Nat) (d : D) : Prop := d.py.canLay0 = true ∧ d.py.depth ≤ k
theorem okN.dOk {k : Nat} {d : D} (h : okN k d) (hk : k ≤ 64) : dOk d = true := by
  unfold Den.dOk SeqAt.shaped
  rw [Bool.and_eq_true, decide_eq_true_eq]
  exact ⟨h.1, by have := h.2; omega⟩
theorem okN_int (i : Int) : okN 1 (.int i) := ⟨rfl, by simp [D.py, PyData.depth]⟩
theorem okN_all {k : Nat} : ∀ ds : List D, (∀ d ∈ ds, okN k d) → PyData.canLayAll0 (pys ds) = true ∧ PyData.depthAll (pys ds) ≤ k
  | [], _ => ⟨rfl, by simp [pys, PyData.depthAll]⟩
  | d :: ds, h => by
    obtain ⟨h1, h2⟩ := okN_all ds fun x hx => h x (by simp [hx])
    obtain ⟨h3, h4⟩ := h d (by simp)
    refine ⟨by simp [pys, PyData.canLayAll0, h1, h3], ?_⟩
    simp only [pys, PyData.depthAll]
    omega
theorem okN_tup {k : Nat} {ds : List D} (h : ∀ d ∈ ds, okN k d) : okN (k + 1) (.tup ds) := by
  obtain ⟨h1, h2⟩ := okN_all ds h
  refine ⟨by simpa [D.py, PyData.canLay0] using h1, ?_⟩
  simp only [D.py, PyData.depth]
  omega
theorem okN_lst {k : Nat} {ds : List D} (h : ∀ d ∈ ds, okN k d) : okN (k + 1) (.lst ds) := by
  obtain ⟨h1, h2⟩ := okN_all ds h
  refine ⟨by simpa [D.py, PyData.canLay0] using h1, ?_⟩
  simp only [D.py, PyData.depth]
  omega

/-! ### rows and tables as functions -/
def Rw (m : Nat) (f : Nat → Int) : D := .tup ((List.range m).map fun j => .int (f j))
def Tb (n m : Nat) (f : Nat → Nat → Int) : D := .tup ((List.range n).map fun i => Rw m (f i))
theorem Rw_congr {m : Nat} {f g : Nat → Int} (h : ∀ j, j < m → f j = g j) : Rw m f = Rw m g := by
  unfold Rw
  congr 1
  exact List.map_congr_left fun j hj => by rw [h j (List.mem_range.mp hj)]
theorem Tb_congr {n m : Nat} {f g : Nat → Nat → Int} (h : ∀ i j, i < n → j < m → f i j = g i j) : Tb n m f = Tb n m g := by
  unfold Tb
  congr 1
  exact List.map_congr_left fun i hi => Rw_congr fun j hj => h i j (List.mem_range.mp hi) hj
theorem okN_Rw (m : Nat) (f : Nat → Int) : okN 2 (Rw m f) := okN_tup fun d hd => by
  obtain ⟨j, _, rfl⟩ := List.mem_map.mp hd
  exact okN_int _
theorem okN_Tb (n m : Nat) (f : Nat → Nat → Int) : okN 3 (Tb n m f) := okN_tup fun d hd => by
  obtain ⟨j, _, rfl⟩ := List.mem_map.mp hd
  exact okN_Rw _ _
@[simp] theorem dOk_Rw (m : Nat) (f : Nat → Int) : dOk (Rw m f) = true := (okN_Rw m f).dOk (by decide)
@[simp] theorem dOk_Tb (n m : Nat) (f : Nat → Nat → Int) : dOk (Tb n m f) = true := (okN_Tb n m f).dOk (by decide)
@[simp] theorem itL_Rw (m : Nat) (f : Nat → Int) : itL (Rw m f) = some ((List.range m).map fun j => .int (f j)) := rfl
@[simp] theorem itL_Tb (n m : Nat) (f : Nat → Nat → Int) : itL (Tb n m f) = some ((List.range n).map fun i => Rw m (f i)) := rfl
@[simp] theorem isT_Rw (m : Nat) (f : Nat → Int) : isT .tup (Rw m f) = some true := rfl
@[simp] theorem isT_Tb (n m : Nat) (f : Nat → Nat → Int) : isT .tup (Tb n m f) = some true := rfl
@[simp] theorem oLen_Rw (m : Nat) (f : Nat → Int) : oLen [Rw m f] = some (.int m) := by simp [Rw, oLen]
@[simp] theorem oLen_Tb (n m : Nat) (f : Nat → Nat → Int) : oLen [Tb n m f] = some (.int n) := by simp [Tb, oLen]
theorem atI_map {n j : Nat} (F : Nat → D) (h : j < n) : atI ((List.range n).map F) (j : Int) = some (F j) := atI_nat (by simp [h])
theorem oIx_Rw {m j : Nat} {f : Nat → Int} (h : j < m) : oIx (Rw m f) (.int j) = some (.int (f j)) := atI_map _ h
theorem oIx_Tb {n m j : Nat} {f : Nat → Nat → Int} (h : j < n) : oIx (Tb n m f) (.int j) = some (Rw m (f j)) := atI_map _ h
theorem oIx_Tb0 {n m : Nat} {f : Nat → Nat → Int} (h : 0 < n) : oIx (Tb n m f) (.int 0) = some (Rw m (f 0)) := oIx_Tb (j := 0) h
theorem rng1_nat {n : Nat} (h : n ≤ 1000000) : rng1 [.int n] = some ((List.range n).map fun i => .int (i : Nat)) := by
  have e : -(2 ^ 62) ≤ (n : Int) ∧ (n : Int) < 2 ^ 62 := by omega
  unfold rng1
  simp only
  rw [if_pos e]
  simp [rngD]
theorem zipD_map (n : Nat) (F G : Nat → D) : zipD ((List.range n).map F) ((List.range n).map G) = (List.range n).map fun i => D.tup [F i, G i] := by
  unfold zipD
  rw [List.zipWith_map]
  generalize List.range n = l
  induction l with
  | nil => rfl
  | cons a l ih => simp [List.zipWith, ih]
theorem zip2_RwRw (m : Nat) (f g : Nat → Int) : zip2 [Rw m f, Rw m g] = some ((List.range m).map fun j => .tup [.int (f j), .int (g j)]) := by
  simp [zip2, zipD_map]
theorem zip2_TbTb (n m p : Nat) (f g : Nat → Nat → Int) : zip2 [Tb n m f, Tb n p g] = some ((List.range n).map fun j => .tup [Rw m (f j), Rw p (g j)]) := by
  simp [zip2, zipD_map]
theorem compR {t : Tg} {elt : Env' → M D} {env : Env'} {n : Nat} {enc : Nat → D} (g : Nat → D) (h : ∀ i, i < n → ∃ e1, asg t (enc i) env = some e1 ∧ elt e1 = ret (g i)) : compF t cYes elt env ((List.range n).map enc) = ret ((List.range n).map g) :=
  compF_map enc g _ fun i hi => h i (List.mem_range.mp hi)
@[simp] theorem ints?_rng (n : Nat) (f : Nat → Int) : ints? ((List.range n).map fun i => D.int (f i)) = some ((List.range n).map f) := by
  have := ints?_map ((List.range n).map f)
  rwa [List.map_map] at this
@[simp] theorem bls?_rng (n : Nat) (f : Nat → Bool) : bls? ((List.range n).map fun i => D.bl (f i)) = some ((List.range n).map f) := by
  have := bls?_map ((List.range n).map f)
  rwa [List.map_map] at this
@[simp] theorem oTuple_lst (xs : List D) : oTuple [.lst xs] = some (.tup xs) := rfl
theorem mk_Rw (m : Nat) (f : Nat → Int) : D.tup ((List.range m).map fun j => .int (f j)) = Rw m f := rfl
theorem mk_Tb (n m : Nat) (f : Nat → Nat → Int) : D.tup ((List.range n).map fun i => Rw m (f i)) = Tb n m f := rfl

/-! ### the greatest of a row -/
def sup (m : Nat) (f : Nat → Int) : Int := maxL ((List.range m).map f)
theorem oMax1_rng {m : Nat} (h : 0 < m) (f : Nat → Int) : oMax1 [.lst ((List.range m).map fun i => .int (f i))] = some (.int (sup m f)) := by
  obtain ⟨k, rfl⟩ : ∃ k, m = k + 1 := ⟨m - 1, by omega⟩
  simp only [oMax1, ints?_rng]
  unfold sup
  rw [List.range_succ_eq_map]
  rfl
theorem le_sup {m j : Nat} (f : Nat → Int) (h : j < m) : f j ≤ sup m f := le_maxL (List.mem_map.mpr ⟨j, List.mem_range.mpr h, rfl⟩)
theorem sup_mem {m : Nat} (f : Nat → Int) (h : 0 < m) : ∃ j, j < m ∧ f j = sup m f := by
  have := maxL_mem (ns := (List.range m).map f) (by simp; omega)
  obtain ⟨j, hj, e⟩ := List.mem_map.mp this
  exact ⟨j, List.mem_range.mp hj, e⟩
theorem le_sup_iff {m : Nat} {f : Nat → Int} {t : Int} (h : 0 < m) : t ≤ sup m f ↔ ∃ j, j < m ∧ t ≤ f j := by
  constructor
  · intro ht
    obtain ⟨j, hj, e⟩ := sup_mem f h
    exact ⟨j, hj, by omega⟩
  · rintro ⟨j, hj, ht⟩
    have := le_sup f hj
    omega
theorem eq_of_le {a b : Int} (h : ∀ t, t ≤ a ↔ t ≤ b) : a = b := by
  have h1 := (h a).mp (Int.le_refl _)
  have h2 := (h b).mpr (Int.le_refl _)
  omega
def mn (a b : Int) : Int := if b < a then b else a
theorem oMin2_mn (a b : Int) : oMin2 [.int a, .int b] = some (.int (mn a b)) := rfl
theorem le_mn {a b t : Int} : t ≤ mn a b ↔ t ≤ a ∧ t ≤ b := by
  unfold mn
  split <;> omega
/-- the level of a row at a setting -/
def rl (m : Nat) (f g : Nat → Int) : Int := sup m fun k => mn (f k) (g k)
theorem le_rl {m : Nat} {f g : Nat → Int} {t : Int} (h : 0 < m) : t ≤ rl m f g ↔ ∃ k, k < m ∧ t ≤ f k ∧ t ≤ g k := by
  unfold rl
  rw [le_sup_iff h]
  exact exists_congr fun k => and_congr_right fun _ => le_mn
theorem rl_congr {m : Nat} {f g f' g' : Nat → Int} (h : ∀ k, k < m → f k = f' k) (h' : ∀ k, k < m → g k = g' k) : rl m f g = rl m f' g' := by
  unfold rl sup
  congr 1
  exact List.map_congr_left fun k hk => by rw [h k (List.mem_range.mp hk), h' k (List.mem_range.mp hk)]
theorem rl_bd {m : Nat} {f g : Nat → Int} {lo hi : Int} (h : 0 < m) (hf : ∀ k, k < m → lo ≤ f k ∧ f k ≤ hi) (hg : ∀ k, k < m → lo ≤ g k ∧ g k ≤ hi) : lo ≤ rl m f g ∧ rl m f g ≤ hi := by
  constructor
  · exact (le_rl h).mpr ⟨0, h, (hf 0 h).1, (hg 0 h).1⟩
  · obtain ⟨k, hk, h1, _⟩ := (le_rl (m := m) (f := f) (g := g) h).mp (Int.le_refl _)
    have := (hf k hk).2
    omega
/-- the product -/
def mul (m : Nat) (f g : Nat → Nat → Int) : Nat → Nat → Int := fun i j => rl m (f i) (fun k => g k j)
theorem le_mul {m i j : Nat} {f g : Nat → Nat → Int} {t : Int} (h : 0 < m) : t ≤ mul m f g i j ↔ ∃ k, k < m ∧ t ≤ f i k ∧ t ≤ g k j := le_rl h
theorem mul_assoc {m p : Nat} (hm : 0 < m) (hp : 0 < p) (f g e : Nat → Nat → Int) (i j : Nat) : mul p (mul m f g) e i j = mul m f (mul p g e) i j := by
  refine eq_of_le fun t => ?_
  simp only [le_mul hm, le_mul hp]
  constructor
  · rintro ⟨k, hk, ⟨l, hl, h1, h2⟩, h3⟩
    exact ⟨l, hl, h1, k, hk, h2, h3⟩
  · rintro ⟨l, hl, h1, k, hk, h2, h3⟩
    exact ⟨k, hk, ⟨l, hl, h1, h2⟩, h3⟩
def ap (m : Nat) (f : Nat → Nat → Int) (g : Nat → Int) : Nat → Int := fun i => rl m (f i) g
theorem ap_mul {m p : Nat} (hm : 0 < m) (hp : 0 < p) (f g : Nat → Nat → Int) (s : Nat → Int) (i : Nat) : ap p (mul m f g) s i = ap m f (ap p g s) i := by
  refine eq_of_le fun t => ?_
  simp only [ap, le_mul hm, le_rl hp, le_rl hm]
  constructor
  · rintro ⟨k, hk, ⟨l, hl, h1, h2⟩, h3⟩
    exact ⟨l, hl, h1, k, hk, h2, h3⟩
  · rintro ⟨l, hl, h1, k, hk, h2, h3⟩
    exact ⟨k, hk, ⟨l, hl, h1, h2⟩, h3⟩
/-- drawn lists are tables -/
theorem Rw_of {ds : List D} {m : Nat} {p : Int → Prop} (hl : ds.length = m) (h : ∀ (i : Nat) (z : D), ds[i]? = some z → ∃ x : Int, z = .int x ∧ p x) : ∃ f : Nat → Int, D.tup ds = Rw m f ∧ ∀ j, j < m → p (f j) := by
  subst hl
  refine ⟨fun j => match ds[j]? with | some (D.int x) => x | _ => 0, ?_, fun j hj => ?_⟩
  · unfold Rw
    congr 1
    refine List.ext_getElem? fun i => ?_
    by_cases hi : i < ds.length
    · obtain ⟨x, hx, _⟩ := h i _ (List.getElem?_eq_getElem hi)
      simp [hi, List.getElem?_eq_getElem hi, hx]
    · simp [hi, List.getElem?_eq_none (by omega : ds.length ≤ i)]
  · obtain ⟨x, hx, hp⟩ := h j _ (List.getElem?_eq_getElem hj)
    simp [List.getElem?_eq_getElem hj, hx, hp]
theorem Tb_of {ds : List D} {n m : Nat} {p : Int → Prop} (hl : ds.length = n) (h : ∀ (i : Nat) (z : D), ds[i]? = some z → ∃ f : Nat → Int, z = Rw m f ∧ ∀ j, j < m → p (f j)) : ∃ f : Nat → Nat → Int, D.tup ds = Tb n m f ∧ ∀ i j, i < n → j < m → p (f i j) := by
  subst hl
  have hc : ∀ i, ∃ f : Nat → Int, i < ds.length → ds[i]? = some (Rw m f) ∧ ∀ j, j < m → p (f j) := fun i => by
    by_cases hi : i < ds.length
    · obtain ⟨f, hf, hp⟩ := h i _ (List.getElem?_eq_getElem hi)
      exact ⟨f, fun _ => ⟨by rw [List.getElem?_eq_getElem hi, hf], hp⟩⟩
    · exact ⟨fun _ => 0, fun h => absurd h hi⟩
  refine ⟨fun i => Classical.choose (hc i), ?_, fun i j hi hj => (Classical.choose_spec (hc i) hi).2 j hj⟩
  unfold Tb
  congr 1
  refine List.ext_getElem? fun i => ?_
  by_cases hi : i < ds.length
  · rw [(Classical.choose_spec (hc i) hi).1]
    simp [hi]
  · simp [hi, List.getElem?_eq_none (by omega : ds.length ≤ i)]
theorem sWhile_stop {t : Env' → M Bool} {body : Env' → MS} {env : Env'} (h : t env = ret false) : sWhile t body env = done (.nx, env) := by
  funext n Q E
  refine propext ⟨fun ⟨k, hk⟩ => ?_, fun hq => ⟨1, ?_⟩⟩
  · cases k with
    | zero => exact hk.elim
    | succ k =>
      simp only [loopW, h] at hk
      exact hk
  · simp only [loopW, h]
    exact hq
theorem sWhile_step {t : Env' → M Bool} {body : Env' → MS} {env e1 : Env'} (h : t env = ret true) (hb : body env = done (.nx, e1)) : sWhile t body env = sWhile t body e1 := by
  funext n Q E
  refine propext ⟨fun ⟨k, hk⟩ => ?_, fun ⟨k, hk⟩ => ⟨k + 1, ?_⟩⟩
  · cases k with
    | zero => exact hk.elim
    | succ k =>
      simp only [loopW, h, hb] at hk
      exact ⟨k, hk⟩
  · simp only [loopW, h, hb]
    exact hk
/-! ### normal forms -/
section
variable {α β γ : Type} {env e : Env'}
@[simp] theorem bnd_bnd' (m : M α) (f : α → M β) (g : β → M γ) : bnd (bnd m f) g = bnd m fun x => bnd (f x) g := id rfl
@[simp] theorem bnd_rt (m : M α) : (bnd m fun x => ret x) = m := id rfl
@[simp] theorem liftS_bnd (m : M α) (f : α → M β) (g : β → MS) : liftS env (bnd m f) g = liftS env m fun x => liftS env (f x) g := id rfl
@[simp] theorem unR_lift_rt (m : M D) : (unR (liftS env m fun d => done (.rt d, e))) = m := id rfl
@[simp] theorem unR_lift (m : M α) (f : α → MS) : unR (liftS env m f) = bnd m fun x => unR (f x) := id rfl
@[simp] theorem unR_ite (c : Prop) [Decidable c] (m m' : MS) : unR (if c then m else m') = if c then unR m else unR m' := by split <;> rfl
@[simp] theorem unR_fail : unR failS = fail := id rfl
@[simp] theorem bndR_lift (m : M α) (f : α → MS) (k : R → MS) : bndR (liftS env m f) k = liftS env m fun x => bndR (f x) k := id rfl
@[simp] theorem bndR_bndR (m : MS) (f k : R → MS) : bndR (bndR m f) k = bndR m fun r => bndR (f r) k := id rfl
@[simp] theorem bndR_fail (k : R → MS) : bndR failS k = failS := id rfl
@[simp] theorem bndR_ite (c : Prop) [Decidable c] (m m' : MS) (k : R → MS) : bndR (if c then m else m') k = if c then bndR m k else bndR m' k := by split <;> rfl
end
theorem log2_small {many : Int} (h0 : 0 < many) (h : many ≤ 2 ^ 64) : many.natAbs.log2 < 9000 := by
  have e : many.natAbs ≤ 2 ^ 64 := by omega
  have e1 : many.natAbs ≠ 0 := by omega
  have e2 : many.natAbs < 2 ^ 65 := by omega
  have := (Nat.log2_lt e1).mpr e2
  omega
theorem Gv.next {many : Int} (h0 : 0 < many) (h : many ≤ 2 ^ 64) : Gv (drawF [.dk, .int many]) 1 (fun d => ∃ r : Int, d = .int r ∧ 0 ≤ r ∧ r < many) := Gv.draw h0 (log2_small h0 h)
theorem Gv.bn {α β : Type} {m : M α} {f : α → M β} {c C : Nat} {S : α → Prop} {S' : β → Prop} (c' : Nat) (h : Gv m c S) (h' : ∀ a, S a → Gv (f a) c' S') (hC : c + c' ≤ C := by omega) : Gv (Den.bnd m f) C S' := (Gv.bnd h h').mono hC fun _ h => h
theorem GvS.lf {α : Type} {env : Env'} {m : M α} {f : α → MS} {c C : Nat} {S : α → Prop} {S' : R → Prop} (c' : Nat) (h : Gv m c S) (h' : ∀ a, S a → GvS (f a) c' S') (hC : c + c' ≤ C := by omega) : GvS (liftS env m f) C S' := (GvS.lift h h').mono hC fun _ h => h
theorem Gv.if_pos {α : Type} {c : Prop} [Decidable c] {m m' : M α} {n : Nat} {S : α → Prop} (hc : c) (h : Gv m n S) : Gv (if c then m else m') n S := by rwa [_root_.if_pos hc]

/-! ### levels, tables joined -/
def Lv (m : Nat) (f : Nat → Int) : Prop := ∀ j, j < m → 0 ≤ f j ∧ f j ≤ 1000000000000
def LvT (n m : Nat) (f : Nat → Nat → Int) : Prop := ∀ i j, i < n → j < m → 0 ≤ f i j ∧ f i j ≤ 1000000000000
theorem Lv.ap {n m : Nat} {f : Nat → Nat → Int} {g : Nat → Int} (h0 : 0 < m) (hf : LvT n m f) (hg : Lv m g) : Lv n (Den.ap m f g) := fun i hi => rl_bd h0 (fun k hk => hf i k hi hk) hg
theorem LvT.mul {n m p : Nat} {f g : Nat → Nat → Int} (h0 : 0 < m) (hf : LvT n m f) (hg : LvT m p g) : LvT n p (Den.mul m f g) := fun i j hi hj => rl_bd h0 (fun k hk => hf i k hi hk) (fun k hk => hg k j hk hj)
def jo (n : Nat) (f g : Nat → Nat → Int) : Nat → Nat → Int := fun i j => if i < n then f i j else g (i - n) j
def ji (m : Nat) (f g : Nat → Nat → Int) : Nat → Nat → Int := fun i j => if j < m then f i j else g i (j - m)
theorem range_app {α : Type} (n p : Nat) (F G : Nat → α) : (List.range n).map F ++ (List.range p).map G = (List.range (n + p)).map fun i => if i < n then F i else G (i - n) := by
  rw [List.range_add, List.map_append, List.map_map]
  congr 1
  · exact List.map_congr_left fun i hi => by rw [if_pos (List.mem_range.mp hi)]
  · exact List.map_congr_left fun i _ => by simp [show ¬ n + i < n by omega]
theorem oAdd_Rw {m p : Nat} (h : m + p ≤ 1000) (f g : Nat → Int) : oAdd (Rw m f) (Rw p g) = some (Rw (m + p) fun j => if j < m then f j else g (j - m)) := by
  unfold Rw
  simp only [oAdd, List.length_map, List.length_range]
  rw [if_pos (by unfold big; omega), range_app]
  congr 2
  exact List.map_congr_left fun i _ => by split <;> rfl
theorem oAdd_Tb {n p m : Nat} (h : n + p ≤ 1000) (f g : Nat → Nat → Int) : oAdd (Tb n m f) (Tb p m g) = some (Tb (n + p) m (jo n f g)) := by
  unfold Tb
  simp only [oAdd, List.length_map, List.length_range]
  rw [if_pos (by unfold big; omega), range_app]
  congr 2
  refine List.map_congr_left fun i _ => ?_
  split <;> exact Rw_congr fun j _ => by simp [jo, *]
def un : Nat → Nat → Int := fun i j => if i = j then 1000000000000 else 0
theorem LvT_un (n : Nat) : LvT n n un := fun i j _ _ => by unfold un; split <;> omega
theorem mul_un {n m : Nat} {f : Nat → Nat → Int} (h : LvT n m f) {i j : Nat} (hi : i < n) (hj : j < m) : mul m f un i j = f i j := by
  refine eq_of_le fun t => ?_
  rw [le_mul (by omega)]
  have := h i j hi hj
  constructor
  · rintro ⟨k, hk, h1, h2⟩
    unfold un at h2
    split at h2
    · rename_i e; subst e; exact h1
    · omega
  · intro ht
    exact ⟨j, hj, ht, by simp [un]; omega⟩
theorem un_mul {n m : Nat} {f : Nat → Nat → Int} (h : LvT n m f) {i j : Nat} (hi : i < n) (hj : j < m) : mul n un f i j = f i j := by
  refine eq_of_le fun t => ?_
  rw [le_mul (by omega)]
  have := h i j hi hj
  constructor
  · rintro ⟨k, hk, h1, h2⟩
    unfold un at h1
    split at h1
    · rename_i e; subst e; exact h2
    · omega
  · intro ht
    exact ⟨i, hi, by simp [un]; omega, ht⟩
end Den

set_option autoImplicit true
set_option Elab.async false
set_option linter.all false
set_option maxRecDepth 100000
set_option maxHeartbeats 2000000
set_option autoImplicit false
namespace Den
open PySem PySem.Spec PyProof.Rows L2

/-! ### loops over a range of turns -/
section
variable {S : Type} {t : Tg} {body : Env' → MS} (st : S → Env') (enc : Nat → D)
theorem loopL_inv (I : Nat → S → Prop) : ∀ (n k : Nat) (s : S), I k s → (∀ i s, k ≤ i → i < k + n → I i s → ∃ e1 s', asg t (enc i) (st s) = some e1 ∧ body e1 = done (.nx, st s') ∧ I (i + 1) s') →
    ∃ s', I (k + n) s' ∧ loopF t body ((List.range' k n).map enc) (st s) = done (.nx, st s')
  | 0, k, s, h, _ => ⟨s, h, by simp⟩
  | n + 1, k, s, h, hb => by
    obtain ⟨e1, s1, h1, h2, h3⟩ := hb k s (Nat.le_refl _) (by omega) h
    obtain ⟨s2, h4, h5⟩ := loopL_inv I n (k + 1) s1 h3 fun i s hi hj => hb i s (by omega) (by omega)
    refine ⟨s2, by rwa [show k + (n + 1) = k + 1 + n by omega], ?_⟩
    rw [List.range'_succ, List.map_cons, loopF_cons, h1, optS_some, h2, bndR_done, loopK_nx, h5]
theorem loop_rng (I : Nat → S → Prop) {n : Nat} {s : S} (h0 : I 0 s) (h : ∀ i s, i < n → I i s → ∃ e1 s', asg t (enc i) (st s) = some e1 ∧ body e1 = done (.nx, st s') ∧ I (i + 1) s') :
    ∃ s', I n s' ∧ loopF t body ((List.range n).map enc) (st s) = done (.nx, st s') := by
  have := loopL_inv (t := t) (body := body) st enc I n 0 s h0 fun i s _ hi => h i s (by omega)
  rw [Nat.zero_add, ← List.range_eq_range'] at this
  exact this
/-- a loop that may leave with something -/
theorem loopL_ret (I : Nat → S → Prop) (Rt : Nat → D → Prop) : ∀ (n k : Nat) (s : S), I k s → (∀ i s, k ≤ i → i < k + n → I i s → ∃ e1, asg t (enc i) (st s) = some e1 ∧ ((∃ s', body e1 = done (.nx, st s') ∧ I (i + 1) s') ∨ ∃ d e, body e1 = done (.rt d, e) ∧ Rt i d)) →
    (∃ s', I (k + n) s' ∧ loopF t body ((List.range' k n).map enc) (st s) = done (.nx, st s')) ∨ ∃ i d e, i < k + n ∧ Rt i d ∧ loopF t body ((List.range' k n).map enc) (st s) = done (.rt d, e)
  | 0, k, s, h, _ => .inl ⟨s, h, by simp⟩
  | n + 1, k, s, h, hb => by
    obtain ⟨e1, h1, h2⟩ := hb k s (Nat.le_refl _) (by omega) h
    rw [List.range'_succ, List.map_cons, loopF_cons, h1, optS_some]
    rcases h2 with ⟨s1, h2, h3⟩ | ⟨d, e, h2, h3⟩
    · rw [h2, bndR_done, loopK_nx]
      rcases loopL_ret I Rt n (k + 1) s1 h3 fun i s hi hj => hb i s (by omega) (by omega) with ⟨s2, h4, h5⟩ | ⟨i, d, e, h4, h5, h6⟩
      · exact .inl ⟨s2, by rwa [show k + (n + 1) = k + 1 + n by omega], h5⟩
      · exact .inr ⟨i, d, e, by omega, h5, h6⟩
    · rw [h2, bndR_done, loopK_rt]
      exact .inr ⟨k, d, e, by omega, h3, rfl⟩
theorem loop_ret (I : Nat → S → Prop) (Rt : Nat → D → Prop) {n : Nat} {s : S} (h0 : I 0 s) (h : ∀ i s, i < n → I i s → ∃ e1, asg t (enc i) (st s) = some e1 ∧ ((∃ s', body e1 = done (.nx, st s') ∧ I (i + 1) s') ∨ ∃ d e, body e1 = done (.rt d, e) ∧ Rt i d)) :
    (∃ s', I n s' ∧ loopF t body ((List.range n).map enc) (st s) = done (.nx, st s')) ∨ ∃ i d e, i < n ∧ Rt i d ∧ loopF t body ((List.range n).map enc) (st s) = done (.rt d, e) := by
  have := loopL_ret (t := t) (body := body) st enc I Rt n 0 s h0 fun i s _ hi => h i s (by omega)
  rw [Nat.zero_add, ← List.range_eq_range'] at this
  exact this
theorem loop_ret' (I : Nat → S → Prop) (Rt : Nat → D → Prop) {n : Nat} {s : S} (h0 : I 0 s) (h : ∀ i s, i < n → I i s → ∃ e1, asg t (enc i) (st s) = some e1 ∧ ∀ X, body e1 = X → ((∃ s', X = done (.nx, st s') ∧ I (i + 1) s') ∨ ∃ d e, X = done (.rt d, e) ∧ Rt i d)) :
    (∃ s', I n s' ∧ loopF t body ((List.range n).map enc) (st s) = done (.nx, st s')) ∨ ∃ i d e, i < n ∧ Rt i d ∧ loopF t body ((List.range n).map enc) (st s) = done (.rt d, e) :=
  loop_ret st enc I Rt h0 fun i s hi hs => by
    obtain ⟨e1, h1, h2⟩ := h i s hi hs
    exact ⟨e1, h1, h2 _ rfl⟩
end
theorem compT {t : Tg} {tst : Env' → M Bool} {elt : Env' → M D} {env : Env'} {n : Nat} {enc : Nat → D} (g : Nat → D) (p : Nat → Bool) (h : ∀ i, i < n → ∃ e1, asg t (enc i) env = some e1 ∧ tst e1 = ret (p i) ∧ (p i = true → elt e1 = ret (g i))) :
    compF t tst elt env ((List.range n).map enc) = ret (((List.range n).filter p).map g) := compF_filter enc g p _ fun i hi => h i (List.mem_range.mp hi)

/-! ### rows as data -/
theorem enum1_Rw (n : Nat) (f : Nat → Int) : enum1 [Rw n f] = some ((List.range n).map fun i => .tup [.int (i : Nat), .int (f i)]) := by
  simp [enum1, enumD, List.zipWith_map_right, List.zipWith_self]
theorem enum1_Tb (n m : Nat) (f : Nat → Nat → Int) : enum1 [Tb n m f] = some ((List.range n).map fun i => .tup [.int (i : Nat), Rw m (f i)]) := by
  simp [enum1, enumD, List.zipWith_map_right, List.zipWith_self]
theorem zip2_TbRw (n m : Nat) (f : Nat → Nat → Int) (g : Nat → Int) : zip2 [Tb n m f, Rw n g] = some ((List.range n).map fun j => .tup [Rw m (f j), .int (g j)]) := by
  simp [zip2, zipD_map]
theorem eqvAll_map (a b : Nat → Int) : ∀ l : List Nat, PyData.eqvAll (pys (l.map fun j => D.int (a j))) (pys (l.map fun j => D.int (b j))) = decide (∀ j ∈ l, a j = b j)
  | [] => by simp [pys, PyData.eqvAll]
  | j :: l => by
    simp only [List.map_cons, pys, PyData.eqvAll, eqvAll_map a b l, D.py, PyData.eqv]
    by_cases h : a j = b j <;> simp [h]
theorem deq_Rw (n : Nat) (a b : Nat → Int) : deq (Rw n a) (Rw n b) = decide (∀ j, j < n → a j = b j) := by
  have := eqvAll_map a b (List.range n)
  simp only [List.mem_range] at this
  rw [← this]
  simp only [deq, Rw, D.py, PyData.eqv]
theorem oEq_Rw (n : Nat) (a b : Nat → Int) : oEq (Rw n a) (Rw n b) = some (.bl (decide (∀ j, j < n → a j = b j))) := by simp [oEq, deq_Rw]
theorem oNe_Rw (n : Nat) (a b : Nat → Int) : oNe (Rw n a) (Rw n b) = some (.bl (!decide (∀ j, j < n → a j = b j))) := by simp [oNe, deq_Rw]
theorem eqvAll_mapT (m : Nat) (a b : Nat → Nat → Int) : ∀ l : List Nat, PyData.eqvAll (pys (l.map fun j => Rw m (a j))) (pys (l.map fun j => Rw m (b j))) = decide (∀ j ∈ l, ∀ k, k < m → a j k = b j k)
  | [] => by simp [pys, PyData.eqvAll]
  | j :: l => by
    have e : PyData.eqv (Rw m (a j)).py (Rw m (b j)).py = decide (∀ k, k < m → a j k = b j k) := deq_Rw m (a j) (b j)
    simp only [List.map_cons, pys, PyData.eqvAll, eqvAll_mapT m a b l, e]
    by_cases h : ∀ k, k < m → a j k = b j k <;> simp [h]
theorem deq_Tb (n m : Nat) (a b : Nat → Nat → Int) : deq (Tb n m a) (Tb n m b) = decide (∀ i, i < n → ∀ j, j < m → a i j = b i j) := by
  have := eqvAll_mapT m a b (List.range n)
  simp only [List.mem_range] at this
  rw [← this]
  simp only [deq, Tb, D.py, PyData.eqv]
theorem oEq_Tb (n m : Nat) (a b : Nat → Nat → Int) : oEq (Tb n m a) (Tb n m b) = some (.bl (decide (∀ i, i < n → ∀ j, j < m → a i j = b i j))) := by simp [oEq, deq_Tb]
theorem oNe_Tb (n m : Nat) (a b : Nat → Nat → Int) : oNe (Tb n m a) (Tb n m b) = some (.bl (!decide (∀ i, i < n → ∀ j, j < m → a i j = b i j))) := by simp [oNe, deq_Tb]
/-- lists of ints that are empty or not -/
theorem oEq_nil {xs : List D} (h : ∀ d ∈ xs, okN 40 d) : oEq (.lst xs) (.lst []) = some (.bl xs.isEmpty) := by
  have e1 : dOk (.lst xs) = true := (okN_lst h).dOk (by decide)
  have e2 : dOk (.lst []) = true := (okN_lst (k := 1) (ds := []) (by simp)).dOk (by decide)
  have e3 : deq (.lst xs) (.lst []) = xs.isEmpty := by
    cases xs <;> simp [deq, D.py, pys, PyData.eqv, PyData.eqvAll]
  simp only [oEq, e1, e2, and_self, if_true, e3]
theorem oNe_nil {xs : List D} (h : ∀ d ∈ xs, okN 40 d) : oNe (.lst xs) (.lst []) = some (.bl (!xs.isEmpty)) := by
  have e1 : dOk (.lst xs) = true := (okN_lst h).dOk (by decide)
  have e2 : dOk (.lst []) = true := (okN_lst (k := 1) (ds := []) (by simp)).dOk (by decide)
  have e3 : deq (.lst xs) (.lst []) = xs.isEmpty := by
    cases xs <;> simp [deq, D.py, pys, PyData.eqv, PyData.eqvAll]
  simp only [oNe, e1, e2, and_self, if_true, e3]
theorem okN.mono {k k' : Nat} {d : D} (h : okN k d) (hk : k ≤ k') : okN k' d := ⟨h.1, by have := h.2; omega⟩

/-! ### slices, one item changed -/
def put (f : Nat → Int) (k : Nat) (x : Int) : Nat → Int := fun j => if j = k then x else f j
theorem slD_lo {m k : Nat} (f : Nat → Int) (h : k ≤ m) : slD (Rw m f) none (some (k : Int)) = some (Rw k f) := by
  unfold Rw slD cutD
  simp only [List.length_map, List.length_range, HT.sIx_none, HT.sIx_nat, List.drop_zero, Nat.sub_zero, ← List.map_take, List.take_range]
  rw [show min (min k m) m = k by omega]
theorem slD_hi {m k : Nat} (f : Nat → Int) (h : k ≤ m) : slD (Rw m f) (some (k : Int)) none = some (Rw (m - k) fun j => f (k + j)) := by
  unfold Rw slD cutD
  simp only [List.length_map, List.length_range, HT.sIx_none, HT.sIx_nat, ← List.map_take, ← List.map_drop]
  rw [show min k m = k by omega]
  congr 2
  refine List.ext_getElem? fun i => ?_
  by_cases hi : i < m - k
  · simp [hi, show k + i < m by omega]
  · simp [hi, show ¬ k + i < m by omega]
theorem slD_hi1 {m k : Nat} (f : Nat → Int) (h : k < m) : slD (Rw m f) (some ((k : Int) + 1)) none = some (Rw (m - (k + 1)) fun j => f (k + 1 + j)) := by
  have := slD_hi (k := k + 1) f h
  rwa [show (((k + 1 : Nat)) : Int) = (k : Int) + 1 by omega] at this
theorem tup1_Rw (x : Int) : D.tup [.int x] = Rw 1 fun _ => x := rfl
theorem oAdd_put {m k : Nat} (f : Nat → Int) (x : Int) (h : k < m) (hm : m ≤ 1000) : (oAdd (Rw k f) (.tup [.int x])).bind (fun d => oAdd d (Rw (m - (k + 1)) fun j => f (k + 1 + j))) = some (Rw m (put f k x)) := by
  rw [tup1_Rw, oAdd_Rw (by omega)]
  simp only [Option.bind_some]
  rw [oAdd_Rw (by omega)]
  rw [show k + 1 + (m - (k + 1)) = m by omega]
  congr 1
  refine Rw_congr fun j hj => ?_
  unfold put
  by_cases h1 : j < k
  · simp [h1, show j < k + 1 by omega, show j ≠ k by omega]
  · by_cases h2 : j = k
    · simp [h2]
    · simp [h2, show ¬ j < k + 1 by omega, show k + 1 + (j - (k + 1)) = j by omega]

/-! ### greatest settings below -/
def gb (n : Nat) (f : Nat → Nat → Int) (w : Nat → Int) (j : Nat) : Int := minL (1000000000000 :: ((List.range n).filter fun i => decide (w i < f i j)).map w)
theorem le_minL_iff {t : Int} {ns : List Int} (h : ns ≠ []) : t ≤ minL ns ↔ ∀ y ∈ ns, t ≤ y := by
  constructor
  · intro ht y hy
    have := minL_le hy
    omega
  · exact fun hy => hy _ (minL_mem h)
theorem le_gb {n j : Nat} {f : Nat → Nat → Int} {w : Nat → Int} {t : Int} : t ≤ gb n f w j ↔ t ≤ 1000000000000 ∧ ∀ i, i < n → w i < f i j → t ≤ w i := by
  unfold gb
  rw [le_minL_iff (by simp)]
  constructor
  · intro h
    refine ⟨h _ (by simp), fun i hi hw => h _ ?_⟩
    refine List.mem_cons_of_mem _ (List.mem_map.mpr ⟨i, List.mem_filter.mpr ⟨List.mem_range.mpr hi, by simpa using hw⟩, rfl⟩)
  · rintro ⟨h1, h2⟩ y hy
    rcases List.mem_cons.mp hy with rfl | hy
    · exact h1
    · obtain ⟨i, hi, rfl⟩ := List.mem_map.mp hy
      obtain ⟨hi, hw⟩ := List.mem_filter.mp hi
      exact h2 i (List.mem_range.mp hi) (by simpa using hw)
theorem Lv_gb {n m : Nat} {f : Nat → Nat → Int} {w : Nat → Int} (h : Lv n w) : Lv m (gb n f w) := fun j _ => ⟨le_gb.mpr ⟨by omega, fun i hi _ => (h i hi).1⟩, (le_gb (n := n) (f := f) (w := w) (j := j)).mp (Int.le_refl _) |>.1⟩
theorem oMin1_gb (n j : Nat) (f : Nat → Nat → Int) (w : Nat → Int) : oMin1 [.lst (.int 1000000000000 :: ((List.range n).filter fun i => decide (w i < f i j)).map fun i => D.int (w i))] = some (.int (gb n f w j)) := by
  have e : ints? (((List.range n).filter fun i => decide (w i < f i j)).map fun i => D.int (w i)) = some (((List.range n).filter fun i => decide (w i < f i j)).map w) := by
    have := ints?_map (((List.range n).filter fun i => decide (w i < f i j)).map w)
    rwa [List.map_map] at this
  simp only [oMin1, ints?, e, Option.map_some]
  rfl
theorem rl_le {m : Nat} {f g : Nat → Int} {t : Int} (h : 0 < m) : rl m f g ≤ t ↔ ∀ k, k < m → f k ≤ t ∨ g k ≤ t := by
  constructor
  · intro ht k hk
    have h1 := (le_rl (m := m) (f := f) (g := g) (t := min (f k) (g k)) h).mpr ⟨k, hk, by omega, by omega⟩
    omega
  · intro hk
    obtain ⟨k, hk1, h1, h2⟩ := (le_rl (m := m) (f := f) (g := g) h).mp (Int.le_refl _)
    have := hk k hk1
    omega
/-- settings that raise no level above w are those below gb -/
theorem below_gb {n m : Nat} (m0 : 0 < m) {f : Nat → Nat → Int} {w s : Nat → Int} (hs : Lv m s) : (∀ i, i < n → ap m f s i ≤ w i) ↔ ∀ j, j < m → s j ≤ gb n f w j := by
  constructor
  · intro h j hj
    refine le_gb.mpr ⟨(hs j hj).2, fun i hi hw => ?_⟩
    rcases (rl_le m0).mp (h i hi) j hj with h1 | h1
    · omega
    · exact h1
  · intro h i hi
    refine (rl_le m0).mpr fun j hj => ?_
    by_cases hw : w i < f i j
    · exact .inr ((le_gb.mp (h j hj)).2 i hi hw)
    · exact .inl (by omega)
theorem ap_mono {m i : Nat} (m0 : 0 < m) {f : Nat → Nat → Int} {s s' : Nat → Int} (h : ∀ j, j < m → s j ≤ s' j) : ap m f s i ≤ ap m f s' i := by
  obtain ⟨k, hk, h1, h2⟩ := (le_rl (m := m) (f := f i) (g := s) m0).mp (Int.le_refl _)
  exact (le_rl m0).mpr ⟨k, hk, h1, by have := h k hk; unfold ap at *; omega⟩
/-- a solution there is if gb is one -/
theorem gb_sol {n m : Nat} (m0 : 0 < m) {f : Nat → Nat → Int} {w s : Nat → Int} (hw : Lv n w) (hs : Lv m s) (h : ∀ i, i < n → ap m f s i = w i) : ∀ i, i < n → ap m f (gb n f w) i = w i := fun i hi => by
  have h1 := (below_gb (n := n) (f := f) (w := w) m0 hs).mp fun i hi => by rw [h i hi]; exact Int.le_refl _
  have h2 := ap_mono (f := f) (i := i) m0 h1
  have h3 := (below_gb (n := n) (f := f) (w := w) m0 (Lv_gb hw)).mpr (fun j _ => Int.le_refl _) i hi
  have := h i hi
  omega
/-- inlet j gives no reason against outlet o -/
def Bad (n : Nat) (f : Nat → Nat → Int) (ra : Nat → Int) (wd : Int) (o j : Nat) : Prop := wd ≤ f o j ∧ ∀ k, k < n → ¬ (ra k < f k j ∧ ra k < wd)
theorem bad_iff {n o j : Nat} {f : Nat → Nat → Int} {ra : Nat → Int} {wd : Int} (h : wd ≤ 1000000000000) : Bad n f ra wd o j ↔ wd ≤ f o j ∧ wd ≤ gb n f ra j := by
  unfold Bad
  rw [le_gb]
  constructor
  · rintro ⟨h1, h2⟩
    exact ⟨h1, h, fun i hi hw => by have := h2 i hi; omega⟩
  · rintro ⟨h1, _, h2⟩
    exact ⟨h1, fun k hk ⟨h3, h4⟩ => by have := h2 k hk h3; omega⟩
theorem bad_ap {n m o : Nat} (m0 : 0 < m) {f : Nat → Nat → Int} {ra : Nat → Int} {wd : Int} (h : wd ≤ 1000000000000) : (∃ j, j < m ∧ Bad n f ra wd o j) ↔ wd ≤ ap m f (gb n f ra) o := by
  unfold ap
  rw [le_rl m0]
  exact exists_congr fun j => and_congr_right fun _ => bad_iff h
/-- the outlets that hold inlet j below wd; the reason told for inlet j -/
def hs (n : Nat) (f : Nat → Nat → Int) (ra : Nat → Int) (wd : Int) (j : Nat) : List Nat := (List.range n).filter fun k => decide (ra k < f k j) && decide (ra k < wd)
def rsn (n : Nat) (f : Nat → Nat → Int) (ra : Nat → Int) (wd : Int) (o j : Nat) : D := if f o j < wd then .non else match hs n f ra wd j with
  | k :: _ => .int (k : Nat)
  | [] => .non
theorem hs_nil {n j : Nat} {f : Nat → Nat → Int} {ra : Nat → Int} {wd : Int} : hs n f ra wd j = [] ↔ ∀ k, k < n → ¬ (ra k < f k j ∧ ra k < wd) := by
  unfold hs
  rw [List.filter_eq_nil_iff]
  simp
theorem hs_head {n j k : Nat} {r : List Nat} {f : Nat → Nat → Int} {ra : Nat → Int} {wd : Int} (h : hs n f ra wd j = k :: r) : k < n ∧ ra k < f k j ∧ ra k < wd := by
  have : k ∈ hs n f ra wd j := by rw [h]; simp
  unfold hs at this
  obtain ⟨h1, h2⟩ := List.mem_filter.mp this
  exact ⟨List.mem_range.mp h1, by simpa using h2⟩
theorem hs_len (n : Nat) (f : Nat → Nat → Int) (ra : Nat → Int) (wd : Int) (j : Nat) : (hs n f ra wd j).length ≤ n := by
  have := List.length_filter_le (fun k => decide (ra k < f k j) && decide (ra k < wd)) (List.range n)
  simpa [hs] using this
/-- levels up to B -/
def LvB (B : Int) (m : Nat) (f : Nat → Int) : Prop := ∀ j, j < m → 0 ≤ f j ∧ f j ≤ B
def LvTB (B : Int) (n m : Nat) (f : Nat → Nat → Int) : Prop := ∀ i j, i < n → j < m → 0 ≤ f i j ∧ f i j ≤ B
theorem LvB.top {B : Int} {m : Nat} {f : Nat → Int} (h : LvB B m f) (hB : B ≤ 1000000000000) : Lv m f := fun j hj => ⟨(h j hj).1, by have := (h j hj).2; omega⟩
theorem LvTB.top {B : Int} {n m : Nat} {f : Nat → Nat → Int} (h : LvTB B n m f) (hB : B ≤ 1000000000000) : LvT n m f := fun i j hi hj => ⟨(h i j hi hj).1, by have := (h i j hi hj).2; omega⟩
theorem oMul_two {m : Nat} (h : m ≤ 1000) : oMul (.int 2) (.int (m : Nat)) = some (.int ((2 * m : Nat) : Int)) := by
  have : mulOk 2 (m : Int) := .inl (.inl (by decide))
  simp only [oMul]
  rw [if_pos this]
  congr 1
theorem Lv_put {m k : Nat} {f : Nat → Int} {x : Int} (h : Lv m f) (h0 : 0 ≤ x) (h1 : x ≤ 1000000000000) : Lv m (put f k x) := fun j hj => by
  unfold put
  split
  · exact ⟨h0, h1⟩
  · exact h j hj
theorem oAdd_put1 {k : Nat} (f : Nat → Int) (x : Int) (h : k + 1 ≤ 1000) : oAdd (Rw k f) (.tup [.int x]) = some (Rw (k + 1) fun j => if j < k then f j else x) := by
  rw [tup1_Rw, oAdd_Rw h]
theorem oAdd_put2 {m k : Nat} (f : Nat → Int) (x : Int) (h : k < m) (hm : m ≤ 1000) : oAdd (Rw (k + 1) fun j => if j < k then f j else x) (Rw (m - (k + 1)) fun j => f (k + 1 + j)) = some (Rw m (put f k x)) := by
  rw [oAdd_Rw (by omega), show k + 1 + (m - (k + 1)) = m by omega]
  congr 1
  refine Rw_congr fun j hj => ?_
  unfold put
  by_cases h1 : j < k
  · simp [h1, show j < k + 1 by omega, show j ≠ k by omega]
  · by_cases h2 : j = k
    · simp [h2]
    · simp [h2, show ¬ j < k + 1 by omega, show k + 1 + (j - (k + 1)) = j by omega]
theorem Rw_ofI {ds : List D} {m : Nat} {p : Nat → Int → Prop} (hl : ds.length = m) (h : ∀ (i : Nat) (z : D), ds[i]? = some z → ∃ x : Int, z = .int x ∧ p i x) : ∃ f : Nat → Int, D.tup ds = Rw m f ∧ ∀ j, j < m → p j (f j) := by
  subst hl
  refine ⟨fun j => match ds[j]? with | some (D.int x) => x | _ => 0, ?_, fun j hj => ?_⟩
  · unfold Rw
    congr 1
    refine List.ext_getElem? fun i => ?_
    by_cases hi : i < ds.length
    · obtain ⟨x, hx, _⟩ := h i _ (List.getElem?_eq_getElem hi)
      simp [hi, List.getElem?_eq_getElem hi, hx]
    · simp [hi, List.getElem?_eq_none (by omega : ds.length ≤ i)]
  · obtain ⟨x, hx, hp⟩ := h j _ (List.getElem?_eq_getElem hj)
    simp [List.getElem?_eq_getElem hj, hx, hp]
def mx (a b : Int) : Int := if b > a then b else a
theorem oMax2_mx (a b : Int) : oMax2 [.int a, .int b] = some (.int (mx a b)) := id rfl
theorem oSub_int (a b : Int) : oSub (.int a) (.int b) = some (.int (a - b)) := id rfl
theorem oDiv_two (a : Int) : oDiv (.int a) (.int 2) = some (.int (a / 2)) := by
  simp only [oDiv]
  rw [if_pos (by decide)]
theorem oList_Rw (n : Nat) (f : Nat → Int) : oList [Rw n f] = some (.lst ((List.range n).map fun j => .int (f j))) := id rfl
theorem oAdd_lst {xs ys : List D} (h : xs.length + ys.length ≤ 1000) : oAdd (.lst xs) (.lst ys) = some (.lst (xs ++ ys)) := by
  simp only [oAdd]
  rw [if_pos (by unfold big; omega)]
/-- settings between two solutions are solutions -/
theorem sol_between {n m : Nat} (m0 : 0 < m) {f : Nat → Nat → Int} {w s t u : Nat → Int} (hs : ∀ i, i < n → ap m f s i = w i) (ht : ∀ i, i < n → ap m f t i = w i) (h1 : ∀ j, j < m → s j ≤ u j) (h2 : ∀ j, j < m → u j ≤ t j) : ∀ i, i < n → ap m f u i = w i := fun i hi => by
  have e1 := ap_mono (f := f) (i := i) m0 h1
  have e2 := ap_mono (f := f) (i := i) m0 h2
  have := hs i hi
  have := ht i hi
  omega
theorem GvS.bn {m : MS} {f : R → MS} {c C : Nat} {S S' : R → Prop} (c' : Nat) (h : GvS m c S) (h' : ∀ a, S a → GvS (f a) c' S') (hC : c + c' ≤ C := by omega) : GvS (bndR m f) C S' := (GvS.bnd h h').mono hC fun _ h => h
/-- turns of a range, kept as one word -/
def L3 : List D := [.int 0, .int 1, .int 2]
def L8 : List D := [.int 0, .int 1, .int 2, .int 3, .int 4, .int 5, .int 6, .int 7]
theorem rng1_L3 : rng1 [.int 3] = some L3 := id rfl
theorem rng1_L8 : rng1 [.int 8] = some L8 := id rfl
theorem oEq_bl (a b : Bool) : oEq (.bl a) (.bl b) = some (.bl (decide (a = b))) := by
  have e : ∀ c, dOk (.bl c) = true := fun c => by cases c <;> rfl
  simp only [oEq, e, and_self, if_true, deq, D.py, PyData.eqv]
  cases a <;> cases b <;> rfl
theorem oNe_bl (a b : Bool) : oNe (.bl a) (.bl b) = some (.bl (!decide (a = b))) := by
  have e : ∀ c, dOk (.bl c) = true := fun c => by cases c <;> rfl
  simp only [oNe, e, and_self, if_true, deq, D.py, PyData.eqv]
  cases a <;> cases b <;> rfl
def putT (f : Nat → Nat → Int) (k : Nat) (r : Nat → Int) : Nat → Nat → Int := fun i j => if i = k then r j else f i j
theorem slT_lo {n m k : Nat} (f : Nat → Nat → Int) (h : k ≤ n) : slD (Tb n m f) none (some (k : Int)) = some (Tb k m f) := by
  unfold Tb slD cutD
  simp only [List.length_map, List.length_range, HT.sIx_none, HT.sIx_nat, List.drop_zero, Nat.sub_zero, ← List.map_take, List.take_range]
  rw [show min (min k n) n = k by omega]
theorem slT_hi1 {n m k : Nat} (f : Nat → Nat → Int) (h : k < n) : slD (Tb n m f) (some ((k : Int) + 1)) none = some (Tb (n - (k + 1)) m fun i => f (k + 1 + i)) := by
  unfold Tb slD cutD
  rw [show (k : Int) + 1 = ((k + 1 : Nat) : Int) by omega]
  simp only [List.length_map, List.length_range, HT.sIx_none, HT.sIx_nat, ← List.map_take, ← List.map_drop]
  rw [show min (k + 1) n = k + 1 by omega]
  congr 2
  refine List.ext_getElem? fun i => ?_
  by_cases hi : i < n - (k + 1)
  · simp [hi, show k + 1 + i < n by omega]
  · simp [hi, show ¬ k + 1 + i < n by omega]
theorem tup1_Tb (m : Nat) (r : Nat → Int) : D.tup [Rw m r] = Tb 1 m fun _ => r := rfl
theorem oAdd_putT1 {k m : Nat} (f : Nat → Nat → Int) (r : Nat → Int) (h : k + 1 ≤ 1000) : oAdd (Tb k m f) (.tup [Rw m r]) = some (Tb (k + 1) m (jo k f fun _ => r)) := by
  rw [tup1_Tb, oAdd_Tb h]
theorem oAdd_putT2 {n m k : Nat} (f : Nat → Nat → Int) (r : Nat → Int) (h : k < n) (hn : n ≤ 1000) : oAdd (Tb (k + 1) m (jo k f fun _ => r)) (Tb (n - (k + 1)) m fun i => f (k + 1 + i)) = some (Tb n m (putT f k r)) := by
  rw [oAdd_Tb (by omega), show k + 1 + (n - (k + 1)) = n by omega]
  congr 1
  refine Tb_congr fun i j hi hj => ?_
  unfold putT jo
  by_cases h1 : i < k
  · simp [h1, show i < k + 1 by omega, show i ≠ k by omega]
  · by_cases h2 : i = k
    · simp [h2]
    · simp [h2, show ¬ i < k + 1 by omega, show k + 1 + (i - (k + 1)) = i by omega]
theorem LvT_putT {n m k : Nat} {f : Nat → Nat → Int} {r : Nat → Int} (h : LvT n m f) (hr : Lv m r) : LvT n m (putT f k r) := fun i j hi hj => by
  unfold putT
  split
  · exact hr j hj
  · exact h i j hi hj
/-- gb is a solution just if each outlet has an inlet that gives no reason -/
theorem bad_all {n m : Nat} (m0 : 0 < m) {f : Nat → Nat → Int} {w : Nat → Int} (hw : Lv n w) : (∀ o, o < n → ∃ j, j < m ∧ Bad n f w (w o) o j) ↔ ∀ i, i < n → ap m f (gb n f w) i = w i := by
  constructor
  · intro h i hi
    have h1 := (bad_ap (n := n) (o := i) (ra := w) m0 (f := f) (hw i hi).2).mp (h i hi)
    have h2 := (below_gb (n := n) (f := f) (w := w) m0 (Lv_gb hw)).mpr (fun j _ => Int.le_refl _) i hi
    omega
  · intro h o ho
    exact (bad_ap (n := n) (o := o) (ra := w) m0 (f := f) (hw o ho).2).mpr (by rw [h o ho]; exact Int.le_refl _)
/-- a drawing loop over a range, the turn told -/
theorem GvS.loopR' {t : Tg} {body : Env' → MS} {c : Nat} {enc : Nat → D} (I : Nat → Env' → Prop) : ∀ (n k : Nat) (env : Env'), I k env → (∀ i env, k ≤ i → i < k + n → I i env → ∃ e1, asg t (enc i) env = some e1 ∧ GvS (body e1) c (fun r => ∃ e, r = (.nx, e) ∧ I (i + 1) e)) →
    GvS (loopF t body ((List.range' k n).map enc) env) (n * c) (fun r => ∃ e, r = (.nx, e) ∧ I (k + n) e)
  | 0, k, env, h, _ => by
    simp only [List.range'_zero, List.map_nil, loopF_nil, Nat.zero_mul]
    exact GvS.done ⟨env, rfl, h⟩
  | n + 1, k, env, h, hb => by
    obtain ⟨e1, h1, h2⟩ := hb k env (Nat.le_refl _) (by omega) h
    rw [List.range'_succ, List.map_cons, loopF_cons, h1, optS_some]
    refine GvS.bn (n * c) h2 ?_ (by rw [Nat.succ_mul]; omega)
    rintro _ ⟨e2, rfl, h3⟩
    rw [loopK_nx, show k + (n + 1) = k + 1 + n by omega]
    exact GvS.loopR' I n (k + 1) e2 h3 fun i env hi hj => hb i env (by omega) (by omega)
theorem GvS.loopR {t : Tg} {body : Env' → MS} {c n : Nat} {enc : Nat → D} (I : Nat → Env' → Prop) {env : Env'} (h0 : I 0 env) (h : ∀ i env, i < n → I i env → ∃ e1, asg t (enc i) env = some e1 ∧ GvS (body e1) c (fun r => ∃ e, r = (.nx, e) ∧ I (i + 1) e)) :
    GvS (loopF t body ((List.range n).map enc) env) (n * c) (fun r => ∃ e, r = (.nx, e) ∧ I n e) := by
  have := GvS.loopR' (t := t) (body := body) (enc := enc) I n 0 env h0 fun i env _ hi => h i env (by omega)
  rw [Nat.zero_add, ← List.range_eq_range'] at this
  exact this
theorem lst_rng {ds : List D} {m : Nat} (h : ds.length = m) : ds = (List.range m).map fun j => (ds[j]?).getD .non := by
  subst h
  refine List.ext_getElem? fun i => ?_
  by_cases hi : i < ds.length
  · simp [hi]
  · simp [hi, List.getElem?_eq_none (by omega : ds.length ≤ i)]
def L12 : List D := (List.range 12).map fun i => D.int (i : Nat)
theorem rng1_L12 : rng1 [.int 12] = some L12 := id rfl
end Den

set_option autoImplicit true
set_option Elab.async false
set_option linter.all false
set_option maxRecDepth 100000
set_option maxHeartbeats 2000000
set_option autoImplicit false
namespace Den
open PySem PySem.Spec PyProof.Rows L2

/-! ### loops over a list, states told by a function -/
section
variable {α S : Type} {t : Tg} {body : Env' → MS} (st : S → Env') (enc : α → D)
theorem loop_foldL (step : α → S → S) (I : Nat → S → Prop) : ∀ (xs : List α) (k : Nat) (s : S), I k s → (∀ i x s, i < xs.length → xs[i]? = some x → I (k + i) s → I (k + i + 1) (step x s) ∧ ∃ e1, asg t (enc x) (st s) = some e1 ∧ body e1 = done (.nx, st (step x s))) →
    I (k + xs.length) (xs.foldl (fun s x => step x s) s) ∧ loopF t body (xs.map enc) (st s) = done (.nx, st (xs.foldl (fun s x => step x s) s))
  | [], k, s, h, _ => ⟨h, by simp⟩
  | x :: xs, k, s, h, hb => by
    obtain ⟨h1, e1, h2, h3⟩ := hb 0 x s (by simp) rfl h
    obtain ⟨h4, h5⟩ := loop_foldL step I xs (k + 1) (step x s) h1 fun i y s hi hy hs => by
      have := hb (i + 1) y s (by simp; omega) (by simpa using hy) (by rwa [show k + (i + 1) = k + 1 + i by omega])
      rwa [show k + (i + 1) + 1 = k + 1 + i + 1 by omega] at this
    refine ⟨by rw [List.length_cons, show k + (xs.length + 1) = k + 1 + xs.length by omega]; exact h4, ?_⟩
    rw [List.map_cons, loopF_cons, h2, optS_some, h3, bndR_done, loopK_nx, h5]
    rfl
theorem loop_fold (step : α → S → S) (I : Nat → S → Prop) {xs : List α} {s : S} (h0 : I 0 s) (h : ∀ i x s, i < xs.length → xs[i]? = some x → I i s → I (i + 1) (step x s) ∧ ∃ e1, asg t (enc x) (st s) = some e1 ∧ body e1 = done (.nx, st (step x s))) :
    I xs.length (xs.foldl (fun s x => step x s) s) ∧ loopF t body (xs.map enc) (st s) = done (.nx, st (xs.foldl (fun s x => step x s) s)) := by
  have := loop_foldL (t := t) (body := body) st enc step I xs 0 s h0 fun i x s hi hx hs => by
    simp only [Nat.zero_add] at hs ⊢
    exact h i x s hi hx hs
  simpa using this
end
@[simp] theorem asg_nm (i : Nat) (d : D) (env : Env') : asg (.nm i) d env = if i < env.length then some (env.set i (.sh d)) else none := id rfl
@[simp] theorem asg_tt (ts : List Tg) (ds : List D) (env : Env') : asg (.tp ts) (.tup ds) env = asgL ts ds env := id rfl
@[simp] theorem asg_tl (ts : List Tg) (ds : List D) (env : Env') : asg (.tp ts) (.lst ds) env = asgL ts ds env := id rfl
@[simp] theorem asgL_n (env : Env') : asgL [] [] env = some env := id rfl
@[simp] theorem asgL_c (t : Tg) (ts : List Tg) (d : D) (ds : List D) (env : Env') : asgL (t :: ts) (d :: ds) env = (asg t d env).bind fun e => asgL ts ds e := id rfl
@[simp] theorem wipeE_n (env : Env') : wipeE env [] = env := id rfl
@[simp] theorem wipeE_c (env : Env') (v : Nat) (vs : List Nat) : wipeE env (v :: vs) = (wipeE env vs).set v .un := id rfl
@[simp] theorem itL_tup (xs : List D) : itL (.tup xs) = some xs := id rfl
@[simp] theorem itL_lst (xs : List D) : itL (.lst xs) = some xs := id rfl
@[simp] theorem lstOf_lst (xs : List D) : lstOf (.lst xs) = some xs := id rfl
@[simp] theorem optI_int (i : Int) : optI (some (.int i)) = some (some i) := id rfl
theorem mkT_ok {f : List D → D} {xs : List D} (h : xs.length ≤ 16777216) : mkT f xs = some (f xs) := if_pos h
def Lr (n : Nat) : List D := (List.range n).map fun i => D.int (i : Nat)
theorem Lr_e (n : Nat) : Lr n = (List.range n).map fun i => D.int (i : Nat) := rfl
theorem Lr_len (n : Nat) : (Lr n).length = n := by simp [Lr]
theorem Lr_mem {n : Nat} {d : D} (h : d ∈ Lr n) : ∃ i, i < n ∧ d = .int (i : Nat) := by
  obtain ⟨i, hi, rfl⟩ := List.mem_map.mp h
  exact ⟨i, List.mem_range.mp hi, rfl⟩
theorem rr1 : rng1 [.int 1] = some (Lr 1) := id rfl
theorem rr2 : rng1 [.int 2] = some (Lr 2) := id rfl
theorem rr3 : rng1 [.int 3] = some (Lr 3) := id rfl
theorem rr4 : rng1 [.int 4] = some (Lr 4) := id rfl
theorem rr5 : rng1 [.int 5] = some (Lr 5) := id rfl
theorem rr6 : rng1 [.int 6] = some (Lr 6) := id rfl
theorem rr7 : rng1 [.int 7] = some (Lr 7) := id rfl
theorem rr8 : rng1 [.int 8] = some (Lr 8) := id rfl
theorem rr9 : rng1 [.int 9] = some (Lr 9) := id rfl
theorem rr10 : rng1 [.int 10] = some (Lr 10) := id rfl
theorem rr12 : rng1 [.int 12] = some (Lr 12) := id rfl
@[simp] theorem Ele_nil : Ele [] [] ↔ True := ⟨fun _ => trivial, fun _ => .nil⟩
@[simp] theorem Ele_cons {s t : Slot} {e f : Env'} : Ele (s :: e) (t :: f) ↔ Sle s t ∧ Ele e f := ⟨fun h => by cases h with | cons a b => exact ⟨a, b⟩, fun h => .cons h.1 h.2⟩
@[simp] theorem Sle_self (s : Slot) : Sle s s ↔ True := ⟨fun _ => trivial, fun _ => .refl s⟩
@[simp] theorem Sle_un (d : D) : Sle .un (.sh d) ↔ True := ⟨fun _ => trivial, fun _ => .inr ⟨rfl, d, rfl⟩⟩
theorem Gv.unRt {m : MS} {c : Nat} {d : D} (h : GvS m c (Rt d)) : Gv (unR m) c (fun x => x = d) := h.un fun r hr => .inr ⟨d, r.2, by
  obtain ⟨fl, e⟩ := r
  have : fl = .rt d := hr
  subst this
  rfl, rfl⟩
theorem GvS.low {m : MS} {c : Nat} {env env1 : Env'} (h : GvS m c (Nx env1)) (k : Ele env env1) : GvS m c (Nx env) := h.mono (Nat.le_refl _) fun _ z => ⟨z.1, Ele.trans k z.2⟩
theorem GvS.nx {env e : Env'} (h : Ele env e) : GvS (Den.done (.nx, e)) 0 (Nx env) := GvS.done ⟨rfl, h⟩
theorem GvS.rt {e : Env'} {d : D} : GvS (Den.done (.rt d, e)) 0 (Rt d) := GvS.done rfl
theorem compM {α : Type} {t : Tg} {tst : Env' → M Bool} {elt : Env' → M D} {env : Env'} {enc : α → D} {ys : List α} (g : α → D) (p : α → Bool) (h : ∀ y ∈ ys, ∃ e1, asg t (enc y) env = some e1 ∧ tst e1 = ret (p y) ∧ (p y = true → elt e1 = ret (g y))) : compF t tst elt env (ys.map enc) = ret ((ys.filter p).map g) :=
  compF_filter enc g p ys h
/-- a whole comprehension -/
theorem lcM {α : Type} {it : Env' → M (List D)} {t : Tg} {tst : Env' → M Bool} {elt : Env' → M D} {vs : List Nat} {env : Env'} {enc : α → D} {ys : List α} (g : α → D) (p : α → Bool) (hi : it env = ret (ys.map enc)) (hl : ys.length ≤ 1000000) (hw : okW env vs = true)
    (h : ∀ y ∈ ys, ∃ e1, asg t (enc y) (wipeE env vs) = some e1 ∧ tst e1 = ret (p y) ∧ (p y = true → elt e1 = ret (g y))) : eLcL it t tst elt vs env = ret ((ys.filter p).map g) := by
  have e : okW env vs = true ∧ (ys.map enc).length ≤ big := ⟨hw, by rw [List.length_map, big_val]; omega⟩
  rw [eLcL_e, hi, bnd_ret', if_pos e, compM g p h, noex_ret']
theorem lcA {α : Type} {it : Env' → M (List D)} {t : Tg} {elt : Env' → M D} {vs : List Nat} {env : Env'} {enc : α → D} {ys : List α} (g : α → D) (hi : it env = ret (ys.map enc)) (hl : ys.length ≤ 1000000) (hw : okW env vs = true)
    (h : ∀ y ∈ ys, ∃ e1, asg t (enc y) (wipeE env vs) = some e1 ∧ elt e1 = ret (g y)) : eLcL it t cYes elt vs env = ret (ys.map g) := by
  have e : okW env vs = true ∧ (ys.map enc).length ≤ big := ⟨hw, by rw [List.length_map, big_val]; omega⟩
  rw [eLcL_e, hi, bnd_ret', if_pos e, compF_map enc g ys h, noex_ret']
theorem lcR {it : Env' → M (List D)} {t : Tg} {tst : Env' → M Bool} {elt : Env' → M D} {vs : List Nat} {env : Env'} {enc : Nat → D} {n : Nat} (g : Nat → D) (p : Nat → Bool) (hi : it env = ret ((List.range n).map enc)) (hl : n ≤ 1000000) (hw : okW env vs = true)
    (h : ∀ i, i < n → ∃ e1, asg t (enc i) (wipeE env vs) = some e1 ∧ tst e1 = ret (p i) ∧ (p i = true → elt e1 = ret (g i))) : eLcL it t tst elt vs env = ret (((List.range n).filter p).map g) :=
  lcM g p hi (by simpa using hl) hw fun i hi => h i (List.mem_range.mp hi)
theorem lcRA {it : Env' → M (List D)} {t : Tg} {elt : Env' → M D} {vs : List Nat} {env : Env'} {enc : Nat → D} {n : Nat} (g : Nat → D) (hi : it env = ret ((List.range n).map enc)) (hl : n ≤ 1000000) (hw : okW env vs = true)
    (h : ∀ i, i < n → ∃ e1, asg t (enc i) (wipeE env vs) = some e1 ∧ elt e1 = ret (g i)) : eLcL it t cYes elt vs env = ret ((List.range n).map g) :=
  lcA g hi (by simpa using hl) hw fun i hi => h i (List.mem_range.mp hi)
/-! ### comprehensions that draw -/
theorem Gv.compI {t : Tg} {elt : Env' → M D} {env : Env'} {enc : Nat → D} {c : Nat} {S : Nat → D → Prop} : ∀ (n k : Nat), (∀ i, k ≤ i → i < k + n → ∃ e1, asg t (enc i) env = some e1 ∧ Gv (elt e1) c (S i)) →
    Gv (compF t cYes elt env ((List.range' k n).map enc)) (n * c) (fun ys => ys.length = n ∧ ∀ j, j < n → ∃ z, ys[j]? = some z ∧ S (k + j) z)
  | 0, k, _ => by
    simp only [List.range'_zero, List.map_nil, Nat.zero_mul]
    exact Gv.ret ⟨rfl, fun j h => absurd h (Nat.not_lt_zero j)⟩
  | n + 1, k, h => by
    obtain ⟨e1, h1, h2⟩ := h k (Nat.le_refl _) (by omega)
    have ih := Gv.compI (S := S) (t := t) (elt := elt) (env := env) (enc := enc) (c := c) n (k + 1) fun i h1 h2 => h i (by omega) (by omega)
    have e : (n + 1) * c = c + (n * c + 0) := by rw [Nat.succ_mul]; omega
    rw [e, List.range'_succ, List.map_cons]
    simp only [compF, h1, opt_some', bnd_ret', cYes_e, if_true]
    refine Gv.bnd h2 fun z hz => Gv.bnd ih fun ys ⟨hl, hy⟩ => Gv.ret ⟨by simp [hl], fun j hj => ?_⟩
    cases j with
    | zero => exact ⟨z, rfl, hz⟩
    | succ j =>
      obtain ⟨z', a, b⟩ := hy j (by omega)
      exact ⟨z', by simpa using a, by rwa [show k + (j + 1) = k + 1 + j by omega]⟩
theorem Gv.lc {it : Env' → M (List D)} {t : Tg} {elt : Env' → M D} {vs : List Nat} {env : Env'} {enc : Nat → D} {n c : Nat} (S : Nat → D → Prop) (hi : it env = Den.ret ((List.range n).map enc)) (hl : n ≤ 1000000) (hw : okW env vs = true)
    (h : ∀ i, i < n → ∃ e1, asg t (enc i) (wipeE env vs) = some e1 ∧ Gv (elt e1) c (S i)) : Gv (eLcL it t cYes elt vs env) (n * c) (fun ys => ∃ F : Nat → D, ys = (List.range n).map F ∧ ∀ i, i < n → S i (F i)) := by
  have e : okW env vs = true ∧ ((List.range n).map enc).length ≤ big := ⟨hw, by rw [List.length_map, List.length_range, big_val]; omega⟩
  rw [eLcL_e, hi, bnd_ret', _root_.if_pos e]
  have := Gv.compI (S := S) (t := t) (elt := elt) (env := wipeE env vs) (enc := enc) (c := c) n 0 fun i _ hi => h i (by omega)
  rw [← List.range_eq_range'] at this
  refine (Gv.noex this).mono (Nat.le_refl _) fun ys ⟨hy, hz⟩ => ⟨fun j => (ys[j]?).getD .non, lst_rng hy, fun i hi => ?_⟩
  obtain ⟨z, a, b⟩ := hz i hi
  rw [Nat.zero_add] at b
  show S i ((ys[i]?).getD .non)
  rw [a]
  exact b
theorem ints_of {n : Nat} {F : Nat → D} {p : Nat → Int → Prop} (h : ∀ i, i < n → ∃ x : Int, F i = .int x ∧ p i x) : ∃ f : Nat → Int, (List.range n).map F = (List.range n).map (fun i => .int (f i)) ∧ ∀ i, i < n → p i (f i) := by
  refine ⟨fun i => match F i with | .int x => x | _ => 0, List.map_congr_left fun i hi => ?_, fun i hi => ?_⟩
  · obtain ⟨x, e, _⟩ := h i (List.mem_range.mp hi)
    simp [e]
  · obtain ⟨x, e, q⟩ := h i hi
    dsimp only
    rw [e]
    exact q
theorem rows_of {n m : Nat} {F : Nat → D} {p : Nat → (Nat → Int) → Prop} (h : ∀ i, i < n → ∃ f : Nat → Int, F i = Rw m f ∧ p i f) : ∃ f : Nat → Nat → Int, (List.range n).map F = (List.range n).map (fun i => Rw m (f i)) ∧ ∀ i, i < n → p i (f i) := by
  have hc : ∀ i, ∃ f : Nat → Int, i < n → F i = Rw m f ∧ p i f := fun i => by
    by_cases hi : i < n
    · obtain ⟨f, a, b⟩ := h i hi
      exact ⟨f, fun _ => ⟨a, b⟩⟩
    · exact ⟨fun _ => 0, fun z => absurd z hi⟩
  refine ⟨fun i => Classical.choose (hc i), List.map_congr_left fun i hi => ?_, fun i hi => (Classical.choose_spec (hc i) hi).2⟩
  rw [(Classical.choose_spec (hc i) (List.mem_range.mp hi)).1]
/-! ### one item left out -/
def del {α : Type} (f : Nat → α) (k j : Nat) : α := if j < k then f j else f (j + 1)
theorem cutG_lo {m k : Nat} (F : Nat → D) (h : k ≤ m) : slD (.tup ((List.range m).map F)) none (some (k : Int)) = some (.tup ((List.range k).map F)) := by
  unfold slD cutD
  simp only [List.length_map, List.length_range, HT.sIx_none, HT.sIx_nat, List.drop_zero, Nat.sub_zero, ← List.map_take, List.take_range]
  rw [show min (min k m) m = k by omega]
theorem cutG_hi1 {m k : Nat} (F : Nat → D) (h : k < m) : slD (.tup ((List.range m).map F)) (some ((k : Int) + 1)) none = some (.tup ((List.range (m - (k + 1))).map fun j => F (k + 1 + j))) := by
  unfold slD cutD
  rw [show (k : Int) + 1 = ((k + 1 : Nat) : Int) by omega]
  simp only [List.length_map, List.length_range, HT.sIx_none, HT.sIx_nat, ← List.map_take, ← List.map_drop]
  rw [show min (k + 1) m = k + 1 by omega]
  congr 2
  refine List.ext_getElem? fun i => ?_
  by_cases hi : i < m - (k + 1)
  · simp [hi, show k + 1 + i < m by omega]
  · simp [hi, show ¬ k + 1 + i < m by omega]
theorem addG_del {m k : Nat} (F : Nat → D) (h : k < m) (hm : m ≤ 1000) : oAdd (.tup ((List.range k).map F)) (.tup ((List.range (m - (k + 1))).map fun j => F (k + 1 + j))) = some (.tup ((List.range (m - 1)).map (del F k))) := by
  simp only [oAdd, List.length_map, List.length_range]
  rw [if_pos (by rw [big_val]; omega), range_app, show k + (m - (k + 1)) = m - 1 by omega]
  congr 2
  refine List.map_congr_left fun i hi => ?_
  unfold del
  split
  · rfl
  · rw [show k + 1 + (i - k) = i + 1 by omega]
theorem addRw_del {m k : Nat} (f : Nat → Int) (h : k < m) (hm : m ≤ 1000) : oAdd (Rw k f) (Rw (m - (k + 1)) fun j => f (k + 1 + j)) = some (Rw (m - 1) (del f k)) := by
  refine (addG_del (fun j => D.int (f j)) h hm).trans ?_
  unfold Rw del
  congr 2
  exact List.map_congr_left fun i _ => by split <;> rfl
theorem addTb_del {n m k : Nat} (f : Nat → Nat → Int) (h : k < n) (hn : n ≤ 1000) : oAdd (Tb k m f) (Tb (n - (k + 1)) m fun j => f (k + 1 + j)) = some (Tb (n - 1) m (del f k)) := by
  refine (addG_del (fun j => Rw m (f j)) h hn).trans ?_
  unfold Tb del
  congr 2
  exact List.map_congr_left fun i _ => by split <;> rfl
theorem Lv_del {n k : Nat} {w : Nat → Int} (h : Lv n w) (hk : k < n) : Lv (n - 1) (del w k) := fun j hj => by
  unfold del
  split
  · exact h j (by omega)
  · exact h (j + 1) (by omega)
theorem LvT_del {n m k : Nat} {f : Nat → Nat → Int} (h : LvT n m f) (hk : k < n) : LvT (n - 1) m (del f k) := fun i j hi hj => by
  unfold del
  split
  · exact h i j (by omega) hj
  · exact h (i + 1) j (by omega) hj
/-- the place of an item in the whole -/
def sk (k j : Nat) : Nat := if j < k then j else j + 1
theorem del_sk {α : Type} (f : Nat → α) (k j : Nat) : del f k j = f (sk k j) := by
  unfold del sk
  split <;> rfl
theorem sk_lt {n k j : Nat} (hk : k < n) (hj : j < n - 1) : sk k j < n := by
  unfold sk
  split <;> omega
theorem sk_hit {n k i : Nat} (hk : k < n) (hi : i < n) (ne : i ≠ k) : ∃ j, j < n - 1 ∧ sk k j = i := by
  by_cases h : i < k
  · exact ⟨i, by omega, by unfold sk; rw [if_pos h]⟩
  · exact ⟨i - 1, by omega, by unfold sk; rw [if_neg (by omega)]; omega⟩
theorem rsn_or {n o j : Nat} (f : Nat → Nat → Int) (ra : Nat → Int) (wd : Int) : rsn n f ra wd o j = .non ∨ ∃ k : Nat, k < n ∧ rsn n f ra wd o j = .int (k : Nat) := by
  unfold rsn
  split
  · exact .inl rfl
  · split
    · rename_i k r e
      exact .inr ⟨k, (hs_head e).1, rfl⟩
    · exact .inl rfl
theorem Gv.tt {c : Nat} : Gv (Den.ret (D.bl true)) c (fun d => d = .bl true) := Gv.mono (S := fun d => d = .bl true) (Gv.ret rfl) (Nat.zero_le _) fun _ z => z
def dSet : D := .str "setting"
def dEvi : D := .str "evidence"
theorem es_ss : oEq dSet (.str "setting") = some (.bl true) := oEq_self (by decide +kernel)
theorem es_ee : oEq dEvi (.str "evidence") = some (.bl true) := oEq_self (by decide +kernel)
theorem es_se : oEq dSet (.str "evidence") = some (.bl false) := by
  have h1 : dOk dSet = true := by decide +kernel
  have h2 : dOk (.str "evidence") = true := by decide +kernel
  have h3 : deq dSet (.str "evidence") = false := by decide +kernel
  simp [oEq, h1, h2, h3]
theorem es_es : oEq dEvi (.str "setting") = some (.bl false) := by
  have h1 : dOk dEvi = true := by decide +kernel
  have h2 : dOk (.str "setting") = true := by decide +kernel
  have h3 : deq dEvi (.str "setting") = false := by decide +kernel
  simp [oEq, h1, h2, h3]
theorem es_dss : oEq dSet dSet = some (.bl true) := es_ss
theorem es_dee : oEq dEvi dEvi = some (.bl true) := es_ee
theorem es_dse : oEq dSet dEvi = some (.bl false) := es_se
theorem es_des : oEq dEvi dSet = some (.bl false) := es_es
theorem ne_of_eq {a b : D} {k : Bool} (h : oEq a b = some (.bl k)) : oNe a b = some (.bl (!k)) := by
  unfold oEq at h
  unfold oNe
  split at h
  · rename_i q
    rw [if_pos q]
    have e : deq a b = k := by injection h with h; injection h
    rw [e]
  · cases h
end Den

set_option autoImplicit true
set_option Elab.async false
set_option linter.all false
set_option maxRecDepth 100000
set_option maxHeartbeats 2000000
set_option autoImplicit false
namespace Den
open PySem PySem.Spec PyProof.Rows L2

/-! ### tolerances -/
def mv (w : Nat → Int) (t : Int) : Nat → Int := fun i => w i + t
theorem Lv_gb0 {n m : Nat} {f : Nat → Nat → Int} {w : Nat → Int} (h : ∀ i, i < n → 0 ≤ w i) : Lv m (gb n f w) := fun j _ => ⟨le_gb.mpr ⟨by omega, fun i hi _ => h i hi⟩, (le_gb (n := n) (f := f) (w := w) (j := j)).mp (Int.le_refl _) |>.1⟩
/-- the greatest setting is within t -/
def Feas (n m : Nat) (f : Nat → Nat → Int) (w : Nat → Int) (t : Int) : Prop := ∀ i, i < n → w i - t ≤ ap m f (gb n f (mv w t)) i ∧ ap m f (gb n f (mv w t)) i ≤ w i + t
/-- some setting is within t -/
def Near (n m : Nat) (f : Nat → Nat → Int) (w : Nat → Int) (t : Int) : Prop := ∃ s, Lv m s ∧ ∀ i, i < n → w i - t ≤ ap m f s i ∧ ap m f s i ≤ w i + t
theorem near_feas {n m : Nat} (m0 : 0 < m) {f : Nat → Nat → Int} {w : Nat → Int} {t : Int} (hw : ∀ i, i < n → 0 ≤ w i) (ht : 0 ≤ t) : Near n m f w t ↔ Feas n m f w t := by
  have lg : Lv m (gb n f (mv w t)) := Lv_gb0 fun i hi => by have := hw i hi; unfold mv; omega
  constructor
  · rintro ⟨s, hs, h⟩ i hi
    have h1 := (below_gb (n := n) (f := f) (w := mv w t) m0 hs).mp fun i hi => by have := (h i hi).2; unfold mv; omega
    have h2 := ap_mono (f := f) (i := i) m0 h1
    have h3 := (below_gb (n := n) (f := f) (w := mv w t) m0 lg).mpr (fun j _ => Int.le_refl _) i hi
    have h4 := (h i hi).1
    have h5 : ap m f (gb n f (mv w t)) i ≤ w i + t := h3
    exact ⟨by omega, h5⟩
  · exact fun h => ⟨_, lg, h⟩
theorem near_bad {n m : Nat} (m0 : 0 < m) {f : Nat → Nat → Int} {w : Nat → Int} {t : Int} (hw : Lv n w) (ht : 0 ≤ t) : Near n m f w t ↔ ∀ o, o < n → ∃ j, j < m ∧ Bad n f (mv w t) (w o - t) o j := by
  have lg : Lv m (gb n f (mv w t)) := Lv_gb0 fun i hi => by have := (hw i hi).1; unfold mv; omega
  rw [near_feas m0 (fun i hi => (hw i hi).1) ht]
  constructor
  · intro h o ho
    exact (bad_ap m0 (by have := (hw o ho).2; omega)).mpr (h o ho).1
  · intro h o ho
    refine ⟨(bad_ap m0 (by have := (hw o ho).2; omega)).mp (h o ho), ?_⟩
    exact (below_gb (n := n) (f := f) (w := mv w t) m0 lg).mpr (fun j _ => Int.le_refl _) o ho
theorem near_mono {n m : Nat} {f : Nat → Nat → Int} {w : Nat → Int} {t t' : Int} (h : Near n m f w t) (ht : t ≤ t') : Near n m f w t' := by
  obtain ⟨s, hs, h⟩ := h
  exact ⟨s, hs, fun i hi => by have := h i hi; omega⟩
/-- t is the least tolerance -/
structure LT (n m : Nat) (f : Nat → Nat → Int) (w : Nat → Int) (t : Int) : Prop where
  pos : 0 ≤ t
  top : t ≤ 1000000000000
  near : Near n m f w t
  least : ∀ t', 0 ≤ t' → Near n m f w t' → t ≤ t'
theorem LT.uniq {n m : Nat} {f : Nat → Nat → Int} {w : Nat → Int} {t t' : Int} (h : LT n m f w t) (h' : LT n m f w t') : t = t' := by
  have := h.least t' h'.pos h'.near
  have := h'.least t h.pos h.near
  omega
theorem near_top {n m : Nat} (m0 : 0 < m) {f : Nat → Nat → Int} {w : Nat → Int} (hf : LvT n m f) (hw : Lv n w) : Near n m f w 1000000000000 := by
  refine ⟨fun _ => 0, fun _ _ => ⟨Int.le_refl 0, by show (0 : Int) ≤ _; omega⟩, fun i hi => ?_⟩
  have h1 := Lv.ap (g := fun _ => 0) m0 hf (fun _ _ => ⟨Int.le_refl 0, by show (0 : Int) ≤ _; omega⟩) i hi
  have h2 := hw i hi
  omega
/-- wants that differ by at most e -/
theorem near_shift {n m : Nat} {f : Nat → Nat → Int} {w w' : Nat → Int} {t e : Int} (h : Near n m f w t) (hd : ∀ i, i < n → w i - e ≤ w' i ∧ w' i ≤ w i + e) : Near n m f w' (t + e) := by
  obtain ⟨s, hs, h⟩ := h
  exact ⟨s, hs, fun i hi => by have := h i hi; have := hd i hi; omega⟩
theorem LT.shift {n m : Nat} {f : Nat → Nat → Int} {w w' : Nat → Int} {t t' e : Int} (h : LT n m f w t) (h' : LT n m f w' t') (he : 0 ≤ e) (hd : ∀ i, i < n → w i - e ≤ w' i ∧ w' i ≤ w i + e) : t - e ≤ t' ∧ t' ≤ t + e := by
  have h1 := h'.least (t + e) (by have := h.pos; omega) (near_shift h.near hd)
  have h2 := h.least (t' + e) (by have := h'.pos; omega) (near_shift h'.near fun i hi => by have := hd i hi; omega)
  omega
/-- one more inlet -/
theorem near_ji {n m p : Nat} (m0 : 0 < m) {f g : Nat → Nat → Int} {w : Nat → Int} {t : Int} (hf : LvT n m f) (h : Near n m f w t) : Near n (m + p) (ji m f g) w t := by
  obtain ⟨s, hs, h⟩ := h
  refine ⟨fun j => if j < m then s j else 0, fun j hj => ?_, fun i hi => ?_⟩
  · dsimp only
    split
    · exact hs j ‹_›
    · omega
  · have e : ap (m + p) (ji m f g) (fun j => if j < m then s j else 0) i = ap m f s i := by
      refine eq_of_le fun t => ?_
      unfold ap
      rw [le_rl (by omega), le_rl m0]
      constructor
      · rintro ⟨k, hk, a, b⟩
        by_cases hkm : k < m
        · refine ⟨k, hkm, ?_, ?_⟩
          · simpa [ji, hkm] using a
          · simpa [hkm] using b
        · have b : t ≤ 0 := by simpa [hkm] using b
          have := (hf i 0 hi m0).1
          have := (hs 0 m0).1
          exact ⟨0, m0, by omega, by omega⟩
      · rintro ⟨k, hk, a, b⟩
        exact ⟨k, by omega, by simpa [ji, hk] using a, by simpa [hk] using b⟩
    rw [e]
    exact h i hi
/-- fewer outlets -/
theorem near_jo {n p m : Nat} {f g : Nat → Nat → Int} {w v : Nat → Int} {t : Int} (h : Near (n + p) m (jo n f g) (fun i => if i < n then w i else v (i - n)) t) : Near n m f w t := by
  obtain ⟨s, hs, h⟩ := h
  refine ⟨s, hs, fun i hi => ?_⟩
  have := h i (by omega)
  have e : ap m (jo n f g) s i = ap m f s i := rl_congr (fun k _ => by simp [jo, hi]) fun _ _ => rfl
  rw [e] at this
  simpa [hi] using this
theorem mn_mul (c a b : Int) (hc : 0 ≤ c) : mn (c * a) (c * b) = c * mn a b := by
  unfold mn
  by_cases h : b < a
  · rw [if_pos h]
    by_cases h2 : c * b < c * a
    · rw [if_pos h2]
    · rw [if_neg h2]
      have := Int.mul_le_mul_of_nonneg_left (Int.le_of_lt h) hc
      omega
  · rw [if_neg h]
    have := Int.mul_le_mul_of_nonneg_left (show a ≤ b by omega) hc
    rw [if_neg (by omega)]
/-- all multiplied by c -/
theorem near_mul {n m : Nat} (m0 : 0 < m) {f : Nat → Nat → Int} {w : Nat → Int} {t c : Int} (hc : 0 ≤ c) (hf : ∀ i j, i < n → j < m → 0 ≤ f i j ∧ c * f i j ≤ 1000000000000) (h : Near n m f w t) : Near n m (fun i j => c * f i j) (fun i => c * w i) (c * t) := by
  obtain ⟨s, hs, h⟩ := h
  refine ⟨fun j => mn (c * s j) 1000000000000, fun j hj => ?_, fun i hi => ?_⟩
  · have := Int.mul_nonneg hc (hs j hj).1
    dsimp only
    unfold mn
    split <;> omega
  · have e : ap m (fun i j => c * f i j) (fun j => mn (c * s j) 1000000000000) i = c * ap m f s i := by
      unfold ap rl
      have q : ∀ k, k < m → mn (c * f i k) (mn (c * s k) 1000000000000) = c * mn (f i k) (s k) := fun k hk => by
        rw [← mn_mul _ _ _ hc]
        have := (hf i k hi hk).2
        unfold mn
        repeat' split
        all_goals omega
      show sup m (fun k => mn (c * f i k) (mn (c * s k) 1000000000000)) = c * sup m fun k => mn (f i k) (s k)
      obtain ⟨k, hk, e⟩ : ∃ k, k < m ∧ mn (f i k) (s k) = sup m fun k => mn (f i k) (s k) := sup_mem _ m0
      obtain ⟨k', hk', e'⟩ : ∃ k, k < m ∧ mn (c * f i k) (mn (c * s k) 1000000000000) = sup m fun k => mn (c * f i k) (mn (c * s k) 1000000000000) := sup_mem _ m0
      have h1 : mn (f i k') (s k') ≤ sup m fun k => mn (f i k) (s k) := le_sup (fun k => mn (f i k) (s k)) hk'
      have h2 : mn (c * f i k) (mn (c * s k) 1000000000000) ≤ sup m fun k => mn (c * f i k) (mn (c * s k) 1000000000000) := le_sup (fun k => mn (c * f i k) (mn (c * s k) 1000000000000)) hk
      rw [q k hk, e] at h2
      rw [q k' hk'] at e'
      have := Int.mul_le_mul_of_nonneg_left h1 hc
      omega
    rw [e]
    have h1 := Int.mul_le_mul_of_nonneg_left (h i hi).1 hc
    have h2 := Int.mul_le_mul_of_nonneg_left (h i hi).2 hc
    rw [Int.mul_sub] at h1
    rw [Int.mul_add] at h2
    exact ⟨h1, h2⟩
end Den

set_option autoImplicit true
set_option Elab.async false
set_option linter.all false
set_option maxRecDepth 100000
set_option maxHeartbeats 2000000
set_option autoImplicit false
namespace Den
open PySem PySem.Spec PyProof.Rows L2

theorem Gv.compNo {t : Tg} {tst : Env' → M Bool} {elt : Env' → M D} {env : Env'} {c : Nat} : ∀ xs : List D, (∀ d ∈ xs, ∃ e1, asg t d env = some e1 ∧ Gv (tst e1) c (fun b => b = false)) → Gv (compF t tst elt env xs) (xs.length * c) (fun ys => ys = [])
  | [], _ => Gv.mono (S := fun ys => ys = []) (Gv.ret rfl) (Nat.zero_le _) fun _ z => z
  | d :: xs, h => by
    obtain ⟨e1, h1, h2⟩ := h d (by simp)
    have ih := Gv.compNo (t := t) (tst := tst) (elt := elt) (env := env) (c := c) xs fun x hx => h x (by simp [hx])
    have e : (d :: xs).length * c = c + xs.length * c := by simp [Nat.succ_mul]; omega
    simp only [compF, h1, opt_some', bnd_ret']
    rw [e]
    refine Gv.bnd h2 ?_
    rintro _ rfl
    simpa using ih
theorem Gv.lcNo {it : Env' → M (List D)} {t : Tg} {tst : Env' → M Bool} {elt : Env' → M D} {vs : List Nat} {env : Env'} {xs : List D} {c : Nat} (hi : it env = Den.ret xs) (hl : xs.length ≤ 1000000) (hw : okW env vs = true)
    (h : ∀ d ∈ xs, ∃ e1, asg t d (wipeE env vs) = some e1 ∧ Gv (tst e1) c (fun b => b = false)) : Gv (eLcL it t tst elt vs env) (xs.length * c) (fun ys => ys = []) := by
  have e : okW env vs = true ∧ xs.length ≤ big := ⟨hw, by rw [big_val]; omega⟩
  rw [eLcL_e, hi, bnd_ret', _root_.if_pos e]
  exact Gv.noex (Gv.compNo xs h)
def Sx (I : Env' → Prop) (P : D → Prop) (r : R) : Prop := (∃ e, r = (.nx, e) ∧ I e) ∨ ∃ d e, r = (.rt d, e) ∧ P d
theorem GvS.loopRet' {t : Tg} {body : Env' → MS} {c : Nat} {enc : Nat → D} (I : Nat → Env' → Prop) (P : D → Prop) : ∀ (n k : Nat) (env : Env'), I k env → (∀ i env, k ≤ i → i < k + n → I i env → ∃ e1, asg t (enc i) env = some e1 ∧ GvS (body e1) c (Sx (I (i + 1)) P)) →
    GvS (loopF t body ((List.range' k n).map enc) env) (n * c) (Sx (I (k + n)) P)
  | 0, k, env, h, _ => by
    simp only [List.range'_zero, List.map_nil, loopF_nil, Nat.zero_mul]
    exact GvS.done (Or.inl ⟨env, rfl, h⟩)
  | n + 1, k, env, h, hb => by
    obtain ⟨e1, h1, h2⟩ := hb k env (Nat.le_refl _) (by omega) h
    rw [List.range'_succ, List.map_cons, loopF_cons, h1, optS_some]
    refine GvS.bn (n * c) h2 ?_ (by rw [Nat.succ_mul]; omega)
    rintro _ (⟨e2, rfl, h3⟩ | ⟨d, e2, rfl, h3⟩)
    · rw [loopK_nx, show k + (n + 1) = k + 1 + n by omega]
      exact GvS.loopRet' I P n (k + 1) e2 h3 fun i env hi hj => hb i env (by omega) (by omega)
    · rw [loopK_rt]
      exact (GvS.done (.inr ⟨d, e2, rfl, h3⟩)).mono (Nat.zero_le _) fun _ z => z
theorem GvS.loopRet {t : Tg} {body : Env' → MS} {c n : Nat} {enc : Nat → D} (I : Nat → Env' → Prop) (P : D → Prop) {env : Env'} (h0 : I 0 env) (h : ∀ i env, i < n → I i env → ∃ e1, asg t (enc i) env = some e1 ∧ GvS (body e1) c (Sx (I (i + 1)) P)) :
    GvS (loopF t body ((List.range n).map enc) env) (n * c) (Sx (I n) P) := by
  have := GvS.loopRet' (t := t) (body := body) (enc := enc) I P n 0 env h0 fun i env _ hi => h i env (by omega)
  rw [Nat.zero_add, ← List.range_eq_range'] at this
  exact this
theorem oMax1_map {α : Type} {xs : List α} (g : α → Int) (ne : xs ≠ []) : oMax1 [.lst (xs.map fun x => .int (g x))] = some (.int (maxL (xs.map g))) := by
  cases xs with
  | nil => exact absurd rfl ne
  | cons x xs =>
    have e : ints? (((x :: xs).map g).map D.int) = some ((x :: xs).map g) := ints?_map _
    rw [List.map_map] at e
    simp only [oMax1]
    rw [show ((x :: xs).map fun x => D.int (g x)) = (x :: xs).map (D.int ∘ g) from rfl, e]
    rfl
theorem oMin1_map {α : Type} {xs : List α} (g : α → Int) (ne : xs ≠ []) : oMin1 [.lst (xs.map fun x => .int (g x))] = some (.int (minL (xs.map g))) := by
  cases xs with
  | nil => exact absurd rfl ne
  | cons x xs =>
    have e : ints? (((x :: xs).map g).map D.int) = some ((x :: xs).map g) := ints?_map _
    rw [List.map_map] at e
    simp only [oMin1]
    rw [show ((x :: xs).map fun x => D.int (g x)) = (x :: xs).map (D.int ∘ g) from rfl, e]
    rfl
theorem eBorT_e (i : Nat) (φ : Env' → M Bool) (env : Env') : eBorT i φ env = Den.noex (φ (frz i env)) := id rfl

/-! ### texts that can be compared -/
theorem so_app (a b : Str) : PyData.strOk (a ++ b) = (PyData.strOk a && PyData.strOk b) := by
  show (a.cps ++ b.cps).all _ = _
  rw [Array.all_append]
  rfl
theorem so_of (s : String) : PyData.strOk (Str.ofString s) = true := by
  rw [Str.ofString_eq_toList]
  unfold PyData.strOk
  rw [List.all_toArray, List.all_eq_true]
  intro n hn
  obtain ⟨c, _, rfl⟩ := List.mem_map.mp hn
  have h := c.valid
  refine decide_eq_true ?_
  unfold Char.toNat
  rcases h with h | h
  · exact Nat.lt_trans h (by decide)
  · exact h.2
theorem so_join {sep : Str} (hs : PyData.strOk sep = true) : ∀ ts : List Str, (∀ t ∈ ts, PyData.strOk t = true) → PyData.strOk (Str.join sep ts) = true
  | [], _ => so_of ""
  | [x], h => h x (by simp)
  | x :: y :: r, h => by
    show PyData.strOk (x ++ sep ++ Str.join sep (y :: r)) = true
    rw [so_app, so_app, h x (by simp), hs, so_join hs (y :: r) fun t ht => h t (by simp [ht])]
    rfl
theorem so_text : ∀ (ts : List Str) (k : Nat) (acc : Str), PyData.strOk acc = true → (∀ t ∈ ts, PyData.strOk t = true) → PyData.strOk (textFrom k acc ts) = true
  | [], _, _, h, _ => h
  | t :: ts, k, acc, h, hs => by
    refine so_text ts (k + 1) _ ?_ fun x hx => hs x (by simp [hx])
    rw [so_app, so_app, h, hs t (by simp), so_of]
    rfl
theorem so_tuple {ts : List Str} (h : ∀ t ∈ ts, PyData.strOk t = true) : PyData.strOk (tupleText ts) = true := by
  unfold tupleText
  rw [so_app, so_app, so_join (so_of _) ts h, so_of, so_of]
  rfl
theorem so_list {ts : List Str} (h : ∀ t ∈ ts, PyData.strOk t = true) : PyData.strOk (listText ts) = true := by
  unfold listText
  rw [so_app, so_text ts 0 _ (so_of _) h, so_of]
  rfl
/-! ### what repr takes -/
structure rN (k W : Nat) (d : D) : Prop where
  sh : d.py.showable = true
  dk : dkFree d = true
  lf : d.py.leavesShort 400 = true
  dp : d.py.depth ≤ k
  wt : d.py.weight ≤ W
  so : PyData.strOk d.py.shown = true
theorem rN.mono {k k' W W' : Nat} {d : D} (h : rN k W d) (hk : k ≤ k') (hW : W ≤ W') : rN k' W' d := ⟨h.sh, h.dk, h.lf, Nat.le_trans h.dp hk, Nat.le_trans h.wt hW, h.so⟩
theorem rN.ok {k W : Nat} {d : D} (h : rN k W d) (hk : k ≤ 60) (hW : W ≤ 40000) : dkFree d = true ∧ rprS d.py = true := by
  have := h.dp
  have := h.wt
  simp only [rprS, Bool.and_eq_true, decide_eq_true_eq]
  exact ⟨h.dk, h.sh, h.lf, by omega, by omega⟩
theorem rN_big {i : Int} (h : i.natAbs < 10 ^ 390) : rN 1 1300 (.int i) := by
  have l : i.natAbs.log2 < 1299 := by
    by_cases z : i.natAbs = 0
    · rw [z]
      decide
    · exact (Nat.log2_lt z).mpr (Nat.lt_of_lt_of_le h (by decide +kernel))
  refine ⟨?_, rfl, ?_, by simp [D.py, PyData.depth], ?_, so_of _⟩
  · simp only [D.py, PyData.showable, decide_eq_true_eq]
    omega
  · have := int_text_length_le10 (a := i) (k := 390) (by decide) h
    simp only [D.py, PyData.leavesShort, PyData.shown]
    refine decide_eq_true ?_
    rw [PySem.ofString_length]
    omega
  · simp only [D.py, PyData.weight]
    split <;> omega
theorem rN_int {i : Int} (h : i.natAbs < 10 ^ 18) : rN 1 65 (.int i) := by
  have b := rN_big (i := i) (Nat.lt_of_lt_of_le h (by decide +kernel))
  refine ⟨b.sh, b.dk, b.lf, b.dp, ?_, b.so⟩
  have l : i.natAbs.log2 < 64 := by
    by_cases z : i.natAbs = 0
    · rw [z]
      decide
    · exact (Nat.log2_lt z).mpr (Nat.lt_of_lt_of_le h (by decide))
  simp only [D.py, PyData.weight]
  split <;> omega
theorem rN_emp : rN 1 0 .emp := ⟨rfl, rfl, rfl, by simp [D.py, PyData.depth, PyData.depthKv], Nat.le_refl _, by decide +kernel⟩
theorem rN_non : rN 1 0 .non := ⟨rfl, rfl, rfl, by simp [D.py, PyData.depth], Nat.le_refl _, so_of _⟩
theorem rN_bl (b : Bool) : rN 1 0 (.bl b) := ⟨rfl, rfl, rfl, by simp [D.py, PyData.depth], Nat.le_refl _, by cases b <;> exact so_of _⟩
theorem rN_all {k W : Nat} : ∀ ds : List D, (∀ d ∈ ds, rN k W d) → PyData.showableAll (pys ds) = true ∧ dkFrees ds = true ∧ PyData.leavesShortAll 400 (pys ds) = true ∧ PyData.depthAll (pys ds) ≤ k ∧ PyData.weightAll (pys ds) ≤ ds.length * (W + 1) ∧ ∀ t ∈ PyData.shownAll (pys ds), PyData.strOk t = true
  | [], _ => ⟨rfl, rfl, rfl, by simp [pys, PyData.depthAll], by simp [pys, PyData.weightAll], fun t ht => by cases ht⟩
  | d :: ds, h => by
    obtain ⟨a, b, e, f, g, so⟩ := rN_all ds fun x hx => h x (by simp [hx])
    have q := h d (by simp)
    have q5 := q.dp
    have q6 := q.wt
    refine ⟨by simp [pys, PyData.showableAll, q.sh, a], by simp [dkFrees, q.dk, b], by simp [pys, PyData.leavesShortAll, q.lf, e], ?_, ?_, ?_⟩
    · simp only [pys, PyData.depthAll]
      omega
    · simp only [pys, PyData.weightAll, List.length_cons, Nat.succ_mul]
      omega
    · intro t ht
      rcases List.mem_cons.mp ht with rfl | ht
      · exact q.so
      · exact so t ht
theorem rN_tup {k W : Nat} {ds : List D} (h : ∀ d ∈ ds, rN k W d) : rN (k + 1) (ds.length * (W + 1)) (.tup ds) := by
  obtain ⟨a, b, e, f, g, so⟩ := rN_all ds h
  refine ⟨by simpa [D.py, PyData.showable] using a, by simpa [dkFree] using b, by simpa [D.py, PyData.leavesShort] using e, ?_, by simpa [D.py, PyData.weight] using g, so_tuple so⟩
  simp only [D.py, PyData.depth]
  omega
theorem rN_lst {k W : Nat} {ds : List D} (h : ∀ d ∈ ds, rN k W d) : rN (k + 1) (ds.length * (W + 1)) (.lst ds) := by
  obtain ⟨a, b, e, f, g, so⟩ := rN_all ds h
  refine ⟨by simpa [D.py, PyData.showable] using a, by simpa [dkFree] using b, by simpa [D.py, PyData.leavesShort] using e, ?_, by simpa [D.py, PyData.weight] using g, so_list so⟩
  simp only [D.py, PyData.depth]
  omega
theorem rN_Rw {m : Nat} (hm : m ≤ 6) {f : Nat → Int} (h : Lv m f) : rN 2 396 (Rw m f) := by
  refine (rN_tup (k := 1) (W := 65) fun d hd => ?_).mono (Nat.le_refl _) (by simp; omega)
  obtain ⟨j, hj, rfl⟩ := List.mem_map.mp hd
  have := h j (List.mem_range.mp hj)
  exact rN_int (by omega)
theorem rN_Tb {n m : Nat} (hn : n ≤ 6) (hm : m ≤ 6) {f : Nat → Nat → Int} (h : LvT n m f) : rN 3 2382 (Tb n m f) := by
  refine (rN_tup (k := 2) (W := 396) fun d hd => ?_).mono (Nat.le_refl _) (by simp; omega)
  obtain ⟨i, hi, rfl⟩ := List.mem_map.mp hd
  exact rN_Rw hm fun j hj => h i j (List.mem_range.mp hi) hj
theorem rN.repr {k W : Nat} {d : D} (h : rN k W d) (hk : k ≤ 60 := by decide) (hW : W ≤ 40000 := by decide) : oReprS [d] = some (.str d.py.shown) := if_pos (h.ok hk hW)
theorem rN_pair {k W : Nat} {a b : D} (h : rN k W a) (h' : rN k W b) : rN (k + 1) (2 * (W + 1)) (.tup [a, b]) := rN_tup (ds := [a, b]) fun d hd => by
  simp at hd
  rcases hd with rfl | rfl
  · exact h
  · exact h'
theorem dOk_str {x : Str} (h : PyData.strOk x = true) : dOk (.str x) = true := by simp [dOk, SeqAt.shaped, D.py, PyData.canLay0, PyData.depth, h]
theorem rN.ne {k W : Nat} {d : D} (h : rN k W d) : oNe (.str d.py.shown) (.str d.py.shown) = some (.bl false) := oNe_self (dOk_str h.so)
theorem rN.eq {k W : Nat} {d : D} (h : rN k W d) : oEq (.str d.py.shown) (.str d.py.shown) = some (.bl true) := oEq_self (dOk_str h.so)
/-! ### the least of a range -/
def inf (m : Nat) (f : Nat → Int) : Int := minL ((List.range m).map f)
theorem oMin1_rng {m : Nat} (h : 0 < m) (f : Nat → Int) : oMin1 [.lst ((List.range m).map fun i => .int (f i))] = some (.int (inf m f)) := oMin1_map f (by simp; omega)
theorem inf_le_iff {m : Nat} {f : Nat → Int} {t : Int} (h : 0 < m) : inf m f ≤ t ↔ ∃ j, j < m ∧ f j ≤ t := by
  constructor
  · intro ht
    obtain ⟨j, hj, e⟩ := List.mem_map.mp (minL_mem (ns := (List.range m).map f) (by simp; omega))
    exact ⟨j, List.mem_range.mp hj, by unfold inf at ht; omega⟩
  · rintro ⟨j, hj, ht⟩
    have : inf m f ≤ f j := minL_le (List.mem_map.mpr ⟨j, List.mem_range.mpr hj, rfl⟩)
    omega
theorem sup_le_iff {m : Nat} {f : Nat → Int} {t : Int} (h : 0 < m) : sup m f ≤ t ↔ ∀ j, j < m → f j ≤ t := by
  constructor
  · intro ht j hj
    have := le_sup f hj
    omega
  · intro ht
    obtain ⟨j, hj, e⟩ := sup_mem f h
    have := ht j hj
    omega
theorem maxL_le_iff {t : Int} {ns : List Int} (h : ns ≠ []) : maxL ns ≤ t ↔ ∀ y ∈ ns, y ≤ t := by
  constructor
  · intro ht y hy
    have := le_maxL hy
    omega
  · intro ht
    exact ht _ (maxL_mem h)
end Den

set_option autoImplicit true
set_option Elab.async false
set_option linter.all false
set_option maxRecDepth 100000
set_option maxHeartbeats 2000000
set_option autoImplicit false
namespace Den
open PySem PySem.Spec PyProof.Rows L2

/-! ### any data that repr takes -/
mutual
def gD : D → Bool
  | .int i => decide (i.natAbs < 10 ^ 390)
  | .str x => PyData.strOk x
  | .tup xs => gDs xs
  | .lst xs => gDs xs
  | .dk => false
  | .exc _ _ _ => false
  | _ => true
def gDs : List D → Bool
  | [] => true
  | d :: ds => gD d && gDs ds
end
/-! no truth values, ints not too great: what is bent -/
mutual
def nB : D → Bool
  | .int i => decide (i.natAbs < 10 ^ 100)
  | .bl _ => false
  | .tup xs => nBs xs
  | .lst xs => nBs xs
  | _ => true
def nBs : List D → Bool
  | [] => true
  | d :: ds => nB d && nBs ds
end
theorem gDs_iff : ∀ {ds : List D}, gDs ds = true ↔ ∀ d ∈ ds, gD d = true
  | [] => by simp [gDs]
  | d :: ds => by simp [gDs, gDs_iff (ds := ds)]
theorem nBs_iff : ∀ {ds : List D}, nBs ds = true ↔ ∀ d ∈ ds, nB d = true
  | [] => by simp [nBs]
  | d :: ds => by simp [nBs, nBs_iff (ds := ds)]
mutual
theorem gD_ok : ∀ d : D, gD d = true → d.py.showable = true ∧ dkFree d = true ∧ d.py.leavesShort 400 = true
  | .non, _ => ⟨rfl, rfl, rfl⟩
  | .bl b, _ => ⟨rfl, rfl, rfl⟩
  | .emp, _ => ⟨rfl, rfl, rfl⟩
  | .int i, h => by
    have b := rN_big (i := i) (by simpa [gD] using h)
    exact ⟨b.sh, b.dk, b.lf⟩
  | .str x, h => ⟨rfl, rfl, by
    have h : x.cps.all (fun c => decide (c < 0x110000)) = true := h
    simp only [D.py, PyData.leavesShort]
    rw [List.all_eq_true]
    intro c hc
    have h0 := (Array.all_eq_true_iff_forall_mem.mp h) c (Array.mem_toList_iff.mp hc)
    have h1 : c < 0x110000 := of_decide_eq_true h0
    exact decide_eq_true (Nat.lt_trans h1 (by decide))⟩
  | .tup xs, h => by
    obtain ⟨a, b, c⟩ := gDs_ok xs (by simpa [gD] using h)
    exact ⟨by simpa [D.py, PyData.showable] using a, by simpa [dkFree] using b, by simpa [D.py, PyData.leavesShort] using c⟩
  | .lst xs, h => by
    obtain ⟨a, b, c⟩ := gDs_ok xs (by simpa [gD] using h)
    exact ⟨by simpa [D.py, PyData.showable] using a, by simpa [dkFree] using b, by simpa [D.py, PyData.leavesShort] using c⟩
  | .dk, h => by cases h
  | .exc _ _ _, h => by cases h
theorem gDs_ok : ∀ ds : List D, gDs ds = true → PyData.showableAll (pys ds) = true ∧ dkFrees ds = true ∧ PyData.leavesShortAll 400 (pys ds) = true
  | [], _ => ⟨rfl, rfl, rfl⟩
  | d :: ds, h => by
    have h : gD d = true ∧ gDs ds = true := by simpa [gDs] using h
    obtain ⟨a, b, c⟩ := gD_ok d h.1
    obtain ⟨a', b', c'⟩ := gDs_ok ds h.2
    exact ⟨by simp [pys, PyData.showableAll, a, a'], by simp [dkFrees, b, b'], by simp [pys, PyData.leavesShortAll, c, c']⟩
end
def ws (ds : List D) : Nat := PyData.weightAll (pys ds)
theorem ws_nil : ws [] = 0 := rfl
theorem ws_cons (d : D) (ds : List D) : ws (d :: ds) = d.py.weight + 1 + ws ds := rfl
theorem ws_app : ∀ a b : List D, ws (a ++ b) = ws a + ws b
  | [], b => by simp [ws_nil]
  | d :: a, b => by rw [List.cons_append, ws_cons, ws_cons, ws_app a b]; omega
theorem ws_rev : ∀ a : List D, ws a.reverse = ws a
  | [] => rfl
  | d :: a => by rw [List.reverse_cons, ws_app, ws_rev a, ws_cons, ws_cons, ws_nil]; omega
theorem ws_take (k : Nat) (a : List D) : ws (a.take k) ≤ ws a := by
  have := ws_app (a.take k) (a.drop k)
  rw [List.take_append_drop] at this
  omega
theorem ws_drop (k : Nat) (a : List D) : ws (a.drop k) ≤ ws a := by
  have := ws_app (a.take k) (a.drop k)
  rw [List.take_append_drop] at this
  omega
theorem ws_len : ∀ a : List D, a.length ≤ ws a
  | [] => Nat.le_refl _
  | d :: a => by
    have := ws_len a
    rw [ws_cons, List.length_cons]
    omega
theorem ws_mem : ∀ {a : List D} {d : D}, d ∈ a → d.py.weight + 1 ≤ ws a
  | e :: a, d, h => by
    rw [ws_cons]
    rcases List.mem_cons.mp h with rfl | h
    · omega
    · have := ws_mem h
      omega
theorem da_le {k : Nat} : ∀ {a : List D}, (∀ d ∈ a, d.py.depth ≤ k) ↔ PyData.depthAll (pys a) ≤ k
  | [] => by simp [pys, PyData.depthAll]
  | e :: a => by
    have := da_le (k := k) (a := a)
    simp only [pys, PyData.depthAll, List.forall_mem_cons, this]
    omega
/-- good data: at most k deep, at most W heavy -/
structure Gb (k W : Nat) (d : D) : Prop where
  g : gD d = true
  dp : d.py.depth ≤ k
  wt : d.py.weight ≤ W
theorem Gb.mono {k k' W W' : Nat} {d : D} (h : Gb k W d) (hk : k ≤ k') (hW : W ≤ W') : Gb k' W' d := ⟨h.g, Nat.le_trans h.dp hk, Nat.le_trans h.wt hW⟩
theorem Gb.repr {k W : Nat} {d : D} (h : Gb k W d) (hk : k ≤ 60 := by decide) (hW : W ≤ 40000 := by decide) : oReprS [d] = some (.str d.py.shown) := by
  obtain ⟨a, b, c⟩ := gD_ok d h.g
  refine if_pos ⟨b, ?_⟩
  have := h.dp
  have := h.wt
  simp only [rprS, Bool.and_eq_true, decide_eq_true_eq]
  exact ⟨a, c, by omega, by omega⟩
theorem Gb_tup {k W : Nat} {ds : List D} (h : ∀ d ∈ ds, gD d = true ∧ d.py.depth ≤ k) (hw : ws ds ≤ W) : Gb (k + 1) W (.tup ds) := by
  refine ⟨by simpa [gD] using gDs_iff.mpr fun d hd => (h d hd).1, ?_, hw⟩
  have := da_le.mp fun d hd => (h d hd).2
  simp only [D.py, PyData.depth]
  omega
theorem Gb_lst {k W : Nat} {ds : List D} (h : ∀ d ∈ ds, gD d = true ∧ d.py.depth ≤ k) (hw : ws ds ≤ W) : Gb (k + 1) W (.lst ds) := by
  refine ⟨by simpa [gD] using gDs_iff.mpr fun d hd => (h d hd).1, ?_, hw⟩
  have := da_le.mp fun d hd => (h d hd).2
  simp only [D.py, PyData.depth]
  omega
theorem tup_items {k : Nat} {ds : List D} (h : gD (.tup ds) = true) (hd : (D.tup ds).py.depth ≤ k + 1) : ∀ d ∈ ds, gD d = true ∧ d.py.depth ≤ k := by
  have h1 := gDs_iff.mp (by simpa [gD] using h)
  have h2 : PyData.depthAll (pys ds) ≤ k := by
    simp only [D.py, PyData.depth] at hd
    omega
  exact fun d hm => ⟨h1 d hm, da_le.mpr h2 d hm⟩
theorem Gb_Rw {m : Nat} (hm : m ≤ 7) {f : Nat → Int} (h : Lv m f) : Gb 2 462 (Rw m f) := by
  refine Gb_tup (k := 1) (fun d hd => ?_) ?_
  · obtain ⟨j, hj, rfl⟩ := List.mem_map.mp hd
    have b := rN_int (i := f j) (by have := h j (List.mem_range.mp hj); omega)
    have e : f j < 10 ^ 18 := by have := h j (List.mem_range.mp hj); omega
    refine ⟨?_, b.dp⟩
    simp only [gD, decide_eq_true_eq]
    exact Nat.lt_of_lt_of_le (show (f j).natAbs < 10 ^ 18 by have := h j (List.mem_range.mp hj); omega) (by decide +kernel)
  · have key : ∀ l : List Nat, (∀ j ∈ l, 0 ≤ f j ∧ f j ≤ 1000000000000) → ws (l.map fun j => D.int (f j)) ≤ l.length * 66 := fun l => by
      induction l with
      | nil => intro _; simp [ws_nil]
      | cons j l ih =>
        intro hl
        have a := ih fun k hk => hl k (by simp [hk])
        have b := (rN_int (i := f j) (by have := hl j (by simp); omega)).wt
        rw [List.map_cons, ws_cons, List.length_cons, Nat.succ_mul]
        omega
    have := key (List.range m) fun j hj => h j (List.mem_range.mp hj)
    rw [List.length_range] at this
    omega
theorem nB_Rw {m : Nat} {f : Nat → Int} (h : Lv m f) : nB (Rw m f) = true := by
  simp only [Rw, nB]
  refine nBs_iff.mpr fun d hd => ?_
  obtain ⟨j, hj, rfl⟩ := List.mem_map.mp hd
  simp only [nB, decide_eq_true_eq]
  exact Nat.lt_of_lt_of_le (show (f j).natAbs < 10 ^ 18 by have := h j (List.mem_range.mp hj); omega) (by decide +kernel)
theorem Gb_Tb {n m : Nat} (hn : n ≤ 7) (hm : m ≤ 7) {f : Nat → Nat → Int} (h : LvT n m f) : Gb 3 3241 (Tb n m f) := by
  refine Gb_tup (k := 2) (fun d hd => ?_) ?_
  · obtain ⟨i, hi, rfl⟩ := List.mem_map.mp hd
    have b := Gb_Rw hm (f := f i) fun j hj => h i j (List.mem_range.mp hi) hj
    exact ⟨b.g, b.dp⟩
  · have key : ∀ l : List Nat, (∀ i ∈ l, i < n) → ws (l.map fun i => Rw m (f i)) ≤ l.length * 463 := fun l => by
      induction l with
      | nil => intro _; simp [ws_nil]
      | cons i l ih =>
        intro hl
        have a := ih fun k hk => hl k (by simp [hk])
        have b := (Gb_Rw hm (f := f i) fun j hj => h i j (hl i (by simp)) hj).wt
        rw [List.map_cons, ws_cons, List.length_cons, Nat.succ_mul]
        omega
    have := key (List.range n) fun i hi => List.mem_range.mp hi
    rw [List.length_range] at this
    omega
theorem nB_Tb {n m : Nat} {f : Nat → Nat → Int} (h : LvT n m f) : nB (Tb n m f) = true := by
  simp only [Tb, nB]
  refine nBs_iff.mpr fun d hd => ?_
  obtain ⟨i, hi, rfl⟩ := List.mem_map.mp hd
  exact nB_Rw fun j hj => h i j (List.mem_range.mp hi) hj
/-! ### parts of a tuple -/
theorem cutD_mem {xs : List D} {l h : Option Int} {d : D} (hd : d ∈ cutD xs l h) : d ∈ xs := by
  unfold cutD at hd
  exact List.mem_of_mem_drop (List.mem_of_mem_take hd)
theorem cutD_ws (xs : List D) (l h : Option Int) : ws (cutD xs l h) ≤ ws xs := by
  unfold cutD
  exact Nat.le_trans (ws_take _ _) (ws_drop _ _)
theorem okN_items {k : Nat} {ds : List D} (h : okN k (.tup ds)) : ∀ d ∈ ds, okN k d := by
  have c : PyData.canLayAll0 (pys ds) = true := by simpa [D.py, PyData.canLay0] using h.1
  have e : PyData.depthAll (pys ds) ≤ k := by
    have := h.2
    simp only [D.py, PyData.depth] at this
    omega
  have key : ∀ ds : List D, PyData.canLayAll0 (pys ds) = true → ∀ d ∈ ds, d.py.canLay0 = true := fun ds => by
    induction ds with
    | nil => intro _ d hd; cases hd
    | cons x xs ih =>
      intro c d hd
      have c : x.py.canLay0 = true ∧ PyData.canLayAll0 (pys xs) = true := by simpa [pys, PyData.canLayAll0] using c
      rcases List.mem_cons.mp hd with rfl | hd
      · exact c.1
      · exact ih c.2 d hd
  exact fun d hd => ⟨key ds c d hd, da_le.mpr e d hd⟩
theorem oNe_tnil {xs : List D} (h : okN 40 (.tup xs)) : oNe (.tup xs) (.tup []) = some (.bl (!xs.isEmpty)) := by
  have e1 : dOk (.tup xs) = true := h.dOk (by decide)
  have e2 : dOk (.tup []) = true := (okN_tup (k := 1) (ds := []) (by simp)).dOk (by decide)
  have e3 : deq (.tup xs) (.tup []) = xs.isEmpty := by
    cases xs <;> simp [deq, D.py, pys, PyData.eqv, PyData.eqvAll]
  simp only [oNe, e1, e2, and_self, if_true, e3]
theorem oIx_lst {xs : List D} {r : Int} (h0 : 0 ≤ r) (h1 : r < xs.length) : ∃ d, oIx (.lst xs) (.int r) = some d ∧ d ∈ xs := by
  obtain ⟨k, rfl⟩ : ∃ k : Nat, r = k := ⟨r.toNat, by omega⟩
  have hk : k < xs.length := by omega
  exact ⟨xs[k], atI_nat (List.getElem?_eq_getElem hk), List.getElem_mem hk⟩
theorem oIx_tup {xs : List D} {k : Nat} (hk : k < xs.length) : oIx (.tup xs) (.int (k : Nat)) = some xs[k] := atI_nat (List.getElem?_eq_getElem hk)
theorem cut_at {xs : List D} {k : Nat} (hk : k < xs.length) : cutD xs none (some (k : Int)) = xs.take k ∧ cutD xs (some ((k : Int) + 1)) none = xs.drop (k + 1) ∧ xs = xs.take k ++ xs[k] :: xs.drop (k + 1) := by
  refine ⟨?_, ?_, ?_⟩
  · unfold cutD
    simp only [HT.sIx_none, HT.sIx_nat, List.drop_zero, Nat.sub_zero]
    rw [show min k xs.length = k by omega]
  · unfold cutD
    rw [show (k : Int) + 1 = ((k + 1 : Nat) : Int) by omega]
    simp only [HT.sIx_none, HT.sIx_nat]
    rw [show min (k + 1) xs.length = k + 1 by omega]
    rw [List.take_of_length_le (by rw [List.length_drop]; exact Nat.le_refl _)]
  · rw [← List.drop_eq_getElem_cons hk, List.take_append_drop]
theorem gD_int {i : Int} (h : i.natAbs < 10 ^ 390) : gD (.int i) = true := by simpa [gD] using h
theorem toStr_ok {i : Int} (h : i.natAbs < 10 ^ 390) : gD (.str (toString i)) = true ∧ (D.str (toString i)).py.weight ≤ 400 := by
  constructor
  · exact so_of (toString i)
  · have := int_text_length_le10 (a := i) (k := 390) (by decide) h
    have e : (Str.ofString (toString i)).length = (toString i).length := PySem.ofString_length _
    show (Str.ofString (toString i)).cps.size ≤ 400
    have : (Str.ofString (toString i)).cps.size = (Str.ofString (toString i)).length := rfl
    omega
theorem oAll_map {α : Type} (p : α → Bool) (xs : List α) : oAll [.lst (xs.map fun x => .bl (p x))] = some (.bl (xs.all p)) := by
  have e : bls? ((xs.map p).map D.bl) = some (xs.map p) := bls?_map _
  rw [List.map_map] at e
  simp only [oAll]
  rw [show (xs.map fun x => D.bl (p x)) = xs.map (D.bl ∘ p) from rfl, e]
  simp [Function.comp_def]
end Den

set_option autoImplicit true
set_option Elab.async false
set_option linter.all false
set_option maxRecDepth 100000
set_option maxHeartbeats 4000000
set_option autoImplicit false
namespace Den
open PySem PySem.Spec PyProof.Rows L2
/-! ### data without the exception -/
@[simp] theorem cool_Rw (m : Nat) (f : Nat → Int) : cool (Rw m f) = true := by
  unfold Rw
  rw [cool_tup]
  intro d hd
  obtain ⟨j, _, rfl⟩ := List.mem_map.mp hd
  rfl
@[simp] theorem cool_Tb (n m : Nat) (f : Nat → Nat → Int) : cool (Tb n m f) = true := by
  unfold Tb
  rw [cool_tup]
  intro d hd
  obtain ⟨j, _, rfl⟩ := List.mem_map.mp hd
  exact cool_Rw m (f j)
mutual
theorem gD_cool : ∀ d : D, gD d = true → cool d = true
  | .non, _ => rfl
  | .bl _, _ => rfl
  | .int _, _ => rfl
  | .str _, _ => rfl
  | .emp, _ => rfl
  | .dk, _ => rfl
  | .exc _ _ _, h => by cases h
  | .tup xs, h => by
    rw [cool_tup]
    exact gDs_cool xs (by simpa [gD] using h)
  | .lst xs, h => by
    rw [cool_lst]
    exact gDs_cool xs (by simpa [gD] using h)
theorem gDs_cool : ∀ ds : List D, gDs ds = true → ∀ d ∈ ds, cool d = true
  | [], _ => by simp
  | d :: ds, h => by
    have h : gD d = true ∧ gDs ds = true := by simpa [gDs] using h
    have a := gD_cool d h.1
    have b := gDs_cool ds h.2
    intro x hx
    rcases List.mem_cons.mp hx with e | hx
    · rw [e]; exact a
    · exact b x hx
end
/-! ### what is compared by kinds: depth below k, no {} -/
def sD : Nat → D → Bool
  | 0, _ => false
  | k + 1, .tup xs => decide (xs.length ≤ 5000) && xs.all (sD k)
  | k + 1, .lst xs => decide (xs.length ≤ 5000) && xs.all (sD k)
  | _ + 1, .non => true
  | _ + 1, .bl _ => true
  | _ + 1, .int _ => true
  | _ + 1, .str x => PyData.strOk x
  | _ + 1, _ => false
theorem sD_Rw {k m : Nat} (hm : m ≤ 1000) (f : Nat → Int) : sD (k + 2) (Rw m f) = true := by
  simp only [Rw, sD, Bool.and_eq_true, decide_eq_true_eq, List.all_eq_true]
  refine ⟨by simp; omega, fun d hd => ?_⟩
  obtain ⟨j, _, rfl⟩ := List.mem_map.mp hd
  rfl
theorem sD_Tb {k n m : Nat} (hn : n ≤ 1000) (hm : m ≤ 1000) (f : Nat → Nat → Int) : sD (k + 3) (Tb n m f) = true := by
  simp only [Tb, sD, Bool.and_eq_true, decide_eq_true_eq, List.all_eq_true]
  refine ⟨by simp; omega, fun d hd => ?_⟩
  obtain ⟨j, _, rfl⟩ := List.mem_map.mp hd
  exact sD_Rw hm (f j)
theorem rng_of (xs : List D) : xs = (List.range xs.length).map fun i => (xs[i]?).getD .non := by
  apply List.ext_getElem
  · simp
  · intro i h1 h2
    simp [h1]
/-- an int, read off -/
def toI : D → Int
  | .int i => i
  | _ => 0
theorem intL (n : Nat) (b : Bool) : oMul (.int 1000000000000) (.int (if b = true then 1 else 0)) = some (.int (if b = true then 1000000000000 else 0)) := by cases b <;> rfl
end Den

set_option autoImplicit true
set_option Elab.async false
set_option linter.all false
set_option maxRecDepth 100000
set_option maxHeartbeats 2000000
set_option autoImplicit false
namespace Den
open PySem PySem.Spec PyProof.Rows L2
/-! ### measures, greatest common settings -/
def tot (r : Nat → Nat) : Nat → Nat
  | 0 => 0
  | m + 1 => tot r m + r m
theorem tot_le {r r' : Nat → Nat} : ∀ {m : Nat}, (∀ k, k < m → r' k ≤ r k) → tot r' m ≤ tot r m
  | 0, _ => Nat.le_refl _
  | m + 1, h => Nat.add_le_add (tot_le fun k hk => h k (by omega)) (h m (by omega))
theorem tot_lt {r r' : Nat → Nat} {j : Nat} : ∀ {m : Nat}, j < m → (∀ k, k < m → r' k ≤ r k) → r' j < r j → tot r' m < tot r m
  | 0, h, _, _ => absurd h (Nat.not_lt_zero j)
  | m + 1, h, hl, hj => by
    simp only [tot]
    by_cases e : j = m
    · subst e
      have := tot_le (m := j) (r := r) (r' := r') fun k hk => hl k (by omega)
      omega
    · have := tot_lt (m := m) (by omega) (fun k hk => hl k (by omega)) hj
      have := hl m (by omega)
      omega
theorem tot_bd {r : Nat → Nat} {c : Nat} (h : ∀ k, r k ≤ c) : ∀ m, tot r m ≤ m * c
  | 0 => by simp [tot]
  | m + 1 => by
    simp only [tot, Nat.succ_mul]
    have := tot_bd h m
    have := h m
    omega
def rnk (V : List Int) (x : Int) : Nat := (V.filter fun y => decide (y < x)).length
theorem rnk_lt {V : List Int} {a x : Int} (h : a ∈ V) (hx : a < x) : rnk V a < rnk V x := by
  unfold rnk
  have key : ∀ V : List Int, (V.filter fun y => decide (y < a)).length ≤ (V.filter fun y => decide (y < x)).length := fun V => by
    induction V with
    | nil => simp
    | cons y V ih =>
      by_cases q : y < a
      · simp [List.filter_cons, q, show y < x by omega, ih]
      · by_cases q2 : y < x
        · simp [List.filter_cons, q, q2]
          omega
        · simp [List.filter_cons, q, q2, ih]
  induction V with
  | nil => cases h
  | cons y V ih =>
    rcases List.mem_cons.mp h with e | e
    · subst e
      have := key V
      simp [List.filter_cons, hx]
      omega
    · have := ih e
      by_cases q : y < a
      · simp [List.filter_cons, q, show y < x by omega]
        omega
      · by_cases q2 : y < x
        · simp [List.filter_cons, q, q2]
          omega
        · simp [List.filter_cons, q, q2]
          omega
theorem rnk_le (V : List Int) (x : Int) : rnk V x ≤ V.length := List.length_filter_le _ _
/-- the greatest setting below b at which both agree -/
structure Com (n m : Nat) (f g : Nat → Nat → Int) (b s : Nat → Int) : Prop where
  bel : ∀ j, j < m → 0 ≤ s j ∧ s j ≤ b j
  agr : ∀ i, i < n → ap m f s i = ap m g s i
  gre : ∀ u, (∀ j, j < m → u j ≤ b j) → (∀ i, i < n → ap m f u i = ap m g u i) → ∀ j, j < m → u j ≤ s j
theorem Com.uniq {n m : Nat} {f g : Nat → Nat → Int} {b s s' : Nat → Int} (h : Com n m f g b s) (h' : Com n m f g b s') : ∀ j, j < m → s j = s' j := fun j hj => by
  have := h.gre s' (fun j hj => (h'.bel j hj).2) h'.agr j hj
  have := h'.gre s (fun j hj => (h.bel j hj).2) h.agr j hj
  omega
theorem Com.lv {n m : Nat} {f g : Nat → Nat → Int} {b s : Nat → Int} (h : Com n m f g b s) (hb : Lv m b) : Lv m s := fun j hj => by
  have := h.bel j hj
  have := hb j hj
  omega
theorem ap_eq {m : Nat} (m0 : 0 < m) {f g : Nat → Nat → Int} {s : Nat → Int} {o : Nat} (h : ∀ j, j < m → (f o j ≤ ap m g s o ∨ s j ≤ ap m g s o) ∧ (g o j ≤ ap m f s o ∨ s j ≤ ap m f s o)) : ap m f s o = ap m g s o := by
  have h1 : ap m f s o ≤ ap m g s o := (rl_le m0).mpr fun k hk => (h k hk).1
  have h2 : ap m g s o ≤ ap m f s o := (rl_le m0).mpr fun k hk => (h k hk).2
  omega
theorem ap_in {m : Nat} (m0 : 0 < m) {f : Nat → Nat → Int} {s : Nat → Int} {o : Nat} : ∃ j, j < m ∧ (ap m f s o = f o j ∨ ap m f s o = s j) := by
  obtain ⟨k, hk, e⟩ : ∃ k, k < m ∧ mn (f o k) (s k) = sup m fun k => mn (f o k) (s k) := sup_mem _ m0
  refine ⟨k, hk, ?_⟩
  have : ap m f s o = mn (f o k) (s k) := e.symm
  rw [this]
  unfold mn
  split
  · exact .inr rfl
  · exact .inl rfl
/-- all levels that there are -/
def vals (n m : Nat) (f g : Nat → Nat → Int) (b : Nat → Int) : List Int := ((List.range n).flatMap fun i => (List.range m).map (f i)) ++ (((List.range n).flatMap fun i => (List.range m).map (g i)) ++ (List.range m).map b)
theorem flat_len (m : Nat) (f : Nat → Nat → Int) : ∀ l : List Nat, (l.flatMap fun i => (List.range m).map (f i)).length = l.length * m
  | [] => by simp
  | a :: l => by
    rw [List.flatMap_cons, List.length_append, flat_len m f l, List.length_cons, Nat.succ_mul, List.length_map, List.length_range]
    omega
theorem vals_len {n m : Nat} (hn : n ≤ 12) (hm : m ≤ 12) (f g : Nat → Nat → Int) (b : Nat → Int) : (vals n m f g b).length ≤ 300 := by
  unfold vals
  rw [List.length_append, List.length_append, flat_len, flat_len, List.length_map, List.length_range, List.length_range]
  have : n * m ≤ 12 * 12 := Nat.mul_le_mul hn hm
  omega
theorem rows_Tb {p q : Nat} {F : Nat → D} (h : ∀ i, i < p → ∃ s, F i = Rw q s ∧ Lv q s) : ∃ g : Nat → Nat → Int, D.tup ((List.range p).map F) = Tb p q g ∧ LvT p q g := by
  obtain ⟨g, hg⟩ : ∃ g : Nat → Nat → Int, ∀ i, i < p → F i = Rw q (g i) ∧ Lv q (g i) := ⟨fun i => if h' : i < p then (h i h').choose else fun _ => 0, fun i hi => by
    simp only [hi, dif_pos]
    exact (h i hi).choose_spec⟩
  refine ⟨g, ?_, fun i j hi hj => (hg i hi).2 j hj⟩
  unfold Tb
  congr 1
  exact List.map_congr_left fun i hi => (hg i (List.mem_range.mp hi)).1
theorem oMul_tn {m : Nat} (m0 : 0 < m) (hm : m ≤ 6) (d : D) : ∃ xs, oMul (.tup [d]) (.int (m : Nat)) = some (.tup xs) ∧ xs.length = m ∧ ∀ x ∈ xs, x = d := by
  obtain rfl | rfl | rfl | rfl | rfl | rfl : m = 1 ∨ m = 2 ∨ m = 3 ∨ m = 4 ∨ m = 5 ∨ m = 6 := by omega
  · exact ⟨[d], rfl, rfl, by simp⟩
  · exact ⟨[d, d], rfl, rfl, by simp⟩
  · exact ⟨[d, d, d], rfl, rfl, by simp⟩
  · exact ⟨[d, d, d, d], rfl, rfl, by simp⟩
  · exact ⟨[d, d, d, d, d], rfl, rfl, by simp⟩
  · exact ⟨[d, d, d, d, d, d], rfl, rfl, by simp⟩
theorem rep_Rw {m : Nat} {xs : List D} {x : Int} (hl : xs.length = m) (h : ∀ d ∈ xs, d = .int x) : D.tup xs = Rw m fun _ => x := by
  unfold Rw
  congr 1
  refine List.ext_getElem (by simp [hl]) fun i h1 h2 => ?_
  rw [h _ (List.getElem_mem h1)]
  simp
theorem slT_1 {n m : Nat} (f : Nat → Nat → Int) (h : 0 < n) : slD (Tb n m f) (some 1) none = some (Tb (n - 1) m fun i => f (1 + i)) := by
  have := slT_hi1 (m := m) f (k := 0) h
  simpa using this
theorem slR_1 {m : Nat} (f : Nat → Int) (h : 0 < m) : slD (Rw m f) (some 1) none = some (Rw (m - 1) fun i => f (1 + i)) := by
  have := slD_hi1 f (k := 0) h
  simpa using this
theorem len_Tb (n m : Nat) (f : Nat → Nat → Int) : oLen [Tb n m f] = some (.int (n : Nat)) := by simp [oLen, Tb]
theorem len_Rw (m : Nat) (f : Nat → Int) : oLen [Rw m f] = some (.int (m : Nat)) := by simp [oLen, Rw]
theorem GvS.nxI {I : Env' → Prop} {P : D → Prop} {e : Env'} {c : Nat} (h : I e) : GvS (Den.done (.nx, e)) c (Sx I P) := (GvS.done (S := Sx I P) (Or.inl ⟨e, rfl, h⟩)).mono (Nat.zero_le _) fun _ z => z
theorem GvS.rtI {I : Env' → Prop} {P : D → Prop} {e : Env'} {d : D} {c : Nat} (h : P d) : GvS (Den.done (.rt d, e)) c (Sx I P) := (GvS.done (S := Sx I P) (Or.inr ⟨d, e, rfl, h⟩)).mono (Nat.zero_le _) fun _ z => z
theorem vals_len2 (n m : Nat) (f g : Nat → Nat → Int) (b : Nat → Int) : (vals n m f g b).length = n * m + (n * m + m) := by
  unfold vals
  rw [List.length_append, List.length_append, flat_len, flat_len, List.length_map, List.length_range, List.length_range]
end Den

set_option autoImplicit true
set_option Elab.async false
set_option linter.all false
set_option maxRecDepth 100000
set_option maxHeartbeats 4000000
set_option autoImplicit false
namespace Den
open PySem PySem.Spec PyProof.Rows L2

/-! ### a table of lists, changed in place (closure) -/
def up2 (f : Nat → Nat → Int) (o i : Nat) (v : Int) : Nat → Nat → Int := fun a b => if a = o ∧ b = i then v else f a b
def cst (f : Nat → Nat → Int) (k o i : Nat) : Nat → Nat → Int := up2 f o i (mx (f o i) (mn (f o k) (f k i)))
def cIn (f : Nat → Nat → Int) (k o : Nat) : Nat → Nat → Nat → Int
  | 0 => f
  | i + 1 => cst (cIn f k o i) k o i
def cRow (m : Nat) (f : Nat → Nat → Int) (k : Nat) : Nat → Nat → Nat → Int
  | 0 => f
  | o + 1 => cIn (cRow m f k o) k o m
def cAll (m : Nat) (f : Nat → Nat → Int) : Nat → Nat → Nat → Int
  | 0 => f
  | k + 1 => cRow m (cAll m f k) k m
def cls (m : Nat) (f : Nat → Nat → Int) : Nat → Nat → Int := cAll m f m
/-- the lists stand: the outer at a, the rows at as -/
structure Mm (H0 H : Hp) (n m : Nat) (a : Addr) (as : Nat → Addr) (f : Nat → Nat → Int) : Prop where
  out : H a = some (.lst ((List.range n).map fun k => V.ref (as k)))
  row : ∀ k, k < n → H (as k) = some (.lst ((List.range m).map fun i => V.int (f k i)))
  inj : ∀ j k, j < n → k < n → as j = as k → j = k
  ne : ∀ k, k < n → as k ≠ a
  keep : Same H0 H
  new : H0 a = none
  news : ∀ k, k < n → H0 (as k) = none
theorem Mm.put {H0 H : Hp} {n m : Nat} {a : Addr} {as : Nat → Addr} {f : Nat → Nat → Int} (M : Mm H0 H n m a as f) {o i : Nat} (ho : o < n) (hi : i < m) (v : Int) :
    Mm H0 (upd H (as o) (.lst (((List.range m).map fun i => V.int (f o i)).set i (.int v)))) n m a as (up2 f o i v) where
  out := by rw [upd_ne (M.ne o ho).symm]; exact M.out
  row := fun k hk => by
    by_cases e : k = o
    · subst e
      rw [upd_same]
      congr 2
      refine List.ext_getElem? fun j => ?_
      rw [List.getElem?_set]
      by_cases hj : j < m
      · by_cases e : i = j
        · subst e
          simp [hj, up2]
        · have e2 : ¬ j = i := fun z => e z.symm
          simp [hj, up2, e, e2]
      · have e2 : ¬ i = j := by omega
        simp [hj, e2]
    · have : as k ≠ as o := fun z => e (M.inj k o hk ho z)
      rw [upd_ne this, M.row k hk]
      congr 2
      refine List.map_congr_left fun j _ => ?_
      simp [up2, e]
  inj := M.inj
  ne := M.ne
  keep := fun b u e => by
    have : b ≠ as o := fun z => by rw [z, M.news o ho] at e; cases e
    rw [upd_ne this]
    exact M.keep b u e
  new := M.new
  news := M.news
/-- the slots within the loops -/
structure Sg (σ : St) (vt : V) (a : Addr) (m : Nat) : Prop where
  len : σ.length = 8
  s0 : σ[0]? = some (some vt)
  s1 : σ[1]? = some (some (.ref a))
  s3 : σ[3]? = some (some (.int m))
theorem Sg.set {σ : St} {vt : V} {a : Addr} {m i : Nat} (S : Sg σ vt a m) (v : V) (h : 4 ≤ i) : Sg (σ.set i (some v)) vt a m := by
  refine ⟨by rw [List.length_set]; exact S.len, ?_, ?_, ?_⟩
  · rw [List.getElem?_set_ne (by omega)]; exact S.s0
  · rw [List.getElem?_set_ne (by omega)]; exact S.s1
  · rw [List.getElem?_set_ne (by omega)]; exact S.s3
theorem Sg.get {σ : St} {vt : V} {a : Addr} {m i : Nat} (S : Sg σ vt a m) (v : V) (h : i < 8) : (σ.set i (some v))[i]? = some (some v) := List.getElem?_set_self (by rw [S.len]; exact h)
section
variable (K : PySem.W.Frag)
abbrev rLstOf : List V → Hp → VK → Prop := fun xs H Q => ∃ p ys, xs = [.ref p] ∧ (SqL K H p ys ∨ SqT K H p ys) ∧ ∀ l, H l = none → Q (.ref l) (upd H l (.lst ys))
abbrev rLenS : List V → Hp → VK → Prop := fun xs H Q => ∃ x n, xs = [x] ∧ LenV K x H n ∧ Q (.int n) H
abbrev rMax2A : List V → Hp → VK → Prop := fun xs H Q => ∃ i j, xs = [.int i, .int j] ∧ Q (.int (if j > i then j else i)) H
abbrev rMin2A : List V → Hp → VK → Prop := fun xs H Q => ∃ i j, xs = [.int i, .int j] ∧ Q (.int (if j < i then j else i)) H
abbrev tRd (o i : Nat) : TE := tOp (rIx K) (tOp (rIx K) (tVar 1) (tVar o)) (tVar i)
/-- the loops' body -/
abbrev tCst : TS := tSeq (tAsg (tCB rMin2A (tCons (tRd K 5 4) (tCons (tRd K 4 6) tNil))) (gName 7))
  (tAsg (tCB rMax2A (tCons (tRd K 5 6) (tCons (tVar 7) tNil))) (gSub (tOp (rIx K) (tVar 1) (tVar 5)) (tVar 6) rSetL))
abbrev tLoop (i : Nat) (b : TS) : TS := tFor (iRng1 (tCons (tVar 3) tNil)) (gName i) b
end
section
variable {K : PySem.W.Frag}
theorem tRd_in {H0 H : Hp} {σ : St} {vt : V} {m o i x y : Nat} {a : Addr} {as : Nat → Addr} {f : Nat → Nat → Int} {Q : VK} (S : Sg σ vt a m) (M : Mm H0 H m m a as f) (hx : σ[o]? = some (some (.int (x : Nat)))) (hy : σ[i]? = some (some (.int (y : Nat)))) (lx : x < m) (ly : y < m)
    (q : Q (.int (f x y)) H) : tRd K o i σ H Q := by
  refine ⟨.ref a, S.s1, .int (x : Nat), hx, .inl ⟨a, _, _, .ref (as x), rfl, rfl, SqL.of M.out, atI_nat (by simp [lx]), ?_⟩⟩
  exact ⟨.int (y : Nat), hy, .inl ⟨as x, _, _, .int (f x y), rfl, rfl, SqL.of (M.row x lx), atI_nat (by simp [ly]), q⟩⟩
theorem cst_in {H0 H : Hp} {σ : St} {vt : V} {m k o i : Nat} {a : Addr} {as : Nat → Addr} {f : Nat → Nat → Int} {D : Ends} (S : Sg σ vt a m) (M : Mm H0 H m m a as f) (h4 : σ[4]? = some (some (.int (k : Nat)))) (h5 : σ[5]? = some (some (.int (o : Nat)))) (h6 : σ[6]? = some (some (.int (i : Nat))))
    (lk : k < m) (lo : o < m) (li : i < m) (q : ∀ v H', Mm H0 H' m m a as (cst f k o i) → D.nx (σ.set 7 (some v)) H') : tCst K D σ H := by
  refine tRd_in S M h5 h4 lo lk (tRd_in S M h4 h6 lk li ⟨_, _, rfl, ?_⟩)
  have S7 := S.set (.int (if f k i < f o k then f k i else f o k)) (show 4 ≤ 7 by decide)
  have g7 := S.get (i := 7) (.int (if f k i < f o k then f k i else f o k)) (by decide)
  have g5 : (σ.set 7 (some (V.int (if f k i < f o k then f k i else f o k))))[5]? = some (some (.int (o : Nat))) := by rw [List.getElem?_set_ne (by decide)]; exact h5
  have g6 : (σ.set 7 (some (V.int (if f k i < f o k then f k i else f o k))))[6]? = some (some (.int (i : Nat))) := by rw [List.getElem?_set_ne (by decide)]; exact h6
  refine tRd_in S7 M g5 g6 lo li ⟨_, g7, ⟨_, _, rfl, ?_⟩⟩
  refine ⟨.ref a, S7.s1, .int (o : Nat), g5, .inl ⟨a, _, _, .ref (as o), rfl, rfl, SqL.of M.out, atI_nat (by simp [lo]), ?_⟩⟩
  refine ⟨.int (i : Nat), g6, as o, _, _, i, rfl, rfl, M.row o lo, by simp [ixN, li], ?_⟩
  exact q _ _ (M.put lo li _)
/-- a loop over range(size) -/
theorem loop_in {H0 H : Hp} {σ : St} {vt : V} {m i : Nat} {a : Addr} {as : Nat → Addr} {b : TS} {D : Ends} (F : Nat → Nat → Nat → Int) (hm : m ≤ 1000) (h4 : 4 ≤ i) (h8 : i < 8) (S : Sg σ vt a m) (M : Mm H0 H m m a as (F 0)) (Z : St → Prop) (z0 : Z σ)
    (zs : ∀ σ v, Z σ → Z (σ.set i (some v)))
    (hb : ∀ k σ H (D' : Ends), k < m → Sg σ vt a m → Z σ → σ[i]? = some (some (.int (k : Nat))) → Mm H0 H m m a as (F k) → (∀ σ' H', Sg σ' vt a m → Z σ' → Mm H0 H' m m a as (F (k + 1)) → D'.nx σ' H') → b D' σ H)
    (hd : ∀ σ' H', Sg σ' vt a m → Z σ' → Mm H0 H' m m a as (F m) → D.nx σ' H') : tLoop i b D σ H := by
  refine ⟨.int (m : Nat), S.s3, (m : Nat), rfl, by omega, by omega, ?_⟩
  rw [Int.toNat_natCast]
  refine for_range (lo := 0) (n := m) (fun k σ H => Sg σ vt a m ∧ Z σ ∧ Mm H0 H m m a as (F k)) ⟨S, z0, M⟩ (fun k σ H hk ⟨S1, z1, M1⟩ => ?_) fun σ H ⟨S1, z1, M1⟩ => hd σ H S1 z1 M1
  refine hb k _ H _ hk (S1.set _ h4) (zs _ _ z1) ?_ M1 fun σ' H' a b c => ⟨a, b, c⟩
  rw [S1.get _ h8, Int.zero_add]
theorem loops_in {H0 H : Hp} {σ : St} {vt : V} {m : Nat} {a : Addr} {as : Nat → Addr} {f : Nat → Nat → Int} {D : Ends} (hm : m ≤ 1000) (S : Sg σ vt a m) (M : Mm H0 H m m a as f) (hd : ∀ σ' H', Sg σ' vt a m → Mm H0 H' m m a as (cls m f) → D.nx σ' H') :
    tLoop 4 (tLoop 5 (tLoop 6 (tCst K))) D σ H := by
  refine loop_in (cAll m f) hm (by decide) (by decide) S M (fun _ => True) trivial (fun _ _ _ => trivial) (fun k σ1 H1 D1 hk S1 _ e4 M1 q1 => ?_) fun σ' H' s _ m => hd σ' H' s m
  refine loop_in (cRow m (cAll m f k) k) hm (by decide) (by decide) S1 M1 (fun σ => σ[4]? = some (some (.int (k : Nat)))) e4 (fun σ v z => by rw [List.getElem?_set_ne (by decide)]; exact z) (fun o σ2 H2 D2 ho S2 z2 e5 M2 q2 => ?_) fun σ' H' s _ m => q1 σ' H' s trivial m
  refine loop_in (cIn (cRow m (cAll m f k) k o) k o) hm (by decide) (by decide) S2 M2 (fun σ => σ[4]? = some (some (.int (k : Nat))) ∧ σ[5]? = some (some (.int (o : Nat)))) ⟨z2, e5⟩ (fun σ v z => ⟨by rw [List.getElem?_set_ne (by decide)]; exact z.1, by rw [List.getElem?_set_ne (by decide)]; exact z.2⟩) (fun i σ3 H3 D3 hi S3 z3 e6 M3 q3 => ?_) fun σ' H' s z m => q2 σ' H' s z.1 m
  exact cst_in S3 M3 z3.1 z3.2 e6 hk ho hi fun v H' M' => q3 _ H' (S3.set _ (by decide)) ⟨by rw [List.getElem?_set_ne (by decide)]; exact z3.1, by rw [List.getElem?_set_ne (by decide)]; exact z3.2⟩ M'
/-- [list(row) for row in table] -/
theorem rows_in {H : Hp} {σ : St} {n m : Nat} {P : Addr → Prop} {ka : KA} {v : V} {f : Nat → Nat → Int} {Q : VK} (hP : ∀ a, P a → H a ≠ none) (hn : n ≤ 1000) (hv : σ[0]? = some (some v)) (h2 : 2 < σ.length) (r : Rep K H P ka (Tb n m f) v)
    (q : ∀ a as H', Mm H H' n m a as f → Q (.ref a) H') : tLc (iSeq K (tVar 0)) (gName 2) tYes (tCB (rLstOf K) (tCons (tVar 2) tNil)) [2] σ H Q := by
  cases r with
  | tup t1 t2 =>
    rename_i T xs
    refine ⟨_, hv, T, rfl, .inr ⟨⟨_, t1.sq⟩, fun D hD => ?_⟩⟩
    have xl : xs.length = n := by rw [t2.len]; simp
    refine lc_tup (K := K) (a := T) (xs := xs) (fun i H' => ∃ as, Mm H H' i m D as f) ⟨fun _ => D, ?_, fun k hk => absurd hk (Nat.not_lt_zero k), fun j k hj => absurd hj (Nat.not_lt_zero j), fun k hk => absurd hk (Nat.not_lt_zero k), same_upd hD, hD, fun k hk => absurd hk (Nat.not_lt_zero k)⟩
      (fun i H' _ ⟨as, M⟩ => (t1.ext (Same.ext (P := P) M.keep)).sq) ?_ fun H' ⟨as, M⟩ => q D as H' (by rw [xl] at M; exact M)
    · rw [upd_same]; rfl
    · rintro i x H' hx ⟨as, M⟩
      have hi : i < n := by rw [← xl]; exact (List.getElem?_eq_some_iff.mp hx).1
      obtain ⟨d, hd, rd⟩ := t2.getV hx
      have ed : d = Rw m (f i) := by
        rw [List.getElem?_map, List.getElem?_range hi] at hd
        exact (Option.some.inj hd).symm
      subst ed
      refine ⟨?_, ?_⟩
      · simp [wipe]
      unfold tYes
      dsimp only
      rw [if_pos rfl]
      refine ⟨x, ?_, ?_⟩
      · simp [wipe, h2]
      have rd' := rd.to (Same.ext (P := P) M.keep)
      cases rd' with
      | tup u1 u2 =>
        rename_i r ys
        have ey : ys = (List.range m).map fun j => V.int (f i j) := by
          have := RepL.ints (ns := (List.range m).map (f i)) (by rw [List.map_map]; exact u2)
          rw [this, List.map_map]
          rfl
        refine ⟨r, ys, rfl, .inr u1.sq, fun l hl => ?_⟩
        have nl : l ≠ D := fun z => by rw [z, M.out] at hl; cases hl
        refine ⟨_, by rw [upd_ne nl.symm]; exact M.out, by rw [List.length_map, List.length_range, big_eq, big_val]; omega, fun k => if k < i then as k else l, ?_, fun k hk => ?_, fun j k hj hk e => ?_, fun k hk => ?_, ?_, M.new, fun k hk => ?_⟩
        · rw [upd_same, List.range_succ, List.map_append]
          congr 2
          have e1 : (List.range i).map (fun k => V.ref (as k)) = (List.range i).map fun k => V.ref (if k < i then as k else l) := List.map_congr_left fun k hk => by rw [if_pos (List.mem_range.mp hk)]
          rw [e1]
          simp
        · by_cases z : k < i
          · simp only [z, if_true]
            have w : as k ≠ l := fun w => by rw [← w, M.row k z] at hl; cases hl
            rw [upd_ne (M.ne k z), upd_ne w]
            exact M.row k z
          · have : k = i := by omega
            subst this
            simp only [z, if_false]
            rw [upd_ne nl, upd_same, ey]
        · have old : ∀ k, k < i → as k ≠ l := fun k z w => by rw [← w, M.row k z] at hl; cases hl
          by_cases zj : j < i
          · by_cases zk : k < i
            · simp only [zj, zk, if_true] at e
              exact M.inj j k zj zk e
            · simp only [zj, zk, if_true, if_false] at e
              exact absurd e (old j zj)
          · by_cases zk : k < i
            · simp only [zj, zk, if_true, if_false] at e
              exact absurd e.symm (old k zk)
            · omega
        · by_cases z : k < i
          · simp only [z, if_true]
            exact M.ne k z
          · simp only [z, if_false]
            exact nl
        · intro b u e
          have b1 : b ≠ D := fun z => by rw [z, M.new] at e; cases e
          have b2 : b ≠ l := fun z => by rw [z] at e; rw [M.keep _ _ e] at hl; cases hl
          rw [upd_ne b1, upd_ne b2]
          exact M.keep b u e
        · by_cases z : k < i
          · simp only [z, if_true]
            exact M.news k z
          · simp only [z, if_false]
            exact M.keep.free hl
def sClo : Env' → MS := fun env n Q _ => ∃ (m : Nat) (f : Nat → Nat → Int), m ≤ 1000 ∧ env.length = 8 ∧ env[0]? = some (.sh (Tb m m f)) ∧ (∀ (i : Nat) (ds : List D), env[i]? ≠ some (Slot.own ds)) ∧ Q (.rt (Tb m m (cls m f)), env) n
theorem Rl.flat {ex : EX} {g : Gh ex} {H H' : Hp} {σ σ' : St} {n : Nat} {env : Env'} (R0 : Rl K g H σ n env) (sm : Same H H') {d : D} {v : V} (l : σ'.length = 8) (h1 : σ'[1]? = some (some v)) (r : Rep K H' g.P0 (kA g) d v) :
    Rl K g H' σ' n [.un, .sh d, .un, .un, .un, .un, .un, .un] := by
  have no : ∀ (i : Nat) (es : List D), ([Slot.un, .sh d, .un, .un, .un, .un, .un, .un] : Env')[i]? ≠ some (.own es) := fun i es h => by
    match i, h with
    | 0, h => cases h
    | 1, h => cases h
    | 2, h => cases h
    | 3, h => cases h
    | 4, h => cases h
    | 5, h => cases h
    | 6, h => cases h
    | 7, h => cases h
    | i + 8, h => cases h
  have x : Ext g.P0 H' (pv g [.un, .sh d, .un, .un, .un, .un, .un, .un] σ') H' := ⟨fun _ _ h _ => h, fun a h => by
    rcases h with h | ⟨i, es, h, _⟩
    · exact .inl h
    · exact absurd h (no i es)⟩
  refine ⟨by rw [l]; rfl, fun i e h => ?_, fun i es h => absurd h (no i es), fun i j es fs a h => absurd h (no i es), R0.dk.same sm, fun a h => ?_, R0.kp⟩
  · match i, h with
    | 0, h => cases h
    | 1, h =>
      cases h
      exact ⟨v, h1, r.to x⟩
    | 2, h => cases h
    | 3, h => cases h
    | 4, h => cases h
    | 5, h => cases h
    | 6, h => cases h
    | 7, h => cases h
    | i + 8, h => cases h
  · cases q : H a with
    | none => exact absurd q (R0.p0 a h)
    | some o => rw [sm a o q]; intro z; cases z
abbrev cloRet : Env' → MS := sRet (eCallB oTuple (aCons (toLst (eLcL (iEl (eVar 1)) (.nm 2) cYes (eCallB oTuple (aCons (eVar 2) aNil)) [2])) aNil))
theorem cloRet_e {m : Nat} (hm : m ≤ 1000) (f : Nat → Nat → Int) (a2 : Slot) (h2 : a2 = .un) : cloRet [.un, .sh (.lst ((List.range m).map fun k => .lst ((List.range m).map fun i => .int (f k i)))), a2, .un, .un, .un, .un, .un] =
    done (.rt (Tb m m f), [.un, .sh (.lst ((List.range m).map fun k => .lst ((List.range m).map fun i => .int (f k i)))), a2, .un, .un, .un, .un, .un]) := by
  subst h2
  have c : eLcL (iEl (eVar 1)) (.nm 2) cYes (eCallB oTuple (aCons (eVar 2) aNil)) [2] [.un, .sh (.lst ((List.range m).map fun k => .lst ((List.range m).map fun i => .int (f k i)))), .un, .un, .un, .un, .un, .un] = ret ((List.range m).map fun k => Rw m (f k)) :=
    lcRA (enc := fun k => .lst ((List.range m).map fun i => .int (f k i))) _ (by simp) (by omega) rfl fun k hk => ⟨_, rfl, by simp [mk_Rw]⟩
  simp [cloRet, c, -eLcL_e, mk_Tb]
theorem clo_in {mg : Str → Option Value} {W : WY} {En : Ends} {σ : St} {H : Hp} (h : tS K mg W sClo En σ H) :
    tSeq (tAsg (tLc (iSeq K (tVar 0)) (gName 2) tYes (tCB (rLstOf K) (tCons (tVar 2) tNil)) [2]) (gName 1)) (tSeq (tAsg (tCB (rLenS K) (tCons (tVar 1) tNil)) (gName 3)) (tSeq (tLoop 4 (tLoop 5 (tLoop 6 (tCst K)))) (tS K mg W cloRet))) En σ H := by
  obtain ⟨g, n, env, Qd, Ed, R0, ⟨m, f, hm, el, e0, no, q⟩, s⟩ := h
  obtain ⟨v, hv, rv⟩ := R0.sh 0 _ e0
  have sl : σ.length = 8 := by rw [← R0.len]; exact el
  have x0 : Ext (pv g env σ) H g.P0 H := ⟨fun _ _ h _ => h, fun a h => .inl (.inl h)⟩
  unfold tSeq tAsg
  refine rows_in (P := g.P0) (ka := kA g) (fun a z => R0.p0 a z) hm hv (by omega) (rv.to x0) fun a as H1 M => ?_
  have g1 : (σ.set 1 (some (V.ref a)))[1]? = some (some (.ref a)) := List.getElem?_set_self (by omega)
  refine ⟨.ref a, g1, .ref a, m, rfl, .inl ⟨_, SqL.of M.out, by simp⟩, ?_⟩
  have S : Sg ((σ.set 1 (some (V.ref a))).set 3 (some (V.int m))) v a m := by
    refine ⟨by simp [sl], ?_, ?_, ?_⟩
    · rw [List.getElem?_set_ne (by decide), List.getElem?_set_ne (by decide)]; exact hv
    · rw [List.getElem?_set_ne (by decide)]; exact g1
    · exact List.getElem?_set_self (by simp [sl])
  refine loops_in hm S M fun σ' H' S' M' => ?_
  have np : ∀ a, H a = none → ¬ g.P0 a := fun a h z => R0.p0 a z h
  have rp : Rep K H' g.P0 (kA g) (.lst ((List.range m).map fun k => .lst ((List.range m).map fun i => .int (cls m f k i)))) (.ref a) := by
    refine .lst M'.out (np a M'.new) ?_
    have : ∀ l : List Nat, (∀ k ∈ l, k < m) → RepL K H' g.P0 (kA g) (l.map fun k => D.lst ((List.range m).map fun i => .int (cls m f k i))) (l.map fun k => V.ref (as k)) := by
      intro l
      induction l with
      | nil => intro _; exact .nil
      | cons k l ih =>
        intro hl
        refine .cons (.lst (M'.row k (hl k (by simp))) (np _ (M'.news k (hl k (by simp)))) ?_) (ih fun j hj => hl j (by simp [hj]))
        have := repL_ints (K := K) (H := H') (P := g.P0) (k := kA g) ((List.range m).map (cls m f k))
        rw [List.map_map, List.map_map] at this
        exact this
    exact this _ fun k hk => List.mem_range.mp hk
  have R1 := R0.flat M'.keep S'.len S'.s1 rp
  have noW : ∀ a, ¬ ow [Slot.un, .sh (.lst ((List.range m).map fun k => .lst ((List.range m).map fun i => .int (cls m f k i)))), .un, .un, .un, .un, .un, .un] σ' a := fun a ⟨i, ds, z, _⟩ => by
    match i, z with
    | 0, h => cases h
    | 1, h => cases h
    | 2, h => cases h
    | 3, h => cases h
    | 4, h => cases h
    | 5, h => cases h
    | 6, h => cases h
    | 7, h => cases h
    | i + 8, h => cases h
  refine ⟨g, n, _, fun r n' => ∃ e, r = (.rt (Tb m m (cls m f)), e) ∧ Qd (.rt (Tb m m (cls m f)), env) n', fun _ _ _ => False, R1, ?_, ⟨fun e n' σ2 H2 z _ _ => ?_, fun e n' σ2 H2 z _ _ => ?_, fun e n' σ2 H2 z _ _ => ?_, fun d e n' v2 H2 z r2 k2 dk2 => ?_, fun _ _ _ _ _ _ _ z => z.elim⟩⟩
  · rw [cloRet_e hm _ _ rfl]
    exact ⟨_, rfl, q⟩
  · obtain ⟨_, z, _⟩ := z
    cases z
  · obtain ⟨_, z, _⟩ := z
    cases z
  · obtain ⟨_, z, _⟩ := z
    cases z
  · obtain ⟨_, z, z2⟩ := z
    cases z
    refine s.rt _ env n' v2 H2 z2 r2 (fun b o hb nb _ => k2 b o (M'.keep b o hb) nb (noW b)) dk2
end
instance : MoS sClo := ⟨fun e f h n Q Q' E E' hq _ q => by
  obtain ⟨m, t, hm, el, e0, no, q⟩ := q
  obtain ⟨s, h1, h2⟩ := h.get e0
  have e1 : f[0]? = some (.sh (Tb m m t)) := by
    rcases h2 with rfl | ⟨z, _⟩
    · exact h1
    · cases z
  refine ⟨m, t, hm, by rw [h.len]; exact el, e1, fun i ds z => ?_, hq _ _ _ q f h⟩
  cases hi : e[i]? with
  | none =>
    have hl : e.length ≤ i := List.getElem?_eq_none_iff.mp hi
    rw [List.getElem?_eq_none (by rw [h.len]; exact hl)] at z
    cases z
  | some s =>
    obtain ⟨t', k1, k2⟩ := h.get hi
    rw [k1] at z
    rcases k2 with rfl | ⟨_, d, rfl⟩
    · cases z
      exact no i ds hi
    · cases z⟩
theorem Rw_inj {m : Nat} {f g : Nat → Int} (h : Rw m f = Rw m g) : ∀ j, j < m → f j = g j := fun j hj => by
  unfold Rw at h
  injection h with h
  have := congrArg (fun l : List D => l[j]?) h
  simpa [hj] using this
theorem Tb_sq {n m : Nat} {f g : Nat → Nat → Int} (h : Tb n n f = Tb m m g) : n = m ∧ ∀ i j, i < n → j < n → f i j = g i j := by
  have e : n = m := by
    unfold Tb at h
    injection h with h
    simpa using congrArg List.length h
  subst e
  refine ⟨rfl, fun i j hi hj => ?_⟩
  unfold Tb at h
  injection h with h
  have := congrArg (fun l : List D => l[i]?) h
  exact Rw_inj (by simpa [hi] using this) j hj
section
variable {m : Nat} {f g : Nat → Nat → Int}
theorem cst_congr {k o i : Nat} (hk : k < m) (ho : o < m) (hi : i < m) (h : ∀ a b, a < m → b < m → f a b = g a b) : ∀ a b, a < m → b < m → cst f k o i a b = cst g k o i a b := fun a b ha hb => by
  unfold cst up2
  rw [h a b ha hb, h o i ho hi, h o k ho hk, h k i hk hi]
theorem cIn_congr {k o : Nat} (hk : k < m) (ho : o < m) (h : ∀ a b, a < m → b < m → f a b = g a b) : ∀ i, i ≤ m → ∀ a b, a < m → b < m → cIn f k o i a b = cIn g k o i a b
  | 0, _ => h
  | i + 1, hi => cst_congr hk ho (by omega) (cIn_congr hk ho h i (by omega))
theorem cRow_congr {k : Nat} (hk : k < m) (h : ∀ a b, a < m → b < m → f a b = g a b) : ∀ o, o ≤ m → ∀ a b, a < m → b < m → cRow m f k o a b = cRow m g k o a b
  | 0, _ => h
  | o + 1, ho => cIn_congr hk (by omega) (cRow_congr hk h o (by omega)) m (Nat.le_refl _)
theorem cAll_congr (h : ∀ a b, a < m → b < m → f a b = g a b) : ∀ k, k ≤ m → ∀ a b, a < m → b < m → cAll m f k a b = cAll m g k a b
  | 0, _ => h
  | k + 1, hk => cRow_congr (by omega) (cAll_congr h k (by omega)) m (Nat.le_refl _)
theorem cls_congr (h : ∀ a b, a < m → b < m → f a b = g a b) : ∀ a b, a < m → b < m → cls m f a b = cls m g a b := cAll_congr h m (Nat.le_refl _)
end
theorem sClo_e {m : Nat} (hm : m ≤ 1000) (f : Nat → Nat → Int) : sClo [.sh (Tb m m f), .un, .un, .un, .un, .un, .un, .un] = done (.rt (Tb m m (cls m f)), [.sh (Tb m m f), .un, .un, .un, .un, .un, .un, .un]) := by
  funext n Q E
  refine propext ⟨fun ⟨m', f', h1, h2, h3, h4, q⟩ => ?_, fun q => ⟨m, f, hm, rfl, rfl, fun i ds z => ?_, q⟩⟩
  · have e : Tb m m f = Tb m' m' f' := by
      have : (some (Slot.sh (Tb m m f))) = some (.sh (Tb m' m' f')) := h3
      injection this with this
      injection this
    obtain ⟨rfl, e2⟩ := Tb_sq e
    rw [← Tb_congr (cls_congr (m := m) e2)] at q
    exact q
  · match i, z with
    | 0, h => cases h
    | 1, h => cases h
    | 2, h => cases h
    | 3, h => cases h
    | 4, h => cases h
    | 5, h => cases h
    | 6, h => cases h
    | 7, h => cases h
    | i + 8, h => cases h
end Den

set_option autoImplicit true
set_option Elab.async false
set_option linter.all false
set_option maxRecDepth 100000
set_option maxHeartbeats 2000000
namespace Den
open PySem PySem.Spec PyProof.Rows L2

/-! ### powers, one factor after the other -/
def pwN (n : Nat) (f : Nat → Nat → Int) : Nat → Nat → Nat → Int
  | 0 => un
  | k + 1 => mul n (pwN n f k) f
def Eqn (n : Nat) (f g : Nat → Nat → Int) : Prop := ∀ i j, i < n → j < n → f i j = g i j
theorem Eqn.mul {n : Nat} {f g f' g' : Nat → Nat → Int} (h : Eqn n f f') (h' : Eqn n g g') : Eqn n (Den.mul n f g) (Den.mul n f' g') := fun i j hi hj =>
  rl_congr (fun k hk => h i k hi hk) fun k hk => h' k j hk hj
theorem Eqn.trans {n : Nat} {f g e : Nat → Nat → Int} (h : Eqn n f g) (h' : Eqn n g e) : Eqn n f e := fun i j hi hj => (h i j hi hj).trans (h' i j hi hj)
theorem Eqn.symm {n : Nat} {f g : Nat → Nat → Int} (h : Eqn n f g) : Eqn n g f := fun i j hi hj => (h i j hi hj).symm
theorem Eqn.refl {n : Nat} (f : Nat → Nat → Int) : Eqn n f f := fun _ _ _ _ => rfl
theorem Eqn.tb {n : Nat} {f g : Nat → Nat → Int} (h : Eqn n f g) : Tb n n f = Tb n n g := Tb_congr fun i j hi hj => h i j hi hj
theorem mul_ass {n : Nat} (n0 : 0 < n) (f g e : Nat → Nat → Int) : Eqn n (mul n (mul n f g) e) (mul n f (mul n g e)) := fun i j _ _ => mul_assoc n0 n0 f g e i j
theorem LvT_pwN {n : Nat} (n0 : 0 < n) {f : Nat → Nat → Int} (h : LvT n n f) : ∀ k, LvT n n (pwN n f k)
  | 0 => LvT_un n
  | k + 1 => (LvT_pwN n0 h k).mul n0 h
theorem pwN_comm {n : Nat} (n0 : 0 < n) {p : Nat → Nat → Int} (h : LvT n n p) : ∀ k, Eqn n (mul n p (pwN n p k)) (pwN n p (k + 1))
  | 0 => fun i j hi hj => (mul_un h hi hj).trans (un_mul h hi hj).symm
  | k + 1 => (mul_ass n0 p (pwN n p k) p).symm.trans ((pwN_comm n0 h k).mul (.refl p))
theorem pwN_two {n : Nat} (n0 : 0 < n) {p : Nat → Nat → Int} (h : LvT n n p) : ∀ k, Eqn n (pwN n (mul n p p) k) (pwN n p (2 * k))
  | 0 => .refl _
  | k + 1 => by
    show Eqn n (mul n (pwN n (mul n p p) k) (mul n p p)) (mul n (mul n (pwN n p (2 * k)) p) p)
    exact ((pwN_two n0 h k).mul (.refl _)).trans (mul_ass n0 _ _ _).symm
theorem pwN_add {n : Nat} (n0 : 0 < n) {p : Nat → Nat → Int} (h : LvT n n p) (a : Nat) : ∀ b, Eqn n (mul n (pwN n p a) (pwN n p b)) (pwN n p (a + b))
  | 0 => fun i j hi hj => mul_un (LvT_pwN n0 h a) hi hj
  | b + 1 => (mul_ass n0 _ _ _).symm.trans ((pwN_add n0 h a b).mul (.refl p))
theorem Eqn.pw {n : Nat} {f g : Nat → Nat → Int} (h : Eqn n f g) : ∀ k, Eqn n (pwN n f k) (pwN n g k)
  | 0 => .refl _
  | k + 1 => (h.pw k).mul h
theorem pwN_pow {n : Nat} (n0 : 0 < n) {p : Nat → Nat → Int} (h : LvT n n p) (a : Nat) : ∀ b, Eqn n (pwN n (pwN n p a) b) (pwN n p (a * b))
  | 0 => .refl _
  | b + 1 => ((pwN_pow n0 h a b).mul (.refl _)).trans (pwN_add n0 h (a * b) a)

/-! ### walks -/
section
variable {m : Nat} {f : Nat → Nat → Int} {t : Int}
def Wk (m : Nat) (f : Nat → Nat → Int) (t : Int) : Nat → Nat → Nat → Prop
  | 0, i, j => i = j
  | n + 1, i, j => ∃ k, k < m ∧ Wk m f t n i k ∧ t ≤ f k j
theorem le_un {i j : Nat} (t0 : 0 < t) (t1 : t ≤ 1000000000000) : t ≤ un i j ↔ i = j := by
  unfold un
  split <;> simp_all <;> omega
theorem le_pwN (t0 : 0 < t) (t1 : t ≤ 1000000000000) (m0 : 0 < m) : ∀ {n i j : Nat}, t ≤ pwN m f n i j ↔ Wk m f t n i j
  | 0, i, j => le_un t0 t1
  | n + 1, i, j => by
    show t ≤ mul m (pwN m f n) f i j ↔ _
    rw [le_mul m0]
    exact exists_congr fun k => and_congr_right fun _ => by rw [le_pwN t0 t1 m0]
theorem Wk.app {a i k : Nat} (h : Wk m f t a i k) (hk : k < m) : ∀ {b j : Nat}, Wk m f t b k j → Wk m f t (a + b) i j
  | 0, j, h2 => by
    have : k = j := h2
    subst this
    exact h
  | b + 1, j, ⟨c, hc, h2, h3⟩ => ⟨c, hc, h.app hk h2, h3⟩
theorem Wk.one {i j : Nat} (hi : i < m) (h : t ≤ f i j) : Wk m f t 1 i j := ⟨i, hi, rfl, h⟩
theorem Wk.of_one {i j : Nat} (h : Wk m f t 1 i j) : t ≤ f i j := by
  obtain ⟨k, _, e, h⟩ := h
  have : i = k := e
  subst this
  exact h
/-- the nodes of a walk -/
theorem Wk.fn : ∀ {n i j : Nat}, i < m → j < m → Wk m f t n i j → ∃ v : Nat → Nat, v 0 = i ∧ v n = j ∧ (∀ a, a ≤ n → v a < m) ∧ ∀ a, a < n → t ≤ f (v a) (v (a + 1))
  | 0, i, j, hi, hj, h => ⟨fun _ => i, rfl, h, fun _ _ => hi, fun a ha => absurd ha (Nat.not_lt_zero a)⟩
  | n + 1, i, j, hi, hj, ⟨k, hk, h1, h2⟩ => by
    obtain ⟨v, v0, vn, vm, vs⟩ := Wk.fn hi hk h1
    refine ⟨fun a => if a ≤ n then v a else j, by simp [v0], by dsimp only; rw [if_neg (by omega)], fun a ha => ?_, fun a ha => ?_⟩
    · dsimp only
      split
      · exact vm a (by assumption)
      · exact hj
    · by_cases z : a < n
      · simp only [show a ≤ n by omega, show a + 1 ≤ n by omega, if_true]
        exact vs a z
      · have : a = n := by omega
        subst this
        simp only [Nat.le_refl, if_true, show ¬ a + 1 ≤ a by omega, if_false, vn]
        exact h2
theorem Wk.of_fn {v : Nat → Nat} : ∀ (n a : Nat), (∀ b, b < n → v (a + b) < m ∧ t ≤ f (v (a + b)) (v (a + b + 1))) → Wk m f t n (v a) (v (a + n))
  | 0, a, _ => rfl
  | n + 1, a, h => ⟨v (a + n), (h n (by omega)).1, Wk.of_fn n a fun b hb => h b (by omega), (h n (by omega)).2⟩
theorem pigeon (v : Nat → Nat) (h : ∀ a, a ≤ m → v a < m) : ∃ a b, a < b ∧ b ≤ m ∧ v a = v b := by
  refine Classical.byContradiction fun no => ?_
  have nd : ((List.range (m + 1)).map v).Nodup := by
    refine List.pairwise_map.mpr (List.Pairwise.imp_of_mem (fun {a b} ha hb hab => ?_) List.nodup_range)
    intro e
    have ha := List.mem_range.mp ha
    have hb := List.mem_range.mp hb
    rcases Nat.lt_trichotomy a b with z | z | z
    · exact no ⟨a, b, z, by omega, e⟩
    · exact hab z
    · exact no ⟨b, a, z, by omega, e.symm⟩
  have := nat_nodup_len _ (List.range m) nd fun x hx => by
    obtain ⟨a, ha, rfl⟩ := List.mem_map.mp hx
    exact List.mem_range.mpr (h a (by have := List.mem_range.mp ha; omega))
  simp at this
  omega
/-- a long walk goes round -/
theorem Wk.round {n i j : Nat} (hi : i < m) (hj : j < m) (hn : m ≤ n) (h : Wk m f t n i j) : ∃ a c b k, k < m ∧ a + c + b = n ∧ 0 < c ∧ a + c ≤ m ∧ Wk m f t a i k ∧ Wk m f t c k k ∧ Wk m f t b k j := by
  obtain ⟨v, v0, vn, vm, vs⟩ := h.fn hi hj
  obtain ⟨a, b, ab, bm, e⟩ := pigeon v fun a ha => vm a (by omega)
  have w : ∀ a n', a + n' ≤ n → Wk m f t n' (v a) (v (a + n')) := fun a n' h => Wk.of_fn n' a fun b hb => ⟨vm _ (by omega), vs _ (by omega)⟩
  refine ⟨a, b - a, n - b, v a, vm a (by omega), by omega, by omega, by omega, ?_, ?_, ?_⟩
  · have := w 0 a (by omega)
    rwa [v0, Nat.zero_add] at this
  · have := w a (b - a) (by omega)
    rwa [show a + (b - a) = b by omega, ← e] at this
  · have := w b (n - b) (by omega)
    rwa [show b + (n - b) = n by omega, vn, ← e] at this
theorem Wk.rep {c k : Nat} (hk : k < m) (h : Wk m f t c k k) : ∀ q, Wk m f t (c * q) k k
  | 0 => rfl
  | q + 1 => (h.rep hk q).app hk h
/-- more rounds -/
theorem Wk.pump {L n i j : Nat} (hi : i < m) (hj : j < m) (hn : m ≤ n) (hL : ∀ c, 0 < c → c ≤ m → c ∣ L) (h : Wk m f t n i j) : Wk m f t (n + L) i j := by
  obtain ⟨a, c, b, k, hk, e, c0, cm, h1, h2, h3⟩ := h.round hi hj hn
  obtain ⟨q, hq⟩ := hL c c0 (by omega)
  have := (h1.app hk (h2.rep hk (q + 1))).app hk h3
  rwa [show a + c * (q + 1) + b = n + L by rw [Nat.mul_succ, ← hq]; omega] at this
/-- a walk of at most m steps -/
theorem Wk.short : ∀ {n i j : Nat}, i < m → j < m → 0 < n → Wk m f t n i j → ∃ n', 0 < n' ∧ n' ≤ m ∧ Wk m f t n' i j := by
  intro n
  induction n using Nat.strongRecOn with
  | ind n ih =>
    intro i j hi hj n0 h
    by_cases z : n ≤ m
    · exact ⟨n, n0, z, h⟩
    · obtain ⟨a, c, b, k, hk, e, c0, cm, h1, h2, h3⟩ := h.round hi hj (by omega)
      exact ih (a + b) (by omega) hi hj (by omega) (h1.app hk h3)
end

/-! ### the closure tells all walks -/
section
variable {m : Nat} {t : Int}
/-- from f, k may be passed -/
def thr (f : Nat → Nat → Int) (k : Nat) : Nat → Nat → Int := fun i j => mx (f i j) (mn (f i k) (f k j))
theorem le_mx {a b : Int} : t ≤ mx a b ↔ t ≤ a ∨ t ≤ b := by
  unfold mx
  split <;> omega
theorem mx_self_mn {a b : Int} : mx a (mn a b) = a := by
  unfold mx mn
  by_cases h : b < a
  · rw [if_pos h, if_neg (by omega)]
  · rw [if_neg h, if_neg (by omega)]
theorem mx_self_mn' {a b : Int} : mx a (mn b a) = a := by
  unfold mx mn
  by_cases h : a < b
  · rw [if_pos h, if_neg (by omega)]
  · rw [if_neg h, if_neg (by omega)]
/-- the turns of one outlet, of one middle, done in place, are those done at once -/
theorem cIn_eq {f : Nat → Nat → Int} {k o : Nat} : ∀ i a b, cIn f k o i a b = if a = o ∧ b < i then thr f k a b else f a b
  | 0, a, b => by simp [cIn]
  | i + 1, a, b => by
    have same : cIn f k o i o k = f o k := by
      rw [cIn_eq i o k]
      split
      · unfold thr
        exact mx_self_mn
      · rfl
    have row : cIn f k o i k i = f k i := by
      rw [cIn_eq i k i, if_neg (by omega)]
    have here : cIn f k o i o i = f o i := by
      rw [cIn_eq i o i, if_neg (by omega)]
    show cst (cIn f k o i) k o i a b = _
    unfold cst up2
    by_cases e : a = o ∧ b = i
    · obtain ⟨rfl, rfl⟩ := e
      rw [if_pos ⟨rfl, rfl⟩, if_pos ⟨rfl, by omega⟩, same, row, here]
      rfl
    · rw [if_neg e, cIn_eq i a b]
      by_cases z : a = o ∧ b < i
      · rw [if_pos z, if_pos ⟨z.1, by omega⟩]
      · rw [if_neg z, if_neg (by omega)]
theorem cRow_eq {f : Nat → Nat → Int} {k : Nat} (hk : k < m) : ∀ o a b, b < m → cRow m f k o a b = if a < o then thr f k a b else f a b
  | 0, a, b, _ => by simp [cRow]
  | o + 1, a, b, hb => by
    show cIn (cRow m f k o) k o m a b = _
    have rowk : ∀ b, b < m → cRow m f k o k b = f k b := fun b hb => by
      rw [cRow_eq hk o k b hb]
      split
      · unfold thr
        exact mx_self_mn'
      · rfl
    rw [cIn_eq]
    by_cases e : a = o
    · subst e
      rw [if_pos ⟨rfl, hb⟩, if_pos (by omega)]
      unfold thr
      rw [rowk b hb, cRow_eq hk a a b hb, cRow_eq hk a a k hk, if_neg (by omega), if_neg (by omega)]
    · rw [if_neg (fun z => e z.1), cRow_eq hk o a b hb]
      by_cases z : a < o
      · rw [if_pos z, if_pos (by omega)]
      · rw [if_neg z, if_neg (by omega)]
/-- in R k: by middles below k -/
def Rch (f : Nat → Nat → Int) (t : Int) : Nat → Nat → Nat → Prop
  | 0, i, j => t ≤ f i j
  | k + 1, i, j => Rch f t k i j ∨ (Rch f t k i k ∧ Rch f t k k j)
theorem le_cAll {f : Nat → Nat → Int} : ∀ k, k ≤ m → ∀ i j, i < m → j < m → (t ≤ cAll m f k i j ↔ Rch f t k i j)
  | 0, _, _, _, _, _ => Iff.rfl
  | k + 1, hk, i, j, hi, hj => by
    show t ≤ cRow m (cAll m f k) k m i j ↔ _
    rw [cRow_eq (by omega) m i j hj, if_pos hi]
    unfold thr
    rw [le_mx, le_mn, le_cAll k (by omega) i j hi hj, le_cAll k (by omega) i k hi (by omega), le_cAll k (by omega) k j (by omega) hj]
    rfl
theorem Rch.through {f : Nat → Nat → Int} : ∀ k c i j, c < k → Rch f t k i c → Rch f t k c j → Rch f t k i j
  | 0, c, _, _, h, _, _ => absurd h (Nat.not_lt_zero c)
  | k + 1, c, i, j, hc, h1, h2 => by
    by_cases e : c = k
    · subst e
      refine .inr ⟨?_, ?_⟩
      · rcases h1 with h | h
        · exact h
        · exact h.1
      · rcases h2 with h | h
        · exact h
        · exact h.2
    · have hc : c < k := by omega
      rcases h1 with h1 | ⟨a1, a2⟩
      · rcases h2 with h2 | ⟨b1, b2⟩
        · exact .inl (Rch.through k c i j hc h1 h2)
        · exact .inr ⟨Rch.through k c i k hc h1 b1, b2⟩
      · rcases h2 with h2 | ⟨b1, b2⟩
        · exact .inr ⟨a1, Rch.through k c k j hc a2 h2⟩
        · exact .inr ⟨a1, b2⟩
theorem Rch.wk {f : Nat → Nat → Int} : ∀ k, k ≤ m → ∀ {i j}, i < m → Rch f t k i j → ∃ n, 0 < n ∧ Wk m f t n i j
  | 0, _, i, j, hi, h => ⟨1, by decide, Wk.one hi h⟩
  | k + 1, hk, i, j, hi, h => by
    rcases h with h | ⟨h1, h2⟩
    · exact Rch.wk k (by omega) hi h
    · obtain ⟨a, a0, w1⟩ := Rch.wk k (by omega) hi h1
      obtain ⟨b, b0, w2⟩ := Rch.wk k (by omega) (show k < m by omega) h2
      exact ⟨a + b, by omega, w1.app (by omega) w2⟩
theorem Rch.mono {f : Nat → Nat → Int} {i j : Nat} (h : t ≤ f i j) : ∀ k, Rch f t k i j
  | 0 => h
  | k + 1 => .inl (Rch.mono h k)
theorem Rch.of_wk {f : Nat → Nat → Int} : ∀ {n i j}, i < m → 0 < n → Wk m f t n i j → Rch f t m i j
  | 1, i, j, hi, _, h => Rch.mono h.of_one m
  | n + 2, i, j, hi, _, ⟨k, hk, h1, h2⟩ => Rch.through m k i j hk (Rch.of_wk hi (by omega) h1) (Rch.mono h2 m)
/-- the closure: some walk of one step or more -/
theorem le_cls {f : Nat → Nat → Int} {i j : Nat} (hi : i < m) (hj : j < m) : t ≤ cls m f i j ↔ ∃ n, 0 < n ∧ Wk m f t n i j := by
  unfold cls
  rw [le_cAll m (Nat.le_refl _) i j hi hj]
  exact ⟨fun h => h.wk m (Nat.le_refl _) hi, fun ⟨n, n0, h⟩ => Rch.of_wk hi n0 h⟩
theorem LvT_cls {f : Nat → Nat → Int} (m0 : 0 < m) (h : LvT m m f) : LvT m m (cls m f) := fun i j hi hj => by
  constructor
  · exact (le_cls hi hj).mpr ⟨1, by decide, Wk.one hi (h i j hi hj).1⟩
  · obtain ⟨n, n0, w⟩ := (le_cls (m := m) (f := f) (t := cls m f i j) hi hj).mp (Int.le_refl _)
    obtain ⟨n', rfl⟩ : ∃ n', n = n' + 1 := ⟨n - 1, by omega⟩
    obtain ⟨k, hk, _, h2⟩ := w
    have := (h k j hk hj).2
    omega
/-- .. in powers up to m -/
theorem cls_pw {f : Nat → Nat → Int} (m0 : 0 < m) (h : LvT m m f) {i j : Nat} (hi : i < m) (hj : j < m) (t0 : 0 < t) : t ≤ cls m f i j ↔ ∃ n, 0 < n ∧ n ≤ m ∧ t ≤ pwN m f n i j := by
  constructor
  · intro ht
    have t1 : t ≤ 1000000000000 := by have := (LvT_cls m0 h i j hi hj).2; omega
    obtain ⟨n, n0, w⟩ := (le_cls hi hj).mp ht
    obtain ⟨n', a, b, c⟩ := w.short hi hj n0
    exact ⟨n', a, b, (le_pwN t0 t1 m0).mpr c⟩
  · rintro ⟨n, a, b, c⟩
    have t1 : t ≤ 1000000000000 := by have := (LvT_pwN m0 h n i j hi hj).2; omega
    exact (le_cls hi hj).mpr ⟨n, a, (le_pwN t0 t1 m0).mp c⟩
end
end Den

set_option autoImplicit true
set_option Elab.async false
set_option linter.all false
set_option maxRecDepth 100000
set_option maxHeartbeats 2000000
namespace Den
open PySem PySem.Spec PyProof.Rows L2
/-! ### powers come again: index and period -/
section
variable {m : Nat} {f : Nat → Nat → Int}
def pvals (m : Nat) (f : Nat → Nat → Int) : List Int := 0 :: 1000000000000 :: (List.range m).flatMap fun i => (List.range m).map (f i)
theorem flat_len' (m : Nat) (f : Nat → Nat → Int) : ∀ l : List Nat, (l.flatMap fun i => (List.range m).map (f i)).length = l.length * m
  | [] => by simp
  | a :: l => by
    have := flat_len' m f l
    simp only [List.flatMap_cons, List.length_append, List.length_map, List.length_range, List.length_cons, Nat.succ_mul, this]
    omega
theorem pvals_len (m : Nat) (f : Nat → Nat → Int) : (pvals m f).length = 2 + m * m := by
  unfold pvals
  rw [List.length_cons, List.length_cons, flat_len', List.length_range]
  omega
theorem pwN_val (m0 : 0 < m) : ∀ k {i j : Nat}, i < m → j < m → pwN m f k i j ∈ pvals m f
  | 0, i, j, _, _ => by
    show un i j ∈ _
    unfold un pvals
    split <;> simp
  | k + 1, i, j, hi, hj => by
    obtain ⟨c, hc, e⟩ := sup_mem (fun c => mn (pwN m f k i c) (f c j)) m0
    have e2 : pwN m f (k + 1) i j = mn (pwN m f k i c) (f c j) := e.symm
    rw [e2]
    unfold mn
    split
    · unfold pvals
      exact List.mem_cons_of_mem _ (List.mem_cons_of_mem _ (List.mem_flatMap.mpr ⟨c, List.mem_range.mpr hc, List.mem_map.mpr ⟨j, List.mem_range.mpr hj, rfl⟩⟩))
    · exact pwN_val m0 k hi hc
theorem dvd60 {c : Nat} (h0 : 0 < c) (h : c ≤ 6) : c ∣ 60 := by
  have : c = 1 ∨ c = 2 ∨ c = 3 ∨ c = 4 ∨ c = 5 ∨ c = 6 := by omega
  rcases this with rfl | rfl | rfl | rfl | rfl | rfl <;> decide
theorem pw_up (m0 : 0 < m) (hm : m ≤ 6) (hf : LvT m m f) {k i j : Nat} (hk : m ≤ k) (hi : i < m) (hj : j < m) : pwN m f k i j ≤ pwN m f (k + 60) i j := by
  have b := LvT_pwN m0 hf k i j hi hj
  by_cases h0 : 0 < pwN m f k i j
  · have w := (le_pwN (m := m) (f := f) h0 b.2 m0).mp (Int.le_refl _)
    exact (le_pwN h0 b.2 m0).mpr (w.pump hi hj hk fun c c0 cm => dvd60 c0 (by omega))
  · have := (LvT_pwN m0 hf (k + 60) i j hi hj).1
    omega
def rsum (m : Nat) (f : Nat → Nat → Int) (k : Nat) : Nat := tot (fun i => tot (fun j => rnk (pvals m f) (pwN m f k i j)) m) m
theorem rnk_mono {V : List Int} {a x : Int} (h : a ∈ V) (hx : a ≤ x) : rnk V a ≤ rnk V x := by
  by_cases e : a = x
  · rw [e]; exact Nat.le_refl _
  · exact Nat.le_of_lt (rnk_lt h (by omega))
theorem rsum_up (m0 : 0 < m) (hm : m ≤ 6) (hf : LvT m m f) {k : Nat} (hk : m ≤ k) (ne : ¬ Eqn m (pwN m f k) (pwN m f (k + 60))) : rsum m f k < rsum m f (k + 60) := by
  have le : ∀ i j, i < m → j < m → rnk (pvals m f) (pwN m f k i j) ≤ rnk (pvals m f) (pwN m f (k + 60) i j) := fun i j hi hj => rnk_mono (pwN_val m0 k hi hj) (pw_up m0 hm hf hk hi hj)
  obtain ⟨i, hi, j, hj, h⟩ : ∃ i, i < m ∧ ∃ j, j < m ∧ pwN m f k i j ≠ pwN m f (k + 60) i j := by
    refine Classical.byContradiction fun no => ne fun i j hi hj => Classical.byContradiction fun h => no ⟨i, hi, j, hj, h⟩
  refine tot_lt hi (fun i hi => tot_le fun j hj => le i j hi hj) (tot_lt hj (fun j hj => le i j hi hj) ?_)
  have := pw_up m0 hm hf hk hi hj
  exact rnk_lt (pwN_val m0 k hi hj) (by omega)
theorem rsum_bd (hm : m ≤ 6) (k : Nat) : rsum m f k ≤ 1368 := by
  have h : (pvals m f).length ≤ 38 := by
    rw [pvals_len]
    have := Nat.mul_le_mul hm hm
    omega
  have h1 : ∀ i, tot (fun j => rnk (pvals m f) (pwN m f k i j)) m ≤ 228 := fun i => by
    have := tot_bd (r := fun j => rnk (pvals m f) (pwN m f k i j)) (c := 38) (fun j => Nat.le_trans (rnk_le _ _) h) m
    have := Nat.mul_le_mul hm (Nat.le_refl 38)
    omega
  have := tot_bd (r := fun i => tot (fun j => rnk (pvals m f) (pwN m f k i j)) m) (c := 228) h1 m
  have := Nat.mul_le_mul hm (Nat.le_refl 228)
  unfold rsum
  omega
theorem again60 (m0 : 0 < m) (hm : m ≤ 6) (hf : LvT m m f) : ∃ a, a ≤ 90000 ∧ Eqn m (pwN m f a) (pwN m f (a + 60)) := by
  refine Classical.byContradiction fun no => ?_
  have st : ∀ q, q ≤ 1400 → q ≤ rsum m f (m + 60 * q) := by
    intro q
    induction q with
    | zero => intro _; exact Nat.zero_le _
    | succ q ih =>
      intro hq
      have h := rsum_up m0 hm hf (k := m + 60 * q) (by omega) fun e => no ⟨m + 60 * q, by omega, e⟩
      have := ih (by omega)
      rw [show m + 60 * (q + 1) = m + 60 * q + 60 by omega]
      omega
  have := st 1400 (Nat.le_refl _)
  have := rsum_bd (f := f) hm (m + 60 * 1400)
  omega
theorem again (m0 : 0 < m) (hm : m ≤ 6) (hf : LvT m m f) : ∃ b, b ≤ 100000 ∧ ∃ a, a < b ∧ Eqn m (pwN m f a) (pwN m f b) := by
  obtain ⟨a, ha, e⟩ := again60 m0 hm hf
  exact ⟨a + 60, by omega, a, by omega, e⟩
/-- the first power that comes again, and after how many steps -/
structure Idx (m : Nat) (f : Nat → Nat → Int) (a p : Nat) : Prop where
  p0 : 0 < p
  eq : Eqn m (pwN m f a) (pwN m f (a + p))
  dis : ∀ x y, x < y → y < a + p → ¬ Eqn m (pwN m f x) (pwN m f y)
  bd : a + p ≤ 100000
theorem Idx.ex (m0 : 0 < m) (hm : m ≤ 6) (hf : LvT m m f) : ∃ a p, Idx m f a p := by
  obtain ⟨b, hb, h⟩ := again m0 hm hf
  obtain ⟨c, hc, ⟨a, ha, e⟩, least⟩ := st_least (p := fun b => ∃ a, a < b ∧ Eqn m (pwN m f a) (pwN m f b)) b h
  exact ⟨a, c - a, by omega, by rwa [show a + (c - a) = c by omega], fun x y hxy hy e => least y (by omega) ⟨x, hxy, e⟩, by omega⟩
theorem Idx.far {a p : Nat} (h : Idx m f a p) : ∀ k, a ≤ k → Eqn m (pwN m f k) (pwN m f (k + p)) := by
  intro k
  induction k with
  | zero =>
    intro h0
    have : a = 0 := by omega
    subst this
    exact h.eq
  | succ k ih =>
    intro hk
    by_cases e : a = k + 1
    · subst e
      exact h.eq
    · have := (ih (by omega)).mul (.refl f)
      rw [show k + 1 + p = (k + p) + 1 by omega]
      exact this
theorem Idx.fars {a p : Nat} (h : Idx m f a p) {k : Nat} (hk : a ≤ k) : ∀ q, Eqn m (pwN m f k) (pwN m f (k + p * q))
  | 0 => .refl _
  | q + 1 => by
    have := h.far (k + p * q) (by omega)
    rw [show k + p * (q + 1) = k + p * q + p by rw [Nat.mul_succ]; omega]
    exact (h.fars hk q).trans this
/-- from the index on just the remainder counts -/
theorem Idx.mod {a p : Nat} (h : Idx m f a p) {k : Nat} (hk : a ≤ k) : Eqn m (pwN m f k) (pwN m f (a + (k - a) % p)) := by
  have := h.fars (k := a + (k - a) % p) (by omega) ((k - a) / p)
  have e := Nat.mod_add_div (k - a) p
  rw [show a + (k - a) % p + p * ((k - a) / p) = k by omega] at this
  exact this.symm
/-- equal powers -/
theorem Idx.iff {a p : Nat} (h : Idx m f a p) {x y : Nat} (hxy : x < y) (e : Eqn m (pwN m f x) (pwN m f y)) : a ≤ x ∧ (y - x) % p = 0 := by
  have p0 := h.p0
  have lt : ∀ z, (z - a) % p < p := fun z => Nat.mod_lt _ p0
  by_cases hx : a ≤ x
  · refine ⟨hx, ?_⟩
    have e1 := ((h.mod hx).symm.trans e).trans (h.mod (k := y) (by omega))
    have ly := lt y
    have lx := lt x
    have key : (x - a) % p = (y - a) % p := by
      rcases Nat.lt_trichotomy ((x - a) % p) ((y - a) % p) with z | z | z
      · exact absurd e1 (h.dis _ _ (by omega) (by omega))
      · exact z
      · exact absurd e1.symm (h.dis _ _ (by omega) (by omega))
    have := Nat.sub_mod_eq_zero_of_mod_eq (m := y - a) (n := x - a) (k := p) key.symm
    rwa [show y - a - (x - a) = y - x by omega] at this
  · exfalso
    by_cases hy : a ≤ y
    · exact h.dis x (a + (y - a) % p) (by omega) (by have := lt y; omega) (e.trans (h.mod hy))
    · exact h.dis x y hxy (by omega) e
theorem Idx.p60 (m0 : 0 < m) (hm : m ≤ 6) (hf : LvT m m f) {a p : Nat} (h : Idx m f a p) : p ∣ 60 := by
  obtain ⟨x, _, e⟩ := again60 m0 hm hf
  have := (h.iff (x := x) (y := x + 60) (by omega) e).2
  rw [show x + 60 - x = 60 by omega] at this
  exact Nat.dvd_of_mod_eq_zero this
theorem Idx.uniq {a p a' p' : Nat} (h : Idx m f a p) (h' : Idx m f a' p') : a = a' ∧ p = p' := by
  have h1 := h.iff (x := a') (y := a' + p') (by have := h'.p0; omega) h'.eq
  have h2 := h'.iff (x := a) (y := a + p) (by have := h.p0; omega) h.eq
  refine ⟨by omega, ?_⟩
  have e1 : p' % p = 0 := by rw [show a' + p' - a' = p' by omega] at h1; exact h1.2
  have e2 : p % p' = 0 := by rw [show a + p - a = p by omega] at h2; exact h2.2
  exact Nat.dvd_antisymm (Nat.dvd_of_mod_eq_zero e1) (Nat.dvd_of_mod_eq_zero e2)
end
end Den

set_option autoImplicit true
set_option Elab.async false
set_option linter.all false
set_option maxRecDepth 100000
set_option maxHeartbeats 2000000
namespace Den
open PySem PySem.Spec PyProof.Rows L2
/-! ### cycles that every closed walk meets -/
theorem inj_le {g : Nat → Nat} {k N : Nat} (h : ∀ p, p < k → g p < N) (inj : ∀ p q, p < q → q < k → g p ≠ g q) : k ≤ N := by
  refine Classical.byContradiction fun no => ?_
  obtain ⟨a, b, ab, bm, e⟩ := pigeon (m := N) g fun a ha => h a (by omega)
  exact inj a b ab (by omega) e
theorem least_of {p : Nat → Prop} (h : ∃ n, p n) : ∃ n, p n ∧ ∀ k, k < n → ¬ p k := by
  obtain ⟨n, hn⟩ := h
  induction n using Nat.strongRecOn with
  | ind n ih =>
    by_cases z : ∃ k, k < n ∧ p k
    · obtain ⟨k, hk, hp⟩ := z
      exact ih k hk hp
    · exact ⟨n, hn, fun k hk hp => z ⟨k, hk, hp⟩⟩
theorem most_of {p : Int → Prop} : ∀ {T : List Int}, (∃ t ∈ T, p t) → ∃ t ∈ T, p t ∧ ∀ t' ∈ T, p t' → t' ≤ t
  | [], ⟨t, h, _⟩ => by cases h
  | x :: T, ⟨t, h, ht⟩ => by
    by_cases z : ∃ t ∈ T, p t
    · obtain ⟨a, h1, h2, h3⟩ := most_of z
      by_cases c : p x ∧ a ≤ x
      · refine ⟨x, List.mem_cons_self, c.1, fun t' h' hp => ?_⟩
        rcases List.mem_cons.mp h' with rfl | h'
        · exact Int.le_refl _
        · exact Int.le_trans (h3 t' h' hp) c.2
      · refine ⟨a, List.mem_cons_of_mem _ h1, h2, fun t' h' hp => ?_⟩
        rcases List.mem_cons.mp h' with rfl | h'
        · have : ¬ a ≤ t' := fun q => c ⟨hp, q⟩
          omega
        · exact h3 t' h' hp
    · rcases List.mem_cons.mp h with rfl | h
      · refine ⟨t, List.mem_cons_self, ht, fun t' h' hp => ?_⟩
        rcases List.mem_cons.mp h' with rfl | h'
        · exact Int.le_refl _
        · exact absurd ⟨t', h', hp⟩ z
      · exact absurd ⟨t, h, ht⟩ z
/-- a closed walk inside S -/
def Cw (S : List Nat) (f : Nat → Nat → Int) (t : Int) (n : Nat) (c : Nat → Nat) : Prop := 0 < n ∧ c n = c 0 ∧ (∀ a, a ≤ n → c a ∈ S) ∧ ∀ a, a < n → t ≤ f (c a) (c (a + 1))
theorem min_edge {f : Nat → Nat → Int} {c : Nat → Nat} : ∀ n, 0 < n → ∃ a, a < n ∧ ∀ b, b < n → f (c a) (c (a + 1)) ≤ f (c b) (c (b + 1))
  | 0, h => absurd h (Nat.lt_irrefl 0)
  | 1, _ => ⟨0, by omega, fun b hb => by
    have : b = 0 := by omega
    subst this
    exact Int.le_refl _⟩
  | n + 2, _ => by
    obtain ⟨a, ha, h⟩ := min_edge (f := f) (c := c) (n + 1) (by omega)
    by_cases z : f (c a) (c (a + 1)) ≤ f (c (n + 1)) (c (n + 1 + 1))
    · refine ⟨a, by omega, fun b hb => ?_⟩
      by_cases e : b = n + 1
      · rw [e]; exact z
      · exact h b (by omega)
    · refine ⟨n + 1, by omega, fun b hb => ?_⟩
      by_cases e : b = n + 1
      · rw [e]; exact Int.le_refl _
      · have := h b (by omega)
        omega
theorem drop_len : ∀ (cs S : List Nat), cs.Nodup → (∀ x ∈ cs, x ∈ S) → (S.filter fun x => decide (x ∉ cs)).length + cs.length ≤ S.length
  | [], S, _, _ => by simpa using List.length_filter_le _ S
  | x :: r, S, nd, h => by
    have nd' := List.nodup_cons.mp nd
    have ih := drop_len r S nd'.2 fun y hy => h y (List.mem_cons_of_mem _ hy)
    have e : (S.filter fun y => decide (y ∉ x :: r)) = (S.filter fun y => decide (y ∉ r)).filter fun y => decide (y ≠ x) := by
      rw [List.filter_filter]
      congr 1
      funext y
      simp [List.mem_cons, not_or]
    have lt : ((S.filter fun y => decide (y ∉ r)).filter fun y => decide (y ≠ x)).length < (S.filter fun y => decide (y ∉ r)).length := by
      refine List.length_filter_lt_length_iff_exists.mpr ⟨x, ?_, by simp⟩
      rw [List.mem_filter]
      exact ⟨h x List.mem_cons_self, by simpa using nd'.1⟩
    rw [e, List.length_cons]
    omega
theorem cyc_set {m : Nat} {f : Nat → Nat → Int} : ∀ (k : Nat) (S : List Nat), S.length ≤ k → (∀ x ∈ S, x < m) →
    ∃ ls : List Nat, (∀ l ∈ ls, 0 < l) ∧ ls.sum ≤ S.length ∧ ∀ (t : Int) (n : Nat) (c : Nat → Nat), Cw S f t n c → ∃ p l, p ≤ n ∧ l ∈ ls ∧ Wk m f t l (c p) (c p)
  | 0, S, hk, hm => by
    refine ⟨[], fun l h => (nomatch h), Nat.zero_le _, fun t n c h => ?_⟩
    have e : S = [] := List.length_eq_zero_iff.mp (by omega)
    have := h.2.2.1 0 (Nat.zero_le _)
    rw [e] at this
    cases this
  | k + 1, S, hk, hm => by
    by_cases hS : S = []
    · refine ⟨[], fun l h => (nomatch h), Nat.zero_le _, fun t n c h => ?_⟩
      have := h.2.2.1 0 (Nat.zero_le _)
      rw [hS] at this
      cases this
    obtain ⟨s0, hs0⟩ := List.exists_mem_of_ne_nil S hS
    let T : List Int := S.flatMap fun a => S.map fun b => f a b
    have inT : ∀ a b, a ∈ S → b ∈ S → f a b ∈ T := fun a b ha hb => List.mem_flatMap.mpr ⟨a, ha, List.mem_map.mpr ⟨b, hb, rfl⟩⟩
    obtain ⟨t0, _, ⟨n0, c0, h0⟩, tmax⟩ := most_of (p := fun t => ∃ n c, Cw S f t n c) (T := T) ⟨f s0 s0, inT _ _ hs0 hs0, 1, fun _ => s0, by decide, rfl, fun _ _ => hs0, fun _ _ => Int.le_refl _⟩
    have top : ∀ t n c, Cw S f t n c → t ≤ t0 := fun t n c h => by
      obtain ⟨a, ha, hmin⟩ := min_edge (f := f) (c := c) n h.1
      have h1 := h.2.2.2 a ha
      have h2 := tmax (f (c a) (c (a + 1))) (inT _ _ (h.2.2.1 a (by omega)) (h.2.2.1 (a + 1) (by omega))) ⟨n, c, h.1, h.2.1, h.2.2.1, fun b hb => hmin b hb⟩
      omega
    obtain ⟨l, ⟨c, hc⟩, lmin⟩ := least_of (p := fun n => ∃ c, Cw S f t0 n c) ⟨n0, c0, h0⟩
    obtain ⟨l0, cl, cS, ce⟩ := hc
    have dis : ∀ a b, a < b → b < l → c a ≠ c b := fun a b ab bl e => by
      refine lmin (b - a) (by omega) ⟨fun x => c (a + x), by omega, ?_, fun x hx => cS _ (by omega), fun x hx => ce _ (by omega)⟩
      show c (a + (b - a)) = c (a + 0)
      rw [show a + (b - a) = b by omega, Nat.add_zero, e]
    let cs : List Nat := (List.range l).map c
    have nd : cs.Nodup := by
      refine List.pairwise_map.mpr (List.Pairwise.imp_of_mem (fun {a b} ha hb hab => ?_) List.nodup_range)
      have ha := List.mem_range.mp ha
      have hb := List.mem_range.mp hb
      rcases Nat.lt_trichotomy a b with z | z | z
      · exact dis a b z hb
      · exact absurd z hab
      · exact fun e => dis b a z ha e.symm
    have sub : ∀ x ∈ cs, x ∈ S := fun x hx => by
      obtain ⟨a, ha, rfl⟩ := List.mem_map.mp hx
      exact cS a (by have := List.mem_range.mp ha; omega)
    have dl := drop_len cs S nd sub
    have csl : cs.length = l := by simp [cs]
    obtain ⟨ls, lp, lsum, hls⟩ := cyc_set (m := m) (f := f) k (S.filter fun x => decide (x ∉ cs)) (by omega) fun x hx => hm x (List.mem_filter.mp hx).1
    refine ⟨l :: ls, fun x hx => ?_, ?_, fun t n d hd => ?_⟩
    · rcases List.mem_cons.mp hx with rfl | hx
      · exact l0
      · exact lp x hx
    · rw [List.sum_cons]
      omega
    · by_cases z : ∃ p, p ≤ n ∧ d p ∈ cs
      · obtain ⟨p, hp, hd2⟩ := z
        obtain ⟨a, ha, e⟩ := List.mem_map.mp hd2
        have ha := List.mem_range.mp ha
        have tt := top t n d hd
        have ok : ∀ b, b < l → c b < m ∧ t ≤ f (c b) (c (b + 1)) := fun b hb => ⟨hm _ (cS b (by omega)), by have := ce b hb; omega⟩
        have w1 : Wk m f t (l - a) (c a) (c (a + (l - a))) := Wk.of_fn (l - a) a fun b hb => ok _ (by omega)
        have w2 : Wk m f t a (c 0) (c (0 + a)) := Wk.of_fn a 0 fun b hb => ok _ (by omega)
        rw [show a + (l - a) = l by omega, cl] at w1
        rw [Nat.zero_add] at w2
        have w := w1.app (hm _ (cS 0 (by omega))) w2
        rw [show l - a + a = l by omega, e] at w
        exact ⟨p, l, hp, List.mem_cons_self, w⟩
      · obtain ⟨p, l', h1, h2, h3⟩ := hls t n d ⟨hd.1, hd.2.1, fun a ha => List.mem_filter.mpr ⟨hd.2.2.1 a ha, by
          have : d a ∉ cs := fun q => z ⟨a, ha, q⟩
          simpa using this⟩, hd.2.2.2⟩
        exact ⟨p, l', h1, List.mem_cons_of_mem _ h2, h3⟩
theorem sum_two {a b : Nat} : ∀ {ls : List Nat}, a ∈ ls → b ∈ ls → a ≠ b → a + b ≤ ls.sum
  | [], h, _, _ => by cases h
  | x :: r, ha, hb, ne => by
    have one : ∀ {a : Nat}, a ∈ r → a ≤ r.sum := fun {a} h => by
      have : ∀ {l : List Nat}, a ∈ l → a ≤ l.sum := fun {l} => by
        induction l with
        | nil => intro h; cases h
        | cons y l ih =>
          intro h
          rw [List.sum_cons]
          rcases List.mem_cons.mp h with rfl | h
          · omega
          · have := ih h
            omega
      exact this h
    rw [List.sum_cons]
    rcases List.mem_cons.mp ha with ea | ha
    · rcases List.mem_cons.mp hb with eb | hb
      · exact absurd (ea.trans eb.symm) ne
      · have := one hb
        omega
    · rcases List.mem_cons.mp hb with eb | hb
      · have := one ha
        omega
      · have := sum_two ha hb ne
        omega
theorem sum_one {a : Nat} : ∀ {ls : List Nat}, a ∈ ls → a ≤ ls.sum
  | [], h => by cases h
  | x :: r, h => by
    rw [List.sum_cons]
    rcases List.mem_cons.mp h with rfl | h
    · omega
    · have := sum_one h
      omega
theorem per_of {ls : List Nat} (h0 : ∀ l ∈ ls, 0 < l) (h : ls.sum ≤ 6) : ∃ P, 0 < P ∧ P ≤ 6 ∧ ∀ l ∈ ls, l ∣ P := by
  by_cases h5 : 5 ∈ ls
  · refine ⟨5, by omega, by omega, fun l hl => ?_⟩
    by_cases e : 5 = l
    · subst e; exact Nat.dvd_refl _
    · have := sum_two h5 hl e
      have := h0 l hl
      have : l = 1 := by omega
      subst this; decide
  by_cases h4 : 4 ∈ ls
  · refine ⟨4, by omega, by omega, fun l hl => ?_⟩
    by_cases e : 4 = l
    · subst e; exact Nat.dvd_refl _
    · have := sum_two h4 hl e
      have := h0 l hl
      have : l = 1 ∨ l = 2 := by omega
      rcases this with rfl | rfl <;> decide
  refine ⟨6, by omega, by omega, fun l hl => ?_⟩
  have a := sum_one hl
  have b := h0 l hl
  have c : l ≠ 5 := fun e => h5 (e ▸ hl)
  have d : l ≠ 4 := fun e => h4 (e ▸ hl)
  have : l = 1 ∨ l = 2 ∨ l = 3 ∨ l = 6 := by omega
  rcases this with rfl | rfl | rfl | rfl <;> decide
/-- P is a period: every closed walk meets a closed walk, on its level, whose length divides P -/
def Per (m : Nat) (f : Nat → Nat → Int) (P : Nat) : Prop := 0 < P ∧ P ≤ 6 ∧ ∀ (t : Int) (v n : Nat), v < m → 0 < n → Wk m f t n v v → ∃ u l a b, u < m ∧ 0 < l ∧ l ∣ P ∧ Wk m f t l u u ∧ a + b = n ∧ Wk m f t a v u ∧ Wk m f t b u v
theorem per_ex {m : Nat} (hm : m ≤ 6) (f : Nat → Nat → Int) : ∃ P, Per m f P := by
  obtain ⟨ls, h1, h2, h3⟩ := cyc_set (m := m) (f := f) m (List.range m) (by simp) fun x hx => List.mem_range.mp hx
  rw [List.length_range] at h2
  obtain ⟨P, p0, p6, hP⟩ := per_of h1 (by omega)
  refine ⟨P, p0, p6, fun t v n hv hn w => ?_⟩
  obtain ⟨d, d0, dn, dm, de⟩ := w.fn hv hv
  obtain ⟨p, l, hp, hl, wl⟩ := h3 t n d ⟨hn, by rw [dn, d0], fun a ha => List.mem_range.mpr (dm a ha), de⟩
  have wa : Wk m f t p (d 0) (d (0 + p)) := Wk.of_fn p 0 fun b hb => ⟨dm _ (by omega), de _ (by omega)⟩
  have wb : Wk m f t (n - p) (d p) (d (p + (n - p))) := Wk.of_fn (n - p) p fun b hb => ⟨dm _ (by omega), de _ (by omega)⟩
  rw [Nat.zero_add, d0] at wa
  rw [show p + (n - p) = n by omega, dn] at wb
  exact ⟨d p, l, p, n - p, dm p hp, h1 l hl, hP l hl, wl, by omega, wa, wb⟩
theorem Per.up {m : Nat} {f : Nat → Nat → Int} {P : Nat} (h : Per m f P) {t : Int} {n i j : Nat} (hi : i < m) (hj : j < m) (hn : m ≤ n) (w : Wk m f t n i j) : Wk m f t (n + P) i j := by
  obtain ⟨a, c, b, k, hk, e, c0, _, w1, w2, w3⟩ := w.round hi hj hn
  obtain ⟨u, l, x, y, hu, l0, ⟨q, hq⟩, wl, xy, wx, wy⟩ := h.2.2 t k c hk c0 w2
  have z := (((w1.app hk wx).app hu (wl.rep hu q)).app hu wy).app hk w3
  rwa [show a + x + l * q + y + b = n + P by omega] at z

/-! ### walks that may be shortened -/
section
variable {m : Nat} {f : Nat → Nat → Int} {t : Int}
/-- a walk from i to j of x + y steps by way of u, which l steps lead back to -/
structure By (m : Nat) (f : Nat → Nat → Int) (t : Int) (i j l N M : Nat) : Prop where
  ex : ∃ u x y, u < m ∧ x + y = M ∧ Wk m f t x i u ∧ Wk m f t y u j ∧ Wk m f t l u u
  md : M % l = N % l
theorem code_ne {a b r s l : Nat} (hr : r < l) (hs : s < l) (h : a * l + r = b * l + s) : a = b ∧ r = s := by
  have e1 : (a * l + r) % l = r := by rw [Nat.mul_comm, Nat.mul_add_mod, Nat.mod_eq_of_lt hr]
  have e2 : (b * l + s) % l = s := by rw [Nat.mul_comm, Nat.mul_add_mod, Nat.mod_eq_of_lt hs]
  have e : r = s := by rw [← e1, h, e2]
  subst e
  have : a * l = b * l := by omega
  exact ⟨Nat.eq_of_mul_eq_mul_right (by omega) this, rfl⟩
theorem short_by (hm : m ≤ 6) {i j l N M : Nat} (hi : i < m) (hj : j < m) (l0 : 0 < l) (l6 : l ≤ 6) (hM : By m f t i j l N M) (least : ∀ M', M' < M → ¬ By m f t i j l N M') (low : ∀ u' u x y a b l', u' < m → u < m → x + y = M → 0 < l' → l' < l → Wk m f t l' u' u' → Wk m f t l u u → (a + b = x ∧ Wk m f t a i u ∧ Wk m f t b u u' ∧ Wk m f t y u' j) ∨ (a + b = y ∧ Wk m f t x i u' ∧ Wk m f t a u' u ∧ Wk m f t b u j) → False) (big : 26 + l ≤ M) : False := by
  obtain ⟨⟨u, s, y, hu, rfl, w1, w2, wl⟩, md⟩ := hM
  obtain ⟨v1, a0, a1, am, ae⟩ := w1.fn hi hu
  obtain ⟨v2, b0, b1, bm, be⟩ := w2.fn hu hj
  -- one walk
  obtain ⟨v, v0, vs, ve, vm, vt⟩ : ∃ v : Nat → Nat, v 0 = i ∧ v s = u ∧ v (s + y) = j ∧ (∀ a, a ≤ s + y → v a < m) ∧ ∀ a, a < s + y → t ≤ f (v a) (v (a + 1)) := by
    refine ⟨fun a => if a ≤ s then v1 a else v2 (a - s), by simp [a0], by simp [a1], ?_, fun a ha => ?_, fun a ha => ?_⟩
    · dsimp only
      by_cases z : y = 0
      · subst z
        rw [if_pos (by omega)]
        have : v2 0 = j := b1
        rw [Nat.add_zero, a1, ← b0, this]
      · rw [if_neg (by omega), show s + y - s = y by omega, b1]
    · dsimp only
      split
      · exact am a (by omega)
      · exact bm _ (by omega)
    · dsimp only
      by_cases z : a + 1 ≤ s
      · rw [if_pos (by omega), if_pos z]
        exact ae a (by omega)
      · by_cases z2 : a = s
        · subst z2
          rw [if_pos (Nat.le_refl _), if_neg (by omega), a1, show a + 1 - a = 0 + 1 by omega, ← b0]
          exact be 0 (by omega)
        · rw [if_neg (by omega), if_neg (by omega), show a + 1 - s = (a - s) + 1 by omega]
          exact be (a - s) (by omega)
  have seg : ∀ p q, p ≤ q → q ≤ s + y → Wk m f t (q - p) (v p) (v q) := fun p q h1 h2 => by
    have := Wk.of_fn (m := m) (f := f) (t := t) (v := v) (q - p) p fun b hb => ⟨vm _ (by omega), vt _ (by omega)⟩
    rwa [show p + (q - p) = q by omega] at this
  have pre : ∀ p, p ≤ s + y → Wk m f t p i (v p) := fun p h => by
    have := seg 0 p (Nat.zero_le _) h
    rwa [v0, Nat.sub_zero] at this
  have post : ∀ p, p ≤ s + y → Wk m f t (s + y - p) (v p) j := fun p h => by
    have := seg p (s + y) h (Nat.le_refl _)
    rwa [ve] at this
  -- no short rounds
  have noS : ∀ p, p ≤ s + y → ∀ l', 0 < l' → l' < l → ¬ Wk m f t l' (v p) (v p) := fun p hp l' h1 h2 w => by
    have gs : Wk m f t l (v s) (v s) := by rw [vs]; exact wl
    by_cases z : p ≤ s
    · exact low (v p) (v s) p (s + y - p) (s - p) y l' (vm p hp) (vm s (by omega)) (by omega) h1 h2 w gs (.inr ⟨by omega, pre p hp, seg p s z (by omega), by have := post s (by omega); rwa [show s + y - s = y by omega] at this⟩)
    · exact low (v p) (v s) p (s + y - p) s (p - s) l' (vm p hp) (vm s (by omega)) (by omega) h1 h2 w gs (.inl ⟨by omega, pre s (by omega), seg s p (by omega) hp, post p hp⟩)
  -- the same state twice: all good places lie between
  have cut : ∀ p q, p < q → q ≤ s + y → v p = v q → p % l = q % l → ∀ a, a ≤ s + y → Wk m f t l (v a) (v a) → p < a ∧ a < q := fun p q pq hq e er a ha wa => by
    refine Classical.byContradiction fun no => ?_
    refine least (s + y - (q - p)) (by omega) ⟨?_, ?_⟩
    · by_cases z : a ≤ p
      · refine ⟨v a, a, (p - a) + (s + y - q), vm a ha, by omega, pre a ha, ?_, wa⟩
        have := (seg a p z (by omega)).app (vm p (by omega)) (by rw [e]; exact post q hq)
        exact this
      · refine ⟨v a, p + (a - q), s + y - a, vm a ha, by omega, ?_, post a ha, wa⟩
        have : Wk m f t (a - q) (v p) (v a) := by rw [e]; exact seg q a (by omega) ha
        exact (pre p (by omega)).app (vm p (by omega)) this
    · rw [← md]
      have : (q - p) % l = 0 := Nat.sub_mod_eq_zero_of_mod_eq er.symm
      obtain ⟨k, hk⟩ := Nat.dvd_of_mod_eq_zero this
      have e2 : s + y = (s + y - (q - p)) + l * k := by omega
      rw [e2, Nat.add_mul_mod_self_left]
      congr 1
      omega
  have gs : Wk m f t l (v s) (v s) := by rw [vs]; exact wl
  -- six
  by_cases l6' : l = 6
  · obtain ⟨p, q, pq, q6, e⟩ := pigeon (m := m) v fun a ha => vm a (by omega)
    have c := seg p q (by omega) (by omega)
    rw [← e] at c
    have : ¬ q - p < l := fun z => noS p (by omega) (q - p) (by omega) z c
    have ep : p = 0 := by omega
    have eq : q = 6 := by omega
    subst ep eq
    rw [l6'] at cut
    have := cut 0 6 pq (by omega) e (by decide) 0 (Nat.zero_le _) c
    omega
  -- the first good place
  obtain ⟨g, ⟨hg, wg⟩, gfst⟩ := least_of (p := fun a => a ≤ s + y ∧ Wk m f t l (v a) (v a)) ⟨s, by omega, gs⟩
  have lt : ∀ p, p % l < l := fun p => Nat.mod_lt _ l0
  have cd : ∀ p, p ≤ s + y → v p * l + p % l < 6 * l := fun p hp => by
    have h1 := vm p hp
    have h2 := lt p
    have h3 : v p * l ≤ 5 * l := Nat.mul_le_mul (by omega) (Nat.le_refl l)
    omega
  have c1 : s + y + 1 - g ≤ 6 * l := by
    refine inj_le (g := fun p => v (g + p) * l + (g + p) % l) (fun p hp => cd _ (by omega)) fun p q pq hq e => ?_
    obtain ⟨e1, e2⟩ := code_ne (lt _) (lt _) e
    have := cut (g + p) (g + q) (by omega) (by omega) e1 e2 g hg wg
    omega
  have c2 : g ≤ 6 * l := by
    refine inj_le (g := fun p => v p * l + p % l) (fun p hp => cd _ (by omega)) fun p q pq hq e => ?_
    obtain ⟨e1, e2⟩ := code_ne (lt _) (lt _) e
    have := cut p q (by omega) (by omega) e1 e2 g hg wg
    omega
  by_cases l3 : l < 3
  · have : l = 1 ∨ l = 2 := by omega
    rcases this with rfl | rfl <;> omega
  -- the good places of the round
  have c3 : g ≤ 6 - l := by
    refine Classical.byContradiction fun no => ?_
    obtain ⟨w, w0, wn, wm, we⟩ := wl.fn hu hu
    have rnd : ∀ a, a ≤ l → Wk m f t a u (w a) ∧ Wk m f t (l - a) (w a) u := fun a ha => by
      have h1 : Wk m f t a (w 0) (w (0 + a)) := Wk.of_fn a 0 fun b hb => ⟨wm _ (by omega), we _ (by omega)⟩
      have h2 : Wk m f t (l - a) (w a) (w (a + (l - a))) := Wk.of_fn (l - a) a fun b hb => ⟨wm _ (by omega), we _ (by omega)⟩
      rw [Nat.zero_add, w0] at h1
      rw [show a + (l - a) = l by omega, wn] at h2
      exact ⟨h1, h2⟩
    have wgood : ∀ a, a < l → Wk m f t l (w a) (w a) := fun a ha => by
      have := (rnd a (by omega)).2.app hu (rnd a (by omega)).1
      rwa [show l - a + a = l by omega] at this
    have h7 := inj_le (g := fun p => if p < l then w p else v (p - l)) (k := 7) (N := 6) (fun p hp => by
      show (if p < l then w p else v (p - l)) < 6
      split
      · exact Nat.lt_of_lt_of_le (wm p (by omega)) hm
      · exact Nat.lt_of_lt_of_le (vm _ (by omega)) hm) fun p q pq hq e => by
      replace e : (if p < l then w p else v (p - l)) = (if q < l then w q else v (q - l)) := e
      by_cases z : p < l
      · rw [if_pos z] at e
        by_cases z2 : q < l
        · rw [if_pos z2] at e
          have h1 : Wk m f t (q - p) (w p) (w (p + (q - p))) := Wk.of_fn (q - p) p fun b hb => ⟨wm _ (by omega), we _ (by omega)⟩
          rw [show p + (q - p) = q by omega, ← e] at h1
          -- a short round at w p: bring it to u
          have r1 := rnd p (by omega)
          have r2 := rnd q (by omega)
          rw [← e] at r2
          have sh := r1.1.app (wm p (by omega)) r2.2
          have : v s = u := vs
          exact noS s (by omega) (p + (l - q)) (by omega) (by omega) (by rw [vs]; exact sh)
        · rw [if_neg z2] at e
          have := gfst (q - l) (by omega)
          exact this ⟨by omega, by rw [← e]; exact wgood p z⟩
      · rw [if_neg z, if_neg (by omega)] at e
        have c := seg (p - l) (q - l) (by omega) (by omega)
        rw [← e] at c
        by_cases z3 : q - l - (p - l) = l
        · rw [z3] at c
          exact gfst (p - l) (by omega) ⟨by omega, c⟩
        · exact noS (p - l) (by omega) _ (by omega) (by omega) c
    omega
  have : l = 3 ∨ l = 4 ∨ l = 5 := by omega
  rcases this with rfl | rfl | rfl <;> omega
theorem Per.down {P : Nat} (hm : m ≤ 6) (hP : Per m f P) {N i j : Nat} (hi : i < m) (hj : j < m) (hN : 26 ≤ N) (w : Wk m f t (N + P) i j) : Wk m f t N i j := by
  refine Classical.byContradiction fun no => ?_
  obtain ⟨a, c, b, k, hk, e, c0, _, w1, w2, w3⟩ := w.round hi hj (by omega)
  obtain ⟨u, l0, x, y, hu, lp, ⟨q, hq⟩, wl, xy, wx, wy⟩ := hP.2.2 t k c hk c0 w2
  have l06 : l0 ≤ 6 := Nat.le_trans (Nat.le_of_dvd hP.1 ⟨q, hq⟩) hP.2.1
  have start : ∃ l, 0 < l ∧ ∃ M, By m f t i j l N M := ⟨l0, lp, N + P, ⟨u, a + x, y + b, hu, by omega, w1.app hk wx, wy.app hk w3, wl⟩, by rw [hq, Nat.add_mul_mod_self_left]⟩
  obtain ⟨l, ⟨l1, M0, hM0⟩, lmin⟩ := least_of (p := fun l => 0 < l ∧ ∃ M, By m f t i j l N M) start
  have l6 : l ≤ 6 := Nat.le_trans (Nat.le_of_not_lt fun z => lmin l0 z ⟨lp, N + P, ⟨u, a + x, y + b, hu, by omega, w1.app hk wx, wy.app hk w3, wl⟩, by rw [hq, Nat.add_mul_mod_self_left]⟩) l06
  obtain ⟨M, hM, Mmin⟩ := least_of (p := fun M => By m f t i j l N M) ⟨M0, hM0⟩
  -- not at most N
  have gt : N < M := by
    refine Nat.lt_of_not_le fun z => no ?_
    obtain ⟨⟨u, x, y, hu, e, wx, wy, wl⟩, md⟩ := hM
    have : (N - M) % l = 0 := Nat.sub_mod_eq_zero_of_mod_eq md.symm
    obtain ⟨q, hq⟩ := Nat.dvd_of_mod_eq_zero this
    have := (wx.app hu (wl.rep hu q)).app hu wy
    rwa [show x + l * q + y = N by omega] at this
  have : (M - N) % l = 0 := Nat.sub_mod_eq_zero_of_mod_eq hM.md
  obtain ⟨q, hq⟩ := Nat.dvd_of_mod_eq_zero this
  have q0 : 0 < q := Nat.pos_of_ne_zero fun z => by subst z; omega
  have lq : l ≤ l * q := Nat.le_mul_of_pos_right l q0
  refine short_by hm hi hj l1 l6 hM Mmin (fun u' u x y a b l' hu' hu exy h1 h2 wl' wl hw => ?_) (by omega)
  -- a shorter round would do
  have md : (M + l * ((l' - 1) * q)) % l' = N % l' := by
    have e1 : M = N + l * q := by omega
    have e2 : M + l * ((l' - 1) * q) = N + l' * (l * q) := by
      obtain ⟨k, rfl⟩ : ∃ k, l' = k + 1 := ⟨l' - 1, by omega⟩
      rw [e1, Nat.add_sub_cancel, Nat.succ_mul, Nat.mul_left_comm l k q]
      omega
    rw [e2, Nat.add_mul_mod_self_left]
  have wq := wl.rep hu ((l' - 1) * q)
  refine lmin l' h2 ⟨h1, M + l * ((l' - 1) * q), ?_, md⟩
  rcases hw with ⟨e, w1, w2, w3⟩ | ⟨e, w1, w2, w3⟩
  · exact ⟨u', a + l * ((l' - 1) * q) + b, y, hu', by omega, (w1.app hu wq).app hu w2, w3, wl'⟩
  · exact ⟨u', x, a + l * ((l' - 1) * q) + b, hu', by omega, w1, (w2.app hu wq).app hu w3, wl'⟩
end
/-! ### index at most 26, period at most 6 -/
theorem Idx.bounds {m : Nat} {f : Nat → Nat → Int} (m0 : 0 < m) (hm : m ≤ 6) (hf : LvT m m f) {a p : Nat} (h : Idx m f a p) : a ≤ 26 ∧ p ≤ 6 := by
  obtain ⟨P, hP⟩ := per_ex hm f
  have e : Eqn m (pwN m f 26) (pwN m f (26 + P)) := fun i j hi hj => by
    have b1 := LvT_pwN m0 hf 26 i j hi hj
    have b2 := LvT_pwN m0 hf (26 + P) i j hi hj
    have le1 : pwN m f 26 i j ≤ pwN m f (26 + P) i j := by
      by_cases c : 0 < pwN m f 26 i j
      · exact (le_pwN c b1.2 m0).mpr (hP.up hi hj (by omega) ((le_pwN c b1.2 m0).mp (Int.le_refl _)))
      · omega
    have le2 : pwN m f (26 + P) i j ≤ pwN m f 26 i j := by
      by_cases c : 0 < pwN m f (26 + P) i j
      · exact (le_pwN c b2.2 m0).mpr (hP.down hm hi hj (by omega) ((le_pwN c b2.2 m0).mp (Int.le_refl _)))
      · omega
    omega
  have P0 := hP.1
  obtain ⟨h1, h2⟩ := h.iff (x := 26) (y := 26 + P) (by omega) e
  rw [show 26 + P - 26 = P by omega] at h2
  exact ⟨h1, Nat.le_trans (Nat.le_of_dvd P0 (Nat.dvd_of_mod_eq_zero h2)) hP.2.1⟩
end Den

set_option autoImplicit true
set_option Elab.async false
set_option linter.all false
set_option maxRecDepth 100000
set_option maxHeartbeats 2000000
namespace Den
open PySem PySem.Spec PyProof.Rows L2
/-! ### an owned list read, what comes out is no list -/
mutual
def tupD : D → Bool
  | .non => true
  | .bl _ => true
  | .int _ => true
  | .str _ => true
  | .tup ds => tupDs ds
  | _ => false
def tupDs : List D → Bool
  | [] => true
  | d :: ds => tupD d && tupDs ds
end
theorem tupDs_iff : ∀ {ds : List D}, tupDs ds = true ↔ ∀ d ∈ ds, tupD d = true
  | [] => by simp [tupDs]
  | d :: ds => by simp [tupDs, tupDs_iff (ds := ds)]
theorem tupD_Rw (m : Nat) (f : Nat → Int) : tupD (Rw m f) = true := tupDs_iff.mpr fun d hd => by
  obtain ⟨j, _, rfl⟩ := List.mem_map.mp hd
  rfl
mutual
theorem Rep.lift {K : PySem.W.Frag} {H : Hp} {P P' : Addr → Prop} {k : KA} (hx : ∀ a, P a → P' a ∨ ∃ xs, H a = some (.lst xs)) : ∀ (d : D) (v : V), tupD d = true → Rep K H P' k d v → Rep K H P k d v
  | .non, _, _, h => by cases h; exact .non
  | .bl b, _, _, h => by cases h; exact .bl b
  | .int i, _, _, h => by cases h; exact .int i
  | .str x, _, _, h => by cases h; exact .str x
  | .tup ds, _, t, h => by
    cases h with
    | tup h1 h2 =>
      refine .tup ?_ (RepL.lift hx ds _ t h2)
      rcases h1 with ⟨r, np⟩ | r
      · refine .inl ⟨r, fun z => ?_⟩
        rcases hx _ z with z | ⟨xs, z⟩
        · exact np z
        · rcases r with r | ⟨o, r⟩
          · rw [r] at z; cases z
          · rw [r] at z; cases z
      · exact .inr r
  | .lst _, _, t, _ => by cases t
  | .emp, _, t, _ => by cases t
  | .dk, _, t, _ => by cases t
  | .exc _ _ _, _, t, _ => by cases t
theorem RepL.lift {K : PySem.W.Frag} {H : Hp} {P P' : Addr → Prop} {k : KA} (hx : ∀ a, P a → P' a ∨ ∃ xs, H a = some (.lst xs)) : ∀ (ds : List D) (vs : List V), tupDs ds = true → RepL K H P' k ds vs → RepL K H P k ds vs
  | [], _, _, h => by cases h; exact .nil
  | d :: ds, _, t, h => by
    have t : tupD d = true ∧ tupDs ds = true := by simpa [tupDs] using t
    cases h with
    | cons h1 h2 => exact .cons (Rep.lift hx d _ t.1 h1) (RepL.lift hx ds _ t.2 h2)
end
def eBorP (i : Nat) (φ : Env' → M D) : Env' → M D := fun env n Q E => φ (frz i env) n (fun d n' => tupD d = true ∧ Q d n') (fun _ _ => False)
theorem dE_borP {X : Cx} {W : WY} {e : Expr} {φa : Env' → M D} (i : Nat) (h : DE X W e φa) : DE X W e (eBorP i φa) := by
  refine PE.imp h fun σ H Q ⟨g, n, env, Qd, Ed, R0, p, q, r⟩ => ?_
  obtain ⟨R1, o⟩ := R0.frz i
  refine ⟨g, n, frz i env, _, _, R1, p, fun d n' v H' hd hr hf hk => q d n' v H' hd.2 ?_ hf hk, fun _ _ _ _ _ z _ _ _ => z.elim⟩
  refine Rep.lift (fun a z => ?_) d v hd.1 hr
  rcases z with z | ⟨j, ds, h1, h2⟩
  · exact .inl (.inl z)
  · by_cases e : j = i
    · subst e
      obtain ⟨b, xs, q1, q2, q3, _⟩ := R0.own j ds h1
      rw [h2] at q1
      cases q1
      exact .inr ⟨xs, hf _ _ q2 fun z => q3 (R0.kp _ z)⟩
    · refine .inl (.inr ⟨j, ds, ?_, h2⟩)
      unfold frz
      split
      · rw [List.getElem?_set_ne fun z => e z.symm]
        exact h1
      · exact h1
instance (i : Nat) (a : Env' → M D) [x : MoE a] : MoE (eBorP i a) := ⟨fun e f h n Q Q' E E' hq _ q => x.le _ _ (h.frz i) n _ _ _ _ (fun d k z => ⟨z.1, hq _ _ z.2⟩) (fun _ _ z => z) q⟩
theorem eBorP_ret {i : Nat} {a : Env' → M D} {env : Env'} {d : D} (h : a (frz i env) = ret d) (t : tupD d = true) : eBorP i a env = ret d := by
  funext n Q E
  simp only [eBorP, h]
  exact propext ⟨fun z => z.2, fun z => ⟨t, z⟩⟩
/-! ### drawn rows of ints, drawn rows -/
theorem Gv.intsD {it : Env' → M (List D)} {t : Tg} {elt : Env' → M D} {vs : List Nat} {env : Env'} {enc : Nat → D} {m c : Nat} (B : Int) (hi : it env = Den.ret ((List.range m).map enc)) (hl : m ≤ 1000000) (hw : okW env vs = true)
    (h : ∀ j, j < m → ∃ e1, asg t (enc j) (wipeE env vs) = some e1 ∧ Gv (elt e1) c (fun d => ∃ x : Int, d = .int x ∧ 0 ≤ x ∧ x ≤ B)) : Gv (eLcL it t cYes elt vs env) (m * c) (fun ys => ∃ g, ys = (List.range m).map (fun j => D.int (g j)) ∧ LvB B m g) :=
  (Gv.lc (fun _ d => ∃ x : Int, d = .int x ∧ 0 ≤ x ∧ x ≤ B) hi hl hw h).mono (Nat.le_refl _) fun ys ⟨F, e, hF⟩ => by
    obtain ⟨g, e2, hg⟩ := ints_of (p := fun _ x => 0 ≤ x ∧ x ≤ B) hF
    exact ⟨g, e.trans e2, hg⟩
theorem Gv.rowsD {it : Env' → M (List D)} {t : Tg} {elt : Env' → M D} {vs : List Nat} {env : Env'} {enc : Nat → D} {n m c : Nat} (B : Int) (hi : it env = Den.ret ((List.range n).map enc)) (hl : n ≤ 1000000) (hw : okW env vs = true)
    (h : ∀ i, i < n → ∃ e1, asg t (enc i) (wipeE env vs) = some e1 ∧ Gv (elt e1) c (fun d => ∃ g, d = Rw m g ∧ LvB B m g)) : Gv (eLcL it t cYes elt vs env) (n * c) (fun ys => ∃ g, ys = (List.range n).map (fun i => Rw m (g i)) ∧ LvTB B n m g) :=
  (Gv.lc (fun _ d => ∃ g, d = Rw m g ∧ LvB B m g) hi hl hw h).mono (Nat.le_refl _) fun ys ⟨F, e, hF⟩ => by
    obtain ⟨g, e2, hg⟩ := rows_of (m := m) (p := fun _ g => LvB B m g) hF
    exact ⟨g, e.trans e2, fun i j hi hj => hg i hi j hj⟩
/-- a table, each width kept just if a draw is 0 -/
theorem g_thin {m : Nat} {k : Int} (k0 : 0 < k) (k1 : k ≤ 2 ^ 64) (hm : m ≤ 6) {f : Nat → Nat → Int} (lf : LvT m m f) {it it2 : Env' → M (List D)} {t t2 : Tg} {vs vs2 : List Nat} {env : Env'} {w : Nat}
    {dv : Env' → M D} (hi : it env = Den.ret ((List.range m).map fun i => Rw m (f i))) (hw : okW env vs = true)
    (h : ∀ i, i < m → ∃ e1, asg t (Rw m (f i)) (wipeE env vs) = some e1 ∧ it2 e1 = Den.ret ((List.range m).map fun j => D.int (f i j)) ∧ okW e1 vs2 = true ∧ ∀ j, j < m → ∃ e3, asg t2 (.int (f i j)) (wipeE e1 vs2) = some e3 ∧ e3[w]? = some (.sh (.int (f i j))) ∧ dv e3 = Den.ret .dk) :
    Gv (eLcL it t cYes (eCallB oTuple (aCons (toLst (eLcL it2 t2 cYes (eOp oMul (eVar w) (eCallB oInt (aCons (eOp oEq (eCall 2 drawF (aCons dv (aCons (eC (.int k)) aNil))) (eC (.int 0))) aNil))) vs2)) aNil)) vs env) (m * 6) (fun ys => ∃ g, ys = (List.range m).map (fun i => Rw m (g i)) ∧ LvT m m g) := by
  refine (Gv.rowsD (c := 6) (n := m) (m := m) (enc := fun i => Rw m (f i)) 1000000000000 hi (by omega) hw fun i hi => ?_).mono (Nat.le_refl _) fun ys ⟨g, e, hg⟩ => ⟨g, e, hg.top (by decide)⟩
  obtain ⟨e1, h1, h2, h3, h4⟩ := h i hi
  refine ⟨e1, h1, ?_⟩
  have oi : ∀ b : Bool, oInt [.bl b] = some (.int (if b then 1 else 0)) := fun b => id rfl
  simp [-eLcL_e]
  refine Gv.bn 0 (c := 6) ((Gv.intsD (c := 1) (m := m) (enc := fun j => .int (f i j)) 1000000000000 h2 (by omega) h3 fun j hj => ?_).mono (by omega) fun _ z => z) ?_
  · obtain ⟨e3, h5, h6, h7⟩ := h4 j hj
    refine ⟨e3, h5, ?_⟩
    simp [eVar, h6, h7]
    refine Gv.bn 0 (Gv.next k0 k1) ?_
    rintro _ ⟨z, rfl, z0, z1⟩
    have w := lf i j hi hj
    simp [oi]
    by_cases hz : z = 0
    · have o1 : oMul (.int (f i j)) (.int 1) = some (.int (f i j)) := by
        simp only [oMul]
        rw [if_pos (.inl (.inr (by decide)))]
        simp
      simp [hz, o1]
      exact Gv.ret ⟨_, rfl, w.1, w.2⟩
    · have o0 : oMul (.int (f i j)) (.int 0) = some (.int 0) := by
        simp only [oMul]
        rw [if_pos (.inl (.inr (by decide)))]
        simp
      simp [hz, o0]
      exact Gv.ret ⟨_, rfl, by omega, by omega⟩
  · rintro _ ⟨h, rfl, hh⟩
    simp [mk_Rw]
    exact Gv.ret ⟨h, rfl, hh⟩
/-- a list of rows that are lists -/
def LL (n m : Nat) (f : Nat → Nat → Int) : D := .lst ((List.range n).map fun i => .lst ((List.range m).map fun j => .int (f i j)))
end Den

set_option autoImplicit true
set_option synthInstance.maxSize 100000
set_option synthInstance.maxHeartbeats 2000000
set_option Elab.async false
set_option linter.all false
set_option maxRecDepth 100000
set_option maxHeartbeats 4000000
namespace W45
open PySem PySem.Spec PyProof.Rows L2 Den
/-! ### what each def does with data -/
def b_is_integer_in : Env' → MS := (sRet (eAnd (eUn (oIsi .int) (eVar 0)) (eAnd (eNot (eUn (oIsi .bool) (eVar 0))) (eChain oLe oLe (eVar 1) (eVar 0) (eVar 2)))))
def f_is_integer_in : List D → M D := fnD 3 b_is_integer_in
instance : MoS b_is_integer_in := by unfold b_is_integer_in; infer_instance
instance : MoF f_is_integer_in := inferInstanceAs (MoF (fnD 3 b_is_integer_in))
def b_inlets_of : Env' → MS := (sRet (eCallB oLen (aCons (eOp oIx (eVar 0) (eC (.int 0))) aNil)))
def f_inlets_of : List D → M D := fnD 1 b_inlets_of
instance : MoS b_inlets_of := by unfold b_inlets_of; infer_instance
instance : MoF f_inlets_of := inferInstanceAs (MoF (fnD 1 b_inlets_of))
def b_row_level : Env' → MS := (sRet (eCallB oMax1 (aCons (toLst (eLcL (iAs zip2 (aCons (eVar 0) (aCons (eVar 1) aNil))) (.tp [(.nm 2), (.nm 3)]) cYes (eCallB oMin2 (aCons (eVar 2) (aCons (eVar 3) aNil))) [2, 3])) aNil)))
def f_row_level : List D → M D := fnD 4 b_row_level
instance : MoS b_row_level := by unfold b_row_level; infer_instance
instance : MoF f_row_level := inferInstanceAs (MoF (fnD 4 b_row_level))
def b_turned : Env' → MS := (sRet (eCallB oTuple (aCons (toLst (eLcL (iAs rng1 (aCons (eCall 1 f_inlets_of (aCons (eVar 0) aNil)) aNil)) (.nm 2) cYes (eCallB oTuple (aCons (toLst (eLcL (iEl (eVar 0)) (.nm 1) cYes (eOp oIx (eVar 1) (eVar 2)) [1])) aNil)) [2])) aNil)))
def f_turned : List D → M D := fnD 3 b_turned
instance : MoS b_turned := by unfold b_turned; infer_instance
instance : MoF f_turned := inferInstanceAs (MoF (fnD 3 b_turned))
def b_multiply : Env' → MS := (sSeq (sAsg (eCall 1 f_turned (aCons (eVar 1) aNil)) (.nm 2)) (sRet (eCallB oTuple (aCons (toLst (eLcL (iEl (eVar 0)) (.nm 4) cYes (eCallB oTuple (aCons (toLst (eLcL (iEl (eVar 2)) (.nm 3) cYes (eCall 2 f_row_level (aCons (eVar 4) (aCons (eVar 3) aNil))) [3])) aNil)) [4])) aNil))))
def f_multiply : List D → M D := fnD 5 b_multiply
instance : MoS b_multiply := by unfold b_multiply; infer_instance
instance : MoF f_multiply := inferInstanceAs (MoF (fnD 5 b_multiply))
def b_product : Env' → MS := (sSeq (sIf (eB (eOp oNe (eCall 1 f_inlets_of (aCons (eVar 0) aNil)) (eCallB oLen (aCons (eVar 1) aNil)))) sNever sNext) (sRet (eCall 2 f_multiply (aCons (eVar 0) (aCons (eVar 1) aNil)))))
def f_product : List D → M D := fnD 2 b_product
instance : MoS b_product := by unfold b_product; infer_instance
instance : MoF f_product := inferInstanceAs (MoF (fnD 2 b_product))
def b_check_square : Env' → MS := (sIf (eB (eOp oNe (eCallB oLen (aCons (eVar 0) aNil)) (eCall 1 f_inlets_of (aCons (eVar 0) aNil)))) sNever sNext)
def f_check_square : List D → M D := fnD 1 b_check_square
instance : MoS b_check_square := by unfold b_check_square; infer_instance
instance : MoF f_check_square := inferInstanceAs (MoF (fnD 1 b_check_square))
def b_unit_table : Env' → MS := (sRet (eCallB oTuple (aCons (toLst (eLcL (iAs rng1 (aCons (eVar 0) aNil)) (.nm 2) cYes (eCallB oTuple (aCons (toLst (eLcL (iAs rng1 (aCons (eVar 0) aNil)) (.nm 1) cYes (eIf (eB (eOp oEq (eVar 2) (eVar 1))) (eC (.int 1000000000000)) (eC (.int 0))) [1])) aNil)) [2])) aNil)))
def f_unit_table : List D → M D := fnD 3 b_unit_table
instance : MoS b_unit_table := by unfold b_unit_table; infer_instance
instance : MoF f_unit_table := inferInstanceAs (MoF (fnD 3 b_unit_table))
def b_power : Env' → MS := (sSeq (sExpr (eCall 1 f_check_square (aCons (eVar 0) aNil))) (sSeq (sIf (eNotT (eB (eCall 3 f_is_integer_in (aCons (eVar 1) (aCons (eC (.int 0)) (aCons (eC (.int 1000000000000000000)) aNil)))))) sNever sNext) (sSeq (sPar 2 3 (aCons (eCall 1 f_unit_table (aCons (eCallB oLen (aCons (eVar 0) aNil)) aNil)) (aCons (eVar 0) aNil))) (sSeq (sWhile (eB (eOp oGt (eVar 1) (eC (.int 0)))) (sSeq (sIf (eB (eOp oEq (eOp oMod (eVar 1) (eC (.int 2))) (eC (.int 1)))) (sAsg (eCall 2 f_multiply (aCons (eVar 2) (aCons (eVar 3) aNil))) (.nm 2)) sNext) (sPar 3 1 (aCons (eCall 2 f_multiply (aCons (eVar 3) (aCons (eVar 3) aNil))) (aCons (eOp oDiv (eVar 1) (eC (.int 2))) aNil))))) (sRet (eVar 2))))))
def f_power : List D → M D := fnD 4 b_power
instance : MoS b_power := by unfold b_power; infer_instance
instance : MoF f_power := inferInstanceAs (MoF (fnD 4 b_power))
def b_index_and_period : Env' → MS := (sSeq (sExpr (eCall 1 f_check_square (aCons (eVar 0) aNil))) (sSeq (sOwn 1 (fLst aNil)) (sSeq (sAsg (eCall 1 f_unit_table (aCons (eCallB oLen (aCons (eVar 0) aNil)) aNil)) (.nm 2)) (sSeq (sWhile (eBorT 1 (eB (eOp oNotIn (eVar 2) (eVar 1)))) (sSeq (sApp 1 (eVar 2)) (sAsg (eCall 2 f_multiply (aCons (eVar 2) (aCons (eVar 0) aNil))) (.nm 2)))) (sSeq (sFrz 1 (sAsg (eMt oIndex (eVar 1) (eVar 2)) (.nm 3))) (sFrz 1 (sRet (eTup (aCons (eVar 3) (aCons (eOp oSub (eCallB oLen (aCons (eVar 1) aNil)) (eVar 3)) aNil))))))))))
def f_index_and_period : List D → M D := fnD 4 b_index_and_period
instance : MoS b_index_and_period := by unfold b_index_and_period; infer_instance
instance : MoF f_index_and_period := inferInstanceAs (MoF (fnD 4 b_index_and_period))
def b_closure : Env' → MS := sSeq (sExpr (eCall 1 f_check_square (aCons (eVar 0) aNil))) sClo
def f_closure : List D → M D := fnD 8 b_closure
instance : MoS b_closure := by unfold b_closure; infer_instance
instance : MoF f_closure := inferInstanceAs (MoF (fnD 8 b_closure))
abbrev f__law_next : List D → M D := drawF
def b__law_great : Env' → MS := (sRet (eOp oIx (eLst (aCons (eC (.int 2)) (aCons (eC (.int 4)) (aCons (eC (.int 9)) (aCons (eC (.int 1000000000000)) aNil))))) (eCall 2 f__law_next (aCons (eVar 0) (aCons (eC (.int 4)) aNil)))))
def f__law_great : List D → M D := fnD 1 b__law_great
instance : MoS b__law_great := by unfold b__law_great; infer_instance
instance : MoF f__law_great := inferInstanceAs (MoF (fnD 1 b__law_great))
def b__law_level : Env' → MS := (sRet (eOp oIx (eLst (aCons (eC (.int 0)) (aCons (eVar 1) (aCons (eCall 2 f__law_next (aCons (eVar 0) (aCons (eOp oAdd (eVar 1) (eC (.int 1))) aNil))) (aCons (eCall 2 f__law_next (aCons (eVar 0) (aCons (eOp oAdd (eVar 1) (eC (.int 1))) aNil))) aNil))))) (eCall 2 f__law_next (aCons (eVar 0) (aCons (eC (.int 4)) aNil)))))
def f__law_level : List D → M D := fnD 2 b__law_level
instance : MoS b__law_level := by unfold b__law_level; infer_instance
instance : MoF f__law_level := inferInstanceAs (MoF (fnD 2 b__law_level))
def b__law_row : Env' → MS := (sRet (eCallB oTuple (aCons (toLst (eLcL (iAs rng1 (aCons (eVar 2) aNil)) (.nm 3) cYes (eCall 2 f__law_level (aCons (eVar 0) (aCons (eVar 1) aNil))) [3])) aNil)))
def f__law_row : List D → M D := fnD 4 b__law_row
instance : MoS b__law_row := by unfold b__law_row; infer_instance
instance : MoF f__law_row := inferInstanceAs (MoF (fnD 4 b__law_row))
def b__law_square : Env' → MS := (sSeq (sAsg (eOp oAdd (eC (.int 1)) (eCall 2 f__law_next (aCons (eVar 0) (aCons (eVar 2) aNil)))) (.nm 3)) (sRet (eCallB oTuple (aCons (toLst (eLcL (iAs rng1 (aCons (eVar 3) aNil)) (.nm 4) cYes (eCall 3 f__law_row (aCons (eVar 0) (aCons (eVar 1) (aCons (eVar 3) aNil)))) [4])) aNil))))
def f__law_square : List D → M D := fnD 5 b__law_square
instance : MoS b__law_square := by unfold b__law_square; infer_instance
instance : MoF f__law_square := inferInstanceAs (MoF (fnD 5 b__law_square))
def b__law_above : Env' → MS := (sRet (eCallB oTuple (aCons (toLst (eLcL (iAs zip2 (aCons (eVar 0) (aCons (eVar 1) aNil))) (.tp [(.nm 3), (.nm 4)]) cYes (eCallB oTuple (aCons (toLst (eLcL (iAs zip2 (aCons (eVar 3) (aCons (eVar 4) aNil))) (.nm 2) cYes (eCallB oMaxP (aCons (eVar 2) aNil)) [2])) aNil)) [3, 4])) aNil)))
def f__law_above : List D → M D := fnD 5 b__law_above
instance : MoS b__law_above := by unfold b__law_above; infer_instance
instance : MoF f__law_above := inferInstanceAs (MoF (fnD 5 b__law_above))
def b__law_right : Env' → MS := (sSeq (sAsg (eCall 1 f_index_and_period (aCons (eVar 1) aNil)) (.tp [(.nm 2), (.nm 3)])) (sSeq (sIf (eOrT (eNotT (eB (eChain oLe oLe (eC (.int 0)) (eVar 2) (eC (.int 26))))) (eNotT (eB (eChain oLe oLe (eC (.int 1)) (eVar 3) (eC (.int 6)))))) (sRet (eC (.bl false))) sNext) (sSeq (sAsg (eOp oAdd (eVar 2) (eCall 2 f__law_next (aCons (eVar 0) (aCons (eOp oAdd (eOp oSub (eC (.int 1000000000000000000)) (eVar 2)) (eC (.int 1))) aNil)))) (.nm 4)) (sSeq (sIf (eB (eOp oNe (eCall 2 f_power (aCons (eVar 1) (aCons (eVar 4) aNil))) (eCall 2 f_power (aCons (eVar 1) (aCons (eOp oAdd (eVar 2) (eOp oMod (eOp oSub (eVar 4) (eVar 2)) (eVar 3))) aNil))))) (sRet (eC (.bl false))) sNext) (sSeq (sPar 5 6 (aCons (eCall 2 f__law_next (aCons (eVar 0) (aCons (eC (.int 1000000000)) aNil))) (aCons (eCall 2 f__law_next (aCons (eVar 0) (aCons (eC (.int 1000000000)) aNil))) aNil))) (sSeq (sIf (eB (eOp oNe (eCall 2 f_power (aCons (eVar 1) (aCons (eOp oAdd (eVar 5) (eVar 6)) aNil))) (eCall 2 f_product (aCons (eCall 2 f_power (aCons (eVar 1) (aCons (eVar 5) aNil))) (aCons (eCall 2 f_power (aCons (eVar 1) (aCons (eVar 6) aNil))) aNil))))) (sRet (eC (.bl false))) sNext) (sSeq (sIf (eB (eOp oNe (eCall 2 f_power (aCons (eCall 2 f_power (aCons (eVar 1) (aCons (eVar 5) aNil))) (aCons (eVar 6) aNil))) (eCall 2 f_power (aCons (eVar 1) (aCons (eOp oMul (eVar 5) (eVar 6)) aNil))))) (sRet (eC (.bl false))) sNext) (sSeq (sAsg (eCallB oMin2 (aCons (eVar 5) (aCons (eC (.int 40)) aNil))) (.nm 7)) (sRet (eOp oEq (eCall 2 f_power (aCons (eCall 2 f_power (aCons (eVar 1) (aCons (eVar 7) aNil))) (aCons (eC (.int 3)) aNil))) (eCall 2 f_power (aCons (eVar 1) (aCons (eOp oMul (eC (.int 3)) (eVar 7)) aNil)))))))))))))
def f__law_right : List D → M D := fnD 8 b__law_right
instance : MoS b__law_right := by unfold b__law_right; infer_instance
instance : MoF f__law_right := inferInstanceAs (MoF (fnD 8 b__law_right))
def b__law_closure_right : Env' → MS := (sSeq (sAsg (eCall 1 f_index_and_period (aCons (eVar 0) aNil)) (.tp [(.nm 1), (.nm 2)])) (sSeq (sAsg (eCall 2 f_power (aCons (eVar 0) (aCons (eC (.int 1)) aNil))) (.nm 3)) (sSeq (sAsg (eVar 3) (.nm 4)) (sSeq (sFor (iAs rng2 (aCons (eC (.int 2)) (aCons (eOp oAdd (eOp oAdd (eVar 1) (eVar 2)) (eC (.int 1))) aNil))) (.nm 5) (sSeq (sAsg (eCall 2 f_product (aCons (eVar 3) (aCons (eVar 0) aNil))) (.nm 3)) (sAsg (eCall 2 f__law_above (aCons (eVar 4) (aCons (eVar 3) aNil))) (.nm 4)))) (sSeq (sAsg (eCall 1 f_closure (aCons (eVar 0) aNil)) (.nm 6)) (sSeq (sIf (eB (eOp oNe (eVar 3) (eCall 2 f_power (aCons (eVar 0) (aCons (eCallB oMax2 (aCons (eC (.int 1)) (aCons (eOp oAdd (eVar 1) (eVar 2)) aNil))) aNil))))) (sRet (eC (.bl false))) sNext) (sRet (eAnd (eOp oEq (eVar 6) (eVar 4)) (eOp oEq (eCall 2 f__law_above (aCons (eVar 6) (aCons (eCall 2 f_product (aCons (eVar 6) (aCons (eVar 0) aNil))) aNil))) (eVar 6))))))))))
def f__law_closure_right : List D → M D := fnD 7 b__law_closure_right
instance : MoS b__law_closure_right := by unfold b__law_closure_right; infer_instance
instance : MoF f__law_closure_right := inferInstanceAs (MoF (fnD 7 b__law_closure_right))
def b_law : Env' → MS := (sSeq (sFor (iAs rng1 (aCons (eC (.int 3)) aNil)) (.nm 2) (sSeq (sAsg (eCall 1 f__law_great (aCons (eVar 1) aNil)) (.nm 3)) (sSeq (sAsg (eCall 3 f__law_square (aCons (eVar 1) (aCons (eVar 3) (aCons (eC (.int 6)) aNil)))) (.nm 4)) (sSeq (sIf (eB (eOp oEq (eCall 2 f__law_next (aCons (eVar 1) (aCons (eC (.int 2)) aNil))) (eC (.int 0)))) (sAsg (eCallB oTuple (aCons (toLst (eLcL (iEl (eVar 4)) (.nm 6) cYes (eCallB oTuple (aCons (toLst (eLcL (iEl (eVar 6)) (.nm 5) cYes (eOp oMul (eVar 5) (eCallB oInt (aCons (eOp oEq (eCall 2 f__law_next (aCons (eVar 1) (aCons (eC (.int 3)) aNil))) (eC (.int 0))) aNil))) [5])) aNil)) [6])) aNil)) (.nm 4)) sNext) (sIf (eOrT (eNotT (eB (eCall 2 f__law_right (aCons (eVar 1) (aCons (eVar 4) aNil))))) (eNotT (eB (eCall 1 f__law_closure_right (aCons (eVar 4) aNil))))) (sRet (eC (.bl false))) sNext))))) (sRet (eC (.bl true))))
end W45

set_option autoImplicit true
set_option Elab.async false
set_option linter.all false
set_option maxRecDepth 100000
set_option maxHeartbeats 4000000
set_option synthInstance.maxSize 100000
set_option synthInstance.maxHeartbeats 2000000
namespace W45
open PySem PySem.Spec PyProof.Rows L2 Den
theorem v_is_integer_in (x lo hi : Int) : f_is_integer_in [.int x, .int lo, .int hi] = ret (.bl (decide (lo ≤ x) && decide (x ≤ hi))) := by
  simp [f_is_integer_in, b_is_integer_in, startE, oIsi, isT, oCmpI]
  by_cases h : lo ≤ x <;> simp [h]
theorem v_inlets_of {n m : Nat} (h0 : 0 < n) (f : Nat → Nat → Int) : f_inlets_of [Tb n m f] = ret (.int m) := by
  simp [f_inlets_of, b_inlets_of, startE, oIx_Tb0 h0]
theorem v_row_level {m : Nat} (h0 : 0 < m) (hm : m ≤ 1000) (f g : Nat → Int) : f_row_level [Rw m f, Rw m g] = ret (.int (rl m f g)) := by
  simp [f_row_level, b_row_level, startE, zip2_RwRw, okW, wipeE, big]
  rw [if_pos (by omega), compR (fun j => .int (mn (f j) (g j))) fun i hi => ⟨_, rfl, by simp [oMin2_mn]⟩]
  simp [oMax1_rng h0, rl]
theorem v_turned {n m : Nat} (h0 : 0 < n) (hn : n ≤ 1000) (hm : m ≤ 1000) (f : Nat → Nat → Int) : f_turned [Tb n m f] = ret (Tb m n fun j i => f i j) := by
  simp [f_turned, b_turned, startE, okW, wipeE, big, v_inlets_of h0, rng1_nat (show m ≤ 1000000 by omega)]
  rw [if_pos (by omega), compR (fun j => Rw n fun i => f i j) fun j hj => ⟨_, rfl, ?_⟩]
  · simp [mk_Tb (f := fun j i => f i j)]
  · simp [okW, wipeE, big]
    rw [if_pos (by omega), compR (fun i => .int (f i j)) fun i hi => ⟨_, rfl, by simp [oIx_Rw hj]⟩]
    simp [mk_Rw]
theorem v_multiply {n m p : Nat} (m0 : 0 < m) (hn : n ≤ 1000) (hm : m ≤ 1000) (hp : p ≤ 1000) (f g : Nat → Nat → Int) : f_multiply [Tb n m f, Tb m p g] = ret (Tb n p (mul m f g)) := by
  simp [f_multiply, b_multiply, startE, v_turned m0 hm hp, asg, okW, wipeE, big]
  rw [if_pos (by omega), compR (fun i => Rw p (mul m f g i)) fun i hi => ⟨_, rfl, ?_⟩]
  · simp [mk_Tb]
  · simp [okW, wipeE, big]
    rw [if_pos (by omega), compR (fun j => .int (mul m f g i j)) fun j hj => ⟨_, rfl, by simp [v_row_level m0 hm]; rfl⟩]
    simp [mk_Rw]
theorem v_product {n m p : Nat} (n0 : 0 < n) (m0 : 0 < m) (hn : n ≤ 1000) (hm : m ≤ 1000) (hp : p ≤ 1000) (f g : Nat → Nat → Int) : f_product [Tb n m f, Tb m p g] = ret (Tb n p (mul m f g)) := by
  simp [f_product, b_product, startE, v_inlets_of n0, v_multiply m0 hn hm hp]
theorem v_check_square {n : Nat} (n0 : 0 < n) (f : Nat → Nat → Int) : f_check_square [Tb n n f] = ret .non := by
  simp [f_check_square, b_check_square, startE, v_inlets_of n0]
theorem v_unit_table {n : Nat} (hn : n ≤ 1000) : f_unit_table [.int n] = ret (Tb n n un) := by
  simp [f_unit_table, b_unit_table, startE, okW, wipeE, big, rng1_nat (show n ≤ 1000000 by omega)]
  rw [if_pos (by omega), compR (fun i => Rw n (un i)) fun i hi => ⟨_, rfl, ?_⟩]
  · simp [mk_Tb]
  · simp [okW, wipeE, big, rng1_nat (show n ≤ 1000000 by omega)]
    rw [if_pos (by omega), compR (fun j => .int (un i j)) fun j hj => ⟨_, rfl, ?_⟩]
    · simp [mk_Rw]
    · by_cases e : i = j <;> simp [un, e, Int.ofNat_inj]
theorem v_power_0 {n : Nat} (n0 : 0 < n) (hn : n ≤ 1000) (f : Nat → Nat → Int) : f_power [Tb n n f, .int 0] = ret (Tb n n un) := by
  simp [f_power, b_power, startE, v_check_square n0, v_is_integer_in, v_unit_table hn]
  rw [sWhile_stop (by simp [oCmpI])]
  simp
theorem v_power_1 {n : Nat} (n0 : 0 < n) (hn : n ≤ 1000) {f : Nat → Nat → Int} (h : LvT n n f) : f_power [Tb n n f, .int 1] = ret (Tb n n f) := by
  have e : Tb n n (mul n un f) = Tb n n f := Tb_congr fun i j hi hj => un_mul h hi hj
  simp [f_power, b_power, startE, v_check_square n0, v_is_integer_in, v_unit_table hn]
  rw [sWhile_step (by simp [oCmpI]) (by simp [oMod, oDiv, v_multiply n0 hn hn hn, asg, e]; rfl), sWhile_stop (by simp [oCmpI, oDiv])]
  simp
theorem pwN_loop {n : Nat} (n0 : 0 < n) (hn : n ≤ 1000) (f : Nat → Nat → Int) : ∀ (k x : Nat) (r p : Nat → Nat → Int), x ≤ k → LvT n n r → LvT n n p →
    ∃ (r' p' : Nat → Nat → Int) (a1 : Slot), sWhile (eB (eOp oGt (eVar 1) (eC (.int 0)))) (sSeq (sIf (eB (eOp oEq (eOp oMod (eVar 1) (eC (.int 2))) (eC (.int 1)))) (sAsg (eCall 2 f_multiply (aCons (eVar 2) (aCons (eVar 3) aNil))) (.nm 2)) sNext) (sPar 3 1 (aCons (eCall 2 f_multiply (aCons (eVar 3) (aCons (eVar 3) aNil))) (aCons (eOp oDiv (eVar 1) (eC (.int 2))) aNil)))) [.sh (Tb n n f), .sh (.int (x : Nat)), .sh (Tb n n r), .sh (Tb n n p)] = done (.nx, [.sh (Tb n n f), a1, .sh (Tb n n r'), .sh (Tb n n p')]) ∧ Eqn n r' (mul n r (pwN n p x))
  | k, x, r, p, hk, hr, hp => by
    by_cases z : x = 0
    · subst z
      exact ⟨r, p, _, sWhile_stop (by simp [oCmpI]), fun i j hi hj => (mul_un hr hi hj).symm⟩
    · match k with
      | 0 => omega
      | k + 1 =>
        have ht : eB (eOp oGt (eVar 1) (eC (.int 0))) [.sh (Tb n n f), .sh (.int (x : Nat)), .sh (Tb n n r), .sh (Tb n n p)] = ret true := by simp [oCmpI, show 0 < x by omega]
        have om : oMod (.int (x : Nat)) (.int 2) = some (.int ((x % 2 : Nat) : Int)) := by simp [oMod]
        have od : oDiv (.int (x : Nat)) (.int 2) = some (.int ((x / 2 : Nat) : Int)) := by rw [oDiv_two]; simp
        by_cases q : x % 2 = 1
        · obtain ⟨r', p', a1, w, h1⟩ := pwN_loop n0 hn f k (x / 2) (mul n r p) (mul n p p) (by omega) (hr.mul n0 hp) (hp.mul n0 hp)
          refine ⟨r', p', a1, (sWhile_step ht ?_).trans w, ?_⟩
          · simp [om, q, od, v_multiply n0 hn hn hn]
          · have e : x = 2 * (x / 2) + 1 := by omega
            have a : Eqn n (mul n (mul n r p) (pwN n (mul n p p) (x / 2))) (mul n r (pwN n p (2 * (x / 2) + 1))) :=
              ((Eqn.refl _).mul (pwN_two n0 hp (x / 2))).trans ((mul_ass n0 r p _).trans ((Eqn.refl r).mul (pwN_comm n0 hp _)))
            rw [← e] at a
            exact h1.trans a
        · obtain ⟨r', p', a1, w, h1⟩ := pwN_loop n0 hn f k (x / 2) r (mul n p p) (by omega) hr (hp.mul n0 hp)
          have q0 : x % 2 = 0 := by omega
          refine ⟨r', p', a1, (sWhile_step ht ?_).trans w, ?_⟩
          · simp [om, q0, od, v_multiply n0 hn hn hn]
          · have e : x = 2 * (x / 2) := by omega
            have a := (Eqn.refl r).mul (pwN_two n0 hp (x / 2))
            rw [← e] at a
            exact h1.trans a
theorem v_power {n : Nat} (n0 : 0 < n) (hn : n ≤ 1000) {f : Nat → Nat → Int} (hf : LvT n n f) {x : Nat} (hx : x ≤ 1000000000000000000) : f_power [Tb n n f, .int (x : Nat)] = ret (Tb n n (pwN n f x)) := by
  obtain ⟨r, p, a1, w, h⟩ := pwN_loop n0 hn f x x un f (Nat.le_refl _) (LvT_un n) hf
  have e : Tb n n r = Tb n n (pwN n f x) := (h.trans fun i j hi hj => un_mul (LvT_pwN n0 hf x) hi hj).tb
  simp [f_power, b_power, startE, v_check_square n0, v_is_integer_in, v_unit_table hn, show (x : Int) ≤ 1000000000000000000 by omega]
  rw [w]
  simp [e]
def PL (m : Nat) (f : Nat → Nat → Int) (k : Nat) : List D := (List.range k).map fun a => Tb m m (pwN m f a)
theorem PL_ok (m : Nat) (f : Nat → Nat → Int) (k : Nat) : dOk (.lst (PL m f k)) = true := (okN_lst (k := 3) fun d hd => by
  obtain ⟨a, _, rfl⟩ := List.mem_map.mp hd
  exact okN_Tb _ _ _).dOk (by decide)
theorem deq_pw {m : Nat} {f g : Nat → Nat → Int} : deq (Tb m m f) (Tb m m g) = true ↔ Eqn m f g := by
  rw [deq_Tb, decide_eq_true_eq]
  exact ⟨fun h i j hi hj => h i hi j hj, fun h i hi j hj => h i j hi hj⟩
theorem PL_any {m : Nat} {f : Nat → Nat → Int} {k : Nat} : ((PL m f k).any fun z => deq z (Tb m m (pwN m f k))) = true ↔ ∃ a, a < k ∧ Eqn m (pwN m f a) (pwN m f k) := by
  rw [List.any_eq_true]
  constructor
  · rintro ⟨d, hd, e⟩
    obtain ⟨a, ha, rfl⟩ := List.mem_map.mp hd
    exact ⟨a, List.mem_range.mp ha, deq_pw.mp e⟩
  · rintro ⟨a, ha, e⟩
    exact ⟨_, List.mem_map.mpr ⟨a, List.mem_range.mpr ha, rfl⟩, deq_pw.mpr e⟩
theorem PL_notIn {m : Nat} {f : Nat → Nat → Int} {a p : Nat} (h : Idx m f a p) {k : Nat} (hk : k ≤ a + p) : oNotIn (Tb m m (pwN m f k)) (.lst (PL m f k)) = some (.bl (decide (k < a + p))) := by
  have e : ((PL m f k).any fun z => deq z (Tb m m (pwN m f k))) = !decide (k < a + p) := by
    by_cases q : k < a + p
    · rw [decide_eq_true q, Bool.not_true, ← Bool.not_eq_true, PL_any]
      rintro ⟨x, hx, e⟩
      exact h.dis x k hx q e
    · have : k = a + p := by omega
      subst this
      rw [decide_eq_false q, Bool.not_false, PL_any]
      exact ⟨a, by have := h.p0; omega, h.eq⟩
  simp [oNotIn, PL_ok, e]
theorem PL_index {m : Nat} {f : Nat → Nat → Int} {a p : Nat} (h : Idx m f a p) : oIndex (.lst (PL m f (a + p))) (Tb m m (pwN m f (a + p))) = some (.int (a : Nat)) := by
  have p0 := h.p0
  have e : ((PL m f (a + p)).findIdx? fun z => deq z (Tb m m (pwN m f (a + p)))) = some a := by
    refine List.findIdx?_eq_some_iff_getElem.mpr ⟨by simp [PL]; omega, ?_, fun j hj => ?_⟩
    · simp only [PL, List.getElem_map, List.getElem_range]
      exact deq_pw.mpr h.eq
    · simp only [PL, List.getElem_map, List.getElem_range]
      intro z
      exact h.dis j a hj (by omega) ((deq_pw.mp z).trans h.eq.symm)
  simp [oIndex, PL_ok, e]
theorem PL_succ (m : Nat) (f : Nat → Nat → Int) (k : Nat) : PL m f (k + 1) = PL m f k ++ [Tb m m (pwN m f k)] := by simp [PL, List.range_succ]
theorem PL_len (m : Nat) (f : Nat → Nat → Int) (k : Nat) : (PL m f k).length = k := by simp [PL]
theorem ip_loop {m : Nat} (m0 : 0 < m) (hm : m ≤ 1000) {f : Nat → Nat → Int} {a p : Nat} (h : Idx m f a p) : ∀ (q k : Nat), k + q = a + p →
    sWhile (eBorT 1 (eB (eOp oNotIn (eVar 2) (eVar 1)))) (sSeq (sApp 1 (eVar 2)) (sAsg (eCall 2 f_multiply (aCons (eVar 2) (aCons (eVar 0) aNil))) (.nm 2))) [.sh (Tb m m f), .own (PL m f k), .sh (Tb m m (pwN m f k)), .un] = done (.nx, [.sh (Tb m m f), .own (PL m f (a + p)), .sh (Tb m m (pwN m f (a + p))), .un])
  | 0, k, e => by
    have : k = a + p := by omega
    subst this
    refine sWhile_stop ?_
    have n := PL_notIn h (k := a + p) (Nat.le_refl _)
    funext n' Q E
    simp [eBorT, frz, n]
    exact Iff.rfl
  | q + 1, k, e => by
    refine (sWhile_step (e1 := [.sh (Tb m m f), .own (PL m f (k + 1)), .sh (Tb m m (pwN m f (k + 1))), .un]) ?_ ?_).trans (ip_loop m0 hm h q (k + 1) (by omega))
    · have n := PL_notIn h (k := k) (by omega)
      rw [decide_eq_true (show k < a + p by omega)] at n
      funext n' Q E
      simp [eBorT, frz, n]
      exact Iff.rfl
    · have bd := h.bd
      rw [sSeq_e]
      rw [sApp_e (ds := PL m f k) _ _ rfl (by rw [PL_len]; unfold big; omega)]
      simp [v_multiply m0 hm hm hm, PL_succ]
      rfl
theorem v_index_and_period {m : Nat} (m0 : 0 < m) (hm : m ≤ 1000) {f : Nat → Nat → Int} {a p : Nat} (h : Idx m f a p) : f_index_and_period [Tb m m f] = ret (.tup [.int (a : Nat), .int (p : Nat)]) := by
  have lp := ip_loop m0 hm h (a + p) 0 (by omega)
  have z : PL m f 0 = [] := rfl
  rw [z] at lp
  have ix := PL_index h
  have bd := h.bd
  have lx : oLen [.lst (PL m f (a + p))] = some (.int ((a + p : Nat) : Int)) := by simp [oLen, PL_len]
  simp [f_index_and_period, b_index_and_period, startE, v_check_square m0, v_unit_table hm, big]
  have e0 : Tb m m un = Tb m m (pwN m f 0) := rfl
  rw [e0, lp]
  simp [frz, ix, lx, mkT_ok, oSub_int]
  rw [show (a : Int) + p - a = p by omega]
theorem v_closure {m : Nat} (m0 : 0 < m) (hm : m ≤ 1000) (f : Nat → Nat → Int) : f_closure [Tb m m f] = ret (Tb m m (cls m f)) := by
  simp [f_closure, b_closure, startE, v_check_square m0, sClo_e hm]
theorem g_great : Gv (f__law_great [.dk]) 1 (fun d => ∃ g : Int, d = .int g ∧ 1 ≤ g ∧ g ≤ 1000000000000) := by
  simp [f__law_great, b__law_great, startE, mkT, big]
  refine Gv.bnd (c' := 0) (Gv.next (by decide) (by decide)) ?_
  rintro _ ⟨r, rfl, h0, h1⟩
  have : r = 0 ∨ r = 1 ∨ r = 2 ∨ r = 3 := by omega
  rcases this with rfl | rfl | rfl | rfl
  · exact Gv.pure rfl ⟨_, rfl, by decide, by decide⟩
  · exact Gv.pure rfl ⟨_, rfl, by decide, by decide⟩
  · exact Gv.pure rfl ⟨_, rfl, by decide, by decide⟩
  · exact Gv.pure rfl ⟨_, rfl, by decide, by decide⟩
theorem g_level {g : Int} (g0 : 1 ≤ g) (g1 : g ≤ 1000000000000) : Gv (f__law_level [.dk, .int g]) 3 (fun d => ∃ x : Int, d = .int x ∧ 0 ≤ x ∧ x ≤ g) := by
  simp [f__law_level, b__law_level, startE, mkT, big, oAdd_int]
  refine Gv.bn 2 (Gv.next (by omega) (by omega)) ?_
  rintro _ ⟨x, rfl, x0, x1⟩
  refine Gv.bn 1 (Gv.next (by omega) (by omega)) ?_
  rintro _ ⟨y, rfl, y0, y1⟩
  refine Gv.bn 0 (Gv.next (by decide) (by decide)) ?_
  rintro _ ⟨r, rfl, h0, h1⟩
  have : r = 0 ∨ r = 1 ∨ r = 2 ∨ r = 3 := by omega
  rcases this with rfl | rfl | rfl | rfl
  · exact Gv.pure rfl ⟨_, rfl, by omega, by omega⟩
  · exact Gv.pure rfl ⟨_, rfl, by omega, by omega⟩
  · exact Gv.pure rfl ⟨_, rfl, by omega, by omega⟩
  · exact Gv.pure rfl ⟨_, rfl, by omega, by omega⟩
theorem g_row {g : Int} {m : Nat} (g0 : 1 ≤ g) (g1 : g ≤ 1000000000000) (hm : m ≤ 1000) : Gv (f__law_row [.dk, .int g, .int m]) (m * 3) (fun d => ∃ f, d = Rw m f ∧ LvB g m f) := by
  simp [f__law_row, b__law_row, startE, okW, wipeE, big, rng1_nat (show m ≤ 1000000 by omega)]
  rw [if_pos (by omega)]
  refine (Gv.bnd (c' := 0) (Gv.noex (Gv.comp (c := 3) (S := fun _ d => ∃ x : Int, d = .int x ∧ 0 ≤ x ∧ x ≤ g) _ fun y hy => ⟨_, rfl, ?_⟩)) ?_).mono (by simp) fun _ h => h
  · simp
    exact g_level g0 g1
  · rintro ys ⟨hl, hy⟩
    obtain ⟨f, e, hf⟩ := Rw_of (ds := ys) (m := m) (p := fun x => 0 ≤ x ∧ x ≤ g) (by simpa using hl) fun i z hz => by
      have hi : i < ys.length := (List.getElem?_eq_some_iff.mp hz).1
      exact hy i _ z (List.getElem?_eq_getElem (by omega)) hz
    exact Gv.ret ⟨f, e, hf⟩
theorem g_row6 {g : Int} {m : Nat} {a : Int} (g0 : 1 ≤ g) (g1 : g ≤ 1000000000000) (hm : m ≤ 6) (ha : a = m := by rfl) : Gv (f__law_row [.dk, .int g, .int a]) 18 (fun d => ∃ f, d = Rw m f ∧ LvB g m f) :=
  ha ▸ (g_row g0 g1 (by omega)).mono (by omega) fun _ h => h
theorem g_square {g : Int} (g0 : 1 ≤ g) (g1 : g ≤ 1000000000000) : Gv (f__law_square [.dk, .int g, .int 6]) 110 (fun d => ∃ (n : Nat) (f : Nat → Nat → Int), d = Tb n n f ∧ 0 < n ∧ n ≤ 6 ∧ LvT n n f) := by
  simp [f__law_square, b__law_square, startE, -eLcL_e]
  refine Gv.bn 109 (Gv.next (by omega) (by omega)) ?_
  rintro _ ⟨z, rfl, z0, z1⟩
  obtain ⟨k, hk⟩ : ∃ k : Nat, (1 + z : Int) = k := ⟨(1 + z).toNat, by omega⟩
  simp [oAdd_int, hk, -eLcL_e]
  refine Gv.bn 0 (c := 108) ((Gv.lc (c := 18) (n := k) (enc := fun j => .int (j : Nat)) (fun _ d => ∃ h, d = Rw k h ∧ LvB g k h) (by simp [rng1_nat (show k ≤ 1000000 by omega)]) (by omega) rfl fun j hj => ⟨_, rfl, ?_⟩).mono (by omega) fun _ z => z) ?_
  · simp
    exact g_row6 g0 g1 (by omega)
  rintro _ ⟨F, rfl, hF⟩
  obtain ⟨h, eh, lh⟩ := rows_of (F := F) (p := fun _ h => LvB g k h) fun i hi => hF i hi
  rw [eh, mk_Tb]
  exact Gv.ret ⟨k, h, rfl, by omega, by omega, fun i j hi hj => (lh i hi).top g1 j hj⟩
def tmax (f g : Nat → Nat → Int) : Nat → Nat → Int := fun i j => max (f i j) (g i j)
theorem v_above {m : Nat} (hm : m ≤ 1000) (f g : Nat → Nat → Int) : f__law_above [Tb m m f, Tb m m g] = ret (Tb m m (tmax f g)) := by
  have row : ∀ (F G : Nat → Int) (e0 e1 : Slot), eLcL (iAs zip2 (aCons (eVar 3) (aCons (eVar 4) aNil))) (.nm 2) cYes (eCallB oMaxP (aCons (eVar 2) aNil)) [2] [e0, e1, .un, .sh (Rw m F), .sh (Rw m G)] = ret ((List.range m).map fun j => .int (max (F j) (G j))) := fun F G e0 e1 =>
    lcRA (enc := fun j => .tup [.int (F j), .int (G j)]) _ (by simp [zip2_RwRw]) (by omega) rfl fun j hj => ⟨_, rfl, by simp [oMaxP]⟩
  have c : (eLcL (iAs zip2 (aCons (eVar 0) (aCons (eVar 1) aNil))) (.tp [(.nm 3), (.nm 4)]) cYes (eCallB oTuple (aCons (toLst (eLcL (iAs zip2 (aCons (eVar 3) (aCons (eVar 4) aNil))) (.nm 2) cYes (eCallB oMaxP (aCons (eVar 2) aNil)) [2])) aNil)) [3, 4]) [.sh (Tb m m f), .sh (Tb m m g), .un, .un, .un] = ret ((List.range m).map fun i => Rw m (tmax f g i)) :=
    lcRA (enc := fun i => .tup [Rw m (f i), Rw m (g i)]) _ (by simp [zip2_TbTb]) (by omega) rfl fun i hi => ⟨_, rfl, by
      simp [-eLcL_e, row]
      rfl⟩
  simp [f__law_above, b__law_above, startE, c, -eLcL_e, mk_Tb]
/-- the greatest of the powers from 1 on -/
def pmx (m : Nat) (f : Nat → Nat → Int) : Nat → Nat → Nat → Int
  | 0 => pwN m f 1
  | k + 1 => tmax (pmx m f k) (pwN m f (k + 2))
theorem le_pmx {m : Nat} {f : Nat → Nat → Int} {t : Int} {i j : Nat} : ∀ {k : Nat}, t ≤ pmx m f k i j ↔ ∃ n, 0 < n ∧ n ≤ k + 1 ∧ t ≤ pwN m f n i j
  | 0 => ⟨fun h => ⟨1, by omega, by omega, h⟩, fun ⟨n, h1, h2, h3⟩ => by
    have : n = 1 := by omega
    subst this
    exact h3⟩
  | k + 1 => by
    have e : t ≤ pmx m f (k + 1) i j ↔ t ≤ pmx m f k i j ∨ t ≤ pwN m f (k + 2) i j := by
      show t ≤ max _ _ ↔ _
      omega
    rw [e, le_pmx]
    constructor
    · rintro (⟨n, h1, h2, h3⟩ | h)
      · exact ⟨n, h1, by omega, h3⟩
      · exact ⟨k + 2, by omega, by omega, h⟩
    · rintro ⟨n, h1, h2, h3⟩
      by_cases q : n = k + 2
      · subst q
        exact .inr h3
      · exact .inl ⟨n, h1, by omega, h3⟩
theorem pmx_cls {m : Nat} {f : Nat → Nat → Int} (m0 : 0 < m) (hf : LvT m m f) {a p k : Nat} (h : Idx m f a p) (hk : k + 1 = max 1 (a + p)) : Eqn m (cls m f) (pmx m f k) := fun i j hi hj => by
  have p0 := h.p0
  have up : ∀ n, 0 < n → pwN m f n i j ≤ pmx m f k i j := fun n n0 => by
    by_cases z : n ≤ a
    · exact le_pmx.mpr ⟨n, n0, by omega, Int.le_refl _⟩
    · have e := h.mod (k := n) (by omega) i j hi hj
      have lt : (n - a) % p < p := Nat.mod_lt _ p0
      by_cases z2 : a + (n - a) % p = 0
      · have e2 := h.far (a + (n - a) % p) (by omega) i j hi hj
        rw [e, e2, z2]
        exact le_pmx.mpr ⟨0 + p, by omega, by omega, Int.le_refl _⟩
      · rw [e]
        exact le_pmx.mpr ⟨a + (n - a) % p, by omega, by omega, Int.le_refl _⟩
  have b1 := LvT_cls m0 hf i j hi hj
  have le1 : cls m f i j ≤ pmx m f k i j := by
    by_cases c : 0 < cls m f i j
    · obtain ⟨n, n0, _, h3⟩ := (cls_pw m0 hf hi hj c).mp (Int.le_refl _)
      have := up n n0
      omega
    · have := up 1 (by omega)
      have := (LvT_pwN m0 hf 1 i j hi hj).1
      omega
  have le2 : pmx m f k i j ≤ cls m f i j := by
    obtain ⟨n, n0, _, h3⟩ := (le_pmx (t := pmx m f k i j)).mp (Int.le_refl _)
    by_cases c : 0 < pmx m f k i j
    · have b := LvT_pwN m0 hf n i j hi hj
      exact (le_cls hi hj).mpr ⟨n, n0, (le_pwN c (by omega) m0).mp h3⟩
    · omega
  omega
theorem cls_up {m : Nat} {f : Nat → Nat → Int} (m0 : 0 < m) : Eqn m (tmax (cls m f) (mul m (cls m f) f)) (cls m f) := fun i j hi hj => by
  have le : mul m (cls m f) f i j ≤ cls m f i j := by
    obtain ⟨k, hk, h1, h2⟩ := (le_mul (i := i) (j := j) (f := cls m f) (g := f) m0).mp (Int.le_refl _)
    obtain ⟨n, n0, w⟩ := (le_cls hi hk).mp h1
    exact (le_cls hi hj).mpr ⟨n + 1, by omega, k, hk, w, h2⟩
  show max _ _ = _
  omega
theorem ne_eqn {m : Nat} {f g : Nat → Nat → Int} (h : Eqn m f g) : oNe (Tb m m f) (Tb m m g) = some (.bl false) := by
  rw [h.tb]
  exact oNe_self (dOk_Tb _ _ _)
theorem eq_eqn {m : Nat} {f g : Nat → Nat → Int} (h : Eqn m f g) : oEq (Tb m m f) (Tb m m g) = some (.bl true) := by
  rw [h.tb]
  exact oEq_self (dOk_Tb _ _ _)
theorem mulN {a b : Nat} (ha : a ≤ 1000000000000000000) : oMul (.int (a : Nat)) (.int (b : Nat)) = some (.int ((a * b : Nat) : Int)) := by
  have h : mulOk (a : Nat) (b : Nat) := .inl (.inl ⟨by omega, by omega⟩)
  have e : oMul (.int (a : Nat)) (.int (b : Nat)) = if mulOk (a : Nat) (b : Nat) then some (.int ((a : Int) * (b : Int))) else none := by rw [oMul]
  rw [e, if_pos h, Int.natCast_mul]
theorem modN {a b : Nat} (h : 0 < b) : oMod (.int (a : Nat)) (.int (b : Nat)) = some (.int ((a % b : Nat) : Int)) := by
  simp only [oMod]
  rw [if_pos (by omega)]
  congr 2
theorem g_right {m : Nat} (m0 : 0 < m) (hm : m ≤ 6) {f : Nat → Nat → Int} (hf : LvT m m f) : Gv (f__law_right [.dk, Tb m m f]) 3 (fun d => d = .bl true) := by
  obtain ⟨a, p, h⟩ := Idx.ex m0 hm hf
  obtain ⟨ba, bp⟩ := h.bounds m0 hm hf
  have p0 := h.p0
  have ip := v_index_and_period m0 (show m ≤ 1000 by omega) h
  have pw := fun (x : Nat) (hx : x ≤ 1000000000000000000) => v_power m0 (show m ≤ 1000 by omega) hf (x := x) hx
  have c1 : ((a : Int) ≤ 26) = True := eq_true (by omega)
  have c2 : ((p : Int) ≤ 6) = True := eq_true (by omega)
  have c3 : ((1 : Int) ≤ p) = True := eq_true (by omega)
  have c4 : ((0 : Int) ≤ a) = True := eq_true (by omega)
  obtain ⟨B, hB⟩ : ∃ B : Int, B = 1000000000000000000 := ⟨_, rfl⟩
  unfold f__law_right b__law_right
  rw [← hB]
  simp [startE, ip, oCmpI, c1, c2, c3, c4, oSub_int, oAdd_int]
  refine Gv.bn 2 (Gv.next (by omega) (by omega)) ?_
  rintro _ ⟨r, rfl, r0, r1⟩
  obtain ⟨r, rfl⟩ : ∃ k : Nat, r = k := ⟨r.toNat, by omega⟩
  have e1 := pw (a + r) (by omega)
  have e2 := pw (a + r % p) (by have := Nat.mod_le r p; omega)
  have q1 := h.mod (k := a + r) (by omega)
  rw [show a + r - a = r by omega] at q1
  have n1 := ne_eqn q1
  have s1 : (((a + r : Nat) : Int) - a) = ((r : Nat) : Int) := by omega
  have s2 : ((a : Int) + r) = ((a + r : Nat) : Int) := by omega
  have s3 : ((a : Int) + ((r % p : Nat) : Int)) = ((a + r % p : Nat) : Int) := by omega
  have z1 := v_product m0 m0 (show m ≤ 1000 by omega) (show m ≤ 1000 by omega) (show m ≤ 1000 by omega)
  simp only [oAdd_int, opt_some', bnd_ret', s2, e1, oSub_int, s1, modN p0, s3, e2, n1, toB_bl]
  simp only [Bool.false_eq_true, if_false]
  refine Gv.bn 1 (Gv.next (by omega) (by omega)) ?_
  rintro _ ⟨x, rfl, x0, x1⟩
  refine Gv.bn 0 (Gv.next (by omega) (by omega)) ?_
  rintro _ ⟨y, rfl, y0, y1⟩
  obtain ⟨x, rfl⟩ : ∃ k : Nat, x = k := ⟨x.toNat, by omega⟩
  obtain ⟨y, rfl⟩ : ∃ k : Nat, y = k := ⟨y.toNat, by omega⟩
  have xy : x * y ≤ 1000000000 * 1000000000 := Nat.mul_le_mul (by omega) (by omega)
  have n2 := ne_eqn ((pwN_add m0 hf x y).symm)
  have pp := fun (b k : Nat) (hk : k ≤ 1000000000000000000) => v_power (f := pwN m f b) m0 (show m ≤ 1000 by omega) (LvT_pwN m0 hf b) (x := k) hk
  have n3 := ne_eqn (pwN_pow m0 hf x y)
  have t1 : ((x : Int) + y) = ((x + y : Nat) : Int) := by omega
  have mn1 : oMin2 [.int (x : Nat), .int 40] = some (.int ((min x 40 : Nat) : Int)) := by
    rw [oMin2_mn]
    have e : mn (x : Nat) 40 = ((min x 40 : Nat) : Int) := by
      unfold mn
      split <;> omega
    rw [e]
  have q3 := eq_eqn (pwN_pow m0 hf (min x 40) 3)
  rw [Nat.mul_comm] at q3
  have o3 : oMul (.int 3) (.int ((min x 40 : Nat) : Int)) = some (.int ((3 * min x 40 : Nat) : Int)) := mulN (a := 3) (by decide)
  have p3 := pp (min x 40) 3 (by decide)
  have p3' : f_power [Tb m m (pwN m f (min x 40)), .int 3] = ret (Tb m m (pwN m (pwN m f (min x 40)) 3)) := p3
  simp only [bnd_ret', oAdd_int, t1, opt_some', pw (x + y) (by omega), pw x (by omega), pw y (by omega), z1, n2, toB_bl, Bool.false_eq_true, if_false, pp x y (by omega), mulN (show x ≤ 1000000000000000000 by omega), pw (x * y) (by omega), n3, mn1, pw (min x 40) (by omega), p3', o3, pw (3 * min x 40) (by omega), q3]
  exact Gv.ret rfl
theorem v_closure_right {m : Nat} (m0 : 0 < m) (hm : m ≤ 6) {f : Nat → Nat → Int} (hf : LvT m m f) : f__law_closure_right [Tb m m f] = ret (.bl true) := by
  obtain ⟨a, p, h⟩ := Idx.ex m0 hm hf
  obtain ⟨ba, bp⟩ := h.bounds m0 hm hf
  have p0 := h.p0
  have ip := v_index_and_period m0 (show m ≤ 1000 by omega) h
  have pw := fun (x : Nat) (hx : x ≤ 1000000000000000000) => v_power m0 (show m ≤ 1000 by omega) hf (x := x) hx
  have e1 := pw 1 (by omega)
  have e1' : f_power [Tb m m f, .int 1] = ret (Tb m m (pwN m f 1)) := e1
  obtain ⟨k, hk⟩ : ∃ k, k + 1 = max 1 (a + p) := ⟨a + p - 1, by omega⟩
  obtain ⟨⟨k', b5⟩, hk', lp⟩ := loop_rng (t := .nm 5) (body := (sSeq (sAsg (eCall 2 f_product (aCons (eVar 3) (aCons (eVar 0) aNil))) (.nm 3)) (sAsg (eCall 2 f__law_above (aCons (eVar 4) (aCons (eVar 3) aNil))) (.nm 4)))) (fun s : Nat × Slot => [.sh (Tb m m f), .sh (.int (a : Nat)), .sh (.int (p : Nat)), .sh (Tb m m (pwN m f (s.1 + 1))), .sh (Tb m m (pmx m f s.1)), s.2, .un]) (fun i => .int (2 + (i : Nat) : Int)) (fun i s => s.1 = i) (n := k) (s := (0, .un)) rfl
    (by
      rintro i ⟨k', b5⟩ hi rfl
      refine ⟨_, (k' + 1, .sh (.int (2 + (k' : Nat) : Int))), rfl, ?_, rfl⟩
      have z1 := v_product m0 m0 (show m ≤ 1000 by omega) (show m ≤ 1000 by omega) (show m ≤ 1000 by omega) (pwN m f (k' + 1)) f
      have z2 := v_above (show m ≤ 1000 by omega) (pmx m f k') (mul m (pwN m f (k' + 1)) f)
      simp [z1, z2]
      rfl)
  have hk' : k' = k := hk'
  subst hk'
  have rg : rng2 [.int 2, .int ((a : Int) + p + 1)] = some ((List.range k').map fun i => .int (2 + (i : Nat) : Int)) := by
    simp only [rng2]
    rw [if_pos (by omega)]
    rw [show ((a : Int) + p + 1 - 2).toNat = k' by omega]
    rfl
  have cl := v_closure m0 (show m ≤ 1000 by omega) f
  have mx1 : oMax2 [.int 1, .int ((a : Int) + p)] = some (.int ((k' + 1 : Nat) : Int)) := by
    rw [oMax2_mx]
    have e : mx 1 ((a : Int) + p) = ((k' + 1 : Nat) : Int) := by
      unfold mx
      split <;> omega
    rw [e]
  have e2 := pw (k' + 1) (by omega)
  have n1 := ne_eqn (Eqn.refl (n := m) (pwN m f (k' + 1)))
  have q1 := eq_eqn (pmx_cls m0 hf h hk)
  have z1 := v_product m0 m0 (show m ≤ 1000 by omega) (show m ≤ 1000 by omega) (show m ≤ 1000 by omega) (cls m f) f
  have z2 := v_above (show m ≤ 1000 by omega) (cls m f) (mul m (cls m f) f)
  have q2 := eq_eqn (cls_up (m := m) (f := f) m0)
  simp only [Nat.zero_add] at lp
  simp [f__law_closure_right, b__law_closure_right, startE, ip, e1', oAdd_int, rg, -loopF_cons]
  have lp2 : pmx m f 0 = pwN m f 1 := rfl
  rw [lp2] at lp
  rw [lp]
  simp only [bndR_done, seqK_nx]
  rw [show ((k' + 1 : Nat) : Int) = (k' : Int) + 1 by omega] at mx1 e2
  simp [cl, oAdd_int, mx1, e2, n1, q1, z1, z2, q2]
theorem g_turn {a2 : Slot} : GvS ((sSeq (sAsg (eCall 1 f__law_great (aCons (eVar 1) aNil)) (.nm 3)) (sSeq (sAsg (eCall 3 f__law_square (aCons (eVar 1) (aCons (eVar 3) (aCons (eC (.int 6)) aNil)))) (.nm 4)) (sSeq (sIf (eB (eOp oEq (eCall 2 f__law_next (aCons (eVar 1) (aCons (eC (.int 2)) aNil))) (eC (.int 0)))) (sAsg (eCallB oTuple (aCons (toLst (eLcL (iEl (eVar 4)) (.nm 6) cYes (eCallB oTuple (aCons (toLst (eLcL (iEl (eVar 6)) (.nm 5) cYes (eOp oMul (eVar 5) (eCallB oInt (aCons (eOp oEq (eCall 2 f__law_next (aCons (eVar 1) (aCons (eC (.int 3)) aNil))) (eC (.int 0))) aNil))) [5])) aNil)) [6])) aNil)) (.nm 4)) sNext) (sIf (eOrT (eNotT (eB (eCall 2 f__law_right (aCons (eVar 1) (aCons (eVar 4) aNil))))) (eNotT (eB (eCall 1 f__law_closure_right (aCons (eVar 4) aNil))))) (sRet (eC (.bl false))) sNext)))) [.un, .sh .dk, a2, .un, .un, .un, .un]) 300 (Nx [.un, .sh .dk, a2, .un, .un, .un, .un]) := by
  obtain ⟨rest, hrest⟩ : ∃ rest, rest = (sIf (eOrT (eNotT (eB (eCall 2 f__law_right (aCons (eVar 1) (aCons (eVar 4) aNil))))) (eNotT (eB (eCall 1 f__law_closure_right (aCons (eVar 4) aNil))))) (sRet (eC (.bl false))) sNext) := ⟨_, rfl⟩
  have gr : ∀ (m : Nat) (f : Nat → Nat → Int) (g : Int), 0 < m → m ≤ 6 → LvT m m f → GvS (rest [.un, .sh .dk, a2, .sh (.int g), .sh (Tb m m f), .un, .un]) 4 (Nx [.un, .sh .dk, a2, .un, .un, .un, .un]) := fun m f g m0 hm hf => by
    rw [hrest]
    simp
    refine GvS.lf 0 (g_right m0 hm hf) ?_
    rintro _ rfl
    simp [v_closure_right m0 hm hf]
    exact GvS.nx (by simp)
  rw [← hrest]
  simp [-eLcL_e, -loopF_cons]
  refine GvS.lf 299 g_great ?_
  rintro _ ⟨g, rfl, g0, g1⟩
  try simp [-eLcL_e, -loopF_cons]
  refine GvS.lf 160 (g_square g0 g1) ?_
  rintro _ ⟨m, f, rfl, m0, hm, lf⟩
  try simp [-eLcL_e, -loopF_cons]
  refine GvS.lf 159 (Gv.next (by omega) (by omega)) ?_
  rintro _ ⟨r, rfl, r0, r1⟩
  by_cases hr : r = 0
  · subst hr
    simp [-eLcL_e, -loopF_cons]
    refine GvS.lf 120 (c := 36) ((g_thin (k := 3) (by decide) (by decide) hm lf (by simp) rfl fun i hi => ⟨_, rfl, rfl, rfl, fun j hj => ⟨_, rfl, rfl, rfl⟩⟩).mono (by omega) fun _ z => z) ?_
    rintro _ ⟨h, rfl, hh⟩
    simp [mk_Tb]
    exact (gr m h _ m0 hm hh).mono (by omega) fun _ z => z
  · simp [hr]
    exact (gr m f _ m0 hm lf).mono (by omega) fun _ z => z
theorem gives : Gives 5 b_law := by
  refine gives_ofU ⟨8000, ?_, by omega⟩
  simp [b_law, rr3, -eLcL_e]
  refine ((GvS.forU (c := 300) fun d hd => ⟨_, rfl, ?_⟩).andThen (c' := 0) ?_).mono (by simp [Lr_len]) fun _ z => z
  · exact g_turn.low (by simp)
  · simp
    exact GvS.rt
end W45

set_option autoImplicit true
set_option synthInstance.maxSize 100000
set_option synthInstance.maxHeartbeats 2000000
set_option Elab.async false
set_option linter.all false
set_option maxRecDepth 100000
set_option maxHeartbeats 4000000
namespace W45
open PySem PySem.Spec PyProof.Rows L2 Den
/-! ### the text of the row, by places -/
def topS (i : Nat) : Stmt := PySem.Challenge.pw_widthmix_k45_whole_far_powers.main.body.getD i (.Pass ⟨0, 0, 0, 0⟩)
abbrev s_is_integer_in : Stmt := topS 8
theorem sc_is_integer_in : FnScope ["value", "low", "high"] ["value", "low", "high"] (defScope s_is_integer_in) := ⟨rfl, rfl, rfl, by decide +kernel, rfl, by decide +kernel, by decide +kernel⟩
abbrev s_inlets_of : Stmt := topS 10
theorem sc_inlets_of : FnScope ["table"] ["table"] (defScope s_inlets_of) := ⟨rfl, rfl, rfl, by decide +kernel, rfl, by decide +kernel, by decide +kernel⟩
abbrev s_row_level : Stmt := topS 11
theorem sc_row_level : FnScope ["row", "setting", "width", "level"] ["row", "setting"] (defScope s_row_level) := ⟨rfl, rfl, rfl, by decide +kernel, rfl, by decide +kernel, by decide +kernel⟩
abbrev s_turned : Stmt := topS 12
theorem sc_turned : FnScope ["table", "row", "inlet"] ["table"] (defScope s_turned) := ⟨rfl, rfl, rfl, by decide +kernel, rfl, by decide +kernel, by decide +kernel⟩
abbrev s_multiply : Stmt := topS 14
theorem sc_multiply : FnScope ["one", "other", "columns", "column", "row"] ["one", "other"] (defScope s_multiply) := ⟨rfl, rfl, rfl, by decide +kernel, rfl, by decide +kernel, by decide +kernel⟩
abbrev s_product : Stmt := topS 15
theorem sc_product : FnScope ["one", "other"] ["one", "other"] (defScope s_product) := ⟨rfl, rfl, rfl, by decide +kernel, rfl, by decide +kernel, by decide +kernel⟩
abbrev s_check_square : Stmt := topS 16
theorem sc_check_square : FnScope ["table"] ["table"] (defScope s_check_square) := ⟨rfl, rfl, rfl, by decide +kernel, rfl, by decide +kernel, by decide +kernel⟩
abbrev s_unit_table : Stmt := topS 17
theorem sc_unit_table : FnScope ["size", "inlet", "outlet"] ["size"] (defScope s_unit_table) := ⟨rfl, rfl, rfl, by decide +kernel, rfl, by decide +kernel, by decide +kernel⟩
abbrev s_power : Stmt := topS 18
theorem sc_power : FnScope ["table", "exponent", "result", "square"] ["table", "exponent"] (defScope s_power) := ⟨rfl, rfl, rfl, by decide +kernel, rfl, by decide +kernel, by decide +kernel⟩
abbrev s_index_and_period : Stmt := topS 19
theorem sc_index_and_period : FnScope ["table", "powers", "current", "index"] ["table"] (defScope s_index_and_period) := ⟨rfl, rfl, rfl, by decide +kernel, rfl, by decide +kernel, by decide +kernel⟩
abbrev s_closure : Stmt := topS 20
theorem sc_closure : FnScope ["table", "rows", "row", "size", "middle", "outlet", "inlet", "width"] ["table"] (defScope s_closure) := ⟨rfl, rfl, rfl, by decide +kernel, rfl, by decide +kernel, by decide +kernel⟩
abbrev s__law_deck : Stmt := topS 22
theorem sc__law_deck : FnScope ["_law_script", "_law_cells", "_law_cell"] ["_law_script"] (defScope s__law_deck) := ⟨rfl, rfl, rfl, by decide +kernel, rfl, by decide +kernel, by decide +kernel⟩
abbrev s__law_next : Stmt := topS 23
theorem sc__law_next : FnScope ["_law_deck_here", "_law_many", "_law_rest", "_law_cell", "_law_mixed"] ["_law_deck_here", "_law_many"] (defScope s__law_next) := ⟨rfl, rfl, rfl, by decide +kernel, rfl, by decide +kernel, by decide +kernel⟩
abbrev s__law_great : Stmt := topS 24
theorem sc__law_great : FnScope ["_law_deck_here"] ["_law_deck_here"] (defScope s__law_great) := ⟨rfl, rfl, rfl, by decide +kernel, rfl, by decide +kernel, by decide +kernel⟩
abbrev s__law_level : Stmt := topS 25
theorem sc__law_level : FnScope ["_law_deck_here", "_law_great_here"] ["_law_deck_here", "_law_great_here"] (defScope s__law_level) := ⟨rfl, rfl, rfl, by decide +kernel, rfl, by decide +kernel, by decide +kernel⟩
abbrev s__law_row : Stmt := topS 26
theorem sc__law_row : FnScope ["_law_deck_here", "_law_great_here", "_law_count", "_law_k"] ["_law_deck_here", "_law_great_here", "_law_count"] (defScope s__law_row) := ⟨rfl, rfl, rfl, by decide +kernel, rfl, by decide +kernel, by decide +kernel⟩
abbrev s__law_square : Stmt := topS 27
theorem sc__law_square : FnScope ["_law_deck_here", "_law_great_here", "_law_most", "_law_size", "_law_k"] ["_law_deck_here", "_law_great_here", "_law_most"] (defScope s__law_square) := ⟨rfl, rfl, rfl, by decide +kernel, rfl, by decide +kernel, by decide +kernel⟩
abbrev s__law_above : Stmt := topS 28
theorem sc__law_above : FnScope ["_law_one", "_law_other", "_law_pair", "_law_row_here", "_law_more"] ["_law_one", "_law_other"] (defScope s__law_above) := ⟨rfl, rfl, rfl, by decide +kernel, rfl, by decide +kernel, by decide +kernel⟩
abbrev s__law_right : Stmt := topS 29
theorem sc__law_right : FnScope ["_law_deck_here", "_law_table", "_law_index", "_law_period", "_law_far", "_law_one", "_law_other", "_law_least"] ["_law_deck_here", "_law_table"] (defScope s__law_right) := ⟨rfl, rfl, rfl, by decide +kernel, rfl, by decide +kernel, by decide +kernel⟩
abbrev s__law_closure_right : Stmt := topS 30
theorem sc__law_closure_right : FnScope ["_law_table", "_law_index", "_law_period", "_law_current", "_law_found", "_law_exponent", "_law_closed"] ["_law_table"] (defScope s__law_closure_right) := ⟨rfl, rfl, rfl, by decide +kernel, rfl, by decide +kernel, by decide +kernel⟩
abbrev s_law : Stmt := topS 31
theorem sc_law : FnScope ["_law_script", "_law_deck_here", "_law_turn", "_law_great_here", "_law_table", "_law_width", "_law_row_here"] ["_law_script"] (defScope s_law) := ⟨rfl, rfl, rfl, by decide +kernel, rfl, by decide +kernel, by decide +kernel⟩
/-! ### what the top leaves -/
structure Tx (P : Program) (w : World) (K : PySem.W.Frag) (mg : Str → Option Value) (base : Heap) : Prop where
  n_bool : mg "bool" = none
  n_int : mg "int" = none
  n_isinstance : mg "isinstance" = none
  n_len : mg "len" = none
  n_list : mg "list" = none
  n_max : mg "max" = none
  n_min : mg "min" = none
  n_range : mg "range" = none
  n_tuple : mg "tuple" = none
  n_zip : mg "zip" = none
  c_MAX_EXPONENT : ∃ t, mg "MAX_EXPONENT" = some (.int 1000000000000000000 t)
  c_TOP : ∃ t, mg "TOP" = some (.int 1000000000000 t)
  n_abs' : mg "abs" = none
  n_len' : mg "len" = none
section
variable {P : Program} {w : World} {K : PySem.W.Frag} {mg : Str → Option Value} {base : Heap} {a : Addr} {fd : FuncData}
abbrev FnP (K : PySem.W.Frag) (x : Str) (st : Stmt) (f : Addr) (fd : FuncData) : Prop := FunD K x x (defArgs st) (defBody st) (defScope st) [] [] f fd
theorem ok_is_integer_in (T : Tx P w K mg base) (F : FnP K "is_integer_in" s_is_integer_in a fd) (hm : mg "is_integer_in" = some (.ref a))  : OkF P w K mg base "is_integer_in" 3 1 f_is_integer_in := by
  refine okF_mk (k := 0) F hm sc_is_integer_in (fun _ _ _ _ _ _ us hl => match us, hl with | [_, _, _], _ => rfl) fun cdv A outer s H E hr => ?_
  have tk : L2N.Takes (cxOf (L2N.CX P w) P w K mg base ["value", "low", "high"] "is_integer_in" (defScope s_is_integer_in) a cdv A outer s H E) (fun cls d _ H' => E cls d H') := L2N.takes_of rfl rfl rfl rfl
  exact (dSs_one (dS_ret (dE_and (dE_isi .int T.n_isinstance T.n_int (dE_var 0)) (dE_and (dE_not (dE_isi .bool T.n_isinstance T.n_bool (dE_var 0))) (dE_one (dE_chain op_le pu_cmpI op_le pu_cmpI (dE_var 1) (dE_var 0) (dE_var 2)))))))
theorem ok_inlets_of (T : Tx P w K mg base) (F : FnP K "inlets_of" s_inlets_of a fd) (hm : mg "inlets_of" = some (.ref a))  : OkF P w K mg base "inlets_of" 1 1 f_inlets_of := by
  refine okF_mk (k := 0) F hm sc_inlets_of (fun _ _ _ _ _ _ us hl => match us, hl with | [_], _ => rfl) fun cdv A outer s H E hr => ?_
  have tk : L2N.Takes (cxOf (L2N.CX P w) P w K mg base ["table"] "inlets_of" (defScope s_inlets_of) a cdv A outer s H E) (fun cls d _ H' => E cls d H') := L2N.takes_of rfl rfl rfl rfl
  exact (dSs_one (dS_ret (dE_callB call_len pu_len boot_len' T.n_len (dA_cons (dE_at (dE_var 0) dE_int) dA_nil))))
theorem ok_row_level (T : Tx P w K mg base) (F : FnP K "row_level" s_row_level a fd) (hm : mg "row_level" = some (.ref a))  : OkF P w K mg base "row_level" 2 1 f_row_level := by
  refine okF_mk (k := 0) F hm sc_row_level (fun _ _ _ _ _ _ us hl => match us, hl with | [_, _], _ => rfl) fun cdv A outer s H E hr => ?_
  have tk : L2N.Takes (cxOf (L2N.CX P w) P w K mg base ["row", "setting", "width", "level"] "row_level" (defScope s_row_level) a cdv A outer s H E) (fun cls d _ H' => E cls d H') := L2N.takes_of rfl rfl rfl rfl
  exact (dSs_one (dS_ret (dE_callB (cr_max rfl) pu_max1 boot_max' T.n_max (dA_cons (dE_of_F (dF_lc (own := [("width", 2), ("level", 3)]) rfl sc_row_level.nd (dI_zip T.n_zip (dA_cons (dE_var 0) (dA_cons (dE_var 1) dA_nil))) (blkOk_by (by kernel_rfl)) (fun _ _ _ _ _ => (dG_tup rfl (dGs_cons (dG_name 2 sc_row_level.nd) (dGs_cons (dG_name 3 sc_row_level.nd) dGs_nil)))) (fun _ _ _ _ _ => dTs_nil) (fun _ _ _ _ _ => (dE_callB (call_min2 rfl) pu_min2 boot_min' T.n_min (dA_cons (dE_var 2) (dA_cons (dE_var 3) dA_nil)))))) dA_nil))))
theorem ok_turned (T : Tx P w K mg base) (F : FnP K "turned" s_turned a fd) (hm : mg "turned" = some (.ref a)) (O_inlets_of : OkF P w K mg base "inlets_of" 1 1 f_inlets_of) : OkF P w K mg base "turned" 1 2 f_turned := by
  refine okF_mk (k := 1) F hm sc_turned (fun _ _ _ _ _ _ us hl => match us, hl with | [_], _ => rfl) fun cdv A outer s H E hr => ?_
  have tk : L2N.Takes (cxOf (L2N.CX P w) P w K mg base ["table", "row", "inlet"] "turned" (defScope s_turned) a cdv A outer s H E) (fun cls d _ H' => E cls d H') := L2N.takes_of rfl rfl rfl rfl
  exact (dSs_one (dS_ret (dE_callTy call_tuple_of pu_tuple boot_tuple' T.n_tuple (dA_cons (dE_of_F (dF_lc (own := [("inlet", 2)]) rfl sc_turned.nd (dI_rng1 T.n_range (dA_cons (dE_f O_inlets_of hr tk (dA_cons (dE_var 0) dA_nil)) dA_nil)) (blkOk_by (by kernel_rfl)) (fun _ _ _ _ _ => (dG_name 2 sc_turned.nd)) (fun _ _ _ _ _ => dTs_nil) (fun _ _ _ _ _ => (dE_callTy call_tuple_of pu_tuple boot_tuple' T.n_tuple (dA_cons (dE_of_F (dF_lc (own := [("row", 1)]) rfl sc_turned.nd (dI_seq (dE_var 0)) (blkOk_by (by kernel_rfl)) (fun _ _ _ _ _ => (dG_name 1 sc_turned.nd)) (fun _ _ _ _ _ => dTs_nil) (fun _ _ _ _ _ => (dE_at (dE_var 1) (dE_var 2))))) dA_nil))))) dA_nil))))
theorem ok_multiply (T : Tx P w K mg base) (F : FnP K "multiply" s_multiply a fd) (hm : mg "multiply" = some (.ref a)) (O_row_level : OkF P w K mg base "row_level" 2 1 f_row_level) (O_turned : OkF P w K mg base "turned" 1 2 f_turned) : OkF P w K mg base "multiply" 2 3 f_multiply := by
  refine okF_mk (k := 2) F hm sc_multiply (fun _ _ _ _ _ _ us hl => match us, hl with | [_, _], _ => rfl) fun cdv A outer s H E hr => ?_
  have tk : L2N.Takes (cxOf (L2N.CX P w) P w K mg base ["one", "other", "columns", "column", "row"] "multiply" (defScope s_multiply) a cdv A outer s H E) (fun cls d _ H' => E cls d H') := L2N.takes_of rfl rfl rfl rfl
  exact (dSs_cons (dS_set (i := 2) sc_multiply.nd (dE_f O_turned hr tk (dA_cons (dE_var 1) dA_nil))) (dSs_one (dS_ret (dE_callTy call_tuple_of pu_tuple boot_tuple' T.n_tuple (dA_cons (dE_of_F (dF_lc (own := [("row", 4)]) rfl sc_multiply.nd (dI_seq (dE_var 0)) (blkOk_by (by kernel_rfl)) (fun _ _ _ _ _ => (dG_name 4 sc_multiply.nd)) (fun _ _ _ _ _ => dTs_nil) (fun _ _ _ _ _ => (dE_callTy call_tuple_of pu_tuple boot_tuple' T.n_tuple (dA_cons (dE_of_F (dF_lc (own := [("column", 3)]) rfl sc_multiply.nd (dI_seq (dE_var 2)) (blkOk_by (by kernel_rfl)) (fun _ _ _ _ _ => (dG_name 3 sc_multiply.nd)) (fun _ _ _ _ _ => dTs_nil) (fun _ _ _ _ _ => (dE_f O_row_level hr takesN0 (dA_cons (dE_var 4) (dA_cons (dE_var 3) dA_nil)))))) dA_nil))))) dA_nil)))))
theorem ok_product (T : Tx P w K mg base) (F : FnP K "product" s_product a fd) (hm : mg "product" = some (.ref a)) (O_multiply : OkF P w K mg base "multiply" 2 3 f_multiply) (O_inlets_of : OkF P w K mg base "inlets_of" 1 1 f_inlets_of) : OkF P w K mg base "product" 2 4 f_product := by
  refine okF_mk (k := 3) F hm sc_product (fun _ _ _ _ _ _ us hl => match us, hl with | [_, _], _ => rfl) fun cdv A outer s H E hr => ?_
  have tk : L2N.Takes (cxOf (L2N.CX P w) P w K mg base ["one", "other"] "product" (defScope s_product) a cdv A outer s H E) (fun cls d _ H' => E cls d H') := L2N.takes_of rfl rfl rfl rfl
  exact (dSs_cons (dS_if (dT_ne hr (dE_f O_inlets_of hr tk (dA_cons (dE_var 0) dA_nil)) (dE_callB call_len pu_len boot_len' T.n_len (dA_cons (dE_var 1) dA_nil))) (dSs_one dS_never) (dSs_nil)) (dSs_one (dS_ret (dE_f O_multiply hr tk (dA_cons (dE_var 0) (dA_cons (dE_var 1) dA_nil))))))
theorem ok_check_square (T : Tx P w K mg base) (F : FnP K "check_square" s_check_square a fd) (hm : mg "check_square" = some (.ref a)) (O_inlets_of : OkF P w K mg base "inlets_of" 1 1 f_inlets_of) : OkF P w K mg base "check_square" 1 2 f_check_square := by
  refine okF_mk (k := 1) F hm sc_check_square (fun _ _ _ _ _ _ us hl => match us, hl with | [_], _ => rfl) fun cdv A outer s H E hr => ?_
  have tk : L2N.Takes (cxOf (L2N.CX P w) P w K mg base ["table"] "check_square" (defScope s_check_square) a cdv A outer s H E) (fun cls d _ H' => E cls d H') := L2N.takes_of rfl rfl rfl rfl
  exact (dSs_one (dS_if (dT_ne hr (dE_callB call_len pu_len boot_len' T.n_len (dA_cons (dE_var 0) dA_nil)) (dE_f O_inlets_of hr tk (dA_cons (dE_var 0) dA_nil))) (dSs_one dS_never) (dSs_nil)))
theorem ok_unit_table (T : Tx P w K mg base) (F : FnP K "unit_table" s_unit_table a fd) (hm : mg "unit_table" = some (.ref a))  : OkF P w K mg base "unit_table" 1 1 f_unit_table := by
  refine okF_mk (k := 0) F hm sc_unit_table (fun _ _ _ _ _ _ us hl => match us, hl with | [_], _ => rfl) fun cdv A outer s H E hr => ?_
  have tk : L2N.Takes (cxOf (L2N.CX P w) P w K mg base ["size", "inlet", "outlet"] "unit_table" (defScope s_unit_table) a cdv A outer s H E) (fun cls d _ H' => E cls d H') := L2N.takes_of rfl rfl rfl rfl
  exact (dSs_one (dS_ret (dE_callTy call_tuple_of pu_tuple boot_tuple' T.n_tuple (dA_cons (dE_of_F (dF_lc (own := [("outlet", 2)]) rfl sc_unit_table.nd (dI_rng1 T.n_range (dA_cons (dE_var 0) dA_nil)) (blkOk_by (by kernel_rfl)) (fun _ _ _ _ _ => (dG_name 2 sc_unit_table.nd)) (fun _ _ _ _ _ => dTs_nil) (fun _ _ _ _ _ => (dE_callTy call_tuple_of pu_tuple boot_tuple' T.n_tuple (dA_cons (dE_of_F (dF_lc (own := [("inlet", 1)]) rfl sc_unit_table.nd (dI_rng1 T.n_range (dA_cons (dE_var 0) dA_nil)) (blkOk_by (by kernel_rfl)) (fun _ _ _ _ _ => (dG_name 1 sc_unit_table.nd)) (fun _ _ _ _ _ => dTs_nil) (fun _ _ _ _ _ => (dE_if (dT_eq hr (dE_var 2) (dE_var 1)) (dE_globI T.c_TOP) dE_int)))) dA_nil))))) dA_nil))))
theorem ok_power (T : Tx P w K mg base) (F : FnP K "power" s_power a fd) (hm : mg "power" = some (.ref a)) (O_multiply : OkF P w K mg base "multiply" 2 3 f_multiply) (O_unit_table : OkF P w K mg base "unit_table" 1 1 f_unit_table) (O_is_integer_in : OkF P w K mg base "is_integer_in" 3 1 f_is_integer_in) (O_check_square : OkF P w K mg base "check_square" 1 2 f_check_square) : OkF P w K mg base "power" 2 4 f_power := by
  refine okF_mk (k := 3) F hm sc_power (fun _ _ _ _ _ _ us hl => match us, hl with | [_, _], _ => rfl) fun cdv A outer s H E hr => ?_
  have tk : L2N.Takes (cxOf (L2N.CX P w) P w K mg base ["table", "exponent", "result", "square"] "power" (defScope s_power) a cdv A outer s H E) (fun cls d _ H' => E cls d H') := L2N.takes_of rfl rfl rfl rfl
  exact (dSs_cons (dS_expr (dE_f O_check_square hr tk (dA_cons (dE_var 0) dA_nil))) (dSs_cons (dS_if (dT_not (dT_val (dE_f O_is_integer_in hr tk (dA_cons (dE_var 1) (dA_cons dE_int (dA_cons (dE_globI T.c_MAX_EXPONENT) dA_nil)))))) (dSs_one dS_never) (dSs_nil)) (dSs_cons (dS_par (i := 2) (j := 3) rfl sc_power.nd (dA_cons (dE_f O_unit_table hr tk (dA_cons (dE_callB call_len pu_len boot_len' T.n_len (dA_cons (dE_var 0) dA_nil)) dA_nil)) (dA_cons (dE_var 0) dA_nil))) (dSs_cons (dS_while (passes_of rfl) (dT_gt (dE_var 1) dE_int) (dSs_cons (dS_if (dT_eq hr (dE_mod (dE_var 1) dE_int) dE_int) (dSs_one (dS_set (i := 2) sc_power.nd (dE_f O_multiply hr tk (dA_cons (dE_var 2) (dA_cons (dE_var 3) dA_nil))))) (dSs_nil)) (dSs_one (dS_par (i := 3) (j := 1) rfl sc_power.nd (dA_cons (dE_f O_multiply hr tk (dA_cons (dE_var 3) (dA_cons (dE_var 3) dA_nil))) (dA_cons (dE_div (dE_var 1) dE_int) dA_nil)))))) (dSs_one (dS_ret (dE_var 2)))))))
theorem ok_index_and_period (T : Tx P w K mg base) (F : FnP K "index_and_period" s_index_and_period a fd) (hm : mg "index_and_period" = some (.ref a)) (O_multiply : OkF P w K mg base "multiply" 2 3 f_multiply) (O_unit_table : OkF P w K mg base "unit_table" 1 1 f_unit_table) (O_check_square : OkF P w K mg base "check_square" 1 2 f_check_square) : OkF P w K mg base "index_and_period" 1 4 f_index_and_period := by
  refine okF_mk (k := 3) F hm sc_index_and_period (fun _ _ _ _ _ _ us hl => match us, hl with | [_], _ => rfl) fun cdv A outer s H E hr => ?_
  have tk : L2N.Takes (cxOf (L2N.CX P w) P w K mg base ["table", "powers", "current", "index"] "index_and_period" (defScope s_index_and_period) a cdv A outer s H E) (fun cls d _ H' => E cls d H') := L2N.takes_of rfl rfl rfl rfl
  exact (dSs_cons (dS_expr (dE_f O_check_square hr tk (dA_cons (dE_var 0) dA_nil))) (dSs_cons (dS_setF (i := 1) sc_index_and_period.nd (dF_lst dA_nil)) (dSs_cons (dS_set (i := 2) sc_index_and_period.nd (dE_f O_unit_table hr tk (dA_cons (dE_callB call_len pu_len boot_len' T.n_len (dA_cons (dE_var 0) dA_nil)) dA_nil))) (dSs_cons (dS_while (passes_of rfl) (dT_bor 1 (dT_notIn hr (dE_var 2) (dE_var 1))) (dSs_cons (dS_append (pv 1) (dE_var 2)) (dSs_one (dS_set (i := 2) sc_index_and_period.nd (dE_f O_multiply hr tk (dA_cons (dE_var 2) (dA_cons (dE_var 0) dA_nil))))))) (dSs_cons (dS_frz 1 (dS_set (i := 3) sc_index_and_period.nd (dE_index (room65 hr) (dE_var 1) (dE_var 2)))) (dSs_one (dS_frz 1 (dS_ret (dE_tup (dA_cons (dE_var 3) (dA_cons (dE_sub (dE_callB call_len pu_len boot_len' T.n_len (dA_cons (dE_var 1) dA_nil)) (dE_var 3)) dA_nil)))))))))))
theorem ok_closure (T : Tx P w K mg base) (F : FnP K "closure" s_closure a fd) (hm : mg "closure" = some (.ref a)) (O_check_square : OkF P w K mg base "check_square" 1 2 f_check_square) : OkF P w K mg base "closure" 1 3 f_closure := by
  refine okF_mk (k := 2) F hm sc_closure (fun _ _ _ _ _ _ us hl => match us, hl with | [_], _ => rfl) fun cdv A outer s H E hr => ?_
  have tk : L2N.Takes (cxOf (L2N.CX P w) P w K mg base ["table", "rows", "row", "size", "middle", "outlet", "inlet", "width"] "closure" (defScope s_closure) a cdv A outer s H E) (fun cls d _ H' => E cls d H') := L2N.takes_of rfl rfl rfl rfl
  exact (dSs_cons (dS_expr (dE_f O_check_square hr tk (dA_cons (dE_var 0) dA_nil))) (PSs.imp (pss_cons (ps_setLc (i := 1) (own := [("row", 2)]) rfl sc_closure.nd rfl rfl (sw_true rfl rfl rfl (by decide +kernel)) (pi_seq (pv 0)) (blkOk_by (by kernel_rfl)) (fun _ _ _ _ _ => (pg_name (i := 2) sc_closure.nd rfl (Or.inl rfl))) (fun _ _ _ _ _ => pts_nil) (fun _ _ _ _ _ => pe_callTy call_list_of (by rfl) T.n_list boot_list' (pa_cons (pv 2) pa_nil))) (pss_cons (ps_set (i := 3) sc_closure.nd rfl (Or.inl rfl) (pe_callB call_len (by rfl) T.n_len boot_len' (pa_cons (pv 1) pa_nil))) (pss_cons (ps_for (passes_of rfl) rfl (pi_range1 (by rfl) T.n_range (pa_cons (pv 3) pa_nil)) (pg_name (i := 4) sc_closure.nd rfl (Or.inl rfl)) (pss_one (ps_for (passes_of rfl) rfl (pi_range1 (by rfl) T.n_range (pa_cons (pv 3) pa_nil)) (pg_name (i := 5) sc_closure.nd rfl (Or.inl rfl)) (pss_one (ps_for (passes_of rfl) rfl (pi_range1 (by rfl) T.n_range (pa_cons (pv 3) pa_nil)) (pg_name (i := 6) sc_closure.nd rfl (Or.inl rfl)) (pss_cons (ps_set (i := 7) sc_closure.nd rfl (Or.inl rfl) (pe_callB (call_min2 rfl) (by rfl) T.n_min boot_min' (pa_cons (pe_ix ix_seq (pe_ix ix_seq (pv 1) (pv 5) (fun _ _ => rfl)) (pv 4) (fun _ _ => rfl)) (pa_cons (pe_ix ix_seq (pe_ix ix_seq (pv 1) (pv 4) (fun _ _ => rfl)) (pv 6) (fun _ _ => rfl)) pa_nil)))) (pss_one (ps_asg (pe_callB (call_max2 rfl) (by rfl) T.n_max boot_max' (pa_cons (pe_ix ix_seq (pe_ix ix_seq (pv 1) (pv 5) (fun _ _ => rfl)) (pv 6) (fun _ _ => rfl)) (pa_cons (pv 7) pa_nil))) (pg_sub (pe_ix ix_seq (pv 1) (pv 5) (fun _ _ => rfl)) (pv 6) set_list))))))))) (pss_one (dS_ret (dE_callTy call_tuple_of pu_tuple boot_tuple' T.n_tuple (dA_cons (dE_of_F (dF_lc (own := [("row", 2)]) rfl sc_closure.nd (dI_seq (dE_var 1)) (blkOk_by (by kernel_rfl)) (fun _ _ _ _ _ => (dG_name 2 sc_closure.nd)) (fun _ _ _ _ _ => dTs_nil) (fun _ _ _ _ _ => (dE_callTy call_tuple_of pu_tuple boot_tuple' T.n_tuple (dA_cons (dE_var 2) dA_nil))))) dA_nil))))))) fun _ _ _ h => clo_in h))
theorem ok__law_deck (T : Tx P w K mg base) (F : FnP K "_law_deck" s__law_deck a fd) : FnOk P w K mg base (L2N.CX P w) 1 a fd ["_law_script"] (spDeck K) := by
  refine F.ok sc__law_deck (fun vs H Q E h => ?_) (fun cdv A outer s H vs Q E hr h => ⟨t_deck K, ?_, pure_deck vs H Q E h⟩)
  · obtain ⟨_, _, rfl, _⟩ := h
    rfl
  · exact pss_cons (ps_setLc (i := 1) (own := [("_law_cell", 2)]) rfl sc__law_deck.nd rfl rfl (sw_true rfl rfl rfl (by decide +kernel)) (pi_list (pv 0)) (blkOk_by (by kernel_rfl)) (fun _ _ _ _ _ => pg_name (i := 2) sc__law_deck.nd rfl (Or.inl rfl)) (fun _ _ _ _ _ => pts_nil) (fun _ _ _ _ _ => pe_callB call_abs (by rfl) T.n_abs' boot_abs' (pa_cons (pv 2) pa_nil)))
      (pss_one (ps_ret (pe_lst (pa_cons (pe_lc (own := [("_law_cell", 2)]) rfl sc__law_deck.nd (pi_list (pv 1)) (blkOk_by (by kernel_rfl)) (fun _ _ _ _ _ => pg_name (i := 2) sc__law_deck.nd rfl (Or.inl rfl)) (fun _ _ _ _ _ => pts_one (pt_cmpR op_ge (pv 2) (pe_op op_pow pe_int pe_int) (nomark _))) (fun _ _ _ _ _ => pv 2))
        (pa_cons (pe_op op_cat (pv 1) (pe_lst (pa_cons (pe_op op_add (pe_callB call_len (by rfl) T.n_len' boot_len' (pa_cons (pv 1) pa_nil)) pe_int) pa_nil))) (pa_cons pe_int pa_nil))))))
theorem ok__law_next (T : Tx P w K mg base) (F : FnP K "_law_next" s__law_next a fd) (hm : mg "_law_next" = some (.ref a)) : OkF P w K mg base "_law_next" 2 1 drawF := by
  refine ⟨a, fd, ["_law_deck_here", "_law_many"], hm, F.kp, F.bindsN fun _ _ _ _ _ _ us hl => match us, hl with | [_, _], _ => rfl, ?_⟩
  refine F.ok sc__law_next (fun vs H Q E ⟨_, _, _, ds, _, _, hl, _, _, _, r, _⟩ => by rw [r.len, hl]; rfl) (fun cdv A outer s H vs Q E hr h => ⟨t_next K, ?_, pure_next vs H Q E h⟩)
  · exact pss_cons (ps_while (passes_of rfl) (pt_cmpR (op_neD hr.units) (pe_ix ix_seq (pv 0) pe_int (fun _ _ => rfl)) (pe_lst pa_nil) (nomark _))
        (pss_cons (ps_set (i := 2) sc__law_next.nd rfl (Or.inl rfl) (pe_ix ix_seq (pe_ix ix_seq (pv 0) pe_int (fun _ _ => rfl)) pe_int (fun _ _ => rfl)))
        (pss_cons (ps_if (pt_cmpR op_gt (pv 2) pe_int (nomark _)) (pss_cons (ps_asg (pe_op op_fdivW (pv 2) (pv 1)) (pg_sub (pe_ix ix_seq (pv 0) pe_int (fun _ _ => rfl)) pe_int set_list)) (pss_one (ps_ret (pe_op op_mod (pv 2) (pv 1))))) pss_nil)
        (pss_one (ps_expr (pe_bm PySem.F.plainAttrs_list PySem.F.slot_list_pop PySem.F.type_list_pop mt_popAt (pe_ix ix_seq (pv 0) pe_int (fun _ _ => rfl)) (pa_cons pe_int pa_nil)))))))
      (pss_cons (ps_asg (pe_op op_add (pe_ix ix_seq (pv 0) pe_int (fun _ _ => rfl)) pe_int) (pg_sub (pv 0) pe_int set_list))
      (pss_cons (ps_set (i := 3) sc__law_next.nd rfl (Or.inl rfl) (pe_op op_mod (pe_ix ix_seq (pe_ix ix_seq (pv 0) pe_int (fun _ _ => rfl)) (pe_op op_mod (pe_ix ix_seq (pv 0) pe_int (fun _ _ => rfl)) (pe_callB call_len (by rfl) T.n_len' boot_len' (pa_cons (pe_ix ix_seq (pv 0) pe_int (fun _ _ => rfl)) pa_nil))) (fun _ _ => rfl)) pe_int))
      (pss_cons (ps_set (i := 4) sc__law_next.nd rfl (Or.inl rfl) (pe_op op_add (pe_op op_add (pe_op op_mul (pv 3) (pe_op op_add pe_int (pe_op op_mul pe_int (pe_ix ix_seq (pv 0) pe_int (fun _ _ => rfl))))) (pe_op op_mul (pe_op op_mul pe_int (pe_ix ix_seq (pv 0) pe_int (fun _ _ => rfl))) (pe_ix ix_seq (pv 0) pe_int (fun _ _ => rfl)))) pe_int))
      (pss_cons (ps_set (i := 4) sc__law_next.nd rfl (Or.inl rfl) (pe_op op_mod (pv 4) pe_int))
      (pss_one (ps_ret (pe_op op_mod (pe_op op_fdivW (pe_op op_mod (pe_op op_mul (pv 4) (pv 4)) pe_int) pe_int) (pv 1))))))))
theorem ok__law_great (T : Tx P w K mg base) (F : FnP K "_law_great" s__law_great a fd) (hm : mg "_law_great" = some (.ref a)) (O__law_next : OkF P w K mg base "_law_next" 2 1 f__law_next) : OkF P w K mg base "_law_great" 1 2 f__law_great := by
  refine okF_mk (k := 1) F hm sc__law_great (fun _ _ _ _ _ _ us hl => match us, hl with | [_], _ => rfl) fun cdv A outer s H E hr => ?_
  have tk : L2N.Takes (cxOf (L2N.CX P w) P w K mg base ["_law_deck_here"] "_law_great" (defScope s__law_great) a cdv A outer s H E) (fun cls d _ H' => E cls d H') := L2N.takes_of rfl rfl rfl rfl
  exact (dSs_one (dS_ret (dE_at (dE_lst (dA_cons dE_int (dA_cons dE_int (dA_cons dE_int (dA_cons (dE_pow (N := 1000000000000) ⟨by decide, by decide, by decide⟩ (by decide +kernel)) dA_nil))))) (dE_f O__law_next hr tk (dA_cons (dE_var 0) (dA_cons dE_int dA_nil))))))
theorem ok__law_level (T : Tx P w K mg base) (F : FnP K "_law_level" s__law_level a fd) (hm : mg "_law_level" = some (.ref a)) (O__law_next : OkF P w K mg base "_law_next" 2 1 f__law_next) : OkF P w K mg base "_law_level" 2 2 f__law_level := by
  refine okF_mk (k := 1) F hm sc__law_level (fun _ _ _ _ _ _ us hl => match us, hl with | [_, _], _ => rfl) fun cdv A outer s H E hr => ?_
  have tk : L2N.Takes (cxOf (L2N.CX P w) P w K mg base ["_law_deck_here", "_law_great_here"] "_law_level" (defScope s__law_level) a cdv A outer s H E) (fun cls d _ H' => E cls d H') := L2N.takes_of rfl rfl rfl rfl
  exact (dSs_one (dS_ret (dE_at (dE_lst (dA_cons dE_int (dA_cons (dE_var 1) (dA_cons (dE_f O__law_next hr tk (dA_cons (dE_var 0) (dA_cons (dE_add (dE_var 1) dE_int) dA_nil))) (dA_cons (dE_f O__law_next hr tk (dA_cons (dE_var 0) (dA_cons (dE_add (dE_var 1) dE_int) dA_nil))) dA_nil))))) (dE_f O__law_next hr tk (dA_cons (dE_var 0) (dA_cons dE_int dA_nil))))))
theorem ok__law_row (T : Tx P w K mg base) (F : FnP K "_law_row" s__law_row a fd) (hm : mg "_law_row" = some (.ref a)) (O__law_level : OkF P w K mg base "_law_level" 2 2 f__law_level) : OkF P w K mg base "_law_row" 3 3 f__law_row := by
  refine okF_mk (k := 2) F hm sc__law_row (fun _ _ _ _ _ _ us hl => match us, hl with | [_, _, _], _ => rfl) fun cdv A outer s H E hr => ?_
  have tk : L2N.Takes (cxOf (L2N.CX P w) P w K mg base ["_law_deck_here", "_law_great_here", "_law_count", "_law_k"] "_law_row" (defScope s__law_row) a cdv A outer s H E) (fun cls d _ H' => E cls d H') := L2N.takes_of rfl rfl rfl rfl
  exact (dSs_one (dS_ret (dE_callTy call_tuple_of pu_tuple boot_tuple' T.n_tuple (dA_cons (dE_of_F (dF_lc (own := [("_law_k", 3)]) rfl sc__law_row.nd (dI_rng1 T.n_range (dA_cons (dE_var 2) dA_nil)) (blkOk_by (by kernel_rfl)) (fun _ _ _ _ _ => (dG_name 3 sc__law_row.nd)) (fun _ _ _ _ _ => dTs_nil) (fun _ _ _ _ _ => (dE_f O__law_level hr takesN0 (dA_cons (dE_var 0) (dA_cons (dE_var 1) dA_nil)))))) dA_nil))))
theorem ok__law_square (T : Tx P w K mg base) (F : FnP K "_law_square" s__law_square a fd) (hm : mg "_law_square" = some (.ref a)) (O__law_row : OkF P w K mg base "_law_row" 3 3 f__law_row) (O__law_next : OkF P w K mg base "_law_next" 2 1 f__law_next) : OkF P w K mg base "_law_square" 3 4 f__law_square := by
  refine okF_mk (k := 3) F hm sc__law_square (fun _ _ _ _ _ _ us hl => match us, hl with | [_, _, _], _ => rfl) fun cdv A outer s H E hr => ?_
  have tk : L2N.Takes (cxOf (L2N.CX P w) P w K mg base ["_law_deck_here", "_law_great_here", "_law_most", "_law_size", "_law_k"] "_law_square" (defScope s__law_square) a cdv A outer s H E) (fun cls d _ H' => E cls d H') := L2N.takes_of rfl rfl rfl rfl
  exact (dSs_cons (dS_set (i := 3) sc__law_square.nd (dE_add dE_int (dE_f O__law_next hr tk (dA_cons (dE_var 0) (dA_cons (dE_var 2) dA_nil))))) (dSs_one (dS_ret (dE_callTy call_tuple_of pu_tuple boot_tuple' T.n_tuple (dA_cons (dE_of_F (dF_lc (own := [("_law_k", 4)]) rfl sc__law_square.nd (dI_rng1 T.n_range (dA_cons (dE_var 3) dA_nil)) (blkOk_by (by kernel_rfl)) (fun _ _ _ _ _ => (dG_name 4 sc__law_square.nd)) (fun _ _ _ _ _ => dTs_nil) (fun _ _ _ _ _ => (dE_f O__law_row hr takesN0 (dA_cons (dE_var 0) (dA_cons (dE_var 1) (dA_cons (dE_var 3) dA_nil))))))) dA_nil)))))
theorem ok__law_above (T : Tx P w K mg base) (F : FnP K "_law_above" s__law_above a fd) (hm : mg "_law_above" = some (.ref a))  : OkF P w K mg base "_law_above" 2 1 f__law_above := by
  refine okF_mk (k := 0) F hm sc__law_above (fun _ _ _ _ _ _ us hl => match us, hl with | [_, _], _ => rfl) fun cdv A outer s H E hr => ?_
  have tk : L2N.Takes (cxOf (L2N.CX P w) P w K mg base ["_law_one", "_law_other", "_law_pair", "_law_row_here", "_law_more"] "_law_above" (defScope s__law_above) a cdv A outer s H E) (fun cls d _ H' => E cls d H') := L2N.takes_of rfl rfl rfl rfl
  exact (dSs_one (dS_ret (dE_callTy call_tuple_of pu_tuple boot_tuple' T.n_tuple (dA_cons (dE_of_F (dF_lc (own := [("_law_row_here", 3), ("_law_more", 4)]) rfl sc__law_above.nd (dI_zip T.n_zip (dA_cons (dE_var 0) (dA_cons (dE_var 1) dA_nil))) (blkOk_by (by kernel_rfl)) (fun _ _ _ _ _ => (dG_tup rfl (dGs_cons (dG_name 3 sc__law_above.nd) (dGs_cons (dG_name 4 sc__law_above.nd) dGs_nil)))) (fun _ _ _ _ _ => dTs_nil) (fun _ _ _ _ _ => (dE_callTy call_tuple_of pu_tuple boot_tuple' T.n_tuple (dA_cons (dE_of_F (dF_lc (own := [("_law_pair", 2)]) rfl sc__law_above.nd (dI_zipN T.n_zip (dA_cons (dE_var 3) (dA_cons (dE_var 4) dA_nil))) (blkOk_by (by kernel_rfl)) (fun _ _ _ _ _ => (dG_name 2 sc__law_above.nd)) (fun _ _ _ _ _ => dTs_nil) (fun _ _ _ _ _ => (dE_callB (cr_maxP hr rfl) pu_maxP boot_max' T.n_max (dA_cons (dE_var 2) dA_nil))))) dA_nil))))) dA_nil))))
theorem ok__law_right (T : Tx P w K mg base) (F : FnP K "_law_right" s__law_right a fd) (hm : mg "_law_right" = some (.ref a)) (O_power : OkF P w K mg base "power" 2 4 f_power) (O_product : OkF P w K mg base "product" 2 4 f_product) (O__law_next : OkF P w K mg base "_law_next" 2 1 f__law_next) (O_index_and_period : OkF P w K mg base "index_and_period" 1 4 f_index_and_period) : OkF P w K mg base "_law_right" 2 5 f__law_right := by
  refine okF_mk (k := 4) F hm sc__law_right (fun _ _ _ _ _ _ us hl => match us, hl with | [_, _], _ => rfl) fun cdv A outer s H E hr => ?_
  have tk : L2N.Takes (cxOf (L2N.CX P w) P w K mg base ["_law_deck_here", "_law_table", "_law_index", "_law_period", "_law_far", "_law_one", "_law_other", "_law_least"] "_law_right" (defScope s__law_right) a cdv A outer s H E) (fun cls d _ H' => E cls d H') := L2N.takes_of rfl rfl rfl rfl
  exact (dSs_cons (dS_asg (dE_f O_index_and_period hr tk (dA_cons (dE_var 1) dA_nil)) (dG_tup rfl (dGs_cons (dG_name 2 sc__law_right.nd) (dGs_cons (dG_name 3 sc__law_right.nd) dGs_nil)))) (dSs_cons (dS_if (dT_of (dW_or (dT_not (dT_chain op_le pu_cmpI op_le pu_cmpI dE_int (dE_var 2) dE_int)) (dW_or1 (dT_not (dT_chain op_le pu_cmpI op_le pu_cmpI dE_int (dE_var 3) dE_int))))) (dSs_one (dS_ret dE_bl)) (dSs_nil)) (dSs_cons (dS_set (i := 4) sc__law_right.nd (dE_add (dE_var 2) (dE_f O__law_next hr tk (dA_cons (dE_var 0) (dA_cons (dE_add (dE_sub (dE_pow (N := 1000000000000000000) ⟨by decide, by decide, by decide⟩ (by decide +kernel)) (dE_var 2)) dE_int) dA_nil))))) (dSs_cons (dS_if (dT_ne hr (dE_f O_power hr tk (dA_cons (dE_var 1) (dA_cons (dE_var 4) dA_nil))) (dE_f O_power hr tk (dA_cons (dE_var 1) (dA_cons (dE_add (dE_var 2) (dE_mod (dE_sub (dE_var 4) (dE_var 2)) (dE_var 3))) dA_nil)))) (dSs_one (dS_ret dE_bl)) (dSs_nil)) (dSs_cons (dS_par (i := 5) (j := 6) rfl sc__law_right.nd (dA_cons (dE_f O__law_next hr tk (dA_cons (dE_var 0) (dA_cons (dE_pow (N := 1000000000) ⟨by decide, by decide, by decide⟩ (by decide +kernel)) dA_nil))) (dA_cons (dE_f O__law_next hr tk (dA_cons (dE_var 0) (dA_cons (dE_pow (N := 1000000000) ⟨by decide, by decide, by decide⟩ (by decide +kernel)) dA_nil))) dA_nil))) (dSs_cons (dS_if (dT_ne hr (dE_f O_power hr tk (dA_cons (dE_var 1) (dA_cons (dE_add (dE_var 5) (dE_var 6)) dA_nil))) (dE_f O_product hr tk (dA_cons (dE_f O_power hr tk (dA_cons (dE_var 1) (dA_cons (dE_var 5) dA_nil))) (dA_cons (dE_f O_power hr tk (dA_cons (dE_var 1) (dA_cons (dE_var 6) dA_nil))) dA_nil)))) (dSs_one (dS_ret dE_bl)) (dSs_nil)) (dSs_cons (dS_if (dT_ne hr (dE_f O_power hr tk (dA_cons (dE_f O_power hr tk (dA_cons (dE_var 1) (dA_cons (dE_var 5) dA_nil))) (dA_cons (dE_var 6) dA_nil))) (dE_f O_power hr tk (dA_cons (dE_var 1) (dA_cons (dE_mul (dE_var 5) (dE_var 6)) dA_nil)))) (dSs_one (dS_ret dE_bl)) (dSs_nil)) (dSs_cons (dS_set (i := 7) sc__law_right.nd (dE_callB (call_min2 rfl) pu_min2 boot_min' T.n_min (dA_cons (dE_var 5) (dA_cons dE_int dA_nil)))) (dSs_one (dS_ret (dE_eq hr (dE_f O_power hr tk (dA_cons (dE_f O_power hr tk (dA_cons (dE_var 1) (dA_cons (dE_var 7) dA_nil))) (dA_cons dE_int dA_nil))) (dE_f O_power hr tk (dA_cons (dE_var 1) (dA_cons (dE_mul dE_int (dE_var 7)) dA_nil))))))))))))))
theorem ok__law_closure_right (T : Tx P w K mg base) (F : FnP K "_law_closure_right" s__law_closure_right a fd) (hm : mg "_law_closure_right" = some (.ref a)) (O__law_above : OkF P w K mg base "_law_above" 2 1 f__law_above) (O_product : OkF P w K mg base "product" 2 4 f_product) (O_power : OkF P w K mg base "power" 2 4 f_power) (O_closure : OkF P w K mg base "closure" 1 3 f_closure) (O_index_and_period : OkF P w K mg base "index_and_period" 1 4 f_index_and_period) : OkF P w K mg base "_law_closure_right" 1 5 f__law_closure_right := by
  refine okF_mk (k := 4) F hm sc__law_closure_right (fun _ _ _ _ _ _ us hl => match us, hl with | [_], _ => rfl) fun cdv A outer s H E hr => ?_
  have tk : L2N.Takes (cxOf (L2N.CX P w) P w K mg base ["_law_table", "_law_index", "_law_period", "_law_current", "_law_found", "_law_exponent", "_law_closed"] "_law_closure_right" (defScope s__law_closure_right) a cdv A outer s H E) (fun cls d _ H' => E cls d H') := L2N.takes_of rfl rfl rfl rfl
  exact (dSs_cons (dS_asg (dE_f O_index_and_period hr tk (dA_cons (dE_var 0) dA_nil)) (dG_tup rfl (dGs_cons (dG_name 1 sc__law_closure_right.nd) (dGs_cons (dG_name 2 sc__law_closure_right.nd) dGs_nil)))) (dSs_cons (dS_set (i := 3) sc__law_closure_right.nd (dE_f O_power hr tk (dA_cons (dE_var 0) (dA_cons dE_int dA_nil)))) (dSs_cons (dS_set (i := 4) sc__law_closure_right.nd (dE_var 3)) (dSs_cons (dS_for (passes_of rfl) rfl (dI_rng2 T.n_range (dA_cons dE_int (dA_cons (dE_add (dE_add (dE_var 1) (dE_var 2)) dE_int) dA_nil))) (dG_name 5 sc__law_closure_right.nd) (dSs_cons (dS_set (i := 3) sc__law_closure_right.nd (dE_f O_product hr tk (dA_cons (dE_var 3) (dA_cons (dE_var 0) dA_nil)))) (dSs_one (dS_set (i := 4) sc__law_closure_right.nd (dE_f O__law_above hr tk (dA_cons (dE_var 4) (dA_cons (dE_var 3) dA_nil))))))) (dSs_cons (dS_set (i := 6) sc__law_closure_right.nd (dE_f O_closure hr tk (dA_cons (dE_var 0) dA_nil))) (dSs_cons (dS_if (dT_ne hr (dE_var 3) (dE_f O_power hr tk (dA_cons (dE_var 0) (dA_cons (dE_callB (call_max2 rfl) pu_max2 boot_max' T.n_max (dA_cons dE_int (dA_cons (dE_add (dE_var 1) (dE_var 2)) dA_nil))) dA_nil)))) (dSs_one (dS_ret dE_bl)) (dSs_nil)) (dSs_one (dS_ret (dE_and (dE_eq hr (dE_var 6) (dE_var 4)) (dE_one (dE_eq hr (dE_f O__law_above hr tk (dA_cons (dE_var 6) (dA_cons (dE_f O_product hr tk (dA_cons (dE_var 6) (dA_cons (dE_var 0) dA_nil))) dA_nil))) (dE_var 6))))))))))))
theorem ok_law (T : Tx P w K mg base) (G : Gives 5 b_law) (F : FnP K "law" s_law a fd) {ad : Addr} {fdd : FuncData} (FD : FnP K "_law_deck" s__law_deck ad fdd) (hd : mg "_law_deck" = some (.ref ad)) (O__law_closure_right : OkF P w K mg base "_law_closure_right" 1 5 f__law_closure_right) (O__law_right : OkF P w K mg base "_law_right" 2 5 f__law_right) (O__law_next : OkF P w K mg base "_law_next" 2 1 f__law_next) (O__law_square : OkF P w K mg base "_law_square" 3 4 f__law_square) (O__law_great : OkF P w K mg base "_law_great" 1 2 f__law_great) : FnOk P w K mg base (L2N.CX P w) 6 a fd ["_law_script"] (spLaw K) := by
  have GD : FnOk P w K mg base (L2N.CX P w) 1 ad fdd ["_law_script"] (spDeck K) := ok__law_deck T FD
  have bD : Binds K fdd ["_law_script"] [] := FD.bindsN fun _ _ _ _ _ _ us hl => match us, hl with | [_], _ => rfl
  refine F.ok sc_law (fun vs H Q E h => ?_) (fun cdv A outer s H vs Q E hr h => ?_)
  · obtain ⟨_, _, rfl, _⟩ := h
    rfl
  have tk : L2N.Takes (cxOf (L2N.CX P w) P w K mg base ["_law_script", "_law_deck_here", "_law_turn", "_law_great_here", "_law_table", "_law_width", "_law_row_here"] "law" (defScope s_law) a cdv A outer s H E) (fun cls d _ H' => E cls d H') := L2N.takes_of rfl rfl rfl rfl
  obtain ⟨sa, ns, rfl, hS, hl, hQ⟩ := h
  refine ⟨_, pss_cons (ps_set (i := 1) sc_law.nd rfl (Or.inr rfl) (pe_callS GD (hr.mono (by decide)) rfl hd FD.kp bD (fun σ => L2N.passAt tk σ) (by exact (pa_cons (pv 0) pa_nil)))) (show DSs _ ⟨fun cls d _ H' => E cls d H', none⟩ _ b_law from ?_), law_in (N := 5) G hS hl hQ⟩
  exact (dSs_cons (dS_for (passes_of rfl) rfl (dI_rng1 T.n_range (dA_cons dE_int dA_nil)) (dG_name 2 sc_law.nd) (dSs_cons (dS_set (i := 3) sc_law.nd (dE_f O__law_great hr tk (dA_cons (dE_var 1) dA_nil))) (dSs_cons (dS_set (i := 4) sc_law.nd (dE_f O__law_square hr tk (dA_cons (dE_var 1) (dA_cons (dE_var 3) (dA_cons dE_int dA_nil))))) (dSs_cons (dS_if (dT_eq hr (dE_f O__law_next hr tk (dA_cons (dE_var 1) (dA_cons dE_int dA_nil))) dE_int) (dSs_one (dS_set (i := 4) sc_law.nd (dE_callTy call_tuple_of pu_tuple boot_tuple' T.n_tuple (dA_cons (dE_of_F (dF_lc (own := [("_law_row_here", 6)]) rfl sc_law.nd (dI_seq (dE_var 4)) (blkOk_by (by kernel_rfl)) (fun _ _ _ _ _ => (dG_name 6 sc_law.nd)) (fun _ _ _ _ _ => dTs_nil) (fun _ _ _ _ _ => (dE_callTy call_tuple_of pu_tuple boot_tuple' T.n_tuple (dA_cons (dE_of_F (dF_lc (own := [("_law_width", 5)]) rfl sc_law.nd (dI_seq (dE_var 6)) (blkOk_by (by kernel_rfl)) (fun _ _ _ _ _ => (dG_name 5 sc_law.nd)) (fun _ _ _ _ _ => dTs_nil) (fun _ _ _ _ _ => (dE_mul (dE_var 5) (dE_callTy call_int1 pu_int boot_int' T.n_int (dA_cons (dE_eq hr (dE_f O__law_next hr takesN0 (dA_cons (dE_var 1) (dA_cons dE_int dA_nil))) dE_int) dA_nil)))))) dA_nil))))) dA_nil)))) (dSs_nil)) (dSs_one (dS_if (dT_of (dW_or (dT_not (dT_val (dE_f O__law_right hr tk (dA_cons (dE_var 1) (dA_cons (dE_var 4) dA_nil))))) (dW_or1 (dT_not (dT_val (dE_f O__law_closure_right hr tk (dA_cons (dE_var 4) dA_nil))))))) (dSs_one (dS_ret dE_bl)) (dSs_nil))))))) (dSs_one (dS_ret dE_bl)))
end
/-! ### the head: facts by names, the run -/
def d_is_integer_in : He.DefD := ⟨("is_integer_in", none), "is_integer_in", "is_integer_in", defArgs s_is_integer_in, defBody s_is_integer_in, defScope s_is_integer_in, [], []⟩
def d_inlets_of : He.DefD := ⟨("inlets_of", none), "inlets_of", "inlets_of", defArgs s_inlets_of, defBody s_inlets_of, defScope s_inlets_of, [], []⟩
def d_row_level : He.DefD := ⟨("row_level", none), "row_level", "row_level", defArgs s_row_level, defBody s_row_level, defScope s_row_level, [], []⟩
def d_turned : He.DefD := ⟨("turned", none), "turned", "turned", defArgs s_turned, defBody s_turned, defScope s_turned, [], []⟩
def d_multiply : He.DefD := ⟨("multiply", none), "multiply", "multiply", defArgs s_multiply, defBody s_multiply, defScope s_multiply, [], []⟩
def d_product : He.DefD := ⟨("product", none), "product", "product", defArgs s_product, defBody s_product, defScope s_product, [], []⟩
def d_check_square : He.DefD := ⟨("check_square", none), "check_square", "check_square", defArgs s_check_square, defBody s_check_square, defScope s_check_square, [], []⟩
def d_unit_table : He.DefD := ⟨("unit_table", none), "unit_table", "unit_table", defArgs s_unit_table, defBody s_unit_table, defScope s_unit_table, [], []⟩
def d_power : He.DefD := ⟨("power", none), "power", "power", defArgs s_power, defBody s_power, defScope s_power, [], []⟩
def d_index_and_period : He.DefD := ⟨("index_and_period", none), "index_and_period", "index_and_period", defArgs s_index_and_period, defBody s_index_and_period, defScope s_index_and_period, [], []⟩
def d_closure : He.DefD := ⟨("closure", none), "closure", "closure", defArgs s_closure, defBody s_closure, defScope s_closure, [], []⟩
def d__law_deck : He.DefD := ⟨("_law_deck", none), "_law_deck", "_law_deck", defArgs s__law_deck, defBody s__law_deck, defScope s__law_deck, [], []⟩
def d__law_next : He.DefD := ⟨("_law_next", none), "_law_next", "_law_next", defArgs s__law_next, defBody s__law_next, defScope s__law_next, [], []⟩
def d__law_great : He.DefD := ⟨("_law_great", none), "_law_great", "_law_great", defArgs s__law_great, defBody s__law_great, defScope s__law_great, [], []⟩
def d__law_level : He.DefD := ⟨("_law_level", none), "_law_level", "_law_level", defArgs s__law_level, defBody s__law_level, defScope s__law_level, [], []⟩
def d__law_row : He.DefD := ⟨("_law_row", none), "_law_row", "_law_row", defArgs s__law_row, defBody s__law_row, defScope s__law_row, [], []⟩
def d__law_square : He.DefD := ⟨("_law_square", none), "_law_square", "_law_square", defArgs s__law_square, defBody s__law_square, defScope s__law_square, [], []⟩
def d__law_above : He.DefD := ⟨("_law_above", none), "_law_above", "_law_above", defArgs s__law_above, defBody s__law_above, defScope s__law_above, [], []⟩
def d__law_right : He.DefD := ⟨("_law_right", none), "_law_right", "_law_right", defArgs s__law_right, defBody s__law_right, defScope s__law_right, [], []⟩
def d__law_closure_right : He.DefD := ⟨("_law_closure_right", none), "_law_closure_right", "_law_closure_right", defArgs s__law_closure_right, defBody s__law_closure_right, defScope s__law_closure_right, [], []⟩
def d_law : He.DefD := ⟨("law", none), "law", "law", defArgs s_law, defBody s_law, defScope s_law, [], []⟩
def fnL : List He.DefD := [d_is_integer_in, d_inlets_of, d_row_level, d_turned, d_multiply, d_product, d_check_square, d_unit_table, d_power, d_index_and_period, d_closure, d__law_deck, d__law_next, d__law_great, d__law_level, d__law_row, d__law_square, d__law_above, d__law_right, d__law_closure_right, d_law]
def faL : List He.Fa := [.glo "is_integer_in", .glo "inlets_of", .glo "row_level", .glo "turned", .glo "multiply", .glo "product", .glo "check_square", .glo "unit_table", .glo "power", .glo "index_and_period", .glo "closure", .glo "_law_deck", .glo "_law_next", .glo "_law_great", .glo "_law_level", .glo "_law_row", .glo "_law_square", .glo "_law_above", .glo "_law_right", .glo "_law_closure_right", .glo "law", .free "abs", .free "bool", .free "int", .free "isinstance", .free "len", .free "list", .free "max", .free "min", .free "range", .free "tuple", .free "zip", .int "MAX_EXPONENT" 1000000000000000000, .int "TOP" 1000000000000]
abbrev RR : PySem.W.OpenRow := PySem.W.OpenLaw.row PySem.Challenge.rw_widthmix_k45_whole_far_powers
abbrev hk : PySem.W.Hook := He.hookD 4 faL fnL
def obs (s : PySem.W.SharedT) : He.AlD := He.obsDG 4 faL fnL (HandSHeadRun.getT s)
theorem obs_eq (s : PySem.W.SharedT) : obs s = hk.obs s.abs := He.obsDG_eq (HandSHeadRun.getT_eq s)
def lo0 : List Str := ["WidthError", "NoMatch", "NotSquare", "NoExponent", "TOP", "MAX_EXPONENT", "is_integer_in", "inlets_of", "row_level", "turned", "multiply", "product", "check_square", "unit_table", "power", "index_and_period", "closure", "_law_deck", "_law_next", "_law_great", "_law_level", "_law_row", "_law_square", "_law_above", "_law_right", "_law_closure_right"]
def lo : List Str := lo0
theorem run (w : World) : HandSHeadRun.RunEq RR (PySem.W.view RR.prog [31]) hk obs 20000 lo w := by
  intro os
  kernel_rfl
theorem facts {P : Program} {w : World} {K : PySem.W.Frag} {h : Heap} {mg : Str → Option Value} {f : Addr} (X : K.In h) (G : h.Ns mainGlobals mg) (hfa : mg ("law" : Str) = some (.ref f)) (c : He.SaysD faL fnL K) (GG : Gives 5 b_law) :
    ∃ fd : FuncData, (∀ (s : Shared) (v : Value), BindsTo s fd ⟨[v], []⟩ [("_law_script", v)]) ∧ ∀ base : Heap, K.In base → base.Ns mainGlobals mg → FnOk P w K mg base CX0 6 f fd ["_law_script"] (spLaw K) := by
  obtain ⟨fd_is_integer_in, F_is_integer_in⟩ := c.def_ 0 (d := d_is_integer_in) rfl
  have m_is_integer_in : mg "is_integer_in" = some (.ref (He.ga K "is_integer_in")) := He.glo_ok X G (c.fact 0 (f := .glo "is_integer_in") rfl)
  obtain ⟨fd_inlets_of, F_inlets_of⟩ := c.def_ 1 (d := d_inlets_of) rfl
  have m_inlets_of : mg "inlets_of" = some (.ref (He.ga K "inlets_of")) := He.glo_ok X G (c.fact 1 (f := .glo "inlets_of") rfl)
  obtain ⟨fd_row_level, F_row_level⟩ := c.def_ 2 (d := d_row_level) rfl
  have m_row_level : mg "row_level" = some (.ref (He.ga K "row_level")) := He.glo_ok X G (c.fact 2 (f := .glo "row_level") rfl)
  obtain ⟨fd_turned, F_turned⟩ := c.def_ 3 (d := d_turned) rfl
  have m_turned : mg "turned" = some (.ref (He.ga K "turned")) := He.glo_ok X G (c.fact 3 (f := .glo "turned") rfl)
  obtain ⟨fd_multiply, F_multiply⟩ := c.def_ 4 (d := d_multiply) rfl
  have m_multiply : mg "multiply" = some (.ref (He.ga K "multiply")) := He.glo_ok X G (c.fact 4 (f := .glo "multiply") rfl)
  obtain ⟨fd_product, F_product⟩ := c.def_ 5 (d := d_product) rfl
  have m_product : mg "product" = some (.ref (He.ga K "product")) := He.glo_ok X G (c.fact 5 (f := .glo "product") rfl)
  obtain ⟨fd_check_square, F_check_square⟩ := c.def_ 6 (d := d_check_square) rfl
  have m_check_square : mg "check_square" = some (.ref (He.ga K "check_square")) := He.glo_ok X G (c.fact 6 (f := .glo "check_square") rfl)
  obtain ⟨fd_unit_table, F_unit_table⟩ := c.def_ 7 (d := d_unit_table) rfl
  have m_unit_table : mg "unit_table" = some (.ref (He.ga K "unit_table")) := He.glo_ok X G (c.fact 7 (f := .glo "unit_table") rfl)
  obtain ⟨fd_power, F_power⟩ := c.def_ 8 (d := d_power) rfl
  have m_power : mg "power" = some (.ref (He.ga K "power")) := He.glo_ok X G (c.fact 8 (f := .glo "power") rfl)
  obtain ⟨fd_index_and_period, F_index_and_period⟩ := c.def_ 9 (d := d_index_and_period) rfl
  have m_index_and_period : mg "index_and_period" = some (.ref (He.ga K "index_and_period")) := He.glo_ok X G (c.fact 9 (f := .glo "index_and_period") rfl)
  obtain ⟨fd_closure, F_closure⟩ := c.def_ 10 (d := d_closure) rfl
  have m_closure : mg "closure" = some (.ref (He.ga K "closure")) := He.glo_ok X G (c.fact 10 (f := .glo "closure") rfl)
  obtain ⟨fd__law_deck, F__law_deck⟩ := c.def_ 11 (d := d__law_deck) rfl
  have m__law_deck : mg "_law_deck" = some (.ref (He.ga K "_law_deck")) := He.glo_ok X G (c.fact 11 (f := .glo "_law_deck") rfl)
  obtain ⟨fd__law_next, F__law_next⟩ := c.def_ 12 (d := d__law_next) rfl
  have m__law_next : mg "_law_next" = some (.ref (He.ga K "_law_next")) := He.glo_ok X G (c.fact 12 (f := .glo "_law_next") rfl)
  obtain ⟨fd__law_great, F__law_great⟩ := c.def_ 13 (d := d__law_great) rfl
  have m__law_great : mg "_law_great" = some (.ref (He.ga K "_law_great")) := He.glo_ok X G (c.fact 13 (f := .glo "_law_great") rfl)
  obtain ⟨fd__law_level, F__law_level⟩ := c.def_ 14 (d := d__law_level) rfl
  have m__law_level : mg "_law_level" = some (.ref (He.ga K "_law_level")) := He.glo_ok X G (c.fact 14 (f := .glo "_law_level") rfl)
  obtain ⟨fd__law_row, F__law_row⟩ := c.def_ 15 (d := d__law_row) rfl
  have m__law_row : mg "_law_row" = some (.ref (He.ga K "_law_row")) := He.glo_ok X G (c.fact 15 (f := .glo "_law_row") rfl)
  obtain ⟨fd__law_square, F__law_square⟩ := c.def_ 16 (d := d__law_square) rfl
  have m__law_square : mg "_law_square" = some (.ref (He.ga K "_law_square")) := He.glo_ok X G (c.fact 16 (f := .glo "_law_square") rfl)
  obtain ⟨fd__law_above, F__law_above⟩ := c.def_ 17 (d := d__law_above) rfl
  have m__law_above : mg "_law_above" = some (.ref (He.ga K "_law_above")) := He.glo_ok X G (c.fact 17 (f := .glo "_law_above") rfl)
  obtain ⟨fd__law_right, F__law_right⟩ := c.def_ 18 (d := d__law_right) rfl
  have m__law_right : mg "_law_right" = some (.ref (He.ga K "_law_right")) := He.glo_ok X G (c.fact 18 (f := .glo "_law_right") rfl)
  obtain ⟨fd__law_closure_right, F__law_closure_right⟩ := c.def_ 19 (d := d__law_closure_right) rfl
  have m__law_closure_right : mg "_law_closure_right" = some (.ref (He.ga K "_law_closure_right")) := He.glo_ok X G (c.fact 19 (f := .glo "_law_closure_right") rfl)
  obtain ⟨fd_law, F_law⟩ := c.def_ 20 (d := d_law) rfl
  have m_law : mg "law" = some (.ref (He.ga K "law")) := He.glo_ok X G (c.fact 20 (f := .glo "law") rfl)
  have e := hfa.symm.trans m_law
  cases e
  refine ⟨fd_law, fun s v => FunD.bindsA (ps := ["_law_script"]) F_law (fun _ _ _ _ _ _ us hl => match us, hl with | [_], _ => rfl) s [v] rfl, fun base _ _ => ?_⟩
  have T : Tx P w K mg base := ⟨He.free_ok X G (c.fact 22 (f := .free "bool") rfl), He.free_ok X G (c.fact 23 (f := .free "int") rfl), He.free_ok X G (c.fact 24 (f := .free "isinstance") rfl), He.free_ok X G (c.fact 25 (f := .free "len") rfl), He.free_ok X G (c.fact 26 (f := .free "list") rfl), He.free_ok X G (c.fact 27 (f := .free "max") rfl), He.free_ok X G (c.fact 28 (f := .free "min") rfl), He.free_ok X G (c.fact 29 (f := .free "range") rfl), He.free_ok X G (c.fact 30 (f := .free "tuple") rfl), He.free_ok X G (c.fact 31 (f := .free "zip") rfl), He.int_ok X G (c.fact 32 (f := .int "MAX_EXPONENT" 1000000000000000000) rfl), He.int_ok X G (c.fact 33 (f := .int "TOP" 1000000000000) rfl), He.free_ok X G (c.fact 21 (f := .free "abs") rfl), He.free_ok X G (c.fact 25 (f := .free "len") rfl)⟩
  have O_is_integer_in : OkF P w K mg base "is_integer_in" 3 1 f_is_integer_in := ok_is_integer_in T F_is_integer_in m_is_integer_in 
  have O_inlets_of : OkF P w K mg base "inlets_of" 1 1 f_inlets_of := ok_inlets_of T F_inlets_of m_inlets_of 
  have O_row_level : OkF P w K mg base "row_level" 2 1 f_row_level := ok_row_level T F_row_level m_row_level 
  have O_turned : OkF P w K mg base "turned" 1 2 f_turned := ok_turned T F_turned m_turned O_inlets_of
  have O_multiply : OkF P w K mg base "multiply" 2 3 f_multiply := ok_multiply T F_multiply m_multiply O_row_level O_turned
  have O_product : OkF P w K mg base "product" 2 4 f_product := ok_product T F_product m_product O_multiply O_inlets_of
  have O_check_square : OkF P w K mg base "check_square" 1 2 f_check_square := ok_check_square T F_check_square m_check_square O_inlets_of
  have O_unit_table : OkF P w K mg base "unit_table" 1 1 f_unit_table := ok_unit_table T F_unit_table m_unit_table 
  have O_power : OkF P w K mg base "power" 2 4 f_power := ok_power T F_power m_power O_multiply O_unit_table O_is_integer_in O_check_square
  have O_index_and_period : OkF P w K mg base "index_and_period" 1 4 f_index_and_period := ok_index_and_period T F_index_and_period m_index_and_period O_multiply O_unit_table O_check_square
  have O_closure : OkF P w K mg base "closure" 1 3 f_closure := ok_closure T F_closure m_closure O_check_square
  have O__law_next : OkF P w K mg base "_law_next" 2 1 drawF := ok__law_next T F__law_next m__law_next 
  have O__law_great : OkF P w K mg base "_law_great" 1 2 f__law_great := ok__law_great T F__law_great m__law_great O__law_next
  have O__law_level : OkF P w K mg base "_law_level" 2 2 f__law_level := ok__law_level T F__law_level m__law_level O__law_next
  have O__law_row : OkF P w K mg base "_law_row" 3 3 f__law_row := ok__law_row T F__law_row m__law_row O__law_level
  have O__law_square : OkF P w K mg base "_law_square" 3 4 f__law_square := ok__law_square T F__law_square m__law_square O__law_row O__law_next
  have O__law_above : OkF P w K mg base "_law_above" 2 1 f__law_above := ok__law_above T F__law_above m__law_above 
  have O__law_right : OkF P w K mg base "_law_right" 2 5 f__law_right := ok__law_right T F__law_right m__law_right O_power O_product O__law_next O_index_and_period
  have O__law_closure_right : OkF P w K mg base "_law_closure_right" 1 5 f__law_closure_right := ok__law_closure_right T F__law_closure_right m__law_closure_right O__law_above O_product O_power O_closure O_index_and_period
  exact FnOk.cx0 (ok_law T GG F_law F__law_deck m__law_deck O__law_closure_right O__law_right O__law_next O__law_square O__law_great) fun _ _ _ _ h => h
end W45
open PySem PySem.W PySem.Calls PyProof.Rows
set_option maxRecDepth 100000 in
set_option maxHeartbeats 0 in
theorem PySem.Challenge.cw_widthmix_k45_whole_far_powers_holds : PySem.Challenge.rw_widthmix_k45_whole_far_powers.Holds := by
  w_on; o_law
  refine HandSHeadRun.head_any (r := OpenLaw.row PySem.Challenge.rw_widthmix_k45_whole_far_powers) (q := view (OpenLaw.row PySem.Challenge.rw_widthmix_k45_whole_far_powers).prog [31]) (H := W45.hk) (ob := W45.obs) (M := 20000) (loose := W45.lo) (d := HandSHeadRun.topDef (OpenLaw.row PySem.Challenge.rw_widthmix_k45_whole_far_powers).prog 31) (kwd := []) W45.obs_eq
    (by kernel_rfl) (fun s => by kernel_rfl) W45.run (by kernel_rfl) (by kernel_rfl) (by kernel_rfl) (by rfl) (by first | assumption | decide +kernel) (by decide +kernel) ⟨rfl, rfl, rfl, rfl, rfl, by decide +kernel⟩ ?hw ?hc
  case hw => w_witness2
  case hc =>
    refine L2.walk_ofE (l := PySem.Challenge.rw_widthmix_k45_whole_far_powers) (n := 63) (k := 6) (x := "_law_script") (CX := L2.CX0) rfl (by decide) (by kernel_rfl) ⟨rfl, by decide, by decide⟩ ?F (fun _ _ _ _ z => z)
    intro w mg fa h Y G hmg0
    obtain ⟨K, KX, c⟩ := Y
    have hmg : mg ("law" : PySem.Str) = some (.ref fa) := by
      have e : (HandSHeadRun.topDef (OpenLaw.row PySem.Challenge.rw_widthmix_k45_whole_far_powers).prog 31).name = ("law" : PySem.Str) := by kernel_rfl
      rw [← e]
      exact hmg0
    obtain ⟨fd, hb, hF⟩ := W45.facts (P := (PySem.Challenge.rw_widthmix_k45_whole_far_powers).prog) (w := w) KX G hmg c W45.gives
    exact ⟨K, fd, Den.spLaw K, KX, hb, fun H a ns hl _ hS => ⟨a, ns, rfl, hS, hl, fun _ => rfl⟩, hF⟩
