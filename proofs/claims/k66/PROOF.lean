import PyProof.Rows.All
import Wide.All
import OpenK.AllK
import Wide.FinOn
import HandS.ForMost
import HandS.Exc
import HandS.ExcOwn
import HandS.WordsExc
import HandS.Walk
import HandS.CallSlots
import HandS.Wide
import HandS.TupAny
import HandS.Conv
import HandS.FStr
import HandS.IsInst
import HandS.Zip
import HandS.Style
import HandS.SortInts
import HandS.Text
import KE.KUnpackStar
import HandS.Ends
import HandS.EndBits
import PySem.Challenge.RW_payorder_k66_texts_formatted_and_parsed
set_option Elab.async false
set_option linter.all false
set_option maxRecDepth 100000
set_option maxHeartbeats 4000000
/-! PB1: plain data D, a store of objects O, how they stand in HandS's abstract heap, denotations and their readings. -/
namespace PB
open PySem PySem.Spec PyProof.Rows L2

/-- plain data: numbers, texts, tuples, lists and dicts that are not changed any more; ref l: the object at place l of the store; cls c: the c-th class -/
inductive D where
  | non | bl (b : Bool) | int (i : Int) | str (s : Str)
  | tup (ds : List D) | lst (ds : List D) | scr (ds : List D) | dct (ks : List Key) (ds : List D) | ref (l : Nat) | cls (c : Nat)

/-- objects that may change -/
inductive O where
  | lst (ds : List D) | dct (ks : List Key) (ds : List D) | ins (c : Nat) (fs : List (Str × D))

/-- what a piece of code comes to: a value and the store behind it; an exception of the c-th class with its fields; nothing that is covered here -/
inductive Rs (α : Type) where
  | ok (a : α) (S : List O) | ex (c : Nat) (fs : List (Str × D)) (S : List O) | no
def Rs.bind {α β : Type} (r : Rs α) (f : α → List O → Rs β) : Rs β :=
  match r with
  | .ok a S => f a S
  | .ex c fs S => .ex c fs S
  | .no => .no
@[simp] theorem Rs.bind_ok {α β : Type} (a : α) (S : List O) (f : α → List O → Rs β) : (Rs.ok a S).bind f = f a S := rfl
@[simp] theorem Rs.bind_ex {α β : Type} (c : Nat) (fs : List (Str × D)) (S : List O) (f : α → List O → Rs β) : (Rs.ex c fs S).bind f = .ex c fs S := rfl
@[simp] theorem Rs.bind_no {α β : Type} (f : α → List O → Rs β) : (Rs.no : Rs α).bind f = .no := rfl

abbrev DEnv := List (Option D)
abbrev ED := DEnv → List O → Rs D
abbrev EDs := DEnv → List O → Rs (List D)
abbrev Fn := List D → List O → Rs D

structure Cf where
  K : PySem.W.Frag
  ct : Nat → Addr
  /-- objects that no data leans on: lists that are just being made -/
  R : List Addr := []
abbrev Cf.on (cf : Cf) (R : List Addr) : Cf := { cf with R := R }

/-- a list of the written part -/
def KLst (K : PySem.W.Frag) (a : Addr) (xs : List V) : Prop := ∃ (o : Obj) (its : Array Value) (n : Nat), K.lookup a = some o ∧ o.cls = .type "list" ∧ o.dict = none ∧ o.data = .seq its n ∧ its.size ≤ sizeLine ∧ Vals xs its.toList

section
variable (cf : Cf) (ι : List Addr) (H : Hp)
mutual
def Rep : D → V → Prop
  | .non, v => v = .non
  | .bl b, v => v = .bl b
  | .int i, v => v = .int i
  | .str s, v => v = .str s
  | .tup ds, v => ∃ a vs, v = .ref a ∧ SqT cf.K H a vs ∧ Reps ds vs
  | .lst ds, v => ∃ a vs, v = .ref a ∧ H a = some (.lst vs) ∧ (a ∉ ι ∧ a ∉ cf.R) ∧ Reps ds vs
  | .scr ds, v => ∃ a vs, v = .ref a ∧ ((Rd H a (.lst vs) ∧ (a ∉ ι ∧ a ∉ cf.R)) ∨ KLst cf.K a vs) ∧ Reps ds vs
  | .dct ks ds, v => ∃ a kvs, v = .ref a ∧ Rd H a (.dK kvs) ∧ (a ∉ ι ∧ a ∉ cf.R) ∧ kvs.map (·.1) = ks ∧ Reps ds (kvs.map (·.2))
  | .ref l, v => ∃ a, v = .ref a ∧ ι[l]? = some a
  | .cls c, v => v = .ref (cf.ct c)
def Reps : List D → List V → Prop
  | [], vs => vs = []
  | d :: ds, vs => ∃ v r, vs = v :: r ∧ Rep d v ∧ Reps ds r
end
end

theorem Reps.length {cf : Cf} {ι : List Addr} {H : Hp} : ∀ {ds : List D} {vs : List V}, Reps cf ι H ds vs → vs.length = ds.length
  | [], vs, h => by unfold Reps at h; rw [h]; rfl
  | d :: ds, vs, h => by
    unfold Reps at h
    obtain ⟨v, r, rfl, _, h⟩ := h
    rw [List.length_cons, List.length_cons, Reps.length h]
theorem Reps.get {cf : Cf} {ι : List Addr} {H : Hp} : ∀ {ds : List D} {vs : List V} {i : Nat} {d : D}, Reps cf ι H ds vs → ds[i]? = some d → ∃ v, vs[i]? = some v ∧ Rep cf ι H d v
  | [], vs, i, d, h, e => by simp at e
  | d0 :: ds, vs, 0, d, h, e => by
    unfold Reps at h
    obtain ⟨v, r, rfl, h1, h⟩ := h
    simp at e; subst e
    exact ⟨v, rfl, h1⟩
  | d0 :: ds, vs, i + 1, d, h, e => by
    unfold Reps at h
    obtain ⟨v, r, rfl, _, h⟩ := h
    obtain ⟨x, h1, h2⟩ := Reps.get (i := i) h (by simpa using e)
    exact ⟨x, by simpa using h1, h2⟩
theorem Reps.nil {cf : Cf} {ι : List Addr} {H : Hp} : Reps cf ι H [] [] := by unfold Reps; rfl
theorem Reps.cons {cf : Cf} {ι : List Addr} {H : Hp} {d : D} {v : V} {ds : List D} {vs : List V} (h1 : Rep cf ι H d v) (h2 : Reps cf ι H ds vs) : Reps cf ι H (d :: ds) (v :: vs) := by
  unfold Reps; exact ⟨v, vs, rfl, h1, h2⟩
theorem Reps.append {cf : Cf} {ι : List Addr} {H : Hp} : ∀ {ds es : List D} {vs ws : List V}, Reps cf ι H ds vs → Reps cf ι H es ws → Reps cf ι H (ds ++ es) (vs ++ ws)
  | [], es, vs, ws, h, g => by unfold Reps at h; rw [h]; exact g
  | d :: ds, es, vs, ws, h, g => by
    unfold Reps at h
    obtain ⟨v, r, rfl, h1, h⟩ := h
    exact .cons h1 (Reps.append h g)
theorem Reps.set {cf : Cf} {ι : List Addr} {H : Hp} {d : D} {v : V} (r : Rep cf ι H d v) : ∀ {ds : List D} {vs : List V} (i : Nat), Reps cf ι H ds vs → Reps cf ι H (ds.set i d) (vs.set i v)
  | [], vs, i, h => by unfold Reps at h; subst h; exact .nil
  | d0 :: ds, vs, 0, h => by
    unfold Reps at h
    obtain ⟨v, r, rfl, h1, h⟩ := h
    exact .cons ‹_› h
  | d0 :: ds, vs, i + 1, h => by
    unfold Reps at h
    obtain ⟨v, r, rfl, h1, h⟩ := h
    exact .cons h1 (Reps.set ‹_› i h)
theorem Reps.take {cf : Cf} {ι : List Addr} {H : Hp} : ∀ {ds : List D} {vs : List V} (n : Nat), Reps cf ι H ds vs → Reps cf ι H (ds.take n) (vs.take n)
  | ds, vs, 0, h => by simpa using (Reps.nil : Reps cf ι H [] [])
  | [], vs, n + 1, h => by unfold Reps at h; subst h; exact .nil
  | d :: ds, vs, n + 1, h => by
    unfold Reps at h
    obtain ⟨v, r, rfl, h1, h⟩ := h
    exact .cons h1 (Reps.take n h)
theorem Reps.drop {cf : Cf} {ι : List Addr} {H : Hp} : ∀ {ds : List D} {vs : List V} (n : Nat), Reps cf ι H ds vs → Reps cf ι H (ds.drop n) (vs.drop n)
  | ds, vs, 0, h => h
  | [], vs, n + 1, h => by unfold Reps at h; subst h; exact .nil
  | d :: ds, vs, n + 1, h => by
    unfold Reps at h
    obtain ⟨v, r, rfl, h1, h⟩ := h
    exact Reps.drop n h
theorem Reps.reverse {cf : Cf} {ι : List Addr} {H : Hp} : ∀ {ds : List D} {vs : List V}, Reps cf ι H ds vs → Reps cf ι H ds.reverse vs.reverse
  | [], vs, h => by unfold Reps at h; subst h; exact .nil
  | d :: ds, vs, h => by
    unfold Reps at h
    obtain ⟨v, r, rfl, h1, h⟩ := h
    rw [List.reverse_cons, List.reverse_cons]
    exact Reps.append (Reps.reverse h) (.cons h1 .nil)

/-- behind: what stood outside the store stands, the store may have grown -/
structure Ext (ι : List Addr) (H : Hp) (ι' : List Addr) (H' : Hp) : Prop where
  pre : ∃ t, ι' = ι ++ t
  keep : ∀ a u, Rd H a u → a ∉ ι → Rd H' a u ∧ a ∉ ι'
  lst : ∀ a vs, H a = some (.lst vs) → a ∉ ι → H' a = some (.lst vs)
  tup : ∀ a xs, Rd H a (.tup xs) → Rd H' a (.tup xs)
theorem Ext.refl {ι : List Addr} {H : Hp} : Ext ι H ι H := ⟨⟨[], by simp⟩, fun _ _ h n => ⟨h, n⟩, fun _ _ h _ => h, fun _ _ h => h⟩
theorem Ext.trans {ι ι1 ι2 : List Addr} {H H1 H2 : Hp} (a : Ext ι H ι1 H1) (b : Ext ι1 H1 ι2 H2) : Ext ι H ι2 H2 := by
  refine ⟨?_, fun x u h n => ?_, fun x vs h n => b.lst x vs (a.lst x vs h n) (a.keep x _ (.inl h) n).2, fun x xs h => b.tup x xs (a.tup x xs h)⟩
  · obtain ⟨t, rfl⟩ := a.pre
    obtain ⟨t', rfl⟩ := b.pre
    exact ⟨t ++ t', by simp⟩
  · obtain ⟨h1, n1⟩ := a.keep x u h n
    exact b.keep x u h1 n1
theorem Ext.get {ι ι' : List Addr} {H H' : Hp} (e : Ext ι H ι' H') {l : Nat} {a : Addr} (h : ι[l]? = some a) : ι'[l]? = some a := by
  obtain ⟨t, rfl⟩ := e.pre
  rw [List.getElem?_append_left (List.getElem?_eq_some_iff.mp h).1]
  exact h
theorem Ext.sqt {cf : Cf} {ι ι' : List Addr} {H H' : Hp} (e : Ext ι H ι' H') {a : Addr} {xs : List V} (h : SqT cf.K H a xs) : SqT cf.K H' a xs := h.imp (e.tup a xs) id
mutual
theorem Rep.mono {cf : Cf} {ι ι' : List Addr} {H H' : Hp} (e : Ext ι H ι' H') : ∀ {d : D} {v : V}, Rep cf ι H d v → Rep cf ι' H' d v
  | .non, v, h => by unfold Rep at h ⊢; exact h
  | .bl b, v, h => by unfold Rep at h ⊢; exact h
  | .int i, v, h => by unfold Rep at h ⊢; exact h
  | .str s, v, h => by unfold Rep at h ⊢; exact h
  | .tup ds, v, h => by
    unfold Rep at h ⊢
    obtain ⟨a, vs, h1, h2, h3⟩ := h
    exact ⟨a, vs, h1, e.sqt h2, Reps.mono e h3⟩
  | .lst ds, v, h => by
    unfold Rep at h ⊢
    obtain ⟨a, vs, h1, h2, h3, h4⟩ := h
    exact ⟨a, vs, h1, e.lst a vs h2 h3.1, ⟨(e.keep a _ (.inl h2) h3.1).2, h3.2⟩, Reps.mono e h4⟩
  | .scr ds, v, h => by
    unfold Rep at h ⊢
    obtain ⟨a, vs, h1, h2, h3⟩ := h
    exact ⟨a, vs, h1, h2.imp (fun z => ⟨(e.keep a _ z.1 z.2.1).1, (e.keep a _ z.1 z.2.1).2, z.2.2⟩) id, Reps.mono e h3⟩
  | .dct ks ds, v, h => by
    unfold Rep at h ⊢
    obtain ⟨a, kvs, h1, h2, h3, h4, h5⟩ := h
    exact ⟨a, kvs, h1, (e.keep a _ h2 h3.1).1, ⟨(e.keep a _ h2 h3.1).2, h3.2⟩, h4, Reps.mono e h5⟩
  | .ref l, v, h => by
    unfold Rep at h ⊢
    obtain ⟨a, h1, h2⟩ := h
    exact ⟨a, h1, e.get h2⟩
  | .cls c, v, h => by unfold Rep at h ⊢; exact h
theorem Reps.mono {cf : Cf} {ι ι' : List Addr} {H H' : Hp} (e : Ext ι H ι' H') : ∀ {ds : List D} {vs : List V}, Reps cf ι H ds vs → Reps cf ι' H' ds vs
  | [], vs, h => by unfold Reps at h ⊢; exact h
  | d :: ds, vs, h => by
    unfold Reps at h ⊢
    obtain ⟨v, r, h1, h2, h3⟩ := h
    exact ⟨v, r, h1, Rep.mono e h2, Reps.mono e h3⟩
end

def RepO (cf : Cf) (ι : List Addr) (H : Hp) : O → Addr → Prop
  | .lst ds, a => ∃ vs, H a = some (.lst vs) ∧ Reps cf ι H ds vs
  | .dct ks ds, a => ∃ kvs, H a = some (.dK kvs) ∧ kvs.map (·.1) = ks ∧ Reps cf ι H ds (kvs.map (·.2))
  | .ins c fs, a => ∃ dx fs', H a = some (.ins (cf.ct c) dx fs') ∧ fs'.map (·.1) = fs.map (·.1) ∧ Reps cf ι H (fs.map (·.2)) (fs'.map (·.2))
/-- the store stands in the heap -/
structure Sim (cf : Cf) (ι : List Addr) (H : Hp) (S : List O) : Prop where
  len : ι.length = S.length
  nd : ι.Nodup
  obj : ∀ (l : Nat) (o : O) (a : Addr), S[l]? = some o → ι[l]? = some a → RepO cf ι H o a
  sz : ∀ a xs, Rd H a (.lst xs) ∨ Rd H a (.tup xs) → xs.length ≤ sizeLine
  rdis : ∀ a ∈ cf.R, a ∉ ι
  rat : ∀ a ∈ cf.R, ∃ o, H a = some o

def EnvR (cf : Cf) (ι : List Addr) (H : Hp) (env : DEnv) (σ : L2.St) : Prop :=
  env.length = σ.length ∧ ∀ (i : Nat) (d : D), env[i]? = some (some d) → ∃ v, σ[i]? = some (some v) ∧ Rep cf ι H d v
theorem EnvR.mono {cf : Cf} {ι ι' : List Addr} {H H' : Hp} {env : DEnv} {σ : L2.St} (e : Ext ι H ι' H') (h : EnvR cf ι H env σ) : EnvR cf ι' H' env σ :=
  ⟨h.1, fun i d q => let ⟨v, h1, h2⟩ := h.2 i d q; ⟨v, h1, h2.mono e⟩⟩
theorem EnvR.set {cf : Cf} {ι : List Addr} {H : Hp} {env : DEnv} {σ : L2.St} (h : EnvR cf ι H env σ) {d : D} {v : V} (r : Rep cf ι H d v) (i : Nat) : EnvR cf ι H (env.set i (some d)) (σ.set i (some v)) := by
  refine ⟨by simpa using h.1, fun j d' q => ?_⟩
  by_cases e : j = i
  · subst e
    have hl : j < env.length := by
      have := (List.getElem?_eq_some_iff.mp q).1
      simpa using this
    rw [List.getElem?_set_self hl] at q
    cases q
    exact ⟨v, by rw [List.getElem?_set_self (by rw [← h.1]; exact hl)], r⟩
  · rw [List.getElem?_set_ne (Ne.symm e)] at q
    obtain ⟨w, h1, h2⟩ := h.2 j d' q
    exact ⟨w, by rw [List.getElem?_set_ne (Ne.symm e)]; exact h1, h2⟩

/-- an exception's own dict -/
def RepX (cf : Cf) (ι : List Addr) (H : Hp) (fs : List (Str × D)) (dd : Option Addr) : Prop :=
  fs = [] ∨ ∃ a fs', dd = some a ∧ H a = some (.xd fs') ∧ a ∉ ι ∧ fs'.map (·.1) = fs.map (·.1) ∧ Reps cf ι H (fs.map (·.2)) (fs'.map (·.2))

/-- a result, by what is wanted of it -/
def KR {α : Type} (cf : Cf) (ι : List Addr) (H : Hp) (W : Value → Option Addr → Hp → Prop) (Y : List Addr → Hp → α → List O → Prop) : Rs α → Prop
  | .ok a S => ∀ ι' H', Ext ι H ι' H' → Sim cf ι' H' S → Y ι' H' a S
  | .ex c fs S => ∀ ι' H' dd, Ext ι H ι' H' → Sim cf ι' H' S → RepX cf ι' H' fs dd → W (.ref (cf.ct c)) dd H'
  | .no => False
theorem KR.mono {α : Type} {cf : Cf} {ι : List Addr} {H : Hp} {W : Value → Option Addr → Hp → Prop} {Y Y' : List Addr → Hp → α → List O → Prop} {r : Rs α} (h : KR cf ι H W Y r)
    (hy : ∀ ι' H' a S, Ext ι H ι' H' → Sim cf ι' H' S → Y ι' H' a S → Y' ι' H' a S) : KR cf ι H W Y' r := by
  cases r with
  | ok a S => exact fun ι' H' e s => hy _ _ _ _ e s (h ι' H' e s)
  | ex c fs S => exact h
  | no => exact h
theorem KR.ext {α : Type} {cf : Cf} {ι ι1 : List Addr} {H H1 : Hp} {W : Value → Option Addr → Hp → Prop} {Y : List Addr → Hp → α → List O → Prop} {r : Rs α} (e : Ext ι H ι1 H1) (h : KR cf ι H W Y r) : KR cf ι1 H1 W Y r := by
  cases r with
  | ok a S => exact fun ι' H' e' s => h ι' H' (e.trans e') s
  | ex c fs S => exact fun ι' H' dd e' s x => h ι' H' dd (e.trans e') s x
  | no => exact h
theorem KR.bind {α β : Type} {cf : Cf} {ι : List Addr} {H : Hp} {W : Value → Option Addr → Hp → Prop} {Y : List Addr → Hp → β → List O → Prop} {r : Rs α} {f : α → List O → Rs β} (h : KR cf ι H W Y (r.bind f)) :
    KR cf ι H W (fun ι' H' a S => KR cf ι' H' W Y (f a S)) r := by
  cases r with
  | ok a S => exact fun ι' H' e s => KR.ext e h
  | ex c fs S => exact h
  | no => exact h

/-! ### readings by denotations -/
/-- an expression -/
def tE (cf : Cf) (W : L2.WX) (m : ED) : L2.TE := fun σ H Q => ∃ R ι env S, EnvR (cf.on R) ι H env σ ∧ Sim (cf.on R) ι H S ∧ KR (cf.on R) ι H (fun c d H' => W c d σ H') (fun ι' H' d _ => ∀ v, Rep (cf.on R) ι' H' d v → Q v H') (m env S)
/-- a test -/
def tT (cf : Cf) (W : L2.WX) (m : ED) : L2.TT := fun σ H Q => ∃ R ι env S, EnvR (cf.on R) ι H env σ ∧ Sim (cf.on R) ι H S ∧ KR (cf.on R) ι H (fun c d H' => W c d σ H') (fun _ H' d _ => ∃ b, d = .bl b ∧ Q b H') (m env S)
/-- arguments -/
def tA (cf : Cf) (W : L2.WX) (m : EDs) : L2.TA := fun σ H Q => ∃ R ι env S, EnvR (cf.on R) ι H env σ ∧ Sim (cf.on R) ι H S ∧ KR (cf.on R) ι H (fun c d H' => W c d σ H') (fun ι' H' ds _ => ∀ vs, Reps (cf.on R) ι' H' ds vs → Q vs H') (m env S)

/-- the reading may be strengthened -/
theorem _root_.L2.PE.wk {X : Cx} {e : Expr} {t t' : L2.TE} (h : PE X e t) (i : ∀ σ H Q, t' σ H Q → t σ H Q) : PE X e t' := ⟨fun pins s σ H Q I q => h.run pins s σ H Q I (i σ H Q q)⟩
theorem _root_.L2.PT.wk {X : Cx} {e : Expr} {t t' : L2.TT} (h : PT X e t) (i : ∀ σ H Q, t' σ H Q → t σ H Q) : PT X e t' := ⟨fun pins s σ H Q I q => h.run pins s σ H Q I (i σ H Q q)⟩
theorem _root_.L2.PW.wk {X : Cx} {e : Expr} {t t' : L2.TT} (h : PW X e t) (i : ∀ σ H Q, t' σ H Q → t σ H Q) : PW X e t' := ⟨fun wh pins s σ H Q I q => h.run wh pins s σ H Q I (i σ H Q q)⟩
theorem _root_.L2.PA.wk {X : Cx} {es : List Expr} {t t' : L2.TA} (h : PA X es t) (i : ∀ σ H Q, t' σ H Q → t σ H Q) : PA X es t' := ⟨fun pos pins s σ H Q I q => h.run pos pins s σ H Q I (i σ H Q q)⟩
theorem _root_.L2.PS.wk {X : Cx} {e : Stmt} {t t' : L2.TS} (h : PS X e t) (i : ∀ D σ H, t' D σ H → t D σ H) : PS X e t' := ⟨fun pins s σ H D I q => h.run pins s σ H D I (i D σ H q)⟩
theorem _root_.L2.PSs.wk {X : Cx} {e : List Stmt} {t t' : L2.TS} (h : PSs X e t) (i : ∀ D σ H, t' D σ H → t D σ H) : PSs X e t' := ⟨fun pins s σ H D I q => h.run pins s σ H D I (i D σ H q)⟩
end PB

set_option Elab.async false
set_option linter.all false
set_option maxRecDepth 100000
set_option maxHeartbeats 4000000
namespace PB
open PySem PySem.Spec PyProof.Rows L2

/-! ### heaps that grow -/
section
variable {cf : Cf} {ι : List Addr} {H : Hp} {S : List O} {p : Addr} {o : HO}
theorem rd_upd {H : Hp} {p a : Addr} {o u : HO} (hp : H p = none) (h : Rd H a u) : Rd (upd H p o) a u := by
  rcases h with h | ⟨ob, h⟩
  · exact .inl (by rw [upd_ne (ne_of_none h hp)]; exact h)
  · exact .inr ⟨ob, by rw [upd_ne (ne_of_none h hp)]; exact h⟩
theorem Ext.new (hp : H p = none) : Ext ι H ι (upd H p o) := ⟨⟨[], by simp⟩, fun _ _ h n => ⟨rd_upd hp h, n⟩, fun _ _ h _ => by rw [upd_ne (ne_of_none h hp)]; exact h, fun _ _ h => rd_upd hp h⟩
theorem rd_ne {H : Hp} {p a : Addr} {u : HO} (hp : H p = none) (h : Rd H a u) : a ≠ p := by
  rcases h with h | ⟨ob, h⟩
  · exact ne_of_none h hp
  · exact ne_of_none h hp
theorem Ext.push (hp : H p = none) : Ext ι H (ι ++ [p]) (upd H p o) := ⟨⟨[p], rfl⟩, fun a _ h n => ⟨rd_upd hp h, by simp [n, rd_ne hp h]⟩, fun _ _ h _ => by rw [upd_ne (ne_of_none h hp)]; exact h, fun _ _ h => rd_upd hp h⟩
theorem RepO.mono {ι' : List Addr} {H' : Hp} (e : Ext ι H ι' H') {ob : O} {a : Addr} (h : RepO cf ι H ob a) (k : ∀ u, H a = some u → H' a = some u) : RepO cf ι' H' ob a := by
  cases ob with
  | lst ds => obtain ⟨vs, h1, h2⟩ := h; exact ⟨vs, k _ h1, h2.mono e⟩
  | dct ks ds => obtain ⟨kvs, h1, h2, h3⟩ := h; exact ⟨kvs, k _ h1, h2, h3.mono e⟩
  | ins c fs => obtain ⟨dx, fs', h1, h2, h3⟩ := h; exact ⟨dx, fs', k _ h1, h2, h3.mono e⟩
theorem RepO.some {ob : O} {a : Addr} (h : RepO cf ι H ob a) : ∃ u, H a = some u := by
  cases ob with
  | lst ds => obtain ⟨vs, h1, _⟩ := h; exact ⟨_, h1⟩
  | dct ks ds => obtain ⟨kvs, h1, _⟩ := h; exact ⟨_, h1⟩
  | ins c fs => obtain ⟨dx, fs', h1, _⟩ := h; exact ⟨_, h1⟩
/-- a size that a new object bears -/
def SzO (o : HO) : Prop := (∀ xs, o = .lst xs → xs.length ≤ sizeLine) ∧ (∀ xs, o = .tup xs → xs.length ≤ sizeLine) ∧ ∀ ob u, o ≠ .frz ob u
theorem szo_lst {xs : List V} (h : xs.length ≤ sizeLine) : SzO (.lst xs) := by
  refine ⟨fun ys e => ?_, fun ys e => ?_, fun _ _ e => ?_⟩
  · cases e; exact h
  · cases e
  · cases e
theorem szo_tup {xs : List V} (h : xs.length ≤ sizeLine) : SzO (.tup xs) := by
  refine ⟨fun ys e => ?_, fun ys e => ?_, fun _ _ e => ?_⟩
  · cases e
  · cases e; exact h
  · cases e
theorem sz_upd (hz : ∀ a xs, Rd H a (.lst xs) ∨ Rd H a (.tup xs) → xs.length ≤ sizeLine) (ho : SzO o) : ∀ a xs, Rd (upd H p o) a (.lst xs) ∨ Rd (upd H p o) a (.tup xs) → xs.length ≤ sizeLine := by
  intro a xs h
  by_cases e : a = p
  · subst e
    rcases h with (h | ⟨ob, h⟩) | (h | ⟨ob, h⟩)
    · rw [upd_same] at h; exact ho.1 xs (Option.some.inj h)
    · rw [upd_same] at h; exact absurd (Option.some.inj h) (ho.2.2 _ _)
    · rw [upd_same] at h; exact ho.2.1 xs (Option.some.inj h)
    · rw [upd_same] at h; exact absurd (Option.some.inj h) (ho.2.2 _ _)
  · refine hz a xs ?_
    unfold Rd at h ⊢
    rw [upd_ne e] at h
    exact h
theorem Sim.mem (h : Sim cf ι H S) {a : Addr} (ha : a ∈ ι) : ∃ u, H a = some u := by
  obtain ⟨l, hl, e⟩ := List.getElem_of_mem ha
  have h1 : ι[l]? = some a := by rw [List.getElem?_eq_getElem hl, e]
  have hl' : l < S.length := by rw [← h.len]; exact hl
  exact (h.obj l S[l] a (by simp [hl']) h1).some
theorem Sim.new (h : Sim cf ι H S) (hp : H p = none) (ho : SzO o) : Sim cf ι (upd H p o) S :=
  ⟨h.len, h.nd, fun l ob a e1 e2 => (h.obj l ob a e1 e2).mono (Ext.new hp) fun u q => by rw [upd_ne (ne_of_none q hp)]; exact q, sz_upd h.sz ho, h.rdis, fun a ha => let ⟨u, q⟩ := h.rat a ha; ⟨u, by rw [upd_ne (ne_of_none q hp)]; exact q⟩⟩
theorem Sim.push (h : Sim cf ι H S) (hp : H p = none) (ho : SzO o) {ob : O} (r : RepO cf (ι ++ [p]) (upd H p o) ob p) : Sim cf (ι ++ [p]) (upd H p o) (S ++ [ob]) := by
  refine ⟨by simp [h.len], ?_, fun l ob' a e1 e2 => ?_, sz_upd h.sz ho, fun a ha hm => ?_, fun a ha => let ⟨u, q⟩ := h.rat a ha; ⟨u, by rw [upd_ne (ne_of_none q hp)]; exact q⟩⟩
  · refine List.nodup_append.mpr ⟨h.nd, by simp, fun a ha b hb => ?_⟩
    have e : b = p := by simpa using hb
    subst e
    obtain ⟨u, q⟩ := h.mem ha
    exact ne_of_none q hp
  · by_cases hl : l < S.length
    · rw [List.getElem?_append_left hl] at e1
      rw [List.getElem?_append_left (by rw [h.len]; exact hl)] at e2
      exact (h.obj l ob' a e1 e2).mono (Ext.push hp) fun u q => by rw [upd_ne (ne_of_none q hp)]; exact q
    · have hl2 : l = S.length := by
        have := (List.getElem?_eq_some_iff.mp e1).1
        simp at this
        omega
      subst hl2
      rw [List.getElem?_append_right (Nat.le_refl _)] at e1
      rw [List.getElem?_append_right (by rw [h.len]; exact Nat.le_refl _)] at e2
      simp [h.len] at e1 e2
      subst e1; subst e2
      exact r
  · obtain ⟨u, q⟩ := h.rat a ha
    rcases List.mem_append.mp hm with hm | hm
    · exact h.rdis a ha hm
    · have e : a = p := by simpa using hm
      exact ne_of_none q hp e
/-- an object of the store is written -/
theorem Ext.write {a : Addr} (ha : a ∈ ι) (hnt : ∀ xs, ¬ Rd H a (.tup xs)) : Ext ι H ι (upd H a o) := by
  refine ⟨⟨[], by simp⟩, fun b u h n => ⟨?_, n⟩, fun b vs h n => by rw [upd_ne (show b ≠ a from fun e => n (by rw [e]; exact ha))]; exact h, fun b xs h => ?_⟩
  · have hb : b ≠ a := fun e => n (e ▸ ha)
    unfold Rd at h ⊢
    rw [upd_ne hb]
    exact h
  · have hb : b ≠ a := fun e => hnt xs (e ▸ h)
    unfold Rd at h ⊢
    rw [upd_ne hb]
    exact h
theorem Sim.write (h : Sim cf ι H S) {l : Nat} {a : Addr} {ob : O} (hl : ι[l]? = some a) (hnt : ∀ xs, ¬ Rd H a (.tup xs)) (ho : SzO o) (r : RepO cf ι (upd H a o) ob a) : Sim cf ι (upd H a o) (S.set l ob) := by
  have ha : a ∈ ι := List.mem_of_getElem? hl
  refine ⟨by simp [h.len], h.nd, fun l' ob' a' e1 e2 => ?_, sz_upd h.sz ho, h.rdis, fun b hb => let ⟨u, q⟩ := h.rat b hb; ⟨u, by rw [upd_ne (show b ≠ a from fun z => h.rdis b hb (z ▸ ha))]; exact q⟩⟩
  by_cases e : l' = l
  · subst e
    rw [hl] at e2; cases e2
    have hl2 : l' < S.length := by rw [← h.len]; exact (List.getElem?_eq_some_iff.mp hl).1
    rw [List.getElem?_set_self hl2] at e1; cases e1
    exact r
  · rw [List.getElem?_set_ne (Ne.symm e)] at e1
    have hne : a' ≠ a := by
      intro z
      subst z
      obtain ⟨h1, q1⟩ := List.getElem?_eq_some_iff.mp hl
      obtain ⟨h2, q2⟩ := List.getElem?_eq_some_iff.mp e2
      exact e ((List.getElem_inj h.nd).mp (q2.trans q1.symm))
    exact (h.obj l' ob' a' e1 e2).mono (Ext.write ha hnt) fun u q => by rw [upd_ne hne]; exact q
theorem nt_lst {a : Addr} {xs : List V} (h : H a = Option.some (.lst xs)) : ∀ ys, ¬ Rd H a (.tup ys) := fun ys r => by
  rcases r with r | ⟨ob, r⟩
  · rw [h] at r; exact nomatch (Option.some.inj r)
  · rw [h] at r; exact nomatch (Option.some.inj r)
end

section
variable {X : Cx} {cf : Cf} {W : L2.WX}
/-! ### names, constants -/
def Mvar (i : Nat) : ED := fun env S => match env[i]? with | some (some d) => .ok d S | _ => .no
theorem e_var (i : Nat) {x : Str} {pos : Pos} (hN : X.N[i]? = some x := by rfl) (hv : Vis X.env.scope x := by first | exact Or.inl rfl | exact Or.inr (Or.inl rfl) | exact Or.inr (Or.inr rfl)) (hd : (x == ("__debug__" : Str)) = false := by decide)
    (hcd : (x == ("__classdict__" : Str)) = false := by decide) : PE X (.Name x pos) (tE cf W (Mvar i)) := (pv i hN hv hd hcd).wk fun σ H Q ⟨R, ι, env, S, he, hs, k⟩ => by
  unfold Mvar at k
  split at k
  · rename_i d hd
    obtain ⟨v, h1, h2⟩ := he.2 i d hd
    exact ⟨v, h1, k ι H .refl hs v h2⟩
  · exact k.elim
def Mc (d : D) : ED := fun _ S => .ok d S
theorem e_int {i j pos} : PE X (.Constant (.int i) j pos) (tE cf W (Mc (.int i))) := pe_int.wk fun σ H Q ⟨R, ι, env, S, he, hs, k⟩ => k ι H .refl hs _ (by unfold Rep; rfl)
theorem e_bl {i j pos} : PE X (.Constant (.bool i) j pos) (tE cf W (Mc (.bl i))) := pe_bl.wk fun σ H Q ⟨R, ι, env, S, he, hs, k⟩ => k ι H .refl hs _ (by unfold Rep; rfl)
theorem e_str {i j pos} : PE X (.Constant (.str i) j pos) (tE cf W (Mc (.str i))) := pe_str.wk fun σ H Q ⟨R, ι, env, S, he, hs, k⟩ => k ι H .refl hs _ (by unfold Rep; rfl)
theorem e_non {j pos} : PE X (.Constant .none j pos) (tE cf W (Mc .non)) := pe_non.wk fun σ H Q ⟨R, ι, env, S, he, hs, k⟩ => k ι H .refl hs _ (by unfold Rep; rfl)
/-- a module's constant -/
theorem e_gI {x : Str} {i : Int} {t : Tok} {pos : Pos} (hm : X.mg x = some (.int i t)) (hg : Gl X x := by rfl) (hd : (x == ("__debug__" : Str)) = false := by decide) : PE X (.Name x pos) (tE cf W (Mc (.int i))) :=
  (pe_glob hg hm (v := .int i) ⟨t, rfl⟩ hd).wk fun σ H Q ⟨R, ι, env, S, he, hs, k⟩ => k ι H .refl hs _ (by unfold Rep; rfl)
theorem e_gS {x : Str} {i : Str} {t : Tok} {pos : Pos} (hm : X.mg x = some (.str i t)) (hg : Gl X x := by rfl) (hd : (x == ("__debug__" : Str)) = false := by decide) : PE X (.Name x pos) (tE cf W (Mc (.str i))) :=
  (pe_glob hg hm (v := .str i) ⟨t, rfl⟩ hd).wk fun σ H Q ⟨R, ι, env, S, he, hs, k⟩ => k ι H .refl hs _ (by unfold Rep; rfl)

/-! ### two-place operations -/
abbrev G2 := D → D → List O → Option D
def optRs (o : Option D) (S : List O) : Rs D := match o with | some d => .ok d S | none => .no
@[simp] theorem optRs_some (d : D) (S : List O) : optRs (some d) S = .ok d S := rfl
@[simp] theorem optRs_none (S : List O) : optRs none S = .no := rfl
def M2 (g : G2) (a b : ED) : ED := fun env S => (a env S).bind fun x S => (b env S).bind fun y S => optRs (g x y S) S
def r2 (cf : Cf) (g : G2) : L2.R2 := fun x y H Q => ∃ R ι S dx dy d, Sim (cf.on R) ι H S ∧ Rep (cf.on R) ι H dx x ∧ Rep (cf.on R) ι H dy y ∧ g dx dy S = some d ∧ ∀ ι' H' v, Ext ι H ι' H' → Sim (cf.on R) ι' H' S → Rep (cf.on R) ι' H' d v → Q v H'
theorem _root_.L2.OpR.wk {f : Value → Value → Sem Value} {r r' : L2.R2} (h : OpR X f r) (i : ∀ x y H Q, r' x y H Q → r x y H Q) : OpR X f r' := fun pins s σ H x y v u Q I rx ry q => h pins s σ H x y v u Q I rx ry (i x y H Q q)
theorem t2_imp {r : L2.R2} {g : G2} {ma mb : ED} (hr : ∀ x y H Q, r2 cf g x y H Q → r x y H Q) : ∀ σ H Q, tE cf W (M2 g ma mb) σ H Q → L2.tOp r (tE cf W ma) (tE cf W mb) σ H Q := fun σ H Q ⟨R, ι, env, S, he, hs, k⟩ => by
  refine ⟨R, ι, env, S, he, hs, (KR.bind k).mono fun ι1 H1 x S1 e1 s1 k1 v rv => ?_⟩
  refine ⟨R, ι1, env, S1, he.mono e1, s1, (KR.bind k1).mono fun ι2 H2 y S2 e2 s2 k2 w rw' => ?_⟩
  cases hg : g x y S2 with
  | none => rw [hg] at k2; exact k2.elim
  | some d =>
    rw [hg] at k2
    exact hr v w H2 Q ⟨R, ι2, S2, x, y, d, s2, rv.mono e2, rw', hg, fun ι' H' u e s r => k2 ι' H' e s u r⟩
theorem e_bin {a b : Expr} {op : Operator} {g : G2} {ma mb : ED} {pos : Pos} (ho : OpR X (binaryOp op) (r2 cf g)) (ha : PE X a (tE cf W ma)) (hb : PE X b (tE cf W mb)) : PE X (.BinOp a op b pos) (tE cf W (M2 g ma mb)) :=
  (pe_op ho ha hb).wk (t2_imp fun _ _ _ _ h => h)
theorem e_cmp {a b : Expr} {op : CmpOp} {g : G2} {ma mb : ED} {pos : Pos} (ho : OpR X (compareOp op) (r2 cf g)) (ha : PE X a (tE cf W ma)) (hb : PE X b (tE cf W mb)) (hm : behindInMarks op b = false := by first | exact nomark _ (by decide) (by decide) | with_unfolding_all rfl) : PE X (.Compare a [op] [b] pos) (tE cf W (M2 g ma mb)) :=
  (pe_cmpR ho ha hb hm).wk (t2_imp fun _ _ _ _ h => h)
theorem tT_of_tE {m : ED} {σ : L2.St} {H : Hp} {Q : Bool → Hp → Prop} (h : tT cf W m σ H Q) : tE cf W m σ H (fun x H' => ∃ k, x = .bl k ∧ Q k H') := by
  obtain ⟨R, ι, env, S, he, hs, k⟩ := h
  refine ⟨R, ι, env, S, he, hs, k.mono fun ι' H' d S' e s q v r => ?_⟩
  obtain ⟨b, rfl, q⟩ := q
  unfold Rep at r
  exact ⟨b, r, q⟩
theorem t_cmp {a b : Expr} {op : CmpOp} {g : G2} {ma mb : ED} {pos : Pos} (ho : OpR X (compareOp op) (r2 cf g)) (ha : PE X a (tE cf W ma)) (hb : PE X b (tE cf W mb)) (hm : behindInMarks op b = false := by first | exact nomark _ (by decide) (by decide) | with_unfolding_all rfl) : PT X (.Compare a [op] [b] pos) (tT cf W (M2 g ma mb)) :=
  (pt_cmpR ho ha hb hm).wk fun σ H Q h => t2_imp (fun _ _ _ _ h => h) σ H _ (tT_of_tE h)
theorem t_val {e : Expr} {m : ED} (h : PE X e (tE cf W m)) (he : ∀ whole, isTrue e X.env whole = (do let v ← whole; standAt e.pos; holding [v] (truthy v)) := by intro _; rfl) : PT X e (tT cf W m) :=
  (pt_val h he).wk fun σ H Q h => tT_of_tE h

/-! ### tests joined -/
def Mand (a b : ED) : ED := fun env S => (a env S).bind fun x S => match x with | .bl true => b env S | .bl false => .ok (.bl false) S | _ => .no
def Mor (a b : ED) : ED := fun env S => (a env S).bind fun x S => match x with | .bl false => b env S | .bl true => .ok (.bl true) S | _ => .no
def Mnot (a : ED) : ED := fun env S => (a env S).bind fun x S => match x with | .bl b => .ok (.bl (!b)) S | _ => .no
def Mif (c a b : ED) : ED := fun env S => (c env S).bind fun x S => match x with | .bl true => a env S | .bl false => b env S | _ => .no
theorem t_not {a : Expr} {m : ED} {pos : Pos} (h : PT X a (tT cf W m)) : PT X (.UnaryOp .Not a pos) (tT cf W (Mnot m)) := (pt_not h).wk fun σ H Q ⟨R, ι, env, S, he, hs, k⟩ => by
  refine ⟨R, ι, env, S, he, hs, (KR.bind k).mono fun ι1 H1 x S1 e1 s1 k1 => ?_⟩
  split at k1
  · rename_i b
    obtain ⟨b', e, q⟩ := k1 ι1 H1 .refl s1
    cases e
    exact ⟨b, rfl, q⟩
  · exact k1.elim
theorem w_and1 {a : Expr} {m : ED} {pos : Pos} (h : PT X a (tT cf W m)) : PW X (.BoolOp .And [a] pos) (tT cf W m) := pw_and1 h
theorem w_or1 {a : Expr} {m : ED} {pos : Pos} (h : PT X a (tT cf W m)) : PW X (.BoolOp .Or [a] pos) (tT cf W m) := pw_or1 h
theorem w_and {a b : Expr} {rest : List Expr} {ma mb : ED} {pos : Pos} (ha : PT X a (tT cf W ma)) (hb : PW X (.BoolOp .And (b :: rest) pos) (tT cf W mb)) : PW X (.BoolOp .And (a :: b :: rest) pos) (tT cf W (Mand ma mb)) := (pw_and ha hb).wk fun σ H Q ⟨R, ι, env, S, he, hs, k⟩ => by
  refine ⟨R, ι, env, S, he, hs, (KR.bind k).mono fun ι1 H1 x S1 e1 s1 k1 => ?_⟩
  split at k1
  · exact ⟨true, rfl, iteT (⟨R, ι1, env, S1, he.mono e1, s1, k1⟩)⟩
  · obtain ⟨b', e, q⟩ := k1 ι1 H1 .refl s1
    cases e
    exact ⟨false, rfl, iteF (q)⟩
  · exact k1.elim
theorem w_or {a b : Expr} {rest : List Expr} {ma mb : ED} {pos : Pos} (ha : PT X a (tT cf W ma)) (hb : PW X (.BoolOp .Or (b :: rest) pos) (tT cf W mb)) : PW X (.BoolOp .Or (a :: b :: rest) pos) (tT cf W (Mor ma mb)) := (pw_or ha hb).wk fun σ H Q ⟨R, ι, env, S, he, hs, k⟩ => by
  refine ⟨R, ι, env, S, he, hs, (KR.bind k).mono fun ι1 H1 x S1 e1 s1 k1 => ?_⟩
  split at k1
  · exact ⟨false, rfl, iteF (⟨R, ι1, env, S1, he.mono e1, s1, k1⟩)⟩
  · obtain ⟨b', e, q⟩ := k1 ι1 H1 .refl s1
    cases e
    exact ⟨true, rfl, iteT (q)⟩
  · exact k1.elim
theorem e_not {a : Expr} {m : ED} {pos : Pos} (h : PE X a (tE cf W m)) : PE X (.UnaryOp .Not a pos) (tE cf W (Mnot m)) := (pe_not h).wk fun σ H Q ⟨R, ι, env, S, he, hs, k⟩ => by
  refine ⟨R, ι, env, S, he, hs, (KR.bind k).mono fun ι1 H1 x S1 e1 s1 k1 v rv => ?_⟩
  split at k1
  · rename_i b
    unfold Rep at rv
    exact ⟨b, rv, k1 ι1 H1 .refl s1 _ (by unfold Rep; rfl)⟩
  · exact k1.elim
theorem e_and {a b : Expr} {rest : List Expr} {ma mb : ED} {pos : Pos} (ha : PE X a (tE cf W ma)) (hb : PE X (.BoolOp .And (b :: rest) pos) (tE cf W mb)) : PE X (.BoolOp .And (a :: b :: rest) pos) (tE cf W (Mand ma mb)) := (pe_and ha hb).wk fun σ H Q ⟨R, ι, env, S, he, hs, k⟩ => by
  refine ⟨R, ι, env, S, he, hs, (KR.bind k).mono fun ι1 H1 x S1 e1 s1 k1 v rv => ?_⟩
  split at k1
  · unfold Rep at rv
    exact ⟨true, rv, iteT (⟨R, ι1, env, S1, he.mono e1, s1, k1⟩)⟩
  · unfold Rep at rv
    exact ⟨false, rv, iteF (k1 ι1 H1 .refl s1 _ (by unfold Rep; rfl))⟩
  · exact k1.elim
theorem e_or {a b : Expr} {rest : List Expr} {ma mb : ED} {pos : Pos} (ha : PE X a (tE cf W ma)) (hb : PE X (.BoolOp .Or (b :: rest) pos) (tE cf W mb)) : PE X (.BoolOp .Or (a :: b :: rest) pos) (tE cf W (Mor ma mb)) := (pe_or ha hb).wk fun σ H Q ⟨R, ι, env, S, he, hs, k⟩ => by
  refine ⟨R, ι, env, S, he, hs, (KR.bind k).mono fun ι1 H1 x S1 e1 s1 k1 v rv => ?_⟩
  split at k1
  · unfold Rep at rv
    exact ⟨false, rv, iteF (⟨R, ι1, env, S1, he.mono e1, s1, k1⟩)⟩
  · unfold Rep at rv
    exact ⟨true, rv, iteT (k1 ι1 H1 .refl s1 _ (by unfold Rep; rfl))⟩
  · exact k1.elim
theorem e_one {a : Expr} {op : BoolOp} {m : ED} {pos : Pos} (h : PE X a (tE cf W m)) : PE X (.BoolOp op [a] pos) (tE cf W m) := pe_one h
theorem e_if {c a b : Expr} {mc ma mb : ED} {pos : Pos} (hc : PT X c (tT cf W mc)) (ha : PE X a (tE cf W ma)) (hb : PE X b (tE cf W mb)) : PE X (.IfExp c a b pos) (tE cf W (Mif mc ma mb)) := (pe_ifExp hc ha hb).wk fun σ H Q ⟨R, ι, env, S, he, hs, k⟩ => by
  refine ⟨R, ι, env, S, he, hs, (KR.bind k).mono fun ι1 H1 x S1 e1 s1 k1 => ?_⟩
  split at k1
  · exact ⟨true, rfl, iteT (⟨R, ι1, env, S1, he.mono e1, s1, k1⟩)⟩
  · exact ⟨false, rfl, iteF (⟨R, ι1, env, S1, he.mono e1, s1, k1⟩)⟩
  · exact k1.elim

/-! ### chains a < b < c -/
def Mchain (g g' : G2) (a b c : ED) : ED := fun env S => (a env S).bind fun x S => (b env S).bind fun y S => match g x y S with
  | some (.bl true) => (c env S).bind fun z S => optRs (g' y z S) S
  | some (.bl false) => .ok (.bl false) S
  | _ => .no
theorem tchain_imp {g g' : G2} {ma mb mc : ED} : ∀ σ H Q, tE cf W (Mchain g g' ma mb mc) σ H Q → L2.tChain (r2 cf g) (r2 cf g') (tE cf W ma) (tE cf W mb) (tE cf W mc) σ H Q := fun σ H Q ⟨R, ι, env, S, he, hs, k⟩ => by
  refine ⟨R, ι, env, S, he, hs, (KR.bind k).mono fun ι1 H1 x S1 e1 s1 k1 v rv => ?_⟩
  refine ⟨R, ι1, env, S1, he.mono e1, s1, (KR.bind k1).mono fun ι2 H2 y S2 e2 s2 k2 w rw' => ?_⟩
  cases hg : g x y S2 with
  | none => rw [hg] at k2; exact k2.elim
  | some d =>
    rw [hg] at k2
    refine ⟨R, ι2, S2, x, y, d, s2, rv.mono e2, rw', hg, fun ι3 H3 u e3 s3 r3 => ?_⟩
    split at k2
    · rename_i hd
      cases hd
      unfold Rep at r3
      refine ⟨true, r3, ?_⟩
      rw [if_pos rfl]
      refine ⟨R, ι3, env, S2, (he.mono e1).mono (e2.trans e3), s3, (KR.ext e3 (KR.bind k2)).mono fun ι4 H4 z S4 e4 s4 k4 t rt => ?_⟩
      cases hg2 : g' y z S4 with
      | none => rw [hg2] at k4; exact k4.elim
      | some d2 =>
        rw [hg2] at k4
        exact ⟨R, ι4, S4, y, z, d2, s4, rw'.mono (e3.trans e4), rt, hg2, fun ι' H' u e s r => k4 ι' H' e s u r⟩
    · rename_i hd
      cases hd
      unfold Rep at r3
      refine ⟨false, r3, ?_⟩
      rw [if_neg Bool.false_ne_true]
      exact k2 ι3 H3 e3 s3 _ (by unfold Rep; rfl)
    · exact k2.elim
theorem e_chain {a b c : Expr} {op op' : CmpOp} {g g' : G2} {ma mb mc : ED} {pos : Pos} (ho : OpR X (compareOp op) (r2 cf g)) (ho' : OpR X (compareOp op') (r2 cf g')) (ha : PE X a (tE cf W ma)) (hb : PE X b (tE cf W mb)) (hc : PE X c (tE cf W mc))
    (hm : lastMarks [op, op'] [b, c] = false := by with_unfolding_all rfl) : PE X (.Compare a [op, op'] [b, c] pos) (tE cf W (Mchain g g' ma mb mc)) := (pe_chain ho ho' ha hb hc hm).wk tchain_imp
theorem t_chain {a b c : Expr} {op op' : CmpOp} {g g' : G2} {ma mb mc : ED} {pos : Pos} (ho : OpR X (compareOp op) (r2 cf g)) (ho' : OpR X (compareOp op') (r2 cf g')) (ha : PE X a (tE cf W ma)) (hb : PE X b (tE cf W mb)) (hc : PE X c (tE cf W mc))
    (hm : lastMarks [op, op'] [b, c] = false := by with_unfolding_all rfl) : PT X (.Compare a [op, op'] [b, c] pos) (tT cf W (Mchain g g' ma mb mc)) := (pt_chain ho ho' ha hb hc hm).wk fun σ H Q h => tchain_imp σ H _ (tT_of_tE h)
end
end PB

set_option Elab.async false
set_option linter.all false
set_option maxRecDepth 100000
set_option maxHeartbeats 4000000
namespace PB
open PySem PySem.Spec PyProof.Rows L2

/-! ### data read -/
/-- an object of the store read where it stands for a list or a dict -/
def rd (S : List O) : D → D
  | .ref l => match S[l]? with | some (.lst ds) => .lst ds | some (.dct ks ds) => .dct ks ds | _ => .ref l
  | d => d
mutual
def plain : D → Bool
  | .non => true | .bl _ => true | .int _ => true | .str _ => true
  | .tup ds => plains ds | .lst ds => plains ds
  | .scr _ => false | .dct _ _ => false | .ref _ => false | .cls _ => false
def plains : List D → Bool
  | [] => true
  | d :: ds => plain d && plains ds
end
mutual
def toPy : D → PyData
  | .non => .none | .bl b => .bool b | .int i => .int i | .str s => .str s
  | .tup ds => .tuple (toPys ds) | .lst ds => .list (toPys ds)
  | .scr _ => .none | .dct _ _ => .none | .ref _ => .none | .cls _ => .none
def toPys : List D → List PyData
  | [] => []
  | d :: ds => toPy d :: toPys ds
end
section
variable {cf : Cf} {ι : List Addr} {H : Hp} {S : List O}
mutual
theorem dp_of : ∀ {d : D} {v : V}, plain d = true → Rep cf ι H d v → Dp cf.K H v (toPy d)
  | .non, v, p, r => by unfold Rep at r; subst r; unfold toPy; exact .non
  | .bl b, v, p, r => by unfold Rep at r; subst r; unfold toPy; exact .bl b
  | .int b, v, p, r => by unfold Rep at r; subst r; unfold toPy; exact .int b
  | .str b, v, p, r => by unfold Rep at r; subst r; unfold toPy; exact .str b
  | .tup ds, v, p, r => by
    unfold Rep at r
    obtain ⟨a, vs, rfl, h1, h2⟩ := r
    unfold plain at p
    unfold toPy
    exact .tup h1 (dps_of p h2)
  | .lst ds, v, p, r => by
    unfold Rep at r
    obtain ⟨a, vs, rfl, h1, _, h2⟩ := r
    unfold plain at p
    unfold toPy
    exact .lst (SqL.of h1) (dps_of p h2)
  | .scr ds, v, p, r => by unfold plain at p; cases p
  | .dct ks ds, v, p, r => by unfold plain at p; cases p
  | .ref l, v, p, r => by unfold plain at p; cases p
  | .cls l, v, p, r => by unfold plain at p; cases p
theorem dps_of : ∀ {ds : List D} {vs : List V}, plains ds = true → Reps cf ι H ds vs → DpAll cf.K H vs (toPys ds)
  | [], vs, p, r => by unfold Reps at r; subst r; unfold toPys; exact .nil
  | d :: ds, vs, p, r => by
    unfold Reps at r
    obtain ⟨v, w, rfl, h1, h2⟩ := r
    unfold plains at p
    rw [Bool.and_eq_true] at p
    unfold toPys
    exact .cons (dp_of p.1 h1) (dps_of p.2 h2)
end
/-- .. of an object of the store too -/
theorem dp_rd (hs : Sim cf ι H S) {d : D} {v : V} (p : plain (rd S d) = true) (r : Rep cf ι H d v) : Dp cf.K H v (toPy (rd S d)) := by
  cases d with
  | ref l =>
    unfold Rep at r
    obtain ⟨a, rfl, hl⟩ := r
    unfold rd at p ⊢
    cases ho : S[l]? with
    | none => simp only [ho] at p; unfold plain at p; cases p
    | some ob =>
      cases ob with
      | lst ds =>
        simp only [ho] at p ⊢
        obtain ⟨vs, h1, h2⟩ := hs.obj l _ a ho hl
        unfold plain at p
        unfold toPy
        exact .lst (SqL.of h1) (dps_of p h2)
      | dct ks ds => simp only [ho] at p; unfold plain at p; cases p
      | ins c fs => simp only [ho] at p; unfold plain at p; cases p
  | _ => exact dp_of p r
/-- a list or tuple, as values -/
def seqD (S : List O) (d : D) : Option (List D) := match rd S d with | .lst ds => some ds | .tup ds => some ds | _ => none
def lstD (S : List O) (d : D) : Option (List D) := match rd S d with | .lst ds => some ds | _ => none
theorem lstD_at (hs : Sim cf ι H S) {d : D} {v : V} {ds : List D} (e : lstD S d = some ds) (r : Rep cf ι H d v) : ∃ a vs, v = .ref a ∧ H a = some (.lst vs) ∧ Reps cf ι H ds vs ∧ ds.length ≤ sizeLine := by
  have fin : ∀ {a : Addr} {vs : List V}, H a = some (.lst vs) → Reps cf ι H ds vs → ds.length ≤ sizeLine := fun {a vs} h1 h2 => by rw [← h2.length]; exact hs.sz a vs (.inl (.inl h1))
  cases d with
  | ref l =>
    unfold Rep at r
    obtain ⟨a, rfl, hl⟩ := r
    unfold lstD rd at e
    cases ho : S[l]? with
    | none => simp [ho] at e
    | some ob =>
      cases ob with
      | lst es =>
        simp [ho] at e; subst e
        obtain ⟨vs, h1, h2⟩ := hs.obj l _ a ho hl
        exact ⟨a, vs, rfl, h1, h2, fin h1 h2⟩
      | dct ks es => simp [ho] at e
      | ins c fs => simp [ho] at e
  | lst es =>
    simp [lstD, rd] at e; subst e
    unfold Rep at r
    obtain ⟨a, vs, rfl, h1, _, h2⟩ := r
    exact ⟨a, vs, rfl, h1, h2, fin h1 h2⟩
  | _ => simp [lstD, rd] at e
theorem sqt_len {a : Addr} {vs : List V} (hs : Sim cf ι H S) (h : SqT cf.K H a vs) : vs.length ≤ sizeLine := by
  rcases h with h | ⟨o, its, n, _, _, _, hz, r⟩
  · exact hs.sz a vs (.inr h)
  · have := r.length
    simp only [Array.length_toList] at this
    omega
theorem tup_at (hs : Sim cf ι H S) {v : V} {ds : List D} (r : Rep cf ι H (.tup ds) v) : ∃ a vs, v = .ref a ∧ SqT cf.K H a vs ∧ Reps cf ι H ds vs ∧ ds.length ≤ sizeLine := by
  unfold Rep at r
  obtain ⟨a, vs, rfl, h1, h2⟩ := r
  exact ⟨a, vs, rfl, h1, h2, by rw [← h2.length]; exact sqt_len hs h1⟩
theorem seqD_at (hs : Sim cf ι H S) {d : D} {v : V} {ds : List D} (e : seqD S d = some ds) (r : Rep cf ι H d v) : ∃ a vs, v = .ref a ∧ (SqL cf.K H a vs ∨ SqT cf.K H a vs) ∧ Reps cf ι H ds vs ∧ ds.length ≤ sizeLine := by
  have viaL : lstD S d = some ds → ∃ a vs, v = .ref a ∧ (SqL cf.K H a vs ∨ SqT cf.K H a vs) ∧ Reps cf ι H ds vs ∧ ds.length ≤ sizeLine := fun h => by
    obtain ⟨a, vs, h1, h2, h3, h4⟩ := lstD_at hs h r
    exact ⟨a, vs, h1, .inl (SqL.of h2), h3, h4⟩
  cases d with
  | ref l =>
    refine viaL ?_
    unfold seqD at e
    unfold lstD
    unfold rd at e ⊢
    cases ho : S[l]? with
    | none => simp [ho] at e
    | some ob =>
      cases ob with
      | lst es => simpa [ho] using e
      | dct ks es => simp [ho] at e
      | ins c fs => simp [ho] at e
  | lst es => exact viaL (by simpa [seqD, lstD, rd] using e)
  | tup es =>
    simp [seqD, rd] at e; subst e
    obtain ⟨a, vs, h1, h2, h3, h4⟩ := tup_at hs r
    exact ⟨a, vs, h1, .inr h2, h3, h4⟩
  | _ => simp [seqD, rd] at e
end

/-! ### operations -/
def addD : G2 := fun x y _ => match x, y with
  | .int i, .int j => some (.int (i + j))
  | .str a, .str b => if a.length + b.length ≤ sizeLine then some (.str (a ++ b)) else none
  | .tup a, .tup b => if a.length + b.length ≤ sizeLine then some (.tup (a ++ b)) else none
  | _, _ => none
def subD : G2 := fun x y _ => match x, y with | .int i, .int j => some (.int (i - j)) | _, _ => none
def sm64 (i : Int) : Bool := decide (-(2 ^ 64) < i) && decide (i < 2 ^ 64)
def mulD : G2 := fun x y _ => match x, y with | .int i, .int j => if (sm64 i || sm64 j) = true then some (.int (i * j)) else none | _, _ => none
def fdivD : G2 := fun x y _ => match x, y with | .int i, .int j => if 0 < j ∧ j < 2 ^ 64 then some (.int (i / j)) else none | _, _ => none
def modD : G2 := fun x y _ => match x, y with | .int i, .int j => if 0 < j then some (.int (i % j)) else none | _, _ => none
def powD : G2 := fun x y _ => match x, y with | .int i, .int j => if 0 ≤ j ∧ j ≤ 1000 ∧ sm64 i = true then some (.int (i ^ j.toNat)) else none | _, _ => none
def shlD : G2 := fun x y _ => match x, y with | .int i, .int j => if 0 ≤ j ∧ j ≤ 1000 ∧ sm64 i = true then some (.int (i * 2 ^ j.toNat)) else none | _, _ => none
def shrD : G2 := fun x y _ => match x, y with | .int i, .int j => if 0 ≤ j then some (.int (i / 2 ^ j.toNat)) else none | _, _ => none
def andD : G2 := fun x y _ => match x, y with | .int i, .int j => some (.int (Builtin.bitAnd i j)) | _, _ => none
def orD : G2 := fun x y _ => match x, y with | .int i, .int j => some (.int (Builtin.bitOr i j)) | _, _ => none
def ltD : G2 := fun x y _ => match x, y with | .int i, .int j => some (.bl (decide (i < j))) | _, _ => none
def leD : G2 := fun x y _ => match x, y with | .int i, .int j => some (.bl (decide (i ≤ j))) | _, _ => none
def gtD : G2 := fun x y _ => match x, y with | .int i, .int j => some (.bl (decide (j < i))) | _, _ => none
def geD : G2 := fun x y _ => match x, y with | .int i, .int j => some (.bl (decide (j ≤ i))) | _, _ => none
def eqOk (S : List O) (x y : D) : Bool := plain (rd S x) && plain (rd S y) && SeqAt.shaped (toPy (rd S x)) && SeqAt.shaped (toPy (rd S y))
def eqB (S : List O) (x y : D) : Bool := PyData.eqv (toPy (rd S x)) (toPy (rd S y))
def eqD : G2 := fun x y S => if eqOk S x y = true then some (.bl (eqB S x y)) else none
def neD : G2 := fun x y S => if eqOk S x y = true then some (.bl (!eqB S x y)) else none
def isNon : D → Bool | .non => true | _ => false
def isND : G2 := fun x y _ => match y with | .non => some (.bl (isNon x)) | _ => none
def notND : G2 := fun x y _ => match y with | .non => some (.bl (!isNon x)) | _ => none
def flatD : D → Bool | .non => true | .bl _ => true | .int _ => true | .str _ => true | _ => false
def eqF : D → D → Bool
  | .non, .non => true
  | .bl a, .bl b => a == b
  | .bl a, .int b => (if a then 1 else 0) == b
  | .int a, .bl b => a == (if b then 1 else 0)
  | .int a, .int b => a == b
  | .str a, .str b => a == b
  | _, _ => false
def inQ (S : List O) (x y : D) : Option Bool := match rd S y with
  | .tup ds => if (flatD x && ds.all flatD) = true then some (ds.any fun z => eqF z x) else none
  | .lst ds => if (flatD x && ds.all flatD) = true then some (ds.any fun z => eqF z x) else none
  | .str z => match x with | .str s => (match s.cps.toList with | [c] => some (decide (c ∈ z.cps.toList)) | _ => none) | _ => none
  | _ => none
def inD : G2 := fun x y S => (inQ S x y).map .bl
def notInD : G2 := fun x y S => (inQ S x y).map fun b => .bl (!b)

section
variable {X : Cx} {cf : Cf}
theorem rep_int {ι : List Addr} {H : Hp} {i : Int} : Rep cf ι H (.int i) (.int i) := by unfold Rep; rfl
theorem rep_str {ι : List Addr} {H : Hp} {i : Str} : Rep cf ι H (.str i) (.str i) := by unfold Rep; rfl
theorem rep_bl {ι : List Addr} {H : Hp} {i : Bool} : Rep cf ι H (.bl i) (.bl i) := by unfold Rep; rfl
theorem rep_non {ι : List Addr} {H : Hp} : Rep cf ι H .non .non := by unfold Rep; rfl
/-- ints in, a value out -/
theorem o_ints {f : Value → Value → Sem Value} {C : Int → Int → Prop} {h : Int → Int → D} {hv : Int → Int → V} {g : G2} (ho : OpR X f (L2.rI C hv)) (hr : ∀ (cf : Cf) (i j : Int) ι H, Rep cf ι H (h i j) (hv i j))
    (hg : ∀ x y S d, g x y S = some d → ∃ i j, x = .int i ∧ y = .int j ∧ C i j ∧ d = h i j) : OpR X f (r2 cf g) := ho.wk fun x y H Q ⟨R, ι, S, dx, dy, d, hs, rx, ry, e, k⟩ => by
  obtain ⟨i, j, rfl, rfl, c, rfl⟩ := hg _ _ _ _ e
  unfold Rep at rx ry
  subst rx ry
  exact ⟨i, j, rfl, rfl, c, k ι H _ .refl hs (hr _ i j ι H)⟩
theorem o_ints0 {f : Value → Value → Sem Value} {h : Int → Int → D} {hv : Int → Int → V} {g : G2} (ho : OpR X f (L2.rI0 hv)) (hr : ∀ (cf : Cf) (i j : Int) ι H, Rep cf ι H (h i j) (hv i j))
    (hg : ∀ x y S d, g x y S = some d → ∃ i j, x = .int i ∧ y = .int j ∧ d = h i j) : OpR X f (r2 cf g) := ho.wk fun x y H Q ⟨R, ι, S, dx, dy, d, hs, rx, ry, e, k⟩ => by
  obtain ⟨i, j, rfl, rfl, rfl⟩ := hg _ _ _ _ e
  unfold Rep at rx ry
  subst rx ry
  exact ⟨i, j, rfl, rfl, k ι H _ .refl hs (hr _ i j ι H)⟩
theorem o_sub : OpR X (binaryOp .Sub) (r2 cf subD) := o_ints0 (h := fun i j => .int (i - j)) op_sub (fun _ _ _ _ _ => rep_int) fun x y S d e => by
  unfold subD at e; split at e
  · cases e; exact ⟨_, _, rfl, rfl, rfl⟩
  · cases e
theorem o_lt : OpR X (compareOp .Lt) (r2 cf ltD) := o_ints0 (h := fun i j => .bl (decide (i < j))) op_lt (fun _ _ _ _ _ => rep_bl) fun x y S d e => by
  unfold ltD at e; split at e
  · cases e; exact ⟨_, _, rfl, rfl, rfl⟩
  · cases e
theorem o_le : OpR X (compareOp .LtE) (r2 cf leD) := o_ints0 (h := fun i j => .bl (decide (i ≤ j))) op_le (fun _ _ _ _ _ => rep_bl) fun x y S d e => by
  unfold leD at e; split at e
  · cases e; exact ⟨_, _, rfl, rfl, rfl⟩
  · cases e
theorem o_gt : OpR X (compareOp .Gt) (r2 cf gtD) := o_ints0 (h := fun i j => .bl (decide (j < i))) op_gt (fun _ _ _ _ _ => rep_bl) fun x y S d e => by
  unfold gtD at e; split at e
  · cases e; exact ⟨_, _, rfl, rfl, rfl⟩
  · cases e
theorem o_ge : OpR X (compareOp .GtE) (r2 cf geD) := o_ints0 (h := fun i j => .bl (decide (j ≤ i))) op_ge (fun _ _ _ _ _ => rep_bl) fun x y S d e => by
  unfold geD at e; split at e
  · cases e; exact ⟨_, _, rfl, rfl, rfl⟩
  · cases e
theorem o_and : OpR X (binaryOp .BitAnd) (r2 cf andD) := o_ints0 (h := fun i j => .int (Builtin.bitAnd i j)) op_and (fun _ _ _ _ _ => rep_int) fun x y S d e => by
  unfold andD at e; split at e
  · cases e; exact ⟨_, _, rfl, rfl, rfl⟩
  · cases e
theorem o_or : OpR X (binaryOp .BitOr) (r2 cf orD) := o_ints0 (h := fun i j => .int (Builtin.bitOr i j)) op_or (fun _ _ _ _ _ => rep_int) fun x y S d e => by
  unfold orD at e; split at e
  · cases e; exact ⟨_, _, rfl, rfl, rfl⟩
  · cases e
theorem sm64_iff {i : Int} (h : sm64 i = true) : -(2 ^ 64) < i ∧ i < 2 ^ 64 := by
  unfold sm64 at h
  rw [Bool.and_eq_true] at h
  exact ⟨of_decide_eq_true h.1, of_decide_eq_true h.2⟩
theorem o_mul : OpR X (binaryOp .Mult) (r2 cf mulD) := o_ints (h := fun i j => .int (i * j)) op_mul (fun _ _ _ _ _ => rep_int) fun x y S d e => by
  unfold mulD at e; split at e
  · split at e
    · rename_i h
      cases e
      rw [Bool.or_eq_true] at h
      exact ⟨_, _, rfl, rfl, h.imp sm64_iff sm64_iff, rfl⟩
    · cases e
  · cases e
theorem o_mod : OpR X (binaryOp .Mod) (r2 cf modD) := o_ints (h := fun i j => .int (i % j)) op_mod (fun _ _ _ _ _ => rep_int) fun x y S d e => by
  unfold modD at e; split at e
  · split at e
    · rename_i h
      cases e
      exact ⟨_, _, rfl, rfl, h, rfl⟩
    · cases e
  · cases e
theorem o_fdiv : OpR X (binaryOp .FloorDiv) (r2 cf fdivD) := o_ints (h := fun i j => .int (i / j)) op_fdivW (fun _ _ _ _ _ => rep_int) fun x y S d e => by
  unfold fdivD at e; split at e
  · split at e
    · rename_i h
      cases e
      exact ⟨_, _, rfl, rfl, wide_div (b := 64) h.1 (by omega) (by decide) (by decide), rfl⟩
    · cases e
  · cases e
theorem o_pow : OpR X (binaryOp .Pow) (r2 cf powD) := o_ints (h := fun i j => .int (i ^ j.toNat)) op_pow (fun _ _ _ _ _ => rep_int) fun x y S d e => by
  unfold powD at e; split at e
  · split at e
    · rename_i h
      cases e
      have := sm64_iff h.2.2
      exact ⟨_, _, rfl, rfl, ⟨h.1, by omega, by omega⟩, rfl⟩
    · cases e
  · cases e
theorem o_shl : OpR X (binaryOp .LShift) (r2 cf shlD) := o_ints (h := fun i j => .int (i * 2 ^ j.toNat)) op_shl (fun _ _ _ _ _ => rep_int) fun x y S d e => by
  unfold shlD at e; split at e
  · split at e
    · rename_i h
      cases e
      have := sm64_iff h.2.2
      exact ⟨_, _, rfl, rfl, ⟨h.1, by omega, by omega⟩, rfl⟩
    · cases e
  · cases e
theorem o_shr : OpR X (binaryOp .RShift) (r2 cf shrD) := o_ints (h := fun i j => .int (i / 2 ^ j.toNat)) op_shr (fun _ _ _ _ _ => rep_int) fun x y S d e => by
  unfold shrD at e; split at e
  · split at e
    · rename_i h
      cases e
      exact ⟨_, _, rfl, rfl, h, rfl⟩
    · cases e
  · cases e
theorem o_add (hK : X.K = cf.K) : OpR X (binaryOp .Add) (r2 cf addD) := (op_add.or (op_add_str.or op_catA)).wk fun x y H Q ⟨R, ι, S, dx, dy, d, hs, rx, ry, e, k⟩ => by
  unfold addD at e
  split at e
  · cases e
    unfold Rep at rx ry
    exact .inl ⟨_, _, rx, ry, k ι H _ .refl hs rep_int⟩
  · split at e
    · rename_i h
      cases e
      unfold Rep at rx ry
      exact .inr (.inl ⟨_, _, rx, ry, h, k ι H _ .refl hs rep_str⟩)
    · cases e
  · split at e
    · rename_i a b h
      cases e
      obtain ⟨p, xs, rfl, h1, h2, _⟩ := tup_at hs rx
      obtain ⟨q, ys, rfl, g1, g2, _⟩ := tup_at hs ry
      have hl : xs.length + ys.length ≤ sizeLine := by rw [h2.length, g2.length]; exact h
      refine .inr (.inr ⟨p, q, xs, ys, rfl, rfl, by rw [hK]; exact h1, by rw [hK]; exact g1, hl, fun e => ?_, fun _ e => ?_, fun _ _ t ht => ?_⟩)
      · subst e
        have : a = [] := List.eq_nil_of_length_eq_zero (by have := h2.length; simpa using this.symm)
        subst this
        exact k ι H _ .refl hs ry
      · subst e
        have : b = [] := List.eq_nil_of_length_eq_zero (by have := g2.length; simpa using this.symm)
        subst this
        rw [List.append_nil] at k
        exact k ι H _ .refl hs rx
      · refine k ι _ _ (Ext.new ht) (hs.new ht (szo_tup (by rw [List.length_append]; exact hl))) ?_
        unfold Rep
        exact ⟨t, xs ++ ys, rfl, SqT.of upd_same, (h2.append g2).mono (Ext.new ht)⟩
    · cases e
  · cases e
theorem o_eq (hu : X.A.units + 64 < cLine) (hK : X.K = cf.K) : OpR X (compareOp .Eq) (r2 cf eqD) := (op_eqD hu).wk fun x y H Q ⟨R, ι, S, dx, dy, d, hs, rx, ry, e, k⟩ => by
  unfold eqD eqOk at e
  split at e
  · rename_i h
    cases e
    simp only [Bool.and_eq_true] at h
    obtain ⟨⟨⟨h1, h2⟩, h3⟩, h4⟩ := h
    exact ⟨_, _, by rw [hK]; exact dp_rd hs h1 rx, by rw [hK]; exact dp_rd hs h2 ry, h3, h4, k ι H _ .refl hs rep_bl⟩
  · cases e
theorem o_ne (hu : X.A.units + 64 < cLine) (hK : X.K = cf.K) : OpR X (compareOp .NotEq) (r2 cf neD) := (op_neD hu).wk fun x y H Q ⟨R, ι, S, dx, dy, d, hs, rx, ry, e, k⟩ => by
  unfold neD eqOk at e
  split at e
  · rename_i h
    cases e
    simp only [Bool.and_eq_true] at h
    obtain ⟨⟨⟨h1, h2⟩, h3⟩, h4⟩ := h
    exact ⟨_, _, by rw [hK]; exact dp_rd hs h1 rx, by rw [hK]; exact dp_rd hs h2 ry, h3, h4, k ι H _ .refl hs rep_bl⟩
  · cases e
theorem non_iff {ι : List Addr} {H : Hp} {d : D} {v : V} (r : Rep cf ι H d v) : decide (v = V.non) = isNon d := by
  cases d <;> unfold Rep at r <;> unfold isNon
  all_goals first
    | (subst r; simp)
    | (obtain ⟨a, vs, rfl, _⟩ := r; simp)
    | (obtain ⟨a, rfl, _⟩ := r; simp)
theorem o_isN : OpR X (compareOp .Is) (r2 cf isND) := op_isN.wk fun x y H Q ⟨R, ι, S, dx, dy, d, hs, rx, ry, e, k⟩ => by
  unfold isND at e
  split at e
  · cases e
    unfold Rep at ry
    refine ⟨ry, ?_⟩
    rw [non_iff rx]
    exact k ι H _ .refl hs rep_bl
  · cases e
theorem o_notN : OpR X (compareOp .IsNot) (r2 cf notND) := op_notN.wk fun x y H Q ⟨R, ι, S, dx, dy, d, hs, rx, ry, e, k⟩ => by
  unfold notND at e
  split at e
  · cases e
    unfold Rep at ry
    refine ⟨ry, ?_⟩
    rw [non_iff rx]
    exact k ι H _ .refl hs rep_bl
  · cases e
theorem flat_of {ι : List Addr} {H : Hp} {d : D} {v : V} (f : flatD d = true) (r : Rep cf ι H d v) : flatV v = true := by
  cases d <;> simp only [flatD] at f <;> first
    | (unfold Rep at r; subst r; rfl)
    | (exact absurd f (by decide))
theorem flats_of {ι : List Addr} {H : Hp} : ∀ {ds : List D} {vs : List V}, ds.all flatD = true → Reps cf ι H ds vs → vs.all flatV = true
  | [], vs, f, r => by unfold Reps at r; subst r; rfl
  | d :: ds, vs, f, r => by
    unfold Reps at r
    obtain ⟨v, w, rfl, h1, h2⟩ := r
    rw [List.all_cons, Bool.and_eq_true] at f ⊢
    exact ⟨flat_of f.1 h1, flats_of f.2 h2⟩
theorem eqF_of {ι : List Addr} {H : Hp} {d e : D} {v w : V} (f : flatD d = true) (g : flatD e = true) (r : Rep cf ι H d v) (q : Rep cf ι H e w) : eqV v w = eqF d e := by
  cases d <;> simp only [flatD] at f <;> (try exact absurd f (by decide)) <;> cases e <;> simp only [flatD] at g <;> (try exact absurd g (by decide)) <;> (unfold Rep at r q; subst r q; rfl)
theorem anyF_of {ι : List Addr} {H : Hp} {e : D} {w : V} (g : flatD e = true) (q : Rep cf ι H e w) : ∀ {ds : List D} {vs : List V}, ds.all flatD = true → Reps cf ι H ds vs → inV w vs = ds.any fun z => eqF z e
  | [], vs, f, r => by unfold Reps at r; subst r; rfl
  | d :: ds, vs, f, r => by
    unfold Reps at r
    obtain ⟨v, u, rfl, h1, h2⟩ := r
    rw [List.all_cons, Bool.and_eq_true] at f
    show (eqV v w || inV w u) = (eqF d e || ds.any fun z => eqF z e)
    rw [eqF_of f.1 g h1 q, anyF_of g q f.2 h2]
theorem in_core (hK : X.K = cf.K) {ι : List Addr} {H : Hp} {S : List O} {dx dy : D} {x y : V} {b : Bool} (hs : Sim cf ι H S) (rx : Rep cf ι H dx x) (ry : Rep cf ι H dy y) (e : inQ S dx dy = some b) :
    (∃ p xs, y = V.ref p ∧ (SqL X.K H p xs ∨ SqT X.K H p xs) ∧ flatV x = true ∧ xs.all flatV = true ∧ inV x xs = b) ∨ (∃ (c : Nat) (z : Str), x = .str ⟨#[c]⟩ ∧ y = .str z ∧ decide (c ∈ z.cps.toList) = b) := by
  have go : ∀ ds, seqD S dy = some ds → (if (flatD dx && ds.all flatD) = true then some (ds.any fun z => eqF z dx) else none) = some b →
      (∃ p xs, y = V.ref p ∧ (SqL X.K H p xs ∨ SqT X.K H p xs) ∧ flatV x = true ∧ xs.all flatV = true ∧ inV x xs = b) := fun ds hq h => by
    split at h
    · rename_i f
      rw [Bool.and_eq_true] at f
      cases h
      obtain ⟨a, vs, rfl, h1, h2, _⟩ := seqD_at hs hq ry
      exact ⟨a, vs, rfl, by rw [hK]; exact h1, flat_of f.1 rx, flats_of f.2 h2, anyF_of f.1 rx f.2 h2⟩
    · cases h
  unfold inQ at e
  split at e
  · rename_i ds hq
    exact .inl (go ds (by unfold seqD; rw [hq]) e)
  · rename_i ds hq
    exact .inl (go ds (by unfold seqD; rw [hq]) e)
  · rename_i z hq
    split at e
    · rename_i s
      split at e
      · rename_i c hc
        cases e
        have hz : dy = .str z := by
          cases dy <;> simp [rd] at hq
          · rw [hq]
          · rename_i l
            split at hq <;> cases hq
        subst hz
        unfold Rep at rx ry
        have hs' : s = ⟨#[c]⟩ := by
          cases s with
          | mk cps =>
            have : cps = #[c] := by
              have h2 : cps.toList = [c] := hc
              rw [← Array.toArray_toList (xs := cps), h2]
            rw [this]
        exact .inr ⟨c, z, by rw [rx, hs'], ry, rfl⟩
      · cases e
    · cases e
  · cases e
theorem o_in (hK : X.K = cf.K) : OpR X (compareOp .In) (r2 cf inD) := (op_in_seq.or op_in_sign).wk fun x y H Q ⟨R, ι, S, dx, dy, d, hs, rx, ry, e, k⟩ => by
  unfold inD at e
  obtain ⟨b, h, rfl⟩ := Option.map_eq_some_iff.mp e
  rcases in_core (cf := cf.on R) hK hs rx ry h with ⟨p, xs, h1, h2, h3, h4, rfl⟩ | ⟨c, z, h1, h2, rfl⟩
  · exact .inl ⟨p, xs, h1, h2, h3, h4, k ι H _ .refl hs rep_bl⟩
  · exact .inr ⟨c, z, h1, h2, k ι H _ .refl hs rep_bl⟩
theorem o_notIn (hK : X.K = cf.K) : OpR X (compareOp .NotIn) (r2 cf notInD) := (op_notIn_seq.or op_notIn_sign).wk fun x y H Q ⟨R, ι, S, dx, dy, d, hs, rx, ry, e, k⟩ => by
  unfold notInD at e
  obtain ⟨b, h, rfl⟩ := Option.map_eq_some_iff.mp e
  rcases in_core (cf := cf.on R) hK hs rx ry h with ⟨p, xs, h1, h2, h3, h4, rfl⟩ | ⟨c, z, h1, h2, rfl⟩
  · exact .inl ⟨p, xs, h1, h2, h3, h4, k ι H _ .refl hs rep_bl⟩
  · exact .inr ⟨c, z, h1, h2, k ι H _ .refl hs rep_bl⟩
end
end PB

set_option Elab.async false
set_option linter.all false
set_option maxRecDepth 100000
set_option maxHeartbeats 4000000
namespace PySem.Rows2
open PySem PySem.Spec PyProof.Rows
section
variable {prog : Program} {w : World} {A : Around} {E : Value → Shared → Prop} {s : Shared}
/-- a tuple's items collected: as the library's rule for a list -/
theorem collect_tuple {l : Addr} {vs : List Value} {Q : List Value → Shared → Prop} (hl : s.heap.IsTuple l vs.toArray)
    (h : Q vs { s with heap := (s.heap.push (seqObj "list" #[] 0)).update s.heap.objs.size (Obj.mapSeq (· ++ vs.toArray)) }) (hsz : vs.length ≤ sizeLine) :
    wpAny (model prog w) A (collect (.ref l)) Q E s := by
  obtain ⟨o, ho, hc, n, hd⟩ := id hl
  unfold collect
  refine wpAny_bind (wpAny_runValue (codeAny_builtin entry_proto_collect' ?_))
  show wpAny _ _ (do again (.builtin "list.__iadd__" ⟨[← newList [], .ref l], []⟩)) _ _ s
  refine wpAny_bind (wpAny_newList (wpAny_pure ⟨Code.quiet_builtin _ (by decide +kernel), codeAny_builtin entry_list_iadd' ?_⟩))
  show wpAny _ _ (Builtin.List.listExtendWith (.ref s.heap.objs.size) (.ref l) (.ref s.heap.objs.size)) _ _ { s with heap := s.heap.push (seqObj "list" #[] 0) }
  unfold Builtin.List.listExtendWith
  have ho' : (s.heap.push (seqObj "list" #[] 0)).get? l = some o := Heap.get?_push_of_some _ ho
  refine wpAny_bind (wpAny_typeOf (T := "tuple") ⟨o, ho', hc⟩ ?_)
  have ht : (Value.type "tuple" == Value.type "tuple") = true := by rfl
  rw [if_pos (by rw [ht]; simp)]
  refine wpAny_bind (listItems_at ho' hd ?_)
  refine wpAny_bind (listItems_at (xs := #[]) (n := 0) (Heap.get?_push_size _ rfl) rfl ?_)
  rw [if_neg (by simp)]
  refine wpAny_bind (listUpdate_at (xs := #[]) (n := 0) (Heap.get?_push_size _ rfl) rfl ?_ (Nat.zero_le _) (by show (#[] ++ vs.toArray).size ≤ sizeLine + 1; simp only [Array.size_append, List.size_toArray, List.length_nil]; omega))
  refine wpAny_pure ?_
  show wpAny (model prog w) A (do
      let o ← load s.heap.objs.size
      match o.data with
      | .seq xs _ => pure xs.toList
      | _ => unsupported "internal:collect") Q E { s with heap := (s.heap.push (seqObj "list" #[] 0)).update s.heap.objs.size (Obj.mapSeq (· ++ vs.toArray)) }
  refine wpAny_bind (wpAny_load (get?_update_seq (Heap.get?_push_size _ rfl) _) ?_)
  show wpAny _ _ (pure ((#[] : Array Value) ++ vs.toArray).toList) Q E _
  rw [show ((#[] : Array Value) ++ vs.toArray).toList = vs by simp]
  exact wpAny_pure h
end
end PySem.Rows2
namespace PB
open PySem PySem.Spec PyProof.Rows L2

section
variable {X : Cx} {cf : Cf} {W : L2.WX}
theorem sing {α : Type} {xs : List α} (h : xs.length = 1) : ∃ x, xs = [x] := by
  cases xs with
  | nil => cases h
  | cons x r => cases r with
    | nil => exact ⟨x, rfl⟩
    | cons y r => simp at h

theorem Sim.out {ι : List Addr} {H : Hp} {S : List O} (h : Sim cf ι H S) {p : Addr} (hp : H p = none) : p ∉ ι := fun hm => by
  obtain ⟨u, q⟩ := h.mem hm
  rw [hp] at q
  exact nomatch q
theorem Sim.outR {ι : List Addr} {H : Hp} {S : List O} (h : Sim cf ι H S) {p : Addr} (hp : H p = none) : p ∉ cf.R := fun hm => by
  obtain ⟨u, q⟩ := h.rat p hm
  rw [hp] at q
  exact nomatch q
theorem flat_rep {α : Type} (xs : List α) : ∀ n : Nat, (List.replicate n xs).flatten.length = n * xs.length
  | 0 => by simp
  | n + 1 => by rw [List.replicate_succ, List.flatten_cons, List.length_append, flat_rep xs n, Nat.succ_mul, Nat.add_comm]
/-! ### arguments, tuples, lists -/
def Mnil : EDs := fun _ S => .ok [] S
def Mcons (a : ED) (r : EDs) : EDs := fun env S => (a env S).bind fun x S => (r env S).bind fun xs S => .ok (x :: xs) S
theorem a_nil : PA X [] (tA cf W Mnil) := pa_nil.wk fun σ H Q ⟨R, ι, env, S, he, hs, k⟩ => k ι H .refl hs [] .nil
theorem acons_imp {a : ED} {r : EDs} : ∀ σ H Q, tA cf W (Mcons a r) σ H Q → L2.tCons (tE cf W a) (tA cf W r) σ H Q := fun σ H Q ⟨R, ι, env, S, he, hs, k⟩ => by
  refine ⟨R, ι, env, S, he, hs, (KR.bind k).mono fun ι1 H1 x S1 e1 s1 k1 v rv => ?_⟩
  refine ⟨R, ι1, env, S1, he.mono e1, s1, (KR.bind k1).mono fun ι2 H2 y S2 e2 s2 k2 w rw' => ?_⟩
  exact k2 ι2 H2 .refl s2 (v :: w) (.cons (rv.mono e2) rw')
theorem a_cons {e : Expr} {es : List Expr} {a : ED} {r : EDs} (ha : PE X e (tE cf W a)) (hr : PA X es (tA cf W r)) (hs : starEach (e :: es) X.env = (false, eval e X.env) :: starEach es X.env := by rfl) : PA X (e :: es) (tA cf W (Mcons a r)) :=
  (pa_cons ha hr hs).wk acons_imp
def Mtup (m : EDs) : ED := fun env S => (m env S).bind fun ds S => if ds.length ≤ 1000 then .ok (.tup ds) S else .no
theorem le_line {n : Nat} (h : n ≤ 1000) : n ≤ sizeLine := Nat.le_trans h (by decide)
theorem e_tup {es : List Expr} {x1 : Nat} {pos : Pos} {m : EDs} (h : PA X es (tA cf W m)) : PE X (.Tuple es x1 pos) (tE cf W (Mtup m)) := (pe_tup h).wk fun σ H Q ⟨R, ι, env, S, he, hs, k⟩ => by
  refine ⟨R, ι, env, S, he, hs, (KR.bind k).mono fun ι1 H1 ds S1 e1 s1 k1 vs rv => ?_⟩
  split at k1
  · rename_i hl
    have hz : vs.length ≤ sizeLine := by rw [rv.length]; exact le_line hl
    refine ⟨hz, fun p hp => k1 ι1 _ (Ext.new hp) (s1.new hp (szo_tup hz)) _ ?_⟩
    unfold Rep
    exact ⟨p, vs, rfl, SqT.of upd_same, rv.mono (Ext.new hp)⟩
  · exact k1.elim
/-- a new list, by its items -/
def tN (cf : Cf) (W : L2.WX) (m : EDs) : L2.TE := fun σ H Q => ∃ R ι env S, EnvR (cf.on R) ι H env σ ∧ Sim (cf.on R) ι H S ∧ KR (cf.on R) ι H (fun c d H' => W c d σ H') (fun ι' H' ds _ => ∀ vs p, Reps (cf.on R) ι' H' ds vs → ds.length ≤ sizeLine → H' p = none → Q (.ref p) (upd H' p (.lst vs))) (m env S)
/-- .. kept as data -/
def Mfrz (m : EDs) : ED := fun env S => (m env S).bind fun ds S => .ok (.lst ds) S
/-- .. a new object of the store -/
def Mnew (m : EDs) : ED := fun env S => (m env S).bind fun ds S => .ok (.ref S.length) (S ++ [.lst ds])
theorem e_frz {e : Expr} {m : EDs} (h : PE X e (tN cf W m)) : PE X e (tE cf W (Mfrz m)) := h.wk fun σ H Q ⟨R, ι, env, S, he, hs, k⟩ => by
  refine ⟨R, ι, env, S, he, hs, (KR.bind k).mono fun ι1 H1 ds S1 e1 s1 k1 vs p rv hz hp => ?_⟩
  refine k1 ι1 _ (Ext.new hp) (s1.new hp (szo_lst (by rw [rv.length]; exact hz))) _ ?_
  unfold Rep
  exact ⟨p, vs, rfl, upd_same, ⟨s1.out hp, s1.outR hp⟩, rv.mono (Ext.new hp)⟩
theorem e_new {e : Expr} {m : EDs} (h : PE X e (tN cf W m)) : PE X e (tE cf W (Mnew m)) := h.wk fun σ H Q ⟨R, ι, env, S, he, hs, k⟩ => by
  refine ⟨R, ι, env, S, he, hs, (KR.bind k).mono fun ι1 H1 ds S1 e1 s1 k1 vs p rv hz hp => ?_⟩
  refine k1 (ι1 ++ [p]) _ (Ext.push hp) (s1.push hp (szo_lst (by rw [rv.length]; exact hz)) ⟨vs, upd_same, rv.mono (Ext.push hp)⟩) _ ?_
  unfold Rep
  exact ⟨p, rfl, by rw [← s1.len]; simp⟩
def Mdisp (m : EDs) : EDs := fun env S => (m env S).bind fun ds S => if ds.length ≤ 1000 then .ok ds S else .no
theorem n_disp {es : List Expr} {pos : Pos} {m : EDs} (h : PA X es (tA cf W m)) : PE X (.List es pos) (tN cf W (Mdisp m)) := (pe_lst h).wk fun σ H Q ⟨R, ι, env, S, he, hs, k⟩ => by
  refine ⟨R, ι, env, S, he, hs, (KR.bind k).mono fun ι1 H1 ds S1 e1 s1 k1 vs rv => ?_⟩
  split at k1
  · rename_i hl
    have hz : vs.length ≤ sizeLine := by rw [rv.length]; exact le_line hl
    exact ⟨hz, fun p hp => k1 ι1 H1 .refl s1 vs p rv (le_line hl) hp⟩
  · exact k1.elim
/-! new lists out of values -/
abbrev N1 := D → List O → Option (List D)
abbrev N2 := D → D → List O → Option (List D)
def optRl (o : Option (List D)) (S : List O) : Rs (List D) := match o with | some d => .ok d S | none => .no
@[simp] theorem optRl_some (d : List D) (S : List O) : optRl (some d) S = .ok d S := rfl
@[simp] theorem optRl_none (S : List O) : optRl none S = .no := rfl
def MN1 (g : N1) (a : ED) : EDs := fun env S => (a env S).bind fun x S => optRl (g x S) S
def MN2 (g : N2) (a b : ED) : EDs := fun env S => (a env S).bind fun x S => (b env S).bind fun y S => optRl (g x y S) S
/-- what a new list's rule asks of one argument -/
def rN1 (cf : Cf) (g : N1) : V → Hp → VK → Prop := fun x H Q => ∃ R ι S dx ds, Sim (cf.on R) ι H S ∧ Rep (cf.on R) ι H dx x ∧ g dx S = some ds ∧ ∀ vs p, Reps (cf.on R) ι H ds vs → ds.length ≤ sizeLine → H p = none → Q (.ref p) (upd H p (.lst vs))
def rN2 (cf : Cf) (g : N2) : L2.R2 := fun x y H Q => ∃ R ι S dx dy ds, Sim (cf.on R) ι H S ∧ Rep (cf.on R) ι H dx x ∧ Rep (cf.on R) ι H dy y ∧ g dx dy S = some ds ∧ ∀ vs p, Reps (cf.on R) ι H ds vs → ds.length ≤ sizeLine → H p = none → Q (.ref p) (upd H p (.lst vs))
theorem n1_imp {g : N1} {a : ED} {σ : L2.St} {H : Hp} {Q : VK} (h : tN cf W (MN1 g a) σ H Q) : tE cf W a σ H (fun x H1 => rN1 cf g x H1 Q) := by
  obtain ⟨R, ι, env, S, he, hs, k⟩ := h
  refine ⟨R, ι, env, S, he, hs, (KR.bind k).mono fun ι1 H1 x S1 e1 s1 k1 v rv => ?_⟩
  cases hg : g x S1 with
  | none => rw [hg] at k1; exact k1.elim
  | some ds => rw [hg] at k1; exact ⟨R, ι1, S1, x, ds, s1, rv, hg, fun vs p r hz hp => k1 ι1 H1 .refl s1 vs p r hz hp⟩
theorem n2_imp {g : N2} {a b : ED} {σ : L2.St} {H : Hp} {Q : VK} (h : tN cf W (MN2 g a b) σ H Q) : L2.tOp (rN2 cf g) (tE cf W a) (tE cf W b) σ H Q := by
  obtain ⟨R, ι, env, S, he, hs, k⟩ := h
  refine ⟨R, ι, env, S, he, hs, (KR.bind k).mono fun ι1 H1 x S1 e1 s1 k1 v rv => ?_⟩
  refine ⟨R, ι1, env, S1, he.mono e1, s1, (KR.bind k1).mono fun ι2 H2 y S2 e2 s2 k2 w rw' => ?_⟩
  cases hg : g x y S2 with
  | none => rw [hg] at k2; exact k2.elim
  | some ds => rw [hg] at k2; exact ⟨R, ι2, S2, x, y, ds, s2, rv.mono e2, rw', hg, fun vs p r hz hp => k2 ι2 H2 .refl s2 vs p r hz hp⟩
def catN : N2 := fun x y S => match lstD S x, lstD S y with | some a, some b => if a.length + b.length ≤ sizeLine then some (a ++ b) else none | _, _ => none
theorem n_cat {a b : Expr} {ma mb : ED} {pos : Pos} (ha : PE X a (tE cf W ma)) (hb : PE X b (tE cf W mb)) : PE X (.BinOp a .Add b pos) (tN cf W (MN2 catN ma mb)) := by
  refine (pe_op (op_cat.wk fun x y H Q h => ?_) ha hb).wk fun σ H Q h => n2_imp h
  obtain ⟨R, ι, S, dx, dy, ds, hs, rx, ry, e, k⟩ := h
  unfold catN at e
  split at e
  · rename_i da db h1 h2
    split at e
    · rename_i hz
      cases e
      obtain ⟨p, xs, rfl, a1, a2, _⟩ := lstD_at hs h1 rx
      obtain ⟨q, ys, rfl, b1, b2, _⟩ := lstD_at hs h2 ry
      have hl : xs.length + ys.length ≤ sizeLine := by rw [a2.length, b2.length]; exact hz
      exact ⟨p, q, xs, ys, rfl, rfl, a1, b1, hl, fun t ht => k _ t (a2.append b2) (by rw [List.length_append]; exact hz) ht⟩
    · cases e
  · cases e
theorem Reps.replicate {ι : List Addr} {H : Hp} {ds : List D} {vs : List V} (h : Reps cf ι H ds vs) : ∀ n : Nat, Reps cf ι H (List.replicate n ds).flatten (List.replicate n vs).flatten
  | 0 => by simpa using (Reps.nil : Reps cf ι H [] [])
  | n + 1 => by
    rw [List.replicate_succ, List.replicate_succ, List.flatten_cons, List.flatten_cons]
    exact h.append (Reps.replicate h n)
def repN : N2 := fun x y S => match lstD S x, y with | some a, .int k => if -(2 ^ 63) ≤ k ∧ k < 2 ^ 63 ∧ a.length * k.toNat ≤ sizeLine then some (List.replicate k.toNat a).flatten else none | _, _ => none
theorem n_rep {a b : Expr} {ma mb : ED} {pos : Pos} (ha : PE X a (tE cf W ma)) (hb : PE X b (tE cf W mb)) : PE X (.BinOp a .Mult b pos) (tN cf W (MN2 repN ma mb)) := by
  refine (pe_op (op_rep.wk fun x y H Q h => ?_) ha hb).wk fun σ H Q h => n2_imp h
  obtain ⟨R, ι, S, dx, dy, ds, hs, rx, ry, e, k⟩ := h
  unfold repN at e
  split at e
  · rename_i da kk h1
    split at e
    · rename_i hz
      cases e
      obtain ⟨p, xs, rfl, a1, a2, _⟩ := lstD_at hs h1 rx
      unfold Rep at ry
      refine ⟨p, kk, xs, rfl, ry, a1, hz.1, hz.2.1, by rw [a2.length]; exact hz.2.2, fun t ht => k _ t (a2.replicate _) ?_ ht⟩
      rw [flat_rep, Nat.mul_comm]
      exact hz.2.2
    · cases e
  · cases e

/-! ### subscripts -/
def idxD : G2 := fun x y S => match y with
  | .int i => (match rd S x with
    | .lst ds => atI ds i
    | .tup ds => atI ds i
    | .str z => if z.length ≤ sizeLine then (atI z.cps.toList i).map fun c => .str ⟨#[c]⟩ else none
    | _ => none)
  | _ => none
theorem atI_rep {ι : List Addr} {H : Hp} {ds : List D} {vs : List V} {i : Int} {d : D} (r : Reps cf ι H ds vs) (e : atI ds i = some d) : ∃ v, atI vs i = some v ∧ Rep cf ι H d v := by
  unfold atI at e ⊢
  rw [r.length]
  obtain ⟨j, h1, h2⟩ := Option.bind_eq_some_iff.mp e
  obtain ⟨v, h3, h4⟩ := r.get h2
  exact ⟨v, by rw [h1]; exact h3, h4⟩
theorem x_idx (hK : X.K = cf.K) : IxR X (r2 cf idxD) := fun value slice pins s σ H x y v u Q I rx ry q hs => by
  refine ix_seq value slice pins s σ H x y v u Q I rx ry ?_ hs
  obtain ⟨R, ι, S, dx, dy, d, sim, qx, qy, e, k⟩ := q
  unfold idxD at e
  split at e
  · rename_i i
    unfold Rep at qy
    have viaSeq : ∀ ds, seqD S dx = some ds → atI ds i = some d → rIx X.K x y H Q := fun ds hq he => by
      obtain ⟨a, vs, rfl, h1, h2, _⟩ := seqD_at sim hq qx
      obtain ⟨w, h3, h4⟩ := atI_rep h2 he
      rcases h1 with h1 | h1
      · exact .inl ⟨a, vs, i, w, rfl, qy, by rw [hK]; exact h1, h3, k ι H w .refl sim h4⟩
      · exact .inr (.inl ⟨a, vs, i, w, rfl, qy, by rw [hK]; exact h1, h3, k ι H w .refl sim h4⟩)
    split at e
    · rename_i ds hq
      exact viaSeq ds (by unfold seqD; rw [hq]) e
    · rename_i ds hq
      exact viaSeq ds (by unfold seqD; rw [hq]) e
    · rename_i z hq
      split at e
      · rename_i hz
        obtain ⟨c, h1, rfl⟩ := Option.map_eq_some_iff.mp e
        have hd : dx = .str z := by
          cases dx <;> simp [rd] at hq
          · rw [hq]
          · split at hq <;> cases hq
        subst hd
        unfold Rep at qx
        exact .inr (.inr ⟨z, i, c, qx, qy, hz, h1, k ι H _ .refl sim rep_str⟩)
      · cases e
    · cases e
  · cases e
theorem e_idx (hK : X.K = cf.K) {a b : Expr} {ma mb : ED} {pos : Pos} (ha : PE X a (tE cf W ma)) (hb : PE X b (tE cf W mb)) (hs : PlainIx b := by exact fun _ _ => rfl) : PE X (.Subscript a b pos) (tE cf W (M2 idxD ma mb)) :=
  (pe_ix (x_idx hK) ha hb hs).wk (t2_imp fun _ _ _ _ h => h)
/-- a slice's part -/
abbrev OD := DEnv → List O → Rs (Option Int)
def tO (cf : Cf) (W : L2.WX) (m : OD) : L2.TO := fun σ H Q => ∃ R ι env S, EnvR (cf.on R) ι H env σ ∧ Sim (cf.on R) ι H S ∧ KR (cf.on R) ι H (fun c d H' => W c d σ H') (fun _ H' o _ => Q o H') (m env S)
def Mno : OD := fun _ S => .ok none S
def Mso (a : ED) : OD := fun env S => (a env S).bind fun x S => match x with | .int i => .ok (some i) S | _ => .no
theorem _root_.L2.PO.wk {e : Option Expr} {t t' : L2.TO} (h : PO X e t) (i : ∀ σ H Q, t' σ H Q → t σ H Q) : PO X e t' := ⟨fun pins s σ H Q I q => h.run pins s σ H Q I (i σ H Q q)⟩
theorem p_no : PO X none (tO cf W Mno) := po_none.wk fun σ H Q ⟨R, ι, env, S, he, hs, k⟩ => k ι H .refl hs
theorem p_so {e : Expr} {a : ED} (h : PE X e (tE cf W a)) : PO X (some e) (tO cf W (Mso a)) := (po_some h).wk fun σ H Q ⟨R, ι, env, S, he, hs, k⟩ => by
  refine ⟨R, ι, env, S, he, hs, (KR.bind k).mono fun ι1 H1 x S1 e1 s1 k1 v rv => ?_⟩
  split at k1
  · unfold Rep at rv
    exact ⟨_, rv, k1 ι1 H1 .refl s1⟩
  · exact k1.elim
def cutD (xs : List D) (lo hi : Option Int) : List D := (xs.drop (HT.sIx xs.length 0 lo)).take (HT.sIx xs.length xs.length hi - HT.sIx xs.length 0 lo)
theorem Reps.cut {ι : List Addr} {H : Hp} {ds : List D} {vs : List V} (r : Reps cf ι H ds vs) (lo hi : Option Int) : Reps cf ι H (cutD ds lo hi) (cutV vs lo hi) := by
  unfold cutD cutV
  rw [r.length]
  exact (r.drop _).take _
theorem cutD_len (xs : List D) (lo hi : Option Int) : (cutD xs lo hi).length ≤ xs.length := by
  unfold cutD
  rw [List.length_take, List.length_drop]
  omega
/-- a slice of a tuple or a text -/
def slD (x : D) (lo hi : Option Int) : Option D := match x with
  | .tup ds => some (.tup (cutD ds lo hi))
  | .str z => if z.length ≤ sizeLine then some (.str (cutS z lo hi)) else none
  | _ => none
def Msl (a : ED) (l h : OD) : ED := fun env S => (a env S).bind fun x S => (l env S).bind fun lo S => (h env S).bind fun hi S => optRs (slD x lo hi) S
theorem cutV_whole {xs : List V} {lo hi : Option Int} (h : HT.sIx xs.length 0 lo = 0 ∧ HT.sIx xs.length xs.length hi = xs.length) : cutV xs lo hi = xs := by
  unfold cutV
  rw [h.1, h.2]
  simp
theorem cutD_whole {xs : List D} {lo hi : Option Int} (h : HT.sIx xs.length 0 lo = 0 ∧ HT.sIx xs.length xs.length hi = xs.length) : cutD xs lo hi = xs := by
  unfold cutD
  rw [h.1, h.2]
  simp
theorem _root_.L2.SlR.wk {r r' : V → Option Int → Option Int → Hp → VK → Prop} (h : SlR X r) (i : ∀ x lo hi H Q, r' x lo hi H Q → r x lo hi H Q) : SlR X r' := fun pins s σ H x v vl vu lo hi sl Q I rx hs pl pu q => h pins s σ H x v vl vu lo hi sl Q I rx hs pl pu (i x lo hi H Q q)
theorem e_sl (hK : X.K = cf.K) {a : Expr} {lo hi : Option Expr} {ma : ED} {ml mh : OD} {p2 pos : Pos} (ha : PE X a (tE cf W ma)) (hl : PO X lo (tO cf W ml)) (hh : PO X hi (tO cf W mh)) : PE X (.Subscript a (.Slice lo hi none p2) pos) (tE cf W (Msl ma ml mh)) := by
  refine (pe_slice (r := fun x lo hi H Q => ∃ R ι S dx d, Sim (cf.on R) ι H S ∧ Rep (cf.on R) ι H dx x ∧ slD dx lo hi = some d ∧ ∀ ι' H' v, Ext ι H ι' H' → Sim (cf.on R) ι' H' S → Rep (cf.on R) ι' H' d v → Q v H') ((sl_tupA.or sl_str).wk fun x lo hi H Q q => ?_) ha hl hh).wk fun σ H Q ⟨R, ι, env, S, he, hs, k⟩ => ?_
  · obtain ⟨R, ι, S, dx, d, hs, rx, e, k⟩ := q
    unfold slD at e
    split at e
    · rename_i ds
      cases e
      obtain ⟨p, xs, rfl, h1, h2, h3⟩ := tup_at hs rx
      refine .inl ⟨p, xs, rfl, by rw [hK]; exact h1, fun hw => ?_, fun hw t ht => ?_⟩
      · refine k ι H _ .refl hs ?_
        rw [cutD_whole (by rw [← h2.length]; exact hw)]
        exact rx
      · refine k ι _ _ (Ext.new ht) (hs.new ht (szo_tup (Nat.le_trans (cutV_length _ _ _) (by rw [h2.length]; exact h3)))) ?_
        unfold Rep
        exact ⟨t, _, rfl, SqT.of upd_same, (h2.cut lo hi).mono (Ext.new ht)⟩
    · rename_i z
      split at e
      · rename_i hz
        cases e
        unfold Rep at rx
        exact .inr ⟨z, rx, hz, k ι H _ .refl hs rep_str⟩
      · cases e
    · cases e
  · refine ⟨R, ι, env, S, he, hs, (KR.bind k).mono fun ι1 H1 x S1 e1 s1 k1 v rv => ?_⟩
    refine ⟨R, ι1, env, S1, he.mono e1, s1, (KR.bind k1).mono fun ι2 H2 l S2 e2 s2 k2 => ?_⟩
    refine ⟨R, ι2, env, S2, (he.mono e1).mono e2, s2, (KR.bind k2).mono fun ι3 H3 h S3 e3 s3 k3 => ?_⟩
    cases hg : slD x l h with
    | none => rw [hg] at k3; exact k3.elim
    | some d => rw [hg] at k3; exact ⟨R, ι3, S3, x, d, s3, (rv.mono e2).mono e3, hg, fun ι' H' u e s r => k3 ι' H' e s u r⟩
/-- a slice of a list: a new list -/
def Nsl (a : ED) (l h : OD) : EDs := fun env S => (a env S).bind fun x S => (l env S).bind fun lo S => (h env S).bind fun hi S => optRl ((lstD S x).map fun ds => cutD ds lo hi) S
theorem n_sl (hK : X.K = cf.K) {a : Expr} {lo hi : Option Expr} {ma : ED} {ml mh : OD} {p2 pos : Pos} (ha : PE X a (tE cf W ma)) (hl : PO X lo (tO cf W ml)) (hh : PO X hi (tO cf W mh)) : PE X (.Subscript a (.Slice lo hi none p2) pos) (tN cf W (Nsl ma ml mh)) := by
  refine (pe_slice sl_list ha hl hh).wk fun σ H Q ⟨R, ι, env, S, he, hs, k⟩ => ?_
  refine ⟨R, ι, env, S, he, hs, (KR.bind k).mono fun ι1 H1 x S1 e1 s1 k1 v rv => ?_⟩
  refine ⟨R, ι1, env, S1, he.mono e1, s1, (KR.bind k1).mono fun ι2 H2 l S2 e2 s2 k2 => ?_⟩
  refine ⟨R, ι2, env, S2, (he.mono e1).mono e2, s2, (KR.bind k2).mono fun ι3 H3 h S3 e3 s3 k3 => ?_⟩
  cases hg : lstD S3 x with
  | none => rw [hg] at k3; exact k3.elim
  | some ds =>
    rw [hg] at k3
    obtain ⟨p, xs, rfl, h1, h2, h3⟩ := lstD_at s3 hg ((rv.mono e2).mono e3)
    exact ⟨p, xs, rfl, SqL.of h1, fun t ht => k3 ι3 H3 .refl s3 _ t (h2.cut l h) (Nat.le_trans (cutD_len _ _ _) h3) ht⟩

/-! ### built-ins of one argument -/
abbrev G1 := D → List O → Option D
def M1 (g : G1) (a : ED) : ED := fun env S => (a env S).bind fun x S => optRs (g x S) S
def rC1 (cf : Cf) (g : G1) : List V → Hp → VK → Prop := fun xs H Q => ∃ R ι S dx d x, xs = [x] ∧ Sim (cf.on R) ι H S ∧ Rep (cf.on R) ι H dx x ∧ g dx S = some d ∧ ∀ ι' H' v, Ext ι H ι' H' → Sim (cf.on R) ι' H' S → Rep (cf.on R) ι' H' d v → Q v H'
theorem _root_.L2.CallR.wk {f : Value} {r r' : List V → Hp → VK → Prop} (h : CallR X f r) (i : ∀ xs H Q, r' xs H Q → r xs H Q) : CallR X f r' := fun pins s σ H xs us Q I rx q => h pins s σ H xs us Q I rx (i xs H Q q)
theorem _root_.L2.CallR.or2 {f : Value} {r r' : List V → Hp → VK → Prop} (h : CallR X f r) (h' : CallR X f r') : CallR X f (fun xs H Q => r xs H Q ∨ r' xs H Q) := fun pins s σ H xs us Q I rx q => q.elim (h pins s σ H xs us Q I rx) (h' pins s σ H xs us Q I rx)
theorem c1_imp {g : G1} {a : ED} {σ : L2.St} {H : Hp} {Q : VK} (h : tE cf W (M1 g a) σ H Q) : L2.tCB (rC1 cf g) (tCons (tE cf W a) tNil) σ H Q := by
  obtain ⟨R, ι, env, S, he, hs, k⟩ := h
  refine ⟨R, ι, env, S, he, hs, (KR.bind k).mono fun ι1 H1 x S1 e1 s1 k1 v rv => ?_⟩
  cases hg : g x S1 with
  | none => rw [hg] at k1; exact k1.elim
  | some d => rw [hg] at k1; exact ⟨R, ι1, S1, x, d, v, rfl, s1, rv, hg, fun ι' H' u e s r => k1 ι' H' e s u r⟩
theorem e_b1 {id : String} {x : Str} {e : Expr} {g : G1} {a : ED} {p pos : Pos} (hc : CallR X (.builtin id) (rC1 cf g)) (hm : X.mg x = none) (hv : bootBuiltins x = some (.builtin id)) (ha : PE X e (tE cf W a)) (hg : Gl X x := by rfl) (hn : x ≠ "__name__" := by decide) (hdb : (x == ("__debug__" : Str)) = false := by decide)
    (he : starEach [e] X.env = (false, eval e X.env) :: starEach [] X.env := by rfl) (hpl : (backTo pos (starEach [] X.env)).any (·.1) = false := by rfl) : PE X (.Call (.Name x p) [e] [] pos) (tE cf W (M1 g a)) :=
  (pe_callB hc hg hm hv (pa_cons ha pa_nil he) hn hdb he hpl).wk fun σ H Q h => c1_imp h
theorem e_bT {T : String} {x : Str} {e : Expr} {g : G1} {a : ED} {p pos : Pos} (hc : CallR X (.type T) (rC1 cf g)) (hm : X.mg x = none) (hv : bootBuiltins x = some (.type T)) (ha : PE X e (tE cf W a)) (hg : Gl X x := by rfl) (hn : x ≠ "__name__" := by decide) (hdb : (x == ("__debug__" : Str)) = false := by decide)
    (he : starEach [e] X.env = (false, eval e X.env) :: starEach [] X.env := by rfl) (hpl : (backTo pos (starEach [] X.env)).any (·.1) = false := by rfl) : PE X (.Call (.Name x p) [e] [] pos) (tE cf W (M1 g a)) :=
  (pe_callTy hc hg hm hv (pa_cons ha pa_nil he) hn hdb he hpl).wk fun σ H Q h => c1_imp h
def lenG : G1 := fun x S => match rd S x with
  | .lst ds => some (.int ds.length) | .tup ds => some (.int ds.length) | .str z => if z.length ≤ sizeLine then some (.int z.length) else none | _ => none
theorem str_of_rd {S : List O} {d : D} {z : Str} (h : rd S d = .str z) : d = .str z := by
  cases d <;> simp [rd] at h
  · rw [h]
  · split at h <;> cases h
theorem c_len (hK : X.K = cf.K) : CallR X (.builtin "len") (rC1 cf lenG) := call_len.wk fun xs H Q ⟨R, ι, S, dx, d, x, hx, hs, rx, e, k⟩ => by
  subst hx
  unfold lenG at e
  have viaSeq : ∀ ds, seqD S dx = some ds → d = .int ds.length → ∃ x' n, [x] = [x'] ∧ LenV X.K x' H n ∧ Q (.int n) H := fun ds hq hd => by
    subst hd
    obtain ⟨a, vs, rfl, h1, h2, _⟩ := seqD_at hs hq rx
    refine ⟨_, vs.length, rfl, ?_, by rw [h2.length]; exact k ι H _ .refl hs rep_int⟩
    rcases h1 with h1 | h1
    · exact .inl ⟨vs, by rw [hK]; exact h1, rfl⟩
    · exact .inr ⟨vs, by rw [hK]; exact h1, rfl⟩
  split at e
  · rename_i ds hq
    exact viaSeq ds (by unfold seqD; rw [hq]) (Option.some.inj e).symm
  · rename_i ds hq
    exact viaSeq ds (by unfold seqD; rw [hq]) (Option.some.inj e).symm
  · rename_i z hq
    split at e
    · rename_i hz
      cases e
      have := str_of_rd hq
      subst this
      unfold Rep at rx
      subst rx
      exact ⟨_, z.length, rfl, ⟨hz, rfl⟩, k ι H _ .refl hs rep_int⟩
    · cases e
  · cases e
def absG : G1 := fun x _ => match x with | .int i => some (.int (if i < 0 then -i else i)) | _ => none
theorem c_abs : CallR X (.builtin "abs") (rC1 cf absG) := call_abs.wk fun xs H Q ⟨R, ι, S, dx, d, x, hx, hs, rx, e, k⟩ => by
  subst hx
  unfold absG at e
  split at e
  · cases e
    unfold Rep at rx
    subst rx
    exact ⟨_, rfl, k ι H _ .refl hs rep_int⟩
  · cases e
def intG : G1 := fun x _ => match x with
  | .int i => some (.int i)
  | .bl b => some (.int (if b then 1 else 0))
  | .str z => if z.length ≤ 640 then (PySem.intText? z).map .int else none
  | _ => none
theorem c_int : CallR X (.type "int") (rC1 cf intG) := (call_int1.or2 call_int_str).wk fun xs H Q ⟨R, ι, S, dx, d, x, hx, hs, rx, e, k⟩ => by
  subst hx
  unfold intG at e
  split at e
  · cases e
    unfold Rep at rx
    subst rx
    exact .inl (.inl ⟨_, rfl, k ι H _ .refl hs rep_int⟩)
  · cases e
    unfold Rep at rx
    subst rx
    exact .inl (.inr ⟨_, rfl, k ι H _ .refl hs rep_int⟩)
  · split at e
    · rename_i hz
      obtain ⟨n, hn, rfl⟩ := Option.map_eq_some_iff.mp e
      unfold Rep at rx
      subst rx
      exact .inr ⟨_, n, rfl, hn, hz, k ι H _ .refl hs rep_int⟩
    · cases e
  · cases e
def strG : G1 := fun x _ => match x with | .int i => if i.natAbs < 2 ^ 1900 then some (.str (toString i)) else none | _ => none
theorem c_str : CallR X (.type "str") (rC1 cf strG) := call_str_int.wk fun xs H Q ⟨R, ι, S, dx, d, x, hx, hs, rx, e, k⟩ => by
  subst hx
  unfold strG at e
  split at e
  · split at e
    · rename_i h
      cases e
      unfold Rep at rx
      subst rx
      exact ⟨_, rfl, Nat.lt_trans (PySem.Flt.log2_lt_of (by decide) h) (by decide), k ι H _ .refl hs rep_str⟩
    · cases e
  · cases e
def boolsOf : List D → Option (List Bool)
  | [] => some []
  | .bl b :: r => (boolsOf r).map (b :: ·)
  | _ :: _ => none
def intsOf : List D → Option (List Int)
  | [] => some []
  | .int b :: r => (intsOf r).map (b :: ·)
  | _ :: _ => none
def strsOf : List D → Option (List Str)
  | [] => some []
  | .str b :: r => (strsOf r).map (b :: ·)
  | _ :: _ => none
theorem reps_bools {ι : List Addr} {H : Hp} : ∀ {ds : List D} {vs : List V} {bs : List Bool}, boolsOf ds = some bs → Reps cf ι H ds vs → vs = bs.map V.bl
  | [], vs, bs, e, r => by unfold Reps at r; subst r; simp [boolsOf] at e; subst e; rfl
  | d :: ds, vs, bs, e, r => by
    unfold Reps at r
    obtain ⟨v, w, rfl, h1, h2⟩ := r
    cases d with
    | bl b =>
      simp only [boolsOf] at e
      obtain ⟨cs, h3, rfl⟩ := Option.map_eq_some_iff.mp e
      unfold Rep at h1
      rw [h1, reps_bools h3 h2]
      rfl
    | _ => simp [boolsOf] at e
theorem reps_ints {ι : List Addr} {H : Hp} : ∀ {ds : List D} {vs : List V} {bs : List Int}, intsOf ds = some bs → Reps cf ι H ds vs → vs = bs.map V.int
  | [], vs, bs, e, r => by unfold Reps at r; subst r; simp [intsOf] at e; subst e; rfl
  | d :: ds, vs, bs, e, r => by
    unfold Reps at r
    obtain ⟨v, w, rfl, h1, h2⟩ := r
    cases d with
    | int b =>
      simp only [intsOf] at e
      obtain ⟨cs, h3, rfl⟩ := Option.map_eq_some_iff.mp e
      unfold Rep at h1
      rw [h1, reps_ints h3 h2]
      rfl
    | _ => simp [intsOf] at e
theorem reps_strs {ι : List Addr} {H : Hp} : ∀ {ds : List D} {vs : List V} {bs : List Str}, strsOf ds = some bs → Reps cf ι H ds vs → vs = bs.map V.str
  | [], vs, bs, e, r => by unfold Reps at r; subst r; simp [strsOf] at e; subst e; rfl
  | d :: ds, vs, bs, e, r => by
    unfold Reps at r
    obtain ⟨v, w, rfl, h1, h2⟩ := r
    cases d with
    | str b =>
      simp only [strsOf] at e
      obtain ⟨cs, h3, rfl⟩ := Option.map_eq_some_iff.mp e
      unfold Rep at h1
      rw [h1, reps_strs h3 h2]
      rfl
    | _ => simp [strsOf] at e
theorem ints_reps {ι : List Addr} {H : Hp} : ∀ ns : List Int, Reps cf ι H (ns.map D.int) (ns.map V.int)
  | [] => .nil
  | n :: ns => .cons rep_int (ints_reps ns)
theorem strs_reps {ι : List Addr} {H : Hp} : ∀ ns : List Str, Reps cf ι H (ns.map D.str) (ns.map V.str)
  | [] => .nil
  | n :: ns => .cons rep_str (strs_reps ns)
def allG : G1 := fun x S => (lstD S x).bind fun ds => (boolsOf ds).map fun bs => .bl (bs.all id)
def anyG : G1 := fun x S => (lstD S x).bind fun ds => (boolsOf ds).map fun bs => .bl (bs.any id)
def sumG : G1 := fun x S => (lstD S x).bind fun ds => (intsOf ds).map fun ns => .int ns.sum
theorem c_all (hc : X.calm = true) : CallR X (.builtin "all") (rC1 cf allG) := (cr_all hc).wk fun xs H Q ⟨R, ι, S, dx, d, x, hx, hs, rx, e, k⟩ => by
  subst hx
  obtain ⟨ds, h1, h2⟩ := Option.bind_eq_some_iff.mp e
  obtain ⟨bs, h3, rfl⟩ := Option.map_eq_some_iff.mp h2
  obtain ⟨a, vs, rfl, h4, h5, _⟩ := lstD_at hs h1 rx
  exact ⟨a, bs, rfl, by rw [← reps_bools h3 h5]; exact SqL.of h4, k ι H _ .refl hs rep_bl⟩
theorem c_any (hc : X.calm = true) : CallR X (.builtin "any") (rC1 cf anyG) := (cr_any hc).wk fun xs H Q ⟨R, ι, S, dx, d, x, hx, hs, rx, e, k⟩ => by
  subst hx
  obtain ⟨ds, h1, h2⟩ := Option.bind_eq_some_iff.mp e
  obtain ⟨bs, h3, rfl⟩ := Option.map_eq_some_iff.mp h2
  obtain ⟨a, vs, rfl, h4, h5, _⟩ := lstD_at hs h1 rx
  exact ⟨a, bs, rfl, by rw [← reps_bools h3 h5]; exact SqL.of h4, k ι H _ .refl hs rep_bl⟩
theorem c_sum (hc : X.calm = true) : CallR X (.builtin "sum") (rC1 cf sumG) := (cr_sum hc).wk fun xs H Q ⟨R, ι, S, dx, d, x, hx, hs, rx, e, k⟩ => by
  subst hx
  obtain ⟨ds, h1, h2⟩ := Option.bind_eq_some_iff.mp e
  obtain ⟨bs, h3, rfl⟩ := Option.map_eq_some_iff.mp h2
  obtain ⟨a, vs, rfl, h4, h5, _⟩ := lstD_at hs h1 rx
  exact ⟨a, bs, rfl, by rw [← reps_ints h3 h5]; exact SqL.of h4, k ι H _ .refl hs rep_int⟩
def tupG : G1 := fun x S => (seqD S x).map .tup
theorem c_tuple (hK : X.K = cf.K) : CallR X (.type "tuple") (rC1 cf tupG) := call_tuple_of.wk fun xs H Q ⟨R, ι, S, dx, d, x, hx, hs, rx, e, k⟩ => by
  subst hx
  obtain ⟨ds, h1, rfl⟩ := Option.map_eq_some_iff.mp e
  obtain ⟨a, vs, rfl, h2, h3, h4⟩ := seqD_at hs h1 rx
  rcases h2 with h2 | h2
  · refine ⟨a, vs, rfl, .inl ⟨by rw [hK]; exact h2, fun t ht => ?_⟩⟩
    refine k ι _ _ (Ext.new ht) (hs.new ht (szo_tup (by rw [h3.length]; exact h4))) ?_
    unfold Rep
    exact ⟨t, vs, rfl, SqT.of upd_same, h3.mono (Ext.new ht)⟩
  · refine ⟨a, vs, rfl, .inr ⟨by rw [hK]; exact h2, k ι H _ .refl hs ?_⟩⟩
    unfold Rep
    exact ⟨a, vs, rfl, h2, h3⟩
/-- new lists by a call: list(x), sorted(x) -/
theorem n_bT {T : String} {x : Str} {e : Expr} {g : N1} {a : ED} {p pos : Pos} (hc : CallR X (.type T) (fun xs H Q => ∃ v, xs = [v] ∧ rN1 cf g v H Q)) (hm : X.mg x = none) (hv : bootBuiltins x = some (.type T)) (ha : PE X e (tE cf W a)) (hg : Gl X x := by rfl) (hn : x ≠ "__name__" := by decide) (hdb : (x == ("__debug__" : Str)) = false := by decide)
    (he : starEach [e] X.env = (false, eval e X.env) :: starEach [] X.env := by rfl) (hpl : (backTo pos (starEach [] X.env)).any (·.1) = false := by rfl) : PE X (.Call (.Name x p) [e] [] pos) (tN cf W (MN1 g a)) :=
  (pe_callTy hc hg hm hv (pa_cons ha pa_nil he) hn hdb he hpl).wk fun σ H Q h => by
    obtain ⟨R, ι, env, S, he, hs, k⟩ := n1_imp h
    exact ⟨R, ι, env, S, he, hs, k.mono fun _ _ _ _ _ _ q v r => ⟨v, rfl, q v r⟩⟩
theorem n_b1 {id : String} {x : Str} {e : Expr} {g : N1} {a : ED} {p pos : Pos} (hc : CallR X (.builtin id) (fun xs H Q => ∃ v, xs = [v] ∧ rN1 cf g v H Q)) (hm : X.mg x = none) (hv : bootBuiltins x = some (.builtin id)) (ha : PE X e (tE cf W a)) (hg : Gl X x := by rfl) (hn : x ≠ "__name__" := by decide) (hdb : (x == ("__debug__" : Str)) = false := by decide)
    (he : starEach [e] X.env = (false, eval e X.env) :: starEach [] X.env := by rfl) (hpl : (backTo pos (starEach [] X.env)).any (·.1) = false := by rfl) : PE X (.Call (.Name x p) [e] [] pos) (tN cf W (MN1 g a)) :=
  (pe_callB hc hg hm hv (pa_cons ha pa_nil he) hn hdb he hpl).wk fun σ H Q h => by
    obtain ⟨R, ι, env, S, he, hs, k⟩ := n1_imp h
    exact ⟨R, ι, env, S, he, hs, k.mono fun _ _ _ _ _ _ q v r => ⟨v, rfl, q v r⟩⟩
def listG : N1 := fun x S => seqD S x
theorem c_list (hK : X.K = cf.K) : CallR X (.type "list") (fun xs H Q => ∃ v, xs = [v] ∧ rN1 cf listG v H Q) := call_list_of.wk fun xs H Q ⟨v, hx, R, ι, S, dx, ds, hs, rx, e, k⟩ => by
  subst hx
  obtain ⟨a, vs, rfl, h2, h3, h4⟩ := seqD_at hs e rx
  exact ⟨a, vs, rfl, by rw [hK]; exact h2, fun t ht => k vs t h3 h4 ht⟩
/-- list(range(n)) -/
def rngL (lo hi : Int) : List Int := (List.range (hi - lo).toNat).map fun (i : Nat) => lo + (i : Int)
def Nrng (a : ED) : EDs := fun env S => (a env S).bind fun x S => match x with | .int n => if n ≤ 16777216 ∧ -(2 ^ 62) ≤ n then .ok ((rngL 0 n).map .int) S else .no | _ => .no
theorem n_listRng {e : Expr} {a : ED} {p p2 pos pos2 : Pos} (hc : X.calm = true) (hm : X.mg "list" = none) (hm2 : X.mg "range" = none) (ha : PE X e (tE cf W a)) (hg : Gl X "list" := by rfl) (hg2 : Gl X "range" := by rfl)
    (na : starEach [e] X.env = (false, eval e X.env) :: starEach [] X.env := by rfl) (na2 : starEach [.Call (.Name "range" p2) [e] [] pos2] X.env = (false, eval (.Call (.Name "range" p2) [e] [] pos2) X.env) :: starEach [] X.env := by rfl) :
    PE X (.Call (.Name "list" p) [.Call (.Name "range" p2) [e] [] pos2] [] pos) (tN cf W (Nrng a)) := (pe_listRg hc hg hm (prg_1 hg2 hm2 ha na) na2).wk fun σ H Q ⟨R, ι, env, S, he, hs, k⟩ => by
  refine ⟨R, ι, env, S, he, hs, (KR.bind k).mono fun ι1 H1 x S1 e1 s1 k1 v rv => ?_⟩
  split at k1
  · rename_i n
    unfold Rep at rv
    split at k1
    · rename_i hb
      refine ⟨n, rv, ⟨by omega, by omega, by omega, by omega, by omega⟩, fun t ht => ?_⟩
      have e2 : rgV 0 n = (rngL 0 n).map V.int := by
        unfold rgV rngL
        rw [List.map_map]
        rfl
      rw [e2]
      refine k1 ι1 H1 .refl s1 _ t (ints_reps _) ?_ ht
      unfold rngL
      rw [List.length_map, List.length_map, List.length_range, sizeLine_eq]
      omega
    · exact k1.elim
  · exact k1.elim
end
end PB

set_option Elab.async false
set_option linter.all false
set_option maxRecDepth 100000
set_option maxHeartbeats 4000000
namespace PB
open PySem PySem.Spec PyProof.Rows L2 RZ

/-! ### what is walked -/
def Gd (g : Option (Nat × O)) (S : List O) : Prop := match g with | none => True | some (l, o) => S[l]? = some o
/-- data lean on nothing new -/
abbrev RN (R1 R2 : List Addr) (H : Hp) : Prop := ∀ b ∈ R2, b ∈ R1 ∨ H b = none
section
variable {cf : Cf} {ι : List Addr} {H : Hp}
mutual
theorem Rep.toR {R1 R2 : List Addr} (hR : RN R1 R2 H) : ∀ {d : D} {v : V}, Rep (cf.on R1) ι H d v → Rep (cf.on R2) ι H d v
  | .non, v, r => by unfold Rep at r ⊢; exact r
  | .bl b, v, r => by unfold Rep at r ⊢; exact r
  | .int i, v, r => by unfold Rep at r ⊢; exact r
  | .str s, v, r => by unfold Rep at r ⊢; exact r
  | .tup ds, v, r => by
    unfold Rep at r ⊢
    obtain ⟨b, vs, h1, h2, h3⟩ := r
    exact ⟨b, vs, h1, h2, Reps.toR hR h3⟩
  | .lst ds, v, r => by
    unfold Rep at r ⊢
    obtain ⟨b, vs, h1, h2, h3, h4⟩ := r
    exact ⟨b, vs, h1, h2, ⟨h3.1, fun hm => (hR b hm).elim h3.2 (fun z => ne_of_none h2 z rfl)⟩, Reps.toR hR h4⟩
  | .scr ds, v, r => by
    unfold Rep at r ⊢
    obtain ⟨b, vs, h1, h2, h3⟩ := r
    exact ⟨b, vs, h1, h2.imp (fun z => ⟨z.1, z.2.1, fun hm => (hR b hm).elim z.2.2 (fun q => rd_ne q z.1 rfl)⟩) id, Reps.toR hR h3⟩
  | .dct ks ds, v, r => by
    unfold Rep at r ⊢
    obtain ⟨b, kvs, h1, h2, h3, h4, h5⟩ := r
    exact ⟨b, kvs, h1, h2, ⟨h3.1, fun hm => (hR b hm).elim h3.2 (fun q => rd_ne q h2 rfl)⟩, h4, Reps.toR hR h5⟩
  | .ref l, v, r => by unfold Rep at r ⊢; exact r
  | .cls c, v, r => by unfold Rep at r ⊢; exact r
theorem Reps.toR {R1 R2 : List Addr} (hR : RN R1 R2 H) : ∀ {ds : List D} {vs : List V}, Reps (cf.on R1) ι H ds vs → Reps (cf.on R2) ι H ds vs
  | [], vs, r => by unfold Reps at r ⊢; exact r
  | d :: ds, vs, r => by
    unfold Reps at r ⊢
    obtain ⟨v, w, h1, h2, h3⟩ := r
    exact ⟨v, w, h1, Rep.toR hR h2, Reps.toR hR h3⟩
end
end
theorem cf_on (cf : Cf) : cf.on cf.R = cf := rfl
structure Wk (cf : Cf) (ι0 : List Addr) (H0 : Hp) (g : Option (Nat × O)) (J : L2.It) (items : List D) : Prop where
  goes : ∀ R i ι H S, RN cf.R R H0 → i < items.length → Ext ι0 H0 ι H → Sim (cf.on R) ι H S → Gd g S → J.go i H
  stops : ∀ R ι H S, RN cf.R R H0 → Ext ι0 H0 ι H → Sim (cf.on R) ι H S → Gd g S → J.stop items.length H
  yields : ∀ R i ι H S x H', RN cf.R R H0 → Ext ι0 H0 ι H → Sim (cf.on R) ι H S → Gd g S → J.yld i H x H' → ∀ d, items[i]? = some d → Ext ι H ι H' ∧ Sim (cf.on R) ι H' S ∧ Rep (cf.on R) ι H' d x ∧ ∀ a o, H a = some o → H' a = some o
abbrev ID := DEnv → List O → Rs (Option (Nat × O) × List D)
def tI (cf : Cf) (W : L2.WX) (m : ID) : L2.TI := fun σ H R => ∃ R0 ι env S, EnvR (cf.on R0) ι H env σ ∧ Sim (cf.on R0) ι H S ∧ KR (cf.on R0) ι H (fun c d H' => W c d σ H') (fun ι' H' (p : Option (Nat × O) × List D) S' => p.2.length ≤ sizeLine → Gd p.1 S' → ∀ J, Wk (cf.on R0) ι' H' p.1 J p.2 → R J H') (m env S)
theorem _root_.L2.PI.wk {X : Cx} {tg e : Expr} {t t' : L2.TI} (h : PI X tg e t) (i : ∀ σ H R, t' σ H R → t σ H R) : PI X tg e t' := ⟨fun pins s σ H R I q => h.run pins s σ H R I (i σ H R q)⟩
theorem _root_.L2.PI.or {X : Cx} {tg e : Expr} {t t' : L2.TI} (h : PI X tg e t) (h' : PI X tg e t') : PI X tg e (fun σ H R => t σ H R ∨ t' σ H R) := ⟨fun pins s σ H R I q => q.elim (h.run pins s σ H R I) (h'.run pins s σ H R I)⟩
section
variable {X : Cx} {cf : Cf} {W : L2.WX} {ι : List Addr} {H : Hp} {S : List O}
theorem wk_flst {a : Addr} {vs : List V} {ds : List D} (h1 : H a = some (.lst vs)) (h2 : a ∉ ι ∧ a ∉ cf.R) (h3 : Reps cf ι H ds vs) : Wk cf ι H none (Itl cf.K a) ds where
  goes := fun R i ι' H' S hR hi e s _ => by
    have h4 := e.lst a vs h1 h2.1
    exact ⟨vs, vs[i]'(by rw [h3.length]; exact hi), SqL.of h4, by simp [h3.length, hi]⟩
  stops := fun R ι' H' S hR e s _ => ⟨vs, SqL.of (e.lst a vs h1 h2.1), by rw [h3.length]; exact Nat.le_refl _⟩
  yields := fun R i ι' H' S x H'' hR e s _ y d hd => by
    have h3 := h3.toR (cf := cf) hR
    obtain ⟨rfl, y⟩ := y
    have hx := y vs (SqL.of (e.lst a vs h1 h2.1))
    obtain ⟨v, h4, h5⟩ := h3.get hd
    rw [hx] at h4; cases h4
    exact ⟨.refl, s, h5.mono e, fun _ _ z => z⟩
theorem wk_scr {a : Addr} {vs : List V} {ds : List D} (h1 : (Rd H a (.lst vs) ∧ (a ∉ ι ∧ a ∉ cf.R)) ∨ KLst cf.K a vs) (h3 : Reps cf ι H ds vs) : Wk cf ι H none (Itl cf.K a) ds := by
  have sq : ∀ {ι' H'}, Ext ι H ι' H' → SqL cf.K H' a vs := fun {ι' H'} e => by
    rcases h1 with h1 | h1
    · exact .inl (e.keep a _ h1.1 h1.2.1).1
    · exact .inr h1
  refine ⟨fun R i ι' H' S hR hi e s _ => ⟨vs, vs[i]'(by rw [h3.length]; exact hi), sq e, by simp [h3.length, hi]⟩, fun R ι' H' S hR e s _ => ⟨vs, sq e, by rw [h3.length]; exact Nat.le_refl _⟩, fun R i ι' H' S x H'' hR e s _ y d hd => ?_⟩
  have h3 := h3.toR (cf := cf) hR
  obtain ⟨rfl, y⟩ := y
  have hx := y vs (sq e)
  obtain ⟨v, h4, h5⟩ := h3.get hd
  rw [hx] at h4; cases h4
  exact ⟨.refl, s, h5.mono e, fun _ _ z => z⟩
theorem wk_tup {a : Addr} {vs : List V} {ds : List D} (h1 : SqT cf.K H a vs) (h3 : Reps cf ι H ds vs) : Wk cf ι H none (Itt cf.K a) ds where
  goes := fun R i ι' H' S hR hi e s _ => ⟨vs, vs[i]'(by rw [h3.length]; exact hi), e.sqt h1, by simp [h3.length, hi]⟩
  stops := fun R ι' H' S hR e s _ => ⟨vs, e.sqt h1, by rw [h3.length]; exact Nat.le_refl _⟩
  yields := fun R i ι' H' S x H'' hR e s _ y d hd => by
    have h3 := h3.toR (cf := cf) hR
    obtain ⟨rfl, y⟩ := y
    have hx := y vs (e.sqt h1)
    obtain ⟨v, h4, h5⟩ := h3.get hd
    rw [hx] at h4; cases h4
    exact ⟨.refl, s, h5.mono e, fun _ _ z => z⟩
theorem wk_ref {l : Nat} {a : Addr} {ds : List D} (hl : ι[l]? = some a) : Wk cf ι H (some (l, .lst ds)) (Itl cf.K a) ds where
  goes := fun R i ι' H' S hR hi e s g => by
    obtain ⟨vs, h1, h2⟩ := s.obj l _ a g (e.get hl)
    exact ⟨vs, vs[i]'(by rw [h2.length]; exact hi), SqL.of h1, by simp [h2.length, hi]⟩
  stops := fun R ι' H' S hR e s g => by
    obtain ⟨vs, h1, h2⟩ := s.obj l _ a g (e.get hl)
    exact ⟨vs, SqL.of h1, by rw [h2.length]; exact Nat.le_refl _⟩
  yields := fun R i ι' H' S x H'' hR e s g y d hd => by
    obtain ⟨vs, h1, h2⟩ := s.obj l _ a g (e.get hl)
    obtain ⟨rfl, y⟩ := y
    have hx := y vs (SqL.of h1)
    obtain ⟨v, h4, h5⟩ := h2.get hd
    rw [hx] at h4; cases h4
    exact ⟨.refl, s, h5, fun _ _ z => z⟩
theorem rngL_len (lo hi : Int) : (rngL lo hi).length = (hi - lo).toNat := by unfold rngL; rw [List.length_map, List.length_range]
theorem wk_rng (lo hi : Int) : Wk cf ι H none (Itr lo (hi - lo).toNat) ((rngL lo hi).map .int) where
  goes := fun R i ι' H' S hR h e s _ => by
    rw [List.length_map, rngL_len] at h
    exact h
  stops := fun R ι' H' S hR e s _ => by
    rw [List.length_map, rngL_len]
    exact Nat.le_refl _
  yields := fun R i ι' H' S x H'' hR e s _ y d hd => by
    obtain ⟨rfl, rfl⟩ := y
    rw [List.getElem?_map] at hd
    obtain ⟨n, h1, rfl⟩ := Option.map_eq_some_iff.mp hd
    unfold rngL at h1
    rw [List.getElem?_map] at h1
    obtain ⟨m, h2, rfl⟩ := Option.map_eq_some_iff.mp h1
    have h3 := List.getElem?_eq_some_iff.mp h2
    obtain ⟨h4, h5⟩ := h3
    rw [List.getElem_range] at h5
    subst h5
    exact ⟨.refl, s, rep_int, fun _ _ z => z⟩
/-- an expression's value walked -/
def iterD (S : List O) : D → Option (Option (Nat × O) × List D)
  | .ref l => match S[l]? with | some (.lst ds) => some (some (l, .lst ds), ds) | _ => none
  | .lst ds => some (none, ds)
  | .scr ds => some (none, ds)
  | .tup ds => some (none, ds)
  | .str z => if z.length ≤ sizeLine then some (none, z.cps.toList.map fun c => .str ⟨#[c]⟩) else none
  | _ => none
def optRi (o : Option (Option (Nat × O) × List D)) (S : List O) : Rs (Option (Nat × O) × List D) := match o with | some d => .ok d S | none => .no
@[simp] theorem optRi_some (d : Option (Nat × O) × List D) (S : List O) : optRi (some d) S = .ok d S := rfl
@[simp] theorem optRi_none (S : List O) : optRi none S = .no := rfl
def Mit (a : ED) : ID := fun env S => (a env S).bind fun x S => optRi (iterD S x) S
theorem wk_str {z : Str} : Wk cf ι H none (Its z) (z.cps.toList.map fun c => .str ⟨#[c]⟩) where
  goes := fun R i ι' H' S hR h e s _ => walk_str.goes i H' (by simpa using h) True.intro
  stops := fun R ι' H' S hR e s _ => by
    have := (walk_str (z := z)).stops H' True.intro
    simpa using this
  yields := fun R i ι' H' S x H'' hR e s _ y d hd => by
    have hi : i < z.cps.size := by
      have := (List.getElem?_eq_some_iff.mp hd).1
      simpa using this
    obtain ⟨rfl, c, h1, rfl⟩ := walk_str.yields i H' x H'' hi True.intro y
    rw [List.getElem?_map] at hd
    obtain ⟨c', h2, rfl⟩ := Option.map_eq_some_iff.mp hd
    have : c' = c := by
      rw [Array.getElem?_toList] at h2
      rw [h1] at h2
      exact (Option.some.inj h2).symm
    subst this
    exact ⟨.refl, s, rep_str, fun _ _ z => z⟩
theorem i_val (hK : X.K = cf.K) {tg e : Expr} {a : ED} (h : PE X e (tE cf W a)) : PI X tg e (tI cf W (Mit a)) := by
  refine ((pi_list h).or ((pi_tup h).or (pi_str h))).wk fun σ H R ⟨R0, ι, env, S, he, hs, k⟩ => ?_
  have k' := KR.bind k
  cases hm : a env S with
  | no => rw [hm] at k'; exact k'.elim
  | ex c fs S' => rw [hm] at k'; exact .inl ⟨R0, ι, env, S, he, hs, by rw [hm]; exact k'⟩
  | ok d S' =>
    rw [hm] at k'
    have big : ∀ {ι' H'} {p : Option (Nat × O) × List D}, Ext ι H ι' H' → Sim (cf.on R0) ι' H' S' → iterD S' d = some p → p.2.length ≤ sizeLine → Gd p.1 S' → ∀ J, Wk (cf.on R0) ι' H' p.1 J p.2 → R J H' := fun {ι' H' p} e s hp hz hg J wk => by
      have k2 := k' ι' H' e s
      dsimp only at k2
      rw [hp] at k2
      exact k2 ι' H' .refl s hz hg J wk
    have done : ∀ {ι' H' }, Ext ι H ι' H' → Sim (cf.on R0) ι' H' S' → iterD S' d = none → False := fun {ι' H'} e s hp => by
      have k2 := k' ι' H' e s
      dsimp only at k2
      rw [hp] at k2
      exact k2
    have st : ∀ {Y : List Addr → Hp → D → List O → Prop}, (∀ ι' H', Ext ι H ι' H' → Sim (cf.on R0) ι' H' S' → Y ι' H' d S') → KR (cf.on R0) ι H (fun c d H' => W c d σ H') Y (a env S) := fun {Y} h => by rw [hm]; exact h
    cases d with
    | lst ds =>
      refine .inl ⟨R0, ι, env, S, he, hs, st fun ι' H' e s v r => ?_⟩
      unfold Rep at r
      obtain ⟨p, vs, rfl, h1, h2, h3⟩ := r
      exact ⟨p, rfl, ⟨vs, SqL.of h1⟩, by rw [hK]; exact big e s rfl (by show ds.length ≤ _; rw [← h3.length]; exact s.sz p vs (.inl (.inl h1))) True.intro _ (wk_flst h1 h2 h3)⟩
    | scr ds =>
      refine .inl ⟨R0, ι, env, S, he, hs, st fun ι' H' e s v r => ?_⟩
      unfold Rep at r
      obtain ⟨p, vs, rfl, h1, h3⟩ := r
      have hz : ds.length ≤ sizeLine := by
        rw [← h3.length]
        rcases h1 with h1 | ⟨o, its, n, _, _, _, _, hz, r⟩
        · exact s.sz p vs (.inl h1.1)
        · have := r.length
          simp only [Array.length_toList] at this
          omega
      refine ⟨p, rfl, ⟨vs, by rw [hK]; exact h1.imp (fun z => z.1) id⟩, ?_⟩
      rw [hK]
      exact big e s rfl hz True.intro _ (wk_scr h1 h3)
    | tup ds =>
      refine .inr (.inl ⟨R0, ι, env, S, he, hs, st fun ι' H' e s v r => ?_⟩)
      unfold Rep at r
      obtain ⟨p, vs, rfl, h1, h3⟩ := r
      refine ⟨p, rfl, ⟨vs, by rw [hK]; exact h1⟩, ?_⟩
      rw [hK]
      exact big e s rfl (by show ds.length ≤ _; rw [← h3.length]; exact sqt_len s h1) True.intro _ (wk_tup h1 h3)
    | str z =>
      refine .inr (.inr ⟨R0, ι, env, S, he, hs, st fun ι' H' e s v r => ?_⟩)
      unfold Rep at r
      subst r
      refine ⟨z, rfl, ?_⟩
      by_cases hz : z.length ≤ sizeLine
      · exact big (p := (none, z.cps.toList.map fun c => .str ⟨#[c]⟩)) e s (by simp only [iterD]; rw [if_pos hz]) (by show (z.cps.toList.map _).length ≤ _; rw [List.length_map, Array.length_toList]; exact hz) True.intro _ wk_str
      · exact (done e s (by simp only [iterD]; rw [if_neg hz])).elim
    | ref l =>
      refine .inl ⟨R0, ι, env, S, he, hs, st fun ι' H' e s v r => ?_⟩
      unfold Rep at r
      obtain ⟨p, rfl, hl⟩ := r
      cases ho : S'[l]? with
      | none => exact (done e s (by simp only [iterD, ho])).elim
      | some ob =>
        cases ob with
        | lst ds =>
          obtain ⟨vs, h1, h2⟩ := s.obj l _ p ho hl
          refine ⟨p, rfl, ⟨vs, SqL.of h1⟩, ?_⟩
          rw [hK]
          exact big (p := (some (l, .lst ds), ds)) e s (by simp only [iterD, ho]) (by show ds.length ≤ _; rw [← h2.length]; exact s.sz p vs (.inl (.inl h1))) ho _ (wk_ref hl)
        | dct ks ds => exact (done e s (by simp only [iterD, ho])).elim
        | ins c fs => exact (done e s (by simp only [iterD, ho])).elim
    | non => exact .inl ⟨R0, ι, env, S, he, hs, st fun ι' H' e s v r => (done e s rfl).elim⟩
    | bl b => exact .inl ⟨R0, ι, env, S, he, hs, st fun ι' H' e s v r => (done e s rfl).elim⟩
    | int i => exact .inl ⟨R0, ι, env, S, he, hs, st fun ι' H' e s v r => (done e s rfl).elim⟩
    | dct ks ds => exact .inl ⟨R0, ι, env, S, he, hs, st fun ι' H' e s v r => (done e s rfl).elim⟩
    | cls c => exact .inl ⟨R0, ι, env, S, he, hs, st fun ι' H' e s v r => (done e s rfl).elim⟩
/-- range(n), range(a, b) -/
def rngI (lo hi : Int) : Option (Option (Nat × O) × List D) := if -(2 ^ 62) ≤ lo ∧ lo < 2 ^ 62 ∧ -(2 ^ 62) ≤ hi ∧ hi < 2 ^ 62 ∧ hi - lo ≤ 16777216 then some (none, (rngL lo hi).map .int) else none
def Irng1 (a : ED) : ID := fun env S => (a env S).bind fun x S => match x with | .int n => optRi (rngI 0 n) S | _ => .no
def Irng2 (a b : ED) : ID := fun env S => (a env S).bind fun x S => (b env S).bind fun y S => match x, y with | .int i, .int j => optRi (rngI i j) S | _, _ => .no
theorem rngL_sz {lo hi : Int} (h : hi - lo ≤ 16777216) : ((rngL lo hi).map D.int).length ≤ sizeLine := by
  rw [List.length_map, rngL_len, sizeLine_eq]
  omega
theorem i_rng1 {tg e : Expr} {a : ED} {p pos : Pos} (hm : X.mg "range" = none) (h : PE X e (tE cf W a)) (hg : Gl X "range" := by rfl) (hs : starEach [e] X.env = (false, eval e X.env) :: starEach [] X.env := by rfl) (hs2 : starEach [e] X.env = [(false, eval e X.env)] := by rfl) : PI X tg (.Call (.Name "range" p) [e] [] pos) (tI cf W (Irng1 a)) :=
  (pi_range1 hg hm (pa_cons h pa_nil hs) hs2).wk fun σ H R ⟨R0, ι, env, S, he, hs, k⟩ => by
    refine ⟨R0, ι, env, S, he, hs, (KR.bind k).mono fun ι1 H1 x S1 e1 s1 k1 v rv => ?_⟩
    show ∃ j : Int, [v] = [.int j] ∧ _
    split at k1
    · rename_i n
      unfold Rep at rv
      unfold rngI at k1
      split at k1
      · rename_i hb
        refine ⟨n, by rw [rv], hb.2.2.1, hb.2.2.2.1, ?_⟩
        have q := k1 ι1 H1 .refl s1 (rngL_sz hb.2.2.2.2) True.intro _ (wk_rng 0 n)
        simpa using q
      · exact k1.elim
    · exact k1.elim
theorem i_rng2 {tg e e2 : Expr} {a b : ED} {p pos : Pos} (hm : X.mg "range" = none) (h : PE X e (tE cf W a)) (h2 : PE X e2 (tE cf W b)) (hg : Gl X "range" := by rfl) (hs : starEach [e, e2] X.env = (false, eval e X.env) :: starEach [e2] X.env := by rfl) (hs1 : starEach [e2] X.env = (false, eval e2 X.env) :: starEach [] X.env := by rfl)
    (hs2 : starEach [e, e2] X.env = [(false, eval e X.env), (false, eval e2 X.env)] := by rfl) (hs3 : starEach [e2] X.env = [(false, eval e2 X.env)] := by rfl) : PI X tg (.Call (.Name "range" p) [e, e2] [] pos) (tI cf W (Irng2 a b)) :=
  (pi_range2 hg hm (pa_cons h (pa_cons h2 pa_nil hs1) hs) hs2 hs3).wk fun σ H R ⟨R0, ι, env, S, he, hs, k⟩ => by
    refine ⟨R0, ι, env, S, he, hs, (KR.bind k).mono fun ι1 H1 x S1 e1 s1 k1 v rv => ?_⟩
    refine ⟨R0, ι1, env, S1, he.mono e1, s1, (KR.bind k1).mono fun ι2 H2 y S2 e2 s2 k2 w rw' => ?_⟩
    show ∃ i j : Int, [v, w] = [.int i, .int j] ∧ _
    split at k2
    · rename_i i j
      unfold Rep at rv rw'
      unfold rngI at k2
      split at k2
      · rename_i hb
        exact ⟨i, j, by rw [rv, rw'], ⟨hb.1, hb.2.1, hb.2.2.1, hb.2.2.2.1⟩, k2 ι2 H2 .refl s2 (rngL_sz hb.2.2.2.2) True.intro _ (wk_rng i j)⟩
      · exact k2.elim
    · exact k2.elim
/-! pairs: enumerate, zip -/
def enumL (n : Nat) : List D → List D
  | [] => []
  | d :: ds => .tup [.int n, d] :: enumL (n + 1) ds
theorem enumL_len (n : Nat) : ∀ ds : List D, (enumL n ds).length = ds.length
  | [] => rfl
  | d :: ds => by unfold enumL; rw [List.length_cons, List.length_cons, enumL_len (n + 1) ds]
theorem enumL_get (n : Nat) : ∀ (ds : List D) (i : Nat) (e : D), (enumL n ds)[i]? = some e → ∃ d, ds[i]? = some d ∧ e = .tup [.int ((n + i : Nat) : Int), d]
  | [], i, e, h => by simp [enumL] at h
  | d :: ds, 0, e, h => by simp [enumL] at h; exact ⟨d, rfl, by rw [← h]; rfl⟩
  | d :: ds, i + 1, e, h => by
    unfold enumL at h
    obtain ⟨d', h1, h2⟩ := enumL_get (n + 1) ds i e (by simpa using h)
    exact ⟨d', by simpa using h1, by rw [h2]; congr 4; omega⟩
theorem pair_new {ι : List Addr} {H : Hp} {S : List O} {T : Addr} {x y : V} {d e : D} (s : Sim cf ι H S) (hT : H T = none) (r1 : Rep cf ι H d x) (r2 : Rep cf ι H e y) :
    Ext ι H ι (upd H T (.tup [x, y])) ∧ Sim cf ι (upd H T (.tup [x, y])) S ∧ Rep cf ι (upd H T (.tup [x, y])) (.tup [d, e]) (.ref T) ∧ ∀ a o, H a = some o → upd H T (.tup [x, y]) a = some o := by
  refine ⟨Ext.new hT, s.new hT (szo_tup (by show 2 ≤ sizeLine; decide)), ?_, fun a o h => by rw [upd_ne (ne_of_none h hT)]; exact h⟩
  unfold Rep
  exact ⟨T, [x, y], rfl, SqT.of upd_same, .cons (r1.mono (Ext.new hT)) (.cons (r2.mono (Ext.new hT)) .nil)⟩
/-- a walk's list, guarded -/
def lstI (S : List O) : D → Option (Option (Nat × O) × List D)
  | .ref l => match S[l]? with | some (.lst ds) => some (some (l, .lst ds), ds) | _ => none
  | .lst ds => some (none, ds)
  | _ => none
structure HasL (cf : Cf) (ι0 : List Addr) (H0 : Hp) (g : Option (Nat × O)) (a : Addr) (ds : List D) : Prop where
  at_ : ∀ R ι H S, RN cf.R R H0 → Ext ι0 H0 ι H → Sim (cf.on R) ι H S → Gd g S → ∃ vs, H a = some (.lst vs) ∧ Reps (cf.on R) ι H ds vs
theorem lstI_at {d : D} {v : V} {p : Option (Nat × O) × List D} (hs : Sim cf ι H S) (e : lstI S d = some p) (r : Rep cf ι H d v) : ∃ a, v = .ref a ∧ HasL cf ι H p.1 a p.2 ∧ Gd p.1 S ∧ p.2.length ≤ sizeLine := by
  cases d with
  | lst ds =>
    simp [lstI] at e; subst e
    unfold Rep at r
    obtain ⟨a, vs, rfl, h1, h2, h3⟩ := r
    exact ⟨a, rfl, ⟨fun R ι' H' S' hR e s _ => ⟨vs, e.lst a vs h1 h2.1, (h3.toR (cf := cf) hR).mono e⟩⟩, True.intro, by rw [← h3.length]; exact hs.sz a vs (.inl (.inl h1))⟩
  | ref l =>
    unfold lstI at e
    unfold Rep at r
    obtain ⟨a, rfl, hl⟩ := r
    cases ho : S[l]? with
    | none => simp [ho] at e
    | some ob =>
      cases ob with
      | lst ds =>
        simp [ho] at e; subst e
        obtain ⟨vs, h1, h2⟩ := hs.obj l _ a ho hl
        exact ⟨a, rfl, ⟨fun R ι' H' S' hR e s g => s.obj l _ a g (e.get hl)⟩, ho, by rw [← h2.length]; exact hs.sz a vs (.inl (.inl h1))⟩
      | dct ks es => simp [ho] at e
      | ins c fs => simp [ho] at e
  | _ => simp [lstI] at e
theorem wk_enum {g : Option (Nat × O)} {a : Addr} {ds : List D} (h : HasL cf ι H g a ds) : Wk cf ι H g (Ite cf.K a) (enumL 0 ds) where
  goes := fun R i ι' H' S hR hi e s q => by
    obtain ⟨vs, h1, h2⟩ := h.at_ R ι' H' S hR e s q
    rw [enumL_len] at hi
    exact ⟨vs, vs[i]'(by rw [h2.length]; exact hi), SqL.of h1, by simp [h2.length, hi]⟩
  stops := fun R ι' H' S hR e s q => by
    obtain ⟨vs, h1, h2⟩ := h.at_ R ι' H' S hR e s q
    exact ⟨vs, SqL.of h1, by rw [h2.length, enumL_len]; exact Nat.le_refl _⟩
  yields := fun R i ι' H' S x H'' hR e s q y d hd => by
    obtain ⟨vs, h1, h2⟩ := h.at_ R ι' H' S hR e s q
    obtain ⟨T, z, rfl, hT, rfl, hz⟩ := y
    obtain ⟨d', h3, rfl⟩ := enumL_get 0 ds i d hd
    obtain ⟨v, h4, h5⟩ := h2.get h3
    rw [hz vs (SqL.of h1)] at h4; cases h4
    have := pair_new (d := .int (i : Nat)) s hT rep_int h5
    simpa using this
def Ienum (a : ED) : ID := fun env S => (a env S).bind fun x S => match lstI S x with | some (g, ds) => .ok (g, enumL 0 ds) S | none => .no
theorem i_enum (hK : X.K = cf.K) {e : Expr} {a : ED} {p pos tpos : Pos} {elts : List Expr} {kk : Nat} (hm : X.mg "enumerate" = none) (h : PE X e (tE cf W a)) (hg : Gl X "enumerate" := by rfl) (hs : starEach [e] X.env = (false, eval e X.env) :: starEach [] X.env := by rfl) (hs2 : starEach [e] X.env = [(false, eval e X.env)] := by rfl) :
    PI X (.Tuple elts kk tpos) (.Call (.Name "enumerate" p) [e] [] pos) (tI cf W (Ienum a)) := (pi_enum hg hm (pa_cons h pa_nil hs) hs2).wk fun σ H R ⟨R0, ι, env, S, he, hs, k⟩ => by
  refine ⟨R0, ι, env, S, he, hs, (KR.bind k).mono fun ι1 H1 x S1 e1 s1 k1 v rv => ?_⟩
  cases hp : lstI S1 x with
  | none => simp only [hp] at k1; exact k1.elim
  | some q =>
    obtain ⟨g, ds⟩ := q
    simp only [hp] at k1
    obtain ⟨p, rfl, h1, h2, h3⟩ := lstI_at s1 hp rv
    obtain ⟨vs, h4, h5⟩ := h1.at_ _ ι1 H1 S1 (fun _ z => .inl z) .refl s1 h2
    refine ⟨p, vs, rfl, SqL.of h4, ?_⟩
    rw [hK]
    exact k1 ι1 H1 .refl s1 (by show (enumL 0 ds).length ≤ _; rw [enumL_len]; exact h3) h2 _ (wk_enum h1)
def zipL : List D → List D → List D
  | a :: as, b :: bs => .tup [a, b] :: zipL as bs
  | _, _ => []
theorem zipL_len : ∀ (as bs : List D), (zipL as bs).length = min as.length bs.length
  | [], bs => by simp [zipL]
  | a :: as, [] => by simp [zipL]
  | a :: as, b :: bs => by simp only [zipL, List.length_cons, zipL_len as bs]; omega
theorem zipL_get : ∀ (as bs : List D) (i : Nat) (e : D), (zipL as bs)[i]? = some e → ∃ a b, as[i]? = some a ∧ bs[i]? = some b ∧ e = .tup [a, b]
  | [], bs, i, e, h => by simp [zipL] at h
  | a :: as, [], i, e, h => by simp [zipL] at h
  | a :: as, b :: bs, 0, e, h => by simp [zipL] at h; exact ⟨a, b, rfl, rfl, h.symm⟩
  | a :: as, b :: bs, i + 1, e, h => by
    unfold zipL at h
    obtain ⟨x, y, h1, h2, h3⟩ := zipL_get as bs i e (by simpa using h)
    exact ⟨x, y, by simpa using h1, by simpa using h2, h3⟩
/-- two tuples, or two lists that stay -/
def Izip (a b : ED) : ID := fun env S => (a env S).bind fun x S => (b env S).bind fun y S => match x, y with
  | .tup as, .tup bs => .ok (none, zipL as bs) S
  | .lst as, .lst bs => .ok (none, zipL as bs) S
  | .ref l, .lst bs => (match S[l]? with | some (.lst as) => .ok (some (l, .lst as), zipL as bs) S | _ => .no)
  | .lst as, .ref l => (match S[l]? with | some (.lst bs) => .ok (some (l, .lst bs), zipL as bs) S | _ => .no)
  | _, _ => .no
theorem wk_zipT {a b : Addr} {as bs : List D} {xs ys : List V} (h1 : SqT cf.K H a xs) (h2 : SqT cf.K H b ys) (r1 : Reps cf ι H as xs) (r2 : Reps cf ι H bs ys) : Wk cf ι H none (ItzT cf.K a b) (zipL as bs) where
  goes := fun R i ι' H' S hR hi e s q => by
    rw [zipL_len] at hi
    have l1 := r1.length
    have l2 := r2.length
    exact ⟨xs, ys, xs[i]'(by omega), ys[i]'(by omega), e.sqt h1, e.sqt h2, List.getElem?_eq_getElem _, List.getElem?_eq_getElem _⟩
  stops := fun R ι' H' S hR e s q => by
    have l1 := r1.length
    have l2 := r2.length
    refine ⟨xs, ys, e.sqt h1, e.sqt h2, ?_⟩
    rw [zipL_len]
    omega
  yields := fun R i ι' H' S x H'' hR e s q y d hd => by
    obtain ⟨T, u, v, rfl, hT, rfl, hx, hy⟩ := y
    obtain ⟨d1, d2, g1, g2, rfl⟩ := zipL_get as bs i d hd
    obtain ⟨u', g3, g4⟩ := r1.get g1
    obtain ⟨v', g5, g6⟩ := r2.get g2
    rw [hx xs (e.sqt h1)] at g3; cases g3
    rw [hy ys (e.sqt h2)] at g5; cases g5
    exact pair_new s hT (((Rep.toR (cf := cf) hR) g4).mono e) (((Rep.toR (cf := cf) hR) g6).mono e)
theorem wk_zipLL {g : Option (Nat × O)} {a b : Addr} {as bs : List D} (h1 : HasL cf ι H g a as) (h2 : HasL cf ι H g b bs) : Wk cf ι H g (Itz cf.K a b) (zipL as bs) where
  goes := fun R i ι' H' S hR hi e s q => by
    obtain ⟨xs, x1, r1⟩ := h1.at_ R ι' H' S hR e s q
    obtain ⟨ys, x2, r2⟩ := h2.at_ R ι' H' S hR e s q
    rw [zipL_len] at hi
    have l1 := r1.length
    have l2 := r2.length
    exact ⟨xs, ys, xs[i]'(by omega), ys[i]'(by omega), SqL.of x1, SqL.of x2, List.getElem?_eq_getElem _, List.getElem?_eq_getElem _⟩
  stops := fun R ι' H' S hR e s q => by
    obtain ⟨xs, x1, r1⟩ := h1.at_ R ι' H' S hR e s q
    obtain ⟨ys, x2, r2⟩ := h2.at_ R ι' H' S hR e s q
    have l1 := r1.length
    have l2 := r2.length
    refine ⟨xs, ys, SqL.of x1, SqL.of x2, ?_⟩
    rw [zipL_len]
    omega
  yields := fun R i ι' H' S x H'' hR e s q y d hd => by
    obtain ⟨xs, x1, r1⟩ := h1.at_ R ι' H' S hR e s q
    obtain ⟨ys, x2, r2⟩ := h2.at_ R ι' H' S hR e s q
    obtain ⟨T, u, v, rfl, hT, rfl, hx, hy⟩ := y
    obtain ⟨d1, d2, g1, g2, rfl⟩ := zipL_get as bs i d hd
    obtain ⟨u', g3, g4⟩ := r1.get g1
    obtain ⟨v', g5, g6⟩ := r2.get g2
    rw [hx xs (SqL.of x1)] at g3; cases g3
    rw [hy ys (SqL.of x2)] at g5; cases g5
    exact pair_new s hT g4 g6
theorem HasL.any {a : Addr} {ds : List D} {g : Option (Nat × O)} (h : HasL cf ι H none a ds) : HasL cf ι H g a ds := ⟨fun R ι' H' S hR e s _ => h.at_ R ι' H' S hR e s True.intro⟩
theorem zsz {as bs : List D} (h : as.length ≤ sizeLine) : (zipL as bs).length ≤ sizeLine := by
  rw [zipL_len]
  omega
theorem i_zip (hK : X.K = cf.K) {e e2 : Expr} {a b : ED} {p pos tpos : Pos} {elts : List Expr} {kk : Nat} (hm : X.mg "zip" = none) (h : PE X e (tE cf W a)) (h2 : PE X e2 (tE cf W b)) (hg : Gl X "zip" := by rfl)
    (hs : starEach [e, e2] X.env = (false, eval e X.env) :: starEach [e2] X.env := by rfl) (hs1 : starEach [e2] X.env = (false, eval e2 X.env) :: starEach [] X.env := by rfl) (hpl : (backTo pos (starEach [e2] X.env)).any (·.1) = false := by rfl) :
    PI X (.Tuple elts kk tpos) (.Call (.Name "zip" p) [e, e2] [] pos) (tI cf W (Izip a b)) := (pi_zipA hg hm (pa_cons h (pa_cons h2 pa_nil hs1) hs) hs hpl).wk fun σ H R ⟨R0, ι, env, S, he, hs, k⟩ => by
  refine ⟨R0, ι, env, S, he, hs, (KR.bind k).mono fun ι1 H1 x S1 e1 s1 k1 v rv => ?_⟩
  refine ⟨R0, ι1, env, S1, he.mono e1, s1, (KR.bind k1).mono fun ι2 H2 y S2 e2 s2 k2 w rw' => ?_⟩
  have rv2 := rv.mono e2
  show ∃ a b xs ys, [v, w] = [.ref a, .ref b] ∧ _
  have LL : ∀ {dx dy : D} {as bs : List D} {g : Option (Nat × O)}, Rep (cf.on R0) ι2 H2 dx v → Rep (cf.on R0) ι2 H2 dy w → (∃ g1, lstI S2 dx = some (g1, as) ∧ (g1 = g ∨ g1 = none)) → (∃ g2, lstI S2 dy = some (g2, bs) ∧ (g2 = g ∨ g2 = none)) →
      (KR (cf.on R0) ι2 H2 (fun c d H' => W c d σ H') (fun ι' H' (p : Option (Nat × O) × List D) S' => p.2.length ≤ sizeLine → Gd p.1 S' → ∀ J, Wk (cf.on R0) ι' H' p.1 J p.2 → R J H') (.ok (g, zipL as bs) S2)) → Gd g S2 →
      ∃ a b xs ys, [v, w] = [.ref a, .ref b] ∧ ((SqL X.K H2 a xs ∧ SqL X.K H2 b ys ∧ R (Itz X.K a b) H2) ∨ (SqT X.K H2 a xs ∧ SqT X.K H2 b ys ∧ R (ItzT X.K a b) H2)) := by
    intro dx dy as bs g r1 r2 ⟨g1, l1, z1⟩ ⟨g2, l2, z2⟩ kk gd
    obtain ⟨p, rfl, p1, p2, p3⟩ := lstI_at s2 l1 r1
    obtain ⟨q, rfl, q1, q2, q3⟩ := lstI_at s2 l2 r2
    have P1 : HasL (cf.on R0) ι2 H2 g p as := by
      rcases z1 with rfl | rfl
      · exact p1
      · exact p1.any
    have Q1 : HasL (cf.on R0) ι2 H2 g q bs := by
      rcases z2 with rfl | rfl
      · exact q1
      · exact q1.any
    obtain ⟨xs, x1, _⟩ := P1.at_ _ ι2 H2 S2 (fun _ z => .inl z) .refl s2 gd
    obtain ⟨ys, y1, _⟩ := Q1.at_ _ ι2 H2 S2 (fun _ z => .inl z) .refl s2 gd
    refine ⟨p, q, xs, ys, rfl, .inl ⟨SqL.of x1, SqL.of y1, ?_⟩⟩
    rw [hK]
    exact kk ι2 H2 .refl s2 (zsz p3) gd _ (wk_zipLL P1 Q1)
  split at k2
  · rename_i as bs
    obtain ⟨p, xs, rfl, x1, x2, x3⟩ := tup_at s2 rv2
    obtain ⟨q, ys, rfl, y1, y2, y3⟩ := tup_at s2 rw'
    refine ⟨p, q, xs, ys, rfl, .inr ⟨by rw [hK]; exact x1, by rw [hK]; exact y1, ?_⟩⟩
    rw [hK]
    exact k2 ι2 H2 .refl s2 (zsz x3) True.intro _ (wk_zipT x1 y1 x2 y2)
  · exact LL rv2 rw' ⟨none, rfl, .inr rfl⟩ ⟨none, rfl, .inr rfl⟩ k2 True.intro
  · rename_i l bs
    split at k2
    · rename_i qq as ho
      exact LL rv2 rw' ⟨some (l, .lst as), by unfold lstI; simp only [ho], .inl rfl⟩ ⟨none, rfl, .inr rfl⟩ k2 ho
    · exact k2.elim
  · rename_i as l
    split at k2
    · rename_i qq bs ho
      exact LL rv2 rw' ⟨none, rfl, .inr rfl⟩ ⟨some (l, .lst bs), by unfold lstI; simp only [ho], .inl rfl⟩ k2 ho
    · exact k2.elim
  · exact k2.elim

/-! ### targets -/
inductive Pat where
  | nm (i : Nat) | tp (ps : List Pat)
mutual
def setP : Pat → D → DEnv → Option DEnv
  | .nm i, d, env => some (env.set i (some d))
  | .tp ps, .tup ds, env => setPs ps ds env
  | .tp _, _, _ => none
def setPs : List Pat → List D → DEnv → Option DEnv
  | [], [], env => some env
  | p :: ps, d :: ds, env => (setP p d env).bind fun env => setPs ps ds env
  | _, _, _ => none
end
mutual
def slotsP : Pat → List Nat
  | .nm i => [i]
  | .tp ps => slotsPs ps
def slotsPs : List Pat → List Nat
  | [] => []
  | p :: ps => slotsP p ++ slotsPs ps
end
def tG (cf : Cf) (p : Pat) : L2.TG := fun v σ H Q => ∃ R0 ι env S d env', EnvR (cf.on R0) ι H env σ ∧ Sim (cf.on R0) ι H S ∧ Rep (cf.on R0) ι H d v ∧ setP p d env = some env' ∧ ∀ σ', EnvR (cf.on R0) ι H env' σ' → (σ'.length = σ.length ∧ ∀ j, j ∉ slotsP p → σ'[j]? = σ[j]?) → Q σ' H
def tGs (cf : Cf) (ps : List Pat) : L2.TGs := fun vs σ H Q => ∃ R0 ι env S ds env', EnvR (cf.on R0) ι H env σ ∧ Sim (cf.on R0) ι H S ∧ Reps (cf.on R0) ι H ds vs ∧ setPs ps ds env = some env' ∧ ∀ σ', EnvR (cf.on R0) ι H env' σ' → (σ'.length = σ.length ∧ ∀ j, j ∉ slotsPs ps → σ'[j]? = σ[j]?) → Q σ' H
theorem _root_.L2.PG.wk {X : Cx} {tg : Expr} {t t' : L2.TG} (h : PG X tg t) (i : ∀ v σ H Q, t' v σ H Q → t v σ H Q) : PG X tg t' := ⟨fun pins s σ H v u Q I r q => h.run pins s σ H v u Q I r (i v σ H Q q)⟩
theorem _root_.L2.PGs.wk {X : Cx} {tg : List Expr} {t t' : L2.TGs} (h : PGs X tg t) (i : ∀ v σ H Q, t' v σ H Q → t v σ H Q) : PGs X tg t' := ⟨fun pins s σ H v u Q I r q => h.run pins s σ H v u Q I r (i v σ H Q q)⟩
theorem g_nm (i : Nat) {x : Str} {pos : Pos} (hN : X.N.Nodup) (hi : X.N[i]? = some x := by rfl) (hx : Loc X.env.scope x := by first | exact Or.inl rfl | exact Or.inr rfl) (hf : X.fn x = true ∨ X.env.scope.names.lookup x = some .local := by first | exact .inl rfl | exact .inr rfl | assumption) : PG X (.Name x pos) (tG cf (.nm i)) :=
  (pg_name hN hi hx hf).wk fun v σ H Q ⟨R0, ι, env, S, d, env', he, hs, r, e, k⟩ => by
    simp only [setP, Option.some.injEq] at e
    subst e
    exact k _ (he.set r i) ⟨by simp, fun j hj => by
      have : j ≠ i := by simpa [slotsP] using hj
      rw [List.getElem?_set_ne (Ne.symm this)]⟩
theorem gs_nil : PGs X [] (tGs cf []) := pgs_nil.wk fun vs σ H Q ⟨R0, ι, env, S, ds, env', he, hs, r, e, k⟩ => by
  cases ds with
  | nil =>
    simp only [setPs, Option.some.injEq] at e
    subst e
    unfold Reps at r
    exact ⟨r, k σ he ⟨rfl, fun _ _ => rfl⟩⟩
  | cons d ds => simp [setPs] at e
theorem gs_cons {e : Expr} {es : List Expr} {p : Pat} {ps : List Pat} (h1 : PG X e (tG cf p)) (h2 : PGs X es (tGs cf ps)) (hs : (assignEach (e :: es) X.env).map (·.2) = assign e X.env :: (assignEach es X.env).map (·.2) := by rfl) : PGs X (e :: es) (tGs cf (p :: ps)) :=
  (pgs_cons h1 h2 hs).wk fun vs σ H Q ⟨R0, ι, env, S, ds, env', he, hs, r, e, k⟩ => by
    cases ds with
    | nil => simp [setPs] at e
    | cons d ds =>
      unfold Reps at r
      obtain ⟨v, w, rfl, r1, r2⟩ := r
      simp only [setPs] at e
      obtain ⟨env1, e1, e2⟩ := Option.bind_eq_some_iff.mp e
      refine ⟨v, w, rfl, R0, ι, env, S, d, env1, he, hs, r1, e1, fun σ1 he1 h1 => ?_⟩
      refine ⟨R0, ι, env1, S, ds, env', he1, hs, r2, e2, fun σ2 he2 h2 => k σ2 he2 ⟨h2.1.trans h1.1, fun j hj => ?_⟩⟩
      have hj' : j ∉ slotsP p ∧ j ∉ slotsPs ps := by
        unfold slotsPs at hj
        simpa using hj
      rw [h2.2 j hj'.2, h1.2 j hj'.1]
theorem setPs_len : ∀ {ps : List Pat} {ds : List D} {env env' : DEnv}, setPs ps ds env = some env' → ds.length = ps.length
  | [], [], _, _, _ => rfl
  | [], d :: ds, _, _, h => by simp [setPs] at h
  | p :: ps, [], _, _, h => by simp [setPs] at h
  | p :: ps, d :: ds, _, _, h => by
    simp only [setPs] at h
    obtain ⟨env1, _, e2⟩ := Option.bind_eq_some_iff.mp h
    rw [List.length_cons, List.length_cons, setPs_len e2]
theorem g_tp (hK : X.K = cf.K) {es : List Expr} {k : Nat} {ps : List Pat} {pos : Pos} (hc : X.calm = true) (h : PGs X es (tGs cf ps)) (hn : (assignEach es X.env).length = ps.length := by rfl) (hst : (assignEach es X.env).findIdx? (·.1) = none := by rfl) : PG X (.Tuple es k pos) (tG cf (.tp ps)) :=
  (pg_tup hc h hn hst).wk fun v σ H Q ⟨R0, ι, env, S, d, env', he, hs, r, e, k⟩ => by
    cases d with
    | tup ds =>
      unfold Rep at r
      obtain ⟨a, vs, rfl, h1, h2⟩ := r
      simp only [setP] at e
      exact ⟨a, vs, rfl, by rw [hK]; exact h1, by rw [h2.length, setPs_len e], R0, ι, env, S, ds, env', he, hs, h2, e, fun σ' h q => k σ' h (by unfold slotsP; exact q)⟩
    | _ => simp [setP] at e

/-! ### list comprehensions -/
def wipeD (env : DEnv) : List Nat → DEnv
  | [] => env
  | v :: vs => (wipeD env vs).set v none
theorem wipe_env {env : DEnv} {σ : L2.St} (h : EnvR cf ι H env σ) : ∀ vs : List Nat, EnvR cf ι H (wipeD env vs) (wipe σ vs)
  | [] => h
  | v :: vs => by
    have ih := wipe_env h vs
    refine ⟨by unfold wipeD wipe; rw [List.length_set, List.length_set]; exact ih.1, fun i d q => ?_⟩
    unfold wipeD at q
    unfold wipe
    by_cases e : i = v
    · subst e
      have hl : i < (wipeD env vs).length := by
        have := (List.getElem?_eq_some_iff.mp q).1
        simpa using this
      rw [List.getElem?_set_self hl] at q
      cases q
    · rw [List.getElem?_set_ne (Ne.symm e)] at q ⊢
      exact ih.2 i d q
theorem wipe_get {σ : L2.St} {j : Nat} : ∀ {vs : List Nat}, (wipe σ vs)[j]? = if j ∈ vs then (σ[j]?).map (fun _ => none) else σ[j]?
  | [] => by simp [wipe]
  | v :: vs => by
    unfold wipe
    by_cases e : j = v
    · subst e
      by_cases hl : j < σ.length
      · rw [List.getElem?_set_self (by rw [wipe_length]; exact hl)]
        simp [hl]
      · have hl' : ¬ j < ((wipe σ vs).set j none).length := by rw [List.length_set, wipe_length]; exact hl
        rw [List.getElem?_eq_none (by omega)]
        simp [hl]
    · rw [List.getElem?_set_ne (Ne.symm e), wipe_get]
      by_cases hj : j ∈ vs
      · rw [if_pos hj, if_pos (List.mem_cons_of_mem _ hj)]
      · rw [if_neg hj, if_neg (by simp [e, hj])]
theorem wipe_same {σ σ' : L2.St} {vs : List Nat} (hl : σ'.length = (wipe σ vs).length) (h : ∀ j, j ∉ vs → σ'[j]? = (wipe σ vs)[j]?) : wipe σ' vs = wipe σ vs := by
  refine List.ext_getElem? fun j => ?_
  rw [wipe_get, wipe_get]
  by_cases hj : j ∈ vs
  · rw [if_pos hj, if_pos hj]
    rw [wipe_length] at hl
    by_cases hk : j < σ.length
    · simp [hk, hl ▸ hk]
    · have : ¬ j < σ'.length := by rw [hl]; exact hk
      simp [hk, this]
  · rw [if_neg hj, if_neg hj, h j hj, wipe_get, if_neg hj]
/-- no exception out of it -/
def Rs.nx {α : Type} (r : Rs α) : Rs α := match r with | .ex _ _ _ => .no | r => r
@[simp] theorem Rs.nx_ok {α : Type} (a : α) (S : List O) : (Rs.ok a S).nx = .ok a S := rfl
@[simp] theorem Rs.nx_no {α : Type} : (Rs.no : Rs α).nx = .no := rfl
theorem KR.nx {α : Type} {W W' : Value → Option Addr → Hp → Prop} {Y : List Addr → Hp → α → List O → Prop} {r : Rs α} (h : KR cf ι H W Y r.nx) : KR cf ι H W' Y r := by
  cases r with
  | ok a S => exact h
  | ex c fs S => exact h.elim
  | no => exact h
open Classical in
noncomputable def compD (g : Option (Nat × O)) (p : Pat) (mt : Option ED) (me : ED) (env : DEnv) : List D → List O → Rs (List D)
  | [], S => if Gd g S then .ok [] S else .no
  | d :: ds, S => if Gd g S then (match setP p d env with
    | none => .no
    | some env1 => (match mt with
      | none => (me env1 S).nx.bind fun x S => (compD g p mt me env ds S).bind fun r S => .ok (x :: r) S
      | some t => (t env1 S).nx.bind fun b S => match b with
        | .bl true => (me env1 S).nx.bind fun x S => (compD g p mt me env ds S).bind fun r S => .ok (x :: r) S
        | .bl false => compD g p mt me env ds S
        | _ => .no)) else .no
noncomputable def MComp (mi : ID) (p : Pat) (mt : Option ED) (me : ED) (vs : List Nat) : EDs := fun env S => (mi env S).bind fun q S => compD q.1 p mt me (wipeD env vs) q.2 S
abbrev W0 : L2.WX := fun _ _ _ _ => False
def ttO (cf : Cf) : Option ED → L2.TT
  | none => tYes
  | some t => tT cf W0 t
/-- an object that data don't lean on may change -/
structure Off (a : Addr) (H H' : Hp) : Prop where
  other : ∀ b, b ≠ a → H' b = H b
  nt : ∀ xs, ¬ Rd H a (.tup xs)
theorem Off.rd {a : Addr} {H H' : Hp} (h : Off a H H') {b : Addr} {u : HO} (hb : b ≠ a) (r : Rd H b u) : Rd H' b u := by
  unfold Rd at r ⊢
  rw [h.other b hb]
  exact r
mutual
theorem Rep.off {a : Addr} {H' : Hp} {R1 R2 : List Addr} (h : Off a H H') (ha : a ∈ R1) (hR : ∀ b ∈ R2, b ∈ R1) : ∀ {d : D} {v : V}, Rep (cf.on R1) ι H d v → Rep (cf.on R2) ι H' d v
  | .non, v, r => by unfold Rep at r ⊢; exact r
  | .bl b, v, r => by unfold Rep at r ⊢; exact r
  | .int i, v, r => by unfold Rep at r ⊢; exact r
  | .str s, v, r => by unfold Rep at r ⊢; exact r
  | .tup ds, v, r => by
    unfold Rep at r ⊢
    obtain ⟨b, vs, h1, h2, h3⟩ := r
    refine ⟨b, vs, h1, h2.imp (fun z => h.rd (fun e => h.nt vs (e ▸ z)) z) id, Reps.off h ha hR h3⟩
  | .lst ds, v, r => by
    unfold Rep at r ⊢
    obtain ⟨b, vs, h1, h2, h3, h4⟩ := r
    have hb : b ≠ a := fun e => h3.2 (e ▸ ha)
    exact ⟨b, vs, h1, by rw [h.other b hb]; exact h2, ⟨h3.1, fun z => h3.2 (hR b z)⟩, Reps.off h ha hR h4⟩
  | .scr ds, v, r => by
    unfold Rep at r ⊢
    obtain ⟨b, vs, h1, h2, h3⟩ := r
    refine ⟨b, vs, h1, h2.imp (fun z => ⟨h.rd (fun e => z.2.2 (e ▸ ha)) z.1, z.2.1, fun q => z.2.2 (hR b q)⟩) id, Reps.off h ha hR h3⟩
  | .dct ks ds, v, r => by
    unfold Rep at r ⊢
    obtain ⟨b, kvs, h1, h2, h3, h4, h5⟩ := r
    exact ⟨b, kvs, h1, h.rd (fun e => h3.2 (e ▸ ha)) h2, ⟨h3.1, fun q => h3.2 (hR b q)⟩, h4, Reps.off h ha hR h5⟩
  | .ref l, v, r => by unfold Rep at r ⊢; exact r
  | .cls c, v, r => by unfold Rep at r ⊢; exact r
theorem Reps.off {a : Addr} {H' : Hp} {R1 R2 : List Addr} (h : Off a H H') (ha : a ∈ R1) (hR : ∀ b ∈ R2, b ∈ R1) : ∀ {ds : List D} {vs : List V}, Reps (cf.on R1) ι H ds vs → Reps (cf.on R2) ι H' ds vs
  | [], vs, r => by unfold Reps at r ⊢; exact r
  | d :: ds, vs, r => by
    unfold Reps at r ⊢
    obtain ⟨v, w, h1, h2, h3⟩ := r
    exact ⟨v, w, h1, Rep.off h ha hR h2, Reps.off h ha hR h3⟩
end
theorem RepO.off {a : Addr} {H' : Hp} {R1 R2 : List Addr} (h : Off a H H') (ha : a ∈ R1) (hR : ∀ b ∈ R2, b ∈ R1) {ob : O} {b : Addr} (hb : b ≠ a) (r : RepO (cf.on R1) ι H ob b) : RepO (cf.on R2) ι H' ob b := by
  cases ob with
  | lst ds => obtain ⟨vs, h1, h2⟩ := r; exact ⟨vs, by rw [h.other b hb]; exact h1, Reps.off h ha hR h2⟩
  | dct ks ds => obtain ⟨kvs, h1, h2, h3⟩ := r; exact ⟨kvs, by rw [h.other b hb]; exact h1, h2, Reps.off h ha hR h3⟩
  | ins c fs => obtain ⟨dx, fs', h1, h2, h3⟩ := r; exact ⟨dx, fs', by rw [h.other b hb]; exact h1, h2, Reps.off h ha hR h3⟩
theorem EnvR.off {a : Addr} {H' : Hp} {R1 R2 : List Addr} (h : Off a H H') (ha : a ∈ R1) (hR : ∀ b ∈ R2, b ∈ R1) {env : DEnv} {σ : L2.St} (r : EnvR (cf.on R1) ι H env σ) : EnvR (cf.on R2) ι H' env σ :=
  ⟨r.1, fun i d q => let ⟨v, h1, h2⟩ := r.2 i d q; ⟨v, h1, Rep.off h ha hR h2⟩⟩
mutual
theorem Rep.res {a : Addr} {R1 : List Addr} (ha : H a = none) : ∀ {d : D} {v : V}, Rep (cf.on R1) ι H d v → Rep (cf.on (a :: R1)) ι H d v
  | .non, v, r => by unfold Rep at r ⊢; exact r
  | .bl b, v, r => by unfold Rep at r ⊢; exact r
  | .int i, v, r => by unfold Rep at r ⊢; exact r
  | .str s, v, r => by unfold Rep at r ⊢; exact r
  | .tup ds, v, r => by
    unfold Rep at r ⊢
    obtain ⟨b, vs, h1, h2, h3⟩ := r
    exact ⟨b, vs, h1, h2, Reps.res ha h3⟩
  | .lst ds, v, r => by
    unfold Rep at r ⊢
    obtain ⟨b, vs, h1, h2, h3, h4⟩ := r
    exact ⟨b, vs, h1, h2, ⟨h3.1, by simp only [List.mem_cons, not_or]; exact ⟨ne_of_none h2 ha, h3.2⟩⟩, Reps.res ha h4⟩
  | .scr ds, v, r => by
    unfold Rep at r ⊢
    obtain ⟨b, vs, h1, h2, h3⟩ := r
    exact ⟨b, vs, h1, h2.imp (fun z => ⟨z.1, z.2.1, by simp only [List.mem_cons, not_or]; exact ⟨rd_ne ha z.1, z.2.2⟩⟩) id, Reps.res ha h3⟩
  | .dct ks ds, v, r => by
    unfold Rep at r ⊢
    obtain ⟨b, kvs, h1, h2, h3, h4, h5⟩ := r
    exact ⟨b, kvs, h1, h2, ⟨h3.1, by simp only [List.mem_cons, not_or]; exact ⟨rd_ne ha h2, h3.2⟩⟩, h4, Reps.res ha h5⟩
  | .ref l, v, r => by unfold Rep at r ⊢; exact r
  | .cls c, v, r => by unfold Rep at r ⊢; exact r
theorem Reps.res {a : Addr} {R1 : List Addr} (ha : H a = none) : ∀ {ds : List D} {vs : List V}, Reps (cf.on R1) ι H ds vs → Reps (cf.on (a :: R1)) ι H ds vs
  | [], vs, r => by unfold Reps at r ⊢; exact r
  | d :: ds, vs, r => by
    unfold Reps at r ⊢
    obtain ⟨v, w, h1, h2, h3⟩ := r
    exact ⟨v, w, h1, Rep.res ha h2, Reps.res ha h3⟩
end
theorem RepO.res {a : Addr} {R1 : List Addr} (ha : H a = none) {ob : O} {b : Addr} (r : RepO (cf.on R1) ι H ob b) : RepO (cf.on (a :: R1)) ι H ob b := by
  cases ob with
  | lst ds => obtain ⟨vs, h1, h2⟩ := r; exact ⟨vs, h1, Reps.res ha h2⟩
  | dct ks ds => obtain ⟨kvs, h1, h2, h3⟩ := r; exact ⟨kvs, h1, h2, Reps.res ha h3⟩
  | ins c fs => obtain ⟨dx, fs', h1, h2, h3⟩ := r; exact ⟨dx, fs', h1, h2, Reps.res ha h3⟩
/-- a list that is being made is laid aside -/
theorem Sim.lay {a : Addr} {R1 : List Addr} {xs : List V} (h : Sim (cf.on R1) ι H S) (ha : H a = none) (hz : xs.length ≤ sizeLine) : Sim (cf.on (a :: R1)) ι (upd H a (.lst xs)) S := by
  have g := h.new ha (szo_lst hz)
  refine ⟨g.len, g.nd, fun l o b e1 e2 => ?_, g.sz, fun b hb => ?_, fun b hb => ?_⟩
  · exact (RepO.res (cf := cf) ha (h.obj l o b e1 e2)).mono (Ext.new ha) fun u q => by rw [upd_ne (ne_of_none q ha)]; exact q
  · rcases List.mem_cons.mp hb with rfl | hb
    · exact h.out ha
    · exact h.rdis b hb
  · rcases List.mem_cons.mp hb with rfl | hb
    · exact ⟨_, upd_same⟩
    · exact g.rat b hb
theorem EnvR.lay {a : Addr} {R1 : List Addr} {o : HO} {env : DEnv} {σ : L2.St} (h : EnvR (cf.on R1) ι H env σ) (ha : H a = none) : EnvR (cf.on (a :: R1)) ι (upd H a o) env σ :=
  ⟨h.1, fun i d q => let ⟨v, h1, h2⟩ := h.2 i d q; ⟨v, h1, (Rep.res (cf := cf) ha h2).mono (Ext.new ha)⟩⟩
theorem off_upd {a : Addr} {xs ys : List V} (h : H a = some (.lst xs)) : Off a H (upd H a (.lst ys)) := ⟨fun b hb => upd_ne hb, nt_lst h⟩
/-- it grows -/
theorem Sim.grow {a : Addr} {R1 : List Addr} {xs ys : List V} (h : Sim (cf.on (a :: R1)) ι H S) (ha : H a = some (.lst xs)) (hz : ys.length ≤ sizeLine) : Sim (cf.on (a :: R1)) ι (upd H a (.lst ys)) S := by
  have na : a ∉ ι := h.rdis a (List.mem_cons_self ..)
  refine ⟨h.len, h.nd, fun l o b e1 e2 => RepO.off (cf := cf) (off_upd ha) (List.mem_cons_self ..) (fun _ z => z) (fun e => na (e ▸ List.mem_of_getElem? e2)) (h.obj l o b e1 e2), sz_upd h.sz (szo_lst hz), h.rdis, fun b hb => ?_⟩
  by_cases e : b = a
  · exact ⟨_, by rw [e]; exact upd_same⟩
  · obtain ⟨u, q⟩ := h.rat b hb
    exact ⟨u, by rw [upd_ne e]; exact q⟩
def delH (H : Hp) (a : Addr) : Hp := fun b => if b = a then none else H b
theorem delH_upd {a : Addr} {o : HO} (h : H a = some o) : upd (delH H a) a o = H := by
  funext b
  unfold upd delH
  by_cases e : b = a
  · rw [if_pos e, e, h]
  · rw [if_neg e, if_neg e]
theorem off_del {a : Addr} {xs : List V} (h : H a = some (.lst xs)) : Off a H (delH H a) := ⟨fun b hb => by unfold delH; rw [if_neg hb], nt_lst h⟩
theorem Sim.del {a : Addr} {R1 : List Addr} {xs : List V} (h : Sim (cf.on (a :: R1)) ι H S) (hn : a ∉ R1) (ha : H a = some (.lst xs)) : Sim (cf.on R1) ι (delH H a) S := by
  have na : a ∉ ι := h.rdis a (List.mem_cons_self ..)
  refine ⟨h.len, h.nd, fun l o b e1 e2 => RepO.off (cf := cf) (off_del ha) (List.mem_cons_self ..) (fun _ z => List.mem_cons_of_mem _ z) (fun e => na (e ▸ List.mem_of_getElem? e2)) (h.obj l o b e1 e2), fun b ys q => ?_, fun b hb => h.rdis b (List.mem_cons_of_mem _ hb), fun b hb => ?_⟩
  · refine h.sz b ys ?_
    unfold Rd delH at q
    unfold Rd
    by_cases e : b = a
    · rw [if_pos e] at q
      rcases q with (q | ⟨_, q⟩) | (q | ⟨_, q⟩) <;> exact nomatch q
    · rw [if_neg e] at q
      exact q
  · obtain ⟨u, q⟩ := h.rat b (List.mem_cons_of_mem _ hb)
    exact ⟨u, by unfold delH; rw [if_neg (show b ≠ a from fun e => hn (by rw [← e]; exact hb))]; exact q⟩
theorem Ext.delR {ι' : List Addr} {H0 H' : Hp} {a : Addr} (e : Ext ι H0 ι' H') (ha : H0 a = none) : Ext ι H0 ι' (delH H' a) := by
  have kp : ∀ {b u}, Rd H0 b u → Rd H' b u → Rd (delH H' a) b u := fun {b u} h q => by
    have hb := rd_ne ha h
    unfold Rd delH at *
    rw [if_neg hb]
    exact q
  exact ⟨e.pre, fun b u h n => ⟨kp h (e.keep b u h n).1, (e.keep b u h n).2⟩, fun b vs h n => by unfold delH; rw [if_neg (ne_of_none h ha)]; exact e.lst b vs h n, fun b xs h => kp h (e.tup b xs h)⟩
theorem Ext.updR {ι' : List Addr} {H0 H' : Hp} {a : Addr} {o : HO} (e : Ext ι H0 ι' H') (ha : H0 a = none) : Ext ι H0 ι' (upd H' a o) := by
  have kp : ∀ {b u}, Rd H0 b u → Rd H' b u → Rd (upd H' a o) b u := fun {b u} h q => by
    have hb := rd_ne ha h
    unfold Rd at *
    rw [upd_ne hb]
    exact q
  exact ⟨e.pre, fun b u h n => ⟨kp h (e.keep b u h n).1, (e.keep b u h n).2⟩, fun b vs h n => by rw [upd_ne (ne_of_none h ha)]; exact e.lst b vs h n, fun b xs h => kp h (e.tup b xs h)⟩
theorem lc_imp {mi : ID} {p : Pat} {mt : Option ED} {me : ED} {vs : List Nat} (hsl : ∀ j ∈ slotsP p, j ∈ vs) (σ : L2.St) (H : Hp) (Q : VK)
    (h : tN cf W (MComp mi p mt me vs) σ H Q) : L2.tLc (tI cf W mi) (tG cf p) (ttO cf mt) (tE cf W0 me) vs σ H Q := by
  obtain ⟨R0, ι, env, S, he, hs, k⟩ := h
  refine ⟨R0, ι, env, S, he, hs, (KR.bind k).mono fun ι1 H1 q S1 e1 s1 k1 hz hg J wk Da hD => ?_⟩
  obtain ⟨g, items⟩ := q
  dsimp only at k1 hz hg wk
  have hnR : Da ∉ R0 := fun hm => by
    obtain ⟨u, q⟩ := s1.rat Da hm
    rw [hD] at q
    exact nomatch q
  -- what stands at turn i
  let Wn : Nat → Nat → Hp → Prop := fun i m H' => m = items.length - i ∧ i ≤ items.length ∧ ∃ ι' S' acc dn, Ext ι1 H1 ι' H' ∧ Sim (cf.on (Da :: R0)) ι' H' S' ∧ EnvR (cf.on (Da :: R0)) ι' H' (wipeD env vs) (wipe σ vs) ∧ H' Da = some (.lst acc) ∧ Reps (cf.on (Da :: R0)) ι' H' dn acc ∧ acc.length ≤ i ∧
      KR (cf.on R0) ι1 H1 (fun c d H' => W c d σ H') (fun ι'' H'' r _ => ∀ vs' pp, Reps (cf.on R0) ι'' H'' (dn ++ r) vs' → (dn ++ r).length ≤ sizeLine → H'' pp = none → Q (.ref pp) (upd H'' pp (.lst vs'))) (compD g p mt me (wipeD env vs) (items.drop i) S')
  refine ⟨Wn, ⟨items.length, by simp, Nat.zero_le _, ι1, S1, [], [], (Ext.refl).updR hD, s1.lay hD (Nat.zero_le _), (wipe_env (he.mono e1) vs).lay hD, upd_same, .nil, Nat.zero_le _, by simpa using k1⟩, ?_⟩
  rintro i m H' ⟨rfl, hi, ι', S', acc, dn, e2, s2, he2, hDa, racc, hacc, k2⟩
  have hsz : dn.length ≤ i := by rw [← racc.length]; exact hacc
  by_cases hlt : i < items.length
  · refine .inr ?_
    rw [List.drop_eq_getElem_cons hlt] at k2
    unfold compD at k2
    split at k2
    · rename_i gd
      have hRN : RN R0 (Da :: R0) H1 := fun b hb => (List.mem_cons.mp hb).elim (fun z => .inr (by rw [z]; exact hD)) .inl
      refine ⟨wk.goes (Da :: R0) i ι' H' S' hRN hlt e2 s2 gd, fun H'' => ∃ m', m' < items.length - i ∧ Wn (i + 1) m' H'', fun H'' h => h, fun x H3 y => ?_⟩
      obtain ⟨y1, y2, y3, y4⟩ := wk.yields (Da :: R0) i ι' H' S' x H3 hRN e2 s2 gd y items[i] (by simp [hlt])
      have hDa3 : H3 Da = some (.lst acc) := y4 _ _ hDa
      split at k2
      · exact k2.elim
      · rename_i env1 henv
        refine ⟨Da :: R0, ι', wipeD env vs, S', items[i], env1, he2.mono y1, y2, y3, henv, fun σ2 he3 hσ => ?_⟩
        refine ⟨wipe_same hσ.1 fun j hj => hσ.2 j fun hm => hj (hsl j hm), ?_⟩
        -- the element, appended
        have elem : ∀ {ι4 : List Addr} {H4 : Hp} {S4 : List O}, Ext ι' H3 ι4 H4 → Sim (cf.on (Da :: R0)) ι4 H4 S4 →
            KR (cf.on R0) ι1 H1 (fun c d H' => W c d σ H') (fun ι'' H'' r _ => ∀ vs' pp, Reps (cf.on R0) ι'' H'' (dn ++ r) vs' → (dn ++ r).length ≤ sizeLine → H'' pp = none → Q (.ref pp) (upd H'' pp (.lst vs')))
              ((me env1 S4).nx.bind fun x S => (compD g p mt me (wipeD env vs) (items.drop (i + 1)) S).bind fun r S => .ok (x :: r) S) →
            tE cf W0 me σ2 H4 (fun y H4 => ∃ acc, H4 Da = some (.lst acc) ∧ acc.length < sizeLine ∧ ∃ m', m' < items.length - i ∧ Wn (i + 1) m' (upd H4 Da (.lst (acc ++ [y])))) := by
          intro ι4 H4 S4 e4 s4 k4
          refine ⟨Da :: R0, ι4, env1, S4, he3.mono e4, s4, ?_⟩
          cases hm : me env1 S4 with
          | no => rw [hm] at k4; exact k4.elim
          | ex c fs S5 => rw [hm] at k4; exact k4.elim
          | ok xd S5 =>
            rw [hm] at k4
            intro ι5 H5 e5 s5 y ry
            have d3 : H5 Da = some (.lst acc) := e5.lst _ _ (e4.lst _ _ hDa3 (s2.rdis Da (List.mem_cons_self ..))) (s4.rdis Da (List.mem_cons_self ..))
            have e15 : Ext ι1 H1 ι5 H5 := ((e2.trans y1).trans e4).trans e5
            refine ⟨acc, d3, by rw [sizeLine_eq] at hz ⊢; omega, items.length - (i + 1), by omega, rfl, hlt, ι5, S5, acc ++ [y], dn ++ [xd], e15.updR hD, s5.grow d3 (by rw [List.length_append]; simp; rw [sizeLine_eq] at hz ⊢; omega),
              EnvR.off (cf := cf) (off_upd d3) (List.mem_cons_self ..) (fun _ z => z) (((he2.mono y1).mono e4).mono e5), upd_same,
              Reps.off (cf := cf) (off_upd d3) (List.mem_cons_self ..) (fun _ z => z) ((((racc.mono y1).mono e4).mono e5).append (.cons ry .nil)), by rw [List.length_append]; simp; exact hacc, ?_⟩
            cases hc : compD g p mt me (wipeD env vs) (items.drop (i + 1)) S5 with
            | no => simp only [Rs.nx_ok, Rs.bind_ok, hc, Rs.bind_no] at k4; exact k4.elim
            | ex c fs S6 => simp only [Rs.nx_ok, Rs.bind_ok, hc, Rs.bind_ex] at k4; exact k4
            | ok r S6 =>
              simp only [Rs.nx_ok, Rs.bind_ok, hc] at k4
              have k5 := k4
              intro ι6 H6 e6 s6
              have k6 := k5 ι6 H6 e6 s6
              simpa using k6
        cases mt with
        | none =>
          simp only [ttO, tYes, if_true]
          exact elem .refl y2 k2
        | some t =>
          refine ⟨Da :: R0, ι', env1, S', he3, y2, ?_⟩
          dsimp only at k2
          cases hm : t env1 S' with
          | no => rw [hm] at k2; exact k2.elim
          | ex c fs S5 => rw [hm] at k2; exact k2.elim
          | ok bd S5 =>
            rw [hm] at k2
            intro ι4 H4 e4 s4
            cases bd with
            | bl b =>
              cases b with
              | true => exact ⟨true, rfl, iteT (elem e4 s4 k2)⟩
              | false =>
                refine ⟨false, rfl, iteF ⟨items.length - (i + 1), by omega, rfl, hlt, ι4, S5, acc, dn, (e2.trans y1).trans e4, s4, (he2.mono y1).mono e4, e4.lst _ _ hDa3 (s2.rdis Da (List.mem_cons_self ..)), (racc.mono y1).mono e4, by omega, k2⟩⟩
            | _ => exact k2.elim
    · exact k2.elim
  · have hi2 : i = items.length := by omega
    subst hi2
    refine .inl ?_
    simp only [List.drop_length] at k2
    unfold compD at k2
    split at k2
    · rename_i gd
      have hRN : RN R0 (Da :: R0) H1 := fun b hb => (List.mem_cons.mp hb).elim (fun z => .inr (by rw [z]; exact hD)) .inl
      refine ⟨wk.stops (Da :: R0) ι' H' S' hRN e2 s2 gd, ?_⟩
      have k3 := k2 ι' (delH H' Da) (e2.delR hD) (s2.del hnR hDa) acc Da (by simpa using Reps.off (cf := cf) (off_del hDa) (List.mem_cons_self ..) (fun _ z => List.mem_cons_of_mem _ z) racc) (by simp; omega) (by unfold delH; rw [if_pos rfl])
      rw [delH_upd hDa] at k3
      exact k3
    · exact k2.elim
theorem n_comp {elt tg iter : Expr} {ifs : List Expr} {scope : Scope} {own : List (Str × Nat)} {pos : Pos} {mi : ID} {p : Pat} {mt : Option ED} {me : ED} (hc : X.calm = true) (hN : X.N.Nodup) (hi : PI X tg iter (tI cf W mi)) (ok : BlkOk X.N X.env.scope scope own) (hsl : ∀ j ∈ slotsP p, j ∈ own.map (·.2))
    (hg : ∀ (s : Shared) (H : Hp) (C : Addr) (cl : List (Str × Addr)) (fp : List Addr), PG (X.blk s H scope (compEnvC scope cl C X.env) fp) tg (tG cf p)) (ht : ∀ (s : Shared) (H : Hp) (C : Addr) (cl : List (Str × Addr)) (fp : List Addr), PTs (X.blk s H scope (compEnvC scope cl C X.env) fp) ifs (ttO cf mt))
    (he : ∀ (s : Shared) (H : Hp) (C : Addr) (cl : List (Str × Addr)) (fp : List Addr), PE (X.blk s H scope (compEnvC scope cl C X.env) fp) elt (tE cf W0 me)) (hs : ∀ x, foldedSetIterable iter X.env x = pure x := by intro _; rfl) :
    PE X (.ListComp elt [⟨tg, iter, ifs, 0⟩] scope pos) (tN cf W (MComp mi p mt me (own.map (·.2)))) := (pe_lc hc hN hi ok hg ht he hs).wk fun σ H Q h => lc_imp hsl σ H Q h
theorem frz_imp {m : EDs} {σ : L2.St} {H : Hp} {Q : VK} (h : tE cf W (Mfrz m) σ H Q) : tN cf W m σ H Q := by
  obtain ⟨R, ι, env, S, he, hs, k⟩ := h
  refine ⟨R, ι, env, S, he, hs, (KR.bind k).mono fun ι1 H1 ds S1 e1 s1 k1 vs p rv hz hp => ?_⟩
  refine k1 ι1 _ (Ext.new hp) (s1.new hp (szo_lst (by rw [rv.length]; exact hz))) _ ?_
  unfold Rep
  exact ⟨p, vs, rfl, upd_same, ⟨s1.out hp, s1.outR hp⟩, rv.mono (Ext.new hp)⟩
theorem new_imp {m : EDs} {σ : L2.St} {H : Hp} {Q : VK} (h : tE cf W (Mnew m) σ H Q) : tN cf W m σ H Q := by
  obtain ⟨R, ι, env, S, he, hs, k⟩ := h
  refine ⟨R, ι, env, S, he, hs, (KR.bind k).mono fun ι1 H1 ds S1 e1 s1 k1 vs p rv hz hp => ?_⟩
  refine k1 (ι1 ++ [p]) _ (Ext.push hp) (s1.push hp (szo_lst (by rw [rv.length]; exact hz)) ⟨vs, upd_same, rv.mono (Ext.push hp)⟩) _ ?_
  unfold Rep
  exact ⟨p, rfl, by rw [← s1.len]; simp⟩
theorem ts_nil : PTs X [] (ttO cf none) := pts_nil
theorem ts_one {c : Expr} {t : ED} (h : PT X c (tT cf W0 t)) : PTs X [c] (ttO cf (some t)) := pts_one h
end
end PB

set_option Elab.async false
set_option linter.all false
set_option maxRecDepth 100000
set_option maxHeartbeats 4000000
namespace PB
open PySem PySem.Spec PyProof.Rows L2

/-! ### statements -/
inductive Ss where
  | nx (env : DEnv) (S : List O) | rt (d : D) (S : List O) | ex (c : Nat) (fs : List (Str × D)) (env : DEnv) (S : List O) | no
abbrev SD := DEnv → List O → Ss
def Rs.s {α : Type} (r : Rs α) (env : DEnv) (f : α → List O → Ss) : Ss := match r with
  | .ok a S => f a S
  | .ex c fs S => .ex c fs env S
  | .no => .no
@[simp] theorem Rs.s_ok {α : Type} (a : α) (S : List O) (env : DEnv) (f : α → List O → Ss) : (Rs.ok a S).s env f = f a S := rfl
@[simp] theorem Rs.s_ex {α : Type} (c : Nat) (fs : List (Str × D)) (S : List O) (env : DEnv) (f : α → List O → Ss) : (Rs.ex c fs S).s env f = .ex c fs env S := rfl
@[simp] theorem Rs.s_no {α : Type} (env : DEnv) (f : α → List O → Ss) : (Rs.no : Rs α).s env f = .no := rfl
def KS (cf : Cf) (ι : List Addr) (H : Hp) (W : L2.WX) (D : L2.Ends) : Ss → Prop
  | .nx env S => ∀ ι' H' σ', Ext ι H ι' H' → Sim cf ι' H' S → EnvR cf ι' H' env σ' → D.nx σ' H'
  | .rt d S => ∀ ι' H' v, Ext ι H ι' H' → Sim cf ι' H' S → Rep cf ι' H' d v → D.rt v H'
  | .ex c fs env S => ∀ ι' H' σ' dd, Ext ι H ι' H' → Sim cf ι' H' S → EnvR cf ι' H' env σ' → RepX cf ι' H' fs dd → W (.ref (cf.ct c)) dd σ' H'
  | .no => False
def tS (cf : Cf) (W : L2.WX) (m : SD) : L2.TS := fun D σ H => ∃ R ι env S, EnvR (cf.on R) ι H env σ ∧ Sim (cf.on R) ι H S ∧ KS (cf.on R) ι H W D (m env S)
section
variable {X : Cx} {cf : Cf} {W : L2.WX} {ι : List Addr} {H : Hp} {S : List O} {D : L2.Ends} {env : DEnv} {σ : L2.St}
theorem KS.ext {ι1 : List Addr} {H1 : Hp} {r : Ss} (e : Ext ι H ι1 H1) (h : KS cf ι H W D r) : KS cf ι1 H1 W D r := by
  cases r with
  | nx env S => exact fun ι' H' σ' e' s q => h ι' H' σ' (e.trans e') s q
  | rt d S => exact fun ι' H' v e' s q => h ι' H' v (e.trans e') s q
  | ex c fs env S => exact fun ι' H' σ' dd e' s q x => h ι' H' σ' dd (e.trans e') s q x
  | no => exact h
theorem KS.s {α : Type} {r : Rs α} {f : α → List O → Ss} (he : EnvR cf ι H env σ) (h : KS cf ι H W D (r.s env f)) : KR cf ι H (fun c d H' => W c d σ H') (fun ι' H' a S => KS cf ι' H' W D (f a S)) r := by
  cases r with
  | ok a S => exact fun ι' H' e s => KS.ext e h
  | ex c fs S => exact fun ι' H' dd e s x => h ι' H' σ dd e s (he.mono e) x
  | no => exact h
def Sasg (p : Pat) (m : ED) : SD := fun env S => (m env S).s env fun d S => match setP p d env with | some env' => .nx env' S | none => .no
theorem asg_imp {p : Pat} {m : ED} (h : tS cf W (Sasg p m) D σ H) : tE cf W m σ H (fun x H1 => tG cf p x σ H1 D.nx) := by
  obtain ⟨R, ι, env, S, he, hs, k⟩ := h
  refine ⟨R, ι, env, S, he, hs, (KS.s he k).mono fun ι1 H1 d S1 e1 s1 k1 v rv => ?_⟩
  split at k1
  · rename_i env' h
    exact ⟨R, ι1, env, S1, d, env', he.mono e1, s1, rv, h, fun σ' q _ => k1 ι1 H1 σ' .refl s1 q⟩
  · exact k1.elim
theorem s_asg {tg e : Expr} {p : Pat} {m : ED} {pos : Pos} (he : PE X e (tE cf W m)) (hg : PG X tg (tG cf p)) (hs : swapsWithSole [tg] e pos.line X.env = pure false := by rfl) (hw : swappedStores [tg] e X.env = pure none := by rfl)
    (h1 : (assignEach [tg] X.env).map (·.2) = [assign tg X.env] := by rfl) : PS X (.Assign [tg] e pos) (tS cf W (Sasg p m)) := (ps_asg he hg hs hw h1).wk fun D σ H h => asg_imp h
theorem g_name_of {i : Nat} {v : V} {σ : L2.St} {H : Hp} {Q : L2.St → Hp → Prop} (h : tG cf (.nm i) v σ H Q) : L2.gName i v σ H Q := by
  obtain ⟨R, ι, env, S, d, env', he, hs, r, e, k⟩ := h
  simp only [setP, Option.some.injEq] at e
  subst e
  exact k _ (he.set r i) ⟨by simp, fun j hj => by
    have : j ≠ i := by simpa [slotsP] using hj
    rw [List.getElem?_set_ne (Ne.symm this)]⟩
theorem tE_mono {m : ED} {σ : L2.St} {H : Hp} {Q Q' : VK} (h : tE cf W m σ H Q) (i : ∀ v H', Q v H' → Q' v H') : tE cf W m σ H Q' := by
  obtain ⟨R, ι, env, S, he, hs, k⟩ := h
  exact ⟨R, ι, env, S, he, hs, k.mono fun _ _ _ _ _ _ q v r => i v _ (q v r)⟩
/-- name = e -/
theorem s_set (i : Nat) {x : Str} {e : Expr} {m : ED} {pos pos' : Pos} (hN : X.N.Nodup) (he : PE X e (tE cf W m)) (hi : X.N[i]? = some x := by rfl) (hx : Loc X.env.scope x := by first | exact Or.inl rfl | exact Or.inr rfl) (hs : swapsWith e (some (.Name x pos')) pos.line X.env = pure false := by rfl)
    (hf : X.fn x = true ∨ X.env.scope.names.lookup x = some .local := by first | exact .inl rfl | exact .inr rfl | assumption) : PS X (.Assign [.Name x pos'] e pos) (tS cf W (Sasg (.nm i) m)) :=
  (ps_set hN hi hx he hs hf).wk fun D σ H h => tE_mono (asg_imp h) fun v H' q => g_name_of q
/-- name = [..], the comprehension in the frame -/
theorem s_lcF (i : Nat) {y : Str} {py : Pos} {elt tg iter : Expr} {ifs : List Expr} {scope : Scope} {own : List (Str × Nat)} {pos spos : Pos} {mi : ID} {p : Pat} {mt : Option ED} {me : ED} (hc : X.calm = true) (hN : X.N.Nodup)
    (hi : PI X tg iter (tI cf W mi)) (ok : BlkOk X.N X.env.scope scope own) (hsl : ∀ j ∈ slotsP p, j ∈ own.map (·.2))
    (hg : ∀ (s : Shared) (H : Hp) (C : Addr) (cl : List (Str × Addr)) (fp : List Addr), PG (X.blk s H scope (compEnvC scope cl C X.env) fp) tg (tG cf p)) (ht : ∀ (s : Shared) (H : Hp) (C : Addr) (cl : List (Str × Addr)) (fp : List Addr), PTs (X.blk s H scope (compEnvC scope cl C X.env) fp) ifs (ttO cf mt))
    (he : ∀ (s : Shared) (H : Hp) (C : Addr) (cl : List (Str × Addr)) (fp : List Addr), PE (X.blk s H scope (compEnvC scope cl C X.env) fp) elt (tE cf W0 me))
    (hy : X.N[i]? = some y := by rfl) (hyl : X.env.scope.names.lookup y = some .local := by rfl) (hsw : swapsWith (.ListComp elt [⟨tg, iter, ifs, 0⟩] scope pos) (some (.Name y py)) spos.line X.env = pure true := by exact sw_true rfl rfl rfl (by decide +kernel))
    (hs : ∀ x, foldedSetIterable iter X.env x = pure x := by intro _; rfl) :
    PS X (.Assign [.Name y py] (.ListComp elt [⟨tg, iter, ifs, 0⟩] scope pos) spos) (tS cf W (Sasg (.nm i) (Mfrz (MComp mi p mt me (own.map (·.2)))))) :=
  (ps_setLc hc hN hy hyl hsw hi ok hg ht he hs).wk fun D σ H h => lc_imp hsl σ H _ (frz_imp (tE_mono (asg_imp h) fun v H' q => g_name_of q))
theorem s_lcN (i : Nat) {y : Str} {py : Pos} {elt tg iter : Expr} {ifs : List Expr} {scope : Scope} {own : List (Str × Nat)} {pos spos : Pos} {mi : ID} {p : Pat} {mt : Option ED} {me : ED} (hc : X.calm = true) (hN : X.N.Nodup)
    (hi : PI X tg iter (tI cf W mi)) (ok : BlkOk X.N X.env.scope scope own) (hsl : ∀ j ∈ slotsP p, j ∈ own.map (·.2))
    (hg : ∀ (s : Shared) (H : Hp) (C : Addr) (cl : List (Str × Addr)) (fp : List Addr), PG (X.blk s H scope (compEnvC scope cl C X.env) fp) tg (tG cf p)) (ht : ∀ (s : Shared) (H : Hp) (C : Addr) (cl : List (Str × Addr)) (fp : List Addr), PTs (X.blk s H scope (compEnvC scope cl C X.env) fp) ifs (ttO cf mt))
    (he : ∀ (s : Shared) (H : Hp) (C : Addr) (cl : List (Str × Addr)) (fp : List Addr), PE (X.blk s H scope (compEnvC scope cl C X.env) fp) elt (tE cf W0 me))
    (hy : X.N[i]? = some y := by rfl) (hyl : X.env.scope.names.lookup y = some .local := by rfl) (hsw : swapsWith (.ListComp elt [⟨tg, iter, ifs, 0⟩] scope pos) (some (.Name y py)) spos.line X.env = pure true := by exact sw_true rfl rfl rfl (by decide +kernel))
    (hs : ∀ x, foldedSetIterable iter X.env x = pure x := by intro _; rfl) :
    PS X (.Assign [.Name y py] (.ListComp elt [⟨tg, iter, ifs, 0⟩] scope pos) spos) (tS cf W (Sasg (.nm i) (Mnew (MComp mi p mt me (own.map (·.2)))))) :=
  (ps_setLc hc hN hy hyl hsw hi ok hg ht he hs).wk fun D σ H h => lc_imp hsl σ H _ (new_imp (tE_mono (asg_imp h) fun v H' q => g_name_of q))
/-- a, b = x, y: two different local names -/
def Spar (i j : Nat) (m : EDs) : SD := fun env S => (m env S).s env fun ds S => match ds with | [d, e] => .nx ((env.set i (some d)).set j (some e)) S | _ => .no
theorem s_par (i j : Nat) {x y : Str} {a b : Expr} {m : EDs} {px py pt pos : Pos} {kt k2 pt2} (hc : X.calm = true) (hN : X.N.Nodup) (ha : PA X [a, b] (tA cf W m)) (hi : X.N[i]? = some x := by rfl) (hj : X.N[j]? = some y := by rfl) (hij : i ≠ j := by decide)
    (hx : X.env.scope.names.lookup x = some .local := by rfl) (hy : X.env.scope.names.lookup y = some .local := by rfl)
    (hw : swappedStores [.Tuple [.Name x px, .Name y py] kt pt] (.Tuple [a, b] k2 pt2) X.env = pure (some [x, y]) := by rfl)
    (hs : swapsWithSole [.Tuple [.Name x px, .Name y py] kt pt] (.Tuple [a, b] k2 pt2) pos.line X.env = pure false := by rfl) :
    PS X (.Assign [.Tuple [.Name x px, .Name y py] kt pt] (.Tuple [a, b] k2 pt2) pos) (tS cf W (Spar i j m)) :=
  (ps_par hc hN hi hj hij hx hy ha hw hs).wk fun D σ H ⟨R, ι, env, S, he, hs, k⟩ => by
    refine ⟨R, ι, env, S, he, hs, (KS.s he k).mono fun ι1 H1 ds S1 e1 s1 k1 vs rv => ?_⟩
    split at k1
    · rename_i d e
      unfold Reps at rv
      obtain ⟨v, r, rfl, r1, rv⟩ := rv
      unfold Reps at rv
      obtain ⟨w, r, rfl, r2, rv⟩ := rv
      unfold Reps at rv
      subst rv
      exact ⟨v, w, rfl, k1 ι1 H1 _ .refl s1 (((he.mono e1).set r1 i).set r2 j)⟩
    · exact k1.elim
def Sexp (m : ED) : SD := fun env S => (m env S).s env fun _ S => .nx env S
theorem s_exp {e : Expr} {m : ED} {pos : Pos} (he : PE X e (tE cf W m)) (hs : swapsWith e none pos.line X.env = pure false := by rfl) : PS X (.Expr e pos) (tS cf W (Sexp m)) := (ps_expr he hs).wk fun D σ H ⟨R, ι, env, S, he, hs, k⟩ => by
  exact ⟨R, ι, env, S, he, hs, (KS.s he k).mono fun ι1 H1 d S1 e1 s1 k1 v rv => k1 ι1 H1 σ .refl s1 (he.mono e1)⟩
def Snx : SD := fun env S => .nx env S
theorem s_doc {x j pos pos'} : PS X (.Expr (.Constant (.str x) j pos) pos') (tS cf W Snx) := ps_doc.wk fun D σ H ⟨R, ι, env, S, he, hs, k⟩ => k ι H σ .refl hs he
theorem s_pass {pos} : PS X (.Pass pos) (tS cf W Snx) := ps_pass.wk fun D σ H ⟨R, ι, env, S, he, hs, k⟩ => k ι H σ .refl hs he
def Sret (m : ED) : SD := fun env S => (m env S).s env fun d S => .rt d S
theorem s_ret {e : Expr} {m : ED} {pos : Pos} (he : PE X e (tE cf W m)) : PS X (.Return (some e) pos) (tS cf W (Sret m)) := (ps_ret he).wk fun D σ H ⟨R, ι, env, S, he, hs, k⟩ => by
  exact ⟨R, ι, env, S, he, hs, (KS.s he k).mono fun ι1 H1 d S1 e1 s1 k1 v rv => k1 ι1 H1 v .refl s1 rv⟩
def Srtn : SD := fun _ S => .rt .non S
theorem s_retN {pos} : PS X (.Return none pos) (tS cf W Srtn) := ps_retN.wk fun D σ H ⟨R, ι, env, S, he, hs, k⟩ => k ι H .non .refl hs rep_non
def Sif (c : ED) (a b : SD) : SD := fun env S => (c env S).s env fun d S => match d with | .bl true => a env S | .bl false => b env S | _ => .no
theorem s_if {c : Expr} {a b : List Stmt} {mc : ED} {ma mb : SD} {pos : Pos} (hc : PT X c (tT cf W mc)) (ha : PSs X a (tS cf W ma)) (hb : PSs X b (tS cf W mb)) : PS X (.If c a b pos) (tS cf W (Sif mc ma mb)) := (ps_if hc ha hb).wk fun D σ H ⟨R, ι, env, S, he, hs, k⟩ => by
  refine ⟨R, ι, env, S, he, hs, (KS.s he k).mono fun ι1 H1 d S1 e1 s1 k1 => ?_⟩
  split at k1
  · exact ⟨true, rfl, iteT ⟨R, ι1, env, S1, he.mono e1, s1, k1⟩⟩
  · exact ⟨false, rfl, iteF ⟨R, ι1, env, S1, he.mono e1, s1, k1⟩⟩
  · exact k1.elim
def Ss.sq (r : Ss) (f : DEnv → List O → Ss) : Ss := match r with
  | .nx env S => f env S
  | .rt d S => .rt d S
  | .ex c fs env S => .ex c fs env S
  | .no => .no
@[simp] theorem Ss.sq_nx (env : DEnv) (S : List O) (f : DEnv → List O → Ss) : (Ss.nx env S).sq f = f env S := rfl
@[simp] theorem Ss.sq_rt (d : PB.D) (S : List O) (f : DEnv → List O → Ss) : (Ss.rt d S).sq f = .rt d S := rfl
@[simp] theorem Ss.sq_ex (c : Nat) (fs : List (Str × PB.D)) (env : DEnv) (S : List O) (f : DEnv → List O → Ss) : (Ss.ex c fs env S).sq f = .ex c fs env S := rfl
@[simp] theorem Ss.sq_no (f : DEnv → List O → Ss) : Ss.no.sq f = .no := rfl
def Sseq (a b : SD) : SD := fun env S => (a env S).sq b
theorem b_nil : PSs X [] (tS cf W Snx) := pss_nil.wk fun D σ H ⟨R, ι, env, S, he, hs, k⟩ => k ι H σ .refl hs he
theorem b_one {st : Stmt} {m : SD} (h : PS X st (tS cf W m)) : PSs X [st] (tS cf W m) := pss_one h
theorem seq_imp {a b : SD} (h : tS cf W (Sseq a b) D σ H) : L2.tSeq (tS cf W a) (tS cf W b) D σ H := by
  obtain ⟨R, ι, env, S, he, hs, k⟩ := h
  refine ⟨R, ι, env, S, he, hs, ?_⟩
  unfold Sseq at k
  cases hm : a env S with
  | nx env' S' => rw [hm] at k; exact fun ι' H' σ' e s q => ⟨R, ι', env', S', q, s, KS.ext e k⟩
  | rt d S' => rw [hm] at k; exact k
  | ex c fs env' S' => rw [hm] at k; exact k
  | no => rw [hm] at k; exact k
theorem b_cons {st : Stmt} {rest : List Stmt} {a b : SD} (h1 : PS X st (tS cf W a)) (h2 : PSs X rest (tS cf W b)) : PSs X (st :: rest) (tS cf W (Sseq a b)) := (pss_cons h1 h2).wk fun D σ H h => seq_imp h
/-- code that is not come to -/
def Sno : SD := fun _ _ => .no
theorem s_no {st : Stmt} : PS X st (tS cf W Sno) := ps_never.wk fun D σ H ⟨R, ι, env, S, he, hs, k⟩ => k
theorem b_no {st : List Stmt} : PSs X st (tS cf W Sno) := pss_never.wk fun D σ H ⟨R, ι, env, S, he, hs, k⟩ => k
/-- name op= e -/
def Saug (i : Nat) (g : G2) (m : ED) : SD := fun env S => match env[i]? with
  | some (some x) => (m env S).s env fun y S => match g x y S with | some z => .nx (env.set i (some z)) S | none => .no
  | _ => .no
def ipD (cf : Cf) (g : G2) : L2.TIp := r2 cf g
theorem ip_addD : PIp X .Add (ipD cf (fun x y S => match x, y with | .int i, .int j => some (.int (i + j)) | _, _ => none)) := fun pins s σ H x y v u Q I rx ry ⟨R, ι, S, dx, dy, d, hs, qx, qy, e, k⟩ => by
  dsimp only at e
  split at e
  · cases e
    unfold Rep at qx qy
    exact ip_add pins s σ H x y v u Q I rx ry ⟨_, _, qx, qy, k ι H _ .refl hs rep_int⟩
  · cases e
theorem s_aug (i : Nat) {x : Str} {e : Expr} {m : ED} {op : Operator} {g : G2} {pos pos' : Pos} (hN : X.N.Nodup) (he : PE X e (tE cf W m)) (ho : PIp X op (ipD cf g)) (hi : X.N[i]? = some x := by rfl) (hx : Loc X.env.scope x := by first | exact Or.inl rfl | exact Or.inr rfl)
    (hf : X.fn x = true ∨ X.env.scope.names.lookup x = some .local := by first | exact .inl rfl | exact .inr rfl | assumption) : PS X (.AugAssign (.Name x pos') op e pos) (tS cf W (Saug i g m)) := (ps_aug hN hi hx he ho hf).wk fun D σ H ⟨R, ι, env, S, he, hs, k⟩ => by
  unfold Saug at k
  split at k
  · rename_i d hd
    obtain ⟨v, h1, h2⟩ := he.2 i d hd
    refine ⟨v, h1, R, ι, env, S, he, hs, (KS.s he k).mono fun ι1 H1 y S1 e1 s1 k1 w rw' => ?_⟩
    split at k1
    · rename_i z hz
      exact ⟨R, ι1, S1, d, y, z, s1, h2.mono e1, rw', hz, fun ι' H' u e s r => k1 ι' H' _ e s (((he.mono e1).mono e).set r i)⟩
    · exact k1.elim
  · exact k.elim

/-! ### while -/
def whileN (c : ED) (b : SD) : Nat → SD
  | 0 => fun _ _ => .no
  | n + 1 => fun env S => (c env S).s env fun d S => match d with
    | .bl true => (b env S).sq fun env S => whileN c b n env S
    | .bl false => .nx env S
    | _ => .no
theorem whileN_more {c : ED} {b : SD} : ∀ (n k : Nat) (env : DEnv) (S : List O), whileN c b n env S ≠ .no → whileN c b (n + k) env S = whileN c b n env S
  | 0, k, env, S, h => (h rfl).elim
  | n + 1, k, env, S, h => by
    have e1 : n + 1 + k = (n + k) + 1 := by omega
    rw [e1]
    unfold whileN at h ⊢
    cases hc : c env S with
    | no => rfl
    | ex cc fs S' => rfl
    | ok d S' =>
      rw [hc] at h
      simp only [Rs.s_ok] at h ⊢
      split
      · simp only at h
        cases hb : b env S' with
        | no => rfl
        | rt d S2 => rfl
        | ex cc fs e2 S2 => rfl
        | nx env2 S2 =>
          rw [hb] at h
          simp only [Ss.sq_nx] at h ⊢
          exact whileN_more n k env2 S2 h
      · rfl
      · rfl
open Classical in
noncomputable def Swh (c : ED) (b : SD) : SD := fun env S => if h : ∃ n, whileN c b n env S ≠ .no then whileN c b (Classical.choose h) env S else .no
theorem Swh_eq {c : ED} {b : SD} {n : Nat} {env : DEnv} {S : List O} (h : whileN c b n env S ≠ .no) : Swh c b env S = whileN c b n env S := by
  have hx : ∃ n, whileN c b n env S ≠ .no := ⟨n, h⟩
  unfold Swh
  rw [dif_pos hx]
  have h1 := Classical.choose_spec hx
  have e1 := whileN_more _ n env S h1
  have e2 := whileN_more _ (Classical.choose hx) env S h
  rw [Nat.add_comm] at e2
  exact e1.symm.trans e2
/-- one turn -/
theorem Swh_step {c : ED} {b : SD} {env : DEnv} {S : List O} : Swh c b env S = (c env S).s env fun d S => match d with
    | .bl true => (b env S).sq fun env S => Swh c b env S
    | .bl false => .nx env S
    | _ => .no := by
  cases hc : c env S with
  | no =>
    by_cases h : ∃ n, whileN c b n env S ≠ .no
    · obtain ⟨n, h⟩ := h
      cases n with
      | zero => exact (h rfl).elim
      | succ n => unfold whileN at h; rw [hc] at h; exact (h rfl).elim
    · unfold Swh; rw [dif_neg h]; rfl
  | ex cc fs S' =>
    have h : whileN c b 1 env S ≠ .no := by unfold whileN; rw [hc]; intro z; cases z
    rw [Swh_eq h]
    unfold whileN
    rw [hc]
    rfl
  | ok d S' =>
    simp only [Rs.s_ok]
    split
    · cases hb : b env S' with
      | no =>
        simp only [Ss.sq_no]
        by_cases h : ∃ n, whileN c b n env S ≠ .no
        · obtain ⟨n, h⟩ := h
          cases n with
          | zero => exact (h rfl).elim
          | succ n => unfold whileN at h; rw [hc] at h; simp only [Rs.s_ok, hb, Ss.sq_no] at h; exact (h rfl).elim
        · unfold Swh; rw [dif_neg h]
      | rt d S2 =>
        have h : whileN c b 1 env S ≠ .no := by unfold whileN; rw [hc]; simp only [Rs.s_ok, hb, Ss.sq_rt]; intro z; cases z
        rw [Swh_eq h]
        unfold whileN
        rw [hc]
        simp only [Rs.s_ok, hb, Ss.sq_rt]
      | ex cc fs e2 S2 =>
        have h : whileN c b 1 env S ≠ .no := by unfold whileN; rw [hc]; simp only [Rs.s_ok, hb, Ss.sq_ex]; intro z; cases z
        rw [Swh_eq h]
        unfold whileN
        rw [hc]
        simp only [Rs.s_ok, hb, Ss.sq_ex]
      | nx env2 S2 =>
        simp only [Ss.sq_nx]
        by_cases h : ∃ n, whileN c b n env2 S2 ≠ .no
        · obtain ⟨n, h⟩ := h
          have h2 : whileN c b (n + 1) env S = whileN c b n env2 S2 := by
            conv => lhs; unfold whileN
            rw [hc]
            simp only [Rs.s_ok, hb, Ss.sq_nx]
          rw [Swh_eq h, Swh_eq (n := n + 1) (by rw [h2]; exact h), h2]
        · have h2 : ¬ ∃ n, whileN c b n env S ≠ .no := by
            rintro ⟨n, h3⟩
            cases n with
            | zero => exact h3 rfl
            | succ n =>
              unfold whileN at h3
              rw [hc] at h3
              simp only [Rs.s_ok, hb, Ss.sq_nx] at h3
              exact h ⟨n, h3⟩
          unfold Swh
          rw [dif_neg h, dif_neg h2]
    · have h : whileN c b 1 env S ≠ .no := by unfold whileN; rw [hc]; simp only [Rs.s_ok]; intro z; cases z
      rw [Swh_eq h]
      unfold whileN
      rw [hc]
      rfl
    · rename_i h1 h2
      by_cases h : ∃ n, whileN c b n env S ≠ .no
      · obtain ⟨n, h⟩ := h
        cases n with
        | zero => exact (h rfl).elim
        | succ n =>
          unfold whileN at h
          rw [hc] at h
          simp only [Rs.s_ok] at h
          exact (h rfl).elim
      · unfold Swh; rw [dif_neg h]
theorem s_wh {c : Expr} {body : List Stmt} {mc : ED} {mb : SD} {pos : Pos} (hp : PassesOwn (model X.prog X.w) X.A X.env X.xe) (hc : PT X c (tT cf W mc)) (hb : PSs X body (tS cf W mb)) : PS X (.While c body [] pos) (tS cf W (Swh mc mb)) :=
  (ps_while hp hc hb).wk fun D σ H ⟨R, ι, env, S, he, hs, k⟩ => by
    have hx : ∃ n, whileN mc mb n env S ≠ .no := by
      by_cases h : ∃ n, whileN mc mb n env S ≠ .no
      · exact h
      · unfold Swh at k
        rw [dif_neg h] at k
        exact k.elim
    obtain ⟨n, hn⟩ := hx
    rw [Swh_eq hn] at k
    refine ⟨fun m σ H => ∃ ι env S, EnvR (cf.on R) ι H env σ ∧ Sim (cf.on R) ι H S ∧ KS (cf.on R) ι H W D (whileN mc mb m env S), ⟨n, ι, env, S, he, hs, k⟩, ?_⟩
    rintro m σ' H' ⟨ι', env', S', he', hs', k'⟩
    cases m with
    | zero => exact k'.elim
    | succ m =>
      unfold whileN at k'
      refine ⟨R, ι', env', S', he', hs', (KS.s he' k').mono fun ι1 H1 d S1 e1 s1 k1 => ?_⟩
      split at k1
      · refine ⟨true, rfl, iteT ⟨fun σ2 H2 => ∃ ι env S, EnvR (cf.on R) ι H2 env σ2 ∧ Sim (cf.on R) ι H2 S ∧ KS (cf.on R) ι H2 W D (whileN mc mb m env S), fun σ2 H2 q => ⟨m, Nat.lt_succ_self m, q⟩, R, ι1, env', S1, he'.mono e1, s1, ?_⟩⟩
        cases hm : mb env' S1 with
        | nx env2 S2 => rw [hm] at k1; exact fun ι2 H2 σ2 e2 s2 q => ⟨ι2, env2, S2, q, s2, KS.ext e2 k1⟩
        | rt d S2 => rw [hm] at k1; exact k1
        | ex cc fs env2 S2 => rw [hm] at k1; exact k1
        | no => rw [hm] at k1; exact k1
      · exact ⟨false, rfl, iteF (k1 ι1 H1 σ' .refl s1 (he'.mono e1))⟩
      · exact k1.elim

/-! ### for -/
open Classical in
noncomputable def forD (g : Option (Nat × O)) (p : Pat) (b : SD) : List PB.D → SD
  | [] => fun env S => if Gd g S then .nx env S else .no
  | d :: ds => fun env S => if Gd g S then (match setP p d env with
    | none => .no
    | some env1 => (b env1 S).sq fun env S => forD g p b ds env S) else .no
noncomputable def Sfor (mi : ID) (p : Pat) (b : SD) : SD := fun env S => (mi env S).s env fun q S => forD q.1 p b q.2 env S
theorem s_for {tg iter : Expr} {body : List Stmt} {mi : ID} {p : Pat} {mb : SD} {pos : Pos} (hp : PassesOwn (model X.prog X.w) X.A X.env X.xe) (hc : X.calm = true) (hi : PI X tg iter (tI cf W mi)) (hg : PG X tg (tG cf p)) (hb : PSs X body (tS cf W mb))
    (hs : ∀ x, foldedSetIterable iter X.env x = pure x := by intro _; rfl) : PS X (.For tg iter body [] pos) (tS cf W (Sfor mi p mb)) := (ps_for hp hc hi hg hb hs).wk fun D σ H ⟨R, ι, env, S, he, hs, k⟩ => by
  refine ⟨R, ι, env, S, he, hs, (KS.s he k).mono fun ι1 H1 q S1 e1 s1 k1 hz hgd J wk => ?_⟩
  obtain ⟨g, items⟩ := q
  dsimp only at k1 hz hgd wk
  refine ⟨fun i m σ' H' => m = items.length - i ∧ i ≤ items.length ∧ ∃ ι' env' S', Ext ι1 H1 ι' H' ∧ EnvR (cf.on R) ι' H' env' σ' ∧ Sim (cf.on R) ι' H' S' ∧ KS (cf.on R) ι' H' W D (forD g p mb (items.drop i) env' S'), ⟨items.length, by simp, Nat.zero_le _, ι1, env, S1, .refl, he.mono e1, s1, by simpa using k1⟩, ?_⟩
  rintro i m σ' H' ⟨rfl, hi, ι', env', S', e', he', s', k'⟩
  by_cases hlt : i < items.length
  · refine .inr ?_
    rw [List.drop_eq_getElem_cons hlt] at k'
    unfold forD at k'
    split at k'
    · rename_i gd
      refine ⟨wk.goes R i ι' H' S' (fun _ z => .inl z) hlt e' s' gd, fun σ2 H2 => ∃ m', m' < items.length - i ∧ (m' = items.length - (i + 1) ∧ i + 1 ≤ items.length ∧ ∃ ι' env' S', Ext ι1 H1 ι' H2 ∧ EnvR (cf.on R) ι' H2 env' σ2 ∧ Sim (cf.on R) ι' H2 S' ∧ KS (cf.on R) ι' H2 W D (forD g p mb (items.drop (i + 1)) env' S')), fun σ2 H2 h => h, fun x H2 y => ?_⟩
      obtain ⟨y1, y2, y3, _⟩ := wk.yields R i ι' H' S' x H2 (fun _ z => .inl z) e' s' gd y items[i] (by simp [hlt])
      split at k'
      · exact k'.elim
      · rename_i env1 henv
        refine ⟨R, ι', env', S', items[i], env1, he'.mono y1, y2, y3, henv, fun σ2 he2 _ => ?_⟩
        refine ⟨R, ι', env1, S', he2, y2, ?_⟩
        have k2 := KS.ext y1 k'
        cases hm : mb env1 S' with
        | nx env2 S2 =>
          rw [hm] at k2
          exact fun ι3 H3 σ3 e3 s3 q => ⟨items.length - (i + 1), by omega, rfl, hlt, ι3, env2, S2, (e'.trans y1).trans e3, q, s3, KS.ext e3 k2⟩
        | rt d S2 => rw [hm] at k2; exact k2
        | ex cc fs env2 S2 => rw [hm] at k2; exact k2
        | no => rw [hm] at k2; exact k2
    · exact k'.elim
  · have hi2 : i = items.length := by omega
    subst hi2
    refine .inl ?_
    simp only [List.drop_length] at k'
    unfold forD at k'
    split at k'
    · rename_i gd
      exact ⟨wk.stops R ι' H' S' (fun _ z => .inl z) e' s' gd, k' ι' H' σ' .refl s' he'⟩
    · exact k'.elim

/-! ### a store in a list -/
def Ssub (mo mi m : ED) : SD := fun env S => (m env S).s env fun d S => (mo env S).s env fun o S => (mi env S).s env fun i S => match o, i with
  | .ref l, .int k => (match S[l]? with
    | some (.lst ds) => (match ixN ds.length k with | some j => .nx env (S.set l (.lst (ds.set j d))) | none => .no)
    | _ => .no)
  | _, _ => .no
theorem s_sub {o i e : Expr} {mo mi m : ED} {ps pos : Pos} (he : PE X e (tE cf W m)) (ho : PE X o (tE cf W mo)) (hi : PE X i (tE cf W mi)) (hs : swapsWithSole [.Subscript o i ps] e pos.line X.env = pure false := by rfl) (hw : swappedStores [.Subscript o i ps] e X.env = pure none := by rfl)
    (h1 : (assignEach [.Subscript o i ps] X.env).map (·.2) = [assign (.Subscript o i ps) X.env] := by rfl)
    (ha : ∀ v, assign (.Subscript o i ps) X.env v = (do
      let ov ← holding [v] (eval o X.env)
      let iv ← holding [v, ov] (eval i X.env)
      standAt ps
      holding [v, ov, iv] (setItem ov iv v)
      release [v, ov, iv] []) := by intro _; rfl) : PS X (.Assign [.Subscript o i ps] e pos) (tS cf W (Ssub mo mi m)) := (ps_asg he (pg_sub ho hi set_list ha) hs hw h1).wk fun D σ H ⟨R, ι, env, S, he, hs, k⟩ => by
  refine ⟨R, ι, env, S, he, hs, (KS.s he k).mono fun ι1 H1 d S1 e1 s1 k1 v rv => ?_⟩
  refine ⟨R, ι1, env, S1, he.mono e1, s1, (KS.s (he.mono e1) k1).mono fun ι2 H2 o S2 e2 s2 k2 w rw' => ?_⟩
  refine ⟨R, ι2, env, S2, (he.mono e1).mono e2, s2, (KS.s ((he.mono e1).mono e2) k2).mono fun ι3 H3 i S3 e3 s3 k3 u ru => ?_⟩
  split at k3
  · rename_i l kk
    split at k3
    · rename_i ds hl
      split at k3
      · rename_i j hj
        have rw2 := rw'.mono e3
        unfold Rep at rw2 ru
        obtain ⟨a, rfl, hla⟩ := rw2
        obtain ⟨vs, h1, h2⟩ := s3.obj l _ a hl hla
        refine ⟨a, vs, kk, j, rfl, ru, h1, by rw [h2.length]; exact hj, ?_⟩
        have ew : Ext ι3 H3 ι3 (upd H3 a (.lst (vs.set j v))) := Ext.write (List.mem_of_getElem? hla) (nt_lst h1)
        have rv' := ((rv.mono e2).mono e3)
        refine k3 ι3 _ σ ew (s3.write hla (nt_lst h1) (szo_lst (by rw [List.length_set]; exact s3.sz a vs (.inl (.inl h1)))) ⟨_, upd_same, ?_⟩) ((((he.mono e1).mono e2).mono e3).mono ew)
        exact (Reps.set rv' j h2).mono ew
      · exact k3.elim
    · exact k3.elim
  · exact k3.elim
end
end PB

set_option Elab.async false
set_option linter.all false
set_option maxRecDepth 100000
set_option maxHeartbeats 4000000
namespace PB
open PySem PySem.Spec PyProof.Rows L2

/-! ### a def's end -/
mutual
def below (n : Nat) : D → Bool
  | .ref l => decide (l < n)
  | .tup ds => belows n ds | .lst ds => belows n ds | .scr ds => belows n ds | .dct _ ds => belows n ds
  | _ => true
def belows (n : Nat) : List D → Bool
  | [] => true
  | d :: ds => below n d && belows n ds
end
def belowO (n : Nat) : O → Bool
  | .lst ds => belows n ds
  | .dct _ ds => belows n ds
  | .ins _ fs => belows n (fs.map (·.2))
mutual
def derefD (n : Nat) (S : List O) : D → D
  | .ref l => if l < n then .ref l else (match S[l]? with | some (.lst ds) => .lst ds | some (.dct ks ds) => .dct ks ds | _ => .ref l)
  | .tup ds => .tup (derefs n S ds)
  | d => d
def derefs (n : Nat) (S : List O) : List D → List D
  | [] => []
  | d :: ds => derefD n S d :: derefs n S ds
end
def okS (n : Nat) (S : List O) : Bool := (S.take n).all (belowO n)
def fin (n : Nat) : Ss → Rs D
  | .nx _ S => if okS n S = true then .ok .non (S.take n) else .no
  | .rt d S => if (below n (derefD n S d) && okS n S) = true then .ok (derefD n S d) (S.take n) else .no
  | .ex c fs _ S => if (belows n (fs.map (·.2)) && okS n S) = true then .ex c fs (S.take n) else .no
  | .no => .no
/-- the store as it is, new objects handed out -/
def finK : Ss → Rs D
  | .nx _ S => .ok .non S
  | .rt d S => .ok d S
  | .ex c fs _ S => .ex c fs S
  | .no => .no
section
variable {cf : Cf} {ι ι1 : List Addr} {H H1 : Hp} {S S1 : List O} {n : Nat}
mutual
theorem Rep.shrink (e : ι1.take n = ι) : ∀ {d : D} {v : V}, below n d = true → Rep cf ι1 H d v → Rep cf ι H d v
  | .non, v, b, r => by unfold Rep at r ⊢; exact r
  | .bl _, v, b, r => by unfold Rep at r ⊢; exact r
  | .int _, v, b, r => by unfold Rep at r ⊢; exact r
  | .str _, v, b, r => by unfold Rep at r ⊢; exact r
  | .cls _, v, b, r => by unfold Rep at r ⊢; exact r
  | .tup ds, v, b, r => by
    unfold Rep at r ⊢
    obtain ⟨a, vs, h1, h2, h3⟩ := r
    exact ⟨a, vs, h1, h2, Reps.shrink e (by unfold below at b; exact b) h3⟩
  | .lst ds, v, b, r => by
    unfold Rep at r ⊢
    obtain ⟨a, vs, h1, h2, h3, h4⟩ := r
    exact ⟨a, vs, h1, h2, ⟨fun z => h3.1 (by rw [← e] at z; exact List.mem_of_mem_take z), h3.2⟩, Reps.shrink e (by unfold below at b; exact b) h4⟩
  | .scr ds, v, b, r => by
    unfold Rep at r ⊢
    obtain ⟨a, vs, h1, h2, h3⟩ := r
    exact ⟨a, vs, h1, h2.imp (fun z => ⟨z.1, fun q => z.2.1 (by rw [← e] at q; exact List.mem_of_mem_take q), z.2.2⟩) id, Reps.shrink e (by unfold below at b; exact b) h3⟩
  | .dct ks ds, v, b, r => by
    unfold Rep at r ⊢
    obtain ⟨a, kvs, h1, h2, h3, h4, h5⟩ := r
    exact ⟨a, kvs, h1, h2, ⟨fun z => h3.1 (by rw [← e] at z; exact List.mem_of_mem_take z), h3.2⟩, h4, Reps.shrink e (by unfold below at b; exact b) h5⟩
  | .ref l, v, b, r => by
    unfold Rep at r ⊢
    obtain ⟨a, h1, h2⟩ := r
    have hl : l < n := by unfold below at b; exact of_decide_eq_true b
    exact ⟨a, h1, by rw [← e, List.getElem?_take_of_lt hl]; exact h2⟩
theorem Reps.shrink (e : ι1.take n = ι) : ∀ {ds : List D} {vs : List V}, belows n ds = true → Reps cf ι1 H ds vs → Reps cf ι H ds vs
  | [], vs, b, r => by unfold Reps at r ⊢; exact r
  | d :: ds, vs, b, r => by
    unfold Reps at r ⊢
    unfold belows at b
    rw [Bool.and_eq_true] at b
    obtain ⟨v, w, h1, h2, h3⟩ := r
    exact ⟨v, w, h1, Rep.shrink e b.1 h2, Reps.shrink e b.2 h3⟩
end
theorem RepO.shrink (e : ι1.take n = ι) {o : O} {a : Addr} (b : belowO n o = true) (r : RepO cf ι1 H o a) : RepO cf ι H o a := by
  cases o with
  | lst ds => obtain ⟨vs, h1, h2⟩ := r; exact ⟨vs, h1, Reps.shrink e (by unfold belowO at b; exact b) h2⟩
  | dct ks ds => obtain ⟨kvs, h1, h2, h3⟩ := r; exact ⟨kvs, h1, h2, Reps.shrink e (by unfold belowO at b; exact b) h3⟩
  | ins c fs => obtain ⟨dx, fs', h1, h2, h3⟩ := r; exact ⟨dx, fs', h1, h2, Reps.shrink e (by unfold belowO at b; exact b) h3⟩
theorem Sim.shrink (h : Sim cf ι1 H S1) (e : ι1.take n = ι) (b : okS n S1 = true) (hn : n ≤ S1.length) : Sim cf ι H (S1.take n) := by
  refine ⟨by rw [← e, List.length_take, List.length_take, h.len], by rw [← e]; exact h.nd.sublist (List.take_sublist _ _), fun l o a e1 e2 => ?_, h.sz, fun a ha hm => h.rdis a ha (by rw [← e] at hm; exact List.mem_of_mem_take hm), h.rat⟩
  have hl : l < n := by
    have := (List.getElem?_eq_some_iff.mp e1).1
    rw [List.length_take] at this
    omega
  have ho : belowO n o = true := by
    unfold okS at b
    exact (List.all_eq_true.mp b) o (List.mem_of_getElem? e1)
  rw [List.getElem?_take_of_lt hl] at e1
  rw [← e, List.getElem?_take_of_lt hl] at e2
  exact RepO.shrink e ho (h.obj l o a e1 e2)
mutual
theorem Rep.deref (h : Sim cf ι1 H S1) (e : ι1.take n = ι) (hn : ι.length = n) : ∀ {d : D} {v : V}, below n (derefD n S1 d) = true → Rep cf ι1 H d v → Rep cf ι H (derefD n S1 d) v
  | .non, v, b, r => Rep.shrink e b r
  | .bl _, v, b, r => Rep.shrink e b r
  | .int _, v, b, r => Rep.shrink e b r
  | .str _, v, b, r => Rep.shrink e b r
  | .cls _, v, b, r => Rep.shrink e b r
  | .lst ds, v, b, r => Rep.shrink e b r
  | .scr ds, v, b, r => Rep.shrink e b r
  | .dct ks ds, v, b, r => Rep.shrink e b r
  | .tup ds, v, b, r => by
    unfold derefD at b ⊢
    unfold Rep at r ⊢
    obtain ⟨a, vs, h1, h2, h3⟩ := r
    exact ⟨a, vs, h1, h2, Reps.deref h e hn (by unfold below at b; exact b) h3⟩
  | .ref l, v, b, r => by
    unfold derefD at b ⊢
    by_cases hl : l < n
    · rw [if_pos hl] at b ⊢
      exact Rep.shrink e b r
    · rw [if_neg hl] at b ⊢
      unfold Rep at r
      obtain ⟨a, rfl, hla⟩ := r
      have out : a ∉ ι := fun hm => by
        obtain ⟨j, hj, q⟩ := List.getElem_of_mem hm
        have q1 : ι1[j]? = some a := by
          have : (ι1.take n)[j]? = some a := by rw [e, List.getElem?_eq_getElem hj, q]
          rwa [List.getElem?_take_of_lt (by omega)] at this
        obtain ⟨p1, p2⟩ := List.getElem?_eq_some_iff.mp q1
        obtain ⟨p3, p4⟩ := List.getElem?_eq_some_iff.mp hla
        have := (List.getElem_inj h.nd).mp (p2.trans p4.symm)
        omega
      have outR : a ∉ cf.R := fun hm => h.rdis a hm (List.mem_of_getElem? hla)
      cases ho : S1[l]? with
      | none => rw [ho] at b; simp only at b; unfold below at b; exact absurd (of_decide_eq_true b) hl
      | some ob =>
        cases ob with
        | lst ds =>
          rw [ho] at b
          simp only at b ⊢
          obtain ⟨vs, h1, h2⟩ := h.obj l _ a ho hla
          unfold Rep
          exact ⟨a, vs, rfl, h1, ⟨out, outR⟩, Reps.shrink e (by unfold below at b; exact b) h2⟩
        | dct ks ds =>
          rw [ho] at b
          simp only at b ⊢
          obtain ⟨kvs, h1, h2, h3⟩ := h.obj l _ a ho hla
          unfold Rep
          exact ⟨a, kvs, rfl, .inl h1, ⟨out, outR⟩, h2, Reps.shrink e (by unfold below at b; exact b) h3⟩
        | ins c fs => rw [ho] at b; simp only at b; unfold below at b; exact absurd (of_decide_eq_true b) hl
theorem Reps.deref (h : Sim cf ι1 H S1) (e : ι1.take n = ι) (hn : ι.length = n) : ∀ {ds : List D} {vs : List V}, belows n (derefs n S1 ds) = true → Reps cf ι1 H ds vs → Reps cf ι H (derefs n S1 ds) vs
  | [], vs, b, r => by unfold derefs; unfold Reps at r ⊢; exact r
  | d :: ds, vs, b, r => by
    unfold derefs at b ⊢
    unfold belows at b
    rw [Bool.and_eq_true] at b
    unfold Reps at r ⊢
    obtain ⟨v, w, h1, h2, h3⟩ := r
    exact ⟨v, w, h1, Rep.deref h e hn b.1 h2, Reps.deref h e hn b.2 h3⟩
end
theorem Ext.shrink (e : Ext ι H ι1 H1) : Ext ι H ι H1 := ⟨⟨[], by simp⟩, fun a u h n => ⟨(e.keep a u h n).1, n⟩, e.lst, e.tup⟩
theorem Ext.take (e : Ext ι H ι1 H1) : ι1.take ι.length = ι := by
  obtain ⟨t, rfl⟩ := e.pre
  simp
/-- no reference leads out of the store -/
def Wf (S : List O) : Prop := okS S.length S = true
mutual
theorem below_of : ∀ {d : D} {v : V}, Rep cf ι H d v → below ι.length d = true
  | .non, v, r => rfl
  | .bl _, v, r => rfl
  | .int _, v, r => rfl
  | .str _, v, r => rfl
  | .cls _, v, r => rfl
  | .tup ds, v, r => by unfold Rep at r; obtain ⟨a, vs, h1, h2, h3⟩ := r; unfold below; exact belows_of h3
  | .lst ds, v, r => by unfold Rep at r; obtain ⟨a, vs, h1, h2, h3, h4⟩ := r; unfold below; exact belows_of h4
  | .scr ds, v, r => by unfold Rep at r; obtain ⟨a, vs, h1, h2, h3⟩ := r; unfold below; exact belows_of h3
  | .dct ks ds, v, r => by unfold Rep at r; obtain ⟨a, kvs, h1, h2, h3, h4, h5⟩ := r; unfold below; exact belows_of h5
  | .ref l, v, r => by unfold Rep at r; obtain ⟨a, h1, h2⟩ := r; unfold below; exact decide_eq_true (List.getElem?_eq_some_iff.mp h2).1
theorem belows_of : ∀ {ds : List D} {vs : List V}, Reps cf ι H ds vs → belows ι.length ds = true
  | [], vs, r => rfl
  | d :: ds, vs, r => by
    unfold Reps at r
    obtain ⟨v, w, h1, h2, h3⟩ := r
    unfold belows
    rw [below_of h2, belows_of h3]
    rfl
end
theorem Sim.wf (h : Sim cf ι H S) : Wf S := by
  unfold Wf okS
  rw [List.take_length]
  refine List.all_eq_true.mpr fun o ho => ?_
  obtain ⟨l, hl, e⟩ := List.getElem_of_mem ho
  have h1 : S[l]? = some o := by rw [List.getElem?_eq_getElem hl, e]
  have h2 : ι[l]? = some (ι[l]'(by rw [h.len]; exact hl)) := List.getElem?_eq_getElem _
  have r := h.obj l o _ h1 h2
  rw [← h.len]
  cases o with
  | lst ds => obtain ⟨vs, _, q⟩ := r; exact belows_of q
  | dct ks ds => obtain ⟨kvs, _, _, q⟩ := r; exact belows_of q
  | ins c fs => obtain ⟨dx, fs', _, _, q⟩ := r; exact belows_of q
end

/-! ### a def's promise -/
def spOf (cf : Cf) (n : Nat) (φ : Fn) : Sp := fun vs H Q E => vs.length = n ∧ ∃ R ι ds S, Reps (cf.on R) ι H ds vs ∧ Sim (cf.on R) ι H S ∧ KR (cf.on R) ι H (fun c d H' => E c d H') (fun ι' H' d _ => ∀ v, Rep (cf.on R) ι' H' d v → Q v H') (φ ds S)
def startD (N : Nat) (ds : List D) : DEnv := ds.map some ++ List.replicate (N - ds.length) none
theorem start_rep {cf : Cf} {ι : List Addr} {H : Hp} {ds : List D} {vs : List V} {N : List Str} (r : Reps cf ι H ds vs) : EnvR cf ι H (startD N.length ds) (L2.start N vs) := by
  have hl := r.length
  refine ⟨by unfold startD L2.start; simp [hl], fun i d q => ?_⟩
  unfold startD at q
  have hi : i < ds.length := by
    by_cases hi : i < ds.length
    · exact hi
    · rw [List.getElem?_append_right (by simp; omega)] at q
      rw [List.getElem?_replicate] at q
      split at q <;> cases q
  rw [List.getElem?_append_left (by simpa using hi), List.getElem?_map] at q
  have q2 : ds[i]? = some d := by
    cases h : ds[i]? with
    | none => rw [h] at q; cases q
    | some e => rw [h] at q; cases q; rfl
  obtain ⟨v, h1, h2⟩ := r.get q2
  refine ⟨v, ?_, h2⟩
  unfold L2.start
  rw [List.getElem?_append_left (by simpa [hl] using hi), List.getElem?_map, h1]
  rfl
section
variable {P : Program} {w : World} {K : PySem.W.Frag} {mg : Str → Option Value} {base : Heap} {cf : Cf}
/-- the body's walk, for every way out -/
def Walked (P : Program) (w : World) (K : PySem.W.Frag) (mg : Str → Option Value) (base : Heap) (cf : Cf) (k : Nat) (f : Addr) (qual : Str) (st : Stmt) (N : List Str) (m : SD) : Prop :=
  ∀ (cdv : Value) (A : Around) (outer : List Env) (s : Shared) (H : Hp) (E : XK), Room k (A.deeper (envOfC qual (defScope st) s.heap.objs.size f cdv)) →
    PSs (cxOf (L2.CX P w) P w K mg base N qual (defScope st) f cdv A outer s H E) (defBody st) (tS cf (fun c d _ H => E c d H) m)
theorem fn_gc {x qual : Str} {st : Stmt} {f : Addr} {fd : FuncData} {N ps : List Str} {k : Nat} {φ : Fn} {m : SD} (F : Fun K x qual st f fd) (Sc : FnScope N ps (defScope st)) (hw : Walked P w K mg base cf k f qual st N m)
    (hφ : ∀ ds S, Wf S → belows S.length ds = true → ds.length = ps.length → φ ds S ≠ .no → fin S.length (m (startD N.length ds) S) = φ ds S) : FnOk P w K mg base (L2.CX P w) (k + 1) f fd ps (spOf cf ps.length φ) := by
  refine F.okX Sc (fun vs H Q E h => h.1) (fun cdv A outer s H vs Q E hr h => ⟨_, hw cdv A outer s H E hr, ?_⟩)
  obtain ⟨hl, R, ι, ds, S, r, sim, kr⟩ := h
  refine ⟨R, ι, startD N.length ds, S, start_rep r, sim, ?_⟩
  have hne : φ ds S ≠ .no := fun z => by rw [z] at kr; exact kr
  have e := hφ ds S sim.wf (by rw [← sim.len]; exact belows_of r) (by rw [← r.length]; exact hl) hne
  rw [← e] at kr
  cases hm : m (startD N.length ds) S with
  | no => rw [hm] at kr; exact kr
  | nx env S1 =>
    rw [hm] at kr
    simp only [fin] at kr
    split at kr
    · rename_i hb
      intro ι1 H1 σ' e1 s1 _
      have et := e1.take
      rw [sim.len] at et
      have hle : S.length ≤ S1.length := by
        rw [← sim.len, ← s1.len]
        obtain ⟨t, z⟩ := e1.pre
        rw [z, List.length_append]
        omega
      exact kr ι H1 e1.shrink (s1.shrink et hb hle) _ rep_non
    · exact kr.elim
  | rt d S1 =>
    rw [hm] at kr
    simp only [fin] at kr
    split at kr
    · rename_i hb
      rw [Bool.and_eq_true] at hb
      intro ι1 H1 v e1 s1 rv
      have et := e1.take
      rw [sim.len] at et
      have hle : S.length ≤ S1.length := by
        rw [← sim.len, ← s1.len]
        obtain ⟨t, z⟩ := e1.pre
        rw [z, List.length_append]
        omega
      exact kr ι H1 e1.shrink (s1.shrink et hb.2 hle) v (Rep.deref s1 et sim.len hb.1 rv)
    · exact kr.elim
  | ex c fs env S1 =>
    rw [hm] at kr
    simp only [fin] at kr
    split at kr
    · rename_i hb
      rw [Bool.and_eq_true] at hb
      intro ι1 H1 σ' dd e1 s1 _ rx
      have et := e1.take
      rw [sim.len] at et
      have hle : S.length ≤ S1.length := by
        rw [← sim.len, ← s1.len]
        obtain ⟨t, z⟩ := e1.pre
        rw [z, List.length_append]
        omega
      refine kr ι H1 dd e1.shrink (s1.shrink et hb.2 hle) ?_
      rcases rx with rx | ⟨a, fs', h1, h2, h3, h4, h5⟩
      · exact .inl rx
      · exact .inr ⟨a, fs', h1, h2, fun z => h3 (by rw [← et] at z; exact List.mem_of_mem_take z), h4, Reps.shrink et hb.1 h5⟩
    · exact kr.elim
theorem fn_keep {x qual : Str} {st : Stmt} {f : Addr} {fd : FuncData} {N ps : List Str} {k : Nat} {φ : Fn} {m : SD} (F : Fun K x qual st f fd) (Sc : FnScope N ps (defScope st)) (hw : Walked P w K mg base cf k f qual st N m)
    (hφ : ∀ ds S, Wf S → belows S.length ds = true → ds.length = ps.length → φ ds S ≠ .no → finK (m (startD N.length ds) S) = φ ds S) : FnOk P w K mg base (L2.CX P w) (k + 1) f fd ps (spOf cf ps.length φ) := by
  refine F.okX Sc (fun vs H Q E h => h.1) (fun cdv A outer s H vs Q E hr h => ⟨_, hw cdv A outer s H E hr, ?_⟩)
  obtain ⟨hl, R, ι, ds, S, r, sim, kr⟩ := h
  refine ⟨R, ι, startD N.length ds, S, start_rep r, sim, ?_⟩
  have hne : φ ds S ≠ .no := fun z => by rw [z] at kr; exact kr
  have e := hφ ds S sim.wf (by rw [← sim.len]; exact belows_of r) (by rw [← r.length]; exact hl) hne
  rw [← e] at kr
  cases hm : m (startD N.length ds) S with
  | no => rw [hm] at kr; exact kr
  | nx env S1 => rw [hm] at kr; exact fun ι1 H1 σ' e1 s1 _ => kr ι1 H1 e1 s1 _ rep_non
  | rt d S1 => rw [hm] at kr; exact fun ι1 H1 v e1 s1 rv => kr ι1 H1 e1 s1 v rv
  | ex c fs env S1 => rw [hm] at kr; exact fun ι1 H1 σ' dd e1 s1 _ rx => kr ι1 H1 dd e1 s1 rx
/-- a def that may be called by its name -/
structure Cal (P : Program) (w : World) (K : PySem.W.Frag) (mg : Str → Option Value) (base : Heap) (cf : Cf) (k : Nat) (x : Str) (n : Nat) (φ : Fn) : Prop where
  ex : ∃ f fd ps, ps.length = n ∧ FnOk P w K mg base (L2.CX P w) k f fd ps (spOf cf n φ) ∧ mg x = some (.ref f) ∧ PySem.W.keepIn K (.ref f) = true ∧ Binds K fd ps []
end
section
variable {X : Cx} {cf : Cf} {W : L2.WX}
def Mcall (n : Nat) (φ : Fn) (m : EDs) : ED := fun env S => (m env S).bind fun ds S => if ds.length = n then φ ds S else .no
theorem e_call {x : Str} {e : Expr} {es : List Expr} {k j n : Nat} {φ : Fn} {m : EDs} {p pos : Pos} (c : Cal X.prog X.w X.K X.mg X.base cf k x n φ) (hr : Room j X.A) (tk : Takes X W) (ha : PA X (e :: es) (tA cf W m)) (hk : k ≤ j := by decide) (hg : Gl X x := by rfl)
    (hdb : (x == ("__debug__" : Str)) = false := by decide) (he : starEach (e :: es) X.env = (false, eval e X.env) :: starEach es X.env := by rfl) (hpl : (backTo pos (starEach es X.env)).any (·.1) = false := by rfl) :
    PE X (.Call (.Name x p) (e :: es) [] pos) (tE cf W (Mcall n φ m)) := by
  obtain ⟨f, fd, ps, hps, F, hm, hkp, hb⟩ := c.ex
  refine (pe_callS F (hr.mono hk) hg hm hkp hb (fun σ => passAt tk σ) ha hdb he hpl).wk fun σ H Q ⟨R, ι, env, S, he, hs, kk⟩ => ?_
  refine ⟨R, ι, env, S, he, hs, (KR.bind kk).mono fun ι1 H1 ds S1 e1 s1 k1 vs rv => ?_⟩
  split at k1
  · rename_i hn
    exact ⟨by rw [rv.length]; exact hn, R, ι1, ds, S1, rv, s1, k1⟩
  · exact k1.elim

/-! ### methods that change a list -/
theorem ref_tyL {ι : List Addr} {H : Hp} {K : PySem.W.Frag} {a : Addr} {vs : List V} (h : H a = some (.lst vs)) : L2.tyV K "list" (.ref a) H := .inl ⟨rfl, vs, SqL.of h⟩
/-- a list's own method with one argument: the receiver is looked at ahead of the argument -/
def Mlm1 (g : List D → D → Option (D × List D)) (o e : ED) : ED := fun env S => (o env S).bind fun x S => match x with
  | .ref l => (match S[l]? with
    | some (.lst _) => (e env S).bind fun y S => (match S[l]? with
      | some (.lst ds) => (match g ds y with
        | some (d, ds') => .ok d (S.set l (.lst ds'))
        | none => .no)
      | _ => .no)
    | _ => .no)
  | _ => .no
def appG : List D → D → Option (D × List D) := fun ds y => if ds.length < sizeLine then some (.non, ds ++ [y]) else none
theorem lm1_in {σ : L2.St} {H : Hp} {rM : V → List V → Hp → VK → Prop} {g : List D → D → Option (D × List D)} {mo me : ED} {Q : VK}
    (hM : ∀ R ι H S (Q : VK) a l ds y w d ds', Sim (cf.on R) ι H S → ι[l]? = some a → S[l]? = some (.lst ds) → Rep (cf.on R) ι H y w → g ds y = some (d, ds') →
      (∀ ι' H', Ext ι H ι' H' → Sim (cf.on R) ι' H' (S.set l (.lst ds')) → ∀ v, Rep (cf.on R) ι' H' d v → Q v H') → rM (.ref a) [w] H Q)
    (h : tE cf W (Mlm1 g mo me) σ H Q) : tE cf W mo σ H (fun v H1 => L2.tyV X.K "list" v H1 ∧ tE cf W me σ H1 (fun y H2 => rM v [y] H2 Q)) := by
  obtain ⟨R, ι, env, S, he, hs, k⟩ := h
  refine ⟨R, ι, env, S, he, hs, (KR.bind k).mono fun ι1 H1 x S1 e1 s1 k1 v rv => ?_⟩
  cases x with
  | ref l =>
    dsimp only at k1
    split at k1
    · rename_i ds0 hl0
      unfold Rep at rv
      obtain ⟨a, rfl, hla⟩ := rv
      obtain ⟨vs0, h01, h02⟩ := s1.obj l _ a hl0 hla
      refine ⟨ref_tyL (ι := ι1) h01, R, ι1, env, S1, he.mono e1, s1, (KR.bind k1).mono fun ι2 H2 y S2 e2 s2 k2 w rw' => ?_⟩
      have hla2 : ι2[l]? = some a := by
        obtain ⟨t, z⟩ := e2.pre
        rw [z, List.getElem?_append_left (List.getElem?_eq_some_iff.mp hla).1]
        exact hla
      split at k2
      · rename_i ds hl
        split at k2
        · rename_i d ds' hg
          exact hM R ι2 H2 S2 Q a l ds y w d ds' s2 hla2 hl rw' hg k2
        · exact k2.elim
      · exact k2.elim
    · exact k1.elim
  | _ => exact k1.elim
theorem app_hM : ∀ R ι H S (Q : VK) a l ds y w d ds', Sim (cf.on R) ι H S → ι[l]? = some a → S[l]? = some (.lst ds) → Rep (cf.on R) ι H y w → appG ds y = some (d, ds') →
      (∀ ι' H', Ext ι H ι' H' → Sim (cf.on R) ι' H' (S.set l (.lst ds')) → ∀ v, Rep (cf.on R) ι' H' d v → Q v H') → rAppend (.ref a) [w] H Q := by
  intro R ι H S Q a l ds y w d ds' s2 hla hl rw' hg k2
  unfold appG at hg
  split at hg
  · rename_i hz
    cases hg
    obtain ⟨vs, h1, h2⟩ := s2.obj l _ a hl hla
    have ew : Ext ι H ι (upd H a (.lst (vs ++ [w]))) := Ext.write (List.mem_of_getElem? hla) (nt_lst h1)
    have hz2 : vs.length < sizeLine := by rw [h2.length]; exact hz
    refine ⟨a, vs, w, rfl, rfl, h1, hz2, k2 ι _ ew (s2.write hla (nt_lst h1) (szo_lst (by rw [List.length_append]; exact hz2)) ⟨_, upd_same, ?_⟩) _ rep_non⟩
    exact (Reps.append h2 (.cons rw' .nil)).mono ew
  · cases hg
theorem e_app {o e : Expr} {mo me : ED} {apos cpos : Pos} (ho : PE X o (tE cf W mo)) (he : PE X e (tE cf W me)) (hbase : attributeBase o "append" X.env (eval o X.env) = eval o X.env := by rfl)
    (hfew : ((backTo cpos (starEach [e] X.env)).all (fun x => !x.1) && (backToKw cpos (keywordEach [] X.env)).all (fun x => x.1.isSome) && decide ([e].length + ([] : List Keyword).length + (if ([] : List Keyword).isEmpty then 0 else 1) < 30)) = true := by rfl)
    (hline : (apos.endLine == cpos.line) = true := by rfl) (hs : starEach [e] X.env = (false, eval e X.env) :: starEach [] X.env := by rfl) (hplain : (backTo cpos (starEach [] X.env)).any (·.1) = false := by rfl) :
    PE X (.Call (.Attribute o "append" apos) [e] [] cpos) (tE cf W (Mlm1 appG mo me)) := (pe_bm PySem.F.plainAttrs_list PySem.F.slot_list_append PySem.F.type_list_append mt_append ho (pa_cons he pa_nil hs) hbase hfew hline hs hplain).wk fun σ H Q h => lm1_in app_hM h
def popG : List D → D → Option (D × List D) := fun ds y => match y with
  | .int i => if -(2 ^ 63) ≤ i ∧ i < 2 ^ 63 then (match seqIndex? i ds.length with
    | some k => (match ds[k]? with | some d => some (d, ds.eraseIdx k) | none => none)
    | none => none) else none
  | _ => none
theorem Reps.eraseIdx {cf : Cf} {ι : List Addr} {H : Hp} : ∀ {ds : List D} {vs : List V} (k : Nat), Reps cf ι H ds vs → Reps cf ι H (ds.eraseIdx k) (vs.eraseIdx k)
  | [], vs, k, r => by unfold Reps at r; subst r; exact .nil
  | d :: ds, vs, 0, r => by unfold Reps at r; obtain ⟨v, w, h1, h2, h3⟩ := r; subst h1; exact h3
  | d :: ds, vs, k + 1, r => by unfold Reps at r; obtain ⟨v, w, h1, h2, h3⟩ := r; subst h1; exact .cons h2 (Reps.eraseIdx k h3)
theorem pop_hM : ∀ R ι H S (Q : VK) a l ds y w d ds', Sim (cf.on R) ι H S → ι[l]? = some a → S[l]? = some (.lst ds) → Rep (cf.on R) ι H y w → popG ds y = some (d, ds') →
      (∀ ι' H', Ext ι H ι' H' → Sim (cf.on R) ι' H' (S.set l (.lst ds')) → ∀ v, Rep (cf.on R) ι' H' d v → Q v H') → rPopAt (.ref a) [w] H Q := by
  intro R ι H S Q a l ds y w d ds' s2 hla hl rw' hg k2
  unfold popG at hg
  split at hg
  · rename_i i
    unfold Rep at rw'
    subst rw'
    split at hg
    · rename_i hi
      split at hg
      · rename_i k hk
        split at hg
        · rename_i d0 hd
          cases hg
          obtain ⟨vs, h1, h2⟩ := s2.obj l _ a hl hla
          obtain ⟨v, hv, rv⟩ := h2.get hd
          have ew : Ext ι H ι (upd H a (.lst (vs.eraseIdx k))) := Ext.write (List.mem_of_getElem? hla) (nt_lst h1)
          have hsz := s2.sz a vs (.inl (.inl h1))
          refine ⟨a, vs, i, k, v, rfl, rfl, h1, hi.1, hi.2, by rw [h2.length]; exact hk, hv, k2 ι _ ew (s2.write hla (nt_lst h1) (szo_lst ?_) ⟨_, upd_same, ?_⟩) _ (rv.mono ew)⟩
          · have := List.length_eraseIdx_le vs k
            omega
          · exact (Reps.eraseIdx k h2).mono ew
        · cases hg
      · cases hg
    · cases hg
  · cases hg
theorem e_pop {o e : Expr} {mo me : ED} {apos cpos : Pos} (ho : PE X o (tE cf W mo)) (he : PE X e (tE cf W me)) (hbase : attributeBase o "pop" X.env (eval o X.env) = eval o X.env := by rfl)
    (hfew : ((backTo cpos (starEach [e] X.env)).all (fun x => !x.1) && (backToKw cpos (keywordEach [] X.env)).all (fun x => x.1.isSome) && decide ([e].length + ([] : List Keyword).length + (if ([] : List Keyword).isEmpty then 0 else 1) < 30)) = true := by rfl)
    (hline : (apos.endLine == cpos.line) = true := by rfl) (hs : starEach [e] X.env = (false, eval e X.env) :: starEach [] X.env := by rfl) (hplain : (backTo cpos (starEach [] X.env)).any (·.1) = false := by rfl) :
    PE X (.Call (.Attribute o "pop" apos) [e] [] cpos) (tE cf W (Mlm1 popG mo me)) := (pe_bm PySem.F.plainAttrs_list PySem.F.slot_list_pop PySem.F.type_list_pop mt_popAt ho (pa_cons he pa_nil hs) hbase hfew hline hs hplain).wk fun σ H Q h => lm1_in pop_hM h
end
end PB

set_option Elab.async false
set_option linter.all false
set_option maxRecDepth 100000
set_option maxHeartbeats 4000000

namespace PB
open PySem PySem.Spec PyProof.Rows L2
section
variable {X : Cx} {cf : Cf} {W : L2.WX}

/-! ### methods of texts with one argument -/
/-- the receiver must be a text ahead of the argument -/
def Mm1 (g : Str → D → List O → Option D) (o e : ED) : ED := fun env S => (o env S).bind fun x S => match x with
  | .str z => (e env S).bind fun y S => optRs (g z y S) S
  | _ => .no
def Nm1 (g : Str → D → List O → Option (List D)) (o e : ED) : EDs := fun env S => (o env S).bind fun x S => match x with
  | .str z => (e env S).bind fun y S => optRl (g z y S) S
  | _ => .no
/-- the texts of a list or tuple -/
def seqStrs (S : List O) (d : D) : Option (List Str) := (seqD S d).bind strsOf
def joinG : Str → D → List O → Option D := fun z y S => (seqStrs S y).bind fun ys => if (ys.map (·.length)).sum + ys.length * z.length ≤ 16777216 then some (.str (Txt.join z ys)) else none
theorem e_join (hK : X.K = cf.K) {o e : Expr} {mo me : ED} {apos pos : Pos} (ho : PE X o (tE cf W mo)) (he : PE X e (tE cf W me)) (hs : starEach [e] X.env = [(false, eval e X.env)] := by rfl) (hbase : attributeBase o "join" X.env (eval o X.env) = eval o X.env := by rfl) (hline : (apos.endLine == pos.line) = true := by rfl) :
    PE X (.Call (.Attribute o "join" apos) [e] [] pos) (tE cf W (Mm1 joinG mo me)) := (pe_join ho he hs hbase hline).wk fun σ H Q ⟨R, ι, env, S, he, hs, k⟩ => by
  refine ⟨R, ι, env, S, he, hs, (KR.bind k).mono fun ι1 H1 x S1 e1 s1 k1 v rv => ?_⟩
  split at k1
  · rename_i z
    unfold Rep at rv
    subst rv
    refine ⟨⟨z, rfl⟩, R, ι1, env, S1, he.mono e1, s1, (KR.bind k1).mono fun ι2 H2 y S2 e2 s2 k2 w rw' => ?_⟩
    unfold joinG seqStrs at k2
    cases hg : (seqD S2 y).bind strsOf with
    | none => rw [hg] at k2; exact k2.elim
    | some ys =>
      rw [hg] at k2
      simp only [Option.bind_some] at k2
      split at k2
      · rename_i hz
        obtain ⟨ds, h1, h2⟩ := Option.bind_eq_some_iff.mp hg
        obtain ⟨a, vs, rfl, h3, h4, _⟩ := seqD_at s2 h1 rw'
        have hv := reps_strs h2 h4
        subst hv
        exact ⟨z, a, ys, rfl, rfl, by rw [hK]; exact h3, hz, k2 ι2 H2 .refl s2 _ rep_str⟩
      · exact k2.elim
  · exact k1.elim
def splitG : Str → D → List O → Option (List D) := fun z y _ => match y with
  | .str b => if (b.length == 0) = false ∧ z.length + 2 ≤ 16777216 ∧ (Txt.split z b).length ≤ 16777216 then some ((Txt.split z b).map .str) else none
  | _ => none
theorem n_split {o e : Expr} {mo me : ED} {apos pos : Pos} (ho : PE X o (tE cf W mo)) (he : PE X e (tE cf W me)) (hs : starEach [e] X.env = [(false, eval e X.env)] := by rfl) (hbase : attributeBase o "split" X.env (eval o X.env) = eval o X.env := by rfl) (hline : (apos.endLine == pos.line) = true := by rfl) :
    PE X (.Call (.Attribute o "split" apos) [e] [] pos) (tN cf W (Nm1 splitG mo me)) := (pe_split ho he hs hbase hline).wk fun σ H Q ⟨R, ι, env, S, he, hs, k⟩ => by
  refine ⟨R, ι, env, S, he, hs, (KR.bind k).mono fun ι1 H1 x S1 e1 s1 k1 v rv => ?_⟩
  split at k1
  · rename_i z
    unfold Rep at rv
    subst rv
    refine ⟨⟨z, rfl⟩, R, ι1, env, S1, he.mono e1, s1, (KR.bind k1).mono fun ι2 H2 y S2 e2 s2 k2 w rw' => ?_⟩
    unfold splitG at k2
    split at k2
    · rename_i b
      unfold Rep at rw'
      subst rw'
      split at k2
      · rename_i hz
        exact ⟨z, b, rfl, rfl, hz.1, hz.2.1, fun t ht => k2 ι2 H2 .refl s2 _ t (strs_reps _) (by rw [List.length_map]; exact hz.2.2) ht⟩
      · exact k2.elim
    · exact k2.elim
  · exact k1.elim

/-! ### f-strings -/
def fmtG (d : D) : Option Str := match d with
  | .str y => if y.length ≤ 16777216 then some y else none
  | .int i => if i.natAbs < 2 ^ 1900 then some (toString i) else none
  | _ => none
/-- the parts' texts -/
def Mjs : List ED → Str → DEnv → List O → Rs Str
  | [], acc, _, S => .ok acc S
  | m :: ms, acc, env, S => (m env S).bind fun d S => match d with
    | .str y => if (acc ++ y).length ≤ sizeLine then Mjs ms (acc ++ y) env S else .no
    | _ => .no
def Mfs (ms : List ED) : ED := fun env S => (Mjs ms Str.empty env S).bind fun s S => .ok (.str s) S
def Mfmt (m : ED) : ED := fun env S => (m env S).bind fun d S => optRs ((fmtG d).map .str) S
theorem e_fmt {e : Expr} {m : ED} {pos : Pos} (he : PE X e (tE cf W m)) : PE X (.FormattedValue e (-1) none pos) (tE cf W (Mfmt m)) := (pe_fmt he).wk fun σ H Q ⟨R, ι, env, S, he, hs, k⟩ => by
  refine ⟨R, ι, env, S, he, hs, (KR.bind k).mono fun ι1 H1 x S1 e1 s1 k1 v rv => ?_⟩
  unfold fmtG at k1
  split at k1
  · rename_i y
    unfold Rep at rv
    subst rv
    split at k1
    · rename_i hz
      exact .inl ⟨y, rfl, hz, k1 ι1 H1 .refl s1 _ rep_str⟩
    · exact k1.elim
  · rename_i i
    unfold Rep at rv
    subst rv
    split at k1
    · rename_i hz
      exact .inr ⟨i, rfl, Nat.lt_trans (PySem.Flt.log2_lt_of (by decide) hz) (by decide), k1 ι1 H1 .refl s1 _ rep_str⟩
    · exact k1.elim
  · exact k1.elim
inductive PJm (X : Cx) (cf : Cf) (W : L2.WX) : List Expr → List ED → Prop where
  | nil : PJm X cf W [] []
  | cons {e : Expr} {m : ED} {es : List Expr} {ms : List ED} (h : PE X e (tE cf W m)) (r : PJm X cf W es ms) : PJm X cf W (e :: es) (m :: ms)
theorem PJm.pj {es : List Expr} {ms : List ED} (h : PJm X cf W es ms) : PJ X es (ms.map (tE cf W)) := by
  induction h with
  | nil => exact .nil
  | cons h r ih => exact .cons h ih
theorem js_imp : ∀ (ms : List ED) (acc : Str) (R : List Addr) (ι : List Addr) (env : DEnv) (S : List O) (σ : L2.St) (H : Hp) (Q : Str → Hp → Prop), EnvR (cf.on R) ι H env σ → Sim (cf.on R) ι H S →
    KR (cf.on R) ι H (fun c d H' => W c d σ H') (fun ι' H' s _ => Q s H') (Mjs ms acc env S) → tJs (ms.map (tE cf W)) acc σ H Q
  | [], acc, R, ι, env, S, σ, H, Q, he, hs, k => k ι H .refl hs
  | m :: ms, acc, R, ι, env, S, σ, H, Q, he, hs, k => by
    refine ⟨R, ι, env, S, he, hs, (KR.bind k).mono fun ι1 H1 x S1 e1 s1 k1 v rv => ?_⟩
    split at k1
    · rename_i y
      unfold Rep at rv
      split at k1
      · rename_i hz
        exact ⟨y, rv, hz, js_imp ms _ R ι1 env S1 σ H1 Q (he.mono e1) s1 k1⟩
      · exact k1.elim
    · exact k1.elim
theorem e_fstr {v1 v2 : Expr} {rest : List Expr} {ms : List ED} {pos : Pos} (h : PJm X cf W (v1 :: v2 :: rest) ms) : PE X (.JoinedStr (v1 :: v2 :: rest) pos) (tE cf W (Mfs ms)) := (pe_joined h.pj).wk fun σ H Q ⟨R, ι, env, S, he, hs, k⟩ =>
  js_imp ms Str.empty R ι env S σ H _ he hs ((KR.bind k).mono fun ι1 H1 s S1 e1 s1 k1 => k1 ι1 H1 .refl s1 _ rep_str)

/-! ### isinstance -/
def tyD (S : List O) : D → Option String
  | .non => some "NoneType" | .bl _ => some "bool" | .int _ => some "int" | .str _ => some "str" | .tup _ => some "tuple" | .lst _ => some "list" | .dct _ _ => some "dict"
  | .ref l => (match S[l]? with | some (.lst _) => some "list" | some (.dct _ _) => some "dict" | _ => none)
  | _ => none
theorem tyD_at (hK : X.K = cf.K) {ι : List Addr} {H : Hp} {S : List O} (hs : Sim cf ι H S) {d : D} {v : V} {T : String} (e : tyD S d = some T) (r : Rep cf ι H d v) : TyX X.K H v (.type T) := by
  have lst : ∀ {a : Addr} {vs : List V}, Rd H a (.lst vs) → TyX X.K H (.ref a) (.type "list") := fun {a vs} h => by
    rcases h with h | ⟨o, h⟩
    · exact .base (.lst h)
    · exact .base (.frz h)
  have dct : ∀ {a : Addr} {vs : List (Key × V)}, Rd H a (.dK vs) → TyX X.K H (.ref a) (.type "dict") := fun {a vs} h => by
    rcases h with h | ⟨o, h⟩
    · exact .base (.dK h)
    · exact .fDict h
  have tup : ∀ {a : Addr} {vs : List V}, SqT X.K H a vs → TyX X.K H (.ref a) (.type "tuple") := fun {a vs} h => by
    rcases h with (h | ⟨o, h⟩) | ⟨o, its, n, hk, hc, hd, hz, r⟩
    · exact .base (.tup h)
    · exact .fTuple h
    · exact .kTuple hk hc
  cases d with
  | non => simp [tyD] at e; subst e; unfold Rep at r; subst r; exact .base .non
  | bl b => simp [tyD] at e; subst e; unfold Rep at r; subst r; exact .base (.bl _)
  | int b => simp [tyD] at e; subst e; unfold Rep at r; subst r; exact .base (.int _)
  | str b => simp [tyD] at e; subst e; unfold Rep at r; subst r; exact .base (.str _)
  | tup ds =>
    simp [tyD] at e; subst e; unfold Rep at r
    obtain ⟨a, vs, rfl, h1, _⟩ := r
    exact tup (by rw [hK]; exact h1)
  | lst ds =>
    simp [tyD] at e; subst e; unfold Rep at r
    obtain ⟨a, vs, rfl, h1, _⟩ := r
    exact lst (.inl h1)
  | dct ks ds =>
    simp [tyD] at e; subst e; unfold Rep at r
    obtain ⟨a, vs, rfl, h1, _⟩ := r
    exact dct h1
  | ref l =>
    unfold Rep at r
    obtain ⟨a, rfl, hl⟩ := r
    simp only [tyD] at e
    split at e
    · rename_i ds ho
      cases e
      obtain ⟨vs, h1, _⟩ := hs.obj l _ a ho hl
      exact lst (.inl h1)
    · rename_i ks ds ho
      cases e
      obtain ⟨vs, h1, _⟩ := hs.obj l _ a ho hl
      exact dct (.inl h1)
    · cases e
  | scr ds => simp [tyD] at e
  | cls c => simp [tyD] at e
/-- isinstance(x, T) by the built-in types -/
def isiB (T U : String) : Option Bool := kitB T U
def Misi (m : ED) (U : String) : ED := fun env S => (m env S).bind fun d S => match tyD S d with
  | some T => (match kitB T U with | some b => .ok (.bl b) S | none => .no)
  | none => .no
theorem e_isi (hK : X.K = cf.K) {e : Expr} {m : ED} {x : Str} {U : String} {p p2 pos : Pos} (he : PE X e (tE cf W m)) (hm : X.mg "isinstance" = none) (hmx : X.mg x = none) (hvx : bootBuiltins x = some (.type U)) (hv : bootBuiltins "isinstance" = some (.builtin "isinstance") := by decide +kernel)
    (hg : Gl X "isinstance" := by rfl) (hgx : Gl X x := by rfl) (hnx : x ≠ "__name__" := by decide) (hdx : (x == ("__debug__" : Str)) = false := by decide)
    (h1 : starEach [e, .Name x p2] X.env = (false, eval e X.env) :: starEach [.Name x p2] X.env := by rfl) (h2 : starEach [.Name x p2] X.env = (false, eval (.Name x p2) X.env) :: starEach [] X.env := by rfl) (hpl : (backTo pos (starEach [.Name x p2] X.env)).any (·.1) = false := by rfl) :
    PE X (.Call (.Name "isinstance" p) [e, .Name x p2] [] pos) (tE cf W (Misi m U)) :=
  (pe_callB call_isi hg hm hv (pa_cons he (pa_cons (pe_bltn hgx hmx hvx (show L2.RelV (.ty U) (.type U) from rfl) hnx hdx) pa_nil h2) h1) (by decide) (by decide) h1 hpl).wk fun σ H Q ⟨R, ι, env, S, he, hs, k⟩ => by
    refine ⟨R, ι, env, S, he, hs, (KR.bind k).mono fun ι1 H1 x S1 e1 s1 k1 v rv => ?_⟩
    split at k1
    · rename_i T hT
      split at k1
      · rename_i b hb
        exact ⟨v, .ty U, _, _, b, rfl, .ty U, tyD_at (cf := cf.on R) hK s1 hT rv, kit_ty hb, k1 ι1 H1 .refl s1 _ rep_bl⟩
      · exact k1.elim
    · exact k1.elim
/-- isinstance(x, (T, U)) -/
def Misi2 (m : ED) (U U2 : String) : ED := fun env S => (m env S).bind fun d S => match tyD S d with
  | some T => (match kitB T U with
    | some true => .ok (.bl true) S
    | some false => (match kitB T U2 with | some b => .ok (.bl b) S | none => .no)
    | none => .no)
  | none => .no
theorem kit_two {K : PySem.W.Frag} {T U U2 : String} {b b2 : Bool} (h : kitB T U = some b) (h2 : b = false → kitB T U2 = some b2) : PySem.W.kitAny K (.type T) [.type U, .type U2] = some (b || b2) := by
  refine kitAny_cons (kit_ty h) (fun e => ?_) fun e => by subst e; rfl
  subst e
  refine kitAny_cons (kit_ty (h2 rfl)) (fun e => ?_) fun e => by subst e; rfl
  subst e
  rfl
theorem e_isi2 (hK : X.K = cf.K) {e : Expr} {m : ED} {x x2 : Str} {U U2 : String} {p p2 p3 p4 pos : Pos} {n : Nat} (he : PE X e (tE cf W m)) (hm : X.mg "isinstance" = none) (hmx : X.mg x = none) (hmx2 : X.mg x2 = none) (hvx : bootBuiltins x = some (.type U)) (hvx2 : bootBuiltins x2 = some (.type U2))
    (hv : bootBuiltins "isinstance" = some (.builtin "isinstance") := by decide +kernel) (hg : Gl X "isinstance" := by rfl) (hgx : Gl X x := by rfl) (hgx2 : Gl X x2 := by rfl) (hnx : x ≠ "__name__" := by decide) (hnx2 : x2 ≠ "__name__" := by decide) (hdx : (x == ("__debug__" : Str)) = false := by decide) (hdx2 : (x2 == ("__debug__" : Str)) = false := by decide)
    (h3 : starEach [.Name x p2, .Name x2 p3] X.env = (false, eval (.Name x p2) X.env) :: starEach [.Name x2 p3] X.env := by rfl) (h4 : starEach [.Name x2 p3] X.env = (false, eval (.Name x2 p3) X.env) :: starEach [] X.env := by rfl)
    (h1 : starEach [e, .Tuple [.Name x p2, .Name x2 p3] n p4] X.env = (false, eval e X.env) :: starEach [.Tuple [.Name x p2, .Name x2 p3] n p4] X.env := by rfl) (h2 : starEach [.Tuple [.Name x p2, .Name x2 p3] n p4] X.env = (false, eval (.Tuple [.Name x p2, .Name x2 p3] n p4) X.env) :: starEach [] X.env := by rfl)
    (hpl : (backTo pos (starEach [.Tuple [.Name x p2, .Name x2 p3] n p4] X.env)).any (·.1) = false := by rfl) :
    PE X (.Call (.Name "isinstance" p) [e, .Tuple [.Name x p2, .Name x2 p3] n p4] [] pos) (tE cf W (Misi2 m U U2)) :=
  (pe_callB call_isiT hg hm hv (pa_cons he (pa_cons (pe_tup (pa_cons (pe_bltn hgx hmx hvx (show L2.RelV (.ty U) (.type U) from rfl) hnx hdx) (pa_cons (pe_bltn hgx2 hmx2 hvx2 (show L2.RelV (.ty U2) (.type U2) from rfl) hnx2 hdx2) pa_nil h4) h3)) pa_nil h2) h1) (by decide) (by decide) h1 hpl).wk fun σ H Q ⟨R, ι, env, S, he, hs, k⟩ => by
    refine ⟨R, ι, env, S, he, hs, (KR.bind k).mono fun ι1 H1 x S1 e1 s1 k1 v rv => ?_⟩
    refine ⟨by show 2 ≤ sizeLine; rw [sizeLine_eq]; omega, fun t ht => ?_⟩
    have ex : Ext ι1 H1 ι1 (upd H1 t (.tup [.ty U, .ty U2])) := Ext.new ht
    have sx := s1.new ht (szo_tup (xs := [.ty U, .ty U2]) (by show 2 ≤ sizeLine; rw [sizeLine_eq]; omega))
    split at k1
    · rename_i T hT
      have go : ∀ b b2 : Bool, kitB T U = some b → (b = false → kitB T U2 = some b2) → KR (cf.on R) ι1 H1 (fun c d H' => W c d σ H') (fun ι' H' d _ => ∀ v, Rep (cf.on R) ι' H' d v → Q v H') (.ok (.bl (b || b2)) S1) → rIsiT X.K [v, .ref t] (upd H1 t (.tup [.ty U, .ty U2])) Q := fun b b2 g1 g2 k2 =>
        ⟨v, t, _, _, _, b || b2, rfl, upd_same, .cons (.ty U) (.cons (.ty U2) .nil), tyD_at (cf := cf.on R) hK sx hT (rv.mono ex), kit_two g1 g2, k2 ι1 _ ex sx _ rep_bl⟩
      split at k1
      · rename_i hb
        exact go true true hb (fun z => by cases z) k1
      · rename_i hb
        split at k1
        · rename_i b hb2
          exact go false b hb (fun _ => hb2) k1
        · exact k1.elim
      · exact k1.elim
    · exact k1.elim

/-! ### sorted -/
/-- sorted of a tuple of ints -/
def rSrtTup (K : PySem.W.Frag) : List V → Hp → VK → Prop := fun vs H Q => ∃ (a : Addr) (ns : List Int), vs = [V.ref a] ∧ SqT K H a (ns.map V.int) ∧ ns.length < 64 ∧
  ∀ (ns' : List Int) (p : Addr), ns'.Perm ns → ns'.Pairwise (· ≤ ·) → H p = none → Q (.ref p) (upd H p (.lst (ns'.map V.int)))
theorem cr_srtTup : CallR X (.builtin "sorted") (rSrtTup X.K) := by
  intro pins s σ H args us Q Iv rargs ⟨ad, zs, e1, htup, hfew, done⟩
  subst e1
  obtain ⟨items, rvals, isT, _⟩ := Iv.tuple htup
  rw [Vals.ref1 rargs]
  have inz := rvals.ints
  have few2 : items.length < 64 := by rw [inz.length]; exact hfew
  refine Calls.call_function_entry PyProof.Rows.kind_sorted PyProof.Rows.plain_sorted PyProof.Rows.entry_sorted (PyProof.Rows.args_sorted1 _) ?_
  unfold Builtin.«sorted»
  refine wpAny_bind (m := checkCount "sorted" 1 1 _) (wpAny_pure ?_)
  refine wpAny_bind (PySem.Rows2.collect_tuple (show s.heap.IsTuple ad items.toArray from isT) ?_ (by rw [sizeLine_eq]; omega))
  refine wpAny_bind (wpAny_newList ?_ (by rw [sizeLine_eq]; omega))
  generalize hh : (s.heap.push (seqObj "list" #[] 0)).update s.heap.objs.size (Obj.mapSeq (· ++ items.toArray)) = h1
  have sz1 : h1.objs.size = s.heap.objs.size + 1 := by rw [← hh, Heap.size_update, PyProof.Rows.size_push']
  have at1 : (h1.push (seqObj "list" items.toArray 0)).get? h1.objs.size = some (seqObj "list" items.toArray 0) := Heap.get?_push_size _ rfl
  rw [sz1] at at1
  show wpAny _ _ _ _ _ { s with heap := h1.push (seqObj "list" items.toArray 0) }
  rw [sz1]
  refine wpAny_bind (wpAny_holding (wpAny_call_entry PyProof.Rows.slot_list_sort ⟨_, at1, rfl⟩ PyProof.Rows.entry_list_sort (PyProof.Rows.list_sort_tree at1 inz few2 fun out ns' a1 a2 a3 => ⟨_, rfl, ?_⟩) (PyProof.Rows.args_list_sort _)))
  refine wpAny_pure ⟨_, rfl, ?_⟩
  obtain ⟨ep, lies⟩ := PyProof.Rows.sortedAll_at s.heap items out
  have small : (ns'.map V.int).length ≤ sizeLine := by rw [List.length_map, a2.length_eq]; exact small64 hfew
  have olds : ∀ b u, s.heap.get? b = some u → (PyProof.Rows.sortedAll s.heap items out).get? b = some u := fun _ _ => PyProof.Rows.sortedAll_old
  have fin := Iv.laid (a := s.heap.objs.size + 1) (o := .lst (ns'.map V.int)) (t' := s.toks) olds (Nat.le_succ _) ⟨small, out.toList, ep, vals_of_ints a1, lies⟩
  unfold PyProof.Rows.sortedAll at fin
  rw [hh] at fin
  exact ⟨.ref _, _, fin, rfl, done ns' _ a2 a3 (Iv.hok.fresh (Nat.le_succ _))⟩
/-- the sorted ints -/
def insI (x : Int) : List Int → List Int
  | [] => [x]
  | y :: ys => if x ≤ y then x :: y :: ys else y :: insI x ys
def srtI : List Int → List Int
  | [] => []
  | x :: xs => insI x (srtI xs)
theorem insI_perm (x : Int) : ∀ ys : List Int, (insI x ys).Perm (x :: ys)
  | [] => .refl _
  | y :: ys => by
    unfold insI
    split
    · exact .refl _
    · exact ((insI_perm x ys).cons y).trans (.swap ..)
theorem srtI_perm : ∀ xs : List Int, (srtI xs).Perm xs
  | [] => .refl _
  | x :: xs => (insI_perm x _).trans ((srtI_perm xs).cons x)
theorem insI_pw (x : Int) : ∀ ys : List Int, ys.Pairwise (· ≤ ·) → (insI x ys).Pairwise (· ≤ ·)
  | [], _ => by simp [insI]
  | y :: ys, h => by
    unfold insI
    obtain ⟨h1, h2⟩ := List.pairwise_cons.mp h
    split
    · rename_i hxy
      exact List.pairwise_cons.mpr ⟨fun z hz => by rcases List.mem_cons.mp hz with rfl | hz; exact hxy; exact Int.le_trans hxy (h1 z hz), h⟩
    · rename_i hxy
      refine List.pairwise_cons.mpr ⟨fun z hz => ?_, insI_pw x ys h2⟩
      rcases List.mem_cons.mp ((insI_perm x ys).mem_iff.mp hz) with rfl | hz
      · omega
      · exact h1 z hz
theorem srtI_pw : ∀ xs : List Int, (srtI xs).Pairwise (· ≤ ·)
  | [] => .nil
  | x :: xs => insI_pw x _ (srtI_pw xs)
theorem pw_unique : ∀ {xs ys : List Int}, xs.Perm ys → xs.Pairwise (· ≤ ·) → ys.Pairwise (· ≤ ·) → xs = ys := fun {xs ys} h h1 h2 => h.eq_of_pairwise (fun a b _ _ h3 h4 => Int.le_antisymm h3 h4) h1 h2
def sortG : N1 := fun x S => (seqD S x).bind fun ds => (intsOf ds).bind fun ns => if ns.length < 64 then some ((srtI ns).map .int) else none
theorem c_sorted (hK : X.K = cf.K) : CallR X (.builtin "sorted") (fun xs H Q => ∃ v, xs = [v] ∧ rN1 cf sortG v H Q) := ((cr_sorted (X := X)).or2 cr_srtTup).wk fun xs H Q ⟨v, hx, R, ι, S, dx, ds, hs, rx, e, k⟩ => by
  subst hx
  obtain ⟨es, h1, h2⟩ := Option.bind_eq_some_iff.mp e
  obtain ⟨ns, h3, h4⟩ := Option.bind_eq_some_iff.mp h2
  split at h4
  · rename_i h64
    cases h4
    obtain ⟨a, vs, rfl, h5, h6, _⟩ := seqD_at hs h1 rx
    have hv := reps_ints h3 h6
    subst hv
    have fin : ∀ (ns' : List Int) (p : Addr), ns'.Perm ns → ns'.Pairwise (· ≤ ·) → H p = none → Q (.ref p) (upd H p (.lst (ns'.map V.int))) := fun ns' p g1 g2 g3 => by
      have := pw_unique (g1.trans (srtI_perm ns).symm) g2 (srtI_pw ns)
      subst this
      exact k _ p (ints_reps _) (by rw [List.length_map, (srtI_perm ns).length_eq]; exact small64 h64) g3
    rcases h5 with h5 | h5
    · exact .inl ⟨a, ns, rfl, by rw [hK]; exact h5, h64, fin⟩
    · exact .inr ⟨a, ns, rfl, by rw [hK]; exact h5, h64, fin⟩
  · cases h4

/-! ### repr -/
def reprG : G1 := fun x S => let d := toPy (rd S x); if plain (rd S x) = true ∧ d.showable = true ∧ d.depth ≤ 30 ∧ isDisplay d = true ∧ d.shown.length ≤ 16777216 then some (.str d.shown) else none
mutual
theorem toPy_noDict : ∀ d : D, (toPy d).hasDict = false
  | .non => rfl | .bl _ => rfl | .int _ => rfl | .str _ => rfl | .scr _ => rfl | .dct _ _ => rfl | .ref _ => rfl | .cls _ => rfl
  | .tup ds => by unfold toPy; simp only [PyData.hasDict]; exact toPys_noDict ds
  | .lst ds => by unfold toPy; simp only [PyData.hasDict]; exact toPys_noDict ds
theorem toPys_noDict : ∀ ds : List D, PyData.hasDictAll (toPys ds) = false
  | [] => rfl
  | d :: ds => by unfold toPys; simp only [PyData.hasDictAll, toPy_noDict d, toPys_noDict ds, Bool.or_false]
end
theorem c_repr (hK : X.K = cf.K) (hg : X.A.guards = some []) (hu : X.A.units + 64 < cLine) : CallR X (.builtin "repr") (rC1 cf reprG) := by
  intro pins s σ H xs us Q I rv ⟨R, ι, S, dx, d, x, hx, hs, rx, e, k⟩
  subst hx
  obtain ⟨u, rfl, ru⟩ := vals1 rv
  unfold reprG at e
  dsimp only at e
  split at e
  · rename_i hc
    cases e
    obtain ⟨c1, c2, c3, c4, c5⟩ := hc
    obtain ⟨as, hr⟩ := Dp.reads I _ x u (by rw [hK]; exact dp_rd hs c1 rx) ru
    obtain ⟨a, rfl⟩ := isRef_of_reads hr c4
    exact repr_of_reads' hr c2 (PyData.noDict_hsm (toPy_noDict _)) hg (by omega) (fun _ _ z => z) (fun h' u tk hk => ⟨.str _, H, I.kept hk, ⟨u, rfl⟩, k ι H _ .refl hs rep_str⟩) c5
  · cases e
end
end PB

set_option Elab.async false
set_option linter.all false
set_option maxRecDepth 100000
set_option maxHeartbeats 4000000

namespace PB
open PySem PySem.Spec PyProof.Rows L2

/-! ### a starred target -/
def starL {α : Type} (xs : List α) (n i : Nat) : List α := (xs.drop i).take (xs.length + 1 - n)
def starR {α : Type} (xs : List α) (n i : Nat) : List α := (xs.drop i).drop (xs.length + 1 - n)
/-- n targets, the i-th with a star; the value is a list -/
def gStar (n i : Nat) (t : L2.TGs) : L2.TG := fun v σ H Q => ∃ a xs, v = .ref a ∧ H a = some (.lst xs) ∧ n ≤ xs.length + 1 ∧ xs.length ≤ 16384 ∧
  ∀ p, H p = none → t (xs.take i ++ [V.ref p] ++ starR xs n i) σ (upd H p (.lst (starL xs n i))) Q
theorem _root_.L2.Vals.dropN {xs : List V} {us : List Value} (h : Vals xs us) : ∀ n : Nat, Vals (xs.drop n) (us.drop n) := by
  induction h with
  | nil => intro n; simp; exact .nil
  | cons r t ih =>
    intro n
    cases n with
    | zero => exact .cons r t
    | succ n => exact ih n
theorem _root_.L2.Vals.app {xs ys : List V} {us ws : List Value} (h : Vals xs us) (g : Vals ys ws) : Vals (xs ++ ys) (us ++ ws) := by
  induction h with
  | nil => exact g
  | cons r t ih => exact .cons r ih
section
variable {X : Cx}
theorem pg_star {es : List Expr} {k : Nat} {t : L2.TGs} {n i : Nat} {pos : Pos} (hc : X.calm = true) (h : PGs X es t) (hi : i < n := by decide)
    (hn : (assignEach es X.env).length = n := by rfl) (hst : (assignEach es X.env).findIdx? (·.1) = some i := by rfl) : PG X (.Tuple es k pos) (gStar n i t) := by
  refine ⟨fun pins s σ H v u Q Iv r hw => ?_⟩
  obtain ⟨a, xs, e1, hq, hl, hz, hw⟩ := hw
  subst e1
  cases r
  obtain ⟨its, rv, isL, _⟩ := Iv.list (SqL.of hq)
  have size0 : its.length = xs.length := rv.length.symm
  have isL : s.heap.IsList a its.toArray := isL.isList
  have ne0 : a ≠ s.heap.objs.size := by obtain ⟨o, ho, _⟩ := isL; exact Nat.ne_of_lt (Heap.lt_size ho)
  rw [assign_Tuple]
  refine wpAny_bind (wpAny_standAt ?_)
  unfold unpack
  rw [hn, hst]
  refine wpAny_bind (wpAny_holding ?_)
  unfold unpackItems
  refine wpAny_bind ?_
  unfold notIterableAtAll
  refine wpAny_bind (wpAny_specialOf isL.typeIs slot_list_iter.lookup (wpAny_pure ?_))
  simp only [Bool.false_eq_true, if_false]
  refine wpAny_bind (wpAny_holding (wpAny_pyIter_list isL ?_))
  have few : its.length ≤ sizeLine := by rw [sizeLine_eq]; omega
  refine wpAny_bind (wpAny_holding (PySem.W.kun_draw ne0 i 0 _ _ ⟨_, Heap.get?_push_size _ rfl, rfl, rfl⟩ (isL.push _) (by simp; omega) fun g1 it1 same1 => ?_))
  have isL1 : g1.IsList a its.toArray := (isL.push _).extBut same1.extBut ne0
  rw [Nat.zero_add] at it1
  have lt1 : s.heap.objs.size < g1.objs.size := by obtain ⟨o, ho, _⟩ := it1; exact Heap.lt_size ho
  have lt2 : a < g1.objs.size := by obtain ⟨o, ho, _⟩ := isL1; exact Heap.lt_size ho
  rw [List.drop_zero]
  have cnt : (its.toArray.toList.take i).length = i := by simp; omega
  rw [if_neg (by rw [cnt]; omega)]
  refine wpAny_bind (wpAny_holding (PySem.W.kun_collect (s := { s with heap := g1 }) (T := "list_iterator") (.inr (.inr (.inl rfl))) (Walks.list (A := X.A.in1) (Iv.ok.hd hc) s.heap.objs.size a ne0 its.toArray)
    (fun j u st => st.1.typeIs) (k := i) (by simp; omega) ⟨it1, isL1⟩ lt1 lt2 (fun g2 tk keep2 => ?_) (by simpa using few)))
  have cnt2 : (its.toArray.toList.drop i).length = its.length - i := by simp
  have mid : (its.toArray.toList.drop i).length - (n - 1 - i) = its.length + 1 - n := by rw [cnt2]; omega
  show wpAny _ _ (if (its.toArray.toList.drop i).length < n - 1 - i then _ else _) _ _ _
  rw [if_neg (by rw [cnt2]; omega)]
  show wpAny _ _ (newList ((its.toArray.toList.drop i).take ((its.toArray.toList.drop i).length - (n - 1 - i))) >>= fun d => pure (its.toArray.toList.take i ++ [d] ++ (its.toArray.toList.drop i).drop ((its.toArray.toList.drop i).length - (n - 1 - i)))) _ _ _
  rw [mid]
  have e2 : its.toArray.toList = its := by simp
  rw [e2]
  refine wpAny_bind (wpAny_newList (wpAny_pure ?_) (by rw [List.length_take]; exact Nat.le_trans (Nat.min_le_right _ _) (by rw [List.length_drop]; omega)))
  have J : Inv X pins σ H { s with heap := g2, toks := tk } := Iv.kept (t' := tk) fun b o e => keep2 b o (Nat.ne_of_lt (Heap.lt_size e)) (same1.extBut b o (Nat.ne_of_lt (Heap.lt_size e)) (Heap.get?_push_of_some _ e))
  have sz : (starL xs n i).length ≤ sizeLine := by
    unfold starL
    rw [List.length_take, List.length_drop, sizeLine_eq]
    omega
  have vm : Vals (starL xs n i) ((its.drop i).take (its.length + 1 - n)) := by
    unfold starL
    rw [size0]
    exact (rv.dropN i).take _
  have J2 := J.laid (a := g2.objs.size) (o := .lst (starL xs n i)) (h' := g2.push { cls := .type "list", data := .seq ((its.drop i).take (its.length + 1 - n)).toArray }) (t' := tk) (fun _ _ e => Heap.get?_push_of_some _ e) (Nat.le_refl _) ⟨sz, _, 0, vm, Heap.get?_push_size _ rfl⟩
  refine h.run pins _ σ _ _ _ Q J2 ?_ (hw g2.objs.size (J.hok.fresh (Nat.le_refl _)))
  refine ((rv.take i).app (.cons (show L2.RelV (.ref g2.objs.size) (.ref g2.objs.size) from rfl) .nil)).app ?_
  unfold starR
  rw [size0]
  exact (rv.dropN i).dropN _
/-- *name among targets -/
theorem gs_star {t : Expr} {es : List Expr} {T : L2.TGs} {q : Pos} (h : PGs X (t :: es) T) (hs : (assignEach (.Starred t q :: es) X.env).map (·.2) = (assignEach (t :: es) X.env).map (·.2) := by rfl) : PGs X (.Starred t q :: es) T :=
  ⟨fun pins s σ H vs us Q I r q => by rw [hs]; exact h.run pins s σ H vs us Q I r q⟩
end
section
variable {X : Cx} {cf : Cf} {W : L2.WX}
/-- a, *b, c = a list -/
def Sstar (n i : Nat) (ps : List Pat) (m : ED) : SD := fun env S => (m env S).s env fun d S => match d with
  | .lst ds => if n ≤ ds.length + 1 ∧ ds.length ≤ 16384 then (match setPs ps (ds.take i ++ [.lst (starL ds n i)] ++ starR ds n i) env with | some env' => .nx env' S | none => .no) else .no
  | _ => .no
theorem s_star {es : List Expr} {k : Nat} {n i : Nat} {ps : List Pat} {e : Expr} {m : ED} {pos pos' : Pos} (hc : X.calm = true) (he : PE X e (tE cf W m)) (h : PGs X es (tGs cf ps)) (hi : i < n := by decide)
    (hn : (assignEach es X.env).length = n := by rfl) (hst : (assignEach es X.env).findIdx? (·.1) = some i := by rfl)
    (hs : swapsWithSole [.Tuple es k pos'] e pos.line X.env = pure false := by rfl) (hw : swappedStores [.Tuple es k pos'] e X.env = pure none := by rfl)
    (h1 : (assignEach [.Tuple es k pos'] X.env).map (·.2) = [assign (.Tuple es k pos') X.env] := by rfl) : PS X (.Assign [.Tuple es k pos'] e pos) (tS cf W (Sstar n i ps m)) :=
  (ps_asg he (pg_star hc h hi hn hst) hs hw h1).wk fun D σ H ⟨R, ι, env, S, he, hs, k⟩ => by
    refine ⟨R, ι, env, S, he, hs, (KS.s he k).mono fun ι1 H1 d S1 e1 s1 k1 v rv => ?_⟩
    split at k1
    · rename_i ds
      unfold Rep at rv
      obtain ⟨a, vs, rfl, g1, _, g2⟩ := rv
      split at k1
      · rename_i hz
        split at k1
        · rename_i env' hE
          refine ⟨a, vs, rfl, g1, by rw [g2.length]; exact hz.1, by rw [g2.length]; exact hz.2, fun p hp => ?_⟩
          have ex : Ext ι1 H1 ι1 (upd H1 p (.lst (starL vs n i))) := Ext.new hp
          have rl : Reps (cf.on R) ι1 H1 (starL ds n i) (starL vs n i) := by
            unfold starL
            rw [g2.length]
            exact (g2.drop _).take _
          have sx := s1.new hp (szo_lst (xs := starL vs n i) (by unfold starL; rw [List.length_take, List.length_drop, sizeLine_eq, g2.length]; omega))
          refine ⟨R, ι1, env, S1, _, env', (he.mono e1).mono ex, sx, ?_, hE, fun σ' q _ => k1 ι1 _ σ' ex sx q⟩
          have rm : Rep (cf.on R) ι1 (upd H1 p (.lst (starL vs n i))) (.lst (starL ds n i)) (.ref p) := by
            unfold Rep
            exact ⟨p, _, rfl, upd_same, ⟨s1.out hp, s1.outR hp⟩, rl.mono ex⟩
          have rr : Reps (cf.on R) ι1 H1 (starR ds n i) (starR vs n i) := by
            unfold starR
            rw [g2.length]
            exact (g2.drop _).drop _
          exact (((g2.take i).mono ex).append (.cons rm .nil)).append (rr.mono ex)
        · exact k1.elim
      · exact k1.elim
    · exact k1.elim
end
end PB

set_option Elab.async false
set_option linter.all false
set_option maxRecDepth 100000
set_option maxHeartbeats 4000000

namespace PB
open PySem PySem.Spec PyProof.Rows L2

/-- a def's denotation from its body's: locals of the store are given back -/
noncomputable def gcF (n N : Nat) (m : SD) : Fn := fun ds S => if ds.length = n then fin S.length (m (startD N ds) S) else .no
noncomputable def kpF (n N : Nat) (m : SD) : Fn := fun ds S => if ds.length = n then finK (m (startD N ds) S) else .no
/-- what the top holds of a def -/
def FnAt (K : PySem.W.Frag) (mg : Str → Option Value) (x : Str) (st : Stmt) (ps : List Str) : Prop := ∃ f fd, Fun K x x st f fd ∧ mg x = some (.ref f) ∧ PySem.W.keepIn K (.ref f) = true ∧ Binds K fd ps []
section
variable {P : Program} {w : World} {K : PySem.W.Frag} {mg : Str → Option Value} {base : Heap} {cf : Cf}
theorem Cal.gc {x : Str} {st : Stmt} {N ps : List Str} {k n : Nat} {m : SD} (F : FnAt K mg x st ps) (Sc : FnScope N ps (defScope st)) (hw : ∀ f, Walked P w K mg base cf k f x st N m) (hn : ps.length = n := by rfl) : Cal P w K mg base cf (k + 1) x n (gcF n N.length m) := by
  obtain ⟨f, fd, h1, h2, h3, h4⟩ := F
  subst hn
  refine ⟨f, fd, ps, rfl, fn_gc h1 Sc (hw f) (fun ds S _ _ hl _ => ?_), h2, h3, h4⟩
  unfold gcF
  rw [if_pos hl]
theorem Cal.kp {x : Str} {st : Stmt} {N ps : List Str} {k n : Nat} {m : SD} (F : FnAt K mg x st ps) (Sc : FnScope N ps (defScope st)) (hw : ∀ f, Walked P w K mg base cf k f x st N m) (hn : ps.length = n := by rfl) : Cal P w K mg base cf (k + 1) x n (kpF n N.length m) := by
  obtain ⟨f, fd, h1, h2, h3, h4⟩ := F
  subst hn
  refine ⟨f, fd, ps, rfl, fn_keep h1 Sc (hw f) (fun ds S _ _ hl _ => ?_), h2, h3, h4⟩
  unfold kpF
  rw [if_pos hl]
/-- nothing promised -/
theorem Cal.no {x : Str} {st : Stmt} {ps : List Str} {k n : Nat} (F : FnAt K mg x st ps) (hn : ps.length = n := by rfl) : Cal P w K mg base cf k x n (fun _ _ => .no) := by
  obtain ⟨f, fd, h1, h2, h3, h4⟩ := F
  subst hn
  exact ⟨f, fd, ps, rfl, ⟨fun vs H Q E h => h.1, fun A outer s H args us vs Q E hr he hb r hs => by
    obtain ⟨_, R, ι, ds, S, _, _, kr⟩ := hs
    exact kr.elim⟩, h2, h3, h4⟩
end
/-- a body's walk where nothing is being shown -/
def WalkedG (P : Program) (w : World) (K : PySem.W.Frag) (mg : Str → Option Value) (base : Heap) (cf : Cf) (k : Nat) (f : Addr) (qual : Str) (st : Stmt) (N : List Str) (m : SD) : Prop :=
  ∀ (cdv : Value) (A : Around) (outer : List Env) (s : Shared) (H : Hp) (E : XK), Room k (A.deeper (envOfC qual (defScope st) s.heap.objs.size f cdv)) → A.guards = some [] →
    PSs (cxOf (L2.CX P w) P w K mg base N qual (defScope st) f cdv A outer s H E) (defBody st) (tS cf (fun c d _ H => E c d H) m)
theorem boot_len : bootBuiltins "len" = some (.builtin "len") := by decide +kernel
theorem boot_abs : bootBuiltins "abs" = some (.builtin "abs") := by decide +kernel
theorem boot_all : bootBuiltins "all" = some (.builtin "all") := by decide +kernel
theorem boot_any : bootBuiltins "any" = some (.builtin "any") := by decide +kernel
theorem boot_sum : bootBuiltins "sum" = some (.builtin "sum") := by decide +kernel
theorem boot_sorted : bootBuiltins "sorted" = some (.builtin "sorted") := by decide +kernel
theorem boot_repr : bootBuiltins "repr" = some (.builtin "repr") := by decide +kernel
theorem boot_int : bootBuiltins "int" = some (.type "int") := by decide +kernel
theorem boot_str : bootBuiltins "str" = some (.type "str") := by decide +kernel
theorem boot_bool : bootBuiltins "bool" = some (.type "bool") := by decide +kernel
theorem boot_list : bootBuiltins "list" = some (.type "list") := by decide +kernel
theorem boot_tuple : bootBuiltins "tuple" = some (.type "tuple") := by decide +kernel
theorem boot_dict : bootBuiltins "dict" = some (.type "dict") := by decide +kernel
end PB

set_option Elab.async false
set_option linter.all false
set_option maxRecDepth 100000
set_option maxHeartbeats 4000000

namespace PB
open PySem PySem.Spec PyProof.Rows L2

/-! ### the end: the law is called where nothing is being shown -/
section
variable {P : Program} {w : World} {K : PySem.W.Frag} {mg mb : Str → Option Value} {cf : Cf}
/-- the call of a def whose body was walked there -/
theorem run_top {x qual : Str} {st : Stmt} {f : Addr} {fd : FuncData} {N ps : List Str} {k : Nat} {m : SD} {base : Heap} {A : Around} {outer : List Env} {s : Shared} {H : Hp} {args : Args} {us : List Value} {vs : List V} {Q : VK} {ds : List D} {ι : List Addr} {S S' : List O} {d : D}
    (F : Fun K x qual st f fd) (Sc : FnScope N ps (defScope st)) (hw : WalkedG P w K mg base cf k f qual st N m) (hr : Room (k + 1) A) (hg : A.guards = some []) (e0 : Env0 P w K mg base A outer s H) (hb : BindsTo s fd args (ps.zip us)) (hv : Vals vs us) (hn : vs.length = ps.length)
    (rp : Reps (cf.on []) ι H ds vs) (sim : Sim (cf.on []) ι H S) (hm : m (startD N.length ds) S = .rt d S') (hQ : ∀ ι' H' v, Rep (cf.on []) ι' H' d v → Q v H') :
    codeAny (model P w) A (.call (.ref f) args) (CR (L2.CX P w) outer P w H s Q fun _ _ _ => False) s := by
  obtain ⟨oc, od, kV, doc, pm, an, cdv, ct, osl, efd, look, isCode⟩ := F.ex
  subst efd
  have inH : K.In s.heap := e0.mod.kin.keeps fun b o z => (e0.bs b o z).1
  have noLim : s.heap.NoLimit := e0.mod.nolimit.keeps fun b o z => (e0.bs b o z).1
  have kinds : ∀ y ∈ ps.zip us, (defScope st).names.lookup y.1 = some .local ∨ ((defScope st).names.lookup y.1 = some .cell ∧ ((cellsFrom (s.heap.objs.size + 1) (defScope st).names []).lookup y.1).isSome = true) := by
    rintro ⟨n, v⟩ hy
    exact (Sc.par n (List.of_mem_zip hy).1).imp id fun q => ⟨q, PySem.W.cellsFrom_some _ _ _ (.inl q)⟩
  refine codeAny_call_function hr.depth (inH _ _ look) rfl Sc.co Sc.gen rfl (PySem.W.codeRec_of inH isCode) (hb _ _ _ _ ?_)
  refine wpAny_newFunctionEnv_cells Sc.kind kinds fun env eenv t1 x1 => ?_
  subst eenv
  refine ⟨noLim.keeps x1.toInCall.keep, codeAny_func ?_⟩
  have walk := hw cdv A outer s H (fun _ _ _ => False) (hr.deeper _) hg
  have inv0 := inv_start (CX := L2.CX P w) (qual := qual) (f := f) (cd := cdv) (E := fun _ _ _ => False) Sc hr.hd e0 hn hv x1
  refine wpAny_mono (walk.run [] t1 (L2.start N vs) H { nx := fun _ H' => Q .non H', rt := Q } inv0 ⟨[], ι, startD N.length ds, S, start_rep rp, sim, by rw [hm]; exact fun ι' H' v _ _ rv => hQ ι' H' v rv⟩) ?_ fun e s' hs => hs
  intro fl s' hs
  cases fl with
  | ret u =>
    obtain ⟨v, σ2, H2, J, rv, q⟩ := hs
    exact ⟨v, H2, J.os, J.bare, J.base, J.hok, rv, q⟩
  | next =>
    obtain ⟨σ2, H2, J, q⟩ := hs
    exact ⟨.non, H2, J.os, J.bare, J.base, J.hok, rfl, q⟩
  | brk => obtain ⟨_, _, _, q⟩ := hs; exact q.elim
  | cont => obtain ⟨_, _, _, q⟩ := hs; exact q.elim
/-- the abstract heap at the law's call: the script, or nothing -/
theorem script_heap {h : Heap} {a : Addr} {vs : List Value} {ns : List Int} (ha : h.get? a = some { cls := .type "list", data := .seq vs.toArray }) (hi : IntsAre vs ns) (hl : ns.length ≤ sizeLine) (KX : K.In h) :
    ∃ H : Hp, (∀ b u, H b = some u → b = a ∧ K.lookup a = none ∧ u = .frz { cls := .type "list", data := .seq vs.toArray } (.lst (ns.map V.int))) ∧ Rep { K := K, ct := cf.ct, R := [] } [] H (.scr (ns.map D.int)) (.ref a) := by
  have vals := vals_ints hi
  cases lk : K.lookup a with
  | some o =>
    have same := KX a o lk
    rw [ha] at same
    cases same
    refine ⟨fun _ => none, fun b u z => by simp at z, ?_⟩
    unfold Rep
    exact ⟨a, ns.map V.int, rfl, .inr ⟨_, vs.toArray, _, lk, rfl, rfl, rfl, by rw [List.size_toArray, hi.length]; exact hl, by simpa using vals⟩, ints_reps ns⟩
  | none =>
    refine ⟨fun b => if b = a then some (.frz { cls := .type "list", data := .seq vs.toArray } (.lst (ns.map V.int))) else none, fun b u z => ?_, ?_⟩
    · by_cases hb : b = a
      · have z2 := (if_pos hb).symm.trans z
        cases z2
        exact ⟨hb, rfl, rfl⟩
      · have z2 := (if_neg hb).symm.trans z
        cases z2
    · unfold Rep
      exact ⟨a, ns.map V.int, rfl, .inl ⟨.inr ⟨_, if_pos rfl⟩, by simp, by simp⟩, ints_reps ns⟩
theorem law_top {k : Nat} {fa a : Addr} {fd : FuncData} {x nm : Str} {st : Stmt} {N : List Str} {m : SD} {s₁ : Shared} {vs : List Value} {ns : List Int} {top : Nat}
    (KX : K.In s₁.heap) (hns : s₁.heap.Ns mainGlobals mg) (hb : s₁.heap.Ns builtinsNs mb) (hbb : ∀ x : Str, x ≠ "__name__" → mb x = bootBuiltins x) (hlim : s₁.heap.NoLimit) (hg : s₁.gens = #[])
    (ha : s₁.heap.get? a = some { cls := .type "list", data := .seq vs.toArray }) (hi : IntsAre vs ns) (hl : ns.length ≤ top) (htop : top ≤ sizeLine) (hr : Room (k + 1) callerA) (hcf : cf.K = K)
    (F : Fun K nm nm st fa fd) (Sc : FnScope N [x] (defScope st)) (hbind : ∀ (s : Shared) (u : Value), BindsTo s fd ⟨[u], []⟩ [(x, u)]) (hw : ∀ base : Heap, K.In base → base.Ns mainGlobals mg → WalkedG P w K mg base cf k fa nm st N m)
    (hm : ∀ ns : List Int, ns.length ≤ top → ∃ S, m (startD N.length [.scr (ns.map D.int)]) [] = .rt (.bl true) S) :
    codeAny (model P w) callerA (.call (.ref fa) ⟨[.ref a], []⟩) (fun r s' => r = .ok (.ret (.bool true)) ∧ OldK s₁.heap s'.heap ∧ s'.os = s₁.os ∧ AllBare s'.gens) s₁ := by
  subst hcf
  have hl' := Nat.le_trans hl htop
  obtain ⟨H, only, scr⟩ := script_heap (cf := cf) ha hi hl' KX
  have vals := vals_ints hi
  have dictFree : ∀ {b : Addr} {o : Obj} {es : Array DictEntry} {ep : Nat}, s₁.heap.get? b = some o → o.data = .dict es ep → H b = none := fun {b o es ep} z1 z2 => by
    cases hb : H b with
    | none => rfl
    | some u =>
      have eb := (only b u hb).1
      rw [eb, ha] at z1
      cases z1
      exact nomatch z2
  have nsBase : ∀ {b : Addr} {m : Str → Option Value}, s₁.heap.Ns b m → (hidT s₁.heap H).Ns b m := fun {b m} q => by
    obtain ⟨o, es, ep, q1, q2, q3⟩ := q
    exact ⟨o, es, ep, hidT_get q1 (dictFree q1 q2), q2, q3⟩
  have kBase : cf.K.In (hidT s₁.heap H) := fun b o z => hidT_get (KX b o z) (by
    cases hb : H b with
    | none => rfl
    | some u =>
      obtain ⟨eb, z2, _⟩ := only b u hb
      rw [eb, z2] at z
      cases z)
  have modB : Mod cf.K mg (hidT s₁.heap H) := ⟨kBase, nsBase hns, ⟨mb, nsBase hb, hbb⟩, by
    obtain ⟨mc, q1, q2⟩ := hlim
    exact ⟨mc, nsBase q1, q2⟩⟩
  have okH : HOk P w H s₁.heap := fun b u z => by
    obtain ⟨eb, _, eu⟩ := only b u z
    subst eb
    subst eu
    exact ⟨ha, by rw [List.length_map]; exact hl', vs, _, vals, ha⟩
  have env0 : Env0 P w cf.K mg (hidT s₁.heap H) callerA [] s₁ H := ⟨rfl, modB, fun b o z => of_hidT z, Nat.le_of_eq (hidT_size _ _), trivial, (fun b z => nomatch z), okH, .of_eq hg⟩
  have sim : Sim (cf.on []) [] H [] := by
    refine ⟨rfl, List.nodup_nil, fun l o a z => by simp at z, fun b xs z => ?_, (fun b z => nomatch z), (fun b z => nomatch z)⟩
    have len : ∀ u, H b = some u → u = .frz { cls := .type "list", data := .seq vs.toArray } (.lst (ns.map V.int)) := fun u q => (only b u q).2.2
    have fit : (ns.map V.int).length ≤ sizeLine := by rw [List.length_map]; exact hl'
    rcases z with (z | ⟨o, z⟩) | (z | ⟨o, z⟩)
    · exact nomatch len _ z
    · cases len _ z
      exact fit
    · exact nomatch len _ z
    · exact nomatch len _ z
  obtain ⟨S', hS'⟩ := hm ns hl
  have run := run_top (ds := [.scr (ns.map D.int)]) (us := [.ref a]) (vs := [.ref a]) (Q := fun v _ => v = .bl true) F Sc (hw _ kBase (nsBase hns)) hr rfl env0 (hbind s₁ (.ref a)) (.cons rfl .nil) rfl (Reps.cons scr .nil) sim hS' fun _ _ v rv => by unfold Rep at rv; exact rv
  refine codeAny_mono run fun r s' q => ?_
  match r, q with
  | .error e, q =>
    obtain ⟨_, _, _, _, _, _, _, _, _, _, _, _, q⟩ := q
    exact q.elim
  | .ok .next, q => exact False.elim q
  | .ok .brk, q => exact False.elim q
  | .ok .cont, q => exact False.elim q
  | .ok (.ret u), q =>
    obtain ⟨v, H', os, bare, un, okH', rv, ev⟩ := q
    have ev2 : v = .bl true := ev
    subst ev2
    obtain rfl : u = Value.bool true := rv
    refine ⟨rfl, OldK.of_keep fun b o z => ?_, os, bare⟩
    cases hb : H b with
    | none => exact un.keep b o z hb (fun q => nomatch q) (fun q => nomatch q)
    | some u =>
      obtain ⟨_, _, eu⟩ := only b u hb
      subst eu
      obtain ⟨g1, _⟩ := okH b _ hb
      obtain ⟨g2, _⟩ := okH' b _ (un.frzs b _ _ hb)
      rw [z] at g1
      cases g1
      exact g2
/-- the statement's own goal, from the walk of the law's body and from what it comes to -/
theorem walk_end {l : PySem.W.OpenLaw} {q : Program} {loose : List Str} {XP : (Str → Option Value) → Heap → Prop} {YP : World → Heap → Prop} {rd : DefRec} {KK : Params → PySem.W.Frag} {nm x : Str} {st : Stmt} {N : List Str} {m : SD} {k top : Nat}
    (most : l.most = some top) (fits : top ≤ sizeLine) (plainDef : rd.params.defaults = []) (room : Room (k + 1) callerA) (Sc : FnScope N [x] (defScope st)) (inH : ∀ (w : World) (h : Heap), YP w h → (KK w.params).In h)
    (parts : ∀ (w : World) (mg : Str → Option Value) (fa : Addr) (h : Heap), (KK w.params).In h → XP mg h → h.Ns mainGlobals mg → mg rd.name = some (.ref fa) →
      ∃ (fd : FuncData) (cf : Cf), cf.K = KK w.params ∧ Fun (KK w.params) nm nm st fa fd ∧ (∀ (s : Shared) (u : Value), BindsTo s fd ⟨[u], []⟩ [(x, u)]) ∧ ∀ base : Heap, (KK w.params).In base → base.Ns mainGlobals mg → WalkedG l.prog w (KK w.params) mg base cf k fa nm st N m)
    (sound : ∀ ns : List Int, ns.length ≤ top → ∃ S, m (startD N.length [.scr (ns.map D.int)]) [] = .rt (.bl true) S) :
    PySem.W.WalkO q loose XP YP l.row.toRowW rd [] (fun f vs => PySem.call f vs) := by
  refine Att.attach_call most plainDef ?_
  intro w s0 s1 mg mb fa o pm cd doc a vs ns Gr Yp _ _ _ isLaw isScript areInts fewInts noGens
  obtain ⟨fd, cf, hcf, hF, hB, hW⟩ := parts w mg fa _ (inH w _ Yp) Gr.X Gr.T.g isLaw
  exact law_top (inH w _ Yp) Gr.T.g Gr.T.b Gr.T.builtins Gr.T.nolimit noGens isScript areInts fewInts fits room hcf hF Sc hB hW sound
/-- a constant that the top works out -/
theorem loose_int {lv : List (Str × PySem.W.WData)} {h : Heap} {x : Str} {n : Int} (L : PySem.W.LooseAre lv mg h) (hx : (x, PySem.W.WData.int n) ∈ lv) : ∃ t, mg x = some (.int n t) := by
  obtain ⟨v, a, b⟩ := L.val _ hx
  cases b
  exact ⟨_, a⟩
end
end PB

set_option Elab.async false
set_option linter.all false
set_option maxRecDepth 100000
set_option maxHeartbeats 4000000

namespace PB
open PySem PySem.Spec PyProof.Rows L2

/-! ### working out denotations -/
theorem Mvar_some {i : Nat} {env : DEnv} {S : List O} {d : D} (h : env[i]? = some (some d)) : Mvar i env S = .ok d S := by unfold Mvar; rw [h]
/-! ### the deck -/
structure Dk where
  big : List Int
  cells : List Int
  k : Nat
def Dk.S (d : Dk) (r : List O) : List O := .lst (d.big.map .int) :: .lst (d.cells.map .int) :: .lst [.ref 0, .ref 1, .int d.k] :: r
structure Dk.ok (d : Dk) (c : Nat) : Prop where
  big : ∀ x ∈ d.big, 0 ≤ x
  cells : ∀ x ∈ d.cells, 0 ≤ x
  ne : d.cells ≠ []
  k : d.k ≤ c
theorem Dk.ok.mono {d : Dk} {c c' : Nat} (h : d.ok c) (l : c ≤ c') : d.ok c' := ⟨h.big, h.cells, h.ne, Nat.le_trans h.k l⟩
/-- the rest of a store over a deck leads nowhere new -/
def Rok (r : List O) : Prop := r.all (belowO (r.length + 3)) = true
theorem belows_ints (n : Nat) : ∀ xs : List Int, belows n (xs.map D.int) = true
  | [] => rfl
  | x :: xs => by simp [belows, below, belows_ints n xs]
theorem okS_deck {d : Dk} {r : List O} (h : Rok r) : okS (d.S r).length (d.S r) = true := by
  unfold okS Dk.S
  rw [List.take_length]
  unfold Rok at h
  simp only [List.all_cons, belowO, belows_ints, belows, below, List.length_cons, Bool.and_true, Bool.true_and, h, Bool.and_eq_true, decide_eq_true_eq]
  omega
theorem plain_ints : ∀ xs : List Int, plains (xs.map D.int) = true
  | [] => rfl
  | x :: xs => by simp [plains, plain, plain_ints xs]
theorem lay_ints : ∀ xs : List Int, PyData.canLayAll0 (toPys (xs.map D.int)) = true
  | [] => rfl
  | x :: xs => by simp [toPys, toPy, PyData.canLayAll0, PyData.canLay0, lay_ints xs]
theorem depth_ints : ∀ xs : List Int, PyData.depthAll (toPys (xs.map D.int)) = 0
  | [] => rfl
  | x :: xs => by simp [toPys, toPy, PyData.depthAll, PyData.depth, depth_ints xs]
theorem shaped_ints (xs : List Int) : SeqAt.shaped (toPy (.lst (xs.map D.int))) = true := by
  simp [SeqAt.shaped, toPy, PyData.canLay0, lay_ints, PyData.depth, depth_ints]

/-! ### places, equality -/
theorem atI_nat {α : Type} (xs : List α) (n : Nat) : atI xs (n : Int) = xs[n]? := by
  unfold atI ixN
  rw [if_pos (by omega)]
  by_cases h : n < xs.length
  · rw [if_pos (by omega)]
    simp
  · rw [if_neg (by omega)]
    simp
    omega
theorem atI_0 {α : Type} (xs : List α) : atI xs 0 = xs[0]? := atI_nat xs 0
theorem atI_1 {α : Type} (xs : List α) : atI xs 1 = xs[1]? := atI_nat xs 1
theorem atI_2 {α : Type} (xs : List α) : atI xs 2 = xs[2]? := atI_nat xs 2
theorem ixN_nat (n k : Nat) (h : k < n) : ixN n (k : Int) = some k := by
  unfold ixN
  rw [if_pos (by omega), if_pos (by omega)]
  simp
theorem ixN_0 (n : Nat) : ixN (n + 1) 0 = some 0 := ixN_nat (n + 1) 0 (by omega)
mutual
theorem eqv_refl : ∀ d : D, plain d = true → PyData.eqv (toPy d) (toPy d) = true
  | .non, _ => by simp [toPy, PyData.eqv]
  | .bl _, _ => by simp [toPy, PyData.eqv]
  | .int _, _ => by simp [toPy, PyData.eqv]
  | .str _, _ => by simp [toPy, PyData.eqv]
  | .tup ds, h => by unfold plain at h; simp [toPy, PyData.eqv, eqvs_refl ds h]
  | .lst ds, h => by unfold plain at h; simp [toPy, PyData.eqv, eqvs_refl ds h]
  | .scr _, h => by simp [plain] at h
  | .dct _ _, h => by simp [plain] at h
  | .ref _, h => by simp [plain] at h
  | .cls _, h => by simp [plain] at h
theorem eqvs_refl : ∀ ds : List D, plains ds = true → PyData.eqvAll (toPys ds) (toPys ds) = true
  | [], _ => by simp [toPys, PyData.eqvAll]
  | d :: ds, h => by
    unfold plains at h
    rw [Bool.and_eq_true] at h
    simp [toPys, PyData.eqvAll, eqv_refl d h.1, eqvs_refl ds h.2]
end
/-- data that may be compared -/
def okC (d : D) : Bool := plain d && SeqAt.shaped (toPy d)
theorem eqD_ok {x y : D} {S : List O} (hx : okC (rd S x) = true) (hy : okC (rd S y) = true) : eqD x y S = some (.bl (PyData.eqv (toPy (rd S x)) (toPy (rd S y)))) := by
  unfold okC at hx hy
  rw [Bool.and_eq_true] at hx hy
  unfold eqD eqOk eqB
  rw [hx.1, hy.1, hx.2, hy.2]
  rfl
theorem neD_ok {x y : D} {S : List O} (hx : okC (rd S x) = true) (hy : okC (rd S y) = true) : neD x y S = some (.bl (!PyData.eqv (toPy (rd S x)) (toPy (rd S y)))) := by
  unfold okC at hx hy
  rw [Bool.and_eq_true] at hx hy
  unfold neD eqOk eqB
  rw [hx.1, hy.1, hx.2, hy.2]
  rfl
theorem okC_int (i : Int) : okC (.int i) = true := by simp [okC, plain, toPy, SeqAt.shaped, PyData.canLay0, PyData.depth]
theorem okC_non : okC .non = true := by simp [okC, plain, toPy, SeqAt.shaped, PyData.canLay0, PyData.depth]
theorem okC_bl (b : Bool) : okC (.bl b) = true := by simp [okC, plain, toPy, SeqAt.shaped, PyData.canLay0, PyData.depth]
theorem okC_ints (xs : List Int) : okC (.lst (xs.map .int)) = true := by
  unfold okC
  rw [shaped_ints]
  unfold plain
  rw [plain_ints]
  rfl
theorem okC_intsT (xs : List Int) : okC (.tup (xs.map .int)) = true := by
  simp [okC, plain, plain_ints, toPy, SeqAt.shaped, PyData.canLay0, lay_ints, PyData.depth, depth_ints]
theorem okC_nil : okC (.lst []) = true := okC_ints []
theorem okC_nilT : okC (.tup []) = true := okC_intsT []
theorem eqD_int (i j : Int) (S : List O) : eqD (.int i) (.int j) S = some (.bl (i == j)) := by
  rw [eqD_ok (x := .int i) (y := .int j) (okC_int i) (okC_int j)]
  simp [rd, toPy, PyData.eqv]
theorem neD_int (i j : Int) (S : List O) : neD (.int i) (.int j) S = some (.bl (!(i == j))) := by
  rw [neD_ok (x := .int i) (y := .int j) (okC_int i) (okC_int j)]
  simp [rd, toPy, PyData.eqv]
theorem neD_nil {x : D} {S : List O} {xs : List Int} (h : rd S x = .lst (xs.map .int)) : neD x (.lst []) S = some (.bl (!xs.isEmpty)) := by
  rw [neD_ok (y := .lst []) (by rw [h]; exact okC_ints xs) okC_nil, h]
  cases xs <;> simp [rd, toPy, toPys, PyData.eqv, PyData.eqvAll]
/-- the same twice -/
theorem eqD_same {x y : D} {S : List O} (h : rd S x = rd S y) (hx : okC (rd S x) = true) : eqD x y S = some (.bl true) := by
  have hp : plain (rd S x) = true := by unfold okC at hx; rw [Bool.and_eq_true] at hx; exact hx.1
  rw [eqD_ok hx (by rw [← h]; exact hx), ← h, eqv_refl _ hp]
theorem neD_same {x y : D} {S : List O} (h : rd S x = rd S y) (hx : okC (rd S x) = true) : neD x y S = some (.bl false) := by
  have hp : plain (rd S x) = true := by unfold okC at hx; rw [Bool.and_eq_true] at hx; exact hx.1
  rw [neD_ok hx (by rw [← h]; exact hx), ← h, eqv_refl _ hp]
  rfl

/-! ### the next draw -/
noncomputable def mNext : SD := (Sseq (Swh (M2 neD (M2 idxD (Mvar 0) (Mc (.int 0))) (Mfrz (Mdisp Mnil))) (Sseq (Sasg (.nm 2) (M2 idxD (M2 idxD (Mvar 0) (Mc (.int 0))) (Mc (.int 0)))) (Sseq (Sif (M2 gtD (Mvar 2) (Mc (.int 0))) (Sseq (Ssub (M2 idxD (Mvar 0) (Mc (.int 0))) (Mc (.int 0)) (M2 fdivD (Mvar 2) (Mvar 1))) (Sret (M2 modD (Mvar 2) (Mvar 1)))) Snx) (Sexp (Mlm1 popG (M2 idxD (Mvar 0) (Mc (.int 0))) (Mc (.int 0))))))) (Sseq (Ssub (Mvar 0) (Mc (.int 2)) (M2 addD (M2 idxD (Mvar 0) (Mc (.int 2))) (Mc (.int 1)))) (Sseq (Sasg (.nm 3) (M2 modD (M2 idxD (M2 idxD (Mvar 0) (Mc (.int 1))) (M2 modD (M2 idxD (Mvar 0) (Mc (.int 2))) (M1 lenG (M2 idxD (Mvar 0) (Mc (.int 1)))))) (Mc (.int 2147483647)))) (Sseq (Sasg (.nm 4) (M2 addD (M2 addD (M2 mulD (Mvar 3) (M2 addD (Mc (.int 48271)) (M2 mulD (Mc (.int 69621)) (M2 idxD (Mvar 0) (Mc (.int 2)))))) (M2 mulD (M2 mulD (Mc (.int 40014)) (M2 idxD (Mvar 0) (Mc (.int 2)))) (M2 idxD (Mvar 0) (Mc (.int 2))))) (Mc (.int 79)))) (Sseq (Sasg (.nm 4) (M2 modD (Mvar 4) (Mc (.int 2147483629)))) (Sret (M2 modD (M2 fdivD (M2 modD (M2 mulD (Mvar 4) (Mvar 4)) (Mc (.int 2147483587))) (Mc (.int 16))) (Mvar 1))))))))
noncomputable def φNext : Fn := gcF 2 5 mNext
def nextC : ED := M2 neD (M2 idxD (Mvar 0) (Mc (.int 0))) (Mfrz (Mdisp Mnil))
def nextB : SD := Sseq (Sasg (.nm 2) (M2 idxD (M2 idxD (Mvar 0) (Mc (.int 0))) (Mc (.int 0)))) (Sseq (Sif (M2 gtD (Mvar 2) (Mc (.int 0))) (Sseq (Ssub (M2 idxD (Mvar 0) (Mc (.int 0))) (Mc (.int 0)) (M2 fdivD (Mvar 2) (Mvar 1))) (Sret (M2 modD (Mvar 2) (Mvar 1)))) Snx) (Sexp (Mlm1 popG (M2 idxD (Mvar 0) (Mc (.int 0))) (Mc (.int 0)))))
theorem rd_0 {d : Dk} {r : List O} : rd (d.S r) (.ref 0) = .lst (d.big.map .int) := rfl
theorem rd_1 {d : Dk} {r : List O} : rd (d.S r) (.ref 1) = .lst (d.cells.map .int) := rfl
theorem rd_2 {d : Dk} {r : List O} : rd (d.S r) (.ref 2) = .lst [.ref 0, .ref 1, .int d.k] := rfl
theorem at_0 {d : Dk} {r : List O} : (d.S r)[0]? = some (.lst (d.big.map .int)) := rfl
theorem idx_0 {d : Dk} {r : List O} : idxD (.ref 2) (.int 0) (d.S r) = some (.ref 0) := by unfold idxD; rw [rd_2]; simp only [atI_0]; rfl
theorem idx_1 {d : Dk} {r : List O} : idxD (.ref 2) (.int 1) (d.S r) = some (.ref 1) := by unfold idxD; rw [rd_2]; simp only [atI_1]; rfl
theorem idx_2 {d : Dk} {r : List O} : idxD (.ref 2) (.int 2) (d.S r) = some (.int d.k) := by unfold idxD; rw [rd_2]; simp only [atI_2]; rfl
theorem pop_nat {ds : List D} {d : D} {k : Nat} (h : ds[k]? = some d) (hz : ds.length ≤ 16777216) : popG ds (.int k) = some (d, ds.eraseIdx k) := by
  have hk : k < ds.length := (List.getElem?_eq_some_iff.mp h).1
  have hs : seqIndex? (k : Int) ds.length = some k := by
    unfold seqIndex?
    simp
    omega
  unfold popG
  simp only [hs, h]
  rw [if_pos (by omega)]
theorem pop_0 {ds : List D} {x : D} : popG (x :: ds) (.int 0) = some (x, ds) := by
  have hs : seqIndex? (0 : Int) (x :: ds).length = some 0 := by
    unfold seqIndex?
    simp
  unfold popG
  simp only [hs, List.getElem?_cons_zero]
  rfl
theorem set_0c {b cells big : List Int} {k : Nat} {r : List O} {y : Int} : (Dk.S ⟨b, cells, k⟩ r).set 0 (.lst (.int y :: List.map .int big)) = Dk.S ⟨y :: big, cells, k⟩ r := rfl
theorem set_0 {b cells big : List Int} {k : Nat} {r : List O} : (Dk.S ⟨b, cells, k⟩ r).set 0 (.lst (List.map .int big)) = Dk.S ⟨big, cells, k⟩ r := rfl
theorem next_loop {many : Int} (h0 : 0 < many) (h1 : many < 2 ^ 64) (cells : List Int) (k : Nat) (r : List O) : ∀ (big : List Int) (e2 e3 e4 : Option D), (∀ x ∈ big, 0 ≤ x) →
    (∃ e2', Swh nextC nextB [some (.ref 2), some (.int many), e2, e3, e4] (Dk.S ⟨big, cells, k⟩ r) = .nx [some (.ref 2), some (.int many), e2', e3, e4] (Dk.S ⟨[], cells, k⟩ r)) ∨
    (∃ x big', Swh nextC nextB [some (.ref 2), some (.int many), e2, e3, e4] (Dk.S ⟨big, cells, k⟩ r) = .rt (.int x) (Dk.S ⟨big', cells, k⟩ r) ∧ 0 ≤ x ∧ x < many ∧ ∀ y ∈ big', 0 ≤ y)
  | [], e2, e3, e4, _ => by
    refine .inl ⟨e2, ?_⟩
    rw [Swh_step]
    generalize Swh nextC nextB = L
    unfold nextC
    simp only [Sseq, Sasg, Sif, Sret, Srtn, Sexp, Snx, Spar, Ssub, Sfor, Mvar, Mc, M1, M2, MN1, MN2, Mcons, Mnil, Mtup, Mfrz, Mnew, Mdisp, Mnot, Mand, Mor, Mif, Mchain, Mcall, Mlm1, Mm1, Nm1, Msl, Nsl, Mno, Mso, Misi, Misi2, Mfs, Mjs, Mfmt, Irng1, Irng2, Mit, Izip, Ienum, Nrng, MComp, wipeD, setP, setPs, Rs.bind_ok, Rs.bind_no, Rs.s_ok, Rs.s_no, Rs.nx_ok, Rs.nx_no, Ss.sq_nx, Ss.sq_rt, Ss.sq_no, optRs_some, optRs_none, optRl_some, optRl_none, optRi_some, Option.bind_some, Option.map_some, Option.bind_none, Option.map_none, List.getElem?_cons_zero, List.getElem?_cons_succ, List.set_cons_zero, List.set_cons_succ, List.length_cons, List.length_nil, Nat.zero_add, Nat.reduceAdd, Nat.reduceLeDiff, Nat.reduceSub, Nat.reduceEqDiff, if_true, if_false, ↓reduceIte, startD, List.map_cons, List.map_nil, List.cons_append, List.nil_append, List.replicate_succ, List.replicate_zero, Bool.not_true, Bool.not_false, Gd, idx_0, neD_nil (rd_0 (d := ⟨[], cells, k⟩) (r := r)), List.isEmpty_nil]
  | x :: big, e2, e3, e4, hb => by
    have hx := hb x (by simp)
    have idx00 : idxD (.ref 0) (.int 0) (Dk.S ⟨x :: big, cells, k⟩ r) = some (.int x) := by unfold idxD; rw [rd_0]; simp only [atI_0]; rfl
    by_cases h : 0 < x
    · refine .inr ⟨x % many, (x / many) :: big, ?_, Int.emod_nonneg _ (by omega), Int.emod_lt_of_pos _ h0, fun y hy => ?_⟩
      · rw [Swh_step]
        generalize Swh nextC nextB = L
        unfold nextC nextB
        simp only [Sseq, Sasg, Sif, Sret, Srtn, Sexp, Snx, Spar, Ssub, Sfor, Mvar, Mc, M1, M2, MN1, MN2, Mcons, Mnil, Mtup, Mfrz, Mnew, Mdisp, Mnot, Mand, Mor, Mif, Mchain, Mcall, Mlm1, Mm1, Nm1, Msl, Nsl, Mno, Mso, Misi, Misi2, Mfs, Mjs, Mfmt, Irng1, Irng2, Mit, Izip, Ienum, Nrng, MComp, wipeD, setP, setPs, Rs.bind_ok, Rs.bind_no, Rs.s_ok, Rs.s_no, Rs.nx_ok, Rs.nx_no, Ss.sq_nx, Ss.sq_rt, Ss.sq_no, optRs_some, optRs_none, optRl_some, optRl_none, optRi_some, Option.bind_some, Option.map_some, Option.bind_none, Option.map_none, List.getElem?_cons_zero, List.getElem?_cons_succ, List.set_cons_zero, List.set_cons_succ, List.length_cons, List.length_nil, Nat.zero_add, Nat.reduceAdd, Nat.reduceLeDiff, Nat.reduceSub, Nat.reduceEqDiff, if_true, if_false, ↓reduceIte, startD, List.map_cons, List.map_nil, List.cons_append, List.nil_append, List.replicate_succ, List.replicate_zero, Bool.not_true, Bool.not_false, Gd, idx_0, idx00, neD_nil (rd_0 (d := ⟨x :: big, cells, k⟩) (r := r)), List.isEmpty_cons, gtD, fdivD, modD, h, decide_true, h0, h1, and_self, at_0, ixN_0, set_0c]
      · rcases List.mem_cons.mp hy with rfl | hy
        · exact Int.ediv_nonneg hx (by omega)
        · exact hb y (by simp [hy])
    · have hx0 : x = 0 := by omega
      subst hx0
      have step : Swh nextC nextB [some (.ref 2), some (.int many), e2, e3, e4] (Dk.S ⟨0 :: big, cells, k⟩ r) = Swh nextC nextB [some (.ref 2), some (.int many), some (.int 0), e3, e4] (Dk.S ⟨big, cells, k⟩ r) := by
        rw [Swh_step]
        generalize Swh nextC nextB = L
        unfold nextC nextB
        simp only [Sseq, Sasg, Sif, Sret, Srtn, Sexp, Snx, Spar, Ssub, Sfor, Mvar, Mc, M1, M2, MN1, MN2, Mcons, Mnil, Mtup, Mfrz, Mnew, Mdisp, Mnot, Mand, Mor, Mif, Mchain, Mcall, Mlm1, Mm1, Nm1, Msl, Nsl, Mno, Mso, Misi, Misi2, Mfs, Mjs, Mfmt, Irng1, Irng2, Mit, Izip, Ienum, Nrng, MComp, wipeD, setP, setPs, Rs.bind_ok, Rs.bind_no, Rs.s_ok, Rs.s_no, Rs.nx_ok, Rs.nx_no, Ss.sq_nx, Ss.sq_rt, Ss.sq_no, optRs_some, optRs_none, optRl_some, optRl_none, optRi_some, Option.bind_some, Option.map_some, Option.bind_none, Option.map_none, List.getElem?_cons_zero, List.getElem?_cons_succ, List.set_cons_zero, List.set_cons_succ, List.length_cons, List.length_nil, Nat.zero_add, Nat.reduceAdd, Nat.reduceLeDiff, Nat.reduceSub, Nat.reduceEqDiff, if_true, if_false, ↓reduceIte, startD, List.map_cons, List.map_nil, List.cons_append, List.nil_append, List.replicate_succ, List.replicate_zero, Bool.not_true, Bool.not_false, Gd, idx_0, idx00, neD_nil (rd_0 (d := ⟨0 :: big, cells, k⟩) (r := r)), List.isEmpty_cons, gtD, Int.lt_irrefl, decide_false, at_0, pop_0, set_0]
      rw [step]
      exact next_loop h0 h1 cells k r big _ e3 e4 fun y hy => hb y (by simp [hy])
theorem Rok.len {d : Dk} {r : List O} : (d.S r).length = r.length + 3 := rfl
theorem take_deck {d : Dk} {r loc : List O} : (d.S (r ++ loc)).take (r.length + 3) = d.S r := by
  unfold Dk.S
  simp
mutual
theorem deref_plain {n : Nat} {S : List O} : ∀ {v : D}, plain v = true → derefD n S v = v
  | .non, _ => by simp [derefD]
  | .bl _, _ => by simp [derefD]
  | .int _, _ => by simp [derefD]
  | .str _, _ => by simp [derefD]
  | .tup ds, h => by unfold plain at h; simp [derefD, derefs_plain h]
  | .lst ds, h => by simp [derefD]
  | .scr _, h => by simp [plain] at h
  | .dct _ _, h => by simp [plain] at h
  | .ref _, h => by simp [plain] at h
  | .cls _, h => by simp [plain] at h
theorem derefs_plain {n : Nat} {S : List O} : ∀ {ds : List D}, plains ds = true → derefs n S ds = ds
  | [], _ => rfl
  | d :: ds, h => by
    unfold plains at h
    rw [Bool.and_eq_true] at h
    simp [derefs, deref_plain h.1, derefs_plain h.2]
end
mutual
theorem below_plain {n : Nat} : ∀ {v : D}, plain v = true → below n v = true
  | .non, _ => rfl
  | .bl _, _ => rfl
  | .int _, _ => rfl
  | .str _, _ => rfl
  | .tup ds, h => by unfold plain at h; unfold below; exact belows_plain h
  | .lst ds, h => by unfold plain at h; unfold below; exact belows_plain h
  | .scr _, h => by simp [plain] at h
  | .dct _ _, h => by simp [plain] at h
  | .ref _, h => by simp [plain] at h
  | .cls _, h => by simp [plain] at h
theorem belows_plain {n : Nat} : ∀ {ds : List D}, plains ds = true → belows n ds = true
  | [], _ => rfl
  | d :: ds, h => by
    unfold plains at h
    rw [Bool.and_eq_true] at h
    simp [belows, below_plain h.1, belows_plain h.2]
end
/-- a def's end over a deck -/
theorem gc_rt {n N : Nat} {m : SD} {ds : List D} {d d' : Dk} {r loc : List O} {v : D} (hn : ds.length = n) (hm : m (startD N ds) (d.S r) = .rt v (d'.S (r ++ loc))) (hr : Rok r) (hv : plain v = true) : gcF n N m ds (d.S r) = .ok v (d'.S r) := by
  have ok := okS_deck (d := d') hr
  rw [Rok.len] at ok
  have tk : ((d'.S r).take (r.length + 3)) = d'.S r := by rw [← Rok.len (d := d'), List.take_length]
  have ok2 : okS (r.length + 3) (d'.S (r ++ loc)) = true := by
    unfold okS at ok ⊢
    rw [take_deck]
    rw [tk] at ok
    exact ok
  unfold gcF
  rw [if_pos hn, hm]
  simp only [fin]
  rw [Rok.len, deref_plain hv, below_plain hv, ok2, take_deck]
  rfl
theorem gc_rt0 {n N : Nat} {m : SD} {ds : List D} {d d' : Dk} {r : List O} {v : D} (hn : ds.length = n) (hm : m (startD N ds) (d.S r) = .rt v (d'.S r)) (hr : Rok r) (hv : plain v = true) : gcF n N m ds (d.S r) = .ok v (d'.S r) :=
  gc_rt (loc := []) hn (by rw [List.append_nil]; exact hm) hr hv
theorem gc_nx0 {n N : Nat} {m : SD} {ds : List D} {d d' : Dk} {env : DEnv} {r : List O} (hn : ds.length = n) (hm : m (startD N ds) (d.S r) = .nx env (d'.S r)) (hr : Rok r) : gcF n N m ds (d.S r) = .ok .non (d'.S r) := by
  have ok := okS_deck (d := d') hr
  rw [Rok.len] at ok
  have tk : ((d'.S r).take (r.length + 3)) = d'.S r := by rw [← Rok.len (d := d'), List.take_length]
  unfold gcF
  rw [if_pos hn, hm]
  simp only [fin]
  rw [Rok.len, ok, tk]
  rfl
theorem mul_l {i j : Int} {S : List O} (h : sm64 i = true) : mulD (.int i) (.int j) S = some (.int (i * j)) := by unfold mulD; simp [h]
theorem mul_r {i j : Int} {S : List O} (h : sm64 j = true) : mulD (.int i) (.int j) S = some (.int (i * j)) := by unfold mulD; simp [h]
theorem add_int {i j : Int} {S : List O} : addD (.int i) (.int j) S = some (.int (i + j)) := rfl
theorem sub_int {i j : Int} {S : List O} : subD (.int i) (.int j) S = some (.int (i - j)) := rfl
theorem mod_int {i j : Int} {S : List O} (h : 0 < j) : modD (.int i) (.int j) S = some (.int (i % j)) := by unfold modD; simp [h]
theorem fdiv_int {i j : Int} {S : List O} (h : 0 < j) (h' : j < 2 ^ 64) : fdivD (.int i) (.int j) S = some (.int (i / j)) := by unfold fdivD; simp only []; rw [if_pos ⟨h, h'⟩]
theorem sm_of {i : Int} (h0 : 0 ≤ i) (h1 : i < 2 ^ 64) : sm64 i = true := by unfold sm64; simp; omega
theorem at_2 {d : Dk} {r : List O} : (d.S r)[2]? = some (.lst [.ref 0, .ref 1, .int d.k]) := rfl
theorem set_2 {b cells : List Int} {k : Nat} {r : List O} : (Dk.S ⟨b, cells, k⟩ r).set 2 (.lst [.ref 0, .ref 1, .int ((k : Int) + 1)]) = Dk.S ⟨b, cells, k + 1⟩ r := rfl
theorem ixN_2 : ixN 3 2 = some 2 := by decide
theorem len_1 {d : Dk} {r : List O} : lenG (.ref 1) (d.S r) = some (.int d.cells.length) := by unfold lenG; rw [rd_1]; simp
theorem seq_nx {a b : SD} {env env' : DEnv} {S S' : List O} (h : a env S = .nx env' S') : Sseq a b env S = b env' S' := by unfold Sseq; rw [h]; rfl
/-- THE DRAW -/
theorem next_ok {d : Dk} {c : Nat} {r : List O} {many : Int} (hd : d.ok c) (hc : c < 2 ^ 60) (hr : Rok r) (h0 : 0 < many) (h1 : many < 2 ^ 64) :
    ∃ (x : Int) (d' : Dk), φNext [.ref 2, .int many] (d.S r) = .ok (.int x) (d'.S r) ∧ d'.ok (c + 1) ∧ 0 ≤ x ∧ x < many := by
  obtain ⟨big, cells, k⟩ := d
  have hcn : cells ≠ [] := hd.ne
  have hk : k ≤ c := hd.k
  have main : ∃ (x : Int) (d' : Dk), mNext [some (.ref 2), some (.int many), none, none, none] (Dk.S ⟨big, cells, k⟩ r) = .rt (.int x) (d'.S r) ∧ d'.ok (c + 1) ∧ 0 ≤ x ∧ x < many := by
    rcases next_loop h0 h1 cells k r big none none none hd.big with ⟨e2', h⟩ | ⟨x, big', h, hx0, hx1, hb⟩
    · have hl : (0 : Int) < cells.length := by
        cases cells with
        | nil => exact (hcn rfl).elim
        | cons a b => simp
      have hn0 := Int.emod_nonneg (((k + 1 : Nat) : Int)) (by omega : (cells.length : Int) ≠ 0)
      have hn1 := Int.emod_lt_of_pos (((k + 1 : Nat) : Int)) hl
      have hi : ∃ v, cells[(((k + 1 : Nat) : Int) % cells.length).toNat]? = some v ∧ 0 ≤ v := by
        have h2 : (((k + 1 : Nat) : Int) % cells.length).toNat < cells.length := by omega
        exact ⟨_, List.getElem?_eq_getElem h2, hd.cells _ (List.getElem_mem h2)⟩
      obtain ⟨v, hv, hv0⟩ := hi
      have idx1 : idxD (.ref 1) (.int (((k + 1 : Nat) : Int) % cells.length)) (Dk.S ⟨[], cells, k + 1⟩ r) = some (.int v) := by
        unfold idxD
        rw [rd_1]
        have e : (((k + 1 : Nat) : Int) % cells.length) = (((((k + 1 : Nat) : Int) % cells.length).toNat : Nat) : Int) := by omega
        dsimp only
        rw [e, atI_nat, List.getElem?_map, hv]
        rfl
      have b1 := Int.emod_nonneg v (by decide : (2147483647 : Int) ≠ 0)
      have b2 := Int.emod_lt_of_pos v (by decide : (0 : Int) < 2147483647)
      generalize hw : v % 2147483647 = w at b1 b2
      have kk : sm64 ((k + 1 : Nat) : Int) = true := sm_of (by omega) (by omega)
      have b3 := fun x : Int => Int.emod_nonneg x (by decide : (2147483629 : Int) ≠ 0)
      have b4 := fun x : Int => Int.emod_lt_of_pos x (by decide : (0 : Int) < 2147483629)
      generalize hK : ((k + 1 : Nat) : Int) = K at idx1 kk
      have S1 : ∀ e2 : Option D, Ssub (Mvar 0) (Mc (.int 2)) (M2 addD (M2 idxD (Mvar 0) (Mc (.int 2))) (Mc (.int 1))) [some (.ref 2), some (.int many), e2, none, none] (Dk.S ⟨[], cells, k⟩ r) = .nx [some (.ref 2), some (.int many), e2, none, none] (Dk.S ⟨[], cells, k + 1⟩ r) := fun e2 => by
        simp only [Sseq, Sasg, Sif, Sret, Srtn, Sexp, Snx, Spar, Ssub, Sfor, Mvar, Mc, M1, M2, MN1, MN2, Mcons, Mnil, Mtup, Mfrz, Mnew, Mdisp, Mnot, Mand, Mor, Mif, Mchain, Mcall, Mlm1, Mm1, Nm1, Msl, Nsl, Mno, Mso, Misi, Misi2, Mfs, Mjs, Mfmt, Irng1, Irng2, Mit, Izip, Ienum, Nrng, MComp, wipeD, setP, setPs, Rs.bind_ok, Rs.bind_no, Rs.s_ok, Rs.s_no, Rs.nx_ok, Rs.nx_no, Ss.sq_nx, Ss.sq_rt, Ss.sq_no, optRs_some, optRs_none, optRl_some, optRl_none, optRi_some, Option.bind_some, Option.map_some, Option.bind_none, Option.map_none, List.getElem?_cons_zero, List.getElem?_cons_succ, List.set_cons_zero, List.set_cons_succ, List.length_cons, List.length_nil, Nat.zero_add, Nat.reduceAdd, Nat.reduceLeDiff, Nat.reduceSub, Nat.reduceEqDiff, if_true, if_false, ↓reduceIte, startD, List.map_cons, List.map_nil, List.cons_append, List.nil_append, List.replicate_succ, List.replicate_zero, Bool.not_true, Bool.not_false, Gd, idx_2, at_2, ixN_2, set_2, add_int]
      have idx2 : idxD (.ref 2) (.int 2) (Dk.S ⟨[], cells, k + 1⟩ r) = some (.int K) := by rw [idx_2]; exact congrArg (fun z => some (D.int z)) hK
      rw [hK] at hn0 hn1
      have S2 : ∀ e2 : Option D, Sasg (.nm 3) (M2 modD (M2 idxD (M2 idxD (Mvar 0) (Mc (.int 1))) (M2 modD (M2 idxD (Mvar 0) (Mc (.int 2))) (M1 lenG (M2 idxD (Mvar 0) (Mc (.int 1)))))) (Mc (.int 2147483647))) [some (.ref 2), some (.int many), e2, none, none] (Dk.S ⟨[], cells, k + 1⟩ r) = .nx [some (.ref 2), some (.int many), e2, some (.int w), none] (Dk.S ⟨[], cells, k + 1⟩ r) := fun e2 => by
        simp only [Sseq, Sasg, Sif, Sret, Srtn, Sexp, Snx, Spar, Ssub, Sfor, Mvar, Mc, M1, M2, MN1, MN2, Mcons, Mnil, Mtup, Mfrz, Mnew, Mdisp, Mnot, Mand, Mor, Mif, Mchain, Mcall, Mlm1, Mm1, Nm1, Msl, Nsl, Mno, Mso, Misi, Misi2, Mfs, Mjs, Mfmt, Irng1, Irng2, Mit, Izip, Ienum, Nrng, MComp, wipeD, setP, setPs, Rs.bind_ok, Rs.bind_no, Rs.s_ok, Rs.s_no, Rs.nx_ok, Rs.nx_no, Ss.sq_nx, Ss.sq_rt, Ss.sq_no, optRs_some, optRs_none, optRl_some, optRl_none, optRi_some, Option.bind_some, Option.map_some, Option.bind_none, Option.map_none, List.getElem?_cons_zero, List.getElem?_cons_succ, List.set_cons_zero, List.set_cons_succ, List.length_cons, List.length_nil, Nat.zero_add, Nat.reduceAdd, Nat.reduceLeDiff, Nat.reduceSub, Nat.reduceEqDiff, if_true, if_false, ↓reduceIte, startD, List.map_cons, List.map_nil, List.cons_append, List.nil_append, List.replicate_succ, List.replicate_zero, Bool.not_true, Bool.not_false, Gd, idx2, idx_1, idx1, len_1, mod_int hl, mod_int (by decide : (0 : Int) < 2147483647), hw]
      have m1 : ∀ S, mulD (.int 69621) (.int K) S = some (.int (69621 * K)) := fun S => mul_r kk
      have m2 : ∀ S, mulD (.int 40014) (.int K) S = some (.int (40014 * K)) := fun S => mul_r kk
      have m3 : ∀ x S, mulD (.int x) (.int K) S = some (.int (x * K)) := fun x S => mul_r kk
      have m4 : ∀ x S, mulD (.int w) (.int x) S = some (.int (w * x)) := fun x S => mul_l (sm_of b1 (by omega))
      have S3 : ∀ (a1 a2 a3 a4 : Int) (e2 : Option D), ∃ y : Int, Sasg (.nm 4) (M2 addD (M2 addD (M2 mulD (Mvar 3) (M2 addD (Mc (.int a1)) (M2 mulD (Mc (.int a2)) (M2 idxD (Mvar 0) (Mc (.int 2)))))) (M2 mulD (M2 mulD (Mc (.int a3)) (M2 idxD (Mvar 0) (Mc (.int 2)))) (M2 idxD (Mvar 0) (Mc (.int 2))))) (Mc (.int a4))) [some (.ref 2), some (.int many), e2, some (.int w), none] (Dk.S ⟨[], cells, k + 1⟩ r) = .nx [some (.ref 2), some (.int many), e2, some (.int w), some (.int y)] (Dk.S ⟨[], cells, k + 1⟩ r) := fun a1 a2 a3 a4 e2 => by
        refine ⟨w * (a1 + a2 * K) + a3 * K * K + a4, ?_⟩
        simp only [Sseq, Sasg, Sif, Sret, Srtn, Sexp, Snx, Spar, Ssub, Sfor, Mvar, Mc, M1, M2, MN1, MN2, Mcons, Mnil, Mtup, Mfrz, Mnew, Mdisp, Mnot, Mand, Mor, Mif, Mchain, Mcall, Mlm1, Mm1, Nm1, Msl, Nsl, Mno, Mso, Misi, Misi2, Mfs, Mjs, Mfmt, Irng1, Irng2, Mit, Izip, Ienum, Nrng, MComp, wipeD, setP, setPs, Rs.bind_ok, Rs.bind_no, Rs.s_ok, Rs.s_no, Rs.nx_ok, Rs.nx_no, Ss.sq_nx, Ss.sq_rt, Ss.sq_no, optRs_some, optRs_none, optRl_some, optRl_none, optRi_some, Option.bind_some, Option.map_some, Option.bind_none, Option.map_none, List.getElem?_cons_zero, List.getElem?_cons_succ, List.set_cons_zero, List.set_cons_succ, List.length_cons, List.length_nil, Nat.zero_add, Nat.reduceAdd, Nat.reduceLeDiff, Nat.reduceSub, Nat.reduceEqDiff, if_true, if_false, ↓reduceIte, startD, List.map_cons, List.map_nil, List.cons_append, List.nil_append, List.replicate_succ, List.replicate_zero, Bool.not_true, Bool.not_false, Gd, idx2, m3, m4, add_int]
      have S4 : ∀ (e2 : Option D) (y : Int), Sasg (.nm 4) (M2 modD (Mvar 4) (Mc (.int 2147483629))) [some (.ref 2), some (.int many), e2, some (.int w), some (.int y)] (Dk.S ⟨[], cells, k + 1⟩ r) = .nx [some (.ref 2), some (.int many), e2, some (.int w), some (.int (y % 2147483629))] (Dk.S ⟨[], cells, k + 1⟩ r) := fun e2 y => by
        simp only [Sseq, Sasg, Sif, Sret, Srtn, Sexp, Snx, Spar, Ssub, Sfor, Mvar, Mc, M1, M2, MN1, MN2, Mcons, Mnil, Mtup, Mfrz, Mnew, Mdisp, Mnot, Mand, Mor, Mif, Mchain, Mcall, Mlm1, Mm1, Nm1, Msl, Nsl, Mno, Mso, Misi, Misi2, Mfs, Mjs, Mfmt, Irng1, Irng2, Mit, Izip, Ienum, Nrng, MComp, wipeD, setP, setPs, Rs.bind_ok, Rs.bind_no, Rs.s_ok, Rs.s_no, Rs.nx_ok, Rs.nx_no, Ss.sq_nx, Ss.sq_rt, Ss.sq_no, optRs_some, optRs_none, optRl_some, optRl_none, optRi_some, Option.bind_some, Option.map_some, Option.bind_none, Option.map_none, List.getElem?_cons_zero, List.getElem?_cons_succ, List.set_cons_zero, List.set_cons_succ, List.length_cons, List.length_nil, Nat.zero_add, Nat.reduceAdd, Nat.reduceLeDiff, Nat.reduceSub, Nat.reduceEqDiff, if_true, if_false, ↓reduceIte, startD, List.map_cons, List.map_nil, List.cons_append, List.nil_append, List.replicate_succ, List.replicate_zero, Bool.not_true, Bool.not_false, Gd, mod_int (by decide : (0 : Int) < 2147483629)]
      have S5 : ∀ (e2 : Option D) (z : Int), 0 ≤ z → z < 2147483629 → ∃ y : Int, Sret (M2 modD (M2 fdivD (M2 modD (M2 mulD (Mvar 4) (Mvar 4)) (Mc (.int 2147483587))) (Mc (.int 16))) (Mvar 1)) [some (.ref 2), some (.int many), e2, some (.int w), some (.int z)] (Dk.S ⟨[], cells, k + 1⟩ r) = .rt (.int (y % many)) (Dk.S ⟨[], cells, k + 1⟩ r) := fun e2 z z0 z1 => by
        have m5 : ∀ S, mulD (.int z) (.int z) S = some (.int (z * z)) := fun S => mul_l (sm_of z0 (by omega))
        refine ⟨z * z % 2147483587 / 16, ?_⟩
        simp only [Sseq, Sasg, Sif, Sret, Srtn, Sexp, Snx, Spar, Ssub, Sfor, Mvar, Mc, M1, M2, MN1, MN2, Mcons, Mnil, Mtup, Mfrz, Mnew, Mdisp, Mnot, Mand, Mor, Mif, Mchain, Mcall, Mlm1, Mm1, Nm1, Msl, Nsl, Mno, Mso, Misi, Misi2, Mfs, Mjs, Mfmt, Irng1, Irng2, Mit, Izip, Ienum, Nrng, MComp, wipeD, setP, setPs, Rs.bind_ok, Rs.bind_no, Rs.s_ok, Rs.s_no, Rs.nx_ok, Rs.nx_no, Ss.sq_nx, Ss.sq_rt, Ss.sq_no, optRs_some, optRs_none, optRl_some, optRl_none, optRi_some, Option.bind_some, Option.map_some, Option.bind_none, Option.map_none, List.getElem?_cons_zero, List.getElem?_cons_succ, List.set_cons_zero, List.set_cons_succ, List.length_cons, List.length_nil, Nat.zero_add, Nat.reduceAdd, Nat.reduceLeDiff, Nat.reduceSub, Nat.reduceEqDiff, if_true, if_false, ↓reduceIte, startD, List.map_cons, List.map_nil, List.cons_append, List.nil_append, List.replicate_succ, List.replicate_zero, Bool.not_true, Bool.not_false, Gd, m5, mod_int (by decide : (0 : Int) < 2147483587), fdiv_int (by decide : (0 : Int) < 16) (by decide), mod_int h0]
      obtain ⟨y3, S3⟩ := S3 48271 69621 40014 79 e2'
      obtain ⟨y5, S5⟩ := S5 e2' (y3 % 2147483629) (b3 _) (b4 _)
      have goal : ∃ x : Int, mNext [some (.ref 2), some (.int many), none, none, none] (Dk.S ⟨big, cells, k⟩ r) = .rt (.int (x % many)) (Dk.S ⟨[], cells, k + 1⟩ r) := by
        refine ⟨y5, ?_⟩
        refine (show mNext _ _ = _ from seq_nx h).trans ?_
        rw [seq_nx (S1 e2'), seq_nx (S2 e2'), seq_nx S3, seq_nx (S4 e2' y3)]
        exact S5
      obtain ⟨x, hx⟩ := goal
      exact ⟨_, _, hx, ⟨fun _ z => (by cases z), hd.cells, hcn, (by show k + 1 ≤ c + 1; omega)⟩, Int.emod_nonneg _ (by omega), Int.emod_lt_of_pos _ h0⟩
    · refine ⟨x, ⟨big', cells, k⟩, ?_, ⟨hb, hd.cells, hcn, Nat.le_succ_of_le hk⟩, hx0, hx1⟩
      show (Swh nextC nextB _ _).sq _ = _
      rw [h]
      rfl
  obtain ⟨x, d', e, h2, h3, h4⟩ := main
  exact ⟨x, d', gc_rt0 rfl e hr rfl, h2, h3, h4⟩
end PB

set_option Elab.async false
set_option linter.all false
set_option maxRecDepth 100000
set_option maxHeartbeats 4000000

namespace PB
open PySem PySem.Spec PyProof.Rows L2

/-! ### the drawing defs -/
noncomputable def mOne : SD := (Sret (M2 idxD (Mvar 1) (Mcall 2 φNext (Mcons (Mvar 0) (Mcons (M1 lenG (Mvar 1)) Mnil)))))
noncomputable def φOne : Fn := gcF 2 2 mOne
noncomputable def mPart : SD := (Sret (M1 tupG (Mfrz (MComp (Mit (Mvar 1)) (.nm 3) (some (M2 geD (Mcall 2 φNext (Mcons (Mvar 0) (Mcons (Mc (.int 4)) Mnil))) (Mvar 2))) (Mvar 3) [3]))))
noncomputable def φPart : Fn := gcF 3 4 mPart
noncomputable def mShuf : SD := (Sseq (Spar 2 3 (Mcons (Mnew (Nrng (Mvar 1))) (Mcons (Mnew (Mdisp Mnil)) Mnil))) (Sseq (Swh (M2 neD (Mvar 2) (Mfrz (Mdisp Mnil))) (Sexp (Mlm1 appG (Mvar 3) (Mlm1 popG (Mvar 2) (Mcall 2 φNext (Mcons (Mvar 0) (Mcons (M1 lenG (Mvar 2)) Mnil))))))) (Sret (M1 tupG (Mvar 3)))))
noncomputable def φShuf : Fn := gcF 2 4 mShuf
noncomputable def mIntv : SD := (Sseq (Spar 3 4 (Mcons (Mcall 2 φShuf (Mcons (Mvar 0) (Mcons (Mvar 1) Mnil))) (Mcons (Mnew (Mdisp Mnil)) Mnil))) (Sseq (Sfor (Irng1 (Mvar 2)) (.nm 5) (Sseq (Sasg (.nm 6) (Mcall 2 φNext (Mcons (Mvar 0) (Mcons (Mvar 1) Mnil)))) (Sexp (Mlm1 appG (Mvar 4) (M1 tupG (Mfrz (MN1 sortG (Msl (Mvar 3) (Mso (Mvar 6)) (Mso (M2 addD (M2 addD (Mvar 6) (Mc (.int 1))) (Mcall 2 φNext (Mcons (Mvar 0) (Mcons (Mvar 1) Mnil))))))))))))) (Sret (Mtup (Mcons (Mvar 1) (Mcons (M1 tupG (Mvar 4)) Mnil))))))
noncomputable def φIntv : Fn := gcF 3 7 mIntv
noncomputable def mArnd : SD := (Sseq (Spar 3 4 (Mcons (Mcall 2 φShuf (Mcons (Mvar 0) (Mcons (Mvar 1) Mnil))) (Mcons (M2 addD (Mc (.int 3)) (Mcall 2 φNext (Mcons (Mvar 0) (Mcons (Mc (.int 3)) Mnil)))) Mnil))) (Sseq (Sasg (.nm 5) (Mnew (Mdisp Mnil))) (Sseq (Sfor (Irng1 (Mvar 2)) (.nm 6) (Sif (Mand (M2 leD (Mvar 4) (Mvar 1)) (M2 ltD (Mvar 6) (Mvar 4))) (Sexp (Mlm1 appG (Mvar 5) (M1 tupG (Mfrz (MN1 sortG (Mfrz (MN2 catN (Mfrz (Mdisp (Mcons (M2 idxD (Mvar 3) (Mvar 6)) (Mcons (M2 idxD (Mvar 3) (M2 modD (M2 addD (Mvar 6) (Mc (.int 1))) (Mvar 4))) Mnil)))) (Mfrz (MN1 listG (Mcall 3 φPart (Mcons (Mvar 0) (Mcons (Msl (Mvar 3) (Mso (Mvar 4)) Mno) (Mcons (Mc (.int 3)) Mnil))))))))))))) (Sexp (Mlm1 appG (Mvar 5) (Mcall 3 φPart (Mcons (Mvar 0) (Mcons (Mfrz (Nrng (Mvar 1))) (Mcons (M2 addD (Mc (.int 1)) (Mcall 2 φNext (Mcons (Mvar 0) (Mcons (Mc (.int 3)) Mnil)))) Mnil)))))))) (Sret (Mtup (Mcons (Mvar 1) (Mcons (M1 tupG (Mfrz (MComp (Irng1 (Mvar 2)) (.nm 6) none (Mlm1 popG (Mvar 5) (Mcall 2 φNext (Mcons (Mvar 0) (Mcons (M1 lenG (Mvar 5)) Mnil)))) [6]))) Mnil)))))))
noncomputable def φArnd : Fn := gcF 3 7 mArnd
noncomputable def mAny : SD := (Sseq (Spar 3 4 (Mcons (Mcall 2 φNext (Mcons (Mvar 0) (Mcons (Mc (.int 4)) Mnil))) (Mcons (Mnew (Mdisp Mnil)) Mnil))) (Sseq (Sfor (Irng1 (Mvar 2)) (.nm 5) (Sif (Mand (M2 neD (Mvar 4) (Mfrz (Mdisp Mnil))) (M2 eqD (Mcall 2 φNext (Mcons (Mvar 0) (Mcons (Mc (.int 6)) Mnil))) (Mc (.int 0)))) (Sexp (Mlm1 appG (Mvar 4) (Mcall 2 φOne (Mcons (Mvar 0) (Mcons (Mvar 4) Mnil))))) (Sexp (Mlm1 appG (Mvar 4) (Mcall 3 φPart (Mcons (Mvar 0) (Mcons (Mfrz (Nrng (Mvar 1))) (Mcons (Mvar 3) Mnil)))))))) (Sret (Mtup (Mcons (Mvar 1) (Mcons (M1 tupG (Mvar 4)) Mnil))))))
noncomputable def φAny : Fn := gcF 3 6 mAny
noncomputable def mTabl : SD := (Sseq (Spar 1 2 (Mcons (M2 addD (Mc (.int 1)) (Mcall 2 φNext (Mcons (Mvar 0) (Mcons (Mvar 1) Mnil)))) (Mcons (Mcall 2 φNext (Mcons (Mvar 0) (Mcons (M2 addD (Mvar 2) (Mc (.int 1))) Mnil))) Mnil))) (Sseq (Sasg (.nm 3) (Mcall 2 φNext (Mcons (Mvar 0) (Mcons (Mc (.int 5)) Mnil)))) (Sseq (Sif (M2 ltD (Mvar 3) (Mc (.int 2))) (Sret (Mcall 3 φIntv (Mcons (Mvar 0) (Mcons (Mvar 1) (Mcons (Mvar 2) Mnil))))) Snx) (Sret (Mif (M2 eqD (Mvar 3) (Mc (.int 2))) (Mcall 3 φArnd (Mcons (Mvar 0) (Mcons (Mvar 1) (Mcons (Mvar 2) Mnil)))) (Mcall 3 φAny (Mcons (Mvar 0) (Mcons (Mvar 1) (Mcons (Mvar 2) Mnil)))))))))
noncomputable def φTabl : Fn := gcF 3 4 mTabl
noncomputable def mAmnt : SD := (Sret (M2 idxD (Mfrz (Mdisp (Mcons (Mc (.int 0)) (Mcons (Mc (.int 1)) (Mcons (Mcall 2 φNext (Mcons (Mvar 0) (Mcons (Mc (.int 4)) Mnil))) (Mcons (Mcall 2 φNext (Mcons (Mvar 0) (Mcons (Mc (.int 12)) Mnil))) (Mcons (Mcall 2 φNext (Mcons (Mvar 0) (Mcons (M2 addD (M2 powD (Mc (.int 10)) (Mc (.int 12))) (Mc (.int 1))) Mnil))) (Mcons (M2 powD (Mc (.int 10)) (Mc (.int 12))) Mnil)))))))) (Mcall 2 φNext (Mcons (Mvar 0) (Mcons (Mc (.int 6)) Mnil)))))
noncomputable def φAmnt : Fn := gcF 1 1 mAmnt
noncomputable def mData : SD := (Sseq (Sasg (.nm 2) (M2 idxD (Mfrz (Mdisp (Mcons (Mc (.int 3)) (Mcons (Mc (.int 12)) (Mcons (Mc (.int 0)) Mnil))))) (Mcall 2 φNext (Mcons (Mvar 0) (Mcons (Mc (.int 3)) Mnil))))) (Sseq (Sasg (.nm 3) (M2 addD (M2 idxD (Mvar 1) (Mc (.int 0))) (M1 lenG (M2 idxD (Mvar 1) (Mc (.int 1)))))) (Sseq (Sasg (.nm 4) (Mfrz (MComp (Irng1 (Mvar 3)) (.nm 5) none (Mcall 2 φNext (Mcons (Mvar 0) (Mcons (M2 addD (Mvar 2) (Mc (.int 1))) Mnil))) [5]))) (Sseq (Sif (M2 eqD (Mvar 2) (Mc (.int 0))) (Sasg (.nm 4) (Mfrz (MComp (Irng1 (Mvar 3)) (.nm 5) none (Mcall 1 φAmnt (Mcons (Mvar 0) Mnil)) [5]))) Snx) (Sret (Mtup (Mcons (M1 tupG (Mfrz (Nsl (Mvar 4) (Mso (M2 idxD (Mvar 1) (Mc (.int 0)))) Mno))) (Mcons (M1 tupG (Mfrz (Nsl (Mvar 4) Mno (Mso (M2 idxD (Mvar 1) (Mc (.int 0))))))) Mnil))))))))
noncomputable def φData : Fn := gcF 2 6 mData
noncomputable def mDeck : SD := (Sseq (Sasg (.nm 1) (Mfrz (MComp (Mit (Mvar 0)) (.nm 2) none (M1 absG (Mvar 2)) [2]))) (Sret (Mnew (Mdisp (Mcons (Mnew (MComp (Mit (Mvar 1)) (.nm 2) (some (M2 geD (Mvar 2) (M2 powD (Mc (.int 10)) (Mc (.int 18))))) (Mvar 2) [2])) (Mcons (Mnew (MN2 catN (Mvar 1) (Mfrz (Mdisp (Mcons (M2 addD (M1 lenG (Mvar 1)) (Mc (.int 7))) Mnil))))) (Mcons (Mc (.int 0)) Mnil)))))))
noncomputable def φDeck : Fn := kpF 1 3 mDeck
noncomputable def mText : SD := (Sseq (Sasg (.nm 3) (Mnew (MComp (Mit (Mvar 2)) (.nm 6) none (M2 addD (Mc (.str "demand ")) (M1 strG (Mvar 6))) [6]))) (Sseq (Sfor (Izip (M2 idxD (Mvar 0) (Mc (.int 1))) (Mvar 1)) (.tp [(.nm 4), (.nm 5)]) (Sexp (Mlm1 appG (Mvar 3) (Mm1 joinG (Mc (.str " ")) (Mfrz (MN2 catN (Mfrz (Mdisp (Mcons (Mc (.str "offer")) (Mcons (M1 strG (Mvar 5)) Mnil)))) (Mfrz (MComp (Mit (Mvar 4)) (.nm 7) none (M1 strG (Mvar 7)) [7])))))))) (Sret (Mm1 joinG (Mc (.str "")) (Mfrz (MComp (Mit (Mvar 3)) (.nm 8) none (M2 addD (Mvar 8) (Mc (.str "\n"))) [8]))))))
noncomputable def φText : Fn := gcF 3 9 mText
noncomputable def mSame (φ : Fn) : SD := (Sseq (Sif (Misi2 (Mvar 1) "tuple" "list") (Sseq (Sif (M2 neD (Misi (Mvar 0) "tuple") (Misi (Mvar 1) "tuple")) (Sret (Mc (.bl false))) Snx) (Sseq (Sif (M2 neD (Misi (Mvar 0) "list") (Misi (Mvar 1) "list")) (Sret (Mc (.bl false))) Snx) (Sseq (Sif (M2 neD (M1 lenG (Mvar 0)) (M1 lenG (Mvar 1))) (Sret (Mc (.bl false))) Snx) (Sret (M2 eqD (Mfrz (MComp (Irng1 (M1 lenG (Mvar 1))) (.nm 2) (some (Mnot (Mcall 2 φ (Mcons (M2 idxD (Mvar 0) (Mvar 2)) (Mcons (M2 idxD (Mvar 1) (Mvar 2)) Mnil))))) (Mvar 2) [2])) (Mfrz (Mdisp Mnil))))))) Snx) (Sseq (Sif (Misi (Mvar 1) "dict") (Sret (Mand (Misi (Mvar 0) "dict") (M2 eqD (Mvar 0) (Mvar 1)))) Snx) (Sseq (Sif (M2 isND (Mvar 1) (Mc .non)) (Sret (M2 isND (Mvar 0) (Mc .non))) Snx) (Sseq (Sif (Misi (Mvar 1) "str") (Sret (Mand (Misi (Mvar 0) "str") (M2 eqD (Mvar 0) (Mvar 1)))) Snx) (Sret (Mand (Misi (Mvar 0) "int") (Mand (M2 eqD (Misi (Mvar 0) "bool") (Misi (Mvar 1) "bool")) (M2 eqD (Mvar 0) (Mvar 1)))))))))

/-! ### stores over a deck -/
theorem at_loc {d : Dk} {r l : List O} {x : O} : (d.S (r ++ x :: l))[r.length + 3]? = some x := by
  unfold Dk.S
  simp
theorem at_loc1 {d : Dk} {r l : List O} {x y : O} : (d.S (r ++ x :: y :: l))[r.length + 3 + 1]? = some y := by
  unfold Dk.S
  simp
theorem set_loc {d : Dk} {r l : List O} {x z : O} : (d.S (r ++ x :: l)).set (r.length + 3) z = d.S (r ++ z :: l) := by
  unfold Dk.S
  simp
theorem set_loc1 {d : Dk} {r l : List O} {x y z : O} : (d.S (r ++ x :: y :: l)).set (r.length + 3 + 1) z = d.S (r ++ x :: z :: l) := by
  unfold Dk.S
  simp [List.set_append]
theorem len_S {d : Dk} {r : List O} : (d.S r).length = r.length + 3 := rfl
theorem app_S {d : Dk} {r l : List O} : d.S r ++ l = d.S (r ++ l) := rfl
mutual
theorem below_up {n m : Nat} (h : n ≤ m) : ∀ {v : D}, below n v = true → below m v = true
  | .non, _ => rfl
  | .bl _, _ => rfl
  | .int _, _ => rfl
  | .str _, _ => rfl
  | .cls _, _ => rfl
  | .ref l, b => by unfold below at b ⊢; have := of_decide_eq_true b; exact decide_eq_true (by omega)
  | .tup ds, b => by unfold below at b ⊢; exact belows_up h b
  | .lst ds, b => by unfold below at b ⊢; exact belows_up h b
  | .scr ds, b => by unfold below at b ⊢; exact belows_up h b
  | .dct _ ds, b => by unfold below at b ⊢; exact belows_up h b
theorem belows_up {n m : Nat} (h : n ≤ m) : ∀ {ds : List D}, belows n ds = true → belows m ds = true
  | [], _ => rfl
  | d :: ds, b => by
    unfold belows at b ⊢
    rw [Bool.and_eq_true] at b
    rw [below_up h b.1, belows_up h b.2]
    rfl
end
theorem belowO_up {n m : Nat} (h : n ≤ m) : ∀ {o : O}, belowO n o = true → belowO m o = true
  | .lst _, b => by unfold belowO at b ⊢; exact belows_up h b
  | .dct _ _, b => by unfold belowO at b ⊢; exact belows_up h b
  | .ins _ _, b => by unfold belowO at b ⊢; exact belows_up h b
/-- lists of plain data -/
def plainO : O → Bool | .lst ds => plains ds | _ => false
theorem Rok.app {r l : List O} (h : Rok r) (hl : l.all plainO = true) : Rok (r ++ l) := by
  unfold Rok at h ⊢
  rw [List.all_append, Bool.and_eq_true]
  refine ⟨List.all_eq_true.mpr fun o ho => belowO_up (by simp) (List.all_eq_true.mp h o ho), List.all_eq_true.mpr fun o ho => ?_⟩
  have q := List.all_eq_true.mp hl o ho
  cases o with
  | lst ds => exact belows_plain (by simpa [plainO] using q)
  | dct ks ds => simp [plainO] at q
  | ins c fs => simp [plainO] at q
theorem Rok.nil : Rok [] := rfl

/-! ### loops -/
theorem forD_inv {p : Pat} {b : SD} (I : Nat → DEnv → List O → Prop) : ∀ (ds : List D) (i : Nat) (env : DEnv) (S : List O), I i env S →
    (∀ j d env S, ds[j]? = some d → I (i + j) env S → ∃ env1 env' S', setP p d env = some env1 ∧ b env1 S = .nx env' S' ∧ I (i + j + 1) env' S') → ∃ env' S', forD none p b ds env S = .nx env' S' ∧ I (i + ds.length) env' S'
  | [], i, env, S, h, _ => ⟨env, S, by unfold forD; simp only [Sseq, Sasg, Sif, Sret, Srtn, Sexp, Snx, Spar, Ssub, Sfor, Mvar, Mc, M1, M2, MN1, MN2, Mcons, Mnil, Mtup, Mfrz, Mnew, Mdisp, Mnot, Mand, Mor, Mif, Mchain, Mcall, Mlm1, Mm1, Nm1, Msl, Nsl, Mno, Mso, Misi, Misi2, Mfs, Mjs, Mfmt, Irng1, Irng2, Mit, Izip, Ienum, Nrng, MComp, wipeD, setP, setPs, Rs.bind_ok, Rs.bind_no, Rs.s_ok, Rs.s_no, Rs.nx_ok, Rs.nx_no, Ss.sq_nx, Ss.sq_rt, Ss.sq_no, optRs_some, optRs_none, optRl_some, optRl_none, optRi_some, Option.bind_some, Option.map_some, Option.bind_none, Option.map_none, List.getElem?_cons_zero, List.getElem?_cons_succ, List.set_cons_zero, List.set_cons_succ, List.length_cons, List.length_nil, Nat.zero_add, Nat.reduceAdd, Nat.reduceLeDiff, Nat.reduceSub, Nat.reduceEqDiff, if_true, if_false, ↓reduceIte, startD, List.map_cons, List.map_nil, List.cons_append, List.nil_append, List.replicate_succ, List.replicate_zero, Bool.not_true, Bool.not_false, Gd], h⟩
  | d :: ds, i, env, S, h, step => by
    obtain ⟨env1, env2, S2, h1, h2, h3⟩ := step 0 d env S rfl h
    obtain ⟨env3, S3, h4, h5⟩ := forD_inv I ds (i + 1) env2 S2 h3 fun j d' env' S' hj hI => by
      have e : i + 1 + j = i + (j + 1) := by omega
      rw [e] at hI
      have := step (j + 1) d' env' S' (by simpa using hj) hI
      rw [e]
      exact this
    refine ⟨env3, S3, ?_, by rw [List.length_cons]; rw [show i + (ds.length + 1) = i + 1 + ds.length by omega]; exact h5⟩
    unfold forD
    simp only [Sseq, Sasg, Sif, Sret, Srtn, Sexp, Snx, Spar, Ssub, Sfor, Mvar, Mc, M1, M2, MN1, MN2, Mcons, Mnil, Mtup, Mfrz, Mnew, Mdisp, Mnot, Mand, Mor, Mif, Mchain, Mcall, Mlm1, Mm1, Nm1, Msl, Nsl, Mno, Mso, Misi, Misi2, Mfs, Mjs, Mfmt, Irng1, Irng2, Mit, Izip, Ienum, Nrng, MComp, wipeD, setP, setPs, Rs.bind_ok, Rs.bind_no, Rs.s_ok, Rs.s_no, Rs.nx_ok, Rs.nx_no, Ss.sq_nx, Ss.sq_rt, Ss.sq_no, optRs_some, optRs_none, optRl_some, optRl_none, optRi_some, Option.bind_some, Option.map_some, Option.bind_none, Option.map_none, List.getElem?_cons_zero, List.getElem?_cons_succ, List.set_cons_zero, List.set_cons_succ, List.length_cons, List.length_nil, Nat.zero_add, Nat.reduceAdd, Nat.reduceLeDiff, Nat.reduceSub, Nat.reduceEqDiff, if_true, if_false, ↓reduceIte, startD, List.map_cons, List.map_nil, List.cons_append, List.nil_append, List.replicate_succ, List.replicate_zero, Bool.not_true, Bool.not_false, Gd, h1, h2]
    exact h4
theorem rngI_ok {n : Int} (h0 : 0 ≤ n) (h1 : n ≤ 100000) : rngI 0 n = some (none, (rngL 0 n).map .int) := by
  unfold rngI
  rw [if_pos (by omega)]
theorem rngL_get {n : Int} {j : Nat} {x : Int} (h : (rngL 0 n)[j]? = some x) : x = (j : Int) ∧ (j : Int) < n := by
  unfold rngL at h
  rw [List.getElem?_map] at h
  obtain ⟨k, h1, h2⟩ := Option.map_eq_some_iff.mp h
  obtain ⟨h3, h4⟩ := List.getElem?_eq_some_iff.mp h1
  simp at h3 h4
  omega
theorem rngD_get {n : Int} {j : Nat} {x : D} (h : ((rngL 0 n).map D.int)[j]? = some x) : x = .int (j : Int) ∧ (j : Int) < n := by
  rw [List.getElem?_map] at h
  obtain ⟨k, h1, h2⟩ := Option.map_eq_some_iff.mp h
  obtain ⟨h3, h4⟩ := rngL_get h1
  subst h2
  exact ⟨by rw [h3], h4⟩
theorem rngL_mem {n x : Int} : x ∈ rngL 0 n ↔ 0 ≤ x ∧ x < n := by
  unfold rngL
  simp
  constructor
  · rintro ⟨k, h1, h2⟩
    omega
  · rintro ⟨h1, h2⟩
    exact ⟨x.toNat, by omega, by omega⟩
theorem rngL_pw (n : Int) : (rngL 0 n).Pairwise (· < ·) := by
  unfold rngL
  rw [List.pairwise_map]
  exact List.pairwise_lt_range.imp fun h => by omega

/-! ### a part of a collection -/
theorem part_comp {r : List O} (hr : Rok r) (share : Int) (e1 : Option D) : ∀ (ds : List D) (d : Dk) (c : Nat) , d.ok c → c + ds.length < 2 ^ 60 →
    ∃ (es : List D) (d' : Dk), compD none (.nm 3) (some (M2 geD (Mcall 2 φNext (Mcons (Mvar 0) (Mcons (Mc (.int 4)) Mnil))) (Mvar 2))) (Mvar 3) [some (.ref 2), e1, some (.int share), none] ds (d.S r) = .ok es (d'.S r) ∧ d'.ok (c + ds.length) ∧ es.Sublist ds
  | [], d, c, hd, _ => ⟨[], d, by unfold compD; simp only [Sseq, Sasg, Sif, Sret, Srtn, Sexp, Snx, Spar, Ssub, Sfor, Mvar, Mc, M1, M2, MN1, MN2, Mcons, Mnil, Mtup, Mfrz, Mnew, Mdisp, Mnot, Mand, Mor, Mif, Mchain, Mcall, Mlm1, Mm1, Nm1, Msl, Nsl, Mno, Mso, Misi, Misi2, Mfs, Mjs, Mfmt, Irng1, Irng2, Mit, Izip, Ienum, Nrng, MComp, wipeD, setP, setPs, Rs.bind_ok, Rs.bind_no, Rs.s_ok, Rs.s_no, Rs.nx_ok, Rs.nx_no, Ss.sq_nx, Ss.sq_rt, Ss.sq_no, optRs_some, optRs_none, optRl_some, optRl_none, optRi_some, Option.bind_some, Option.map_some, Option.bind_none, Option.map_none, List.getElem?_cons_zero, List.getElem?_cons_succ, List.set_cons_zero, List.set_cons_succ, List.length_cons, List.length_nil, Nat.zero_add, Nat.reduceAdd, Nat.reduceLeDiff, Nat.reduceSub, Nat.reduceEqDiff, if_true, if_false, ↓reduceIte, startD, List.map_cons, List.map_nil, List.cons_append, List.nil_append, List.replicate_succ, List.replicate_zero, Bool.not_true, Bool.not_false, Gd], hd, .slnil⟩
  | x :: ds, d, c, hd, hc => by
    have hc' : c + (ds.length + 1) < 2 ^ 60 := hc
    obtain ⟨v, d1, h1, h2, h3, h4⟩ := next_ok (many := 4) hd (by omega) hr (by decide) (by decide)
    obtain ⟨es, d2, h5, h6, h7⟩ := part_comp hr share e1 ds d1 (c + 1) h2 (by omega)
    have e : c + 1 + ds.length = c + (x :: ds).length := by simp; omega
    rw [e] at h6
    by_cases hs : share ≤ v
    · refine ⟨x :: es, d2, ?_, h6, h7.cons_cons x⟩
      unfold compD
      simp only [Sseq, Sasg, Sif, Sret, Srtn, Sexp, Snx, Spar, Ssub, Sfor, Mvar, Mc, M1, M2, MN1, MN2, Mcons, Mnil, Mtup, Mfrz, Mnew, Mdisp, Mnot, Mand, Mor, Mif, Mchain, Mcall, Mlm1, Mm1, Nm1, Msl, Nsl, Mno, Mso, Misi, Misi2, Mfs, Mjs, Mfmt, Irng1, Irng2, Mit, Izip, Ienum, Nrng, MComp, wipeD, setP, setPs, Rs.bind_ok, Rs.bind_no, Rs.s_ok, Rs.s_no, Rs.nx_ok, Rs.nx_no, Ss.sq_nx, Ss.sq_rt, Ss.sq_no, optRs_some, optRs_none, optRl_some, optRl_none, optRi_some, Option.bind_some, Option.map_some, Option.bind_none, Option.map_none, List.getElem?_cons_zero, List.getElem?_cons_succ, List.set_cons_zero, List.set_cons_succ, List.length_cons, List.length_nil, Nat.zero_add, Nat.reduceAdd, Nat.reduceLeDiff, Nat.reduceSub, Nat.reduceEqDiff, if_true, if_false, ↓reduceIte, startD, List.map_cons, List.map_nil, List.cons_append, List.nil_append, List.replicate_succ, List.replicate_zero, Bool.not_true, Bool.not_false, Gd, h1, geD, decide_eq_true hs, h5]
    · refine ⟨es, d2, ?_, h6, h7.cons x⟩
      unfold compD
      simp only [Sseq, Sasg, Sif, Sret, Srtn, Sexp, Snx, Spar, Ssub, Sfor, Mvar, Mc, M1, M2, MN1, MN2, Mcons, Mnil, Mtup, Mfrz, Mnew, Mdisp, Mnot, Mand, Mor, Mif, Mchain, Mcall, Mlm1, Mm1, Nm1, Msl, Nsl, Mno, Mso, Misi, Misi2, Mfs, Mjs, Mfmt, Irng1, Irng2, Mit, Izip, Ienum, Nrng, MComp, wipeD, setP, setPs, Rs.bind_ok, Rs.bind_no, Rs.s_ok, Rs.s_no, Rs.nx_ok, Rs.nx_no, Ss.sq_nx, Ss.sq_rt, Ss.sq_no, optRs_some, optRs_none, optRl_some, optRl_none, optRi_some, Option.bind_some, Option.map_some, Option.bind_none, Option.map_none, List.getElem?_cons_zero, List.getElem?_cons_succ, List.set_cons_zero, List.set_cons_succ, List.length_cons, List.length_nil, Nat.zero_add, Nat.reduceAdd, Nat.reduceLeDiff, Nat.reduceSub, Nat.reduceEqDiff, if_true, if_false, ↓reduceIte, startD, List.map_cons, List.map_nil, List.cons_append, List.nil_append, List.replicate_succ, List.replicate_zero, Bool.not_true, Bool.not_false, Gd, h1, geD, decide_eq_false hs, h5]
theorem plains_sub : ∀ {es ds : List D}, es.Sublist ds → plains ds = true → plains es = true := by
  intro es ds h
  induction h with
  | slnil => exact id
  | cons x h ih =>
    intro q
    unfold plains at q
    rw [Bool.and_eq_true] at q
    exact ih q.2
  | cons_cons x h ih =>
    intro q
    unfold plains at q ⊢
    rw [Bool.and_eq_true] at q
    rw [q.1, ih q.2]
    rfl
theorem part_ok {d : Dk} {c : Nat} {r : List O} {v : D} {ds : List D} {share : Int} (hd : d.ok c) (hr : Rok r) (hc : c + ds.length < 2 ^ 60) (hv : v = .tup ds ∨ v = .lst ds) (hp : plains ds = true) :
    ∃ (es : List D) (d' : Dk), φPart [.ref 2, v, .int share] (d.S r) = .ok (.tup es) (d'.S r) ∧ d'.ok (c + ds.length) ∧ es.Sublist ds := by
  obtain ⟨es, d', h1, h2, h3⟩ := part_comp hr share (some v) ds d c hd hc
  refine ⟨es, d', gc_rt0 rfl ?_ hr (by unfold plain; exact plains_sub h3 hp), h2, h3⟩
  unfold mPart
  have hi : iterD (d.S r) v = some (none, ds) := by rcases hv with rfl | rfl <;> rfl
  simp only [Sseq, Sasg, Sif, Sret, Srtn, Sexp, Snx, Spar, Ssub, Sfor, Mvar, Mc, M1, M2, MN1, MN2, Mcons, Mnil, Mtup, Mfrz, Mnew, Mdisp, Mnot, Mand, Mor, Mif, Mchain, Mcall, Mlm1, Mm1, Nm1, Msl, Nsl, Mno, Mso, Misi, Misi2, Mfs, Mjs, Mfmt, Irng1, Irng2, Mit, Izip, Ienum, Nrng, MComp, wipeD, setP, setPs, Rs.bind_ok, Rs.bind_no, Rs.s_ok, Rs.s_no, Rs.nx_ok, Rs.nx_no, Ss.sq_nx, Ss.sq_rt, Ss.sq_no, optRs_some, optRs_none, optRl_some, optRl_none, optRi_some, Option.bind_some, Option.map_some, Option.bind_none, Option.map_none, List.getElem?_cons_zero, List.getElem?_cons_succ, List.set_cons_zero, List.set_cons_succ, List.length_cons, List.length_nil, Nat.zero_add, Nat.reduceAdd, Nat.reduceLeDiff, Nat.reduceSub, Nat.reduceEqDiff, if_true, if_false, ↓reduceIte, startD, List.map_cons, List.map_nil, List.cons_append, List.nil_append, List.replicate_succ, List.replicate_zero, Bool.not_true, Bool.not_false, Gd, hi, h1, tupG, seqD, rd]

/-! ### all of a range in a drawn order -/
theorem rd_loc {d : Dk} {r l : List O} {xs : List D} : rd (d.S (r ++ .lst xs :: l)) (.ref (r.length + 3)) = .lst xs := by unfold rd; simp only [at_loc]
theorem rd_loc1 {d : Dk} {r l : List O} {y : O} {xs : List D} : rd (d.S (r ++ y :: .lst xs :: l)) (.ref (r.length + 3 + 1)) = .lst xs := by unfold rd; simp only [at_loc1]
theorem plainO_ints (xs : List Int) : plainO (.lst (xs.map D.int)) = true := plain_ints xs
def shufC : ED := M2 neD (Mvar 2) (Mfrz (Mdisp Mnil))
noncomputable def shufB : SD := Sexp (Mlm1 appG (Mvar 3) (Mlm1 popG (Mvar 2) (Mcall 2 φNext (Mcons (Mvar 0) (Mcons (M1 lenG (Mvar 2)) Mnil)))))
theorem map_erase {α β : Type} (f : α → β) : ∀ (xs : List α) (k : Nat), (xs.map f).eraseIdx k = (xs.eraseIdx k).map f
  | [], _ => by simp
  | x :: xs, 0 => by simp
  | x :: xs, k + 1 => by simp [map_erase f xs k]
theorem app_ints {xs : List Int} {x : Int} (h : xs.length < 16777216) : appG (xs.map D.int) (.int x) = some (.non, (xs ++ [x]).map D.int) := by
  unfold appG
  rw [if_pos (by rw [List.length_map, sizeLine_eq]; exact h)]
  simp
theorem app_ok {xs : List D} {x : D} (h : xs.length < 16777216) : appG xs x = some (.non, xs ++ [x]) := by
  unfold appG
  rw [if_pos (by rw [sizeLine_eq]; exact h)]
theorem erase_perm {α : Type} : ∀ (xs : List α) (k : Nat) (x : α), xs[k]? = some x → (x :: xs.eraseIdx k).Perm xs
  | [], k, x, h => by simp at h
  | y :: ys, 0, x, h => by simp at h; subst h; simp
  | y :: ys, k + 1, x, h => by
    simp at h
    exact (List.Perm.swap y x _).trans ((erase_perm ys k x h).cons y)
theorem lm1_eq {g : List D → D → Option (D × List D)} {o e : ED} {env : DEnv} {S S1 : List O} {l : Nat} {ds0 ds ds' : List D} {y d : D} (h1 : o env S = .ok (.ref l) S) (h2 : S[l]? = some (.lst ds0)) (h3 : e env S = .ok y S1) (h4 : S1[l]? = some (.lst ds)) (h5 : g ds y = some (d, ds')) :
    Mlm1 g o e env S = .ok d (S1.set l (.lst ds')) := by
  unfold Mlm1
  simp only [h1, Rs.bind_ok, h2, h3, h4, h5]
theorem call_eq {n : Nat} {φ : Fn} {m : EDs} {env : DEnv} {S S1 : List O} {ds : List D} {r : Rs D} (h1 : m env S = .ok ds S1) (h2 : ds.length = n) (h3 : φ ds S1 = r) : Mcall n φ m env S = r := by
  unfold Mcall
  simp only [h1, Rs.bind_ok, h2, h3, if_true]
theorem exp_eq {m : ED} {env : DEnv} {S S1 : List O} {d : D} (h : m env S = .ok d S1) : Sexp m env S = .nx env S1 := by
  unfold Sexp
  simp only [h, Rs.s_ok]
theorem shuf_loop {r : List O} (hr : Rok r) (n : Int) (m : Nat) : ∀ (left found : List Int) (d : Dk) (c : Nat), left.length = m → d.ok c → c + left.length < 2 ^ 60 → left.length + found.length ≤ 100000 →
    ∃ (out : List Int) (d' : Dk), Swh shufC shufB [some (.ref 2), some (.int n), some (.ref (r.length + 3)), some (.ref (r.length + 3 + 1))] (d.S (r ++ [.lst (left.map .int), .lst (found.map .int)])) =
      .nx [some (.ref 2), some (.int n), some (.ref (r.length + 3)), some (.ref (r.length + 3 + 1))] (d'.S (r ++ [.lst [], .lst (out.map .int)])) ∧ d'.ok (c + left.length) ∧ out.Perm (left ++ found) := by
  induction m with
  | zero =>
    intro left found d c hm hd hc hl
    have e : left = [] := List.length_eq_zero_iff.mp hm
    subst e
    refine ⟨found, d, ?_, hd, .refl _⟩
    rw [Swh_step]
    generalize Swh shufC shufB = L
    unfold shufC
    have hz : neD (.ref (r.length + 3)) (.lst []) (d.S (r ++ [.lst [], .lst (found.map .int)])) = some (.bl false) := neD_nil (xs := []) rd_loc
    simp only [Sseq, Sasg, Sif, Sret, Srtn, Sexp, Snx, Spar, Ssub, Sfor, Mvar, Mc, M1, M2, MN1, MN2, Mcons, Mnil, Mtup, Mfrz, Mnew, Mdisp, Mnot, Mand, Mor, Mif, Mchain, Mcall, Mlm1, Mm1, Nm1, Msl, Nsl, Mno, Mso, Misi, Misi2, Mfs, Mjs, Mfmt, Irng1, Irng2, Mit, Izip, Ienum, Nrng, MComp, wipeD, setP, setPs, Rs.bind_ok, Rs.bind_no, Rs.s_ok, Rs.s_no, Rs.nx_ok, Rs.nx_no, Ss.sq_nx, Ss.sq_rt, Ss.sq_no, optRs_some, optRs_none, optRl_some, optRl_none, optRi_some, Option.bind_some, Option.map_some, Option.bind_none, Option.map_none, List.getElem?_cons_zero, List.getElem?_cons_succ, List.set_cons_zero, List.set_cons_succ, List.length_cons, List.length_nil, Nat.zero_add, Nat.reduceAdd, Nat.reduceLeDiff, Nat.reduceSub, Nat.reduceEqDiff, if_true, if_false, ↓reduceIte, startD, List.map_cons, List.map_nil, List.cons_append, List.nil_append, List.replicate_succ, List.replicate_zero, Bool.not_true, Bool.not_false, Gd, hz]
  | succ m ih =>
    intro left found d c hm hd hc hl
    have hr2 : Rok (r ++ [.lst (left.map .int), .lst (found.map .int)]) := hr.app (by simp [plainO_ints])
    obtain ⟨x, d1, h1, h2, h3, h4⟩ := next_ok (many := (left.length : Int)) hd (by omega) hr2 (by omega) (by omega)
    obtain ⟨k, rfl⟩ : ∃ k : Nat, x = (k : Int) := ⟨x.toNat, by omega⟩
    have hlt : k < left.length := by omega
    obtain ⟨y, hg⟩ : ∃ y, left[k]? = some y := ⟨_, List.getElem?_eq_getElem hlt⟩
    have hpop : popG (left.map D.int) (.int (k : Int)) = some (.int y, (left.eraseIdx k).map D.int) := by
      rw [pop_nat (d := .int y) (by rw [List.getElem?_map, hg]; rfl) (by rw [List.length_map]; omega), map_erase]
    have hne : left.isEmpty = false := by
      cases left with
      | nil => simp at hm
      | cons a b => rfl
    have hlen : (left.eraseIdx k).length = m := by rw [List.length_eraseIdx_of_lt hlt]; omega
    obtain ⟨out, d2, h5, h6, h7⟩ := ih (left.eraseIdx k) (found ++ [y]) d1 (c + 1) hlen h2 (by omega) (by simp; omega)
    refine ⟨out, d2, ?_, ?_, ?_⟩
    · rw [Swh_step]
      have hlen2 : lenG (.ref (r.length + 3)) (d.S (r ++ [.lst (left.map .int), .lst (found.map .int)])) = some (.int left.length) := by
        unfold lenG
        rw [rd_loc]
        simp
      have step : shufB [some (.ref 2), some (.int n), some (.ref (r.length + 3)), some (.ref (r.length + 3 + 1))] (d.S (r ++ [.lst (left.map .int), .lst (found.map .int)])) = .nx [some (.ref 2), some (.int n), some (.ref (r.length + 3)), some (.ref (r.length + 3 + 1))] (d1.S (r ++ [.lst ((left.eraseIdx k).map .int), .lst ((found ++ [y]).map .int)])) := by
        have a1 : Mcall 2 φNext (Mcons (Mvar 0) (Mcons (M1 lenG (Mvar 2)) Mnil)) [some (.ref 2), some (.int n), some (.ref (r.length + 3)), some (.ref (r.length + 3 + 1))] (d.S (r ++ [.lst (left.map .int), .lst (found.map .int)])) = .ok (.int (k : Int)) (d1.S (r ++ [.lst (left.map .int), .lst (found.map .int)])) :=
          call_eq (by simp only [Sseq, Sasg, Sif, Sret, Srtn, Sexp, Snx, Spar, Ssub, Sfor, Mvar, Mc, M1, M2, MN1, MN2, Mcons, Mnil, Mtup, Mfrz, Mnew, Mdisp, Mnot, Mand, Mor, Mif, Mchain, Mcall, Mlm1, Mm1, Nm1, Msl, Nsl, Mno, Mso, Misi, Misi2, Mfs, Mjs, Mfmt, Irng1, Irng2, Mit, Izip, Ienum, Nrng, MComp, wipeD, setP, setPs, Rs.bind_ok, Rs.bind_no, Rs.s_ok, Rs.s_no, Rs.nx_ok, Rs.nx_no, Ss.sq_nx, Ss.sq_rt, Ss.sq_no, optRs_some, optRs_none, optRl_some, optRl_none, optRi_some, Option.bind_some, Option.map_some, Option.bind_none, Option.map_none, List.getElem?_cons_zero, List.getElem?_cons_succ, List.set_cons_zero, List.set_cons_succ, List.length_cons, List.length_nil, Nat.zero_add, Nat.reduceAdd, Nat.reduceLeDiff, Nat.reduceSub, Nat.reduceEqDiff, if_true, if_false, ↓reduceIte, startD, List.map_cons, List.map_nil, List.cons_append, List.nil_append, List.replicate_succ, List.replicate_zero, Bool.not_true, Bool.not_false, Gd, hlen2]) rfl h1
        have a2 := lm1_eq (g := popG) (o := Mvar 2) (l := r.length + 3) (by simp only [Sseq, Sasg, Sif, Sret, Srtn, Sexp, Snx, Spar, Ssub, Sfor, Mvar, Mc, M1, M2, MN1, MN2, Mcons, Mnil, Mtup, Mfrz, Mnew, Mdisp, Mnot, Mand, Mor, Mif, Mchain, Mcall, Mlm1, Mm1, Nm1, Msl, Nsl, Mno, Mso, Misi, Misi2, Mfs, Mjs, Mfmt, Irng1, Irng2, Mit, Izip, Ienum, Nrng, MComp, wipeD, setP, setPs, Rs.bind_ok, Rs.bind_no, Rs.s_ok, Rs.s_no, Rs.nx_ok, Rs.nx_no, Ss.sq_nx, Ss.sq_rt, Ss.sq_no, optRs_some, optRs_none, optRl_some, optRl_none, optRi_some, Option.bind_some, Option.map_some, Option.bind_none, Option.map_none, List.getElem?_cons_zero, List.getElem?_cons_succ, List.set_cons_zero, List.set_cons_succ, List.length_cons, List.length_nil, Nat.zero_add, Nat.reduceAdd, Nat.reduceLeDiff, Nat.reduceSub, Nat.reduceEqDiff, if_true, if_false, ↓reduceIte, startD, List.map_cons, List.map_nil, List.cons_append, List.nil_append, List.replicate_succ, List.replicate_zero, Bool.not_true, Bool.not_false, Gd]) at_loc a1 at_loc hpop
        rw [set_loc] at a2
        have a3 := lm1_eq (g := appG) (o := Mvar 3) (l := r.length + 3 + 1) (by simp only [Sseq, Sasg, Sif, Sret, Srtn, Sexp, Snx, Spar, Ssub, Sfor, Mvar, Mc, M1, M2, MN1, MN2, Mcons, Mnil, Mtup, Mfrz, Mnew, Mdisp, Mnot, Mand, Mor, Mif, Mchain, Mcall, Mlm1, Mm1, Nm1, Msl, Nsl, Mno, Mso, Misi, Misi2, Mfs, Mjs, Mfmt, Irng1, Irng2, Mit, Izip, Ienum, Nrng, MComp, wipeD, setP, setPs, Rs.bind_ok, Rs.bind_no, Rs.s_ok, Rs.s_no, Rs.nx_ok, Rs.nx_no, Ss.sq_nx, Ss.sq_rt, Ss.sq_no, optRs_some, optRs_none, optRl_some, optRl_none, optRi_some, Option.bind_some, Option.map_some, Option.bind_none, Option.map_none, List.getElem?_cons_zero, List.getElem?_cons_succ, List.set_cons_zero, List.set_cons_succ, List.length_cons, List.length_nil, Nat.zero_add, Nat.reduceAdd, Nat.reduceLeDiff, Nat.reduceSub, Nat.reduceEqDiff, if_true, if_false, ↓reduceIte, startD, List.map_cons, List.map_nil, List.cons_append, List.nil_append, List.replicate_succ, List.replicate_zero, Bool.not_true, Bool.not_false, Gd]) at_loc1 a2 at_loc1 (app_ints (xs := found) (x := y) (by omega))
        rw [set_loc1] at a3
        exact exp_eq a3
      generalize hL : Swh shufC shufB = L at h5 ⊢
      unfold shufC
      simp only [Sseq, Sasg, Sif, Sret, Srtn, Sexp, Snx, Spar, Ssub, Sfor, Mvar, Mc, M1, M2, MN1, MN2, Mcons, Mnil, Mtup, Mfrz, Mnew, Mdisp, Mnot, Mand, Mor, Mif, Mchain, Mcall, Mlm1, Mm1, Nm1, Msl, Nsl, Mno, Mso, Misi, Misi2, Mfs, Mjs, Mfmt, Irng1, Irng2, Mit, Izip, Ienum, Nrng, MComp, wipeD, setP, setPs, Rs.bind_ok, Rs.bind_no, Rs.s_ok, Rs.s_no, Rs.nx_ok, Rs.nx_no, Ss.sq_nx, Ss.sq_rt, Ss.sq_no, optRs_some, optRs_none, optRl_some, optRl_none, optRi_some, Option.bind_some, Option.map_some, Option.bind_none, Option.map_none, List.getElem?_cons_zero, List.getElem?_cons_succ, List.set_cons_zero, List.set_cons_succ, List.length_cons, List.length_nil, Nat.zero_add, Nat.reduceAdd, Nat.reduceLeDiff, Nat.reduceSub, Nat.reduceEqDiff, if_true, if_false, ↓reduceIte, startD, List.map_cons, List.map_nil, List.cons_append, List.nil_append, List.replicate_succ, List.replicate_zero, Bool.not_true, Bool.not_false, Gd, neD_nil (rd_loc (d := d) (r := r) (xs := left.map D.int) (l := [.lst (found.map .int)])), hne, step]
      exact h5
    · rw [hlen] at h6
      rw [show c + left.length = c + 1 + m by omega]
      exact h6
    · refine h7.trans ?_
      rw [← List.append_assoc]
      refine (List.perm_append_comm.trans ?_)
      rw [← List.append_assoc]
      exact List.Perm.append_right found (erase_perm left k y hg)
theorem shuf_ok {d : Dk} {c : Nat} {r : List O} {n : Int} (hd : d.ok c) (hr : Rok r) (h0 : 0 ≤ n) (h1 : n ≤ 100000) (hc : c + n.toNat < 2 ^ 60) :
    ∃ (out : List Int) (d' : Dk), φShuf [.ref 2, .int n] (d.S r) = .ok (.tup (out.map .int)) (d'.S r) ∧ d'.ok (c + n.toNat) ∧ out.Perm (rngL 0 n) := by
  have hlen : (rngL 0 n).length = n.toNat := by rw [rngL_len]; omega
  obtain ⟨out, d', h2, h3, h4⟩ := shuf_loop hr n _ (rngL 0 n) [] d c rfl hd (by omega) (by simp; omega)
  rw [List.append_nil] at h4
  rw [hlen] at h3
  refine ⟨out, d', gc_rt (loc := [.lst [], .lst (out.map .int)]) rfl ?_ hr (by unfold plain; exact plain_ints out), h3, h4⟩
  unfold mShuf
  have hi : n ≤ 16777216 ∧ -(2 ^ 62) ≤ n := by omega
  have e1 : Spar 2 3 (Mcons (Mnew (Nrng (Mvar 1))) (Mcons (Mnew (Mdisp Mnil)) Mnil)) (startD 4 [.ref 2, .int n]) (d.S r) = .nx [some (.ref 2), some (.int n), some (.ref (r.length + 3)), some (.ref (r.length + 3 + 1))] (d.S (r ++ [.lst ((rngL 0 n).map .int), .lst []])) := by
    simp only [Sseq, Sasg, Sif, Sret, Srtn, Sexp, Snx, Spar, Ssub, Sfor, Mvar, Mc, M1, M2, MN1, MN2, Mcons, Mnil, Mtup, Mfrz, Mnew, Mdisp, Mnot, Mand, Mor, Mif, Mchain, Mcall, Mlm1, Mm1, Nm1, Msl, Nsl, Mno, Mso, Misi, Misi2, Mfs, Mjs, Mfmt, Irng1, Irng2, Mit, Izip, Ienum, Nrng, MComp, wipeD, setP, setPs, Rs.bind_ok, Rs.bind_no, Rs.s_ok, Rs.s_no, Rs.nx_ok, Rs.nx_no, Ss.sq_nx, Ss.sq_rt, Ss.sq_no, optRs_some, optRs_none, optRl_some, optRl_none, optRi_some, Option.bind_some, Option.map_some, Option.bind_none, Option.map_none, List.getElem?_cons_zero, List.getElem?_cons_succ, List.set_cons_zero, List.set_cons_succ, List.length_cons, List.length_nil, Nat.zero_add, Nat.reduceAdd, Nat.reduceLeDiff, Nat.reduceSub, Nat.reduceEqDiff, if_true, if_false, ↓reduceIte, startD, List.map_cons, List.map_nil, List.cons_append, List.nil_append, List.replicate_succ, List.replicate_zero, Bool.not_true, Bool.not_false, Gd, hi, and_self, len_S, app_S, List.length_append]
    simp
  rw [seq_nx e1]
  refine (show Sseq _ _ _ _ = _ from seq_nx h2).trans ?_
  have hs : seqD (d'.S (r ++ [.lst [], .lst (out.map .int)])) (.ref (r.length + 3 + 1)) = some (out.map .int) := by unfold seqD; rw [rd_loc1]
  simp only [Sseq, Sasg, Sif, Sret, Srtn, Sexp, Snx, Spar, Ssub, Sfor, Mvar, Mc, M1, M2, MN1, MN2, Mcons, Mnil, Mtup, Mfrz, Mnew, Mdisp, Mnot, Mand, Mor, Mif, Mchain, Mcall, Mlm1, Mm1, Nm1, Msl, Nsl, Mno, Mso, Misi, Misi2, Mfs, Mjs, Mfmt, Irng1, Irng2, Mit, Izip, Ienum, Nrng, MComp, wipeD, setP, setPs, Rs.bind_ok, Rs.bind_no, Rs.s_ok, Rs.s_no, Rs.nx_ok, Rs.nx_no, Ss.sq_nx, Ss.sq_rt, Ss.sq_no, optRs_some, optRs_none, optRl_some, optRl_none, optRi_some, Option.bind_some, Option.map_some, Option.bind_none, Option.map_none, List.getElem?_cons_zero, List.getElem?_cons_succ, List.set_cons_zero, List.set_cons_succ, List.length_cons, List.length_nil, Nat.zero_add, Nat.reduceAdd, Nat.reduceLeDiff, Nat.reduceSub, Nat.reduceEqDiff, if_true, if_false, ↓reduceIte, startD, List.map_cons, List.map_nil, List.cons_append, List.nil_append, List.replicate_succ, List.replicate_zero, Bool.not_true, Bool.not_false, Gd, tupG, hs]
end PB

set_option Elab.async false
set_option linter.all false
set_option maxRecDepth 100000
set_option maxHeartbeats 4000000

namespace PB
open PySem PySem.Spec PyProof.Rows L2

/-! ### drawn tables -/
/-- an offer of a table of n demands -/
structure Asc (n : Int) (xs : List Int) : Prop where
  pw : xs.Pairwise (· < ·)
  rg : ∀ x ∈ xs, 0 ≤ x ∧ x < n
def offsD (os : List (List Int)) : List D := os.map fun xs => .tup (xs.map .int)
theorem offs_plain : ∀ os : List (List Int), plains (offsD os) = true
  | [] => rfl
  | x :: os => by
    have ih := offs_plain os
    unfold offsD at ih ⊢
    rw [List.map_cons]
    unfold plains plain
    rw [plain_ints, ih]
    rfl
theorem srt_asc {n : Int} {xs : List Int} (h : xs.Nodup) (hr : ∀ x ∈ xs, 0 ≤ x ∧ x < n) : Asc n (srtI xs) := by
  refine ⟨?_, fun x hx => hr x ((srtI_perm xs).mem_iff.mp hx)⟩
  have h1 := srtI_pw xs
  have h2 : (srtI xs).Nodup := (srtI_perm xs).nodup_iff.mpr h
  exact (h1.and h2).imp fun q => by
    obtain ⟨a, b⟩ := q
    omega
theorem intsOf_map : ∀ xs : List Int, intsOf (xs.map D.int) = some xs
  | [] => rfl
  | x :: xs => by simp [intsOf, intsOf_map xs]
theorem sort_ints {xs : List Int} {S : List O} {v : D} (hv : v = .tup (xs.map .int) ∨ v = .lst (xs.map .int)) (h : xs.length < 64) : sortG v S = some ((srtI xs).map .int) := by
  unfold sortG
  have : seqD S v = some (xs.map .int) := by rcases hv with rfl | rfl <;> rfl
  rw [this]
  simp only [Option.bind_some, intsOf_map, if_pos h]
theorem cut_map (xs : List Int) (lo hi : Option Int) : ∃ ys : List Int, cutD (xs.map D.int) lo hi = ys.map D.int ∧ ys.Sublist xs := by
  unfold cutD
  refine ⟨((xs.drop (HT.sIx (xs.map D.int).length 0 lo)).take (HT.sIx (xs.map D.int).length (xs.map D.int).length hi - HT.sIx (xs.map D.int).length 0 lo)), ?_, (List.take_sublist _ _).trans (List.drop_sublist _ _)⟩
  rw [List.map_take, List.map_drop]
theorem sub_ints : ∀ {es : List D} {xs : List Int}, es.Sublist (xs.map D.int) → ∃ ys : List Int, es = ys.map D.int ∧ ys.Sublist xs := by
  intro es xs h
  obtain ⟨ys, h1, h2⟩ := List.sublist_map_iff.mp h
  exact ⟨ys, h2, h1⟩
theorem M1_eq {g : G1} {a : ED} {env : DEnv} {S S1 : List O} {x d : D} (h : a env S = .ok x S1) (hg : g x S1 = some d) : M1 g a env S = .ok d S1 := by
  unfold M1
  simp only [h, Rs.bind_ok, hg, optRs_some]
theorem M2_eq {g : G2} {a b : ED} {env : DEnv} {S S1 S2 : List O} {x y d : D} (h : a env S = .ok x S1) (h2 : b env S1 = .ok y S2) (hg : g x y S2 = some d) : M2 g a b env S = .ok d S2 := by
  unfold M2
  simp only [h, h2, Rs.bind_ok, hg, optRs_some]
theorem frz_eq {m : EDs} {env : DEnv} {S S1 : List O} {ds : List D} (h : m env S = .ok ds S1) : Mfrz m env S = .ok (.lst ds) S1 := by
  unfold Mfrz
  simp only [h, Rs.bind_ok]
theorem MN1_eq {g : N1} {a : ED} {env : DEnv} {S S1 : List O} {x : D} {d : List D} (h : a env S = .ok x S1) (hg : g x S1 = some d) : MN1 g a env S = .ok d S1 := by
  unfold MN1
  simp only [h, Rs.bind_ok, hg, optRl_some]
theorem MN2_eq {g : N2} {a b : ED} {env : DEnv} {S S1 S2 : List O} {x y : D} {d : List D} (h : a env S = .ok x S1) (h2 : b env S1 = .ok y S2) (hg : g x y S2 = some d) : MN2 g a b env S = .ok d S2 := by
  unfold MN2
  simp only [h, h2, Rs.bind_ok, hg, optRl_some]
theorem sl_eq {a : ED} {l h : OD} {env : DEnv} {S S1 S2 S3 : List O} {x d : D} {lo hi : Option Int} (h1 : a env S = .ok x S1) (h2 : l env S1 = .ok lo S2) (h3 : h env S2 = .ok hi S3) (hg : slD x lo hi = some d) : Msl a l h env S = .ok d S3 := by
  unfold Msl
  simp only [h1, h2, h3, Rs.bind_ok, hg, optRs_some]
theorem so_eq {a : ED} {env : DEnv} {S S1 : List O} {i : Int} (h : a env S = .ok (.int i) S1) : Mso a env S = .ok (some i) S1 := by
  unfold Mso
  simp only [h, Rs.bind_ok]
theorem asg_eq {i : Nat} {m : ED} {env : DEnv} {S S1 : List O} {d : D} (h : m env S = .ok d S1) : Sasg (.nm i) m env S = .nx (env.set i (some d)) S1 := by
  unfold Sasg
  simp only [h, Rs.s_ok, setP]
theorem args2 {a b : ED} {env : DEnv} {S S1 S2 : List O} {x y : D} (h1 : a env S = .ok x S1) (h2 : b env S1 = .ok y S2) : Mcons a (Mcons b Mnil) env S = .ok [x, y] S2 := by
  unfold Mcons Mnil
  simp only [h1, h2, Rs.bind_ok]
theorem args3 {a b e : ED} {env : DEnv} {S S1 S2 S3 : List O} {x y z : D} (h1 : a env S = .ok x S1) (h2 : b env S1 = .ok y S2) (h3 : e env S2 = .ok z S3) : Mcons a (Mcons b (Mcons e Mnil)) env S = .ok [x, y, z] S3 := by
  unfold Mcons Mnil
  simp only [h1, h2, h3, Rs.bind_ok]
theorem next_call {d : Dk} {c : Nat} {r : List O} {many : Int} {env : DEnv} {e : ED} (hd : d.ok c) (hc : c < 2 ^ 60) (hr : Rok r) (h0 : 0 < many) (h1 : many < 2 ^ 64) (hv : Mvar 0 env (d.S r) = .ok (.ref 2) (d.S r)) (he : e env (d.S r) = .ok (.int many) (d.S r)) :
    ∃ (x : Int) (d' : Dk), Mcall 2 φNext (Mcons (Mvar 0) (Mcons e Mnil)) env (d.S r) = .ok (.int x) (d'.S r) ∧ d'.ok (c + 1) ∧ 0 ≤ x ∧ x < many := by
  obtain ⟨x, d', h2, h3, h4, h5⟩ := next_ok hd hc hr h0 h1
  exact ⟨x, d', call_eq (args2 hv he) rfl h2, h3, h4, h5⟩
noncomputable def intvB : SD := Sseq (Sasg (.nm 6) (Mcall 2 φNext (Mcons (Mvar 0) (Mcons (Mvar 1) Mnil)))) (Sexp (Mlm1 appG (Mvar 4) (M1 tupG (Mfrz (MN1 sortG (Msl (Mvar 3) (Mso (Mvar 6)) (Mso (M2 addD (M2 addD (Mvar 6) (Mc (.int 1))) (Mcall 2 φNext (Mcons (Mvar 0) (Mcons (Mvar 1) Mnil)))))))))))
theorem plainO_offs (os : List (List Int)) : plainO (.lst (offsD os)) = true := offs_plain os
theorem intv_turn {r : List O} (hr : Rok r) {n m : Int} (hn : 0 < n) (hn2 : n ≤ 60) {order : List Int} (ho : order.Nodup) (hor : ∀ x ∈ order, 0 ≤ x ∧ x < n) (hol : order.length < 64) {os : List (List Int)} {d : Dk} {c : Nat} (hd : d.ok c) (hc : c + 2 < 2 ^ 60) (hos : os.length < 1000) (e5 e6 : Option D) :
    ∃ (xs : List Int) (d' : Dk) (e6' : Option D), intvB [some (.ref 2), some (.int n), some (.int m), some (.tup (order.map .int)), some (.ref (r.length + 3)), e5, e6] (d.S (r ++ [.lst (offsD os)])) =
      .nx [some (.ref 2), some (.int n), some (.int m), some (.tup (order.map .int)), some (.ref (r.length + 3)), e5, e6'] (d'.S (r ++ [.lst (offsD (os ++ [xs]))])) ∧ d'.ok (c + 2) ∧ Asc n xs := by
  have hr2 : Rok (r ++ [.lst (offsD os)]) := hr.app (by simp [plainO_offs])
  obtain ⟨low, d1, h1, h2, h3, h4⟩ := next_call (env := [some (.ref 2), some (.int n), some (.int m), some (.tup (order.map .int)), some (.ref (r.length + 3)), e5, e6]) (e := Mvar 1) hd (by omega) hr2 hn (by omega) rfl rfl
  obtain ⟨w, d2, g1, g2, g3, g4⟩ := next_call (env := [some (.ref 2), some (.int n), some (.int m), some (.tup (order.map .int)), some (.ref (r.length + 3)), e5, some (.int low)]) (e := Mvar 1) h2 (by omega) hr2 hn (by omega) rfl rfl
  obtain ⟨ys, y1, y2⟩ := cut_map order (some low) (some (low + 1 + w))
  refine ⟨srtI ys, d2, some (.int low), ?_, g2, srt_asc (ho.sublist y2) fun x hx => hor x (y2.subset hx)⟩
  unfold intvB
  have a1 := asg_eq (i := 6) h1
  rw [seq_nx a1]
  have a2 : M2 addD (M2 addD (Mvar 6) (Mc (.int 1))) (Mcall 2 φNext (Mcons (Mvar 0) (Mcons (Mvar 1) Mnil))) [some (.ref 2), some (.int n), some (.int m), some (.tup (order.map .int)), some (.ref (r.length + 3)), e5, some (.int low)] (d1.S (r ++ [.lst (offsD os)])) = .ok (.int (low + 1 + w)) (d2.S (r ++ [.lst (offsD os)])) :=
    M2_eq (M2_eq (x := .int low) (y := .int 1) rfl rfl rfl) g1 rfl
  have a3 := sl_eq (a := Mvar 3) (x := .tup (order.map .int)) (l := Mso (Mvar 6)) (lo := some low) rfl rfl (so_eq a2) (d := .tup (ys.map .int)) (by show some (D.tup (cutD (order.map .int) (some low) (some (low + 1 + w)))) = _; rw [y1])
  have a4 := M1_eq (g := tupG) (frz_eq (MN1_eq a3 (sort_ints (.inl rfl) (Nat.lt_of_le_of_lt y2.length_le hol)))) rfl
  have a5 := lm1_eq (g := appG) (o := Mvar 4) (l := r.length + 3) rfl at_loc a4 at_loc (app_ok (by unfold offsD; rw [List.length_map]; omega))
  rw [set_loc] at a5
  refine (exp_eq a5).trans ?_
  unfold offsD
  rw [List.map_append]
  rfl

/-- a drawn table -/
structure Tab (n : Int) (os : List (List Int)) : Prop where
  lo : 1 ≤ n
  hi : n ≤ 10
  few : os.length ≤ 10
  asc : ∀ xs ∈ os, Asc n xs
def tabD (n : Int) (os : List (List Int)) : D := .tup [.int n, .tup (offsD os)]
theorem tab_plain (n : Int) (os : List (List Int)) : plain (tabD n os) = true := by
  unfold tabD plain
  simp only [plains, plain, offs_plain, Bool.and_self]
theorem perm_rng {n : Int} {out : List Int} (h : out.Perm (rngL 0 n)) : out.Nodup ∧ (∀ x ∈ out, 0 ≤ x ∧ x < n) ∧ out.length = n.toNat := by
  refine ⟨h.nodup_iff.mpr ((rngL_pw n).imp fun q => by omega), fun x hx => rngL_mem.mp (h.mem_iff.mp hx), ?_⟩
  rw [h.length_eq, rngL_len]
  omega
theorem for_eq {mi : ID} {p : Pat} {b : SD} {env : DEnv} {S S1 : List O} {ds : List D} {r : Ss} (h : mi env S = .ok (none, ds) S1) (h2 : forD none p b ds env S1 = r) : Sfor mi p b env S = r := by
  unfold Sfor
  simp only [h, Rs.s_ok, h2]
theorem rng_eq {a : ED} {env : DEnv} {S S1 : List O} {n : Int} (h : a env S = .ok (.int n) S1) (h0 : 0 ≤ n) (h1 : n ≤ 100000) : Irng1 a env S = .ok (none, (rngL 0 n).map .int) S1 := by
  unfold Irng1
  simp only [h, Rs.bind_ok, rngI_ok h0 h1, optRi_some]
theorem ret_eq {m : ED} {env : DEnv} {S S1 : List O} {d : D} (h : m env S = .ok d S1) : Sret m env S = .rt d S1 := by
  unfold Sret
  simp only [h, Rs.s_ok]
theorem tup2 {a b : ED} {env : DEnv} {S S1 S2 : List O} {x y : D} (h1 : a env S = .ok x S1) (h2 : b env S1 = .ok y S2) : Mtup (Mcons a (Mcons b Mnil)) env S = .ok (.tup [x, y]) S2 := by
  unfold Mtup
  rw [args2 h1 h2]
  rfl
theorem par_eq {i j : Nat} {a b : ED} {env : DEnv} {S S1 S2 : List O} {x y : D} (h1 : a env S = .ok x S1) (h2 : b env S1 = .ok y S2) : Spar i j (Mcons a (Mcons b Mnil)) env S = .nx ((env.set i (some x)).set j (some y)) S2 := by
  unfold Spar
  rw [args2 h1 h2]
  rfl
theorem new_eq {m : EDs} {env : DEnv} {S S1 : List O} {ds : List D} (h : m env S = .ok ds S1) : Mnew m env S = .ok (.ref S1.length) (S1 ++ [.lst ds]) := by
  unfold Mnew
  simp only [h, Rs.bind_ok]
theorem nil_eq {env : DEnv} {S : List O} : Mdisp Mnil env S = .ok [] S := rfl
theorem intv_ok {d : Dk} {c : Nat} {r : List O} {n m : Int} (hd : d.ok c) (hr : Rok r) (hn : 1 ≤ n) (hn2 : n ≤ 10) (hm : 0 ≤ m) (hm2 : m ≤ 10) (hc : c + 100 < 2 ^ 60) :
    ∃ (os : List (List Int)) (d' : Dk), φIntv [.ref 2, .int n, .int m] (d.S r) = .ok (tabD n os) (d'.S r) ∧ d'.ok (c + 30) ∧ Tab n os := by
  obtain ⟨order, d1, h1, h2, h3⟩ := shuf_ok (n := n) hd hr (by omega) (by omega) (by omega)
  obtain ⟨p1, p2, p3⟩ := perm_rng h3
  have a1 := par_eq (i := 3) (j := 4) (env := [some (.ref 2), some (.int n), some (.int m), none, none, none, none]) (a := Mcall 2 φShuf (Mcons (Mvar 0) (Mcons (Mvar 1) Mnil))) (b := Mnew (Mdisp Mnil)) (call_eq (args2 rfl rfl) rfl h1) (new_eq nil_eq)
  obtain ⟨env', S', f1, os, d2, e5, e6, f2, f3, f4, f5, f6⟩ := forD_inv (p := .nm 5) (b := intvB) (fun j env S => ∃ (os : List (List Int)) (d : Dk) (e5 e6 : Option D), env = [some (.ref 2), some (.int n), some (.int m), some (.tup (order.map .int)), some (.ref (r.length + 3)), e5, e6] ∧ S = d.S (r ++ [.lst (offsD os)]) ∧ d.ok (c + n.toNat + 2 * j) ∧ os.length = j ∧ ∀ xs ∈ os, Asc n xs)
    ((rngL 0 m).map .int) 0 [some (.ref 2), some (.int n), some (.int m), some (.tup (order.map .int)), some (.ref (r.length + 3)), none, none] (d1.S (r ++ [.lst []])) ⟨[], d1, none, none, rfl, rfl, h2, rfl, fun _ z => nomatch z⟩ (by
      rintro j x env S hx ⟨os, d, e5, e6, rfl, rfl, g1, g2, g3⟩
      obtain ⟨rfl, hj⟩ := rngD_get hx
      obtain ⟨xs, d3, e7, k1, k2, k3⟩ := intv_turn hr (by omega) (by omega) p1 p2 (by omega) (m := m) (os := os) g1 (by omega) (by omega) (some (.int (j : Int))) e6
      refine ⟨_, _, _, rfl, k1, os ++ [xs], d3, _, _, rfl, rfl, ?_, by simp [g2], fun ys hy => ?_⟩
      · exact k2
      · rcases List.mem_append.mp hy with hy | hy
        · exact g3 ys hy
        · rw [List.mem_singleton.mp hy]
          exact k3)
  have hlen : ((rngL 0 m).map D.int).length = m.toNat := by rw [List.length_map, rngL_len]; omega
  subst f2 f3
  rw [hlen] at f4 f5
  refine ⟨os, d2, gc_rt (loc := [.lst (offsD os)]) rfl ?_ hr (tab_plain n os), f4.mono (by omega), ⟨hn, hn2, by omega, f6⟩⟩
  unfold mIntv
  refine (show Sseq _ _ _ _ = _ from seq_nx a1).trans ?_
  refine (show Sseq _ _ _ _ = _ from seq_nx (for_eq (rng_eq (n := m) rfl hm (by omega)) f1)).trans ?_
  exact ret_eq (tup2 rfl (M1_eq (x := .ref (r.length + 3)) rfl (by unfold tupG seqD; rw [rd_loc]; rfl)))

theorem lay_offs : ∀ os : List (List Int), PyData.canLayAll0 (toPys (offsD os)) = true
  | [] => rfl
  | x :: os => by
    have ih := lay_offs os
    unfold offsD at ih ⊢
    rw [List.map_cons]
    simp only [toPys, toPy, PyData.canLayAll0, PyData.canLay0, lay_ints, ih, Bool.and_self]
theorem depth_offs : ∀ os : List (List Int), PyData.depthAll (toPys (offsD os)) ≤ 1
  | [] => by simp [offsD, toPys, PyData.depthAll]
  | x :: os => by
    have ih := depth_offs os
    unfold offsD at ih ⊢
    rw [List.map_cons]
    simp only [toPys, toPy, PyData.depthAll, PyData.depth, depth_ints]
    omega
theorem okC_offs (os : List (List Int)) : okC (.lst (offsD os)) = true := by
  have h := depth_offs os
  simp only [okC, plain, offs_plain, toPy, SeqAt.shaped, PyData.canLay0, lay_offs, PyData.depth, Bool.true_and, Bool.and_true, decide_eq_true_eq]
  omega
theorem okC_offsT (os : List (List Int)) : okC (.tup (offsD os)) = true := by
  have h := depth_offs os
  simp only [okC, plain, offs_plain, toPy, SeqAt.shaped, PyData.canLay0, lay_offs, PyData.depth, Bool.true_and, Bool.and_true, decide_eq_true_eq]
  omega
theorem ne_offs {x : D} {S : List O} {os : List (List Int)} (h : rd S x = .lst (offsD os)) : neD x (.lst []) S = some (.bl (!os.isEmpty)) := by
  rw [neD_ok (y := .lst []) (by rw [h]; exact okC_offs os) okC_nil, h]
  cases os <;> simp [offsD, rd, toPy, toPys, PyData.eqv, PyData.eqvAll]
theorem if_t {c : ED} {a b : SD} {env : DEnv} {S S1 : List O} (h : c env S = .ok (.bl true) S1) : Sif c a b env S = a env S1 := by
  unfold Sif
  simp only [h, Rs.s_ok]
theorem if_f {c : ED} {a b : SD} {env : DEnv} {S S1 : List O} (h : c env S = .ok (.bl false) S1) : Sif c a b env S = b env S1 := by
  unfold Sif
  simp only [h, Rs.s_ok]
theorem and_t {a b : ED} {env : DEnv} {S S1 : List O} (h : a env S = .ok (.bl true) S1) : Mand a b env S = b env S1 := by
  unfold Mand
  simp only [h, Rs.bind_ok]
theorem and_f {a b : ED} {env : DEnv} {S S1 : List O} (h : a env S = .ok (.bl false) S1) : Mand a b env S = .ok (.bl false) S1 := by
  unfold Mand
  simp only [h, Rs.bind_ok]
theorem one_ok {d : Dk} {c : Nat} {r : List O} {os : List (List Int)} (hd : d.ok c) (hr : Rok r) (hc : c + 1 < 2 ^ 60) (hne : os ≠ []) (hos : os.length < 1000) :
    ∃ (xs : List Int) (d' : Dk), φOne [.ref 2, .ref (r.length + 3)] (d.S (r ++ [.lst (offsD os)])) = .ok (.tup (xs.map .int)) (d'.S (r ++ [.lst (offsD os)])) ∧ d'.ok (c + 1) ∧ xs ∈ os := by
  have hr2 : Rok (r ++ [.lst (offsD os)]) := hr.app (by simp [plainO_offs])
  have hpos : 0 < os.length := List.length_pos_iff.mpr hne
  have hl : M1 lenG (Mvar 1) [some (.ref 2), some (.ref (r.length + 3))] (d.S (r ++ [.lst (offsD os)])) = .ok (.int os.length) (d.S (r ++ [.lst (offsD os)])) :=
    M1_eq (x := .ref (r.length + 3)) rfl (by unfold lenG; rw [rd_loc]; simp [offsD])
  obtain ⟨x, d1, h1, h2, h3, h4⟩ := next_call (env := [some (.ref 2), some (.ref (r.length + 3))]) (e := M1 lenG (Mvar 1)) hd (by omega) hr2 (by omega) (by omega) rfl hl
  obtain ⟨k, rfl⟩ : ∃ k : Nat, x = (k : Int) := ⟨x.toNat, by omega⟩
  obtain ⟨xs, hx⟩ : ∃ xs, os[k]? = some xs := ⟨_, List.getElem?_eq_getElem (by omega)⟩
  refine ⟨xs, d1, gc_rt0 rfl ?_ hr2 (by unfold plain; exact plain_ints xs), h2, List.mem_of_getElem? hx⟩
  unfold mOne
  refine ret_eq (M2_eq (x := .ref (r.length + 3)) rfl h1 ?_)
  unfold idxD
  rw [rd_loc]
  dsimp only
  rw [atI_nat]
  unfold offsD
  rw [List.getElem?_map, hx]
  rfl
theorem rngD_len {n : Int} : ((rngL 0 n).map D.int).length = n.toNat := by rw [List.length_map, rngL_len]; omega
theorem nrng_eq {a : ED} {env : DEnv} {S S1 : List O} {n : Int} (h : a env S = .ok (.int n) S1) (h0 : 0 ≤ n) (h1 : n ≤ 100000) : Nrng a env S = .ok ((rngL 0 n).map .int) S1 := by
  unfold Nrng
  simp only [h, Rs.bind_ok]
  rw [if_pos (by omega)]
theorem asc_sub {n : Int} {xs ys : List Int} (h : xs.Sublist ys) (hy : Asc n ys) : Asc n xs := ⟨hy.pw.sublist h, fun x hx => hy.rg x (h.subset hx)⟩
theorem asc_rng (n : Int) : Asc n (rngL 0 n) := ⟨rngL_pw n, fun x hx => rngL_mem.mp hx⟩
/-- a part of a whole range -/
theorem partR_call {d : Dk} {c : Nat} {r : List O} {n share : Int} {env : DEnv} {a e : ED} {d0 : Dk} (hd : d.ok c) (hr : Rok r) (h0 : 0 ≤ n) (h1 : n ≤ 100) (hc : c + 100 < 2 ^ 60) (hv : Mvar 0 env (d0.S r) = .ok (.ref 2) (d0.S r)) (ha : a env (d0.S r) = .ok (.int n) (d0.S r)) (he : e env (d0.S r) = .ok (.int share) (d.S r)) :
    ∃ (xs : List Int) (d' : Dk), Mcall 3 φPart (Mcons (Mvar 0) (Mcons (Mfrz (Nrng a)) (Mcons e Mnil))) env (d0.S r) = .ok (.tup (xs.map .int)) (d'.S r) ∧ d'.ok (c + n.toNat) ∧ Asc n xs := by
  obtain ⟨es, d1, h2, h3, h4⟩ := part_ok (d := d) (v := .lst ((rngL 0 n).map .int)) (share := share) hd hr (by rw [rngD_len]; omega) (.inr rfl) (plain_ints _)
  rw [rngD_len] at h3
  obtain ⟨xs, rfl, h5⟩ := sub_ints h4
  exact ⟨xs, d1, call_eq (args3 hv (frz_eq (nrng_eq ha h0 (by omega))) he) rfl h2, h3, asc_sub h5 (asc_rng n)⟩
noncomputable def anyB : SD := Sif (Mand (M2 neD (Mvar 4) (Mfrz (Mdisp Mnil))) (M2 eqD (Mcall 2 φNext (Mcons (Mvar 0) (Mcons (Mc (.int 6)) Mnil))) (Mc (.int 0)))) (Sexp (Mlm1 appG (Mvar 4) (Mcall 2 φOne (Mcons (Mvar 0) (Mcons (Mvar 4) Mnil))))) (Sexp (Mlm1 appG (Mvar 4) (Mcall 3 φPart (Mcons (Mvar 0) (Mcons (Mfrz (Nrng (Mvar 1))) (Mcons (Mvar 3) Mnil))))))
theorem offs_app (os : List (List Int)) (xs : List Int) : offsD os ++ [.tup (xs.map .int)] = offsD (os ++ [xs]) := by
  unfold offsD
  rw [List.map_append]
  rfl
theorem offs_len (os : List (List Int)) : (offsD os).length = os.length := by unfold offsD; rw [List.length_map]
theorem any_turn {r : List O} (hr : Rok r) {n m share : Int} (hn : 0 ≤ n) (hn2 : n ≤ 60) {os : List (List Int)} {d : Dk} {c : Nat} (hd : d.ok c) (hc : c + 200 < 2 ^ 60) (hos : os.length < 1000) (hasc : ∀ xs ∈ os, Asc n xs) (e5 : Option D) :
    ∃ (xs : List Int) (d' : Dk), anyB [some (.ref 2), some (.int n), some (.int m), some (.int share), some (.ref (r.length + 3)), e5] (d.S (r ++ [.lst (offsD os)])) =
      .nx [some (.ref 2), some (.int n), some (.int m), some (.int share), some (.ref (r.length + 3)), e5] (d'.S (r ++ [.lst (offsD (os ++ [xs]))])) ∧ d'.ok (c + 70) ∧ Asc n xs := by
  have hr2 : Rok (r ++ [.lst (offsD os)]) := hr.app (by simp [plainO_offs])
  have cne := M2_eq (g := neD) (a := Mvar 4) (b := Mfrz (Mdisp Mnil)) (env := [some (.ref 2), some (.int n), some (.int m), some (.int share), some (.ref (r.length + 3)), e5]) (S := d.S (r ++ [.lst (offsD os)])) (x := .ref (r.length + 3)) (y := .lst []) rfl rfl (ne_offs rd_loc)
  have fin : ∀ {d1 : Dk} {c1 : Nat}, d1.ok c1 → c1 ≤ c + 5 → Mand (M2 neD (Mvar 4) (Mfrz (Mdisp Mnil))) (M2 eqD (Mcall 2 φNext (Mcons (Mvar 0) (Mcons (Mc (.int 6)) Mnil))) (Mc (.int 0))) [some (.ref 2), some (.int n), some (.int m), some (.int share), some (.ref (r.length + 3)), e5] (d.S (r ++ [.lst (offsD os)])) = .ok (.bl false) (d1.S (r ++ [.lst (offsD os)])) →
      ∃ (xs : List Int) (d' : Dk), anyB [some (.ref 2), some (.int n), some (.int m), some (.int share), some (.ref (r.length + 3)), e5] (d.S (r ++ [.lst (offsD os)])) =
      .nx [some (.ref 2), some (.int n), some (.int m), some (.int share), some (.ref (r.length + 3)), e5] (d'.S (r ++ [.lst (offsD (os ++ [xs]))])) ∧ d'.ok (c + 70) ∧ Asc n xs := fun {d1 c1} h1 hc1 hcond => by
    obtain ⟨xs, d2, k1, k2, k3⟩ := partR_call (env := [some (.ref 2), some (.int n), some (.int m), some (.int share), some (.ref (r.length + 3)), e5]) (a := Mvar 1) (e := Mvar 3) (share := share) (d0 := d1) h1 hr2 hn (by omega) (by omega) rfl rfl rfl
    refine ⟨xs, d2, ?_, k2.mono (by omega), k3⟩
    unfold anyB
    rw [if_f hcond]
    have a5 := lm1_eq (g := appG) (o := Mvar 4) (l := r.length + 3) rfl at_loc k1 at_loc (app_ok (by rw [offs_len]; omega))
    rw [set_loc, offs_app] at a5
    exact exp_eq a5
  cases os with
  | nil =>
    refine fin hd (by omega) ?_
    exact and_f cne
  | cons o os =>
    obtain ⟨x, d1, h1, h2, h3, h4⟩ := next_call (env := [some (.ref 2), some (.int n), some (.int m), some (.int share), some (.ref (r.length + 3)), e5]) (e := Mc (.int 6)) hd (by omega) hr2 (by omega) (by omega) rfl rfl
    have ceq := M2_eq (b := Mc (.int 0)) h1 rfl (eqD_int x 0 (d1.S (r ++ [.lst (offsD (o :: os))])))
    by_cases hx : x = 0
    · subst hx
      obtain ⟨xs, d2, k1, k2, k3⟩ := one_ok (os := o :: os) h2 hr (by omega) (by simp) hos
      refine ⟨xs, d2, ?_, k2.mono (by omega), hasc xs k3⟩
      unfold anyB
      rw [if_t ((and_t cne).trans ceq)]
      have a5 := lm1_eq (g := appG) (o := Mvar 4) (env := [some (.ref 2), some (.int n), some (.int m), some (.int share), some (.ref (r.length + 3)), e5]) (l := r.length + 3) rfl at_loc (call_eq (φ := φOne) (args2 (a := Mvar 0) (b := Mvar 4) rfl rfl) rfl k1) at_loc (app_ok (by rw [offs_len]; omega))
      rw [set_loc, offs_app] at a5
      exact exp_eq a5
    · refine fin h2 (by omega) ((and_t cne).trans (ceq.trans ?_))
      have : (x == 0) = false := by simp [hx]
      rw [this]
theorem any_ok {d : Dk} {c : Nat} {r : List O} {n m : Int} (hd : d.ok c) (hr : Rok r) (hn : 1 ≤ n) (hn2 : n ≤ 10) (hm : 0 ≤ m) (hm2 : m ≤ 10) (hc : c + 2000 < 2 ^ 60) :
    ∃ (os : List (List Int)) (d' : Dk), φAny [.ref 2, .int n, .int m] (d.S r) = .ok (tabD n os) (d'.S r) ∧ d'.ok (c + 1000) ∧ Tab n os := by
  obtain ⟨share, d1, h1, h2, h3, h4⟩ := next_call (env := [some (.ref 2), some (.int n), some (.int m), none, none, none]) (e := Mc (.int 4)) hd (by omega) hr (by omega) (by omega) rfl rfl
  have a1 := par_eq (i := 3) (j := 4) h1 (b := Mnew (Mdisp Mnil)) (new_eq nil_eq)
  obtain ⟨env', S', f1, os, d2, e5, f2, f3, f4, f5, f6⟩ := forD_inv (p := .nm 5) (b := anyB) (fun j env S => ∃ (os : List (List Int)) (d : Dk) (e5 : Option D), env = [some (.ref 2), some (.int n), some (.int m), some (.int share), some (.ref (r.length + 3)), e5] ∧ S = d.S (r ++ [.lst (offsD os)]) ∧ d.ok (c + 1 + 70 * j) ∧ os.length = j ∧ ∀ xs ∈ os, Asc n xs)
    ((rngL 0 m).map .int) 0 [some (.ref 2), some (.int n), some (.int m), some (.int share), some (.ref (r.length + 3)), none] (d1.S (r ++ [.lst []])) ⟨[], d1, none, rfl, rfl, h2, rfl, fun _ z => nomatch z⟩ (by
      rintro j x env S hx ⟨os, d, e5, rfl, rfl, g1, g2, g3⟩
      obtain ⟨rfl, hj⟩ := rngD_get hx
      obtain ⟨xs, d3, k1, k2, k3⟩ := any_turn hr (by omega) (by omega) (m := m) (share := share) (os := os) g1 (by omega) (by omega) g3 (some (.int (j : Int)))
      refine ⟨_, _, _, rfl, k1, os ++ [xs], d3, _, rfl, rfl, ?_, by simp [g2], fun ys hy => ?_⟩
      · exact k2
      · rcases List.mem_append.mp hy with hy | hy
        · exact g3 ys hy
        · rw [List.mem_singleton.mp hy]
          exact k3)
  subst f2 f3
  rw [rngD_len] at f4 f5
  refine ⟨os, d2, gc_rt (loc := [.lst (offsD os)]) rfl ?_ hr (tab_plain n os), f4.mono (by omega), ⟨hn, hn2, by omega, f6⟩⟩
  unfold mAny
  refine (show Sseq _ _ _ _ = _ from seq_nx a1).trans ?_
  refine (show Sseq _ _ _ _ = _ from seq_nx (for_eq (rng_eq (n := m) rfl hm (by omega)) f1)).trans ?_
  exact ret_eq (tup2 rfl (M1_eq (x := .ref (r.length + 3)) rfl (by unfold tupG seqD; rw [rd_loc]; rfl)))
end PB

set_option Elab.async false
set_option linter.all false
set_option maxRecDepth 100000
set_option maxHeartbeats 4000000

namespace PB
open PySem PySem.Spec PyProof.Rows L2

/-! ### tables around a ring -/
noncomputable def arndB : SD := Sif (Mand (M2 leD (Mvar 4) (Mvar 1)) (M2 ltD (Mvar 6) (Mvar 4))) (Sexp (Mlm1 appG (Mvar 5) (M1 tupG (Mfrz (MN1 sortG (Mfrz (MN2 catN (Mfrz (Mdisp (Mcons (M2 idxD (Mvar 3) (Mvar 6)) (Mcons (M2 idxD (Mvar 3) (M2 modD (M2 addD (Mvar 6) (Mc (.int 1))) (Mvar 4))) Mnil)))) (Mfrz (MN1 listG (Mcall 3 φPart (Mcons (Mvar 0) (Mcons (Msl (Mvar 3) (Mso (Mvar 4)) Mno) (Mcons (Mc (.int 3)) Mnil))))))))))))) (Sexp (Mlm1 appG (Mvar 5) (Mcall 3 φPart (Mcons (Mvar 0) (Mcons (Mfrz (Nrng (Mvar 1))) (Mcons (M2 addD (Mc (.int 1)) (Mcall 2 φNext (Mcons (Mvar 0) (Mcons (Mc (.int 3)) Mnil)))) Mnil))))))
theorem cut_from {xs : List Int} {s : Nat} (h : s ≤ xs.length) : cutD (xs.map D.int) (some (s : Int)) none = (xs.drop s).map D.int := by
  unfold cutD
  have e1 : HT.sIx (xs.map D.int).length 0 (some (s : Int)) = s := by
    unfold HT.sIx
    simp only [List.length_map]
    rw [if_neg (by omega)]
    simp
    omega
  have e2 : HT.sIx (xs.map D.int).length (xs.map D.int).length none = xs.length := by unfold HT.sIx; simp
  rw [e1, e2, List.map_drop, List.take_of_length_le]
  simp
theorem ring_nodup {xs ys : List Int} {k k' s : Nat} {a b : Int} (hn : xs.Nodup) (hk : k < s) (hk' : k' < s) (hkk : k ≠ k') (ha : xs[k]? = some a) (hb : xs[k']? = some b) (hy : ys.Sublist (xs.drop s)) : (a :: b :: ys).Nodup ∧ ∀ x ∈ (a :: b :: ys), x ∈ xs := by
  have ma := List.mem_of_getElem? ha
  have mb := List.mem_of_getElem? hb
  have my : ∀ y ∈ ys, y ∈ xs.drop s := fun y h => hy.subset h
  have far : ∀ (j : Nat) (c : Int), j < s → xs[j]? = some c → c ∉ ys := fun j c hj hc hm => by
    obtain ⟨i, hi, e⟩ := List.getElem_of_mem (my c hm)
    rw [List.getElem_drop] at e
    obtain ⟨p1, p2⟩ := List.getElem?_eq_some_iff.mp hc
    have := (List.getElem_inj hn).mp (p2.trans e.symm)
    omega
  have hab : a ≠ b := fun e => by
    obtain ⟨p1, p2⟩ := List.getElem?_eq_some_iff.mp ha
    obtain ⟨q1, q2⟩ := List.getElem?_eq_some_iff.mp hb
    exact hkk ((List.getElem_inj hn).mp (p2.trans (e.trans q2.symm)))
  refine ⟨?_, fun x hx => ?_⟩
  · refine List.nodup_cons.mpr ⟨?_, List.nodup_cons.mpr ⟨far k' b hk' hb, (hn.sublist (List.drop_sublist s xs)).sublist hy⟩⟩
    intro h
    rcases List.mem_cons.mp h with h | h
    · exact hab h
    · exact far k a hk ha h
  · rcases List.mem_cons.mp hx with rfl | hx
    · exact ma
    · rcases List.mem_cons.mp hx with rfl | hx
      · exact mb
      · exact List.mem_of_mem_drop (my x hx)
theorem idx_ints {xs : List Int} {k : Nat} {a : Int} {S : List O} (h : xs[k]? = some a) : idxD (.tup (xs.map .int)) (.int (k : Int)) S = some (.int a) := by
  unfold idxD
  simp only [rd, atI_nat, List.getElem?_map, h, Option.map_some]
theorem disp2 {a b : ED} {env : DEnv} {S S1 S2 : List O} {x y : D} (h1 : a env S = .ok x S1) (h2 : b env S1 = .ok y S2) : Mdisp (Mcons a (Mcons b Mnil)) env S = .ok [x, y] S2 := by
  unfold Mdisp
  rw [args2 h1 h2]
  rfl
theorem arnd_turn {r : List O} (hr : Rok r) {n m size : Int} (hn : 1 ≤ n) (hn2 : n ≤ 10) (hs : 3 ≤ size) (hs2 : size ≤ 5) {order : List Int} (ho : order.Nodup) (hor : ∀ x ∈ order, 0 ≤ x ∧ x < n) (hol : order.length = n.toNat) {os : List (List Int)} {d : Dk} {c : Nat} (hd : d.ok c) (hc : c + 200 < 2 ^ 60) (hos : os.length < 1000) (k : Nat) :
    ∃ (xs : List Int) (d' : Dk), arndB [some (.ref 2), some (.int n), some (.int m), some (.tup (order.map .int)), some (.int size), some (.ref (r.length + 3)), some (.int (k : Int))] (d.S (r ++ [.lst (offsD os)])) =
      .nx [some (.ref 2), some (.int n), some (.int m), some (.tup (order.map .int)), some (.int size), some (.ref (r.length + 3)), some (.int (k : Int))] (d'.S (r ++ [.lst (offsD (os ++ [xs]))])) ∧ d'.ok (c + 70) ∧ Asc n xs := by
  have hr2 : Rok (r ++ [.lst (offsD os)]) := hr.app (by simp [plainO_offs])
  obtain ⟨s, rfl⟩ : ∃ s : Nat, size = (s : Int) := ⟨size.toNat, by omega⟩
  have cond : Mand (M2 leD (Mvar 4) (Mvar 1)) (M2 ltD (Mvar 6) (Mvar 4)) [some (.ref 2), some (.int n), some (.int m), some (.tup (order.map .int)), some (.int (s : Int)), some (.ref (r.length + 3)), some (.int (k : Int))] (d.S (r ++ [.lst (offsD os)])) = .ok (.bl (decide ((s : Int) ≤ n) && decide ((k : Int) < (s : Int)))) (d.S (r ++ [.lst (offsD os)])) := by
    by_cases h : (s : Int) ≤ n
    · rw [decide_eq_true h, Bool.true_and]
      refine (and_t (M2_eq (x := .int (s : Int)) (y := .int n) rfl rfl (by show some (D.bl (decide ((s : Int) ≤ n))) = _; rw [decide_eq_true h]))).trans ?_
      exact M2_eq (x := .int (k : Int)) (y := .int (s : Int)) rfl rfl rfl
    · rw [decide_eq_false h, Bool.false_and]
      exact and_f (M2_eq (x := .int (s : Int)) (y := .int n) rfl rfl (by show some (D.bl (decide ((s : Int) ≤ n))) = _; rw [decide_eq_false h]))
  unfold arndB
  by_cases h : (s : Int) ≤ n ∧ (k : Int) < (s : Int)
  · have hk : k < order.length := by omega
    have hmod : ((k : Int) + 1) % (s : Int) = (((k + 1) % s : Nat) : Int) := by
      rw [Int.natCast_emod]
      rfl
    have hlt : (k + 1) % s < s := Nat.mod_lt _ (by omega)
    have hne : k ≠ (k + 1) % s := by
      by_cases e : k + 1 < s
      · rw [Nat.mod_eq_of_lt e]
        omega
      · have : k + 1 = s := by omega
        rw [this, Nat.mod_self]
        omega
    obtain ⟨a, ha⟩ : ∃ a, order[k]? = some a := ⟨_, List.getElem?_eq_getElem hk⟩
    obtain ⟨b, hb⟩ : ∃ b, order[(k + 1) % s]? = some b := ⟨_, List.getElem?_eq_getElem (by omega)⟩
    obtain ⟨es, d1, h1, h2, h3⟩ := part_ok (d := d) (v := .tup ((order.drop s).map .int)) (share := 3) hd hr2 (by rw [List.length_map, List.length_drop]; omega) (.inl rfl) (plain_ints _)
    obtain ⟨ys, rfl, h5⟩ := sub_ints h3
    obtain ⟨g1, g2⟩ := ring_nodup ho (by omega) hlt hne ha hb h5
    have hyl : ys.length ≤ 10 := by
      have := h5.length_le
      rw [List.length_drop] at this
      omega
    refine ⟨srtI (a :: b :: ys), d1, ?_, h2.mono (by rw [List.length_map, List.length_drop]; omega), srt_asc g1 fun x hx => hor x (g2 x hx)⟩
    rw [if_t (by rw [cond, decide_eq_true h.1, decide_eq_true h.2]; rfl)]
    have b1 := disp2 (env := [some (.ref 2), some (.int n), some (.int m), some (.tup (order.map .int)), some (.int (s : Int)), some (.ref (r.length + 3)), some (.int (k : Int))]) (S := d.S (r ++ [.lst (offsD os)]))
      (M2_eq (a := Mvar 3) (b := Mvar 6) rfl rfl (idx_ints ha)) (M2_eq (a := Mvar 3) (b := M2 modD (M2 addD (Mvar 6) (Mc (.int 1))) (Mvar 4)) rfl (M2_eq (y := .int (s : Int)) (M2_eq (x := .int (k : Int)) (y := .int 1) rfl rfl rfl) rfl (by rw [mod_int (by omega), hmod])) (idx_ints hb))
    have b2 := call_eq (n := 3) (φ := φPart) (env := [some (.ref 2), some (.int n), some (.int m), some (.tup (order.map .int)), some (.int (s : Int)), some (.ref (r.length + 3)), some (.int (k : Int))]) (args3 (a := Mvar 0) (b := Msl (Mvar 3) (Mso (Mvar 4)) Mno) (e := Mc (.int 3)) (S := d.S (r ++ [.lst (offsD os)])) rfl (sl_eq (x := .tup (order.map .int)) (lo := some (s : Int)) (hi := none) rfl rfl rfl (by show some (D.tup (cutD (order.map .int) (some (s : Int)) none)) = _; rw [cut_from (by omega)])) rfl) rfl h1
    have b3 := MN2_eq (g := catN) (frz_eq b1) (frz_eq (MN1_eq (g := listG) b2 rfl)) (d := (a :: b :: ys).map .int) (by
      unfold catN
      show (if ([D.int a, D.int b] : List D).length + (ys.map D.int).length ≤ sizeLine then some ([D.int a, D.int b] ++ ys.map D.int) else none) = _
      rw [if_pos (by rw [List.length_map, sizeLine_eq]; show 2 + ys.length ≤ _; omega)]
      rfl)
    have b4 := M1_eq (g := tupG) (frz_eq (MN1_eq (frz_eq b3) (sort_ints (.inr rfl) (by show ys.length + 1 + 1 < 64; omega)))) rfl
    have a5 := lm1_eq (g := appG) (o := Mvar 5) (l := r.length + 3) rfl at_loc b4 at_loc (app_ok (by rw [offs_len]; omega))
    rw [set_loc, offs_app] at a5
    exact exp_eq a5
  · obtain ⟨x, d1, h1, h2, h3, h4⟩ := next_call (env := [some (.ref 2), some (.int n), some (.int m), some (.tup (order.map .int)), some (.int (s : Int)), some (.ref (r.length + 3)), some (.int (k : Int))]) (e := Mc (.int 3)) hd (by omega) hr2 (by omega) (by omega) rfl rfl
    obtain ⟨xs, d2, k1, k2, k3⟩ := partR_call (d0 := d) (env := [some (.ref 2), some (.int n), some (.int m), some (.tup (order.map .int)), some (.int (s : Int)), some (.ref (r.length + 3)), some (.int (k : Int))]) (a := Mvar 1) (e := M2 addD (Mc (.int 1)) (Mcall 2 φNext (Mcons (Mvar 0) (Mcons (Mc (.int 3)) Mnil)))) (share := 1 + x) h2 hr2 (by omega) (by omega) (by omega) rfl rfl (M2_eq (x := .int 1) rfl h1 rfl)
    refine ⟨xs, d2, ?_, k2.mono (by omega), k3⟩
    have hf : (decide ((s : Int) ≤ n) && decide ((k : Int) < (s : Int))) = false := by
      rw [Bool.and_eq_false_iff]
      by_cases e : (s : Int) ≤ n
      · exact .inr (decide_eq_false fun z => h ⟨e, z⟩)
      · exact .inl (decide_eq_false e)
    rw [if_f (by rw [cond, hf])]
    have a5 := lm1_eq (g := appG) (o := Mvar 5) (l := r.length + 3) rfl at_loc k1 at_loc (app_ok (by rw [offs_len]; omega))
    rw [set_loc, offs_app] at a5
    exact exp_eq a5
theorem comp_cons {p : Pat} {me : ED} {env env1 : DEnv} {d x : D} {ds xs : List D} {S S1 S2 : List O} (h1 : setP p d env = some env1) (h2 : me env1 S = .ok x S1) (h3 : compD none p none me env ds S1 = .ok xs S2) : compD none p none me env (d :: ds) S = .ok (x :: xs) S2 := by
  unfold compD
  simp only [Gd, if_true, h1, h2, h3, Rs.nx_ok, Rs.bind_ok]
theorem comp_nil {p : Pat} {mt : Option ED} {me : ED} {env : DEnv} {S : List O} : compD none p mt me env [] S = .ok [] S := by
  unfold compD
  exact if_pos True.intro
/-- the drawn order of the offers -/
theorem pops_comp {r : List O} (hr : Rok r) {e1 e2 e3 e4 : Option D} : ∀ (ds : List D) (left : List (List Int)) (d : Dk) (c : Nat), left.length = ds.length → d.ok c → c + ds.length < 2 ^ 60 → left.length < 1000 →
    ∃ (out : List (List Int)) (d' : Dk), compD none (.nm 6) none (Mlm1 popG (Mvar 5) (Mcall 2 φNext (Mcons (Mvar 0) (Mcons (M1 lenG (Mvar 5)) Mnil)))) [some (.ref 2), e1, e2, e3, e4, some (.ref (r.length + 3)), none] ds (d.S (r ++ [.lst (offsD left)])) = .ok (offsD out) (d'.S (r ++ [.lst []])) ∧ d'.ok (c + ds.length) ∧ out.Perm left
  | [], left, d, c, hl, hd, _, _ => by
    have : left = [] := List.length_eq_zero_iff.mp hl
    subst this
    refine ⟨[], d, ?_, hd, .refl _⟩
    unfold compD
    simp only [Sseq, Sasg, Sif, Sret, Srtn, Sexp, Snx, Spar, Ssub, Sfor, Mvar, Mc, M1, M2, MN1, MN2, Mcons, Mnil, Mtup, Mfrz, Mnew, Mdisp, Mnot, Mand, Mor, Mif, Mchain, Mcall, Mlm1, Mm1, Nm1, Msl, Nsl, Mno, Mso, Misi, Misi2, Mfs, Mjs, Mfmt, Irng1, Irng2, Mit, Izip, Ienum, Nrng, MComp, wipeD, setP, setPs, Rs.bind_ok, Rs.bind_no, Rs.s_ok, Rs.s_no, Rs.nx_ok, Rs.nx_no, Ss.sq_nx, Ss.sq_rt, Ss.sq_no, optRs_some, optRs_none, optRl_some, optRl_none, optRi_some, Option.bind_some, Option.map_some, Option.bind_none, Option.map_none, List.getElem?_cons_zero, List.getElem?_cons_succ, List.set_cons_zero, List.set_cons_succ, List.length_cons, List.length_nil, Nat.zero_add, Nat.reduceAdd, Nat.reduceLeDiff, Nat.reduceSub, Nat.reduceEqDiff, if_true, if_false, ↓reduceIte, startD, List.map_cons, List.map_nil, List.cons_append, List.nil_append, List.replicate_succ, List.replicate_zero, Bool.not_true, Bool.not_false, Gd]
    rfl
  | x :: ds, left, d, c, hl, hd, hc, hz => by
    have hl' : left.length = ds.length + 1 := hl
    have hc' : c + (ds.length + 1) < 2 ^ 60 := hc
    have hr2 : Rok (r ++ [.lst (offsD left)]) := hr.app (by simp [plainO_offs])
    have hlen : M1 lenG (Mvar 5) [some (.ref 2), e1, e2, e3, e4, some (.ref (r.length + 3)), some x] (d.S (r ++ [.lst (offsD left)])) = .ok (.int left.length) (d.S (r ++ [.lst (offsD left)])) :=
      M1_eq (x := .ref (r.length + 3)) rfl (by unfold lenG; rw [rd_loc]; simp [offsD])
    obtain ⟨y, d1, h1, h2, h3, h4⟩ := next_call (env := [some (.ref 2), e1, e2, e3, e4, some (.ref (r.length + 3)), some x]) (e := M1 lenG (Mvar 5)) hd (by omega) hr2 (by omega) (by omega) rfl hlen
    obtain ⟨k, rfl⟩ : ∃ k : Nat, y = (k : Int) := ⟨y.toNat, by omega⟩
    obtain ⟨z, hg⟩ : ∃ z, left[k]? = some z := ⟨_, List.getElem?_eq_getElem (by omega)⟩
    have hpop : popG (offsD left) (.int (k : Int)) = some (.tup (z.map .int), offsD (left.eraseIdx k)) := by
      unfold offsD
      rw [pop_nat (d := .tup (z.map .int)) (by rw [List.getElem?_map, hg]; rfl) (by rw [List.length_map]; omega), map_erase]
    have a5 := lm1_eq (g := popG) (o := Mvar 5) (l := r.length + 3) rfl at_loc h1 at_loc hpop
    rw [set_loc] at a5
    obtain ⟨out, d2, k1, k2, k3⟩ := pops_comp hr (e1 := e1) (e2 := e2) (e3 := e3) (e4 := e4) ds (left.eraseIdx k) d1 (c + 1) (by rw [List.length_eraseIdx_of_lt (by omega)]; omega) h2 (by omega) (by rw [List.length_eraseIdx_of_lt (by omega)]; omega)
    refine ⟨z :: out, d2, ?_, ?_, (k3.cons z).trans (erase_perm left k z hg)⟩
    · exact comp_cons rfl a5 k1
    · rw [show c + (x :: ds).length = c + 1 + ds.length by simp; omega]
      exact k2
theorem arnd_ok {d : Dk} {c : Nat} {r : List O} {n m : Int} (hd : d.ok c) (hr : Rok r) (hn : 1 ≤ n) (hn2 : n ≤ 10) (hm : 0 ≤ m) (hm2 : m ≤ 10) (hc : c + 2000 < 2 ^ 60) :
    ∃ (os : List (List Int)) (d' : Dk), φArnd [.ref 2, .int n, .int m] (d.S r) = .ok (tabD n os) (d'.S r) ∧ d'.ok (c + 1000) ∧ Tab n os := by
  obtain ⟨order, d1, h1, h2, h3⟩ := shuf_ok (n := n) hd hr (by omega) (by omega) (by omega)
  obtain ⟨p1, p2, p3⟩ := perm_rng h3
  obtain ⟨x, d2, h4, h5, h6, h7⟩ := next_call (env := [some (.ref 2), some (.int n), some (.int m), none, none, none, none]) (e := Mc (.int 3)) h2 (by omega) hr (by omega) (by omega) rfl rfl
  have a1 := par_eq (i := 3) (j := 4) (env := [some (.ref 2), some (.int n), some (.int m), none, none, none, none]) (a := Mcall 2 φShuf (Mcons (Mvar 0) (Mcons (Mvar 1) Mnil))) (b := M2 addD (Mc (.int 3)) (Mcall 2 φNext (Mcons (Mvar 0) (Mcons (Mc (.int 3)) Mnil)))) (call_eq (args2 rfl rfl) rfl h1) (M2_eq (x := .int 3) rfl h4 add_int)
  have a2 := asg_eq (i := 5) (env := [some (.ref 2), some (.int n), some (.int m), some (.tup (order.map .int)), some (.int (3 + x)), none, none]) (S := d2.S r) (new_eq nil_eq)
  obtain ⟨env', S', f1, os, d3, e5, f2, f3, f4, f5, f6⟩ := forD_inv (p := .nm 6) (b := arndB) (fun j env S => ∃ (os : List (List Int)) (d : Dk) (e5 : Option D), env = [some (.ref 2), some (.int n), some (.int m), some (.tup (order.map .int)), some (.int (3 + x)), some (.ref (r.length + 3)), e5] ∧ S = d.S (r ++ [.lst (offsD os)]) ∧ d.ok (c + n.toNat + 1 + 70 * j) ∧ os.length = j ∧ ∀ xs ∈ os, Asc n xs)
    ((rngL 0 m).map .int) 0 [some (.ref 2), some (.int n), some (.int m), some (.tup (order.map .int)), some (.int (3 + x)), some (.ref (r.length + 3)), none] (d2.S (r ++ [.lst []])) ⟨[], d2, none, rfl, rfl, h5, rfl, fun _ z => nomatch z⟩ (by
      rintro j y env S hx ⟨os, d, e5, rfl, rfl, g1, g2, g3⟩
      obtain ⟨rfl, hj⟩ := rngD_get hx
      obtain ⟨xs, d3, k1, k2, k3⟩ := arnd_turn hr hn hn2 (m := m) (size := 3 + x) (by omega) (by omega) p1 p2 p3 (os := os) g1 (by omega) (by omega) j
      refine ⟨_, _, _, rfl, k1, os ++ [xs], d3, _, rfl, rfl, ?_, by simp [g2], fun ys hy => ?_⟩
      · exact k2
      · rcases List.mem_append.mp hy with hy | hy
        · exact g3 ys hy
        · rw [List.mem_singleton.mp hy]
          exact k3)
  subst f2 f3
  rw [rngD_len] at f4 f5
  obtain ⟨out, d4, q1, q2, q3⟩ := pops_comp hr (e1 := some (.int n)) (e2 := some (.int m)) (e3 := some (.tup (order.map .int))) (e4 := some (.int (3 + x))) ((rngL 0 m).map .int) os d3 _ (by rw [rngD_len]; omega) f4 (by rw [rngD_len]; omega) (by omega)
  rw [rngD_len] at q2
  refine ⟨out, d4, gc_rt (loc := [.lst []]) rfl ?_ hr (tab_plain n out), q2.mono (by omega), ⟨hn, hn2, by rw [q3.length_eq]; omega, fun xs hx => f6 xs (q3.mem_iff.mp hx)⟩⟩
  unfold mArnd
  refine (show Sseq _ _ _ _ = _ from seq_nx a1).trans ?_
  refine (show Sseq _ _ _ _ = _ from seq_nx a2).trans ?_
  refine (show Sseq _ _ _ _ = _ from seq_nx (for_eq (rng_eq (n := m) rfl hm (by omega)) f1)).trans ?_
  refine ret_eq (tup2 rfl (M1_eq (g := tupG) (x := .lst (offsD out)) (frz_eq ?_) rfl))
  unfold MComp
  rw [rng_eq (n := m) (a := Mvar 2) rfl hm (by omega)]
  exact q1
end PB

set_option Elab.async false
set_option linter.all false
set_option maxRecDepth 100000
set_option maxHeartbeats 4000000

namespace PB
open PySem PySem.Spec PyProof.Rows L2

/-! ### a drawn table, drawn data -/
theorem args_cons {a : ED} {b : EDs} {env : DEnv} {S S1 S2 : List O} {x : D} {xs : List D} (h1 : a env S = .ok x S1) (h2 : b env S1 = .ok xs S2) : Mcons a b env S = .ok (x :: xs) S2 := by
  unfold Mcons
  simp only [h1, h2, Rs.bind_ok]
theorem if_tE {c a b : ED} {env : DEnv} {S S1 : List O} (h : c env S = .ok (.bl true) S1) : Mif c a b env S = a env S1 := by
  unfold Mif
  simp only [h, Rs.bind_ok]
theorem if_fE {c a b : ED} {env : DEnv} {S S1 : List O} (h : c env S = .ok (.bl false) S1) : Mif c a b env S = b env S1 := by
  unfold Mif
  simp only [h, Rs.bind_ok]
theorem seq_rt {a b : SD} {env : DEnv} {S S' : List O} {d : D} (h : a env S = .rt d S') : Sseq a b env S = .rt d S' := by unfold Sseq; rw [h]; rfl
theorem disp_eq {m : EDs} {env : DEnv} {S S1 : List O} {ds : List D} (h : m env S = .ok ds S1) (hl : ds.length ≤ 1000) : Mdisp m env S = .ok ds S1 := by
  unfold Mdisp
  simp only [h, Rs.bind_ok]
  exact if_pos hl
theorem tabl_ok {d : Dk} {c : Nat} {r : List O} {n m : Int} (hd : d.ok c) (hr : Rok r) (hn : 1 ≤ n) (hn2 : n ≤ 10) (hm : 0 ≤ m) (hm2 : m ≤ 10) (hc : c + 3000 < 2 ^ 60) :
    ∃ (k : Int) (os : List (List Int)) (d' : Dk), φTabl [.ref 2, .int n, .int m] (d.S r) = .ok (tabD k os) (d'.S r) ∧ d'.ok (c + 1100) ∧ Tab k os := by
  obtain ⟨x, d1, h1, h2, h3, h4⟩ := next_call (env := [some (.ref 2), some (.int n), some (.int m), none]) (e := Mvar 1) hd (by omega) hr (by omega) (by omega) rfl rfl
  obtain ⟨y, d2, h5, h6, h7, h8⟩ := next_call (many := m + 1) (env := [some (.ref 2), some (.int n), some (.int m), none]) (e := M2 addD (Mvar 2) (Mc (.int 1))) h2 (by omega) hr (by omega) (by omega) rfl (M2_eq (x := .int m) (y := .int 1) rfl rfl rfl)
  have a1 := par_eq (i := 1) (j := 2) (M2_eq (g := addD) (a := Mc (.int 1)) (x := .int 1) rfl h1 add_int) h5
  obtain ⟨way, d3, g1, g2, g3, g4⟩ := next_call (env := [some (.ref 2), some (.int (1 + x)), some (.int y), none]) (e := Mc (.int 5)) h6 (by omega) hr (by omega) (by omega) rfl rfl
  have a2 := asg_eq (i := 3) g1
  have cw := M2_eq (g := ltD) (a := Mvar 3) (b := Mc (.int 2)) (env := [some (.ref 2), some (.int (1 + x)), some (.int y), some (.int way)]) (S := d3.S r) (x := .int way) (y := .int 2) rfl rfl rfl
  have ce := M2_eq (g := eqD) (a := Mvar 3) (b := Mc (.int 2)) (env := [some (.ref 2), some (.int (1 + x)), some (.int y), some (.int way)]) (S := d3.S r) (x := .int way) (y := .int 2) rfl rfl (eqD_int way 2 _)
  have args : Mcons (Mvar 0) (Mcons (Mvar 1) (Mcons (Mvar 2) Mnil)) [some (.ref 2), some (.int (1 + x)), some (.int y), some (.int way)] (d3.S r) = .ok [.ref 2, .int (1 + x), .int y] (d3.S r) := args3 rfl rfl rfl
  by_cases hw : way < 2
  · obtain ⟨os, d4, k1, k2, k3⟩ := intv_ok (n := 1 + x) (m := y) g2 hr (by omega) (by omega) h7 (by omega) (by omega)
    refine ⟨1 + x, os, d4, gc_rt0 rfl ?_ hr (tab_plain _ _), k2.mono (by omega), k3⟩
    unfold mTabl
    refine (show Sseq _ _ _ _ = _ from seq_nx a1).trans ?_
    refine (show Sseq _ _ _ _ = _ from seq_nx a2).trans ?_
    refine seq_rt ?_
    rw [decide_eq_true hw] at cw
    refine (if_t cw).trans ?_
    exact ret_eq (call_eq args rfl k1)
  · have fin : ∀ (os : List (List Int)) (d4 : Dk), Mif (M2 eqD (Mvar 3) (Mc (.int 2))) (Mcall 3 φArnd (Mcons (Mvar 0) (Mcons (Mvar 1) (Mcons (Mvar 2) Mnil)))) (Mcall 3 φAny (Mcons (Mvar 0) (Mcons (Mvar 1) (Mcons (Mvar 2) Mnil)))) [some (.ref 2), some (.int (1 + x)), some (.int y), some (.int way)] (d3.S r) = .ok (tabD (1 + x) os) (d4.S r) →
        mTabl (startD 4 [.ref 2, .int n, .int m]) (d.S r) = .rt (tabD (1 + x) os) (d4.S r) := fun os d4 h => by
      unfold mTabl
      refine (show Sseq _ _ _ _ = _ from seq_nx a1).trans ?_
      refine (show Sseq _ _ _ _ = _ from seq_nx a2).trans ?_
      rw [decide_eq_false hw] at cw
      refine (show Sseq _ _ _ _ = _ from seq_nx ((if_f cw).trans rfl)).trans ?_
      exact ret_eq h
    by_cases he : way = 2
    · obtain ⟨os, d4, k1, k2, k3⟩ := arnd_ok (n := 1 + x) (m := y) g2 hr (by omega) (by omega) h7 (by omega) (by omega)
      refine ⟨1 + x, os, d4, gc_rt0 rfl (fin os d4 ?_) hr (tab_plain _ _), k2.mono (by omega), k3⟩
      rw [show (way == 2) = true by simp [he]] at ce
      exact (if_tE ce).trans (call_eq args rfl k1)
    · obtain ⟨os, d4, k1, k2, k3⟩ := any_ok (n := 1 + x) (m := y) g2 hr (by omega) (by omega) h7 (by omega) (by omega)
      refine ⟨1 + x, os, d4, gc_rt0 rfl (fin os d4 ?_) hr (tab_plain _ _), k2.mono (by omega), k3⟩
      rw [show (way == 2) = false by simp [he]] at ce
      exact (if_fE ce).trans (call_eq args rfl k1)
/-- an amount -/
def Amt (x : Int) : Prop := 0 ≤ x ∧ x ≤ 1000000000000
theorem pow_1012 : ∀ S, powD (.int 10) (.int 12) S = some (.int 1000000000000) := fun S => by
  show (if (0 : Int) ≤ 12 ∧ (12 : Int) ≤ 1000 ∧ sm64 10 = true then some (D.int ((10 : Int) ^ (12 : Int).toNat)) else none) = _
  rw [if_pos (by decide), show (10 : Int) ^ (12 : Int).toNat = 1000000000000 by decide]
theorem amnt_ok {d : Dk} {c : Nat} {r : List O} (hd : d.ok c) (hr : Rok r) (hc : c + 4 < 2 ^ 60) :
    ∃ (x : Int) (d' : Dk), φAmnt [.ref 2] (d.S r) = .ok (.int x) (d'.S r) ∧ d'.ok (c + 4) ∧ Amt x := by
  obtain ⟨x1, d1, h1, h2, h3, h4⟩ := next_call (env := [some (.ref 2)]) (e := Mc (.int 4)) hd (by omega) hr (by omega) (by omega) rfl rfl
  obtain ⟨x2, d2, g1, g2, g3, g4⟩ := next_call (env := [some (.ref 2)]) (e := Mc (.int 12)) h2 (by omega) hr (by omega) (by omega) rfl rfl
  have hp : ∀ S, M2 powD (Mc (.int 10)) (Mc (.int 12)) [some (.ref 2)] S = .ok (.int 1000000000000) S := fun S => M2_eq rfl rfl (pow_1012 S)
  obtain ⟨x3, d3, k1, k2, k3, k4⟩ := next_call (many := 1000000000000 + 1) (env := [some (.ref 2)]) (e := M2 addD (M2 powD (Mc (.int 10)) (Mc (.int 12))) (Mc (.int 1))) g2 (by omega) hr (by omega) (by omega) rfl (M2_eq (hp _) (y := .int 1) rfl add_int)
  obtain ⟨x4, d4, q1, q2, q3, q4⟩ := next_call (env := [some (.ref 2)]) (e := Mc (.int 6)) k2 (by omega) hr (by omega) (by omega) rfl rfl
  have hl : Mdisp (Mcons (Mc (.int 0)) (Mcons (Mc (.int 1)) (Mcons (Mcall 2 φNext (Mcons (Mvar 0) (Mcons (Mc (.int 4)) Mnil))) (Mcons (Mcall 2 φNext (Mcons (Mvar 0) (Mcons (Mc (.int 12)) Mnil))) (Mcons (Mcall 2 φNext (Mcons (Mvar 0) (Mcons (M2 addD (M2 powD (Mc (.int 10)) (Mc (.int 12))) (Mc (.int 1))) Mnil))) (Mcons (M2 powD (Mc (.int 10)) (Mc (.int 12))) Mnil)))))) [some (.ref 2)] (d.S r) = .ok ([0, 1, x1, x2, x3, 1000000000000].map D.int) (d3.S r) := by
    unfold Mdisp
    rw [args_cons rfl (args_cons rfl (args_cons h1 (args_cons g1 (args_cons k1 (args_cons (hp _) rfl)))))]
    rfl
  obtain ⟨k, rfl⟩ : ∃ k : Nat, x4 = (k : Int) := ⟨x4.toNat, by omega⟩
  have hk : k < 6 := by omega
  obtain ⟨x, hx⟩ : ∃ x, ([0, 1, x1, x2, x3, 1000000000000] : List Int)[k]? = some x := ⟨_, List.getElem?_eq_getElem (by simpa using hk)⟩
  refine ⟨x, d4, gc_rt0 rfl ?_ hr rfl, q2, ?_⟩
  · unfold mAmnt
    refine ret_eq (M2_eq (frz_eq hl) q1 ?_)
    unfold idxD
    simp only [rd, atI_nat, List.getElem?_map, hx, Option.map_some]
  · have hm := List.mem_of_getElem? hx
    simp only [List.mem_cons, List.not_mem_nil, or_false] at hm
    unfold Amt
    rcases hm with rfl | rfl | rfl | rfl | rfl | rfl <;> omega

theorem comp_all {r : List O} {p : Pat} {me : ED} {env : DEnv} (Pr : Int → Prop) (K : Nat) (turn : ∀ (x : D) (d : Dk) (c : Nat), d.ok c → c + K < 2 ^ 60 → ∃ (env1 : DEnv) (y : Int) (d' : Dk), setP p x env = some env1 ∧ me env1 (d.S r) = .ok (.int y) (d'.S r) ∧ d'.ok (c + K) ∧ Pr y) :
    ∀ (ds : List D) (d : Dk) (c : Nat), d.ok c → c + K * ds.length + K < 2 ^ 60 → ∃ (ys : List Int) (d' : Dk), compD none p none me env ds (d.S r) = .ok (ys.map .int) (d'.S r) ∧ d'.ok (c + K * ds.length) ∧ ys.length = ds.length ∧ ∀ y ∈ ys, Pr y
  | [], d, c, hd, _ => ⟨[], d, comp_nil, hd, rfl, fun _ z => nomatch z⟩
  | x :: ds, d, c, hd, hc => by
    have e : K * (x :: ds).length = K * ds.length + K := by rw [List.length_cons, Nat.mul_succ]
    rw [e] at hc ⊢
    obtain ⟨env1, y, d1, h1, h2, h3, h4⟩ := turn x d c hd (by omega)
    obtain ⟨ys, d2, h5, h6, h7, h8⟩ := comp_all Pr K turn ds d1 (c + K) h3 (by omega)
    refine ⟨y :: ys, d2, comp_cons h1 h2 h5, h6.mono (by omega), by simp [h7], fun z hz => ?_⟩
    rcases List.mem_cons.mp hz with rfl | hz
    · exact h4
    · exact h8 z hz
theorem cut_to {xs : List Int} {s : Nat} (h : s ≤ xs.length) : cutD (xs.map D.int) none (some (s : Int)) = (xs.take s).map D.int := by
  unfold cutD
  have e1 : HT.sIx (xs.map D.int).length (xs.map D.int).length (some (s : Int)) = s := by
    unfold HT.sIx
    simp only [List.length_map]
    rw [if_neg (by omega)]
    simp
    omega
  have e2 : HT.sIx (xs.map D.int).length 0 none = 0 := by unfold HT.sIx; simp
  rw [e1, e2]
  simp
theorem nsl_eq {a : ED} {l h : OD} {env : DEnv} {S S1 S2 S3 : List O} {ds : List D} {lo hi : Option Int} (h1 : a env S = .ok (.lst ds) S1) (h2 : l env S1 = .ok lo S2) (h3 : h env S2 = .ok hi S3) : Nsl a l h env S = .ok (cutD ds lo hi) S3 := by
  unfold Nsl
  simp only [h1, h2, h3, Rs.bind_ok]
  rfl
theorem data_ok {d : Dk} {c : Nat} {r : List O} {n : Int} {os : List (List Int)} (hd : d.ok c) (hr : Rok r) (ht : Tab n os) (hc : c + 3000 < 2 ^ 60) :
    ∃ (prices penalties : List Int) (d' : Dk), φData [.ref 2, tabD n os] (d.S r) = .ok (.tup [.tup (prices.map .int), .tup (penalties.map .int)]) (d'.S r) ∧ d'.ok (c + 200) ∧ prices.length = os.length ∧ penalties.length = n.toNat ∧ (∀ x ∈ prices, Amt x) ∧ ∀ x ∈ penalties, Amt x := by
  have hlo := ht.lo
  have hhi := ht.hi
  have hfew := ht.few
  obtain ⟨w, d1, h1, h2, h3, h4⟩ := next_call (env := [some (.ref 2), some (tabD n os), none, none, none, none]) (e := Mc (.int 3)) hd (by omega) hr (by omega) (by omega) rfl rfl
  have hl : Mdisp (Mcons (Mc (.int 3)) (Mcons (Mc (.int 12)) (Mcons (Mc (.int 0)) Mnil))) [some (.ref 2), some (tabD n os), none, none, none, none] (d.S r) = .ok ([3, 12, 0].map D.int) (d.S r) := rfl
  obtain ⟨k, rfl⟩ : ∃ k : Nat, w = (k : Int) := ⟨w.toNat, by omega⟩
  have hk : k < 3 := by omega
  obtain ⟨few, hx⟩ : ∃ x, ([3, 12, 0] : List Int)[k]? = some x := ⟨_, List.getElem?_eq_getElem (by simpa using hk)⟩
  have hf : 0 ≤ few ∧ few ≤ 12 := by
    have hm := List.mem_of_getElem? hx
    simp only [List.mem_cons, List.not_mem_nil, or_false] at hm
    rcases hm with rfl | rfl | rfl <;> decide
  have a1 := asg_eq (i := 2) (M2_eq (g := idxD) (frz_eq hl) h1 (d := .int few) (by unfold idxD; simp only [rd, atI_nat, List.getElem?_map, hx, Option.map_some]))
  have t0 : ∀ (e2 e3 e4 e5 : Option D) (S : List O), M2 idxD (Mvar 1) (Mc (.int 0)) [some (.ref 2), some (tabD n os), e2, e3, e4, e5] S = .ok (.int n) S := fun e2 e3 e4 e5 S => M2_eq (x := tabD n os) (y := .int 0) rfl rfl (by unfold idxD tabD; simp only [rd, atI_0]; rfl)
  have t1 : ∀ (e2 e3 e4 e5 : Option D) (S : List O), M2 idxD (Mvar 1) (Mc (.int 1)) [some (.ref 2), some (tabD n os), e2, e3, e4, e5] S = .ok (.tup (offsD os)) S := fun e2 e3 e4 e5 S => M2_eq (x := tabD n os) (y := .int 1) rfl rfl (by unfold idxD tabD; simp only [rd, atI_1]; rfl)
  have a2 := asg_eq (i := 3) (env := [some (.ref 2), some (tabD n os), some (.int few), none, none, none]) (S := d1.S r) (M2_eq (g := addD) (t0 _ _ _ _ _) (M1_eq (g := lenG) (t1 _ _ _ _ _) (d := .int os.length) (by show some (D.int (offsD os).length) = _; rw [offs_len])) add_int)
  have hcnt : ((rngL 0 (n + os.length)).map D.int).length = n.toNat + os.length := by rw [rngD_len]; omega
  obtain ⟨ys, d2, g1, g2, g3, g4⟩ := comp_all (r := r) (p := .nm 5) (me := Mcall 2 φNext (Mcons (Mvar 0) (Mcons (M2 addD (Mvar 2) (Mc (.int 1))) Mnil))) (env := [some (.ref 2), some (tabD n os), some (.int few), some (.int (n + os.length)), none, none]) Amt 1
    (fun x d c hd hc => by
      obtain ⟨y, d', q1, q2, q3, q4⟩ := next_call (many := few + 1) (env := [some (.ref 2), some (tabD n os), some (.int few), some (.int (n + os.length)), none, some x]) (e := M2 addD (Mvar 2) (Mc (.int 1))) hd (by omega) hr (by omega) (by omega) rfl (M2_eq (x := .int few) (y := .int 1) rfl rfl rfl)
      exact ⟨_, y, d', rfl, q1, q2, by unfold Amt; omega⟩)
    ((rngL 0 (n + os.length)).map .int) d1 (c + 1) h2 (by rw [hcnt]; omega)
  rw [hcnt] at g2 g3
  have a3 : Sasg (.nm 4) (Mfrz (MComp (Irng1 (Mvar 3)) (.nm 5) none (Mcall 2 φNext (Mcons (Mvar 0) (Mcons (M2 addD (Mvar 2) (Mc (.int 1))) Mnil))) [5])) [some (.ref 2), some (tabD n os), some (.int few), some (.int (n + os.length)), none, none] (d1.S r) = .nx [some (.ref 2), some (tabD n os), some (.int few), some (.int (n + os.length)), some (.lst (ys.map .int)), none] (d2.S r) := by
    refine asg_eq (frz_eq ?_)
    unfold MComp
    rw [rng_eq (n := n + os.length) (a := Mvar 3) rfl (by omega) (by omega)]
    exact g1
  have fin : ∀ (zs : List Int) (d3 : Dk) (c3 : Nat), zs.length = n.toNat + os.length → (∀ z ∈ zs, Amt z) → d3.ok c3 → c3 ≤ c + 200 → (Sif (M2 eqD (Mvar 2) (Mc (.int 0))) (Sasg (.nm 4) (Mfrz (MComp (Irng1 (Mvar 3)) (.nm 5) none (Mcall 1 φAmnt (Mcons (Mvar 0) Mnil)) [5]))) Snx) [some (.ref 2), some (tabD n os), some (.int few), some (.int (n + os.length)), some (.lst (ys.map .int)), none] (d2.S r) = .nx [some (.ref 2), some (tabD n os), some (.int few), some (.int (n + os.length)), some (.lst (zs.map .int)), none] (d3.S r) →
      ∃ (prices penalties : List Int) (d' : Dk), φData [.ref 2, tabD n os] (d.S r) = .ok (.tup [.tup (prices.map .int), .tup (penalties.map .int)]) (d'.S r) ∧ d'.ok (c + 200) ∧ prices.length = os.length ∧ penalties.length = n.toNat ∧ (∀ x ∈ prices, Amt x) ∧ ∀ x ∈ penalties, Amt x := fun zs d3 c3 hz1 hz2 hd3 hc3 hif => by
    refine ⟨zs.drop n.toNat, zs.take n.toNat, d3, gc_rt0 rfl ?_ hr (by simp only [plain, plains, plain_ints, Bool.and_self]), hd3.mono hc3, by rw [List.length_drop]; omega, by rw [List.length_take]; omega, fun x hx => hz2 x (List.mem_of_mem_drop hx), fun x hx => hz2 x (List.mem_of_mem_take hx)⟩
    unfold mData
    refine (show Sseq _ _ _ _ = _ from seq_nx a1).trans ?_
    refine (show Sseq _ _ _ _ = _ from seq_nx a2).trans ?_
    refine (show Sseq _ _ _ _ = _ from seq_nx a3).trans ?_
    refine (show Sseq _ _ _ _ = _ from seq_nx hif).trans ?_
    have hn : n = ((n.toNat : Nat) : Int) := by omega
    refine ret_eq (tup2 (S1 := d3.S r) (M1_eq (g := tupG) (x := .lst ((zs.drop n.toNat).map .int)) (frz_eq ?_) rfl) (M1_eq (g := tupG) (x := .lst ((zs.take n.toNat).map .int)) (frz_eq ?_) rfl))
    · rw [nsl_eq (ds := zs.map .int) (lo := some n) (hi := none) rfl (so_eq (t0 _ _ _ _ _)) rfl, hn, cut_from (by omega)]
      rfl
    · rw [nsl_eq (ds := zs.map .int) (lo := none) (hi := some n) rfl rfl (so_eq (t0 _ _ _ _ _)), hn, cut_to (by omega)]
      rfl
  have ce := M2_eq (g := eqD) (a := Mvar 2) (b := Mc (.int 0)) (env := [some (.ref 2), some (tabD n os), some (.int few), some (.int (n + os.length)), some (.lst (ys.map .int)), none]) (S := d2.S r) (x := .int few) (y := .int 0) rfl rfl (eqD_int few 0 _)
  by_cases h0 : few = 0
  · obtain ⟨zs, d3, q1, q2, q3, q4⟩ := comp_all (r := r) (p := .nm 5) (me := Mcall 1 φAmnt (Mcons (Mvar 0) Mnil)) (env := [some (.ref 2), some (tabD n os), some (.int few), some (.int (n + os.length)), some (.lst (ys.map .int)), none]) Amt 4
      (fun x d c hd hc => by
        obtain ⟨y, d', q1, q2, q3⟩ := amnt_ok hd hr (by omega)
        exact ⟨_, y, d', rfl, call_eq (args_cons rfl rfl) rfl q1, q2, q3⟩)
      ((rngL 0 (n + os.length)).map .int) d2 _ g2 (by rw [hcnt]; omega)
    rw [hcnt] at q2 q3
    refine fin zs d3 _ q3 q4 q2 (by omega) ?_
    rw [show (few == 0) = true by simp [h0]] at ce
    refine (if_t ce).trans (asg_eq (frz_eq ?_))
    unfold MComp
    rw [rng_eq (n := n + os.length) (a := Mvar 3) rfl (by omega) (by omega)]
    exact q1
  · refine fin ys d2 _ g3 g4 g2 (by omega) ?_
    rw [show (few == 0) = false by simp [h0]] at ce
    exact (if_f ce).trans rfl
/-- the deck itself -/
theorem comp_map {f : Int → Int} {p : Pat} {me : ED} {env : DEnv} {S : List O} (turn : ∀ x : Int, ∃ env1, setP p (.int x) env = some env1 ∧ me env1 S = .ok (.int (f x)) S) : ∀ xs : List Int, compD none p none me env (xs.map .int) S = .ok ((xs.map f).map .int) S
  | [] => comp_nil
  | x :: xs => by
    obtain ⟨env1, h1, h2⟩ := turn x
    exact comp_cons h1 h2 (comp_map turn xs)
theorem comp_filter {f : Int → Bool} {p : Pat} {mt me : ED} {env : DEnv} {S : List O} (turn : ∀ x : Int, ∃ env1, setP p (.int x) env = some env1 ∧ mt env1 S = .ok (.bl (f x)) S ∧ me env1 S = .ok (.int x) S) : ∀ xs : List Int, compD none p (some mt) me env (xs.map .int) S = .ok ((xs.filter f).map .int) S
  | [] => comp_nil
  | x :: xs => by
    obtain ⟨env1, h1, h2, h3⟩ := turn x
    have ih := comp_filter turn xs
    rw [List.map_cons]
    unfold compD
    cases hf : f x with
    | true =>
      rw [hf] at h2
      simp only [Gd, if_true, h1, h2, h3, ih, Rs.nx_ok, Rs.bind_ok, List.filter_cons, hf, List.map_cons]
    | false =>
      rw [hf] at h2
      simp only [Gd, if_true, h1, h2, h3, ih, Rs.nx_ok, Rs.bind_ok, List.filter_cons, hf, Bool.false_eq_true, if_false]
theorem pow_1018 : ∀ S, powD (.int 10) (.int 18) S = some (.int 1000000000000000000) := fun S => by
  show (if (0 : Int) ≤ 18 ∧ (18 : Int) ≤ 1000 ∧ sm64 10 = true then some (D.int ((10 : Int) ^ (18 : Int).toNat)) else none) = _
  rw [if_pos (by decide), show (10 : Int) ^ (18 : Int).toNat = 1000000000000000000 by decide]
theorem deck_ok {ns : List Int} (h : ns.length ≤ 1000) : ∃ d : Dk, φDeck [.scr (ns.map .int)] [] = .ok (.ref 2) (d.S []) ∧ d.ok 0 := by
  have nn : ∀ x ∈ ns.map (fun i : Int => if i < 0 then -i else i), 0 ≤ x := fun x hx => by
    obtain ⟨i, _, rfl⟩ := List.mem_map.mp hx
    by_cases hi : i < 0
    · rw [if_pos hi]; omega
    · rw [if_neg hi]; omega
  generalize hcs : ns.map (fun i : Int => if i < 0 then -i else i) = cs at nn
  have hl : cs.length = ns.length := by rw [← hcs, List.length_map]
  refine ⟨⟨cs.filter (fun x => decide (1000000000000000000 ≤ x)), cs ++ [(cs.length : Int) + 7], 0⟩, ?_, ⟨fun x hx => nn x (List.mem_filter.mp hx).1, fun x hx => ?_, by simp, Nat.le_refl _⟩⟩
  · show finK (mDeck (startD 3 [.scr (ns.map .int)]) []) = _
    have a1 : Sasg (.nm 1) (Mfrz (MComp (Mit (Mvar 0)) (.nm 2) none (M1 absG (Mvar 2)) [2])) [some (.scr (ns.map .int)), none, none] [] = .nx [some (.scr (ns.map .int)), some (.lst (cs.map .int)), none] [] := by
      refine asg_eq (frz_eq ?_)
      rw [← hcs]
      exact comp_map (p := .nm 2) (fun x => ⟨_, rfl, M1_eq (x := .int x) rfl rfl⟩) ns
    have b1 : MComp (Mit (Mvar 1)) (.nm 2) (some (M2 geD (Mvar 2) (M2 powD (Mc (.int 10)) (Mc (.int 18))))) (Mvar 2) [2] [some (.scr (ns.map .int)), some (.lst (cs.map .int)), none] [] = .ok ((cs.filter (fun x => decide (1000000000000000000 ≤ x))).map .int) [] := by
      exact comp_filter (p := .nm 2) (fun x => ⟨_, rfl, M2_eq (x := .int x) rfl (M2_eq rfl rfl (pow_1018 _)) rfl, rfl⟩) cs
    have b2 := new_eq b1
    have b3 : ∀ S, MN2 catN (Mvar 1) (Mfrz (Mdisp (Mcons (M2 addD (M1 lenG (Mvar 1)) (Mc (.int 7))) Mnil))) [some (.scr (ns.map .int)), some (.lst (cs.map .int)), none] S = .ok ((cs ++ [(cs.length : Int) + 7]).map .int) S := fun S => by
      refine MN2_eq (g := catN) (x := .lst (cs.map .int)) (y := .lst [.int ((cs.length : Int) + 7)]) rfl (frz_eq ?_) ?_
      · unfold Mdisp
        rw [args_cons (M2_eq (x := .int cs.length) (y := .int 7) (M1_eq (x := .lst (cs.map .int)) rfl (by show some (D.int (cs.map D.int).length) = _; rw [List.length_map])) rfl add_int) rfl]
        rfl
      · show (if (cs.map D.int).length + ([D.int ((cs.length : Int) + 7)] : List D).length ≤ sizeLine then some (cs.map D.int ++ [D.int ((cs.length : Int) + 7)]) else none) = _
        rw [if_pos (by rw [List.length_map, sizeLine_eq]; show cs.length + 1 ≤ _; omega)]
        simp
    have b4 := new_eq (b3 [.lst ((cs.filter (fun x => decide (1000000000000000000 ≤ x))).map .int)])
    have b5 : Sret (Mnew (Mdisp (Mcons (Mnew (MComp (Mit (Mvar 1)) (.nm 2) (some (M2 geD (Mvar 2) (M2 powD (Mc (.int 10)) (Mc (.int 18))))) (Mvar 2) [2])) (Mcons (Mnew (MN2 catN (Mvar 1) (Mfrz (Mdisp (Mcons (M2 addD (M1 lenG (Mvar 1)) (Mc (.int 7))) Mnil))))) (Mcons (Mc (.int 0)) Mnil))))) [some (.scr (ns.map .int)), some (.lst (cs.map .int)), none] [] = .rt (.ref 2) (Dk.S ⟨cs.filter (fun x => decide (1000000000000000000 ≤ x)), cs ++ [(cs.length : Int) + 7], 0⟩ []) := by
      have b7 : Mdisp (Mcons (Mnew (MComp (Mit (Mvar 1)) (.nm 2) (some (M2 geD (Mvar 2) (M2 powD (Mc (.int 10)) (Mc (.int 18))))) (Mvar 2) [2])) (Mcons (Mnew (MN2 catN (Mvar 1) (Mfrz (Mdisp (Mcons (M2 addD (M1 lenG (Mvar 1)) (Mc (.int 7))) Mnil))))) (Mcons (Mc (.int 0)) Mnil))) [some (.scr (ns.map .int)), some (.lst (cs.map .int)), none] [] = .ok [.ref 0, .ref 1, .int 0] [.lst ((cs.filter (fun x => decide (1000000000000000000 ≤ x))).map .int), .lst ((cs ++ [(cs.length : Int) + 7]).map .int)] := by
        exact disp_eq (args_cons b2 (args_cons b4 (args_cons rfl rfl))) (by decide)
      exact ret_eq (new_eq b7)
    have b6 : mDeck (startD 3 [.scr (ns.map .int)]) [] = .rt (.ref 2) (Dk.S ⟨cs.filter (fun x => decide (1000000000000000000 ≤ x)), cs ++ [(cs.length : Int) + 7], 0⟩ []) := (show Sseq _ _ _ _ = _ from seq_nx a1).trans b5
    rw [b6]
    rfl
  · rcases List.mem_append.mp hx with hx | hx
    · exact nn x hx
    · rw [List.mem_singleton.mp hx]
      omega
end PB

set_option Elab.async false
set_option linter.all false
set_option maxRecDepth 100000
set_option maxHeartbeats 4000000

namespace PB
open PySem PySem.Spec PyProof.Rows L2

/-! ### texts of numbers -/
def num (x : Int) : Str := Str.ofString (toString x)
theorem num_tl {x : Int} (h : 0 ≤ x) : TL.tl (num x) = TL.numL x.toNat := by
  have e : x = ((x.toNat : Nat) : Int) := by omega
  unfold num
  rw [e, TL.tl_num]
  rfl
theorem num_dig {x : Int} (h : 0 ≤ x) : ∀ c ∈ TL.tl (num x), 48 ≤ c ∧ c ≤ 57 := by
  rw [num_tl h]
  exact TL.numL_digits _
theorem num_len {x : Int} (h : 0 ≤ x) (h2 : x < 10 ^ 13) : 1 ≤ (num x).length ∧ (num x).length ≤ 13 := by
  rw [TL.len_tl, num_tl h]
  refine ⟨List.length_pos_iff.mpr (TL.numL_ne _), TL.numL_len (by decide) ?_⟩
  have : ((x.toNat : Nat) : Int) < ((10 ^ 13 : Nat) : Int) := by
    have e : ((10 ^ 13 : Nat) : Int) = 10 ^ 13 := by decide
    rw [e]
    omega
  exact Int.ofNat_lt.mp this
theorem num_int {x : Int} (h : 0 ≤ x) (h2 : x < 10 ^ 13) : intText? (num x) = some x := by
  have e : x = ((x.toNat : Nat) : Int) := by omega
  have l := (num_len h h2).2
  rw [TL.len_tl, num_tl h] at l
  have q := TL.int_num (n := x.toNat) (by omega)
  unfold num
  rw [e]
  exact q
theorem ok_tl {z : Str} (h : ∀ c ∈ TL.tl z, c < 128) : PyData.strOk z = true := by
  unfold PyData.strOk
  rw [Array.all_eq_true_iff_forall_mem]
  intro c hc
  have := h c (by unfold TL.tl; simpa using hc)
  simp
  omega
theorem num_ok {x : Int} (h : 0 ≤ x) : PyData.strOk (num x) = true := ok_tl fun c hc => by have := num_dig h c hc; omega
theorem okC_str {z : Str} (h : PyData.strOk z = true) : okC (.str z) = true := by
  simp [okC, plain, toPy, SeqAt.shaped, PyData.canLay0, PyData.depth, h]
theorem eqD_str {a b : Str} {S : List O} (ha : PyData.strOk a = true) (hb : PyData.strOk b = true) : eqD (.str a) (.str b) S = some (.bl (a == b)) := by
  rw [eqD_ok (x := .str a) (y := .str b) (okC_str ha) (okC_str hb)]
  simp [rd, toPy, PyData.eqv]
theorem neD_str {a b : Str} {S : List O} (ha : PyData.strOk a = true) (hb : PyData.strOk b = true) : neD (.str a) (.str b) S = some (.bl (!(a == b))) := by
  rw [neD_ok (x := .str a) (y := .str b) (okC_str ha) (okC_str hb)]
  simp [rd, toPy, PyData.eqv]
theorem numL_head : ∀ {n : Nat} {r : List Nat}, TL.numL n = 48 :: r → n = 0 := by
  intro n
  induction n using Nat.strongRecOn with
  | _ n ih =>
    intro r h
    by_cases hn : n < 10
    · rw [TL.numL_lt hn] at h
      simp at h
      omega
    · rw [TL.numL_step (by omega)] at h
      cases hq : TL.numL (n / 10) with
      | nil => exact absurd hq (TL.numL_ne _)
      | cons a b =>
        rw [hq] at h
        simp at h
        have := ih (n / 10) (by omega) (by rw [hq, h.1])
        omega
theorem or_t {a b : ED} {env : DEnv} {S S1 : List O} (h : a env S = .ok (.bl true) S1) : Mor a b env S = .ok (.bl true) S1 := by
  unfold Mor
  simp only [h, Rs.bind_ok]
theorem or_f {a b : ED} {env : DEnv} {S S1 : List O} (h : a env S = .ok (.bl false) S1) : Mor a b env S = b env S1 := by
  unfold Mor
  simp only [h, Rs.bind_ok]
theorem not_eq {a : ED} {env : DEnv} {S S1 : List O} {b : Bool} (h : a env S = .ok (.bl b) S1) : Mnot a env S = .ok (.bl (!b)) S1 := by
  unfold Mnot
  simp only [h, Rs.bind_ok]
theorem len_str {z : Str} {S : List O} (h : z.length ≤ 1000000) : lenG (.str z) S = some (.int z.length) := by
  show (if z.length ≤ sizeLine then some (D.int z.length) else none) = _
  rw [if_pos (by rw [sizeLine_eq]; omega)]
theorem bools_all : ∀ bs : List Bool, boolsOf (bs.map D.bl) = some bs
  | [] => rfl
  | b :: bs => by simp [boolsOf, bools_all bs]
/-- a comprehension of pure answers -/
theorem comp_pure {α : Type} {g : α → D} {f : α → D} {p : Pat} {me : ED} {env : DEnv} {S : List O} : ∀ xs : List α, (∀ x ∈ xs, ∃ env1, setP p (g x) env = some env1 ∧ me env1 S = .ok (f x) S) → compD none p none me env (xs.map g) S = .ok (xs.map f) S
  | [], _ => comp_nil
  | x :: xs, turn => by
    obtain ⟨env1, h1, h2⟩ := turn x (by simp)
    exact comp_cons h1 h2 (comp_pure xs fun y hy => turn y (by simp [hy]))
theorem all_true {a : ED} {env : DEnv} {S S1 : List O} {bs : List Bool} (h : a env S = .ok (.lst (bs.map .bl)) S1) : M1 allG a env S = .ok (.bl (bs.all id)) S1 :=
  M1_eq h (by unfold allG lstD; simp only [rd, Option.bind_some, bools_all, Option.map_some])
theorem sub_1 {ys : List Nat} {z : Str} {c : Nat} (h : z.cps.toList = c :: ys) (hl : z.length ≤ 1000000) {S : List O} : idxD (.str z) (.int 0) S = some (.str ⟨#[c]⟩) := by
  show (if z.length ≤ sizeLine then (atI z.cps.toList 0).map fun c => D.str ⟨#[c]⟩ else none) = _
  rw [if_pos (by rw [sizeLine_eq]; omega), atI_0, h]
  rfl
end PB

set_option Elab.async false
set_option linter.all false
set_option maxRecDepth 100000
set_option maxHeartbeats 4000000

namespace PB.k66
open PySem PySem.Spec PyProof.Rows L2 PB
def top (i : Nat) : Stmt := PySem.Challenge.pw_payorder_k66_texts_formatted_and_parsed.main.body.getD i (.Pass ⟨0, 0, 0, 0⟩)
abbrev st_is_ascending : Stmt := top 7
abbrev N_is_ascending : List Str := ["items", "one", "other"]
theorem sc_is_ascending : FnScope N_is_ascending ["items"] (defScope st_is_ascending) := ⟨rfl, rfl, rfl, by decide +kernel, rfl, by decide +kernel, by decide +kernel⟩
abbrev st_format_data : Stmt := top 13
abbrev N_format_data : List Str := ["table", "prices", "penalties", "lines", "offer", "price", "penalty", "demand", "line"]
theorem sc_format_data : FnScope N_format_data ["table", "prices", "penalties"] (defScope st_format_data) := ⟨rfl, rfl, rfl, by decide +kernel, rfl, by decide +kernel, by decide +kernel⟩
abbrev st_format_order : Stmt := top 14
abbrev N_format_order : List Str := ["order", "demand"]
theorem sc_format_order : FnScope N_format_order ["order"] (defScope st_format_order) := ⟨rfl, rfl, rfl, by decide +kernel, rfl, by decide +kernel, by decide +kernel⟩
abbrev st_parse_integer : Stmt := top 15
abbrev N_parse_integer : List Str := ["word", "sign"]
theorem sc_parse_integer : FnScope N_parse_integer ["word"] (defScope st_parse_integer) := ⟨rfl, rfl, rfl, by decide +kernel, rfl, by decide +kernel, by decide +kernel⟩
abbrev st_parse_integers : Stmt := top 16
abbrev N_parse_integers : List Str := ["words", "found", "word"]
theorem sc_parse_integers : FnScope N_parse_integers ["words"] (defScope st_parse_integers) := ⟨rfl, rfl, rfl, by decide +kernel, rfl, by decide +kernel, by decide +kernel⟩
abbrev st_check_string : Stmt := top 17
abbrev N_check_string : List Str := ["value"]
theorem sc_check_string : FnScope N_check_string ["value"] (defScope st_check_string) := ⟨rfl, rfl, rfl, by decide +kernel, rfl, by decide +kernel, by decide +kernel⟩
abbrev st_parse_demand : Stmt := top 18
abbrev N_parse_demand : List Str := ["penalties", "numbers"]
theorem sc_parse_demand : FnScope N_parse_demand ["penalties", "numbers"] (defScope st_parse_demand) := ⟨rfl, rfl, rfl, by decide +kernel, rfl, by decide +kernel, by decide +kernel⟩
abbrev st_parse_offer : Stmt := top 19
abbrev N_parse_offer : List Str := ["offers", "count", "numbers", "demands", "demand"]
theorem sc_parse_offer : FnScope N_parse_offer ["offers", "count", "numbers"] (defScope st_parse_offer) := ⟨rfl, rfl, rfl, by decide +kernel, rfl, by decide +kernel, by decide +kernel⟩
abbrev st_parse_line : Stmt := top 20
abbrev N_parse_line : List Str := ["penalties", "offers", "line", "word", "rest", "numbers", "found"]
theorem sc_parse_line : FnScope N_parse_line ["penalties", "offers", "line"] (defScope st_parse_line) := ⟨rfl, rfl, rfl, by decide +kernel, rfl, by decide +kernel, by decide +kernel⟩
abbrev st_parse_data : Stmt := top 21
abbrev N_parse_data : List Str := ["value", "lines", "rest", "penalties", "offers", "at", "line", "found", "prices", "price", "demands"]
theorem sc_parse_data : FnScope N_parse_data ["value"] (defScope st_parse_data) := ⟨rfl, rfl, rfl, by decide +kernel, rfl, by decide +kernel, by decide +kernel⟩
abbrev st_parse_order : Stmt := top 22
abbrev N_parse_order : List Str := ["value", "found"]
theorem sc_parse_order : FnScope N_parse_order ["value"] (defScope st_parse_order) := ⟨rfl, rfl, rfl, by decide +kernel, rfl, by decide +kernel, by decide +kernel⟩
abbrev st__law_deck : Stmt := top 24
abbrev N__law_deck : List Str := ["_law_script", "_law_cells", "_law_cell"]
theorem sc__law_deck : FnScope N__law_deck ["_law_script"] (defScope st__law_deck) := ⟨rfl, rfl, rfl, by decide +kernel, rfl, by decide +kernel, by decide +kernel⟩
abbrev st__law_next : Stmt := top 25
abbrev N__law_next : List Str := ["_law_deck_here", "_law_many", "_law_rest", "_law_cell", "_law_mixed"]
theorem sc__law_next : FnScope N__law_next ["_law_deck_here", "_law_many"] (defScope st__law_next) := ⟨rfl, rfl, rfl, by decide +kernel, rfl, by decide +kernel, by decide +kernel⟩
abbrev st__law_one : Stmt := top 26
abbrev N__law_one : List Str := ["_law_deck_here", "_law_some"]
theorem sc__law_one : FnScope N__law_one ["_law_deck_here", "_law_some"] (defScope st__law_one) := ⟨rfl, rfl, rfl, by decide +kernel, rfl, by decide +kernel, by decide +kernel⟩
abbrev st__law_same : Stmt := top 27
abbrev N__law_same : List Str := ["_law_found", "_law_due", "_law_k"]
theorem sc__law_same : FnScope N__law_same ["_law_found", "_law_due"] (defScope st__law_same) := ⟨rfl, rfl, rfl, by decide +kernel, rfl, by decide +kernel, by decide +kernel⟩
abbrev st__law_part : Stmt := top 28
abbrev N__law_part : List Str := ["_law_deck_here", "_law_items", "_law_share", "_law_item"]
theorem sc__law_part : FnScope N__law_part ["_law_deck_here", "_law_items", "_law_share"] (defScope st__law_part) := ⟨rfl, rfl, rfl, by decide +kernel, rfl, by decide +kernel, by decide +kernel⟩
abbrev st__law_shuffled : Stmt := top 29
abbrev N__law_shuffled : List Str := ["_law_deck_here", "_law_count", "_law_left", "_law_found"]
theorem sc__law_shuffled : FnScope N__law_shuffled ["_law_deck_here", "_law_count"] (defScope st__law_shuffled) := ⟨rfl, rfl, rfl, by decide +kernel, rfl, by decide +kernel, by decide +kernel⟩
abbrev st__law_intervals : Stmt := top 30
abbrev N__law_intervals : List Str := ["_law_deck_here", "_law_demands", "_law_offers", "_law_order", "_law_found", "_law_k", "_law_low"]
theorem sc__law_intervals : FnScope N__law_intervals ["_law_deck_here", "_law_demands", "_law_offers"] (defScope st__law_intervals) := ⟨rfl, rfl, rfl, by decide +kernel, rfl, by decide +kernel, by decide +kernel⟩
abbrev st__law_around : Stmt := top 31
abbrev N__law_around : List Str := ["_law_deck_here", "_law_demands", "_law_offers", "_law_order", "_law_size", "_law_found", "_law_k"]
theorem sc__law_around : FnScope N__law_around ["_law_deck_here", "_law_demands", "_law_offers"] (defScope st__law_around) := ⟨rfl, rfl, rfl, by decide +kernel, rfl, by decide +kernel, by decide +kernel⟩
abbrev st__law_any : Stmt := top 32
abbrev N__law_any : List Str := ["_law_deck_here", "_law_demands", "_law_offers", "_law_share", "_law_found", "_law_k"]
theorem sc__law_any : FnScope N__law_any ["_law_deck_here", "_law_demands", "_law_offers"] (defScope st__law_any) := ⟨rfl, rfl, rfl, by decide +kernel, rfl, by decide +kernel, by decide +kernel⟩
abbrev st__law_table : Stmt := top 33
abbrev N__law_table : List Str := ["_law_deck_here", "_law_demands", "_law_offers", "_law_way"]
theorem sc__law_table : FnScope N__law_table ["_law_deck_here", "_law_demands", "_law_offers"] (defScope st__law_table) := ⟨rfl, rfl, rfl, by decide +kernel, rfl, by decide +kernel, by decide +kernel⟩
abbrev st__law_amount : Stmt := top 34
abbrev N__law_amount : List Str := ["_law_deck_here"]
theorem sc__law_amount : FnScope N__law_amount ["_law_deck_here"] (defScope st__law_amount) := ⟨rfl, rfl, rfl, by decide +kernel, rfl, by decide +kernel, by decide +kernel⟩
abbrev st__law_data : Stmt := top 35
abbrev N__law_data : List Str := ["_law_deck_here", "_law_table_here", "_law_few", "_law_count", "_law_found", "_law_k"]
theorem sc__law_data : FnScope N__law_data ["_law_deck_here", "_law_table_here"] (defScope st__law_data) := ⟨rfl, rfl, rfl, by decide +kernel, rfl, by decide +kernel, by decide +kernel⟩
abbrev st__law_text : Stmt := top 36
abbrev N__law_text : List Str := ["_law_table_here", "_law_prices", "_law_penalties", "_law_lines", "_law_offer", "_law_price", "_law_own", "_law_demand", "_law_line"]
theorem sc__law_text : FnScope N__law_text ["_law_table_here", "_law_prices", "_law_penalties"] (defScope st__law_text) := ⟨rfl, rfl, rfl, by decide +kernel, rfl, by decide +kernel, by decide +kernel⟩
abbrev st_law : Stmt := top 37
abbrev N_law : List Str := ["_law_script", "_law_deck_here", "_law_turn", "_law_table_here", "_law_prices", "_law_penalties", "_law_order", "_law_kept", "_law_text_here", "_law_line", "_law_again", "_law_demand"]
theorem sc_law : FnScope N_law ["_law_script"] (defScope st_law) := ⟨rfl, rfl, rfl, by decide +kernel, rfl, by decide +kernel, by decide +kernel⟩
/-- what the top holds -/
structure Tp (K : PySem.W.Frag) (mg : Str → Option Value) : Prop where
  b_abs : mg "abs" = none
  b_all : mg "all" = none
  b_bool : mg "bool" = none
  b_dict : mg "dict" = none
  b_enumerate : mg "enumerate" = none
  b_int : mg "int" = none
  b_isinstance : mg "isinstance" = none
  b_len : mg "len" = none
  b_list : mg "list" = none
  b_range : mg "range" = none
  b_repr : mg "repr" = none
  b_sorted : mg "sorted" = none
  b_str : mg "str" = none
  b_tuple : mg "tuple" = none
  b_zip : mg "zip" = none
  k_DEMAND : ∃ t, mg "DEMAND" = some (.str "demand" t)
  k_DIGITS : ∃ t, mg "DIGITS" = some (.str "0123456789" t)
  k_LONGEST : ∃ t, mg "LONGEST" = some (.int 13 t)
  k_MAX_AMOUNT : ∃ t, mg "MAX_AMOUNT" = some (.int 1000000000000 t)
  k_MAX_DEMANDS : ∃ t, mg "MAX_DEMANDS" = some (.int 10 t)
  k_MAX_OFFERS : ∃ t, mg "MAX_OFFERS" = some (.int 10 t)
  k_OFFER : ∃ t, mg "OFFER" = some (.str "offer" t)
  f_is_ascending : FnAt K mg "is_ascending" st_is_ascending ["items"]
  f_format_data : FnAt K mg "format_data" st_format_data ["table", "prices", "penalties"]
  f_format_order : FnAt K mg "format_order" st_format_order ["order"]
  f_parse_integer : FnAt K mg "parse_integer" st_parse_integer ["word"]
  f_parse_integers : FnAt K mg "parse_integers" st_parse_integers ["words"]
  f_check_string : FnAt K mg "check_string" st_check_string ["value"]
  f_parse_demand : FnAt K mg "parse_demand" st_parse_demand ["penalties", "numbers"]
  f_parse_offer : FnAt K mg "parse_offer" st_parse_offer ["offers", "count", "numbers"]
  f_parse_line : FnAt K mg "parse_line" st_parse_line ["penalties", "offers", "line"]
  f_parse_data : FnAt K mg "parse_data" st_parse_data ["value"]
  f_parse_order : FnAt K mg "parse_order" st_parse_order ["value"]
  f__law_deck : FnAt K mg "_law_deck" st__law_deck ["_law_script"]
  f__law_next : FnAt K mg "_law_next" st__law_next ["_law_deck_here", "_law_many"]
  f__law_one : FnAt K mg "_law_one" st__law_one ["_law_deck_here", "_law_some"]
  f__law_same : FnAt K mg "_law_same" st__law_same ["_law_found", "_law_due"]
  f__law_part : FnAt K mg "_law_part" st__law_part ["_law_deck_here", "_law_items", "_law_share"]
  f__law_shuffled : FnAt K mg "_law_shuffled" st__law_shuffled ["_law_deck_here", "_law_count"]
  f__law_intervals : FnAt K mg "_law_intervals" st__law_intervals ["_law_deck_here", "_law_demands", "_law_offers"]
  f__law_around : FnAt K mg "_law_around" st__law_around ["_law_deck_here", "_law_demands", "_law_offers"]
  f__law_any : FnAt K mg "_law_any" st__law_any ["_law_deck_here", "_law_demands", "_law_offers"]
  f__law_table : FnAt K mg "_law_table" st__law_table ["_law_deck_here", "_law_demands", "_law_offers"]
  f__law_amount : FnAt K mg "_law_amount" st__law_amount ["_law_deck_here"]
  f__law_data : FnAt K mg "_law_data" st__law_data ["_law_deck_here", "_law_table_here"]
  f__law_text : FnAt K mg "_law_text" st__law_text ["_law_table_here", "_law_prices", "_law_penalties"]
  f_law : FnAt K mg "law" st_law ["_law_script"]
variable {P : Program} {w : World} {K : PySem.W.Frag} {mg : Str → Option Value} {base : Heap} {cf : Cf}
/-! is_ascending -/
noncomputable def m_is_ascending : SD := (Sret (M1 allG (Mfrz (MComp (Izip (Mvar 0) (Msl (Mvar 0) (Mso (Mc (.int 1))) Mno)) (.tp [(.nm 1), (.nm 2)]) none (M2 ltD (Mvar 1) (Mvar 2)) [1, 2]))))
noncomputable def φ_is_ascending : Fn := gcF 1 N_is_ascending.length m_is_ascending
theorem w_is_ascending (T : Tp K mg) (hK : K = cf.K)  {f : Addr} : Walked P w K mg base cf 0 f "is_ascending" st_is_ascending N_is_ascending m_is_ascending := by
  intro cdv A outer s H E hr
  have hu := hr.units
  have tk : Takes (cxOf (L2.CX P w) P w K mg base N_is_ascending "is_ascending" (defScope st_is_ascending) f cdv A outer s H E) (fun c d _ H => E c d H) := takes_of rfl rfl rfl rfl
  exact (b_one (s_ret (e_b1 (c_all rfl) T.b_all boot_all (e_frz (n_comp rfl sc_is_ascending.nd (i_zip hK T.b_zip (e_var 0) (e_sl hK (e_var 0) (p_so e_int) p_no)) (own := [("one", 1), ("other", 2)]) (blkOk_by rfl) (by simp [slotsP, slotsPs]) (fun _ _ _ _ _ => (g_tp hK rfl (gs_cons (g_nm 1 sc_is_ascending.nd) (gs_cons (g_nm 2 sc_is_ascending.nd) gs_nil)))) (fun _ _ _ _ _ => ts_nil) (fun _ _ _ _ _ => (e_cmp o_lt (e_var 1) (e_var 2))))))))
theorem c_is_ascending (T : Tp K mg) (hK : K = cf.K) : Cal P w K mg base cf 1 "is_ascending" 1 φ_is_ascending := Cal.gc T.f_is_ascending sc_is_ascending fun f => w_is_ascending T hK 
/-! format_data -/
noncomputable def m_format_data : SD := (Sseq (Sasg (.nm 3) (Mnew (MComp (Mit (Mvar 2)) (.nm 6) none (Mfs [(Mfmt (Mc (.str "demand"))), (Mc (.str " ")), (Mfmt (Mvar 6))]) [6]))) (Sseq (Sfor (Izip (M2 idxD (Mvar 0) (Mc (.int 1))) (Mvar 1)) (.tp [(.nm 4), (.nm 5)]) (Sexp (Mlm1 appG (Mvar 3) (Mm1 joinG (Mc (.str " ")) (Mfrz (MN2 catN (Mfrz (Mdisp (Mcons (Mc (.str "offer")) (Mcons (M1 strG (Mvar 5)) Mnil)))) (Mfrz (MComp (Mit (Mvar 4)) (.nm 7) none (M1 strG (Mvar 7)) [7])))))))) (Sret (Mm1 joinG (Mc (.str "")) (Mfrz (MComp (Mit (Mvar 3)) (.nm 8) none (M2 addD (Mvar 8) (Mc (.str "\n"))) [8]))))))
noncomputable def φ_format_data : Fn := gcF 3 N_format_data.length m_format_data
theorem w_format_data (T : Tp K mg) (hK : K = cf.K)  {f : Addr} : Walked P w K mg base cf 0 f "format_data" st_format_data N_format_data m_format_data := by
  obtain ⟨_, c_DEMAND⟩ := T.k_DEMAND
  obtain ⟨_, c_OFFER⟩ := T.k_OFFER
  intro cdv A outer s H E hr
  have hu := hr.units
  have tk : Takes (cxOf (L2.CX P w) P w K mg base N_format_data "format_data" (defScope st_format_data) f cdv A outer s H E) (fun c d _ H => E c d H) := takes_of rfl rfl rfl rfl
  exact (b_cons (s_lcN 3 rfl sc_format_data.nd (i_val hK (e_var 2)) (own := [("penalty", 6)]) (blkOk_by rfl) (by simp [slotsP, slotsPs]) (fun _ _ _ _ _ => (g_nm 6 sc_format_data.nd)) (fun _ _ _ _ _ => ts_nil) (fun _ _ _ _ _ => (e_fstr (PJm.cons (e_fmt (e_gS c_DEMAND)) (PJm.cons e_str (PJm.cons (e_fmt (e_var 6)) PJm.nil))))))
    (b_cons (s_for (passes_of rfl) rfl (i_zip hK T.b_zip (e_idx hK (e_var 0) e_int) (e_var 1)) (g_tp hK rfl (gs_cons (g_nm 4 sc_format_data.nd) (gs_cons (g_nm 5 sc_format_data.nd) gs_nil))) (b_one (s_exp (e_app (e_var 3) (e_join hK e_str (e_frz (n_cat (e_frz (n_disp (a_cons (e_gS c_OFFER) (a_cons (e_bT c_str T.b_str boot_str (e_var 5)) a_nil)))) (e_frz (n_comp rfl sc_format_data.nd (i_val hK (e_var 4)) (own := [("demand", 7)]) (blkOk_by rfl) (by simp [slotsP, slotsPs]) (fun _ _ _ _ _ => (g_nm 7 sc_format_data.nd)) (fun _ _ _ _ _ => ts_nil) (fun _ _ _ _ _ => (e_bT c_str T.b_str boot_str (e_var 7))))))))))))
    (b_one (s_ret (e_join hK e_str (e_frz (n_comp rfl sc_format_data.nd (i_val hK (e_var 3)) (own := [("line", 8)]) (blkOk_by rfl) (by simp [slotsP, slotsPs]) (fun _ _ _ _ _ => (g_nm 8 sc_format_data.nd)) (fun _ _ _ _ _ => ts_nil) (fun _ _ _ _ _ => (e_bin (o_add hK) (e_var 8) e_str)))))))))
theorem c_format_data (T : Tp K mg) (hK : K = cf.K) : Cal P w K mg base cf 1 "format_data" 3 φ_format_data := Cal.gc T.f_format_data sc_format_data fun f => w_format_data T hK 
/-! format_order -/
noncomputable def m_format_order : SD := (Sret (Mm1 joinG (Mc (.str ">")) (Mfrz (MComp (Mit (Mvar 0)) (.nm 1) none (M1 strG (Mvar 1)) [1]))))
noncomputable def φ_format_order : Fn := gcF 1 N_format_order.length m_format_order
theorem w_format_order (T : Tp K mg) (hK : K = cf.K)  {f : Addr} : Walked P w K mg base cf 0 f "format_order" st_format_order N_format_order m_format_order := by
  intro cdv A outer s H E hr
  have hu := hr.units
  have tk : Takes (cxOf (L2.CX P w) P w K mg base N_format_order "format_order" (defScope st_format_order) f cdv A outer s H E) (fun c d _ H => E c d H) := takes_of rfl rfl rfl rfl
  exact (b_one (s_ret (e_join hK e_str (e_frz (n_comp rfl sc_format_order.nd (i_val hK (e_var 0)) (own := [("demand", 1)]) (blkOk_by rfl) (by simp [slotsP, slotsPs]) (fun _ _ _ _ _ => (g_nm 1 sc_format_order.nd)) (fun _ _ _ _ _ => ts_nil) (fun _ _ _ _ _ => (e_bT c_str T.b_str boot_str (e_var 1))))))))
theorem c_format_order (T : Tp K mg) (hK : K = cf.K) : Cal P w K mg base cf 1 "format_order" 1 φ_format_order := Cal.gc T.f_format_order sc_format_order fun f => w_format_order T hK 
/-! parse_integer -/
noncomputable def m_parse_integer : SD := (Sseq (Sif (Mor (Mnot (Mchain leD leD (Mc (.int 1)) (M1 lenG (Mvar 0)) (Mc (.int 13)))) (Mnot (M1 allG (Mfrz (MComp (Mit (Mvar 0)) (.nm 1) none (M2 inD (Mvar 1) (Mc (.str "0123456789"))) [1]))))) (Sret (Mc .non)) Snx) (Sret (Mif (Mand (M2 eqD (M2 idxD (Mvar 0) (Mc (.int 0))) (Mc (.str "0"))) (M2 neD (Mvar 0) (Mc (.str "0")))) (Mc .non) (M1 intG (Mvar 0)))))
noncomputable def φ_parse_integer : Fn := gcF 1 N_parse_integer.length m_parse_integer
theorem w_parse_integer (T : Tp K mg) (hK : K = cf.K)  {f : Addr} : Walked P w K mg base cf 0 f "parse_integer" st_parse_integer N_parse_integer m_parse_integer := by
  obtain ⟨_, c_DIGITS⟩ := T.k_DIGITS
  obtain ⟨_, c_LONGEST⟩ := T.k_LONGEST
  intro cdv A outer s H E hr
  have hu := hr.units
  have tk : Takes (cxOf (L2.CX P w) P w K mg base N_parse_integer "parse_integer" (defScope st_parse_integer) f cdv A outer s H E) (fun c d _ H => E c d H) := takes_of rfl rfl rfl rfl
  exact (b_cons (s_if ((w_or (t_not (t_chain o_le o_le e_int (e_b1 (c_len hK) T.b_len boot_len (e_var 0)) (e_gI c_LONGEST))) (w_or1 (t_not (t_val (e_b1 (c_all rfl) T.b_all boot_all (e_frz (n_comp rfl sc_parse_integer.nd (i_val hK (e_var 0)) (own := [("sign", 1)]) (blkOk_by rfl) (by simp [slotsP, slotsPs]) (fun _ _ _ _ _ => (g_nm 1 sc_parse_integer.nd)) (fun _ _ _ _ _ => ts_nil) (fun _ _ _ _ _ => (e_cmp (o_in hK) (e_var 1) (e_gS c_DIGITS))))))))))).pt (b_one (s_ret e_non)) b_nil)
    (b_one (s_ret (e_if ((w_and (t_cmp (o_eq hu hK) (e_idx hK (e_var 0) e_int) e_str) (w_and1 (t_cmp (o_ne hu hK) (e_var 0) e_str)))).pt e_non (e_bT c_int T.b_int boot_int (e_var 0))))))
theorem c_parse_integer (T : Tp K mg) (hK : K = cf.K) : Cal P w K mg base cf 1 "parse_integer" 1 φ_parse_integer := Cal.gc T.f_parse_integer sc_parse_integer fun f => w_parse_integer T hK 
/-! parse_integers -/
noncomputable def m_parse_integers : SD := (Sseq (Sasg (.nm 1) (M1 tupG (Mfrz (MComp (Mit (Mvar 0)) (.nm 2) none (Mcall 1 φ_parse_integer (Mcons (Mvar 2) Mnil)) [2])))) (Sret (Mif (M2 inD (Mc .non) (Mvar 1)) (Mc .non) (Mvar 1))))
noncomputable def φ_parse_integers : Fn := gcF 1 N_parse_integers.length m_parse_integers
theorem w_parse_integers (T : Tp K mg) (hK : K = cf.K) (c_parse_integer : Cal P w K mg base cf 1 "parse_integer" 1 φ_parse_integer) {f : Addr} : Walked P w K mg base cf 1 f "parse_integers" st_parse_integers N_parse_integers m_parse_integers := by
  intro cdv A outer s H E hr
  have hu := hr.units
  have tk : Takes (cxOf (L2.CX P w) P w K mg base N_parse_integers "parse_integers" (defScope st_parse_integers) f cdv A outer s H E) (fun c d _ H => E c d H) := takes_of rfl rfl rfl rfl
  exact (b_cons (s_set 1 sc_parse_integers.nd (e_bT (c_tuple hK) T.b_tuple boot_tuple (e_frz (n_comp rfl sc_parse_integers.nd (i_val hK (e_var 0)) (own := [("word", 2)]) (blkOk_by rfl) (by simp [slotsP, slotsPs]) (fun _ _ _ _ _ => (g_nm 2 sc_parse_integers.nd)) (fun _ _ _ _ _ => ts_nil) (fun _ _ _ _ _ => (e_call c_parse_integer hr L2.takes0 (a_cons (e_var 2) a_nil)))))))
    (b_one (s_ret (e_if (t_cmp (o_in hK) e_non (e_var 1)) e_non (e_var 1)))))
theorem c_parse_integers (T : Tp K mg) (hK : K = cf.K) : Cal P w K mg base cf 2 "parse_integers" 1 φ_parse_integers := Cal.gc T.f_parse_integers sc_parse_integers fun f => w_parse_integers T hK (c_parse_integer T hK)
/-! check_string -/
noncomputable def m_check_string : SD := (Sif (Mnot (Misi (Mvar 0) "str")) Sno Snx)
noncomputable def φ_check_string : Fn := gcF 1 N_check_string.length m_check_string
theorem w_check_string (T : Tp K mg) (hK : K = cf.K)  {f : Addr} : Walked P w K mg base cf 0 f "check_string" st_check_string N_check_string m_check_string := by
  intro cdv A outer s H E hr
  have hu := hr.units
  have tk : Takes (cxOf (L2.CX P w) P w K mg base N_check_string "check_string" (defScope st_check_string) f cdv A outer s H E) (fun c d _ H => E c d H) := takes_of rfl rfl rfl rfl
  exact (b_one (s_if (t_not (t_val (e_isi hK (e_var 0) T.b_isinstance T.b_str boot_str))) (b_one s_no) b_nil))
theorem c_check_string (T : Tp K mg) (hK : K = cf.K) : Cal P w K mg base cf 1 "check_string" 1 φ_check_string := Cal.gc T.f_check_string sc_check_string fun f => w_check_string T hK 
/-! parse_demand -/
noncomputable def m_parse_demand : SD := (Sseq (Sif (Mor (M2 neD (M1 lenG (Mvar 1)) (Mc (.int 1))) (Mor (M2 gtD (M2 idxD (Mvar 1) (Mc (.int 0))) (Mc (.int 1000000000000))) (M2 eqD (M1 lenG (Mvar 0)) (Mc (.int 10))))) (Sret (Mc .non)) Snx) (Sret (M2 addD (Mvar 0) (Mtup (Mcons (M2 idxD (Mvar 1) (Mc (.int 0))) Mnil)))))
noncomputable def φ_parse_demand : Fn := gcF 2 N_parse_demand.length m_parse_demand
theorem w_parse_demand (T : Tp K mg) (hK : K = cf.K)  {f : Addr} : Walked P w K mg base cf 0 f "parse_demand" st_parse_demand N_parse_demand m_parse_demand := by
  obtain ⟨_, c_MAX_AMOUNT⟩ := T.k_MAX_AMOUNT
  obtain ⟨_, c_MAX_DEMANDS⟩ := T.k_MAX_DEMANDS
  intro cdv A outer s H E hr
  have hu := hr.units
  have tk : Takes (cxOf (L2.CX P w) P w K mg base N_parse_demand "parse_demand" (defScope st_parse_demand) f cdv A outer s H E) (fun c d _ H => E c d H) := takes_of rfl rfl rfl rfl
  exact (b_cons (s_if ((w_or (t_cmp (o_ne hu hK) (e_b1 (c_len hK) T.b_len boot_len (e_var 1)) e_int) (w_or (t_cmp o_gt (e_idx hK (e_var 1) e_int) (e_gI c_MAX_AMOUNT)) (w_or1 (t_cmp (o_eq hu hK) (e_b1 (c_len hK) T.b_len boot_len (e_var 0)) (e_gI c_MAX_DEMANDS)))))).pt (b_one (s_ret e_non)) b_nil)
    (b_one (s_ret (e_bin (o_add hK) (e_var 0) (e_tup (a_cons (e_idx hK (e_var 1) e_int) a_nil))))))
theorem c_parse_demand (T : Tp K mg) (hK : K = cf.K) : Cal P w K mg base cf 1 "parse_demand" 2 φ_parse_demand := Cal.gc T.f_parse_demand sc_parse_demand fun f => w_parse_demand T hK 
/-! parse_offer -/
noncomputable def m_parse_offer : SD := (Sseq (Sif (Mor (M2 eqD (Mvar 2) (Mtup Mnil)) (Mor (M2 gtD (M2 idxD (Mvar 2) (Mc (.int 0))) (Mc (.int 1000000000000))) (Mor (M2 eqD (M1 lenG (Mvar 0)) (Mc (.int 10))) (M2 eqD (Mvar 1) (Mc (.int 0)))))) (Sret (Mc .non)) Snx) (Sseq (Sasg (.nm 3) (Msl (Mvar 2) (Mso (Mc (.int 1))) Mno)) (Sseq (Sif (Mor (Mnot (Mcall 1 φ_is_ascending (Mcons (Mvar 3) Mnil))) (Mnot (M1 allG (Mfrz (MComp (Mit (Mvar 3)) (.nm 4) none (M2 ltD (Mvar 4) (Mvar 1)) [4]))))) (Sret (Mc .non)) Snx) (Sret (M2 addD (Mvar 0) (Mtup (Mcons (Mtup (Mcons (M2 idxD (Mvar 2) (Mc (.int 0))) (Mcons (Mvar 3) Mnil))) Mnil)))))))
noncomputable def φ_parse_offer : Fn := gcF 3 N_parse_offer.length m_parse_offer
theorem w_parse_offer (T : Tp K mg) (hK : K = cf.K) (c_is_ascending : Cal P w K mg base cf 1 "is_ascending" 1 φ_is_ascending) {f : Addr} : Walked P w K mg base cf 1 f "parse_offer" st_parse_offer N_parse_offer m_parse_offer := by
  obtain ⟨_, c_MAX_AMOUNT⟩ := T.k_MAX_AMOUNT
  obtain ⟨_, c_MAX_OFFERS⟩ := T.k_MAX_OFFERS
  intro cdv A outer s H E hr
  have hu := hr.units
  have tk : Takes (cxOf (L2.CX P w) P w K mg base N_parse_offer "parse_offer" (defScope st_parse_offer) f cdv A outer s H E) (fun c d _ H => E c d H) := takes_of rfl rfl rfl rfl
  exact (b_cons (s_if ((w_or (t_cmp (o_eq hu hK) (e_var 2) (e_tup a_nil)) (w_or (t_cmp o_gt (e_idx hK (e_var 2) e_int) (e_gI c_MAX_AMOUNT)) (w_or (t_cmp (o_eq hu hK) (e_b1 (c_len hK) T.b_len boot_len (e_var 0)) (e_gI c_MAX_OFFERS)) (w_or1 (t_cmp (o_eq hu hK) (e_var 1) e_int)))))).pt (b_one (s_ret e_non)) b_nil)
    (b_cons (s_set 3 sc_parse_offer.nd (e_sl hK (e_var 2) (p_so e_int) p_no))
    (b_cons (s_if ((w_or (t_not (t_val (e_call c_is_ascending hr tk (a_cons (e_var 3) a_nil)))) (w_or1 (t_not (t_val (e_b1 (c_all rfl) T.b_all boot_all (e_frz (n_comp rfl sc_parse_offer.nd (i_val hK (e_var 3)) (own := [("demand", 4)]) (blkOk_by rfl) (by simp [slotsP, slotsPs]) (fun _ _ _ _ _ => (g_nm 4 sc_parse_offer.nd)) (fun _ _ _ _ _ => ts_nil) (fun _ _ _ _ _ => (e_cmp o_lt (e_var 4) (e_var 1))))))))))).pt (b_one (s_ret e_non)) b_nil)
    (b_one (s_ret (e_bin (o_add hK) (e_var 0) (e_tup (a_cons (e_tup (a_cons (e_idx hK (e_var 2) e_int) (a_cons (e_var 3) a_nil))) a_nil))))))))
theorem c_parse_offer (T : Tp K mg) (hK : K = cf.K) : Cal P w K mg base cf 2 "parse_offer" 3 φ_parse_offer := Cal.gc T.f_parse_offer sc_parse_offer fun f => w_parse_offer T hK (c_is_ascending T hK)
/-! parse_line -/
noncomputable def m_parse_line : SD := (Sseq (Sstar 2 1 [(.nm 3), (.nm 4)] (Mfrz (Nm1 splitG (Mvar 2) (Mc (.str " "))))) (Sseq (Sasg (.nm 5) (Mcall 1 φ_parse_integers (Mcons (Mvar 4) Mnil))) (Sseq (Sif (M2 isND (Mvar 5) (Mc .non)) (Sret (Mc .non)) Snx) (Sseq (Sif (Mand (M2 eqD (Mvar 3) (Mc (.str "demand"))) (M2 eqD (Mvar 1) (Mtup Mnil))) (Sseq (Sasg (.nm 6) (Mcall 2 φ_parse_demand (Mcons (Mvar 0) (Mcons (Mvar 5) Mnil)))) (Sret (Mif (M2 isND (Mvar 6) (Mc .non)) (Mc .non) (Mtup (Mcons (Mvar 6) (Mcons (Mvar 1) Mnil)))))) Snx) (Sseq (Sif (M2 eqD (Mvar 3) (Mc (.str "offer"))) (Sseq (Sasg (.nm 6) (Mcall 3 φ_parse_offer (Mcons (Mvar 1) (Mcons (M1 lenG (Mvar 0)) (Mcons (Mvar 5) Mnil))))) (Sret (Mif (M2 isND (Mvar 6) (Mc .non)) (Mc .non) (Mtup (Mcons (Mvar 0) (Mcons (Mvar 6) Mnil)))))) Snx) (Sret (Mc .non)))))))
noncomputable def φ_parse_line : Fn := gcF 3 N_parse_line.length m_parse_line
theorem w_parse_line (T : Tp K mg) (hK : K = cf.K) (c_parse_demand : Cal P w K mg base cf 1 "parse_demand" 2 φ_parse_demand) (c_parse_integers : Cal P w K mg base cf 2 "parse_integers" 1 φ_parse_integers) (c_parse_offer : Cal P w K mg base cf 2 "parse_offer" 3 φ_parse_offer) {f : Addr} : Walked P w K mg base cf 2 f "parse_line" st_parse_line N_parse_line m_parse_line := by
  obtain ⟨_, c_DEMAND⟩ := T.k_DEMAND
  obtain ⟨_, c_OFFER⟩ := T.k_OFFER
  intro cdv A outer s H E hr
  have hu := hr.units
  have tk : Takes (cxOf (L2.CX P w) P w K mg base N_parse_line "parse_line" (defScope st_parse_line) f cdv A outer s H E) (fun c d _ H => E c d H) := takes_of rfl rfl rfl rfl
  exact (b_cons (s_star (n := 2) (i := 1) rfl (e_frz (n_split (e_var 2) e_str)) (gs_cons (g_nm 3 sc_parse_line.nd) (gs_star (gs_cons (g_nm 4 sc_parse_line.nd) gs_nil))))
    (b_cons (s_set 5 sc_parse_line.nd (e_call c_parse_integers hr tk (a_cons (e_var 4) a_nil)))
    (b_cons (s_if (t_cmp o_isN (e_var 5) e_non) (b_one (s_ret e_non)) b_nil)
    (b_cons (s_if ((w_and (t_cmp (o_eq hu hK) (e_var 3) (e_gS c_DEMAND)) (w_and1 (t_cmp (o_eq hu hK) (e_var 1) (e_tup a_nil))))).pt (b_cons (s_set 6 sc_parse_line.nd (e_call c_parse_demand hr tk (a_cons (e_var 0) (a_cons (e_var 5) a_nil))))
    (b_one (s_ret (e_if (t_cmp o_isN (e_var 6) e_non) e_non (e_tup (a_cons (e_var 6) (a_cons (e_var 1) a_nil))))))) b_nil)
    (b_cons (s_if (t_cmp (o_eq hu hK) (e_var 3) (e_gS c_OFFER)) (b_cons (s_set 6 sc_parse_line.nd (e_call c_parse_offer hr tk (a_cons (e_var 1) (a_cons (e_b1 (c_len hK) T.b_len boot_len (e_var 0)) (a_cons (e_var 5) a_nil)))))
    (b_one (s_ret (e_if (t_cmp o_isN (e_var 6) e_non) e_non (e_tup (a_cons (e_var 0) (a_cons (e_var 6) a_nil))))))) b_nil)
    (b_one (s_ret e_non)))))))
theorem c_parse_line (T : Tp K mg) (hK : K = cf.K) : Cal P w K mg base cf 3 "parse_line" 3 φ_parse_line := Cal.gc T.f_parse_line sc_parse_line fun f => w_parse_line T hK (c_parse_demand T hK) (c_parse_integers T hK) (c_parse_offer T hK)
/-! parse_data -/
noncomputable def m_parse_data : SD := (Sseq (Sexp (Mcall 1 φ_check_string (Mcons (Mvar 0) Mnil))) (Sseq (Sstar 2 0 [(.nm 1), (.nm 2)] (Mfrz (Nm1 splitG (Mvar 0) (Mc (.str "\n"))))) (Sseq (Sasg (.tp [(.nm 3), (.nm 4)]) (Mtup (Mcons (Mtup Mnil) (Mcons (Mtup Mnil) Mnil)))) (Sseq (Sfor (Ienum (Mvar 1)) (.tp [(.nm 5), (.nm 6)]) (Sseq (Sasg (.nm 7) (Mcall 3 φ_parse_line (Mcons (Mvar 3) (Mcons (Mvar 4) (Mcons (Mvar 6) Mnil))))) (Sseq (Sif (M2 isND (Mvar 7) (Mc .non)) Sno Snx) (Sasg (.tp [(.nm 3), (.nm 4)]) (Mvar 7))))) (Sseq (Sif (Mor (M2 neD (Mvar 2) (Mc (.str ""))) (M2 eqD (Mvar 3) (Mtup Mnil))) Sno Snx) (Sseq (Sasg (.nm 8) (M1 tupG (Mfrz (MComp (Mit (Mvar 4)) (.tp [(.nm 9), (.nm 10)]) none (Mvar 9) [9, 10])))) (Sret (Mtup (Mcons (Mtup (Mcons (M1 lenG (Mvar 3)) (Mcons (M1 tupG (Mfrz (MComp (Mit (Mvar 4)) (.tp [(.nm 9), (.nm 10)]) none (Mvar 10) [9, 10]))) Mnil))) (Mcons (Mvar 8) (Mcons (Mvar 3) Mnil)))))))))))
noncomputable def φ_parse_data : Fn := gcF 1 N_parse_data.length m_parse_data
theorem w_parse_data (T : Tp K mg) (hK : K = cf.K) (c_check_string : Cal P w K mg base cf 1 "check_string" 1 φ_check_string) (c_parse_line : Cal P w K mg base cf 3 "parse_line" 3 φ_parse_line) {f : Addr} : Walked P w K mg base cf 3 f "parse_data" st_parse_data N_parse_data m_parse_data := by
  intro cdv A outer s H E hr
  have hu := hr.units
  have tk : Takes (cxOf (L2.CX P w) P w K mg base N_parse_data "parse_data" (defScope st_parse_data) f cdv A outer s H E) (fun c d _ H => E c d H) := takes_of rfl rfl rfl rfl
  exact (b_cons (s_exp (e_call c_check_string hr tk (a_cons (e_var 0) a_nil)))
    (b_cons (s_star (n := 2) (i := 0) rfl (e_frz (n_split (e_var 0) e_str)) (gs_star (gs_cons (g_nm 1 sc_parse_data.nd) (gs_cons (g_nm 2 sc_parse_data.nd) gs_nil))))
    (b_cons (s_asg (e_tup (a_cons (e_tup a_nil) (a_cons (e_tup a_nil) a_nil))) (g_tp hK rfl (gs_cons (g_nm 3 sc_parse_data.nd) (gs_cons (g_nm 4 sc_parse_data.nd) gs_nil))))
    (b_cons (s_for (passes_of rfl) rfl (i_enum hK T.b_enumerate (e_var 1)) (g_tp hK rfl (gs_cons (g_nm 5 sc_parse_data.nd) (gs_cons (g_nm 6 sc_parse_data.nd) gs_nil))) (b_cons (s_set 7 sc_parse_data.nd (e_call c_parse_line hr tk (a_cons (e_var 3) (a_cons (e_var 4) (a_cons (e_var 6) a_nil)))))
    (b_cons (s_if (t_cmp o_isN (e_var 7) e_non) (b_one s_no) b_nil)
    (b_one (s_asg (e_var 7) (g_tp hK rfl (gs_cons (g_nm 3 sc_parse_data.nd) (gs_cons (g_nm 4 sc_parse_data.nd) gs_nil))))))))
    (b_cons (s_if ((w_or (t_cmp (o_ne hu hK) (e_var 2) e_str) (w_or1 (t_cmp (o_eq hu hK) (e_var 3) (e_tup a_nil))))).pt (b_one s_no) b_nil)
    (b_cons (s_set 8 sc_parse_data.nd (e_bT (c_tuple hK) T.b_tuple boot_tuple (e_frz (n_comp rfl sc_parse_data.nd (i_val hK (e_var 4)) (own := [("price", 9), ("demands", 10)]) (blkOk_by rfl) (by simp [slotsP, slotsPs]) (fun _ _ _ _ _ => (g_tp hK rfl (gs_cons (g_nm 9 sc_parse_data.nd) (gs_cons (g_nm 10 sc_parse_data.nd) gs_nil)))) (fun _ _ _ _ _ => ts_nil) (fun _ _ _ _ _ => (e_var 9))))))
    (b_one (s_ret (e_tup (a_cons (e_tup (a_cons (e_b1 (c_len hK) T.b_len boot_len (e_var 3)) (a_cons (e_bT (c_tuple hK) T.b_tuple boot_tuple (e_frz (n_comp rfl sc_parse_data.nd (i_val hK (e_var 4)) (own := [("price", 9), ("demands", 10)]) (blkOk_by rfl) (by simp [slotsP, slotsPs]) (fun _ _ _ _ _ => (g_tp hK rfl (gs_cons (g_nm 9 sc_parse_data.nd) (gs_cons (g_nm 10 sc_parse_data.nd) gs_nil)))) (fun _ _ _ _ _ => ts_nil) (fun _ _ _ _ _ => (e_var 10))))) a_nil))) (a_cons (e_var 8) (a_cons (e_var 3) a_nil))))))))))))
theorem c_parse_data (T : Tp K mg) (hK : K = cf.K) : Cal P w K mg base cf 4 "parse_data" 1 φ_parse_data := Cal.gc T.f_parse_data sc_parse_data fun f => w_parse_data T hK (c_check_string T hK) (c_parse_line T hK)
/-! parse_order -/
noncomputable def m_parse_order : SD := (Sseq (Sexp (Mcall 1 φ_check_string (Mcons (Mvar 0) Mnil))) (Sseq (Sasg (.nm 1) (Mcall 1 φ_parse_integers (Mcons (Mfrz (Nm1 splitG (Mvar 0) (Mc (.str ">")))) Mnil))) (Sseq (Sif (Mor (M2 isND (Mvar 1) (Mc .non)) (Mor (M2 gtD (M1 lenG (Mvar 1)) (Mc (.int 10))) (M2 neD (Mfrz (MN1 sortG (Mvar 1))) (Mfrz (Nrng (M1 lenG (Mvar 1))))))) Sno Snx) (Sret (Mvar 1)))))
noncomputable def φ_parse_order : Fn := gcF 1 N_parse_order.length m_parse_order
theorem w_parse_order (T : Tp K mg) (hK : K = cf.K) (c_check_string : Cal P w K mg base cf 1 "check_string" 1 φ_check_string) (c_parse_integers : Cal P w K mg base cf 2 "parse_integers" 1 φ_parse_integers) {f : Addr} : Walked P w K mg base cf 2 f "parse_order" st_parse_order N_parse_order m_parse_order := by
  obtain ⟨_, c_MAX_DEMANDS⟩ := T.k_MAX_DEMANDS
  intro cdv A outer s H E hr
  have hu := hr.units
  have tk : Takes (cxOf (L2.CX P w) P w K mg base N_parse_order "parse_order" (defScope st_parse_order) f cdv A outer s H E) (fun c d _ H => E c d H) := takes_of rfl rfl rfl rfl
  exact (b_cons (s_exp (e_call c_check_string hr tk (a_cons (e_var 0) a_nil)))
    (b_cons (s_set 1 sc_parse_order.nd (e_call c_parse_integers hr tk (a_cons (e_frz (n_split (e_var 0) e_str)) a_nil)))
    (b_cons (s_if ((w_or (t_cmp o_isN (e_var 1) e_non) (w_or (t_cmp o_gt (e_b1 (c_len hK) T.b_len boot_len (e_var 1)) (e_gI c_MAX_DEMANDS)) (w_or1 (t_cmp (o_ne hu hK) (e_frz (n_b1 (c_sorted hK) T.b_sorted boot_sorted (e_var 1))) (e_frz (n_listRng rfl T.b_list T.b_range (e_b1 (c_len hK) T.b_len boot_len (e_var 1))))))))).pt (b_one s_no) b_nil)
    (b_one (s_ret (e_var 1))))))
theorem c_parse_order (T : Tp K mg) (hK : K = cf.K) : Cal P w K mg base cf 3 "parse_order" 1 φ_parse_order := Cal.gc T.f_parse_order sc_parse_order fun f => w_parse_order T hK (c_check_string T hK) (c_parse_integers T hK)
/-! _law_deck -/
noncomputable def m__law_deck : SD := (Sseq (Sasg (.nm 1) (Mfrz (MComp (Mit (Mvar 0)) (.nm 2) none (M1 absG (Mvar 2)) [2]))) (Sret (Mnew (Mdisp (Mcons (Mnew (MComp (Mit (Mvar 1)) (.nm 2) (some (M2 geD (Mvar 2) (M2 powD (Mc (.int 10)) (Mc (.int 18))))) (Mvar 2) [2])) (Mcons (Mnew (MN2 catN (Mvar 1) (Mfrz (Mdisp (Mcons (M2 addD (M1 lenG (Mvar 1)) (Mc (.int 7))) Mnil))))) (Mcons (Mc (.int 0)) Mnil)))))))
noncomputable def φ__law_deck : Fn := kpF 1 N__law_deck.length m__law_deck
theorem w__law_deck (T : Tp K mg) (hK : K = cf.K)  {f : Addr} : Walked P w K mg base cf 0 f "_law_deck" st__law_deck N__law_deck m__law_deck := by
  intro cdv A outer s H E hr
  have hu := hr.units
  have tk : Takes (cxOf (L2.CX P w) P w K mg base N__law_deck "_law_deck" (defScope st__law_deck) f cdv A outer s H E) (fun c d _ H => E c d H) := takes_of rfl rfl rfl rfl
  exact (b_cons (s_lcF 1 rfl sc__law_deck.nd (i_val hK (e_var 0)) (own := [("_law_cell", 2)]) (blkOk_by rfl) (by simp [slotsP, slotsPs]) (fun _ _ _ _ _ => (g_nm 2 sc__law_deck.nd)) (fun _ _ _ _ _ => ts_nil) (fun _ _ _ _ _ => (e_b1 c_abs T.b_abs boot_abs (e_var 2))))
    (b_one (s_ret (e_new (n_disp (a_cons (e_new (n_comp rfl sc__law_deck.nd (i_val hK (e_var 1)) (own := [("_law_cell", 2)]) (blkOk_by rfl) (by simp [slotsP, slotsPs]) (fun _ _ _ _ _ => (g_nm 2 sc__law_deck.nd)) (fun _ _ _ _ _ => (ts_one (t_cmp o_ge (e_var 2) (e_bin o_pow e_int e_int)))) (fun _ _ _ _ _ => (e_var 2)))) (a_cons (e_new (n_cat (e_var 1) (e_frz (n_disp (a_cons (e_bin (o_add hK) (e_b1 (c_len hK) T.b_len boot_len (e_var 1)) e_int) a_nil))))) (a_cons e_int a_nil))))))))
theorem c__law_deck (T : Tp K mg) (hK : K = cf.K) : Cal P w K mg base cf 1 "_law_deck" 1 φ__law_deck := Cal.kp T.f__law_deck sc__law_deck fun f => w__law_deck T hK 
/-! _law_next -/
noncomputable def m__law_next : SD := (Sseq (Swh (M2 neD (M2 idxD (Mvar 0) (Mc (.int 0))) (Mfrz (Mdisp Mnil))) (Sseq (Sasg (.nm 2) (M2 idxD (M2 idxD (Mvar 0) (Mc (.int 0))) (Mc (.int 0)))) (Sseq (Sif (M2 gtD (Mvar 2) (Mc (.int 0))) (Sseq (Ssub (M2 idxD (Mvar 0) (Mc (.int 0))) (Mc (.int 0)) (M2 fdivD (Mvar 2) (Mvar 1))) (Sret (M2 modD (Mvar 2) (Mvar 1)))) Snx) (Sexp (Mlm1 popG (M2 idxD (Mvar 0) (Mc (.int 0))) (Mc (.int 0))))))) (Sseq (Ssub (Mvar 0) (Mc (.int 2)) (M2 addD (M2 idxD (Mvar 0) (Mc (.int 2))) (Mc (.int 1)))) (Sseq (Sasg (.nm 3) (M2 modD (M2 idxD (M2 idxD (Mvar 0) (Mc (.int 1))) (M2 modD (M2 idxD (Mvar 0) (Mc (.int 2))) (M1 lenG (M2 idxD (Mvar 0) (Mc (.int 1)))))) (Mc (.int 2147483647)))) (Sseq (Sasg (.nm 4) (M2 addD (M2 addD (M2 mulD (Mvar 3) (M2 addD (Mc (.int 48271)) (M2 mulD (Mc (.int 69621)) (M2 idxD (Mvar 0) (Mc (.int 2)))))) (M2 mulD (M2 mulD (Mc (.int 40014)) (M2 idxD (Mvar 0) (Mc (.int 2)))) (M2 idxD (Mvar 0) (Mc (.int 2))))) (Mc (.int 79)))) (Sseq (Sasg (.nm 4) (M2 modD (Mvar 4) (Mc (.int 2147483629)))) (Sret (M2 modD (M2 fdivD (M2 modD (M2 mulD (Mvar 4) (Mvar 4)) (Mc (.int 2147483587))) (Mc (.int 16))) (Mvar 1))))))))
noncomputable def φ__law_next : Fn := gcF 2 N__law_next.length m__law_next
theorem w__law_next (T : Tp K mg) (hK : K = cf.K)  {f : Addr} : Walked P w K mg base cf 0 f "_law_next" st__law_next N__law_next m__law_next := by
  intro cdv A outer s H E hr
  have hu := hr.units
  have tk : Takes (cxOf (L2.CX P w) P w K mg base N__law_next "_law_next" (defScope st__law_next) f cdv A outer s H E) (fun c d _ H => E c d H) := takes_of rfl rfl rfl rfl
  exact (b_cons (s_wh (passes_of rfl) (t_cmp (o_ne hu hK) (e_idx hK (e_var 0) e_int) (e_frz (n_disp a_nil))) (b_cons (s_set 2 sc__law_next.nd (e_idx hK (e_idx hK (e_var 0) e_int) e_int))
    (b_cons (s_if (t_cmp o_gt (e_var 2) e_int) (b_cons (s_sub (e_bin o_fdiv (e_var 2) (e_var 1)) (e_idx hK (e_var 0) e_int) e_int)
    (b_one (s_ret (e_bin o_mod (e_var 2) (e_var 1))))) b_nil)
    (b_one (s_exp (e_pop (e_idx hK (e_var 0) e_int) e_int))))))
    (b_cons (s_sub (e_bin (o_add hK) (e_idx hK (e_var 0) e_int) e_int) (e_var 0) e_int)
    (b_cons (s_set 3 sc__law_next.nd (e_bin o_mod (e_idx hK (e_idx hK (e_var 0) e_int) (e_bin o_mod (e_idx hK (e_var 0) e_int) (e_b1 (c_len hK) T.b_len boot_len (e_idx hK (e_var 0) e_int)))) e_int))
    (b_cons (s_set 4 sc__law_next.nd (e_bin (o_add hK) (e_bin (o_add hK) (e_bin o_mul (e_var 3) (e_bin (o_add hK) e_int (e_bin o_mul e_int (e_idx hK (e_var 0) e_int)))) (e_bin o_mul (e_bin o_mul e_int (e_idx hK (e_var 0) e_int)) (e_idx hK (e_var 0) e_int))) e_int))
    (b_cons (s_set 4 sc__law_next.nd (e_bin o_mod (e_var 4) e_int))
    (b_one (s_ret (e_bin o_mod (e_bin o_fdiv (e_bin o_mod (e_bin o_mul (e_var 4) (e_var 4)) e_int) e_int) (e_var 1)))))))))
theorem c__law_next (T : Tp K mg) (hK : K = cf.K) : Cal P w K mg base cf 1 "_law_next" 2 φ__law_next := Cal.gc T.f__law_next sc__law_next fun f => w__law_next T hK 
/-! _law_one -/
noncomputable def m__law_one : SD := (Sret (M2 idxD (Mvar 1) (Mcall 2 φ__law_next (Mcons (Mvar 0) (Mcons (M1 lenG (Mvar 1)) Mnil)))))
noncomputable def φ__law_one : Fn := gcF 2 N__law_one.length m__law_one
theorem w__law_one (T : Tp K mg) (hK : K = cf.K) (c__law_next : Cal P w K mg base cf 1 "_law_next" 2 φ__law_next) {f : Addr} : Walked P w K mg base cf 1 f "_law_one" st__law_one N__law_one m__law_one := by
  intro cdv A outer s H E hr
  have hu := hr.units
  have tk : Takes (cxOf (L2.CX P w) P w K mg base N__law_one "_law_one" (defScope st__law_one) f cdv A outer s H E) (fun c d _ H => E c d H) := takes_of rfl rfl rfl rfl
  exact (b_one (s_ret (e_idx hK (e_var 1) (e_call c__law_next hr tk (a_cons (e_var 0) (a_cons (e_b1 (c_len hK) T.b_len boot_len (e_var 1)) a_nil))))))
theorem c__law_one (T : Tp K mg) (hK : K = cf.K) : Cal P w K mg base cf 2 "_law_one" 2 φ__law_one := Cal.gc T.f__law_one sc__law_one fun f => w__law_one T hK (c__law_next T hK)
/-! _law_same -/
noncomputable def m__law_same (φ : Fn) : SD := (Sseq (Sif (Misi2 (Mvar 1) "tuple" "list") (Sseq (Sif (M2 neD (Misi (Mvar 0) "tuple") (Misi (Mvar 1) "tuple")) (Sret (Mc (.bl false))) Snx) (Sseq (Sif (M2 neD (Misi (Mvar 0) "list") (Misi (Mvar 1) "list")) (Sret (Mc (.bl false))) Snx) (Sseq (Sif (M2 neD (M1 lenG (Mvar 0)) (M1 lenG (Mvar 1))) (Sret (Mc (.bl false))) Snx) (Sret (M2 eqD (Mfrz (MComp (Irng1 (M1 lenG (Mvar 1))) (.nm 2) (some (Mnot (Mcall 2 φ (Mcons (M2 idxD (Mvar 0) (Mvar 2)) (Mcons (M2 idxD (Mvar 1) (Mvar 2)) Mnil))))) (Mvar 2) [2])) (Mfrz (Mdisp Mnil))))))) Snx) (Sseq (Sif (Misi (Mvar 1) "dict") (Sret (Mand (Misi (Mvar 0) "dict") (M2 eqD (Mvar 0) (Mvar 1)))) Snx) (Sseq (Sif (M2 isND (Mvar 1) (Mc .non)) (Sret (M2 isND (Mvar 0) (Mc .non))) Snx) (Sseq (Sif (Misi (Mvar 1) "str") (Sret (Mand (Misi (Mvar 0) "str") (M2 eqD (Mvar 0) (Mvar 1)))) Snx) (Sret (Mand (Misi (Mvar 0) "int") (Mand (M2 eqD (Misi (Mvar 0) "bool") (Misi (Mvar 1) "bool")) (M2 eqD (Mvar 0) (Mvar 1)))))))))
noncomputable def φ__law_same_at : Nat → Fn
  | 0 => fun _ _ => .no
  | n + 1 => gcF 2 N__law_same.length (m__law_same (φ__law_same_at n))
noncomputable def φ__law_same : Fn := φ__law_same_at 8
theorem w__law_same {k : Nat} {φ : Fn} (T : Tp K mg) (hK : K = cf.K) (c__law_same : Cal P w K mg base cf k "_law_same" 2 φ)  {f : Addr} : Walked P w K mg base cf k f "_law_same" st__law_same N__law_same (m__law_same φ) := by
  intro cdv A outer s H E hr
  have hu := hr.units
  have tk : Takes (cxOf (L2.CX P w) P w K mg base N__law_same "_law_same" (defScope st__law_same) f cdv A outer s H E) (fun c d _ H => E c d H) := takes_of rfl rfl rfl rfl
  exact (b_cons (s_if (t_val (e_isi2 hK (e_var 1) T.b_isinstance T.b_tuple T.b_list boot_tuple boot_list)) (b_cons (s_if (t_cmp (o_ne hu hK) (e_isi hK (e_var 0) T.b_isinstance T.b_tuple boot_tuple) (e_isi hK (e_var 1) T.b_isinstance T.b_tuple boot_tuple)) (b_one (s_ret e_bl)) b_nil)
    (b_cons (s_if (t_cmp (o_ne hu hK) (e_isi hK (e_var 0) T.b_isinstance T.b_list boot_list) (e_isi hK (e_var 1) T.b_isinstance T.b_list boot_list)) (b_one (s_ret e_bl)) b_nil)
    (b_cons (s_if (t_cmp (o_ne hu hK) (e_b1 (c_len hK) T.b_len boot_len (e_var 0)) (e_b1 (c_len hK) T.b_len boot_len (e_var 1))) (b_one (s_ret e_bl)) b_nil)
    (b_one (s_ret (e_cmp (o_eq hu hK) (e_frz (n_comp rfl sc__law_same.nd (i_rng1 T.b_range (e_b1 (c_len hK) T.b_len boot_len (e_var 1))) (own := [("_law_k", 2)]) (blkOk_by rfl) (by simp [slotsP, slotsPs]) (fun _ _ _ _ _ => (g_nm 2 sc__law_same.nd)) (fun _ _ _ _ _ => (ts_one (t_not (t_val (e_call c__law_same hr L2.takes0 (a_cons (e_idx hK (e_var 0) (e_var 2)) (a_cons (e_idx hK (e_var 1) (e_var 2)) a_nil)) (Nat.le_refl _)))))) (fun _ _ _ _ _ => (e_var 2)))) (e_frz (n_disp a_nil)))))))) b_nil)
    (b_cons (s_if (t_val (e_isi hK (e_var 1) T.b_isinstance T.b_dict boot_dict)) (b_one (s_ret (e_and (e_isi hK (e_var 0) T.b_isinstance T.b_dict boot_dict) (e_one (e_cmp (o_eq hu hK) (e_var 0) (e_var 1)))))) b_nil)
    (b_cons (s_if (t_cmp o_isN (e_var 1) e_non) (b_one (s_ret (e_cmp o_isN (e_var 0) e_non))) b_nil)
    (b_cons (s_if (t_val (e_isi hK (e_var 1) T.b_isinstance T.b_str boot_str)) (b_one (s_ret (e_and (e_isi hK (e_var 0) T.b_isinstance T.b_str boot_str) (e_one (e_cmp (o_eq hu hK) (e_var 0) (e_var 1)))))) b_nil)
    (b_one (s_ret (e_and (e_isi hK (e_var 0) T.b_isinstance T.b_int boot_int) (e_and (e_cmp (o_eq hu hK) (e_isi hK (e_var 0) T.b_isinstance T.b_bool boot_bool) (e_isi hK (e_var 1) T.b_isinstance T.b_bool boot_bool)) (e_one (e_cmp (o_eq hu hK) (e_var 0) (e_var 1)))))))))))
theorem c__law_same (T : Tp K mg) (hK : K = cf.K) : Cal P w K mg base cf 8 "_law_same" 2 φ__law_same := by
  have go : ∀ d, Cal P w K mg base cf d "_law_same" 2 (φ__law_same_at d) := fun d => by
    induction d with
    | zero => exact Cal.no T.f__law_same
    | succ d ih => exact Cal.gc T.f__law_same sc__law_same fun f => w__law_same T hK ih
  exact go 8
/-! _law_part -/
noncomputable def m__law_part : SD := (Sret (M1 tupG (Mfrz (MComp (Mit (Mvar 1)) (.nm 3) (some (M2 geD (Mcall 2 φ__law_next (Mcons (Mvar 0) (Mcons (Mc (.int 4)) Mnil))) (Mvar 2))) (Mvar 3) [3]))))
noncomputable def φ__law_part : Fn := gcF 3 N__law_part.length m__law_part
theorem w__law_part (T : Tp K mg) (hK : K = cf.K) (c__law_next : Cal P w K mg base cf 1 "_law_next" 2 φ__law_next) {f : Addr} : Walked P w K mg base cf 1 f "_law_part" st__law_part N__law_part m__law_part := by
  intro cdv A outer s H E hr
  have hu := hr.units
  have tk : Takes (cxOf (L2.CX P w) P w K mg base N__law_part "_law_part" (defScope st__law_part) f cdv A outer s H E) (fun c d _ H => E c d H) := takes_of rfl rfl rfl rfl
  exact (b_one (s_ret (e_bT (c_tuple hK) T.b_tuple boot_tuple (e_frz (n_comp rfl sc__law_part.nd (i_val hK (e_var 1)) (own := [("_law_item", 3)]) (blkOk_by rfl) (by simp [slotsP, slotsPs]) (fun _ _ _ _ _ => (g_nm 3 sc__law_part.nd)) (fun _ _ _ _ _ => (ts_one (t_cmp o_ge (e_call c__law_next hr L2.takes0 (a_cons (e_var 0) (a_cons e_int a_nil))) (e_var 2)))) (fun _ _ _ _ _ => (e_var 3)))))))
theorem c__law_part (T : Tp K mg) (hK : K = cf.K) : Cal P w K mg base cf 2 "_law_part" 3 φ__law_part := Cal.gc T.f__law_part sc__law_part fun f => w__law_part T hK (c__law_next T hK)
/-! _law_shuffled -/
noncomputable def m__law_shuffled : SD := (Sseq (Spar 2 3 (Mcons (Mnew (Nrng (Mvar 1))) (Mcons (Mnew (Mdisp Mnil)) Mnil))) (Sseq (Swh (M2 neD (Mvar 2) (Mfrz (Mdisp Mnil))) (Sexp (Mlm1 appG (Mvar 3) (Mlm1 popG (Mvar 2) (Mcall 2 φ__law_next (Mcons (Mvar 0) (Mcons (M1 lenG (Mvar 2)) Mnil))))))) (Sret (M1 tupG (Mvar 3)))))
noncomputable def φ__law_shuffled : Fn := gcF 2 N__law_shuffled.length m__law_shuffled
theorem w__law_shuffled (T : Tp K mg) (hK : K = cf.K) (c__law_next : Cal P w K mg base cf 1 "_law_next" 2 φ__law_next) {f : Addr} : Walked P w K mg base cf 1 f "_law_shuffled" st__law_shuffled N__law_shuffled m__law_shuffled := by
  intro cdv A outer s H E hr
  have hu := hr.units
  have tk : Takes (cxOf (L2.CX P w) P w K mg base N__law_shuffled "_law_shuffled" (defScope st__law_shuffled) f cdv A outer s H E) (fun c d _ H => E c d H) := takes_of rfl rfl rfl rfl
  exact (b_cons (s_par 2 3 rfl sc__law_shuffled.nd (a_cons (e_new (n_listRng rfl T.b_list T.b_range (e_var 1))) (a_cons (e_new (n_disp a_nil)) a_nil)))
    (b_cons (s_wh (passes_of rfl) (t_cmp (o_ne hu hK) (e_var 2) (e_frz (n_disp a_nil))) (b_one (s_exp (e_app (e_var 3) (e_pop (e_var 2) (e_call c__law_next hr tk (a_cons (e_var 0) (a_cons (e_b1 (c_len hK) T.b_len boot_len (e_var 2)) a_nil))))))))
    (b_one (s_ret (e_bT (c_tuple hK) T.b_tuple boot_tuple (e_var 3))))))
theorem c__law_shuffled (T : Tp K mg) (hK : K = cf.K) : Cal P w K mg base cf 2 "_law_shuffled" 2 φ__law_shuffled := Cal.gc T.f__law_shuffled sc__law_shuffled fun f => w__law_shuffled T hK (c__law_next T hK)
/-! _law_intervals -/
noncomputable def m__law_intervals : SD := (Sseq (Spar 3 4 (Mcons (Mcall 2 φ__law_shuffled (Mcons (Mvar 0) (Mcons (Mvar 1) Mnil))) (Mcons (Mnew (Mdisp Mnil)) Mnil))) (Sseq (Sfor (Irng1 (Mvar 2)) (.nm 5) (Sseq (Sasg (.nm 6) (Mcall 2 φ__law_next (Mcons (Mvar 0) (Mcons (Mvar 1) Mnil)))) (Sexp (Mlm1 appG (Mvar 4) (M1 tupG (Mfrz (MN1 sortG (Msl (Mvar 3) (Mso (Mvar 6)) (Mso (M2 addD (M2 addD (Mvar 6) (Mc (.int 1))) (Mcall 2 φ__law_next (Mcons (Mvar 0) (Mcons (Mvar 1) Mnil))))))))))))) (Sret (Mtup (Mcons (Mvar 1) (Mcons (M1 tupG (Mvar 4)) Mnil))))))
noncomputable def φ__law_intervals : Fn := gcF 3 N__law_intervals.length m__law_intervals
theorem w__law_intervals (T : Tp K mg) (hK : K = cf.K) (c__law_next : Cal P w K mg base cf 1 "_law_next" 2 φ__law_next) (c__law_shuffled : Cal P w K mg base cf 2 "_law_shuffled" 2 φ__law_shuffled) {f : Addr} : Walked P w K mg base cf 2 f "_law_intervals" st__law_intervals N__law_intervals m__law_intervals := by
  intro cdv A outer s H E hr
  have hu := hr.units
  have tk : Takes (cxOf (L2.CX P w) P w K mg base N__law_intervals "_law_intervals" (defScope st__law_intervals) f cdv A outer s H E) (fun c d _ H => E c d H) := takes_of rfl rfl rfl rfl
  exact (b_cons (s_par 3 4 rfl sc__law_intervals.nd (a_cons (e_call c__law_shuffled hr tk (a_cons (e_var 0) (a_cons (e_var 1) a_nil))) (a_cons (e_new (n_disp a_nil)) a_nil)))
    (b_cons (s_for (passes_of rfl) rfl (i_rng1 T.b_range (e_var 2)) (g_nm 5 sc__law_intervals.nd) (b_cons (s_set 6 sc__law_intervals.nd (e_call c__law_next hr tk (a_cons (e_var 0) (a_cons (e_var 1) a_nil))))
    (b_one (s_exp (e_app (e_var 4) (e_bT (c_tuple hK) T.b_tuple boot_tuple (e_frz (n_b1 (c_sorted hK) T.b_sorted boot_sorted (e_sl hK (e_var 3) (p_so (e_var 6)) (p_so (e_bin (o_add hK) (e_bin (o_add hK) (e_var 6) e_int) (e_call c__law_next hr tk (a_cons (e_var 0) (a_cons (e_var 1) a_nil))))))))))))))
    (b_one (s_ret (e_tup (a_cons (e_var 1) (a_cons (e_bT (c_tuple hK) T.b_tuple boot_tuple (e_var 4)) a_nil)))))))
theorem c__law_intervals (T : Tp K mg) (hK : K = cf.K) : Cal P w K mg base cf 3 "_law_intervals" 3 φ__law_intervals := Cal.gc T.f__law_intervals sc__law_intervals fun f => w__law_intervals T hK (c__law_next T hK) (c__law_shuffled T hK)
/-! _law_around -/
noncomputable def m__law_around : SD := (Sseq (Spar 3 4 (Mcons (Mcall 2 φ__law_shuffled (Mcons (Mvar 0) (Mcons (Mvar 1) Mnil))) (Mcons (M2 addD (Mc (.int 3)) (Mcall 2 φ__law_next (Mcons (Mvar 0) (Mcons (Mc (.int 3)) Mnil)))) Mnil))) (Sseq (Sasg (.nm 5) (Mnew (Mdisp Mnil))) (Sseq (Sfor (Irng1 (Mvar 2)) (.nm 6) (Sif (Mand (M2 leD (Mvar 4) (Mvar 1)) (M2 ltD (Mvar 6) (Mvar 4))) (Sexp (Mlm1 appG (Mvar 5) (M1 tupG (Mfrz (MN1 sortG (Mfrz (MN2 catN (Mfrz (Mdisp (Mcons (M2 idxD (Mvar 3) (Mvar 6)) (Mcons (M2 idxD (Mvar 3) (M2 modD (M2 addD (Mvar 6) (Mc (.int 1))) (Mvar 4))) Mnil)))) (Mfrz (MN1 listG (Mcall 3 φ__law_part (Mcons (Mvar 0) (Mcons (Msl (Mvar 3) (Mso (Mvar 4)) Mno) (Mcons (Mc (.int 3)) Mnil))))))))))))) (Sexp (Mlm1 appG (Mvar 5) (Mcall 3 φ__law_part (Mcons (Mvar 0) (Mcons (Mfrz (Nrng (Mvar 1))) (Mcons (M2 addD (Mc (.int 1)) (Mcall 2 φ__law_next (Mcons (Mvar 0) (Mcons (Mc (.int 3)) Mnil)))) Mnil)))))))) (Sret (Mtup (Mcons (Mvar 1) (Mcons (M1 tupG (Mfrz (MComp (Irng1 (Mvar 2)) (.nm 6) none (Mlm1 popG (Mvar 5) (Mcall 2 φ__law_next (Mcons (Mvar 0) (Mcons (M1 lenG (Mvar 5)) Mnil)))) [6]))) Mnil)))))))
noncomputable def φ__law_around : Fn := gcF 3 N__law_around.length m__law_around
theorem w__law_around (T : Tp K mg) (hK : K = cf.K) (c__law_next : Cal P w K mg base cf 1 "_law_next" 2 φ__law_next) (c__law_part : Cal P w K mg base cf 2 "_law_part" 3 φ__law_part) (c__law_shuffled : Cal P w K mg base cf 2 "_law_shuffled" 2 φ__law_shuffled) {f : Addr} : Walked P w K mg base cf 2 f "_law_around" st__law_around N__law_around m__law_around := by
  intro cdv A outer s H E hr
  have hu := hr.units
  have tk : Takes (cxOf (L2.CX P w) P w K mg base N__law_around "_law_around" (defScope st__law_around) f cdv A outer s H E) (fun c d _ H => E c d H) := takes_of rfl rfl rfl rfl
  exact (b_cons (s_par 3 4 rfl sc__law_around.nd (a_cons (e_call c__law_shuffled hr tk (a_cons (e_var 0) (a_cons (e_var 1) a_nil))) (a_cons (e_bin (o_add hK) e_int (e_call c__law_next hr tk (a_cons (e_var 0) (a_cons e_int a_nil)))) a_nil)))
    (b_cons (s_set 5 sc__law_around.nd (e_new (n_disp a_nil)))
    (b_cons (s_for (passes_of rfl) rfl (i_rng1 T.b_range (e_var 2)) (g_nm 6 sc__law_around.nd) (b_one (s_if ((w_and (t_cmp o_le (e_var 4) (e_var 1)) (w_and1 (t_cmp o_lt (e_var 6) (e_var 4))))).pt (b_one (s_exp (e_app (e_var 5) (e_bT (c_tuple hK) T.b_tuple boot_tuple (e_frz (n_b1 (c_sorted hK) T.b_sorted boot_sorted (e_frz (n_cat (e_frz (n_disp (a_cons (e_idx hK (e_var 3) (e_var 6)) (a_cons (e_idx hK (e_var 3) (e_bin o_mod (e_bin (o_add hK) (e_var 6) e_int) (e_var 4))) a_nil)))) (e_frz (n_bT (c_list hK) T.b_list boot_list (e_call c__law_part hr tk (a_cons (e_var 0) (a_cons (e_sl hK (e_var 3) (p_so (e_var 4)) p_no) (a_cons e_int a_nil)))))))))))))) (b_one (s_exp (e_app (e_var 5) (e_call c__law_part hr tk (a_cons (e_var 0) (a_cons (e_frz (n_listRng rfl T.b_list T.b_range (e_var 1))) (a_cons (e_bin (o_add hK) e_int (e_call c__law_next hr tk (a_cons (e_var 0) (a_cons e_int a_nil)))) a_nil))))))))))
    (b_one (s_ret (e_tup (a_cons (e_var 1) (a_cons (e_bT (c_tuple hK) T.b_tuple boot_tuple (e_frz (n_comp rfl sc__law_around.nd (i_rng1 T.b_range (e_var 2)) (own := [("_law_k", 6)]) (blkOk_by rfl) (by simp [slotsP, slotsPs]) (fun _ _ _ _ _ => (g_nm 6 sc__law_around.nd)) (fun _ _ _ _ _ => ts_nil) (fun _ _ _ _ _ => (e_pop (e_var 5) (e_call c__law_next hr L2.takes0 (a_cons (e_var 0) (a_cons (e_b1 (c_len hK) T.b_len boot_len (e_var 5)) a_nil)))))))) a_nil))))))))
theorem c__law_around (T : Tp K mg) (hK : K = cf.K) : Cal P w K mg base cf 3 "_law_around" 3 φ__law_around := Cal.gc T.f__law_around sc__law_around fun f => w__law_around T hK (c__law_next T hK) (c__law_part T hK) (c__law_shuffled T hK)
/-! _law_any -/
noncomputable def m__law_any : SD := (Sseq (Spar 3 4 (Mcons (Mcall 2 φ__law_next (Mcons (Mvar 0) (Mcons (Mc (.int 4)) Mnil))) (Mcons (Mnew (Mdisp Mnil)) Mnil))) (Sseq (Sfor (Irng1 (Mvar 2)) (.nm 5) (Sif (Mand (M2 neD (Mvar 4) (Mfrz (Mdisp Mnil))) (M2 eqD (Mcall 2 φ__law_next (Mcons (Mvar 0) (Mcons (Mc (.int 6)) Mnil))) (Mc (.int 0)))) (Sexp (Mlm1 appG (Mvar 4) (Mcall 2 φ__law_one (Mcons (Mvar 0) (Mcons (Mvar 4) Mnil))))) (Sexp (Mlm1 appG (Mvar 4) (Mcall 3 φ__law_part (Mcons (Mvar 0) (Mcons (Mfrz (Nrng (Mvar 1))) (Mcons (Mvar 3) Mnil)))))))) (Sret (Mtup (Mcons (Mvar 1) (Mcons (M1 tupG (Mvar 4)) Mnil))))))
noncomputable def φ__law_any : Fn := gcF 3 N__law_any.length m__law_any
theorem w__law_any (T : Tp K mg) (hK : K = cf.K) (c__law_next : Cal P w K mg base cf 1 "_law_next" 2 φ__law_next) (c__law_one : Cal P w K mg base cf 2 "_law_one" 2 φ__law_one) (c__law_part : Cal P w K mg base cf 2 "_law_part" 3 φ__law_part) {f : Addr} : Walked P w K mg base cf 2 f "_law_any" st__law_any N__law_any m__law_any := by
  intro cdv A outer s H E hr
  have hu := hr.units
  have tk : Takes (cxOf (L2.CX P w) P w K mg base N__law_any "_law_any" (defScope st__law_any) f cdv A outer s H E) (fun c d _ H => E c d H) := takes_of rfl rfl rfl rfl
  exact (b_cons (s_par 3 4 rfl sc__law_any.nd (a_cons (e_call c__law_next hr tk (a_cons (e_var 0) (a_cons e_int a_nil))) (a_cons (e_new (n_disp a_nil)) a_nil)))
    (b_cons (s_for (passes_of rfl) rfl (i_rng1 T.b_range (e_var 2)) (g_nm 5 sc__law_any.nd) (b_one (s_if ((w_and (t_cmp (o_ne hu hK) (e_var 4) (e_frz (n_disp a_nil))) (w_and1 (t_cmp (o_eq hu hK) (e_call c__law_next hr tk (a_cons (e_var 0) (a_cons e_int a_nil))) e_int)))).pt (b_one (s_exp (e_app (e_var 4) (e_call c__law_one hr tk (a_cons (e_var 0) (a_cons (e_var 4) a_nil)))))) (b_one (s_exp (e_app (e_var 4) (e_call c__law_part hr tk (a_cons (e_var 0) (a_cons (e_frz (n_listRng rfl T.b_list T.b_range (e_var 1))) (a_cons (e_var 3) a_nil))))))))))
    (b_one (s_ret (e_tup (a_cons (e_var 1) (a_cons (e_bT (c_tuple hK) T.b_tuple boot_tuple (e_var 4)) a_nil)))))))
theorem c__law_any (T : Tp K mg) (hK : K = cf.K) : Cal P w K mg base cf 3 "_law_any" 3 φ__law_any := Cal.gc T.f__law_any sc__law_any fun f => w__law_any T hK (c__law_next T hK) (c__law_one T hK) (c__law_part T hK)
/-! _law_table -/
noncomputable def m__law_table : SD := (Sseq (Spar 1 2 (Mcons (M2 addD (Mc (.int 1)) (Mcall 2 φ__law_next (Mcons (Mvar 0) (Mcons (Mvar 1) Mnil)))) (Mcons (Mcall 2 φ__law_next (Mcons (Mvar 0) (Mcons (M2 addD (Mvar 2) (Mc (.int 1))) Mnil))) Mnil))) (Sseq (Sasg (.nm 3) (Mcall 2 φ__law_next (Mcons (Mvar 0) (Mcons (Mc (.int 5)) Mnil)))) (Sseq (Sif (M2 ltD (Mvar 3) (Mc (.int 2))) (Sret (Mcall 3 φ__law_intervals (Mcons (Mvar 0) (Mcons (Mvar 1) (Mcons (Mvar 2) Mnil))))) Snx) (Sret (Mif (M2 eqD (Mvar 3) (Mc (.int 2))) (Mcall 3 φ__law_around (Mcons (Mvar 0) (Mcons (Mvar 1) (Mcons (Mvar 2) Mnil)))) (Mcall 3 φ__law_any (Mcons (Mvar 0) (Mcons (Mvar 1) (Mcons (Mvar 2) Mnil)))))))))
noncomputable def φ__law_table : Fn := gcF 3 N__law_table.length m__law_table
theorem w__law_table (T : Tp K mg) (hK : K = cf.K) (c__law_any : Cal P w K mg base cf 3 "_law_any" 3 φ__law_any) (c__law_around : Cal P w K mg base cf 3 "_law_around" 3 φ__law_around) (c__law_intervals : Cal P w K mg base cf 3 "_law_intervals" 3 φ__law_intervals) (c__law_next : Cal P w K mg base cf 1 "_law_next" 2 φ__law_next) {f : Addr} : Walked P w K mg base cf 3 f "_law_table" st__law_table N__law_table m__law_table := by
  intro cdv A outer s H E hr
  have hu := hr.units
  have tk : Takes (cxOf (L2.CX P w) P w K mg base N__law_table "_law_table" (defScope st__law_table) f cdv A outer s H E) (fun c d _ H => E c d H) := takes_of rfl rfl rfl rfl
  exact (b_cons (s_par 1 2 rfl sc__law_table.nd (a_cons (e_bin (o_add hK) e_int (e_call c__law_next hr tk (a_cons (e_var 0) (a_cons (e_var 1) a_nil)))) (a_cons (e_call c__law_next hr tk (a_cons (e_var 0) (a_cons (e_bin (o_add hK) (e_var 2) e_int) a_nil))) a_nil)))
    (b_cons (s_set 3 sc__law_table.nd (e_call c__law_next hr tk (a_cons (e_var 0) (a_cons e_int a_nil))))
    (b_cons (s_if (t_cmp o_lt (e_var 3) e_int) (b_one (s_ret (e_call c__law_intervals hr tk (a_cons (e_var 0) (a_cons (e_var 1) (a_cons (e_var 2) a_nil)))))) b_nil)
    (b_one (s_ret (e_if (t_cmp (o_eq hu hK) (e_var 3) e_int) (e_call c__law_around hr tk (a_cons (e_var 0) (a_cons (e_var 1) (a_cons (e_var 2) a_nil)))) (e_call c__law_any hr tk (a_cons (e_var 0) (a_cons (e_var 1) (a_cons (e_var 2) a_nil))))))))))
theorem c__law_table (T : Tp K mg) (hK : K = cf.K) : Cal P w K mg base cf 4 "_law_table" 3 φ__law_table := Cal.gc T.f__law_table sc__law_table fun f => w__law_table T hK (c__law_any T hK) (c__law_around T hK) (c__law_intervals T hK) (c__law_next T hK)
/-! _law_amount -/
noncomputable def m__law_amount : SD := (Sret (M2 idxD (Mfrz (Mdisp (Mcons (Mc (.int 0)) (Mcons (Mc (.int 1)) (Mcons (Mcall 2 φ__law_next (Mcons (Mvar 0) (Mcons (Mc (.int 4)) Mnil))) (Mcons (Mcall 2 φ__law_next (Mcons (Mvar 0) (Mcons (Mc (.int 12)) Mnil))) (Mcons (Mcall 2 φ__law_next (Mcons (Mvar 0) (Mcons (M2 addD (M2 powD (Mc (.int 10)) (Mc (.int 12))) (Mc (.int 1))) Mnil))) (Mcons (M2 powD (Mc (.int 10)) (Mc (.int 12))) Mnil)))))))) (Mcall 2 φ__law_next (Mcons (Mvar 0) (Mcons (Mc (.int 6)) Mnil)))))
noncomputable def φ__law_amount : Fn := gcF 1 N__law_amount.length m__law_amount
theorem w__law_amount (T : Tp K mg) (hK : K = cf.K) (c__law_next : Cal P w K mg base cf 1 "_law_next" 2 φ__law_next) {f : Addr} : Walked P w K mg base cf 1 f "_law_amount" st__law_amount N__law_amount m__law_amount := by
  intro cdv A outer s H E hr
  have hu := hr.units
  have tk : Takes (cxOf (L2.CX P w) P w K mg base N__law_amount "_law_amount" (defScope st__law_amount) f cdv A outer s H E) (fun c d _ H => E c d H) := takes_of rfl rfl rfl rfl
  exact (b_one (s_ret (e_idx hK (e_frz (n_disp (a_cons e_int (a_cons e_int (a_cons (e_call c__law_next hr tk (a_cons (e_var 0) (a_cons e_int a_nil))) (a_cons (e_call c__law_next hr tk (a_cons (e_var 0) (a_cons e_int a_nil))) (a_cons (e_call c__law_next hr tk (a_cons (e_var 0) (a_cons (e_bin (o_add hK) (e_bin o_pow e_int e_int) e_int) a_nil))) (a_cons (e_bin o_pow e_int e_int) a_nil)))))))) (e_call c__law_next hr tk (a_cons (e_var 0) (a_cons e_int a_nil))))))
theorem c__law_amount (T : Tp K mg) (hK : K = cf.K) : Cal P w K mg base cf 2 "_law_amount" 1 φ__law_amount := Cal.gc T.f__law_amount sc__law_amount fun f => w__law_amount T hK (c__law_next T hK)
/-! _law_data -/
noncomputable def m__law_data : SD := (Sseq (Sasg (.nm 2) (M2 idxD (Mfrz (Mdisp (Mcons (Mc (.int 3)) (Mcons (Mc (.int 12)) (Mcons (Mc (.int 0)) Mnil))))) (Mcall 2 φ__law_next (Mcons (Mvar 0) (Mcons (Mc (.int 3)) Mnil))))) (Sseq (Sasg (.nm 3) (M2 addD (M2 idxD (Mvar 1) (Mc (.int 0))) (M1 lenG (M2 idxD (Mvar 1) (Mc (.int 1)))))) (Sseq (Sasg (.nm 4) (Mfrz (MComp (Irng1 (Mvar 3)) (.nm 5) none (Mcall 2 φ__law_next (Mcons (Mvar 0) (Mcons (M2 addD (Mvar 2) (Mc (.int 1))) Mnil))) [5]))) (Sseq (Sif (M2 eqD (Mvar 2) (Mc (.int 0))) (Sasg (.nm 4) (Mfrz (MComp (Irng1 (Mvar 3)) (.nm 5) none (Mcall 1 φ__law_amount (Mcons (Mvar 0) Mnil)) [5]))) Snx) (Sret (Mtup (Mcons (M1 tupG (Mfrz (Nsl (Mvar 4) (Mso (M2 idxD (Mvar 1) (Mc (.int 0)))) Mno))) (Mcons (M1 tupG (Mfrz (Nsl (Mvar 4) Mno (Mso (M2 idxD (Mvar 1) (Mc (.int 0))))))) Mnil))))))))
noncomputable def φ__law_data : Fn := gcF 2 N__law_data.length m__law_data
theorem w__law_data (T : Tp K mg) (hK : K = cf.K) (c__law_amount : Cal P w K mg base cf 2 "_law_amount" 1 φ__law_amount) (c__law_next : Cal P w K mg base cf 1 "_law_next" 2 φ__law_next) {f : Addr} : Walked P w K mg base cf 2 f "_law_data" st__law_data N__law_data m__law_data := by
  intro cdv A outer s H E hr
  have hu := hr.units
  have tk : Takes (cxOf (L2.CX P w) P w K mg base N__law_data "_law_data" (defScope st__law_data) f cdv A outer s H E) (fun c d _ H => E c d H) := takes_of rfl rfl rfl rfl
  exact (b_cons (s_set 2 sc__law_data.nd (e_idx hK (e_frz (n_disp (a_cons e_int (a_cons e_int (a_cons e_int a_nil))))) (e_call c__law_next hr tk (a_cons (e_var 0) (a_cons e_int a_nil)))))
    (b_cons (s_set 3 sc__law_data.nd (e_bin (o_add hK) (e_idx hK (e_var 1) e_int) (e_b1 (c_len hK) T.b_len boot_len (e_idx hK (e_var 1) e_int))))
    (b_cons (s_lcF 4 rfl sc__law_data.nd (i_rng1 T.b_range (e_var 3)) (own := [("_law_k", 5)]) (blkOk_by rfl) (by simp [slotsP, slotsPs]) (fun _ _ _ _ _ => (g_nm 5 sc__law_data.nd)) (fun _ _ _ _ _ => ts_nil) (fun _ _ _ _ _ => (e_call c__law_next hr L2.takes0 (a_cons (e_var 0) (a_cons (e_bin (o_add hK) (e_var 2) e_int) a_nil)))))
    (b_cons (s_if (t_cmp (o_eq hu hK) (e_var 2) e_int) (b_one (s_lcF 4 rfl sc__law_data.nd (i_rng1 T.b_range (e_var 3)) (own := [("_law_k", 5)]) (blkOk_by rfl) (by simp [slotsP, slotsPs]) (fun _ _ _ _ _ => (g_nm 5 sc__law_data.nd)) (fun _ _ _ _ _ => ts_nil) (fun _ _ _ _ _ => (e_call c__law_amount hr L2.takes0 (a_cons (e_var 0) a_nil))))) b_nil)
    (b_one (s_ret (e_tup (a_cons (e_bT (c_tuple hK) T.b_tuple boot_tuple (e_frz (n_sl hK (e_var 4) (p_so (e_idx hK (e_var 1) e_int)) p_no))) (a_cons (e_bT (c_tuple hK) T.b_tuple boot_tuple (e_frz (n_sl hK (e_var 4) p_no (p_so (e_idx hK (e_var 1) e_int))))) a_nil)))))))))
theorem c__law_data (T : Tp K mg) (hK : K = cf.K) : Cal P w K mg base cf 3 "_law_data" 2 φ__law_data := Cal.gc T.f__law_data sc__law_data fun f => w__law_data T hK (c__law_amount T hK) (c__law_next T hK)
/-! _law_text -/
noncomputable def m__law_text : SD := (Sseq (Sasg (.nm 3) (Mnew (MComp (Mit (Mvar 2)) (.nm 6) none (M2 addD (Mc (.str "demand ")) (M1 strG (Mvar 6))) [6]))) (Sseq (Sfor (Izip (M2 idxD (Mvar 0) (Mc (.int 1))) (Mvar 1)) (.tp [(.nm 4), (.nm 5)]) (Sexp (Mlm1 appG (Mvar 3) (Mm1 joinG (Mc (.str " ")) (Mfrz (MN2 catN (Mfrz (Mdisp (Mcons (Mc (.str "offer")) (Mcons (M1 strG (Mvar 5)) Mnil)))) (Mfrz (MComp (Mit (Mvar 4)) (.nm 7) none (M1 strG (Mvar 7)) [7])))))))) (Sret (Mm1 joinG (Mc (.str "")) (Mfrz (MComp (Mit (Mvar 3)) (.nm 8) none (M2 addD (Mvar 8) (Mc (.str "\n"))) [8]))))))
noncomputable def φ__law_text : Fn := gcF 3 N__law_text.length m__law_text
theorem w__law_text (T : Tp K mg) (hK : K = cf.K)  {f : Addr} : Walked P w K mg base cf 0 f "_law_text" st__law_text N__law_text m__law_text := by
  intro cdv A outer s H E hr
  have hu := hr.units
  have tk : Takes (cxOf (L2.CX P w) P w K mg base N__law_text "_law_text" (defScope st__law_text) f cdv A outer s H E) (fun c d _ H => E c d H) := takes_of rfl rfl rfl rfl
  exact (b_cons (s_lcN 3 rfl sc__law_text.nd (i_val hK (e_var 2)) (own := [("_law_own", 6)]) (blkOk_by rfl) (by simp [slotsP, slotsPs]) (fun _ _ _ _ _ => (g_nm 6 sc__law_text.nd)) (fun _ _ _ _ _ => ts_nil) (fun _ _ _ _ _ => (e_bin (o_add hK) e_str (e_bT c_str T.b_str boot_str (e_var 6)))))
    (b_cons (s_for (passes_of rfl) rfl (i_zip hK T.b_zip (e_idx hK (e_var 0) e_int) (e_var 1)) (g_tp hK rfl (gs_cons (g_nm 4 sc__law_text.nd) (gs_cons (g_nm 5 sc__law_text.nd) gs_nil))) (b_one (s_exp (e_app (e_var 3) (e_join hK e_str (e_frz (n_cat (e_frz (n_disp (a_cons e_str (a_cons (e_bT c_str T.b_str boot_str (e_var 5)) a_nil)))) (e_frz (n_comp rfl sc__law_text.nd (i_val hK (e_var 4)) (own := [("_law_demand", 7)]) (blkOk_by rfl) (by simp [slotsP, slotsPs]) (fun _ _ _ _ _ => (g_nm 7 sc__law_text.nd)) (fun _ _ _ _ _ => ts_nil) (fun _ _ _ _ _ => (e_bT c_str T.b_str boot_str (e_var 7))))))))))))
    (b_one (s_ret (e_join hK e_str (e_frz (n_comp rfl sc__law_text.nd (i_val hK (e_var 3)) (own := [("_law_line", 8)]) (blkOk_by rfl) (by simp [slotsP, slotsPs]) (fun _ _ _ _ _ => (g_nm 8 sc__law_text.nd)) (fun _ _ _ _ _ => ts_nil) (fun _ _ _ _ _ => (e_bin (o_add hK) (e_var 8) e_str)))))))))
theorem c__law_text (T : Tp K mg) (hK : K = cf.K) : Cal P w K mg base cf 1 "_law_text" 3 φ__law_text := Cal.gc T.f__law_text sc__law_text fun f => w__law_text T hK 
/-! law -/
noncomputable def m_law : SD := (Sseq (Sasg (.nm 1) (Mcall 1 φ__law_deck (Mcons (Mvar 0) Mnil))) (Sseq (Sfor (Irng1 (Mc (.int 8))) (.nm 2) (Sseq (Sasg (.nm 3) (Mcall 3 φ__law_table (Mcons (Mvar 1) (Mcons (Mc (.int 10)) (Mcons (Mc (.int 10)) Mnil))))) (Sseq (Sasg (.tp [(.nm 4), (.nm 5)]) (Mcall 2 φ__law_data (Mcons (Mvar 1) (Mcons (Mvar 3) Mnil)))) (Sseq (Sasg (.nm 6) (Mcall 2 φ__law_shuffled (Mcons (Mvar 1) (Mcons (M2 addD (Mc (.int 1)) (Mcall 2 φ__law_next (Mcons (Mvar 1) (Mcons (Mc (.int 10)) Mnil)))) Mnil)))) (Sseq (Spar 7 8 (Mcons (M1 reprG (Mfrz (Mdisp (Mcons (Mvar 3) (Mcons (Mvar 4) (Mcons (Mvar 5) (Mcons (Mvar 6) Mnil))))))) (Mcons (Mcall 3 φ__law_text (Mcons (Mvar 3) (Mcons (Mvar 4) (Mcons (Mvar 5) Mnil)))) Mnil))) (Sseq (Sasg (.nm 9) (Mm1 joinG (Mc (.str ">")) (Mfrz (MComp (Mit (Mvar 6)) (.nm 11) none (M1 strG (Mvar 11)) [11])))) (Sseq (Sfor (Irng1 (Mc (.int 2))) (.nm 10) (Sseq (Sif (Mnot (Mcall 2 φ__law_same (Mcons (Mtup (Mcons (Mcall 3 φ_format_data (Mcons (Mvar 3) (Mcons (Mvar 4) (Mcons (Mvar 5) Mnil)))) (Mcons (Mcall 1 φ_format_order (Mcons (Mvar 6) Mnil)) Mnil))) (Mcons (Mtup (Mcons (Mvar 8) (Mcons (Mvar 9) Mnil))) Mnil)))) (Sret (Mc (.bl false))) Snx) (Sif (Mnot (Mcall 2 φ__law_same (Mcons (Mtup (Mcons (Mcall 1 φ_parse_data (Mcons (Mvar 8) Mnil)) (Mcons (Mcall 1 φ_parse_order (Mcons (Mvar 9) Mnil)) Mnil))) (Mcons (Mtup (Mcons (Mtup (Mcons (Mvar 3) (Mcons (Mvar 4) (Mcons (Mvar 5) Mnil)))) (Mcons (Mvar 6) Mnil))) Mnil)))) (Sret (Mc (.bl false))) Snx))) (Sif (M2 neD (M1 reprG (Mfrz (Mdisp (Mcons (Mvar 3) (Mcons (Mvar 4) (Mcons (Mvar 5) (Mcons (Mvar 6) Mnil))))))) (Mvar 7)) (Sret (Mc (.bl false))) Snx)))))))) (Sret (Mc (.bl true)))))
noncomputable def φ_law : Fn := gcF 1 N_law.length m_law
theorem w_law (T : Tp K mg) (hK : K = cf.K) (c__law_data : Cal P w K mg base cf 3 "_law_data" 2 φ__law_data) (c__law_deck : Cal P w K mg base cf 1 "_law_deck" 1 φ__law_deck) (c__law_next : Cal P w K mg base cf 1 "_law_next" 2 φ__law_next) (c__law_same : Cal P w K mg base cf 8 "_law_same" 2 φ__law_same) (c__law_shuffled : Cal P w K mg base cf 2 "_law_shuffled" 2 φ__law_shuffled) (c__law_table : Cal P w K mg base cf 4 "_law_table" 3 φ__law_table) (c__law_text : Cal P w K mg base cf 1 "_law_text" 3 φ__law_text) (c_format_data : Cal P w K mg base cf 1 "format_data" 3 φ_format_data) (c_format_order : Cal P w K mg base cf 1 "format_order" 1 φ_format_order) (c_parse_data : Cal P w K mg base cf 4 "parse_data" 1 φ_parse_data) (c_parse_order : Cal P w K mg base cf 3 "parse_order" 1 φ_parse_order) {f : Addr} : WalkedG P w K mg base cf 8 f "law" st_law N_law m_law := by
  intro cdv A outer s H E hr hgu
  have hu := hr.units
  have tk : Takes (cxOf (L2.CX P w) P w K mg base N_law "law" (defScope st_law) f cdv A outer s H E) (fun c d _ H => E c d H) := takes_of rfl rfl rfl rfl
  exact (b_cons (s_set 1 sc_law.nd (e_call c__law_deck hr tk (a_cons (e_var 0) a_nil)))
    (b_cons (s_for (passes_of rfl) rfl (i_rng1 T.b_range e_int) (g_nm 2 sc_law.nd) (b_cons (s_set 3 sc_law.nd (e_call c__law_table hr tk (a_cons (e_var 1) (a_cons e_int (a_cons e_int a_nil)))))
    (b_cons (s_asg (e_call c__law_data hr tk (a_cons (e_var 1) (a_cons (e_var 3) a_nil))) (g_tp hK rfl (gs_cons (g_nm 4 sc_law.nd) (gs_cons (g_nm 5 sc_law.nd) gs_nil))))
    (b_cons (s_set 6 sc_law.nd (e_call c__law_shuffled hr tk (a_cons (e_var 1) (a_cons (e_bin (o_add hK) e_int (e_call c__law_next hr tk (a_cons (e_var 1) (a_cons e_int a_nil)))) a_nil))))
    (b_cons (s_par 7 8 rfl sc_law.nd (a_cons (e_b1 (c_repr hK hgu hu) T.b_repr boot_repr (e_frz (n_disp (a_cons (e_var 3) (a_cons (e_var 4) (a_cons (e_var 5) (a_cons (e_var 6) a_nil))))))) (a_cons (e_call c__law_text hr tk (a_cons (e_var 3) (a_cons (e_var 4) (a_cons (e_var 5) a_nil)))) a_nil)))
    (b_cons (s_set 9 sc_law.nd (e_join hK e_str (e_frz (n_comp rfl sc_law.nd (i_val hK (e_var 6)) (own := [("_law_demand", 11)]) (blkOk_by rfl) (by simp [slotsP, slotsPs]) (fun _ _ _ _ _ => (g_nm 11 sc_law.nd)) (fun _ _ _ _ _ => ts_nil) (fun _ _ _ _ _ => (e_bT c_str T.b_str boot_str (e_var 11)))))))
    (b_cons (s_for (passes_of rfl) rfl (i_rng1 T.b_range e_int) (g_nm 10 sc_law.nd) (b_cons (s_if (t_not (t_val (e_call c__law_same hr tk (a_cons (e_tup (a_cons (e_call c_format_data hr tk (a_cons (e_var 3) (a_cons (e_var 4) (a_cons (e_var 5) a_nil)))) (a_cons (e_call c_format_order hr tk (a_cons (e_var 6) a_nil)) a_nil))) (a_cons (e_tup (a_cons (e_var 8) (a_cons (e_var 9) a_nil))) a_nil))))) (b_one (s_ret e_bl)) b_nil)
    (b_one (s_if (t_not (t_val (e_call c__law_same hr tk (a_cons (e_tup (a_cons (e_call c_parse_data hr tk (a_cons (e_var 8) a_nil)) (a_cons (e_call c_parse_order hr tk (a_cons (e_var 9) a_nil)) a_nil))) (a_cons (e_tup (a_cons (e_tup (a_cons (e_var 3) (a_cons (e_var 4) (a_cons (e_var 5) a_nil)))) (a_cons (e_var 6) a_nil))) a_nil))))) (b_one (s_ret e_bl)) b_nil))))
    (b_one (s_if (t_cmp (o_ne hu hK) (e_b1 (c_repr hK hgu hu) T.b_repr boot_repr (e_frz (n_disp (a_cons (e_var 3) (a_cons (e_var 4) (a_cons (e_var 5) (a_cons (e_var 6) a_nil))))))) (e_var 7)) (b_one (s_ret e_bl)) b_nil)))))))))
    (b_one (s_ret e_bl))))
end PB.k66

set_option Elab.async false
set_option linter.all false
set_option maxRecDepth 100000
set_option maxHeartbeats 4000000

namespace PB.k66
open PySem PySem.Spec PyProof.Rows L2 PB
/-- an amount or an index as it is written -/
def Fig (x : Int) : Prop := 0 ≤ x ∧ x < 10 ^ 13
theorem dig_in {c : Nat} (h : 48 ≤ c ∧ c ≤ 57) {S : List O} : inD (.str ⟨#[c]⟩) (.str "0123456789") S = some (.bl true) := by
  have e : ("0123456789" : Str).cps.toList = [48, 49, 50, 51, 52, 53, 54, 55, 56, 57] := by decide +kernel
  show ((match ([c] : List Nat) with | [c] => some (decide (c ∈ ("0123456789" : Str).cps.toList)) | _ => none).map D.bl) = _
  dsimp only
  rw [e, decide_eq_true]
  · rfl
  · have : c = 48 ∨ c = 49 ∨ c = 50 ∨ c = 51 ∨ c = 52 ∨ c = 53 ∨ c = 54 ∨ c = 55 ∨ c = 56 ∨ c = 57 := by omega
    rcases this with h | h | h | h | h | h | h | h | h | h <;> subst h <;> decide
theorem pint_ok {x : Int} (h : Fig x) {d : Dk} {r : List O} (hr : Rok r) : φ_parse_integer [.str (num x)] (d.S r) = .ok (.int x) (d.S r) := by
  obtain ⟨l1, l2⟩ := num_len h.1 h.2
  refine gc_rt0 rfl ?_ hr rfl
  unfold m_parse_integer
  generalize hS : d.S r = S
  have a1 : Mchain leD leD (Mc (.int 1)) (M1 lenG (Mvar 0)) (Mc (.int 13)) [some (.str (num x)), none] S = .ok (.bl true) S := by
    have e1 : leD (.int 1) (.int (num x).length) S = some (.bl true) := by show some (D.bl (decide ((1 : Int) ≤ (num x).length))) = _; rw [decide_eq_true (by omega)]
    have e2 : leD (.int (num x).length) (.int 13) S = some (.bl true) := by show some (D.bl (decide (((num x).length : Int) ≤ 13))) = _; rw [decide_eq_true (by omega)]
    simp only [Sseq, Sasg, Sif, Sret, Srtn, Sexp, Snx, Spar, Ssub, Sfor, Mvar, Mc, M1, M2, MN1, MN2, Mcons, Mnil, Mtup, Mfrz, Mnew, Mdisp, Mnot, Mand, Mor, Mif, Mchain, Mcall, Mlm1, Mm1, Nm1, Msl, Nsl, Mno, Mso, Misi, Misi2, Mfs, Mjs, Mfmt, Irng1, Irng2, Mit, Izip, Ienum, Nrng, MComp, wipeD, setP, setPs, Rs.bind_ok, Rs.bind_no, Rs.s_ok, Rs.s_no, Rs.nx_ok, Rs.nx_no, Ss.sq_nx, Ss.sq_rt, Ss.sq_no, optRs_some, optRs_none, optRl_some, optRl_none, optRi_some, Option.bind_some, Option.map_some, Option.bind_none, Option.map_none, List.getElem?_cons_zero, List.getElem?_cons_succ, List.set_cons_zero, List.set_cons_succ, List.length_cons, List.length_nil, Nat.zero_add, Nat.reduceAdd, Nat.reduceLeDiff, Nat.reduceSub, Nat.reduceEqDiff, if_true, if_false, ↓reduceIte, startD, List.map_cons, List.map_nil, List.cons_append, List.nil_append, List.replicate_succ, List.replicate_zero, Bool.not_true, Bool.not_false, Gd, len_str (z := num x) (S := S) (by omega), e1, e2]
  have a2 : M1 allG (Mfrz (MComp (Mit (Mvar 0)) (.nm 1) none (M2 inD (Mvar 1) (Mc (.str "0123456789"))) [1])) [some (.str (num x)), none] S = .ok (.bl true) S := by
    have hc : MComp (Mit (Mvar 0)) (.nm 1) none (M2 inD (Mvar 1) (Mc (.str "0123456789"))) [1] [some (.str (num x)), none] S = .ok (((num x).cps.toList.map fun _ => true).map .bl) S := by
      have hi : iterD S (.str (num x)) = some (none, (num x).cps.toList.map fun c => .str ⟨#[c]⟩) := by
        show (if (num x).length ≤ sizeLine then _ else none) = _
        rw [if_pos (by rw [sizeLine_eq]; omega)]
      unfold MComp
      simp only [Sseq, Sasg, Sif, Sret, Srtn, Sexp, Snx, Spar, Ssub, Sfor, Mvar, Mc, M1, M2, MN1, MN2, Mcons, Mnil, Mtup, Mfrz, Mnew, Mdisp, Mnot, Mand, Mor, Mif, Mchain, Mcall, Mlm1, Mm1, Nm1, Msl, Nsl, Mno, Mso, Misi, Misi2, Mfs, Mjs, Mfmt, Irng1, Irng2, Mit, Izip, Ienum, Nrng, MComp, wipeD, setP, setPs, Rs.bind_ok, Rs.bind_no, Rs.s_ok, Rs.s_no, Rs.nx_ok, Rs.nx_no, Ss.sq_nx, Ss.sq_rt, Ss.sq_no, optRs_some, optRs_none, optRl_some, optRl_none, optRi_some, Option.bind_some, Option.map_some, Option.bind_none, Option.map_none, List.getElem?_cons_zero, List.getElem?_cons_succ, List.set_cons_zero, List.set_cons_succ, List.length_cons, List.length_nil, Nat.zero_add, Nat.reduceAdd, Nat.reduceLeDiff, Nat.reduceSub, Nat.reduceEqDiff, if_true, if_false, ↓reduceIte, startD, List.map_cons, List.map_nil, List.cons_append, List.nil_append, List.replicate_succ, List.replicate_zero, Bool.not_true, Bool.not_false, Gd, hi]
      rw [List.map_map]
      exact comp_pure _ fun c hc => ⟨_, rfl, M2_eq rfl rfl (dig_in (num_dig h.1 c hc))⟩
    rw [all_true (frz_eq hc)]
    simp
  have a3 : Sif (Mor (Mnot (Mchain leD leD (Mc (.int 1)) (M1 lenG (Mvar 0)) (Mc (.int 13)))) (Mnot (M1 allG (Mfrz (MComp (Mit (Mvar 0)) (.nm 1) none (M2 inD (Mvar 1) (Mc (.str "0123456789"))) [1]))))) (Sret (Mc .non)) Snx [some (.str (num x)), none] S = .nx [some (.str (num x)), none] S :=
    (if_f ((or_f (not_eq a1)).trans (not_eq a2))).trans rfl
  refine (show Sseq _ _ _ _ = _ from seq_nx a3).trans (ret_eq ?_)
  have a4 : M1 intG (Mvar 0) [some (.str (num x)), none] S = .ok (.int x) S := M1_eq (x := .str (num x)) rfl (by
    show (if (num x).length ≤ 640 then (intText? (num x)).map D.int else none) = _
    rw [if_pos (by omega), num_int h.1 h.2]
    rfl)
  have z0 : ("0" : Str) = ⟨#[48]⟩ := by decide +kernel
  have zok : PyData.strOk ("0" : Str) = true := by decide +kernel
  cases hh : (num x).cps.toList with
  | nil =>
    have : (num x).length = 0 := by rw [TL.len_tl]; unfold TL.tl; rw [hh]; rfl
    omega
  | cons c ys =>
    have hcd := num_dig h.1 c (by unfold TL.tl; rw [hh]; simp)
    have e1 := M2_eq (g := eqD) (b := Mc (.str "0")) (M2_eq (a := Mvar 0) (b := Mc (.int 0)) (env := [some (.str (num x)), none]) (S := S) rfl rfl (sub_1 hh (by omega))) rfl (eqD_str (ok_tl (z := ⟨#[c]⟩) fun k hk => by simp [TL.tl] at hk; omega) zok)
    by_cases hc : c = 48
    · subst hc
      have hx : x.toNat = 0 := numL_head (r := ys) (by rw [← num_tl h.1]; exact hh)
      have hx0 : x = 0 := by have := h.1; omega
      have e2 : (num x == ("0" : Str)) = true := by subst hx0; decide +kernel
      have e3 := M2_eq (g := neD) (a := Mvar 0) (b := Mc (.str "0")) (env := [some (.str (num x)), none]) (S := S) rfl rfl (neD_str (num_ok h.1) zok)
      rw [e2] at e3
      rw [z0] at e1
      rw [show ((⟨#[48]⟩ : Str) == ⟨#[48]⟩) = true by decide] at e1
      rw [z0] at e3
      refine (if_fE ?_).trans a4
      rw [← z0] at e1 e3
      exact (and_t e1).trans e3
    · have e2 : ((⟨#[c]⟩ : Str) == ("0" : Str)) = false := by
        rw [z0]
        simp [hc]
      rw [e2] at e1
      exact (if_fE (and_f e1)).trans a4
theorem tup_eq {m : EDs} {env : DEnv} {S S1 : List O} {ds : List D} (h : m env S = .ok ds S1) (hl : ds.length ≤ 1000) : Mtup m env S = .ok (.tup ds) S1 := by
  unfold Mtup
  simp only [h, Rs.bind_ok]
  exact if_pos hl
theorem none_in {xs : List Int} {S : List O} : inD .non (.tup (xs.map .int)) S = some (.bl false) := by
  show ((if (true && (xs.map D.int).all flatD) = true then some ((xs.map D.int).any fun z => eqF z .non) else none).map D.bl) = _
  have e1 : (xs.map D.int).all flatD = true := by simp [flatD]
  have e2 : (xs.map D.int).any (fun z => eqF z .non) = false := by simp [eqF]
  rw [e1, e2]
  rfl
theorem pints_ok {xs : List Int} (h : ∀ x ∈ xs, Fig x) {d : Dk} {r : List O} (hr : Rok r) {v : D} (hv : v = .lst (xs.map fun x => .str (num x))) : φ_parse_integers [v] (d.S r) = .ok (.tup (xs.map .int)) (d.S r) := by
  subst hv
  refine gc_rt0 rfl ?_ hr (by unfold plain; exact plain_ints xs)
  unfold m_parse_integers
  have hc : MComp (Mit (Mvar 0)) (.nm 2) none (Mcall 1 φ_parse_integer (Mcons (Mvar 2) Mnil)) [2] [some (.lst (xs.map fun x => .str (num x))), none, none] (d.S r) = .ok (xs.map .int) (d.S r) := by
    exact comp_pure (p := .nm 2) xs fun x hx => ⟨_, rfl, call_eq (args_cons rfl rfl) rfl (pint_ok (h x hx) hr)⟩
  refine (show Sseq _ _ _ _ = _ from seq_nx (asg_eq (M1_eq (g := tupG) (frz_eq hc) rfl))).trans (ret_eq ?_)
  exact (if_fE (M2_eq (g := inD) (a := Mc .non) (b := Mvar 1) rfl rfl none_in)).trans rfl
theorem chk_ok {z : Str} {d : Dk} {r : List O} (hr : Rok r) : φ_check_string [.str z] (d.S r) = .ok .non (d.S r) := by
  refine gc_nx0 (env := [some (.str z)]) rfl ?_ hr
  unfold m_check_string
  have e : kitB "str" "str" = some true := by decide +kernel
  have h : Misi (Mvar 0) "str" [some (.str z)] (d.S r) = .ok (.bl true) (d.S r) := by
    simp only [Sseq, Sasg, Sif, Sret, Srtn, Sexp, Snx, Spar, Ssub, Sfor, Mvar, Mc, M1, M2, MN1, MN2, Mcons, Mnil, Mtup, Mfrz, Mnew, Mdisp, Mnot, Mand, Mor, Mif, Mchain, Mcall, Mlm1, Mm1, Nm1, Msl, Nsl, Mno, Mso, Misi, Misi2, Mfs, Mjs, Mfmt, Irng1, Irng2, Mit, Izip, Ienum, Nrng, MComp, wipeD, setP, setPs, Rs.bind_ok, Rs.bind_no, Rs.s_ok, Rs.s_no, Rs.nx_ok, Rs.nx_no, Ss.sq_nx, Ss.sq_rt, Ss.sq_no, optRs_some, optRs_none, optRl_some, optRl_none, optRi_some, Option.bind_some, Option.map_some, Option.bind_none, Option.map_none, List.getElem?_cons_zero, List.getElem?_cons_succ, List.set_cons_zero, List.set_cons_succ, List.length_cons, List.length_nil, Nat.zero_add, Nat.reduceAdd, Nat.reduceLeDiff, Nat.reduceSub, Nat.reduceEqDiff, if_true, if_false, ↓reduceIte, startD, List.map_cons, List.map_nil, List.cons_append, List.nil_append, List.replicate_succ, List.replicate_zero, Bool.not_true, Bool.not_false, Gd, tyD, e]
  exact (if_f (not_eq h)).trans rfl

theorem eqD_ints {xs ys : List Int} {S : List O} : eqD (.tup (xs.map .int)) (.tup (ys.map .int)) S = some (.bl (PyData.eqv (toPy (.tup (xs.map .int))) (toPy (.tup (ys.map .int))))) := eqD_ok (x := .tup (xs.map .int)) (y := .tup (ys.map .int)) (okC_intsT xs) (okC_intsT ys)
theorem eq_nilT {xs : List Int} {S : List O} (h : xs ≠ []) : eqD (.tup (xs.map .int)) (.tup []) S = some (.bl false) := by
  rw [show (D.tup [] : D) = .tup (([] : List Int).map .int) from rfl, eqD_ints]
  cases xs with
  | nil => exact (h rfl).elim
  | cons a b => simp [toPy, toPys, PyData.eqv, PyData.eqvAll]
theorem eq_nilN {S : List O} : eqD (.tup []) (.tup []) S = some (.bl true) := by
  rw [show (D.tup [] : D) = .tup (([] : List Int).map .int) from rfl, eqD_ints]
  simp [toPy, toPys, PyData.eqv, PyData.eqvAll]
theorem len_tupI {xs : List Int} {S : List O} : lenG (.tup (xs.map .int)) S = some (.int xs.length) := by
  show some (D.int (xs.map D.int).length) = _
  rw [List.length_map]
theorem gt_f {i j : Int} {S : List O} (h : i ≤ j) : gtD (.int i) (.int j) S = some (.bl false) := by
  show some (D.bl (decide (j < i))) = _
  rw [decide_eq_false (by omega)]
theorem lt_t {i j : Int} {S : List O} (h : i < j) : ltD (.int i) (.int j) S = some (.bl true) := by
  show some (D.bl (decide (i < j))) = _
  rw [decide_eq_true h]
theorem add_tupI {xs ys : List Int} {S : List O} (h : xs.length + ys.length ≤ 1000) : addD (.tup (xs.map .int)) (.tup (ys.map .int)) S = some (.tup ((xs ++ ys).map .int)) := by
  show (if (xs.map D.int).length + (ys.map D.int).length ≤ sizeLine then some (D.tup (xs.map D.int ++ ys.map D.int)) else none) = _
  rw [if_pos (by rw [List.length_map, List.length_map, sizeLine_eq]; omega), List.map_append]
theorem pdem_ok {ps : List Int} {x : Int} (hx : Amt x) (hp : ps.length < 10) {d : Dk} {r : List O} (hr : Rok r) : φ_parse_demand [.tup (ps.map .int), .tup [.int x]] (d.S r) = .ok (.tup ((ps ++ [x]).map .int)) (d.S r) := by
  refine gc_rt0 rfl ?_ hr (by unfold plain; exact plain_ints _)
  unfold m_parse_demand
  generalize d.S r = S
  have i0 : ∀ env S', Mvar 1 env S' = .ok (.tup [.int x]) S' → M2 idxD (Mvar 1) (Mc (.int 0)) env S' = .ok (.int x) S' := fun env S' h => M2_eq h rfl (idx_ints (xs := [x]) (k := 0) rfl)
  have c1 := M2_eq (g := neD) (b := Mc (.int 1)) (M1_eq (g := lenG) (a := Mvar 1) (env := [some (.tup (ps.map .int)), some (.tup [.int x])]) (S := S) rfl (len_tupI (xs := [x]))) rfl (neD_int ([x] : List Int).length 1 S)
  have c2 := M2_eq (g := gtD) (b := Mc (.int 1000000000000)) (i0 [some (.tup (ps.map .int)), some (.tup [.int x])] S rfl) rfl (gt_f hx.2)
  have c3 := M2_eq (g := eqD) (b := Mc (.int 10)) (M1_eq (g := lenG) (a := Mvar 0) (env := [some (.tup (ps.map .int)), some (.tup [.int x])]) (S := S) rfl len_tupI) rfl (eqD_int ps.length 10 S)
  rw [show ((ps.length : Int) == 10) = false by simp; omega] at c3
  have cc := (if_f (a := Sret (Mc .non)) (b := Snx) ((or_f c1).trans ((or_f c2).trans c3))).trans rfl
  refine (show Sseq _ _ _ _ = _ from seq_nx cc).trans (ret_eq ?_)
  refine M2_eq (x := .tup (ps.map .int)) (y := .tup ([x].map .int)) rfl ?_ (add_tupI (by simp; omega))
  unfold Mtup
  rw [args_cons (i0 _ _ rfl) rfl]
  rfl
theorem asc_pairs : ∀ (xs : List Int), xs.Pairwise (· < ·) → ∀ p ∈ xs.zip xs.tail, p.1 < p.2
  | [], _, p, hp => by simp at hp
  | [x], _, p, hp => by simp at hp
  | x :: y :: r, h, p, hp => by
    obtain ⟨h1, h2⟩ := List.pairwise_cons.mp h
    rw [List.tail_cons, List.zip_cons_cons] at hp
    rcases List.mem_cons.mp hp with rfl | hp
    · exact h1 y (by simp)
    · exact asc_pairs (y :: r) h2 p hp
theorem zipL_ints (as bs : List Int) : zipL (as.map D.int) (bs.map D.int) = (as.zip bs).map fun p => .tup [.int p.1, .int p.2] := by
  induction as generalizing bs with
  | nil => simp [zipL]
  | cons a as ih =>
    cases bs with
    | nil => simp [zipL]
    | cons b bs => simp [zipL, ih]
theorem isasc_ok {xs : List Int} (h : xs.Pairwise (· < ·)) (hl : xs.length < 1000) {d : Dk} {r : List O} (hr : Rok r) : φ_is_ascending [.tup (xs.map .int)] (d.S r) = .ok (.bl true) (d.S r) := by
  refine gc_rt0 rfl ?_ hr rfl
  unfold m_is_ascending
  generalize d.S r = S
  refine ret_eq ?_
  have hsl : Msl (Mvar 0) (Mso (Mc (.int 1))) Mno [some (.tup (xs.map .int)), none, none] S = .ok (.tup (xs.tail.map .int)) S := by
    refine sl_eq (lo := some 1) (hi := none) rfl rfl rfl ?_
    cases xs with
    | nil => rfl
    | cons a b =>
      show some (D.tup (cutD ((a :: b).map .int) (some ((1 : Nat) : Int)) none)) = _
      rw [cut_from (by simp)]
      rfl
  have hz : Izip (Mvar 0) (Msl (Mvar 0) (Mso (Mc (.int 1))) Mno) [some (.tup (xs.map .int)), none, none] S = .ok (none, (xs.zip xs.tail).map fun p => .tup [.int p.1, .int p.2]) S := by
    unfold Izip
    simp only [hsl, Rs.bind_ok, show Mvar 0 [some (.tup (xs.map .int)), none, none] S = .ok (.tup (xs.map .int)) S from rfl, zipL_ints]
  have hc : MComp (Izip (Mvar 0) (Msl (Mvar 0) (Mso (Mc (.int 1))) Mno)) (.tp [(.nm 1), (.nm 2)]) none (M2 ltD (Mvar 1) (Mvar 2)) [1, 2] [some (.tup (xs.map .int)), none, none] S = .ok (((xs.zip xs.tail).map fun _ => true).map .bl) S := by
    unfold MComp
    simp only [hz, Rs.bind_ok]
    rw [List.map_map]
    exact comp_pure _ fun p hp => ⟨_, rfl, M2_eq (x := .int p.1) (y := .int p.2) rfl rfl (lt_t (asc_pairs xs h p hp))⟩
  exact (all_true (frz_eq hc)).trans (by simp)
/-- priced offers as data -/
def offP (qs : List (Int × List Int)) : List D := qs.map fun q => .tup [.int q.1, .tup (q.2.map .int)]
theorem offP_plain : ∀ qs, plains (offP qs) = true
  | [] => rfl
  | q :: qs => by
    have ih := offP_plain qs
    unfold offP at ih ⊢
    rw [List.map_cons]
    simp only [plains, plain, plain_ints, ih, Bool.and_self]
theorem poff_ok {qs : List (Int × List Int)} {n x : Int} {xs : List Int} (hx : Amt x) (hn : 1 ≤ n) (ha : Asc n xs) (hl : xs.length < 100) (hq : qs.length < 10) {d : Dk} {r : List O} (hr : Rok r) :
    φ_parse_offer [.tup (offP qs), .int n, .tup ((x :: xs).map .int)] (d.S r) = .ok (.tup (offP (qs ++ [(x, xs)]))) (d.S r) := by
  refine gc_rt0 rfl ?_ hr (by unfold plain; exact offP_plain _)
  unfold m_parse_offer
  have i0 : ∀ (e3 e4 : Option D) S', M2 idxD (Mvar 2) (Mc (.int 0)) [some (.tup (offP qs)), some (.int n), some (.tup ((x :: xs).map .int)), e3, e4] S' = .ok (.int x) S' := fun e3 e4 S' => M2_eq rfl rfl (idx_ints (xs := x :: xs) (k := 0) rfl)
  have c1 := M2_eq (g := eqD) (a := Mvar 2) (b := Mtup Mnil) (env := [some (.tup (offP qs)), some (.int n), some (.tup ((x :: xs).map .int)), none, none]) (S := d.S r) rfl rfl (eq_nilT (xs := x :: xs) (by simp))
  have c2 := M2_eq (g := gtD) (b := Mc (.int 1000000000000)) (i0 none none (d.S r)) rfl (gt_f hx.2)
  have c3 := M2_eq (g := eqD) (b := Mc (.int 10)) (M1_eq (g := lenG) (a := Mvar 0) (env := [some (.tup (offP qs)), some (.int n), some (.tup ((x :: xs).map .int)), none, none]) (S := d.S r) rfl (d := .int qs.length) (by show some (D.int (offP qs).length) = _; unfold offP; rw [List.length_map])) rfl (eqD_int qs.length 10 _)
  rw [show ((qs.length : Int) == 10) = false by simp; omega] at c3
  have c4 := M2_eq (g := eqD) (a := Mvar 1) (b := Mc (.int 0)) (env := [some (.tup (offP qs)), some (.int n), some (.tup ((x :: xs).map .int)), none, none]) (S := d.S r) rfl rfl (eqD_int n 0 _)
  rw [show (n == 0) = false by simp; omega] at c4
  have cc := (if_f (a := Sret (Mc .non)) (b := Snx) ((or_f c1).trans ((or_f c2).trans ((or_f c3).trans c4)))).trans rfl
  refine (show Sseq _ _ _ _ = _ from seq_nx cc).trans ?_
  have s1 : Sasg (.nm 3) (Msl (Mvar 2) (Mso (Mc (.int 1))) Mno) [some (.tup (offP qs)), some (.int n), some (.tup ((x :: xs).map .int)), none, none] (d.S r) = .nx [some (.tup (offP qs)), some (.int n), some (.tup ((x :: xs).map .int)), some (.tup (xs.map .int)), none] (d.S r) := by
    refine asg_eq (sl_eq (lo := some 1) (hi := none) rfl rfl rfl ?_)
    show some (D.tup (cutD ((x :: xs).map .int) (some ((1 : Nat) : Int)) none)) = _
    rw [cut_from (by simp)]
    rfl
  refine (show Sseq _ _ _ _ = _ from seq_nx s1).trans ?_
  have d1 : Mcall 1 φ_is_ascending (Mcons (Mvar 3) Mnil) [some (.tup (offP qs)), some (.int n), some (.tup ((x :: xs).map .int)), some (.tup (xs.map .int)), none] (d.S r) = .ok (.bl true) (d.S r) := call_eq (args_cons rfl rfl) rfl (isasc_ok ha.pw (by omega) hr)
  have d2 : M1 allG (Mfrz (MComp (Mit (Mvar 3)) (.nm 4) none (M2 ltD (Mvar 4) (Mvar 1)) [4])) [some (.tup (offP qs)), some (.int n), some (.tup ((x :: xs).map .int)), some (.tup (xs.map .int)), none] (d.S r) = .ok (.bl true) (d.S r) := by
    have hc : MComp (Mit (Mvar 3)) (.nm 4) none (M2 ltD (Mvar 4) (Mvar 1)) [4] [some (.tup (offP qs)), some (.int n), some (.tup ((x :: xs).map .int)), some (.tup (xs.map .int)), none] (d.S r) = .ok ((xs.map fun _ => true).map .bl) (d.S r) := by
      rw [List.map_map]
      exact comp_pure (p := .nm 4) (g := D.int) _ fun y hy => ⟨_, rfl, M2_eq (x := .int y) (y := .int n) rfl rfl (lt_t (ha.rg y hy).2)⟩
    rw [all_true (frz_eq hc)]
    simp
  have dd := (if_f (a := Sret (Mc .non)) (b := Snx) ((or_f (not_eq d1)).trans (not_eq d2))).trans rfl
  refine (show Sseq _ _ _ _ = _ from seq_nx dd).trans (ret_eq ?_)
  refine M2_eq (x := .tup (offP qs)) (y := .tup (offP [(x, xs)])) rfl ?_ ?_
  · exact tup_eq (args_cons (tup2 (i0 _ _ _) rfl) rfl) (by show 1 ≤ 1000; decide)
  · show (if (offP qs).length + (offP [(x, xs)]).length ≤ sizeLine then some (D.tup (offP qs ++ offP [(x, xs)])) else none) = _
    rw [if_pos (by unfold offP; rw [List.length_map, sizeLine_eq]; show qs.length + 1 ≤ _; omega)]
    unfold offP
    rw [List.map_append]

/-! ### lines -/
theorem frz_split {z b : Str} {parts : List Str} {env : DEnv} {S : List O} {a e : ED} (ha : a env S = .ok (.str z) S) (he : e env S = .ok (.str b) S) (hs : Txt.split z b = parts) (hb : (b.length == 0) = false) (hz : z.length ≤ 1000000) (hp : parts.length ≤ 1000) : Mfrz (Nm1 splitG a e) env S = .ok (.lst (parts.map .str)) S := by
  refine frz_eq ?_
  unfold Nm1
  simp only [ha, he, Rs.bind_ok]
  unfold splitG
  simp only [hs]
  rw [if_pos ⟨hb, by omega, by omega⟩]
  rfl
theorem star_1 {i j : Nat} {m : ED} {env : DEnv} {S S1 : List O} {a : D} {rest : List D} (h : m env S = .ok (.lst (a :: rest)) S1) (hl : rest.length ≤ 1000) : Sstar 2 1 [.nm i, .nm j] m env S = .nx ((env.set i (some a)).set j (some (.lst rest))) S1 := by
  unfold Sstar
  simp only [h, Rs.s_ok]
  rw [if_pos (by simp; omega)]
  have e1 : starL (a :: rest) 2 1 = rest := by unfold starL; simp
  have e2 : starR (a :: rest) 2 1 = [] := by unfold starR; simp
  rw [e1, e2]
  rfl
theorem star_0 {i j : Nat} {m : ED} {env : DEnv} {S S1 : List O} {a : D} {ini : List D} (h : m env S = .ok (.lst (ini ++ [a])) S1) (hl : ini.length ≤ 1000) : Sstar 2 0 [.nm i, .nm j] m env S = .nx ((env.set i (some (.lst ini))).set j (some a)) S1 := by
  unfold Sstar
  simp only [h, Rs.s_ok]
  rw [if_pos (by simp; omega)]
  have e1 : starL (ini ++ [a]) 2 0 = ini := by unfold starL; simp
  have e2 : starR (ini ++ [a]) 2 0 = [a] := by unfold starR; simp
  rw [e1, e2]
  rfl
theorem tl_sp : TL.tl (" " : Str) = [32] := by decide +kernel
theorem tl_nl : TL.tl ("\n" : Str) = [10] := by decide +kernel
theorem tl_gt : TL.tl (">" : Str) = [62] := by decide +kernel
theorem tl_dem : TL.tl ("demand" : Str) = [100, 101, 109, 97, 110, 100] := by decide +kernel
theorem tl_off : TL.tl ("offer" : Str) = [111, 102, 102, 101, 114] := by decide +kernel
theorem num_free {x : Int} {c : Nat} (h : 0 ≤ x) (hc : c < 48 ∨ 57 < c) : c ∉ TL.tl (num x) := fun hm => by have := num_dig h c hm; omega
def dline (x : Int) : Str := Txt.join " " ["demand", num x]
def oline (q : Int × List Int) : Str := Txt.join " " ("offer" :: num q.1 :: q.2.map num)
/-- an offer and its price -/
structure Off (n : Int) (q : Int × List Int) : Prop where
  amt : Amt q.1
  asc : Asc n q.2
  few : q.2.length ≤ 10
theorem _root_.PB.Amt.fig {x : Int} (h : Amt x) : Fig x := ⟨h.1, by have := h.2; omega⟩
theorem Off.fig {n : Int} (hn : n ≤ 10) {q : Int × List Int} (h : Off n q) : ∀ x ∈ q.1 :: q.2, Fig x := fun x hx => by
  rcases List.mem_cons.mp hx with rfl | hx
  · exact h.amt.fig
  · have := h.asc.rg x hx
    exact ⟨this.1, by omega⟩
theorem dline_split {x : Int} (h : Fig x) : Txt.split (dline x) " " = (["demand", num x] : List Str) := TL.split_join tl_sp (by decide +kernel) (by simp) (by
  intro p hp
  simp only [List.mem_cons, List.not_mem_nil, or_false] at hp
  rcases hp with rfl | rfl
  · rw [tl_dem]; decide
  · exact num_free h.1 (by omega))
theorem oline_split {q : Int × List Int} (h : ∀ x ∈ q.1 :: q.2, Fig x) : Txt.split (oline q) " " = (("offer" : Str) :: num q.1 :: q.2.map num) := TL.split_join tl_sp (by decide +kernel) (by simp) (by
  intro p hp
  rcases List.mem_cons.mp hp with rfl | hp
  · rw [tl_off]; decide
  · have : p ∈ (q.1 :: q.2).map num := hp
    obtain ⟨x, hx, rfl⟩ := List.mem_map.mp this
    exact num_free (h x hx).1 (by omega))
theorem join_len (sep : Str) (parts : List Str) : (Txt.join sep parts).length ≤ (parts.map (·.length)).sum + parts.length * sep.length := by
  rw [TL.join_eq]
  exact StrLaws.join_length_le sep parts
theorem sum_le {B : Nat} : ∀ (parts : List Str), (∀ p ∈ parts, p.length ≤ B) → (parts.map (·.length)).sum ≤ parts.length * B
  | [], _ => by simp
  | p :: r, h => by
    have h1 := h p (by simp)
    have h2 := sum_le r fun q hq => h q (by simp [hq])
    simp only [List.map_cons, List.sum_cons, List.length_cons, Nat.succ_mul]
    omega
theorem join_le {sep : Str} {parts : List Str} {B N : Nat} (h : ∀ p ∈ parts, p.length ≤ B) (hs : sep.length ≤ 1) (hn : parts.length ≤ N) : (Txt.join sep parts).length ≤ N * (B + 1) := by
  have h1 := join_len sep parts
  have h2 := sum_le parts h
  have h3 : parts.length * sep.length ≤ parts.length := by
    calc parts.length * sep.length ≤ parts.length * 1 := Nat.mul_le_mul_left _ hs
    _ = parts.length := Nat.mul_one _
  have h4 : parts.length * B + parts.length ≤ N * (B + 1) := by
    rw [show parts.length * B + parts.length = parts.length * (B + 1) by rw [Nat.mul_succ]]
    exact Nat.mul_le_mul_right _ hn
  omega
theorem dline_len {x : Int} (h : Fig x) : (dline x).length ≤ 28 := join_le (B := 13) (N := 2) (by
  intro p hp
  simp only [List.mem_cons, List.not_mem_nil, or_false] at hp
  rcases hp with rfl | rfl
  · decide +kernel
  · exact (num_len h.1 h.2).2) (by decide +kernel) (by simp)
theorem oline_len {q : Int × List Int} (h : ∀ x ∈ q.1 :: q.2, Fig x) (hl : q.2.length ≤ 10) : (oline q).length ≤ 12 * 14 := join_le (B := 13) (N := 12) (by
  intro p hp
  rcases List.mem_cons.mp hp with rfl | hp
  · decide +kernel
  · have : p ∈ (q.1 :: q.2).map num := hp
    obtain ⟨x, hx, rfl⟩ := List.mem_map.mp this
    exact (num_len (h x hx).1 (h x hx).2).2) (by decide +kernel) (by simp; omega)
theorem pline_dem {ps : List Int} {x : Int} (hx : Amt x) (hp : ps.length < 10) {d : Dk} {r : List O} (hr : Rok r) : φ_parse_line [.tup (ps.map .int), .tup [], .str (dline x)] (d.S r) = .ok (.tup [.tup ((ps ++ [x]).map .int), .tup []]) (d.S r) := by
  refine gc_rt0 rfl ?_ hr (by simp only [plain, plains, plain_ints, Bool.and_self])
  unfold m_parse_line
  have a1 := star_1 (i := 3) (j := 4) (frz_split (a := Mvar 2) (e := Mc (.str " ")) (env := [some (.tup (ps.map .int)), some (.tup []), some (.str (dline x)), none, none, none, none]) (S := d.S r) rfl rfl (dline_split hx.fig) (by decide +kernel) (by have := dline_len hx.fig; omega) (by simp)) (by simp)
  refine (show Sseq _ _ _ _ = _ from seq_nx a1).trans ?_
  have a2 := asg_eq (i := 5) (call_eq (φ := φ_parse_integers) (n := 1) (args_cons (a := Mvar 4) (b := Mnil) (env := [some (.tup (ps.map .int)), some (.tup []), some (.str (dline x)), some (.str "demand"), some (.lst [.str (num x)]), none, none]) (S := d.S r) rfl rfl) rfl (pints_ok (xs := [x]) (by simpa using hx.fig) hr rfl))
  refine (show Sseq _ _ _ _ = _ from seq_nx a2).trans ?_
  have a3 := (if_f (a := Sret (Mc .non)) (b := Snx) (M2_eq (g := isND) (a := Mvar 5) (b := Mc .non) (env := [some (.tup (ps.map .int)), some (.tup []), some (.str (dline x)), some (.str "demand"), some (.lst [.str (num x)]), some (.tup [.int x]), none]) (S := d.S r) rfl rfl rfl)).trans rfl
  refine (show Sseq _ _ _ _ = _ from seq_nx a3).trans ?_
  have c1 := M2_eq (g := eqD) (a := Mvar 3) (b := Mc (.str "demand")) (env := [some (.tup (ps.map .int)), some (.tup []), some (.str (dline x)), some (.str "demand"), some (.lst [.str (num x)]), some (.tup [.int x]), none]) (S := d.S r) rfl rfl (eqD_str (by decide +kernel) (by decide +kernel))
  rw [show (("demand" : Str) == "demand") = true by simp] at c1
  have c2 := M2_eq (g := eqD) (a := Mvar 1) (b := Mtup Mnil) (env := [some (.tup (ps.map .int)), some (.tup []), some (.str (dline x)), some (.str "demand"), some (.lst [.str (num x)]), some (.tup [.int x]), none]) (S := d.S r) rfl rfl eq_nilN
  refine seq_rt ((if_t ((and_t c1).trans c2)).trans ?_)
  have a4 := asg_eq (i := 6) (call_eq (φ := φ_parse_demand) (n := 2) (args2 (a := Mvar 0) (b := Mvar 5) (env := [some (.tup (ps.map .int)), some (.tup []), some (.str (dline x)), some (.str "demand"), some (.lst [.str (num x)]), some (.tup [.int x]), none]) (S := d.S r) rfl rfl) rfl (pdem_ok hx hp hr))
  refine (show Sseq _ _ _ _ = _ from seq_nx a4).trans (ret_eq ?_)
  refine (if_fE (M2_eq (g := isND) (a := Mvar 6) (b := Mc .non) rfl rfl rfl)).trans ?_
  exact tup2 rfl rfl
theorem pline_off {ps : List Int} {n : Int} {qs : List (Int × List Int)} {q : Int × List Int} (hq : Off n q) (hn : 1 ≤ n) (hn2 : n ≤ 10) (hp : (ps.length : Int) = n) (hl : qs.length < 10) {d : Dk} {r : List O} (hr : Rok r) :
    φ_parse_line [.tup (ps.map .int), .tup (offP qs), .str (oline q)] (d.S r) = .ok (.tup [.tup (ps.map .int), .tup (offP (qs ++ [q]))]) (d.S r) := by
  have hf := hq.fig hn2
  refine gc_rt0 rfl ?_ hr (by simp only [plain, plains, plain_ints, offP_plain, Bool.and_self])
  unfold m_parse_line
  have a1 := star_1 (i := 3) (j := 4) (a := .str "offer") (rest := ((q.1 :: q.2).map num).map .str) (frz_split (a := Mvar 2) (e := Mc (.str " ")) (env := [some (.tup (ps.map .int)), some (.tup (offP qs)), some (.str (oline q)), none, none, none, none]) (S := d.S r) rfl rfl (oline_split hf) (by decide +kernel) (by have := oline_len hf hq.few; omega) (by simp; have := hq.few; omega)) (by simp; have := hq.few; omega)
  refine (show Sseq _ _ _ _ = _ from seq_nx a1).trans ?_
  have a2 := asg_eq (i := 5) (call_eq (φ := φ_parse_integers) (n := 1) (args_cons (a := Mvar 4) (b := Mnil) (env := [some (.tup (ps.map .int)), some (.tup (offP qs)), some (.str (oline q)), some (.str "offer"), some (.lst (((q.1 :: q.2).map num).map .str)), none, none]) (S := d.S r) rfl rfl) rfl (pints_ok (xs := q.1 :: q.2) hf hr (by rw [List.map_map]; rfl)))
  refine (show Sseq _ _ _ _ = _ from seq_nx a2).trans ?_
  have a3 := (if_f (a := Sret (Mc .non)) (b := Snx) (M2_eq (g := isND) (a := Mvar 5) (b := Mc .non) (env := [some (.tup (ps.map .int)), some (.tup (offP qs)), some (.str (oline q)), some (.str "offer"), some (.lst (((q.1 :: q.2).map num).map .str)), some (.tup ((q.1 :: q.2).map .int)), none]) (S := d.S r) rfl rfl rfl)).trans rfl
  refine (show Sseq _ _ _ _ = _ from seq_nx a3).trans ?_
  have c1 := M2_eq (g := eqD) (a := Mvar 3) (b := Mc (.str "demand")) (env := [some (.tup (ps.map .int)), some (.tup (offP qs)), some (.str (oline q)), some (.str "offer"), some (.lst (((q.1 :: q.2).map num).map .str)), some (.tup ((q.1 :: q.2).map .int)), none]) (S := d.S r) rfl rfl (eqD_str (by decide +kernel) (by decide +kernel))
  rw [show (("offer" : Str) == "demand") = false by decide +kernel] at c1
  have a4 := (if_f (a := Sseq (Sasg (.nm 6) (Mcall 2 φ_parse_demand (Mcons (Mvar 0) (Mcons (Mvar 5) Mnil)))) (Sret (Mif (M2 isND (Mvar 6) (Mc .non)) (Mc .non) (Mtup (Mcons (Mvar 6) (Mcons (Mvar 1) Mnil)))))) (b := Snx) (and_f (b := M2 eqD (Mvar 1) (Mtup Mnil)) c1)).trans rfl
  refine (show Sseq _ _ _ _ = _ from seq_nx a4).trans ?_
  have c2 := M2_eq (g := eqD) (a := Mvar 3) (b := Mc (.str "offer")) (env := [some (.tup (ps.map .int)), some (.tup (offP qs)), some (.str (oline q)), some (.str "offer"), some (.lst (((q.1 :: q.2).map num).map .str)), some (.tup ((q.1 :: q.2).map .int)), none]) (S := d.S r) rfl rfl (eqD_str (by decide +kernel) (by decide +kernel))
  rw [show (("offer" : Str) == "offer") = true by simp] at c2
  refine seq_rt ((if_t c2).trans ?_)
  have a5 := asg_eq (i := 6) (call_eq (φ := φ_parse_offer) (n := 3) (args3 (a := Mvar 1) (b := M1 lenG (Mvar 0)) (e := Mvar 5) (env := [some (.tup (ps.map .int)), some (.tup (offP qs)), some (.str (oline q)), some (.str "offer"), some (.lst (((q.1 :: q.2).map num).map .str)), some (.tup ((q.1 :: q.2).map .int)), none]) (S := d.S r) rfl (M1_eq (x := .tup (ps.map .int)) rfl (by rw [len_tupI, hp])) rfl) rfl (poff_ok hq.amt hn hq.asc (by have := hq.few; omega) hl hr))
  refine (show Sseq _ _ _ _ = _ from seq_nx a5).trans (ret_eq ?_)
  refine (if_fE (M2_eq (g := isND) (a := Mvar 6) (b := Mc .non) rfl rfl rfl)).trans ?_
  exact tup2 rfl rfl
end PB.k66

set_option Elab.async false
set_option linter.all false
set_option maxRecDepth 100000
set_option maxHeartbeats 4000000

namespace PB.k66
open PySem PySem.Spec PyProof.Rows L2 PB
theorem joinL_free {c : Nat} {S : List Nat} (hS : c ∉ S) : ∀ {parts : List (List Nat)}, (∀ p ∈ parts, c ∉ p) → c ∉ TL.joinL S parts
  | [], _ => by simp [TL.joinL]
  | [p], h => by simpa [TL.joinL] using h p (by simp)
  | p :: q :: r, h => by
    have h1 := h p (by simp)
    have h2 := joinL_free hS (parts := q :: r) fun z hz => h z (List.mem_cons_of_mem _ hz)
    simp only [TL.joinL, List.mem_append, not_or]
    exact ⟨h1, hS, h2⟩
theorem join_free {c : Nat} {sep : Str} {parts : List Str} (hS : c ∉ TL.tl sep) (h : ∀ p ∈ parts, c ∉ TL.tl p) : c ∉ TL.tl (Txt.join sep parts) := by
  rw [TL.join_eq, TL.tl_join]
  refine joinL_free hS fun p hp => ?_
  obtain ⟨z, hz, rfl⟩ := List.mem_map.mp hp
  exact h z hz
theorem dline_free {x : Int} (h : Fig x) : 10 ∉ TL.tl (dline x) := join_free (by rw [tl_sp]; decide) (by
  intro p hp
  simp only [List.mem_cons, List.not_mem_nil, or_false] at hp
  rcases hp with rfl | rfl
  · rw [tl_dem]; decide
  · exact num_free h.1 (by omega))
theorem oline_free {q : Int × List Int} (h : ∀ x ∈ q.1 :: q.2, Fig x) : 10 ∉ TL.tl (oline q) := join_free (by rw [tl_sp]; decide) (by
  intro p hp
  rcases List.mem_cons.mp hp with rfl | hp
  · rw [tl_off]; decide
  · have : p ∈ (q.1 :: q.2).map num := hp
    obtain ⟨x, hx, rfl⟩ := List.mem_map.mp this
    exact num_free (h x hx).1 (by omega))
/-- the lines of a text -/
def linesT (ps : List Int) (qs : List (Int × List Int)) : List Str := ps.map dline ++ qs.map oline
def textT (ps : List Int) (qs : List (Int × List Int)) : Str := Txt.join "\n" (linesT ps qs ++ [("" : Str)])
/-- data that may be written -/
structure Dat (n : Int) (ps : List Int) (qs : List (Int × List Int)) : Prop where
  lo : 1 ≤ n
  hi : n ≤ 10
  len : (ps.length : Int) = n
  amt : ∀ x ∈ ps, Amt x
  off : ∀ q ∈ qs, Off n q
  few : qs.length ≤ 10
theorem Dat.free {n : Int} {ps : List Int} {qs : List (Int × List Int)} (h : Dat n ps qs) : ∀ p ∈ linesT ps qs ++ [("" : Str)], 10 ∉ TL.tl p := by
  intro p hp
  unfold linesT at hp
  rcases List.mem_append.mp hp with hp | hp
  · rcases List.mem_append.mp hp with hp | hp
    · obtain ⟨x, hx, rfl⟩ := List.mem_map.mp hp
      exact dline_free (h.amt x hx).fig
    · obtain ⟨q, hq, rfl⟩ := List.mem_map.mp hp
      exact oline_free ((h.off q hq).fig h.hi)
  · rw [List.mem_singleton.mp hp]
    have : TL.tl ("" : Str) = [] := by decide +kernel
    rw [this]
    simp
theorem Dat.fit {n : Int} {ps : List Int} {qs : List (Int × List Int)} (h : Dat n ps qs) : ∀ p ∈ linesT ps qs, p.length ≤ 168 := by
  intro p hp
  unfold linesT at hp
  rcases List.mem_append.mp hp with hp | hp
  · obtain ⟨x, hx, rfl⟩ := List.mem_map.mp hp
    have := dline_len (h.amt x hx).fig
    omega
  · obtain ⟨q, hq, rfl⟩ := List.mem_map.mp hp
    exact oline_len ((h.off q hq).fig h.hi) (h.off q hq).few
theorem Dat.cnt {n : Int} {ps : List Int} {qs : List (Int × List Int)} (h : Dat n ps qs) : (linesT ps qs).length = ps.length + qs.length ∧ ps.length ≤ 10 := by
  have := h.len
  have := h.hi
  unfold linesT
  rw [List.length_append, List.length_map, List.length_map]
  omega
theorem Dat.split {n : Int} {ps : List Int} {qs : List (Int × List Int)} (h : Dat n ps qs) : Txt.split (textT ps qs) "\n" = linesT ps qs ++ [("" : Str)] := TL.split_join tl_nl (by decide +kernel) (by simp) h.free
theorem Dat.small {n : Int} {ps : List Int} {qs : List (Int × List Int)} (h : Dat n ps qs) : (textT ps qs).length ≤ 21 * 169 := by
  have h2 := h.cnt
  have h3 := h.few
  refine join_le (B := 168) (N := 21) (fun p hp => ?_) (by decide +kernel) (by rw [List.length_append]; show (linesT ps qs).length + 1 ≤ 21; omega)
  rcases List.mem_append.mp hp with hp | hp
  · exact h.fit p hp
  · rw [List.mem_singleton.mp hp]
    decide +kernel
theorem asgT_eq {i j : Nat} {m : ED} {env : DEnv} {S S1 : List O} {a b : D} (h : m env S = .ok (.tup [a, b]) S1) : Sasg (.tp [.nm i, .nm j]) m env S = .nx ((env.set i (some a)).set j (some b)) S1 := by
  unfold Sasg
  simp only [h, Rs.s_ok]
  rfl
theorem ofp_snd (qs : List (Int × List Int)) : offsD (qs.map (·.2)) = qs.map fun q => .tup (q.2.map .int) := by
  unfold offsD
  rw [List.map_map]
  rfl
noncomputable def pdB : SD := Sseq (Sasg (.nm 7) (Mcall 3 φ_parse_line (Mcons (Mvar 3) (Mcons (Mvar 4) (Mcons (Mvar 6) Mnil))))) (Sseq (Sif (M2 isND (Mvar 7) (Mc .non)) Sno Snx) (Sasg (.tp [(.nm 3), (.nm 4)]) (Mvar 7)))
theorem pd_turn {n : Int} {ps : List Int} {qs : List (Int × List Int)} (h : Dat n ps qs) {d : Dk} {r : List O} (hr : Rok r) (a0 a1 a2 a5 a7 : Option D) (rest : List (Option D)) {j : Nat} {z : Str} (hz : (linesT ps qs)[j]? = some z) :
    ∃ e7 : Option D, pdB (a0 :: a1 :: a2 :: some (.tup ((ps.take j).map .int)) :: some (.tup (offP (qs.take (j - ps.length)))) :: a5 :: some (.str z) :: a7 :: rest) (d.S r) = .nx (a0 :: a1 :: a2 :: some (.tup ((ps.take (j + 1)).map .int)) :: some (.tup (offP (qs.take (j + 1 - ps.length)))) :: a5 :: some (.str z) :: e7 :: rest) (d.S r) := by
  have hc := h.cnt
  have key : ∀ v w : D, φ_parse_line [.tup ((ps.take j).map .int), .tup (offP (qs.take (j - ps.length))), .str z] (d.S r) = .ok (.tup [v, w]) (d.S r) → ∃ e7 : Option D, pdB (a0 :: a1 :: a2 :: some (.tup ((ps.take j).map .int)) :: some (.tup (offP (qs.take (j - ps.length)))) :: a5 :: some (.str z) :: a7 :: rest) (d.S r) = .nx (a0 :: a1 :: a2 :: some v :: some w :: a5 :: some (.str z) :: e7 :: rest) (d.S r) := fun v w hv => by
    refine ⟨some (.tup [v, w]), ?_⟩
    unfold pdB
    refine (show Sseq _ _ _ _ = _ from seq_nx (asg_eq (i := 7) (call_eq (args3 rfl rfl rfl) rfl hv))).trans ?_
    refine (show Sseq _ _ _ _ = _ from seq_nx ((if_f (M2_eq (x := .tup [v, w]) (y := .non) rfl rfl rfl)).trans rfl)).trans ?_
    exact asgT_eq rfl
  unfold linesT at hz
  by_cases hj : j < ps.length
  · rw [List.getElem?_append_left (by rw [List.length_map]; exact hj), List.getElem?_map] at hz
    obtain ⟨x, hx, rfl⟩ := Option.map_eq_some_iff.mp hz
    have e1 : j - ps.length = 0 := by omega
    have e2 : j + 1 - ps.length = 0 := by omega
    have e3 : ps.take (j + 1) = ps.take j ++ [x] := by
      rw [List.take_succ, hx]
      rfl
    rw [e1] at key ⊢
    rw [e2, e3]
    exact key _ _ (pline_dem (h.amt x (List.mem_of_getElem? hx)) (by rw [List.length_take]; omega) hr)
  · rw [List.getElem?_append_right (by rw [List.length_map]; omega), List.length_map, List.getElem?_map] at hz
    obtain ⟨q, hq, rfl⟩ := Option.map_eq_some_iff.mp hz
    have e1 : ps.take j = ps := List.take_of_length_le (by omega)
    have e2 : ps.take (j + 1) = ps := List.take_of_length_le (by omega)
    have e4 : j + 1 - ps.length = (j - ps.length) + 1 := by omega
    have e3 : qs.take (j + 1 - ps.length) = qs.take (j - ps.length) ++ [q] := by
      rw [e4, List.take_succ, hq]
      rfl
    have hlt := (List.getElem?_eq_some_iff.mp hq).1
    have := h.few
    rw [e1] at key ⊢
    rw [e2, e3]
    exact key _ _ (pline_off (h.off q (List.mem_of_getElem? hq)) h.lo h.hi h.len (by rw [List.length_take]; omega) hr)
theorem pdata_ok {n : Int} {ps : List Int} {qs : List (Int × List Int)} (h : Dat n ps qs) {d : Dk} {r : List O} (hr : Rok r) :
    φ_parse_data [.str (textT ps qs)] (d.S r) = .ok (.tup [tabD n (qs.map (·.2)), .tup ((qs.map (·.1)).map .int), .tup (ps.map .int)]) (d.S r) := by
  have hc := h.cnt
  have hfew := h.few
  refine gc_rt0 rfl ?_ hr (by simp only [plain, plains, plain_ints, tab_plain, Bool.and_self])
  unfold m_parse_data
  have a1 := exp_eq (call_eq (φ := φ_check_string) (n := 1) (args_cons (a := Mvar 0) (b := Mnil) (env := [some (.str (textT ps qs)), none, none, none, none, none, none, none, none, none, none]) (S := d.S r) rfl rfl) rfl (chk_ok hr))
  refine (show Sseq _ _ _ _ = _ from seq_nx a1).trans ?_
  have hsp := frz_split (a := Mvar 0) (e := Mc (.str "\n")) (env := [some (.str (textT ps qs)), none, none, none, none, none, none, none, none, none, none]) (S := d.S r) rfl rfl h.split (by decide +kernel) (by have := h.small; omega) (by rw [List.length_append]; show (linesT ps qs).length + 1 ≤ 1000; omega)
  rw [List.map_append] at hsp
  have a2 := star_0 (i := 1) (j := 2) hsp (by rw [List.length_map]; omega)
  refine (show Sseq _ _ _ _ = _ from seq_nx a2).trans ?_
  have a3 := asgT_eq (i := 3) (j := 4) (m := Mtup (Mcons (Mtup Mnil) (Mcons (Mtup Mnil) Mnil))) (env := [some (.str (textT ps qs)), some (.lst ((linesT ps qs).map .str)), some (.str ""), none, none, none, none, none, none, none, none]) (S := d.S r) (tup2 (x := .tup []) (y := .tup []) rfl rfl)
  refine (show Sseq _ _ _ _ = _ from seq_nx a3).trans ?_
  obtain ⟨env', S', f1, e5, e6, e7, f2, f3⟩ := forD_inv (p := .tp [.nm 5, .nm 6]) (b := pdB) (fun j env S => ∃ e5 e6 e7 : Option D, env = [some (.str (textT ps qs)), some (.lst ((linesT ps qs).map .str)), some (.str ""), some (.tup ((ps.take j).map .int)), some (.tup (offP (qs.take (j - ps.length)))), e5, e6, e7, none, none, none] ∧ S = d.S r)
    (enumL 0 ((linesT ps qs).map .str)) 0 [some (.str (textT ps qs)), some (.lst ((linesT ps qs).map .str)), some (.str ""), some (.tup []), some (.tup []), none, none, none, none, none, none] (d.S r) ⟨none, none, none, by simp [offP], rfl⟩ (by
      rintro j x env S hx ⟨e5, e6, e7, rfl, rfl⟩
      obtain ⟨y, hy, rfl⟩ := enumL_get 0 _ _ _ hx
      rw [List.getElem?_map] at hy
      obtain ⟨z, hz, rfl⟩ := Option.map_eq_some_iff.mp hy
      rw [Nat.zero_add]
      obtain ⟨e7', hb⟩ := pd_turn h (d := d) hr (some (.str (textT ps qs))) (some (.lst ((linesT ps qs).map .str))) (some (.str "")) (some (.int (j : Int))) e7 [none, none, none] hz
      exact ⟨_, _, _, rfl, hb, _, _, _, rfl, rfl⟩)
  rw [enumL_len, List.length_map, hc.1] at f2
  subst f3
  have t1 : ps.take (0 + (ps.length + qs.length)) = ps := List.take_of_length_le (by omega)
  have t2 : qs.take (0 + (ps.length + qs.length) - ps.length) = qs := List.take_of_length_le (by omega)
  rw [t1, t2] at f2
  subst f2
  have a4 : Sfor (Ienum (Mvar 1)) (.tp [(.nm 5), (.nm 6)]) pdB [some (.str (textT ps qs)), some (.lst ((linesT ps qs).map .str)), some (.str ""), some (.tup []), some (.tup []), none, none, none, none, none, none] (d.S r) = .nx _ _ := for_eq (ds := enumL 0 ((linesT ps qs).map .str)) rfl f1
  refine (show Sseq _ _ _ _ = _ from seq_nx a4).trans ?_
  have c1 := M2_eq (g := neD) (a := Mvar 2) (b := Mc (.str "")) (env := [some (.str (textT ps qs)), some (.lst ((linesT ps qs).map .str)), some (.str ""), some (.tup (ps.map .int)), some (.tup (offP qs)), e5, e6, e7, none, none, none]) (S := d.S r) rfl rfl (neD_str (by decide +kernel) (by decide +kernel))
  rw [show (("" : Str) == "") = true by simp] at c1
  have c2 := M2_eq (g := eqD) (a := Mvar 3) (b := Mtup Mnil) (env := [some (.str (textT ps qs)), some (.lst ((linesT ps qs).map .str)), some (.str ""), some (.tup (ps.map .int)), some (.tup (offP qs)), e5, e6, e7, none, none, none]) (S := d.S r) rfl rfl (eq_nilT (xs := ps) (by
    intro e
    have l1 := h.len
    have l2 := h.lo
    rw [e] at l1
    simp at l1
    omega))
  have cc := (if_f (a := Sno) (b := Snx) ((or_f c1).trans c2)).trans rfl
  refine (show Sseq _ _ _ _ = _ from seq_nx cc).trans ?_
  have comp1 : ∀ e8 : Option D, MComp (Mit (Mvar 4)) (.tp [(.nm 9), (.nm 10)]) none (Mvar 9) [9, 10] [some (.str (textT ps qs)), some (.lst ((linesT ps qs).map .str)), some (.str ""), some (.tup (ps.map .int)), some (.tup (offP qs)), e5, e6, e7, e8, none, none] (d.S r) = .ok ((qs.map (·.1)).map .int) (d.S r) := fun e8 => by
    rw [List.map_map]
    exact comp_pure (p := .tp [.nm 9, .nm 10]) (g := fun q : Int × List Int => .tup [.int q.1, .tup (q.2.map .int)]) qs fun q hq => ⟨_, rfl, rfl⟩
  have comp2 : ∀ e8 : Option D, MComp (Mit (Mvar 4)) (.tp [(.nm 9), (.nm 10)]) none (Mvar 10) [9, 10] [some (.str (textT ps qs)), some (.lst ((linesT ps qs).map .str)), some (.str ""), some (.tup (ps.map .int)), some (.tup (offP qs)), e5, e6, e7, e8, none, none] (d.S r) = .ok (offsD (qs.map (·.2))) (d.S r) := fun e8 => by
    rw [ofp_snd]
    exact comp_pure (p := .tp [.nm 9, .nm 10]) (g := fun q : Int × List Int => .tup [.int q.1, .tup (q.2.map .int)]) qs fun q hq => ⟨_, rfl, rfl⟩
  have a5 := asg_eq (i := 8) (M1_eq (g := tupG) (frz_eq (comp1 none)) rfl)
  refine (show Sseq _ _ _ _ = _ from seq_nx a5).trans (ret_eq ?_)
  refine tup_eq (args3 (tup2 (M1_eq (x := .tup (ps.map .int)) rfl (by rw [len_tupI, h.len])) (M1_eq (g := tupG) (frz_eq (comp2 _)) rfl)) rfl rfl) (by show 3 ≤ 1000; decide)
end PB.k66

set_option Elab.async false
set_option linter.all false
set_option maxRecDepth 100000
set_option maxHeartbeats 4000000

namespace PB.k66
open PySem PySem.Spec PyProof.Rows L2 PB
/-! ### orders -/
def orderT (xs : List Int) : Str := Txt.join ">" (xs.map num)
theorem porder_ok {m : Int} {xs : List Int} (hp : xs.Perm (rngL 0 m)) (hm : 1 ≤ m) (hm2 : m ≤ 10) {d : Dk} {r : List O} (hr : Rok r) : φ_parse_order [.str (orderT xs)] (d.S r) = .ok (.tup (xs.map .int)) (d.S r) := by
  obtain ⟨p1, p2, p3⟩ := perm_rng hp
  have hf : ∀ x ∈ xs, Fig x := fun x hx => by have := p2 x hx; exact ⟨this.1, by omega⟩
  refine gc_rt0 rfl ?_ hr (by unfold plain; exact plain_ints xs)
  unfold m_parse_order
  have a1 := exp_eq (call_eq (φ := φ_check_string) (n := 1) (args_cons (a := Mvar 0) (b := Mnil) (env := [some (.str (orderT xs)), none]) (S := d.S r) rfl rfl) rfl (chk_ok hr))
  refine (show Sseq _ _ _ _ = _ from seq_nx a1).trans ?_
  have hs : Txt.split (orderT xs) ">" = xs.map num := TL.split_join tl_gt (by decide +kernel) (by
    intro e
    have : xs = [] := List.map_eq_nil_iff.mp e
    rw [this] at p3
    simp at p3
    omega) (by
    intro p hp
    obtain ⟨x, hx, rfl⟩ := List.mem_map.mp hp
    exact num_free (hf x hx).1 (by omega))
  have hl : (orderT xs).length ≤ 10 * 14 := join_le (B := 13) (N := 10) (by
    intro p hp
    obtain ⟨x, hx, rfl⟩ := List.mem_map.mp hp
    exact (num_len (hf x hx).1 (hf x hx).2).2) (by decide +kernel) (by rw [List.length_map]; omega)
  have a2 := asg_eq (i := 1) (call_eq (φ := φ_parse_integers) (n := 1) (args_cons (b := Mnil) (frz_split (a := Mvar 0) (e := Mc (.str ">")) (env := [some (.str (orderT xs)), none]) (S := d.S r) rfl rfl hs (by decide +kernel) (by omega) (by rw [List.length_map]; omega)) rfl) rfl (pints_ok (xs := xs) hf hr (by rw [List.map_map]; rfl)))
  refine (show Sseq _ _ _ _ = _ from seq_nx a2).trans ?_
  have c1 := M2_eq (g := isND) (a := Mvar 1) (b := Mc .non) (env := [some (.str (orderT xs)), some (.tup (xs.map .int))]) (S := d.S r) rfl rfl rfl
  have lenE := M1_eq (g := lenG) (a := Mvar 1) (env := [some (.str (orderT xs)), some (.tup (xs.map .int))]) (S := d.S r) rfl len_tupI
  have c2 := M2_eq (g := gtD) (b := Mc (.int 10)) lenE rfl (gt_f (by omega))
  have hsrt : srtI xs = rngL 0 m := pw_unique ((srtI_perm xs).trans hp) (srtI_pw xs) ((rngL_pw m).imp fun q => by omega)
  have hlen : (xs.length : Int) = m := by omega
  have c3 := M2_eq (g := neD) (frz_eq (MN1_eq (g := sortG) (a := Mvar 1) (env := [some (.str (orderT xs)), some (.tup (xs.map .int))]) (S := d.S r) rfl (sort_ints (.inl rfl) (by omega)))) (frz_eq (nrng_eq lenE (by omega) (by omega))) (neD_same (by rw [hsrt, hlen]) (okC_ints _))
  have cc := (if_f (a := Sno) (b := Snx) ((or_f c1).trans ((or_f c2).trans c3))).trans rfl
  refine (show Sseq _ _ _ _ = _ from seq_nx cc).trans (ret_eq ?_)
  rfl
/-! ### writing -/
theorem str_num {x : Int} (h : Fig x) {S : List O} : strG (.int x) S = some (.str (num x)) := by
  show (if x.natAbs < 2 ^ 1900 then some (D.str (Str.ofString (toString x))) else none) = _
  have h2 := h.2
  have h1 := h.1
  rw [if_pos (Nat.lt_of_lt_of_le (show x.natAbs < 2 ^ 64 by omega) (Nat.pow_le_pow_right (by decide) (by decide)))]
  rfl
theorem strs_map : ∀ zs : List Str, strsOf (zs.map D.str) = some zs
  | [] => rfl
  | z :: zs => by simp [strsOf, strs_map zs]
theorem joins {sep : Str} {zs : List Str} {B : Nat} {a : ED} {env : DEnv} {S S1 : List O} (h : a env S = .ok (.lst (zs.map .str)) S1) (hb : ∀ z ∈ zs, z.length ≤ B) (hs : sep.length ≤ 1) (hz : zs.length * (B + 1) ≤ 16777216) : Mm1 joinG (Mc (.str sep)) a env S = .ok (.str (Txt.join sep zs)) S1 := by
  have hj : joinG sep (.lst (zs.map .str)) S1 = some (.str (Txt.join sep zs)) := by
    unfold joinG seqStrs seqD
    simp only [rd, Option.bind_some, strs_map]
    have s1 := sum_le zs hb
    have s3 : zs.length * sep.length ≤ zs.length := by
      calc zs.length * sep.length ≤ zs.length * 1 := Nat.mul_le_mul_left _ hs
      _ = zs.length := Nat.mul_one _
    rw [Nat.mul_succ] at hz
    rw [if_pos (by omega)]
  unfold Mm1
  simp only [Mc, Rs.bind_ok, h, hj, optRs_some]
theorem forder_ok {xs : List Int} (hf : ∀ x ∈ xs, Fig x) (hl : xs.length ≤ 100) {env : DEnv} {S : List O} {p : Pat} {e a : ED} {vs : List Nat} (ha : a env S = .ok (.tup (xs.map .int)) S) (he : ∀ x ∈ xs, ∃ env1, setP p (.int x) (wipeD env vs) = some env1 ∧ e env1 S = .ok (.str (num x)) S) :
    Mm1 joinG (Mc (.str ">")) (Mfrz (MComp (Mit a) p none e vs)) env S = .ok (.str (orderT xs)) S := by
  have hc : MComp (Mit a) p none e vs env S = .ok ((xs.map num).map .str) S := by
    unfold MComp Mit
    simp only [ha, Rs.bind_ok]
    rw [List.map_map]
    exact comp_pure xs he
  refine joins (frz_eq hc) (B := 13) (fun z hz => ?_) (by decide +kernel) (by rw [List.length_map]; omega)
  obtain ⟨x, hx, rfl⟩ := List.mem_map.mp hz
  exact (num_len (hf x hx).1 (hf x hx).2).2
theorem fmt_order {xs : List Int} (hf : ∀ x ∈ xs, Fig x) (hl : xs.length ≤ 100) {d : Dk} {r : List O} (hr : Rok r) : φ_format_order [.tup (xs.map .int)] (d.S r) = .ok (.str (orderT xs)) (d.S r) := by
  refine gc_rt0 rfl ?_ hr rfl
  unfold m_format_order
  exact ret_eq (forder_ok hf hl rfl fun x hx => ⟨_, rfl, M1_eq (x := .int x) rfl (str_num (hf x hx))⟩)
theorem joinL_ends : ∀ parts : List (List Nat), TL.joinL [] (parts.map (· ++ [10])) = TL.joinL [10] (parts ++ [[]])
  | [] => rfl
  | [p] => by simp [TL.joinL]
  | p :: q :: r => by
    have ih := joinL_ends (q :: r)
    simp only [List.map_cons, List.cons_append, TL.joinL, List.nil_append] at ih ⊢
    rw [ih, List.append_assoc]
    rfl
theorem tl_em : TL.tl ("" : Str) = [] := by decide +kernel
theorem ends_eq (zs : List Str) : Txt.join "" (zs.map (· ++ ("\n" : Str))) = Txt.join "\n" (zs ++ [("" : Str)]) := by
  refine TL.ext_tl ?_
  rw [TL.join_eq, TL.join_eq, TL.tl_join, TL.tl_join, tl_em, tl_nl, List.map_append, List.map_map]
  have e : zs.map (TL.tl ∘ fun z => z ++ ("\n" : Str)) = (zs.map TL.tl).map (· ++ [10]) := by
    rw [List.map_map]
    refine List.map_congr_left fun z _ => ?_
    show TL.tl (z ++ ("\n" : Str)) = TL.tl z ++ [10]
    rw [TL.tl_append, tl_nl]
  rw [e, joinL_ends]
  simp [tl_em]
theorem comp_consG {g : Option (Nat × O)} {p : Pat} {me : ED} {env env1 : DEnv} {d x : D} {ds xs : List D} {S : List O} (hg : Gd g S) (h1 : setP p d env = some env1) (h2 : me env1 S = .ok x S) (h3 : compD g p none me env ds S = .ok xs S) : compD g p none me env (d :: ds) S = .ok (x :: xs) S := by
  unfold compD
  refine (if_pos hg).trans ?_
  simp only [h1, h2, h3, Rs.nx_ok, Rs.bind_ok]
theorem comp_pureG {g : Option (Nat × O)} {α : Type} {k : α → D} {f : α → D} {p : Pat} {me : ED} {env : DEnv} {S : List O} (hg : Gd g S) : ∀ xs : List α, (∀ x ∈ xs, ∃ env1, setP p (k x) env = some env1 ∧ me env1 S = .ok (f x) S) → compD g p none me env (xs.map k) S = .ok (xs.map f) S
  | [], _ => by unfold compD; exact if_pos hg
  | x :: xs, turn => by
    obtain ⟨env1, h1, h2⟩ := turn x (by simp)
    exact comp_consG hg h1 h2 (comp_pureG hg xs fun y hy => turn y (by simp [hy]))
/-- the writer's loop and end -/
noncomputable def wrB : SD := Sexp (Mlm1 appG (Mvar 3) (Mm1 joinG (Mc (.str " ")) (Mfrz (MN2 catN (Mfrz (Mdisp (Mcons (Mc (.str "offer")) (Mcons (M1 strG (Mvar 5)) Mnil)))) (Mfrz (MComp (Mit (Mvar 4)) (.nm 7) none (M1 strG (Mvar 7)) [7]))))))
noncomputable def wrE : ED := Mm1 joinG (Mc (.str "")) (Mfrz (MComp (Mit (Mvar 3)) (.nm 8) none (M2 addD (Mvar 8) (Mc (.str "\n"))) [8]))

theorem wr_turn {n : Int} {q : Int × List Int} (hq : Off n q) (hn : n ≤ 10) {zs : List Str} (hz : zs.length < 1000) {d : Dk} {r : List O} {a0 a1 a2 : Option D} {a6 a7 a8 : Option D} : ∃ a7' : Option D,
    wrB [a0, a1, a2, some (.ref (r.length + 3)), some (.tup (q.2.map .int)), some (.int q.1), a6, a7, a8] (d.S (r ++ [.lst (zs.map .str)])) = .nx [a0, a1, a2, some (.ref (r.length + 3)), some (.tup (q.2.map .int)), some (.int q.1), a6, a7', a8] (d.S (r ++ [.lst ((zs ++ [oline q]).map .str)])) := by
  have hf := hq.fig hn
  refine ⟨a7, ?_⟩
  generalize hS : d.S (r ++ [.lst (zs.map .str)]) = S
  have b1 : Mdisp (Mcons (Mc (.str "offer")) (Mcons (M1 strG (Mvar 5)) Mnil)) [a0, a1, a2, some (.ref (r.length + 3)), some (.tup (q.2.map .int)), some (.int q.1), a6, a7, a8] S = .ok [.str "offer", .str (num q.1)] S := disp2 rfl (M1_eq (x := .int q.1) rfl (str_num (hf q.1 (by simp))))
  have b2 : MComp (Mit (Mvar 4)) (.nm 7) none (M1 strG (Mvar 7)) [7] [a0, a1, a2, some (.ref (r.length + 3)), some (.tup (q.2.map .int)), some (.int q.1), a6, a7, a8] S = .ok ((q.2.map num).map .str) S := by
    rw [List.map_map]
    exact comp_pure (p := .nm 7) (g := D.int) q.2 fun x hx => ⟨_, rfl, M1_eq (x := .int x) rfl (str_num (hf x (by simp [hx])))⟩
  have b3 := MN2_eq (g := catN) (frz_eq b1) (frz_eq b2) (d := (("offer" : Str) :: num q.1 :: q.2.map num).map .str) (by
    show (if ([D.str "offer", D.str (num q.1)] : List D).length + ((q.2.map num).map D.str).length ≤ sizeLine then some ([D.str "offer", D.str (num q.1)] ++ (q.2.map num).map D.str) else none) = _
    rw [if_pos (by rw [List.length_map, List.length_map, sizeLine_eq]; have := hq.few; show 2 + q.2.length ≤ _; omega)]
    rfl)
  have b4 := joins (sep := " ") (frz_eq b3) (B := 13) (by
    intro p hp
    rcases List.mem_cons.mp hp with rfl | hp
    · decide +kernel
    · have : p ∈ (q.1 :: q.2).map num := hp
      obtain ⟨x, hx, rfl⟩ := List.mem_map.mp this
      exact (num_len (hf x hx).1 (hf x hx).2).2) (by decide +kernel) (by have := hq.few; simp; omega)
  subst hS
  have a5 := lm1_eq (g := appG) (o := Mvar 3) (l := r.length + 3) rfl at_loc b4 at_loc (app_ok (by rw [List.length_map]; omega))
  rw [set_loc] at a5
  unfold wrB
  refine (exp_eq a5).trans ?_
  rw [List.map_append]
  rfl
theorem zipL_offs : ∀ qs : List (Int × List Int), zipL (offsD (qs.map (·.2))) ((qs.map (·.1)).map D.int) = qs.map fun q => .tup [.tup (q.2.map .int), .int q.1]
  | [] => rfl
  | q :: qs => by
    have ih := zipL_offs qs
    unfold offsD at ih ⊢
    simp only [List.map_cons, zipL]
    rw [ih]
theorem wr_ok {n : Int} {ps : List Int} {qs : List (Int × List Int)} (h : Dat n ps qs) {m : SD} {first : SD} (hm : m = Sseq first (Sseq (Sfor (Izip (M2 idxD (Mvar 0) (Mc (.int 1))) (Mvar 1)) (.tp [(.nm 4), (.nm 5)]) wrB) (Sret wrE))) {d : Dk} {r : List O} (hr : Rok r)
    (hfirst : first [some (tabD n (qs.map (·.2))), some (.tup ((qs.map (·.1)).map .int)), some (.tup (ps.map .int)), none, none, none, none, none, none] (d.S r) = .nx [some (tabD n (qs.map (·.2))), some (.tup ((qs.map (·.1)).map .int)), some (.tup (ps.map .int)), some (.ref (r.length + 3)), none, none, none, none, none] (d.S (r ++ [.lst ((ps.map dline).map .str)]))) :
    gcF 3 9 m [tabD n (qs.map (·.2)), .tup ((qs.map (·.1)).map .int), .tup (ps.map .int)] (d.S r) = .ok (.str (textT ps qs)) (d.S r) := by
  have hc := h.cnt
  have hfew := h.few
  subst hm
  have e0 : zipL (offsD (qs.map (·.2))) ((qs.map (·.1)).map D.int) = qs.map fun q => .tup [.tup (q.2.map .int), .int q.1] := zipL_offs qs
  obtain ⟨env', S', f1, e4, e5, e7, f2, f3⟩ := forD_inv (p := .tp [.nm 4, .nm 5]) (b := wrB) (fun j env S => ∃ e4 e5 e7 : Option D, env = [some (tabD n (qs.map (·.2))), some (.tup ((qs.map (·.1)).map .int)), some (.tup (ps.map .int)), some (.ref (r.length + 3)), e4, e5, none, e7, none] ∧ S = d.S (r ++ [.lst ((ps.map dline ++ (qs.take j).map oline).map .str)]))
    (qs.map fun q => .tup [.tup (q.2.map .int), .int q.1]) 0 [some (tabD n (qs.map (·.2))), some (.tup ((qs.map (·.1)).map .int)), some (.tup (ps.map .int)), some (.ref (r.length + 3)), none, none, none, none, none] (d.S (r ++ [.lst ((ps.map dline).map .str)])) ⟨none, none, none, rfl, by simp⟩ (by
      rintro j x env S hx ⟨e4, e5, e7, rfl, rfl⟩
      rw [List.getElem?_map] at hx
      obtain ⟨q, hq, rfl⟩ := Option.map_eq_some_iff.mp hx
      have hlt := (List.getElem?_eq_some_iff.mp hq).1
      obtain ⟨e7', hb⟩ := wr_turn (h.off q (List.mem_of_getElem? hq)) h.hi (zs := ps.map dline ++ (qs.take (0 + j)).map oline) (by rw [List.length_append, List.length_map, List.length_map, List.length_take]; omega) (d := d) (r := r) (a0 := some (tabD n (qs.map (·.2)))) (a1 := some (.tup ((qs.map (·.1)).map .int))) (a2 := some (.tup (ps.map .int))) (a6 := none) (a7 := e7) (a8 := none)
      refine ⟨_, _, _, rfl, hb, _, _, _, rfl, ?_⟩
      have e3 : qs.take (0 + j + 1) = qs.take (0 + j) ++ [q] := by
        rw [List.take_succ, show 0 + j = j by omega, hq]
        rfl
      rw [e3]
      simp only [List.map_append, List.append_assoc, List.map_cons, List.map_nil])
  rw [List.length_map] at f3
  have t1 : qs.take (0 + qs.length) = qs := List.take_of_length_le (by omega)
  rw [t1] at f3
  subst f2 f3
  refine gc_rt (loc := [.lst ((linesT ps qs).map .str)]) rfl ?_ hr rfl
  refine (show Sseq _ _ _ _ = _ from seq_nx hfirst).trans ?_
  have hz : Izip (M2 idxD (Mvar 0) (Mc (.int 1))) (Mvar 1) [some (tabD n (qs.map (·.2))), some (.tup ((qs.map (·.1)).map .int)), some (.tup (ps.map .int)), some (.ref (r.length + 3)), none, none, none, none, none] (d.S (r ++ [.lst ((ps.map dline).map .str)])) = .ok (none, qs.map fun q => .tup [.tup (q.2.map .int), .int q.1]) (d.S (r ++ [.lst ((ps.map dline).map .str)])) := by
    have e1 : M2 idxD (Mvar 0) (Mc (.int 1)) [some (tabD n (qs.map (·.2))), some (.tup ((qs.map (·.1)).map .int)), some (.tup (ps.map .int)), some (.ref (r.length + 3)), none, none, none, none, none] (d.S (r ++ [.lst ((ps.map dline).map .str)])) = .ok (.tup (offsD (qs.map (·.2)))) (d.S (r ++ [.lst ((ps.map dline).map .str)])) := M2_eq (x := tabD n (qs.map (·.2))) (y := .int 1) rfl rfl (by unfold idxD tabD; simp only [rd, atI_1]; rfl)
    unfold Izip
    rw [e1]
    show Rs.ok (none, zipL (offsD (qs.map (·.2))) ((qs.map (·.1)).map D.int)) _ = _
    rw [e0]
  refine (show Sseq _ _ _ _ = _ from seq_nx (for_eq hz f1)).trans (ret_eq ?_)
  generalize henv : [some (tabD n (qs.map (·.2))), some (.tup ((qs.map (·.1)).map .int)), some (.tup (ps.map .int)), some (.ref (r.length + 3)), e4, e5, none, e7, none] = env
  have v3 : Mvar 3 env (d.S (r ++ [.lst ((linesT ps qs).map .str)])) = .ok (.ref (r.length + 3)) (d.S (r ++ [.lst ((linesT ps qs).map .str)])) := by rw [← henv]; rfl
  have hcomp : MComp (Mit (Mvar 3)) (.nm 8) none (M2 addD (Mvar 8) (Mc (.str "\n"))) [8] env (d.S (r ++ [.lst ((linesT ps qs).map .str)])) = .ok (((linesT ps qs).map (· ++ ("\n" : Str))).map .str) (d.S (r ++ [.lst ((linesT ps qs).map .str)])) := by
    have hi : iterD (d.S (r ++ [.lst ((linesT ps qs).map .str)])) (.ref (r.length + 3)) = some (some (r.length + 3, .lst ((linesT ps qs).map .str)), (linesT ps qs).map .str) := by
      unfold iterD
      simp only [at_loc]
    unfold MComp Mit
    simp only [v3, Rs.bind_ok, hi, optRi_some]
    rw [List.map_map]
    refine comp_pureG (g := some (r.length + 3, .lst ((linesT ps qs).map .str))) (p := .nm 8) (k := D.str) (show Gd (some (r.length + 3, O.lst ((linesT ps qs).map .str))) _ from at_loc) _ fun z hz => ?_
    have hzl := h.fit z hz
    refine ⟨(wipeD env [8]).set 8 (some (.str z)), rfl, M2_eq (x := .str z) (y := .str "\n") ?_ rfl ?_⟩
    · rw [← henv]; rfl
    · show (if z.length + ("\n" : Str).length ≤ sizeLine then some (D.str (z ++ ("\n" : Str))) else none) = _
      have s2 : ("\n" : Str).length = 1 := by decide +kernel
      rw [if_pos (by rw [s2, sizeLine_eq]; omega)]
      rfl
  have hfin := joins (sep := "") (frz_eq hcomp) (B := 169) (by
    intro z hz
    obtain ⟨y, hy, rfl⟩ := List.mem_map.mp hz
    have := h.fit y hy
    have s2 : ("\n" : Str).length = 1 := by decide +kernel
    rw [Str.length_append, s2]
    omega) (by decide +kernel) (by rw [List.length_map]; omega)
  rw [ends_eq] at hfin
  exact hfin

theorem comp_lines {ps : List Int} {n : Int} {qs : List (Int × List Int)} (h : Dat n ps qs) {me : ED} {env : DEnv} {S : List O} (he : ∀ x : Int, Fig x → me ((wipeD env [6]).set 6 (some (.int x))) S = .ok (.str (dline x)) S) (h2 : Mvar 2 env S = .ok (.tup (ps.map .int)) S) : MComp (Mit (Mvar 2)) (.nm 6) none me [6] env S = .ok ((ps.map dline).map .str) S := by
  unfold MComp Mit
  simp only [h2, Rs.bind_ok]
  rw [List.map_map]
  exact comp_pure (p := .nm 6) ps fun x hx => ⟨_, rfl, he x (h.amt x hx).fig⟩
theorem dline_eq (x : Int) : dline x = ("demand " : Str) ++ num x := by
  show (("demand" : Str) ++ (" " : Str)) ++ num x = _
  rw [show (("demand" : Str) ++ (" " : Str)) = ("demand " : Str) by decide +kernel]
theorem fmt_ok {n : Int} {ps : List Int} {qs : List (Int × List Int)} (h : Dat n ps qs) {d : Dk} {r : List O} (hr : Rok r) : φ_format_data [tabD n (qs.map (·.2)), .tup ((qs.map (·.1)).map .int), .tup (ps.map .int)] (d.S r) = .ok (.str (textT ps qs)) (d.S r) := by
  refine wr_ok h (first := Sasg (.nm 3) (Mnew (MComp (Mit (Mvar 2)) (.nm 6) none (Mfs [(Mfmt (Mc (.str "demand"))), (Mc (.str " ")), (Mfmt (Mvar 6))]) [6]))) rfl hr (asg_eq (new_eq (comp_lines h (fun x hx => ?_) rfl)))
  have hl := num_len hx.1 hx.2
  have f1 : fmtG (.str ("demand" : Str)) = some ("demand" : Str) := by
    show (if ("demand" : Str).length ≤ 16777216 then some ("demand" : Str) else none) = _
    rw [if_pos (by decide +kernel)]
  have f2 : fmtG (.int x) = some (num x) := by
    have := str_num hx (S := [])
    unfold strG at this
    show (if x.natAbs < 2 ^ 1900 then some (num x) else none) = _
    have h2 := hx.2
    have h1 := hx.1
    rw [if_pos (Nat.lt_of_lt_of_le (show x.natAbs < 2 ^ 64 by omega) (Nat.pow_le_pow_right (by decide) (by decide)))]
  have g1 : (Str.empty ++ ("demand" : Str)).length ≤ sizeLine := by decide +kernel
  have g2 : (Str.empty ++ ("demand" : Str) ++ (" " : Str)).length ≤ sizeLine := by decide +kernel
  have g4 : (Str.empty ++ ("demand" : Str) ++ (" " : Str)) = ("demand " : Str) := by decide +kernel
  have g5 : ("demand " : Str).length ≤ sizeLine := by decide +kernel
  have g3 : (("demand " : Str) ++ num x).length ≤ sizeLine := by
    rw [Str.length_append, sizeLine_eq]
    have : ("demand " : Str).length = 7 := by decide +kernel
    omega
  have v : ∀ S : List O, Mvar 6 ((wipeD [some (tabD n (qs.map (·.2))), some (.tup ((qs.map (·.1)).map .int)), some (.tup (ps.map .int)), none, none, none, none, none, none] [6]).set 6 (some (.int x))) S = .ok (.int x) S := fun _ => rfl
  unfold Mfs Mjs Mjs Mjs Mjs Mfmt
  rw [dline_eq]
  simp only [v, Mc, Rs.bind_ok, f1, f2, Option.map_some, optRs_some, g1, if_true, g2, g4, g3, g5]
theorem text_ok {n : Int} {ps : List Int} {qs : List (Int × List Int)} (h : Dat n ps qs) {d : Dk} {r : List O} (hr : Rok r) : φText [tabD n (qs.map (·.2)), .tup ((qs.map (·.1)).map .int), .tup (ps.map .int)] (d.S r) = .ok (.str (textT ps qs)) (d.S r) := by
  refine wr_ok h (first := Sasg (.nm 3) (Mnew (MComp (Mit (Mvar 2)) (.nm 6) none (M2 addD (Mc (.str "demand ")) (M1 strG (Mvar 6))) [6]))) rfl hr (asg_eq (new_eq (comp_lines h (fun x hx => ?_) rfl)))
  have hl := num_len hx.1 hx.2
  refine M2_eq (x := .str "demand ") (y := .str (num x)) rfl (M1_eq (x := .int x) rfl (str_num hx)) ?_
  show (if ("demand " : Str).length + (num x).length ≤ sizeLine then some (D.str (("demand " : Str) ++ num x)) else none) = _
  have s2 : ("demand " : Str).length = 7 := by decide +kernel
  rw [if_pos (by rw [s2, sizeLine_eq]; omega), dline_eq]
end PB.k66

set_option Elab.async false
set_option linter.all false
set_option maxRecDepth 100000
set_option maxHeartbeats 4000000

namespace PB.k66
open PySem PySem.Spec PyProof.Rows L2 PB
/-! ### the same twice -/
/-- data of ints, texts and tuples, by their depth -/
inductive Tree : Nat → D → Prop where
  | int {n : Nat} (i : Int) : Tree n (.int i)
  | str {n : Nat} {s : Str} (h : PyData.strOk s = true) : Tree n (.str s)
  | tup {n : Nat} {ds : List D} (h : ∀ d ∈ ds, Tree n d) (hl : ds.length ≤ 1000) : Tree (n + 1) (.tup ds)
theorem tree_okCs {n : Nat} {ds : List D} (ih : ∀ d ∈ ds, plain d = true ∧ PyData.canLay0 (toPy d) = true ∧ (toPy d).depth ≤ n) : plains ds = true ∧ PyData.canLayAll0 (toPys ds) = true ∧ PyData.depthAll (toPys ds) ≤ n := by
  induction ds with
  | nil => exact ⟨rfl, rfl, by simp [toPys, PyData.depthAll]⟩
  | cons d ds ih2 =>
    obtain ⟨h1, h2, h3⟩ := ih d (by simp)
    obtain ⟨g1, g2, g3⟩ := ih2 fun x hx => ih x (by simp [hx])
    refine ⟨by simp only [plains, h1, g1, Bool.and_self], by simp only [toPys, PyData.canLayAll0, h2, g2, Bool.and_self], ?_⟩
    simp only [toPys, PyData.depthAll]
    omega
theorem tree_ok {n : Nat} {d : D} (h : Tree n d) : plain d = true ∧ PyData.canLay0 (toPy d) = true ∧ (toPy d).depth ≤ n := by
  induction h with
  | int i => exact ⟨rfl, rfl, by simp [toPy, PyData.depth]⟩
  | str h => exact ⟨rfl, by simpa [toPy, PyData.canLay0] using h, by simp [toPy, PyData.depth]⟩
  | tup h hl ih =>
    obtain ⟨g1, g2, g3⟩ := tree_okCs ih
    refine ⟨by simp only [plain, g1], by simp only [toPy, PyData.canLay0, g2], ?_⟩
    simp only [toPy, PyData.depth]
    omega
theorem tree_okC {n : Nat} {d : D} (h : Tree n d) (hn : n ≤ 64) : okC d = true := by
  obtain ⟨h1, h2, h3⟩ := tree_ok h
  simp only [okC, h1, SeqAt.shaped, h2, Bool.true_and, decide_eq_true_eq]
  omega
theorem gc_wf {n N : Nat} {m : SD} {ds : List D} {S : List O} {v : D} (hn : ds.length = n) (hm : m (startD N ds) S = .rt v S) (hw : okS S.length S = true) (hv : plain v = true) : gcF n N m ds S = .ok v S := by
  unfold gcF
  rw [if_pos hn, hm]
  simp only [fin]
  rw [deref_plain hv, below_plain hv, hw, List.take_length]
  rfl
theorem comp_none {p : Pat} {mt me : ED} {env : DEnv} {S : List O} : ∀ ds : List D, (∀ d ∈ ds, ∃ env1, setP p d env = some env1 ∧ mt env1 S = .ok (.bl false) S) → compD none p (some mt) me env ds S = .ok [] S
  | [], _ => comp_nil
  | d :: ds, turn => by
    obtain ⟨env1, h1, h2⟩ := turn d (by simp)
    have ih := comp_none (me := me) ds fun x hx => turn x (by simp [hx])
    unfold compD
    refine (if_pos True.intro).trans ?_
    simp only [h1, h2, Rs.nx_ok, Rs.bind_ok]
    exact ih
theorem isi_eq {m : ED} {U : String} {env : DEnv} {S : List O} {d : D} {T : String} {b : Bool} (h : m env S = .ok d S) (hT : tyD S d = some T) (hb : kitB T U = some b) : Misi m U env S = .ok (.bl b) S := by
  unfold Misi
  simp only [h, Rs.bind_ok, hT, hb]
theorem isi2_f {m : ED} {U U2 : String} {env : DEnv} {S : List O} {d : D} {T : String} {b : Bool} (h : m env S = .ok d S) (hT : tyD S d = some T) (hb : kitB T U = some false) (hb2 : kitB T U2 = some b) : Misi2 m U U2 env S = .ok (.bl b) S := by
  unfold Misi2
  simp only [h, Rs.bind_ok, hT, hb, hb2]
theorem isi2_t {m : ED} {U U2 : String} {env : DEnv} {S : List O} {d : D} {T : String} (h : m env S = .ok d S) (hT : tyD S d = some T) (hb : kitB T U = some true) : Misi2 m U U2 env S = .ok (.bl true) S := by
  unfold Misi2
  simp only [h, Rs.bind_ok, hT, hb]
theorem neB {b : Bool} {S : List O} : neD (.bl b) (.bl b) S = some (.bl false) := neD_same (x := .bl b) (y := .bl b) rfl (okC_bl b)
theorem if_skip {c : ED} {a rest : SD} {env : DEnv} {S : List O} (h : c env S = .ok (.bl false) S) : Sseq (Sif c a Snx) rest env S = rest env S := seq_nx ((if_f h).trans rfl)
theorem same_int (φ : Fn) (i : Int) (S : List O) : m__law_same φ [some (.int i), some (.int i), none] S = .rt (.bl true) S := by
  have t : tyD S (.int i) = some "int" := rfl
  unfold m__law_same
  refine (if_skip (isi2_f (m := Mvar 1) rfl t (by decide +kernel) (by decide +kernel))).trans ?_
  refine (if_skip (isi_eq (m := Mvar 1) rfl t (by decide +kernel))).trans ?_
  refine (if_skip (M2_eq (a := Mvar 1) (b := Mc .non) (x := .int i) rfl rfl rfl)).trans ?_
  refine (if_skip (isi_eq (m := Mvar 1) rfl t (by decide +kernel))).trans (ret_eq ?_)
  refine (and_t (isi_eq (m := Mvar 0) rfl t (by decide +kernel))).trans ?_
  refine (and_t (M2_eq (isi_eq (m := Mvar 0) (b := false) rfl t (by decide +kernel)) (isi_eq (m := Mvar 1) (b := false) rfl t (by decide +kernel)) (eqD_same rfl (okC_bl false)))).trans ?_
  exact M2_eq (x := .int i) (y := .int i) rfl rfl (eqD_same rfl (okC_int i))
theorem same_str (φ : Fn) {z : Str} (hz : PyData.strOk z = true) (S : List O) : m__law_same φ [some (.str z), some (.str z), none] S = .rt (.bl true) S := by
  have t : tyD S (.str z) = some "str" := rfl
  unfold m__law_same
  refine (if_skip (isi2_f (m := Mvar 1) rfl t (by decide +kernel) (by decide +kernel))).trans ?_
  refine (if_skip (isi_eq (m := Mvar 1) rfl t (by decide +kernel))).trans ?_
  refine (if_skip (M2_eq (a := Mvar 1) (b := Mc .non) (x := .str z) rfl rfl rfl)).trans ?_
  refine seq_rt ((if_t (isi_eq (m := Mvar 1) rfl t (by decide +kernel))).trans (ret_eq ?_))
  refine (and_t (isi_eq (m := Mvar 0) rfl t (by decide +kernel))).trans ?_
  exact M2_eq (x := .str z) (y := .str z) rfl rfl (eqD_same rfl (okC_str hz))
theorem idx_D {ds : List D} {k : Nat} {a : D} {S : List O} (h : ds[k]? = some a) : idxD (.tup ds) (.int (k : Int)) S = some a := by
  unfold idxD
  simp only [rd, atI_nat, h]
theorem same_tup {φ : Fn} {ds : List D} {S : List O} (hl : ds.length ≤ 1000) (hφ : ∀ d ∈ ds, φ [d, d] S = .ok (.bl true) S) : m__law_same φ [some (.tup ds), some (.tup ds), none] S = .rt (.bl true) S := by
  have t : tyD S (.tup ds) = some "tuple" := rfl
  unfold m__law_same
  have lenE : ∀ i, i < 2 → M1 lenG (Mvar i) [some (.tup ds), some (.tup ds), none] S = .ok (.int ds.length) S := fun i hi => by
    refine M1_eq (x := .tup ds) ?_ rfl
    match i, hi with
    | 0, _ => rfl
    | 1, _ => rfl
  refine seq_rt ((if_t (isi2_t (m := Mvar 1) rfl t (by decide +kernel))).trans ?_)
  refine (if_skip (M2_eq (isi_eq (m := Mvar 0) (b := true) rfl t (by decide +kernel)) (isi_eq (m := Mvar 1) (b := true) rfl t (by decide +kernel)) neB)).trans ?_
  refine (if_skip (M2_eq (isi_eq (m := Mvar 0) (b := false) rfl t (by decide +kernel)) (isi_eq (m := Mvar 1) (b := false) rfl t (by decide +kernel)) neB)).trans ?_
  refine (if_skip (M2_eq (lenE 0 (by decide)) (lenE 1 (by decide)) (neD_same rfl (okC_int _)))).trans (ret_eq ?_)
  refine M2_eq (x := .lst []) (y := .lst []) (frz_eq ?_) rfl (eqD_same rfl okC_nil)
  unfold MComp
  rw [rng_eq (lenE 1 (by decide)) (by omega) (by omega)]
  refine comp_none (p := .nm 2) _ fun x hx => ?_
  obtain ⟨j, hj⟩ := List.mem_iff_getElem?.mp hx
  obtain ⟨rfl, hlt⟩ := rngD_get hj
  have hd : ds[j]? = some (ds[j]'(by omega)) := List.getElem?_eq_getElem (by omega)
  refine ⟨[some (.tup ds), some (.tup ds), some (.int (j : Int))], rfl, not_eq (b := true) ?_⟩
  refine call_eq (args2 (M2_eq (x := .tup ds) rfl rfl (idx_D hd)) (M2_eq (x := .tup ds) rfl rfl (idx_D hd))) rfl (hφ _ (List.getElem_mem _))
theorem same_ok : ∀ {n : Nat} {v : D}, Tree n v → ∀ {S : List O}, okS S.length S = true → φ__law_same_at (n + 1) [v, v] S = .ok (.bl true) S := by
  intro n
  induction n with
  | zero =>
    intro v h S hw
    refine gc_wf rfl ?_ hw rfl
    cases h with
    | int i => exact same_int _ i S
    | str hs => exact same_str _ hs S
  | succ n ih =>
    intro v h S hw
    refine gc_wf rfl ?_ hw rfl
    cases h with
    | int i => exact same_int _ i S
    | str hs => exact same_str _ hs S
    | tup h hl => exact same_tup hl fun d hd => ih (h d hd) hw
theorem tree_up {n m : Nat} {v : D} (h : Tree n v) (hm : n ≤ m) : Tree m v := by
  induction h generalizing m with
  | int i => exact .int i
  | str h => exact .str h
  | tup h hl ih =>
    obtain ⟨k, rfl⟩ : ∃ k, m = k + 1 := ⟨m - 1, by omega⟩
    exact .tup (fun d hd => ih d hd (by omega)) hl
theorem tree_ints {xs : List Int} (hl : xs.length ≤ 1000) : Tree 1 (.tup (xs.map .int)) := .tup (fun d hd => by
  obtain ⟨x, _, rfl⟩ := List.mem_map.mp hd
  exact .int x) (by rw [List.length_map]; exact hl)
theorem tree_pair {n : Nat} {a b : D} (ha : Tree n a) (hb : Tree n b) : Tree (n + 1) (.tup [a, b]) := .tup (fun d hd => by
  simp only [List.mem_cons, List.not_mem_nil, or_false] at hd
  rcases hd with rfl | rfl
  · exact ha
  · exact hb) (by simp)
theorem tree_tab {n : Int} {os : List (List Int)} (hl : os.length ≤ 1000) (h : ∀ xs ∈ os, xs.length ≤ 1000) : Tree 3 (tabD n os) := by
  refine tree_pair (.int n) (.tup (fun d hd => ?_) (by rw [offs_len]; exact hl))
  unfold offsD at hd
  obtain ⟨xs, hx, rfl⟩ := List.mem_map.mp hd
  exact tree_ints (h xs hx)
theorem tree_triple {n : Nat} {a b c : D} (ha : Tree n a) (hb : Tree n b) (hc : Tree n c) : Tree (n + 1) (.tup [a, b, c]) := .tup (fun d hd => by
  simp only [List.mem_cons, List.not_mem_nil, or_false] at hd
  rcases hd with rfl | rfl | rfl
  · exact ha
  · exact hb
  · exact hc) (by simp)
/-! ### what is shown -/
def Ascii (z : Str) : Prop := ∀ c ∈ TL.tl z, c < 128
theorem Ascii.app {a b : Str} (ha : Ascii a) (hb : Ascii b) : Ascii (a ++ b) := fun c hc => by
  rw [TL.tl_append] at hc
  rcases List.mem_append.mp hc with h | h
  · exact ha c h
  · exact hb c h
theorem ascii_from : ∀ (ts : List Str) (k : Nat) (acc : Str), Ascii acc → (∀ t ∈ ts, Ascii t) → Ascii (textFrom k acc ts)
  | [], _, acc, h, _ => h
  | t :: ts, k, acc, h, ht => by
    unfold textFrom
    refine ascii_from ts (k + 1) _ ((h.app ?_).app (ht t (by simp))) fun x hx => ht x (by simp [hx])
    by_cases hk : k > 0
    · rw [if_pos hk]; unfold Ascii; decide +kernel
    · rw [if_neg hk]; unfold Ascii; decide +kernel
theorem ascii_join {sep : Str} (hs : Ascii sep) : ∀ (ts : List Str), (∀ t ∈ ts, Ascii t) → Ascii (Str.join sep ts)
  | [], _ => fun c hc => by simp [Str.join, TL.tl, Str.empty] at hc
  | [t], h => h t (by simp)
  | t :: u :: r, h => ((h t (by simp)).app hs).app (ascii_join hs (u :: r) fun x hx => h x (List.mem_cons_of_mem _ hx))
theorem ascii_tup {ts : List Str} (h : ∀ t ∈ ts, Ascii t) : Ascii (tupleText ts) := by
  unfold tupleText
  refine (Ascii.app (Ascii.app ?_ (ascii_join ?_ ts h)) ?_)
  · unfold Ascii; decide +kernel
  · unfold Ascii; decide +kernel
  · by_cases hl : (ts.length == 1) = true
    · rw [if_pos hl]; unfold Ascii; decide +kernel
    · rw [if_neg hl]; unfold Ascii; decide +kernel
/-- shown data: plain, of signs below 128, no longer than B -/
structure Shows (k B : Nat) (d : D) : Prop where
  plain : plain d = true
  able : (toPy d).showable = true
  dep : (toPy d).depth ≤ k
  len : (toPy d).shown.length ≤ B
  asc : Ascii (toPy d).shown
theorem shown_all : ∀ ds : List D, PyData.shownAll (toPys ds) = ds.map fun d => (toPy d).shown
  | [] => rfl
  | d :: ds => by simp only [toPys, PyData.shownAll, List.map_cons, shown_all ds]
theorem shows_list {k B : Nat} : ∀ ds : List D, (∀ d ∈ ds, Shows k B d) → plains ds = true ∧ PyData.showableAll (toPys ds) = true ∧ PyData.depthAll (toPys ds) ≤ k
  | [], _ => ⟨rfl, rfl, by simp [toPys, PyData.depthAll]⟩
  | d :: ds, h => by
    obtain ⟨g1, g2, g3⟩ := shows_list ds fun x hx => h x (by simp [hx])
    have q := h d (by simp)
    refine ⟨by simp only [plains, q.plain, g1, Bool.and_self], by simp only [toPys, PyData.showableAll, q.able, g2, Bool.and_self], ?_⟩
    have := q.dep
    simp only [toPys, PyData.depthAll]
    omega
theorem shows_sum {k B N : Nat} {ds : List D} (h : ∀ d ∈ ds, Shows k B d) (hl : ds.length ≤ N) : ((ds.map fun d => (toPy d).shown).map (·.length)).sum + 2 * (ds.map fun d => (toPy d).shown).length + 3 ≤ N * B + 2 * N + 3 := by
  have h1 := sum_le (B := B) (ds.map fun d => (toPy d).shown) fun z hz => by
    obtain ⟨d, hd, rfl⟩ := List.mem_map.mp hz
    exact (h d hd).len
  rw [List.length_map] at h1 ⊢
  have h2 : ds.length * B ≤ N * B := Nat.mul_le_mul_right _ hl
  omega
theorem shows_tup {k B N : Nat} {ds : List D} (h : ∀ d ∈ ds, Shows k B d) (hl : ds.length ≤ N) : Shows (k + 1) (N * B + 2 * N + 3) (.tup ds) := by
  obtain ⟨g1, g2, g3⟩ := shows_list ds h
  refine ⟨by simp only [PB.plain, g1], by simp only [toPy, PyData.showable, g2], by simp only [toPy, PyData.depth]; omega, ?_, ?_⟩
  · simp only [toPy, PyData.shown, shown_all]
    exact Nat.le_trans (tupleText_len_le _) (shows_sum h hl)
  · simp only [toPy, PyData.shown, shown_all]
    refine ascii_tup fun t ht => ?_
    obtain ⟨d, hd, rfl⟩ := List.mem_map.mp ht
    exact (h d hd).asc
theorem shows_lst {k B N : Nat} {ds : List D} (h : ∀ d ∈ ds, Shows k B d) (hl : ds.length ≤ N) : Shows (k + 1) (N * B + 2 * N + 3) (.lst ds) := by
  obtain ⟨g1, g2, g3⟩ := shows_list ds h
  refine ⟨by simp only [PB.plain, g1], by simp only [toPy, PyData.showable, g2], by simp only [toPy, PyData.depth]; omega, ?_, ?_⟩
  · simp only [toPy, PyData.shown, shown_all]
    exact Nat.le_trans (listText_len_le _) (shows_sum h hl)
  · simp only [toPy, PyData.shown, shown_all]
    unfold listText
    refine (ascii_from _ _ _ (by unfold Ascii; decide +kernel) fun t ht => ?_).app (by unfold Ascii; decide +kernel)
    obtain ⟨d, hd, rfl⟩ := List.mem_map.mp ht
    exact (h d hd).asc
theorem shows_int {x : Int} (h : Fig x) : Shows 0 13 (.int x) := by
  refine ⟨rfl, ?_, by simp [toPy, PyData.depth], ?_, ?_⟩
  · have h1 := h.1
    have h2 := h.2
    simp only [toPy, PyData.showable, decide_eq_true_eq]
    exact Nat.lt_trans (PySem.Flt.log2_lt_of (show 0 < 64 by decide) (show x.natAbs < 2 ^ 64 by omega)) (by decide)
  · exact (num_len h.1 h.2).2
  · exact fun c hc => by have := num_dig h.1 c hc; omega
theorem Shows.up {k k' B B' : Nat} {d : D} (h : Shows k B d) (hk : k ≤ k') (hB : B ≤ B') : Shows k' B' d := ⟨h.plain, h.able, Nat.le_trans h.dep hk, Nat.le_trans h.len hB, h.asc⟩
theorem shows_ints {xs : List Int} (h : ∀ x ∈ xs, Fig x) (hl : xs.length ≤ 10) : Shows 1 153 (.tup (xs.map .int)) := by
  refine (shows_tup (k := 0) (B := 13) (N := 10) (fun d hd => ?_) (by rw [List.length_map]; exact hl)).up (Nat.le_refl _) (by decide)
  obtain ⟨x, hx, rfl⟩ := List.mem_map.mp hd
  exact shows_int (h x hx)
theorem shows_tab {n : Int} {os : List (List Int)} (hn : Fig n) (hl : os.length ≤ 10) (h : ∀ xs ∈ os, xs.length ≤ 10 ∧ ∀ x ∈ xs, Fig x) : Shows 3 3200 (tabD n os) := by
  have h1 : Shows 2 1560 (.tup (offsD os)) := (shows_tup (k := 1) (B := 153) (N := 10) (fun d hd => by
    unfold offsD at hd
    obtain ⟨xs, hx, rfl⟩ := List.mem_map.mp hd
    exact shows_ints (h xs hx).2 (h xs hx).1) (by rw [offs_len]; exact hl)).up (Nat.le_refl _) (by decide)
  refine (shows_tup (k := 2) (B := 1560) (N := 2) (fun d hd => ?_) (by simp)).up (Nat.le_refl _) (by decide)
  simp only [List.mem_cons, List.not_mem_nil, or_false] at hd
  rcases hd with rfl | rfl
  · exact (shows_int hn).up (by decide) (by decide)
  · exact h1
theorem repr_ok {k B : Nat} {ds : List D} (h : Shows k B (.lst ds)) (hk : k ≤ 20) (hB : B ≤ 100000) {S : List O} : ∃ t : Str, reprG (.lst ds) S = some (.str t) ∧ PyData.strOk t = true := by
  refine ⟨(toPy (.lst ds)).shown, ?_, ok_tl h.asc⟩
  unfold reprG
  exact if_pos ⟨h.plain, h.able, by have := h.dep; show (toPy (.lst ds)).depth ≤ 30; omega, rfl, by have := h.len; show (toPy (.lst ds)).shown.length ≤ 16777216; omega⟩
end PB.k66

set_option Elab.async false
set_option linter.all false
set_option maxRecDepth 100000
set_option maxHeartbeats 4000000

namespace PB.k66
open PySem PySem.Spec PyProof.Rows L2 PB
theorem q_next : φ__law_next = φNext := rfl
theorem q_part : φ__law_part = φPart := rfl
theorem q_shuf : φ__law_shuffled = φShuf := rfl
theorem q_tabl : φ__law_table = φTabl := rfl
theorem q_data : φ__law_data = φData := rfl
theorem q_deck : φ__law_deck = φDeck := rfl
theorem q_text : φ__law_text = φText := rfl
theorem asc_fit {n : Int} : ∀ (xs : List Int) (a : Int), xs.Pairwise (· < ·) → (∀ x ∈ xs, a ≤ x ∧ x < n) → xs.length ≤ (n - a).toNat
  | [], _, _, _ => Nat.zero_le _
  | x :: r, a, h, hr => by
    obtain ⟨h1, h2⟩ := List.pairwise_cons.mp h
    have h3 := asc_fit r (x + 1) h2 fun y hy => ⟨by have := h1 y hy; omega, (hr y (by simp [hy])).2⟩
    have h4 := hr x (by simp)
    rw [List.length_cons]
    omega
theorem asc_len {n : Int} {xs : List Int} (h : Asc n xs) (hn : n ≤ 10) : xs.length ≤ 10 := by
  have := asc_fit xs 0 h.pw h.rg
  omega
noncomputable def inB : SD := Sseq (Sif (Mnot (Mcall 2 φ__law_same (Mcons (Mtup (Mcons (Mcall 3 φ_format_data (Mcons (Mvar 3) (Mcons (Mvar 4) (Mcons (Mvar 5) Mnil)))) (Mcons (Mcall 1 φ_format_order (Mcons (Mvar 6) Mnil)) Mnil))) (Mcons (Mtup (Mcons (Mvar 8) (Mcons (Mvar 9) Mnil))) Mnil)))) (Sret (Mc (.bl false))) Snx) (Sif (Mnot (Mcall 2 φ__law_same (Mcons (Mtup (Mcons (Mcall 1 φ_parse_data (Mcons (Mvar 8) Mnil)) (Mcons (Mcall 1 φ_parse_order (Mcons (Mvar 9) Mnil)) Mnil))) (Mcons (Mtup (Mcons (Mtup (Mcons (Mvar 3) (Mcons (Mvar 4) (Mcons (Mvar 5) Mnil)))) (Mcons (Mvar 6) Mnil))) Mnil)))) (Sret (Mc (.bl false))) Snx)
noncomputable def kept : ED := M1 reprG (Mfrz (Mdisp (Mcons (Mvar 3) (Mcons (Mvar 4) (Mcons (Mvar 5) (Mcons (Mvar 6) Mnil))))))
noncomputable def turnB : SD := Sseq (Sasg (.nm 3) (Mcall 3 φ__law_table (Mcons (Mvar 1) (Mcons (Mc (.int 10)) (Mcons (Mc (.int 10)) Mnil))))) (Sseq (Sasg (.tp [(.nm 4), (.nm 5)]) (Mcall 2 φ__law_data (Mcons (Mvar 1) (Mcons (Mvar 3) Mnil)))) (Sseq (Sasg (.nm 6) (Mcall 2 φ__law_shuffled (Mcons (Mvar 1) (Mcons (M2 addD (Mc (.int 1)) (Mcall 2 φ__law_next (Mcons (Mvar 1) (Mcons (Mc (.int 10)) Mnil)))) Mnil)))) (Sseq (Spar 7 8 (Mcons kept (Mcons (Mcall 3 φ__law_text (Mcons (Mvar 3) (Mcons (Mvar 4) (Mcons (Mvar 5) Mnil)))) Mnil))) (Sseq (Sasg (.nm 9) (Mm1 joinG (Mc (.str ">")) (Mfrz (MComp (Mit (Mvar 6)) (.nm 11) none (M1 strG (Mvar 11)) [11])))) (Sseq (Sfor (Irng1 (Mc (.int 2))) (.nm 10) inB) (Sif (M2 neD kept (Mvar 7)) (Sret (Mc (.bl false))) Snx))))))
theorem if_skipE {c : ED} {a : SD} {env : DEnv} {S : List O} (h : c env S = .ok (.bl false) S) : Sif c a Snx env S = .nx env S := (if_f h).trans rfl
theorem args4 {a b e f : ED} {env : DEnv} {S : List O} {x y z w : D} (h1 : a env S = .ok x S) (h2 : b env S = .ok y S) (h3 : e env S = .ok z S) (h4 : f env S = .ok w S) : Mcons a (Mcons b (Mcons e (Mcons f Mnil))) env S = .ok [x, y, z, w] S := args_cons h1 (args_cons h2 (args_cons h3 (args_cons h4 rfl)))
theorem turn_ok {sc : D} {d : Dk} {c : Nat} (hd : d.ok c) (hc : c + 5000 < 2 ^ 60) (e2 e3 e4 e5 e6 e7 e8 e9 e10 : Option D) :
    ∃ (d' : Dk) (f3 f4 f5 f6 f7 f8 f9 f10 : Option D), turnB [some sc, some (.ref 2), e2, e3, e4, e5, e6, e7, e8, e9, e10, none] (d.S []) = .nx [some sc, some (.ref 2), e2, f3, f4, f5, f6, f7, f8, f9, f10, none] (d'.S []) ∧ d'.ok (c + 4000) := by
  obtain ⟨n, os, d1, h1, h2, ht⟩ := tabl_ok (n := 10) (m := 10) hd Rok.nil (by decide) (by decide) (by decide) (by decide) (by omega)
  obtain ⟨prices, pens, d2, g1, g2, g3, g4, g5, g6⟩ := data_ok h2 Rok.nil ht (by omega)
  have hlo := ht.lo
  have hhi := ht.hi
  have hfew := ht.few
  obtain ⟨x, d3, k1, k2, k3, k4⟩ := next_ok (many := 10) g2 (by omega) Rok.nil (by decide) (by decide)
  obtain ⟨order, d4, p1, p2, p3⟩ := shuf_ok (n := 1 + x) k2 Rok.nil (by omega) (by omega) (by omega)
  obtain ⟨o1, o2, o3⟩ := perm_rng p3
  have ofig : ∀ y ∈ order, Fig y := fun y hy => by have := o2 y hy; exact ⟨this.1, by omega⟩
  have m1 : (prices.zip os).map (·.1) = prices := List.map_fst_zip (by omega)
  have m2 : (prices.zip os).map (·.2) = os := List.map_snd_zip (by omega)
  have dat : Dat n pens (prices.zip os) := ⟨hlo, hhi, by omega, g6, fun q hq => by
    obtain ⟨a, b⟩ := q
    obtain ⟨q1, q2⟩ := List.of_mem_zip hq
    exact ⟨g5 a q1, ht.asc b q2, asc_len (ht.asc b q2) hhi⟩, by rw [List.length_zip]; omega⟩
  have wf : okS (d4.S []).length (d4.S []) = true := okS_deck Rok.nil
  have T1 := text_ok dat (d := d4) Rok.nil
  have T2 := fmt_ok dat (d := d4) Rok.nil
  have T3 := pdata_ok dat (d := d4) Rok.nil
  rw [m1, m2] at T1 T2 T3
  have T4 := fmt_order ofig (by omega) (d := d4) Rok.nil
  have T5 := porder_ok p3 (by omega) (by omega) (d := d4) Rok.nil
  have a3 := asg_eq (i := 3) (call_eq (φ := φ__law_table) (args3 (a := Mvar 1) (b := Mc (.int 10)) (e := Mc (.int 10)) (env := [some sc, some (.ref 2), e2, e3, e4, e5, e6, e7, e8, e9, e10, none]) (S := d.S []) rfl rfl rfl) rfl (show φ__law_table _ _ = _ by rw [q_tabl]; exact h1))
  have a45 := asgT_eq (i := 4) (j := 5) (call_eq (φ := φ__law_data) (args2 (a := Mvar 1) (b := Mvar 3) (env := [some sc, some (.ref 2), e2, some (tabD n os), e4, e5, e6, e7, e8, e9, e10, none]) (S := d1.S []) rfl rfl) rfl (show φ__law_data _ _ = _ by rw [q_data]; exact g1))
  have a6 := asg_eq (i := 6) (call_eq (φ := φ__law_shuffled) (args2 (a := Mvar 1) (b := M2 addD (Mc (.int 1)) (Mcall 2 φ__law_next (Mcons (Mvar 1) (Mcons (Mc (.int 10)) Mnil)))) (env := [some sc, some (.ref 2), e2, some (tabD n os), some (.tup (prices.map .int)), some (.tup (pens.map .int)), e6, e7, e8, e9, e10, none]) (S := d2.S []) rfl (M2_eq (x := .int 1) rfl (call_eq (φ := φ__law_next) (args2 (a := Mvar 1) (b := Mc (.int 10)) rfl rfl) rfl (show φ__law_next _ _ = _ by rw [q_next]; exact k1)) add_int)) rfl (show φ__law_shuffled _ _ = _ by rw [q_shuf]; exact p1))
  have nfig : Fig n := ⟨by omega, by omega⟩
  have sh : Shows 4 13000 (.lst [tabD n os, .tup (prices.map .int), .tup (pens.map .int), .tup (order.map .int)]) := (shows_lst (k := 3) (B := 3200) (N := 4) (fun z hz => by
    simp only [List.mem_cons, List.not_mem_nil, or_false] at hz
    rcases hz with rfl | rfl | rfl | rfl
    · exact shows_tab nfig hfew fun xs hx => ⟨asc_len (ht.asc xs hx) hhi, fun y hy => by have := (ht.asc xs hx).rg y hy; exact ⟨this.1, by omega⟩⟩
    · exact (shows_ints (fun y hy => (g5 y hy).fig) (by omega)).up (by decide) (by decide)
    · exact (shows_ints (fun y hy => (g6 y hy).fig) (by omega)).up (by decide) (by decide)
    · exact (shows_ints ofig (by omega)).up (by decide) (by decide)) (by simp)).up (Nat.le_refl _) (by decide)
  obtain ⟨t, ht1, ht2⟩ := repr_ok sh (by decide) (by decide) (S := d4.S [])
  have kp : ∀ f7 f8 f9 f10 : Option D, kept [some sc, some (.ref 2), e2, some (tabD n os), some (.tup (prices.map .int)), some (.tup (pens.map .int)), some (.tup (order.map .int)), f7, f8, f9, f10, none] (d4.S []) = .ok (.str t) (d4.S []) := fun f7 f8 f9 f10 => M1_eq (frz_eq (disp_eq (args4 rfl rfl rfl rfl) (by show 4 ≤ 1000; decide))) ht1
  have a78 := par_eq (i := 7) (j := 8) (kp e7 e8 e9 e10) (call_eq (φ := φ__law_text) (args3 (a := Mvar 3) (b := Mvar 4) (e := Mvar 5) rfl rfl rfl) rfl (show φ__law_text _ _ = _ by rw [q_text]; exact T1))
  have a9 := asg_eq (i := 9) (forder_ok (p := .nm 11) (e := M1 strG (Mvar 11)) (a := Mvar 6) (vs := [11]) (env := [some sc, some (.ref 2), e2, some (tabD n os), some (.tup (prices.map .int)), some (.tup (pens.map .int)), some (.tup (order.map .int)), some (.str t), some (.str (textT pens (prices.zip os))), e9, e10, none]) (S := d4.S []) ofig (by omega) rfl fun y hy => ⟨_, rfl, M1_eq (x := .int y) rfl (str_num (ofig y hy))⟩)
  have ot : PyData.strOk (orderT order) = true := ok_tl fun c hcm => by
    by_cases h : c < 128
    · exact h
    · exact absurd hcm (join_free (by rw [tl_gt]; simp; omega) fun p hp => by
        obtain ⟨y, hy, rfl⟩ := List.mem_map.mp hp
        exact num_free (ofig y hy).1 (by omega))
  have tt : PyData.strOk (textT pens (prices.zip os)) = true := ok_tl fun c hcm => by
    by_cases h : c < 128
    · exact h
    · refine absurd hcm (join_free (by rw [tl_nl]; simp; omega) fun p hp => ?_)
      unfold linesT at hp
      have dem : c ∉ TL.tl ("demand" : Str) := by rw [tl_dem]; simp; omega
      have off : c ∉ TL.tl ("offer" : Str) := by rw [tl_off]; simp; omega
      have sp : c ∉ TL.tl (" " : Str) := by rw [tl_sp]; simp; omega
      rcases List.mem_append.mp hp with hp | hp
      · rcases List.mem_append.mp hp with hp | hp
        · obtain ⟨y, hy, rfl⟩ := List.mem_map.mp hp
          refine join_free sp fun z hz => ?_
          simp only [List.mem_cons, List.not_mem_nil, or_false] at hz
          rcases hz with rfl | rfl
          · exact dem
          · exact num_free (g6 y hy).1 (by omega)
        · obtain ⟨q, hq, rfl⟩ := List.mem_map.mp hp
          refine join_free sp fun z hz => ?_
          rcases List.mem_cons.mp hz with rfl | hz
          · exact off
          · have : z ∈ (q.1 :: q.2).map num := hz
            obtain ⟨y, hy, rfl⟩ := List.mem_map.mp this
            exact num_free ((dat.off q hq).fig hhi y hy).1 (by omega)
      · rw [List.mem_singleton.mp hp, tl_em]
        simp
  have tr1 : Tree 7 (.tup [.str (textT pens (prices.zip os)), .str (orderT order)]) := tree_up (tree_pair (n := 0) (.str tt) (.str ot)) (by decide)
  have tr2 : Tree 7 (.tup [.tup [tabD n os, .tup (prices.map .int), .tup (pens.map .int)], .tup (order.map .int)]) := tree_up (tree_pair (n := 4) (tree_triple (n := 3) (tree_tab (by omega) fun xs hx => by have := asc_len (ht.asc xs hx) hhi; omega) (tree_up (tree_ints (by omega)) (by decide)) (tree_up (tree_ints (by omega)) (by decide))) (tree_up (tree_ints (by omega)) (by decide))) (by decide)
  have s1 := same_ok tr1 wf
  have s2 := same_ok tr2 wf
  have inner : ∀ f10 : Option D, inB [some sc, some (.ref 2), e2, some (tabD n os), some (.tup (prices.map .int)), some (.tup (pens.map .int)), some (.tup (order.map .int)), some (.str t), some (.str (textT pens (prices.zip os))), some (.str (orderT order)), f10, none] (d4.S []) = .nx [some sc, some (.ref 2), e2, some (tabD n os), some (.tup (prices.map .int)), some (.tup (pens.map .int)), some (.tup (order.map .int)), some (.str t), some (.str (textT pens (prices.zip os))), some (.str (orderT order)), f10, none] (d4.S []) := fun f10 => by
    unfold inB
    refine (if_skip (not_eq (b := true) ?_)).trans (if_skipE (not_eq (b := true) ?_))
    · exact call_eq (φ := φ__law_same) (args2 (tup2 (call_eq (φ := φ_format_data) (args3 (a := Mvar 3) (b := Mvar 4) (e := Mvar 5) rfl rfl rfl) rfl T2) (call_eq (φ := φ_format_order) (args_cons (a := Mvar 6) (b := Mnil) rfl rfl) rfl T4)) (tup2 (a := Mvar 8) (b := Mvar 9) rfl rfl)) rfl s1
    · exact call_eq (φ := φ__law_same) (args2 (tup2 (call_eq (φ := φ_parse_data) (args_cons (a := Mvar 8) (b := Mnil) rfl rfl) rfl T3) (call_eq (φ := φ_parse_order) (args_cons (a := Mvar 9) (b := Mnil) rfl rfl) rfl T5)) (tup2 (tup_eq (args3 (a := Mvar 3) (b := Mvar 4) (e := Mvar 5) rfl rfl rfl) (by show 3 ≤ 1000; decide)) (b := Mvar 6) rfl)) rfl s2
  obtain ⟨env', S', q1, f10, q2, q3⟩ := forD_inv (p := .nm 10) (b := inB) (fun j env S => ∃ f10 : Option D, env = [some sc, some (.ref 2), e2, some (tabD n os), some (.tup (prices.map .int)), some (.tup (pens.map .int)), some (.tup (order.map .int)), some (.str t), some (.str (textT pens (prices.zip os))), some (.str (orderT order)), f10, none] ∧ S = d4.S []) ((rngL 0 2).map .int) 0
    [some sc, some (.ref 2), e2, some (tabD n os), some (.tup (prices.map .int)), some (.tup (pens.map .int)), some (.tup (order.map .int)), some (.str t), some (.str (textT pens (prices.zip os))), some (.str (orderT order)), e10, none] (d4.S []) ⟨_, rfl, rfl⟩ (by
      rintro j y env S hy ⟨f10, rfl, rfl⟩
      exact ⟨_, _, _, rfl, inner (some y), _, rfl, rfl⟩)
  subst q2 q3
  have af := for_eq (mi := Irng1 (Mc (.int 2))) (rng_eq (n := 2) rfl (by decide) (by decide)) q1
  refine ⟨d4, some (tabD n os), some (.tup (prices.map .int)), some (.tup (pens.map .int)), some (.tup (order.map .int)), some (.str t), some (.str (textT pens (prices.zip os))), some (.str (orderT order)), f10, ?_, p2.mono (by omega)⟩
  unfold turnB
  refine (show Sseq _ _ _ _ = _ from seq_nx a3).trans ?_
  refine (show Sseq _ _ _ _ = _ from seq_nx a45).trans ?_
  refine (show Sseq _ _ _ _ = _ from seq_nx a6).trans ?_
  refine (show Sseq _ _ _ _ = _ from seq_nx a78).trans ?_
  refine (show Sseq _ _ _ _ = _ from seq_nx a9).trans ?_
  refine (show Sseq _ _ _ _ = _ from seq_nx af).trans ?_
  exact if_skipE (M2_eq (b := Mvar 7) (kp _ _ _ _) rfl (neD_same rfl (okC_str ht2)))
theorem sound : ∀ ns : List Int, ns.length ≤ 63 → ∃ S, m_law (startD N_law.length [.scr (ns.map D.int)]) [] = .rt (.bl true) S := by
  intro ns hl
  obtain ⟨d, h1, h2⟩ := deck_ok (ns := ns) (by omega)
  have a1 := asg_eq (i := 1) (call_eq (φ := φ__law_deck) (args_cons (a := Mvar 0) (b := Mnil) (env := [some (.scr (ns.map D.int)), none, none, none, none, none, none, none, none, none, none, none]) (S := []) rfl rfl) rfl (show φ__law_deck _ _ = _ by rw [q_deck]; exact h1))
  obtain ⟨env', S', q1, d', e2, e3, e4, e5, e6, e7, e8, e9, e10, q2, q3, q4⟩ := forD_inv (p := .nm 2) (b := turnB) (fun j env S => ∃ (d : Dk) (e2 e3 e4 e5 e6 e7 e8 e9 e10 : Option D), env = [some (.scr (ns.map D.int)), some (.ref 2), e2, e3, e4, e5, e6, e7, e8, e9, e10, none] ∧ S = d.S [] ∧ d.ok (4000 * j)) ((rngL 0 8).map .int) 0
    [some (.scr (ns.map D.int)), some (.ref 2), none, none, none, none, none, none, none, none, none, none] (d.S []) ⟨d, _, _, _, _, _, _, _, _, _, rfl, rfl, h2⟩ (by
      rintro j y env S hy ⟨d, e2, e3, e4, e5, e6, e7, e8, e9, e10, rfl, rfl, hd⟩
      have hj : (j : Int) < 8 := (rngD_get hy).2
      obtain ⟨d', f3, f4, f5, f6, f7, f8, f9, f10, t1, t2⟩ := turn_ok (sc := .scr (ns.map D.int)) hd (by omega) (some y) e3 e4 e5 e6 e7 e8 e9 e10
      exact ⟨_, _, _, rfl, t1, d', _, _, _, _, _, _, _, _, _, rfl, rfl, t2.mono (by omega)⟩)
  have af := for_eq (mi := Irng1 (Mc (.int 8))) (rng_eq (n := 8) rfl (by decide) (by decide)) q1
  refine ⟨S', ?_⟩
  unfold m_law
  refine (show Sseq _ _ _ _ = _ from seq_nx a1).trans ?_
  refine (show Sseq _ _ _ _ = _ from seq_nx af).trans ?_
  exact ret_eq rfl
end PB.k66

set_option Elab.async false
set_option linter.all false
set_option maxRecDepth 100000
set_option maxHeartbeats 4000000

namespace PB.k66
open PySem PySem.Spec PyProof.Rows L2 PB
theorem all_mk {l : PySem.W.OpenLaw} {w : World} {K : PySem.W.Frag} {h : Heap} {mg : Str → Option Value} {fa : Addr} (X : K.In h) (G : h.Ns mainGlobals mg) (hfa : mg "law" = some (.ref fa))
    {f0 : Addr} {od0 an0 : Option Addr} {sl0 : Array (Option Value)} {oc0 kV0 dc0 pm0 cd0 ct0 : Value}
    {f1 : Addr} {od1 an1 : Option Addr} {sl1 : Array (Option Value)} {oc1 kV1 dc1 pm1 cd1 ct1 : Value}
    {f2 : Addr} {od2 an2 : Option Addr} {sl2 : Array (Option Value)} {oc2 kV2 dc2 pm2 cd2 ct2 : Value}
    {f3 : Addr} {od3 an3 : Option Addr} {sl3 : Array (Option Value)} {oc3 kV3 dc3 pm3 cd3 ct3 : Value}
    {f4 : Addr} {od4 an4 : Option Addr} {sl4 : Array (Option Value)} {oc4 kV4 dc4 pm4 cd4 ct4 : Value}
    {f5 : Addr} {od5 an5 : Option Addr} {sl5 : Array (Option Value)} {oc5 kV5 dc5 pm5 cd5 ct5 : Value}
    {f6 : Addr} {od6 an6 : Option Addr} {sl6 : Array (Option Value)} {oc6 kV6 dc6 pm6 cd6 ct6 : Value}
    {f7 : Addr} {od7 an7 : Option Addr} {sl7 : Array (Option Value)} {oc7 kV7 dc7 pm7 cd7 ct7 : Value}
    {f8 : Addr} {od8 an8 : Option Addr} {sl8 : Array (Option Value)} {oc8 kV8 dc8 pm8 cd8 ct8 : Value}
    {f9 : Addr} {od9 an9 : Option Addr} {sl9 : Array (Option Value)} {oc9 kV9 dc9 pm9 cd9 ct9 : Value}
    {f10 : Addr} {od10 an10 : Option Addr} {sl10 : Array (Option Value)} {oc10 kV10 dc10 pm10 cd10 ct10 : Value}
    {f11 : Addr} {od11 an11 : Option Addr} {sl11 : Array (Option Value)} {oc11 kV11 dc11 pm11 cd11 ct11 : Value}
    {f12 : Addr} {od12 an12 : Option Addr} {sl12 : Array (Option Value)} {oc12 kV12 dc12 pm12 cd12 ct12 : Value}
    {f13 : Addr} {od13 an13 : Option Addr} {sl13 : Array (Option Value)} {oc13 kV13 dc13 pm13 cd13 ct13 : Value}
    {f14 : Addr} {od14 an14 : Option Addr} {sl14 : Array (Option Value)} {oc14 kV14 dc14 pm14 cd14 ct14 : Value}
    {f15 : Addr} {od15 an15 : Option Addr} {sl15 : Array (Option Value)} {oc15 kV15 dc15 pm15 cd15 ct15 : Value}
    {f16 : Addr} {od16 an16 : Option Addr} {sl16 : Array (Option Value)} {oc16 kV16 dc16 pm16 cd16 ct16 : Value}
    {f17 : Addr} {od17 an17 : Option Addr} {sl17 : Array (Option Value)} {oc17 kV17 dc17 pm17 cd17 ct17 : Value}
    {f18 : Addr} {od18 an18 : Option Addr} {sl18 : Array (Option Value)} {oc18 kV18 dc18 pm18 cd18 ct18 : Value}
    {f19 : Addr} {od19 an19 : Option Addr} {sl19 : Array (Option Value)} {oc19 kV19 dc19 pm19 cd19 ct19 : Value}
    {f20 : Addr} {od20 an20 : Option Addr} {sl20 : Array (Option Value)} {oc20 kV20 dc20 pm20 cd20 ct20 : Value}
    {f21 : Addr} {od21 an21 : Option Addr} {sl21 : Array (Option Value)} {oc21 kV21 dc21 pm21 cd21 ct21 : Value}
    {f22 : Addr} {od22 an22 : Option Addr} {sl22 : Array (Option Value)} {oc22 kV22 dc22 pm22 cd22 ct22 : Value}
    {f23 : Addr} {od23 an23 : Option Addr} {sl23 : Array (Option Value)} {oc23 kV23 dc23 pm23 cd23 ct23 : Value}
    {f24 : Addr} {od24 an24 : Option Addr} {sl24 : Array (Option Value)} {oc24 kV24 dc24 pm24 cd24 ct24 : Value}
    {t_DEMAND : Tok}
    {t_DIGITS : Tok}
    {t_LONGEST : Tok}
    {t_MAX_DEMANDS : Tok}
    {t_MAX_OFFERS : Tok}
    {t_OFFER : Tok}
    (a0 : PySem.W.nsIn K mainGlobals "is_ascending" = some (some (.ref f0))) (l0 : K.lookup f0 = some ⟨oc0, od0, .func (PySem.W.fnOf "is_ascending" "is_ascending" (defArgs st_is_ascending) (defBody st_is_ascending) (defScope st_is_ascending) .none kV0 dc0 pm0 an0 cd0 ct0), sl0⟩) (c0 : PySem.W.codeIn K cd0 "is_ascending" = true) (k0 : PySem.W.keepIn K (.ref f0) = true)
    (a1 : PySem.W.nsIn K mainGlobals "format_data" = some (some (.ref f1))) (l1 : K.lookup f1 = some ⟨oc1, od1, .func (PySem.W.fnOf "format_data" "format_data" (defArgs st_format_data) (defBody st_format_data) (defScope st_format_data) .none kV1 dc1 pm1 an1 cd1 ct1), sl1⟩) (c1 : PySem.W.codeIn K cd1 "format_data" = true) (k1 : PySem.W.keepIn K (.ref f1) = true)
    (a2 : PySem.W.nsIn K mainGlobals "format_order" = some (some (.ref f2))) (l2 : K.lookup f2 = some ⟨oc2, od2, .func (PySem.W.fnOf "format_order" "format_order" (defArgs st_format_order) (defBody st_format_order) (defScope st_format_order) .none kV2 dc2 pm2 an2 cd2 ct2), sl2⟩) (c2 : PySem.W.codeIn K cd2 "format_order" = true) (k2 : PySem.W.keepIn K (.ref f2) = true)
    (a3 : PySem.W.nsIn K mainGlobals "parse_integer" = some (some (.ref f3))) (l3 : K.lookup f3 = some ⟨oc3, od3, .func (PySem.W.fnOf "parse_integer" "parse_integer" (defArgs st_parse_integer) (defBody st_parse_integer) (defScope st_parse_integer) .none kV3 dc3 pm3 an3 cd3 ct3), sl3⟩) (c3 : PySem.W.codeIn K cd3 "parse_integer" = true) (k3 : PySem.W.keepIn K (.ref f3) = true)
    (a4 : PySem.W.nsIn K mainGlobals "parse_integers" = some (some (.ref f4))) (l4 : K.lookup f4 = some ⟨oc4, od4, .func (PySem.W.fnOf "parse_integers" "parse_integers" (defArgs st_parse_integers) (defBody st_parse_integers) (defScope st_parse_integers) .none kV4 dc4 pm4 an4 cd4 ct4), sl4⟩) (c4 : PySem.W.codeIn K cd4 "parse_integers" = true) (k4 : PySem.W.keepIn K (.ref f4) = true)
    (a5 : PySem.W.nsIn K mainGlobals "check_string" = some (some (.ref f5))) (l5 : K.lookup f5 = some ⟨oc5, od5, .func (PySem.W.fnOf "check_string" "check_string" (defArgs st_check_string) (defBody st_check_string) (defScope st_check_string) .none kV5 dc5 pm5 an5 cd5 ct5), sl5⟩) (c5 : PySem.W.codeIn K cd5 "check_string" = true) (k5 : PySem.W.keepIn K (.ref f5) = true)
    (a6 : PySem.W.nsIn K mainGlobals "parse_demand" = some (some (.ref f6))) (l6 : K.lookup f6 = some ⟨oc6, od6, .func (PySem.W.fnOf "parse_demand" "parse_demand" (defArgs st_parse_demand) (defBody st_parse_demand) (defScope st_parse_demand) .none kV6 dc6 pm6 an6 cd6 ct6), sl6⟩) (c6 : PySem.W.codeIn K cd6 "parse_demand" = true) (k6 : PySem.W.keepIn K (.ref f6) = true)
    (a7 : PySem.W.nsIn K mainGlobals "parse_offer" = some (some (.ref f7))) (l7 : K.lookup f7 = some ⟨oc7, od7, .func (PySem.W.fnOf "parse_offer" "parse_offer" (defArgs st_parse_offer) (defBody st_parse_offer) (defScope st_parse_offer) .none kV7 dc7 pm7 an7 cd7 ct7), sl7⟩) (c7 : PySem.W.codeIn K cd7 "parse_offer" = true) (k7 : PySem.W.keepIn K (.ref f7) = true)
    (a8 : PySem.W.nsIn K mainGlobals "parse_line" = some (some (.ref f8))) (l8 : K.lookup f8 = some ⟨oc8, od8, .func (PySem.W.fnOf "parse_line" "parse_line" (defArgs st_parse_line) (defBody st_parse_line) (defScope st_parse_line) .none kV8 dc8 pm8 an8 cd8 ct8), sl8⟩) (c8 : PySem.W.codeIn K cd8 "parse_line" = true) (k8 : PySem.W.keepIn K (.ref f8) = true)
    (a9 : PySem.W.nsIn K mainGlobals "parse_data" = some (some (.ref f9))) (l9 : K.lookup f9 = some ⟨oc9, od9, .func (PySem.W.fnOf "parse_data" "parse_data" (defArgs st_parse_data) (defBody st_parse_data) (defScope st_parse_data) .none kV9 dc9 pm9 an9 cd9 ct9), sl9⟩) (c9 : PySem.W.codeIn K cd9 "parse_data" = true) (k9 : PySem.W.keepIn K (.ref f9) = true)
    (a10 : PySem.W.nsIn K mainGlobals "parse_order" = some (some (.ref f10))) (l10 : K.lookup f10 = some ⟨oc10, od10, .func (PySem.W.fnOf "parse_order" "parse_order" (defArgs st_parse_order) (defBody st_parse_order) (defScope st_parse_order) .none kV10 dc10 pm10 an10 cd10 ct10), sl10⟩) (c10 : PySem.W.codeIn K cd10 "parse_order" = true) (k10 : PySem.W.keepIn K (.ref f10) = true)
    (a11 : PySem.W.nsIn K mainGlobals "_law_deck" = some (some (.ref f11))) (l11 : K.lookup f11 = some ⟨oc11, od11, .func (PySem.W.fnOf "_law_deck" "_law_deck" (defArgs st__law_deck) (defBody st__law_deck) (defScope st__law_deck) .none kV11 dc11 pm11 an11 cd11 ct11), sl11⟩) (c11 : PySem.W.codeIn K cd11 "_law_deck" = true) (k11 : PySem.W.keepIn K (.ref f11) = true)
    (a12 : PySem.W.nsIn K mainGlobals "_law_next" = some (some (.ref f12))) (l12 : K.lookup f12 = some ⟨oc12, od12, .func (PySem.W.fnOf "_law_next" "_law_next" (defArgs st__law_next) (defBody st__law_next) (defScope st__law_next) .none kV12 dc12 pm12 an12 cd12 ct12), sl12⟩) (c12 : PySem.W.codeIn K cd12 "_law_next" = true) (k12 : PySem.W.keepIn K (.ref f12) = true)
    (a13 : PySem.W.nsIn K mainGlobals "_law_one" = some (some (.ref f13))) (l13 : K.lookup f13 = some ⟨oc13, od13, .func (PySem.W.fnOf "_law_one" "_law_one" (defArgs st__law_one) (defBody st__law_one) (defScope st__law_one) .none kV13 dc13 pm13 an13 cd13 ct13), sl13⟩) (c13 : PySem.W.codeIn K cd13 "_law_one" = true) (k13 : PySem.W.keepIn K (.ref f13) = true)
    (a14 : PySem.W.nsIn K mainGlobals "_law_same" = some (some (.ref f14))) (l14 : K.lookup f14 = some ⟨oc14, od14, .func (PySem.W.fnOf "_law_same" "_law_same" (defArgs st__law_same) (defBody st__law_same) (defScope st__law_same) .none kV14 dc14 pm14 an14 cd14 ct14), sl14⟩) (c14 : PySem.W.codeIn K cd14 "_law_same" = true) (k14 : PySem.W.keepIn K (.ref f14) = true)
    (a15 : PySem.W.nsIn K mainGlobals "_law_part" = some (some (.ref f15))) (l15 : K.lookup f15 = some ⟨oc15, od15, .func (PySem.W.fnOf "_law_part" "_law_part" (defArgs st__law_part) (defBody st__law_part) (defScope st__law_part) .none kV15 dc15 pm15 an15 cd15 ct15), sl15⟩) (c15 : PySem.W.codeIn K cd15 "_law_part" = true) (k15 : PySem.W.keepIn K (.ref f15) = true)
    (a16 : PySem.W.nsIn K mainGlobals "_law_shuffled" = some (some (.ref f16))) (l16 : K.lookup f16 = some ⟨oc16, od16, .func (PySem.W.fnOf "_law_shuffled" "_law_shuffled" (defArgs st__law_shuffled) (defBody st__law_shuffled) (defScope st__law_shuffled) .none kV16 dc16 pm16 an16 cd16 ct16), sl16⟩) (c16 : PySem.W.codeIn K cd16 "_law_shuffled" = true) (k16 : PySem.W.keepIn K (.ref f16) = true)
    (a17 : PySem.W.nsIn K mainGlobals "_law_intervals" = some (some (.ref f17))) (l17 : K.lookup f17 = some ⟨oc17, od17, .func (PySem.W.fnOf "_law_intervals" "_law_intervals" (defArgs st__law_intervals) (defBody st__law_intervals) (defScope st__law_intervals) .none kV17 dc17 pm17 an17 cd17 ct17), sl17⟩) (c17 : PySem.W.codeIn K cd17 "_law_intervals" = true) (k17 : PySem.W.keepIn K (.ref f17) = true)
    (a18 : PySem.W.nsIn K mainGlobals "_law_around" = some (some (.ref f18))) (l18 : K.lookup f18 = some ⟨oc18, od18, .func (PySem.W.fnOf "_law_around" "_law_around" (defArgs st__law_around) (defBody st__law_around) (defScope st__law_around) .none kV18 dc18 pm18 an18 cd18 ct18), sl18⟩) (c18 : PySem.W.codeIn K cd18 "_law_around" = true) (k18 : PySem.W.keepIn K (.ref f18) = true)
    (a19 : PySem.W.nsIn K mainGlobals "_law_any" = some (some (.ref f19))) (l19 : K.lookup f19 = some ⟨oc19, od19, .func (PySem.W.fnOf "_law_any" "_law_any" (defArgs st__law_any) (defBody st__law_any) (defScope st__law_any) .none kV19 dc19 pm19 an19 cd19 ct19), sl19⟩) (c19 : PySem.W.codeIn K cd19 "_law_any" = true) (k19 : PySem.W.keepIn K (.ref f19) = true)
    (a20 : PySem.W.nsIn K mainGlobals "_law_table" = some (some (.ref f20))) (l20 : K.lookup f20 = some ⟨oc20, od20, .func (PySem.W.fnOf "_law_table" "_law_table" (defArgs st__law_table) (defBody st__law_table) (defScope st__law_table) .none kV20 dc20 pm20 an20 cd20 ct20), sl20⟩) (c20 : PySem.W.codeIn K cd20 "_law_table" = true) (k20 : PySem.W.keepIn K (.ref f20) = true)
    (a21 : PySem.W.nsIn K mainGlobals "_law_amount" = some (some (.ref f21))) (l21 : K.lookup f21 = some ⟨oc21, od21, .func (PySem.W.fnOf "_law_amount" "_law_amount" (defArgs st__law_amount) (defBody st__law_amount) (defScope st__law_amount) .none kV21 dc21 pm21 an21 cd21 ct21), sl21⟩) (c21 : PySem.W.codeIn K cd21 "_law_amount" = true) (k21 : PySem.W.keepIn K (.ref f21) = true)
    (a22 : PySem.W.nsIn K mainGlobals "_law_data" = some (some (.ref f22))) (l22 : K.lookup f22 = some ⟨oc22, od22, .func (PySem.W.fnOf "_law_data" "_law_data" (defArgs st__law_data) (defBody st__law_data) (defScope st__law_data) .none kV22 dc22 pm22 an22 cd22 ct22), sl22⟩) (c22 : PySem.W.codeIn K cd22 "_law_data" = true) (k22 : PySem.W.keepIn K (.ref f22) = true)
    (a23 : PySem.W.nsIn K mainGlobals "_law_text" = some (some (.ref f23))) (l23 : K.lookup f23 = some ⟨oc23, od23, .func (PySem.W.fnOf "_law_text" "_law_text" (defArgs st__law_text) (defBody st__law_text) (defScope st__law_text) .none kV23 dc23 pm23 an23 cd23 ct23), sl23⟩) (c23 : PySem.W.codeIn K cd23 "_law_text" = true) (k23 : PySem.W.keepIn K (.ref f23) = true)
    (a24 : PySem.W.nsIn K mainGlobals "law" = some (some (.ref f24))) (l24 : K.lookup f24 = some ⟨oc24, od24, .func (PySem.W.fnOf "law" "law" (defArgs st_law) (defBody st_law) (defScope st_law) .none kV24 dc24 pm24 an24 cd24 ct24), sl24⟩) (c24 : PySem.W.codeIn K cd24 "law" = true) (k24 : PySem.W.keepIn K (.ref f24) = true)
    (z_abs : PySem.W.nsIn K mainGlobals "abs" = some none)
    (z_all : PySem.W.nsIn K mainGlobals "all" = some none)
    (z_bool : PySem.W.nsIn K mainGlobals "bool" = some none)
    (z_dict : PySem.W.nsIn K mainGlobals "dict" = some none)
    (z_enumerate : PySem.W.nsIn K mainGlobals "enumerate" = some none)
    (z_int : PySem.W.nsIn K mainGlobals "int" = some none)
    (z_isinstance : PySem.W.nsIn K mainGlobals "isinstance" = some none)
    (z_len : PySem.W.nsIn K mainGlobals "len" = some none)
    (z_list : PySem.W.nsIn K mainGlobals "list" = some none)
    (z_range : PySem.W.nsIn K mainGlobals "range" = some none)
    (z_repr : PySem.W.nsIn K mainGlobals "repr" = some none)
    (z_sorted : PySem.W.nsIn K mainGlobals "sorted" = some none)
    (z_str : PySem.W.nsIn K mainGlobals "str" = some none)
    (z_tuple : PySem.W.nsIn K mainGlobals "tuple" = some none)
    (z_zip : PySem.W.nsIn K mainGlobals "zip" = some none)
    (y_DEMAND : PySem.W.nsIn K mainGlobals "DEMAND" = some (some (.str "demand" t_DEMAND)))
    (y_DIGITS : PySem.W.nsIn K mainGlobals "DIGITS" = some (some (.str "0123456789" t_DIGITS)))
    (y_LONGEST : PySem.W.nsIn K mainGlobals "LONGEST" = some (some (.int 13 t_LONGEST)))
    (y_MAX_AMOUNT : ∃ t, mg "MAX_AMOUNT" = some (.int 1000000000000 t))
    (y_MAX_DEMANDS : PySem.W.nsIn K mainGlobals "MAX_DEMANDS" = some (some (.int 10 t_MAX_DEMANDS)))
    (y_MAX_OFFERS : PySem.W.nsIn K mainGlobals "MAX_OFFERS" = some (some (.int 10 t_MAX_OFFERS)))
    (y_OFFER : PySem.W.nsIn K mainGlobals "OFFER" = some (some (.str "offer" t_OFFER))) :
    ∃ (fd : FuncData) (cf : Cf), cf.K = K ∧ Fun K "law" "law" st_law fa fd ∧ (∀ (s : Shared) (u : Value), BindsTo s fd ⟨[u], []⟩ [("_law_script", u)]) ∧ ∀ base : Heap, K.In base → base.Ns mainGlobals mg → WalkedG l.prog w K mg base cf 8 fa "law" st_law N_law m_law := by
  have e := hfa.symm.trans (PySem.W.mg_of X G a24)
  cases e
  have F0 := fun_mk (st := st_is_ascending) l0 c0 k0
  have F1 := fun_mk (st := st_format_data) l1 c1 k1
  have F2 := fun_mk (st := st_format_order) l2 c2 k2
  have F3 := fun_mk (st := st_parse_integer) l3 c3 k3
  have F4 := fun_mk (st := st_parse_integers) l4 c4 k4
  have F5 := fun_mk (st := st_check_string) l5 c5 k5
  have F6 := fun_mk (st := st_parse_demand) l6 c6 k6
  have F7 := fun_mk (st := st_parse_offer) l7 c7 k7
  have F8 := fun_mk (st := st_parse_line) l8 c8 k8
  have F9 := fun_mk (st := st_parse_data) l9 c9 k9
  have F10 := fun_mk (st := st_parse_order) l10 c10 k10
  have F11 := fun_mk (st := st__law_deck) l11 c11 k11
  have F12 := fun_mk (st := st__law_next) l12 c12 k12
  have F13 := fun_mk (st := st__law_one) l13 c13 k13
  have F14 := fun_mk (st := st__law_same) l14 c14 k14
  have F15 := fun_mk (st := st__law_part) l15 c15 k15
  have F16 := fun_mk (st := st__law_shuffled) l16 c16 k16
  have F17 := fun_mk (st := st__law_intervals) l17 c17 k17
  have F18 := fun_mk (st := st__law_around) l18 c18 k18
  have F19 := fun_mk (st := st__law_any) l19 c19 k19
  have F20 := fun_mk (st := st__law_table) l20 c20 k20
  have F21 := fun_mk (st := st__law_amount) l21 c21 k21
  have F22 := fun_mk (st := st__law_data) l22 c22 k22
  have F23 := fun_mk (st := st__law_text) l23 c23 k23
  have F24 := fun_mk (st := st_law) l24 c24 k24
  have T : Tp K mg := ⟨PySem.W.mg_none_of X G z_abs,
    PySem.W.mg_none_of X G z_all,
    PySem.W.mg_none_of X G z_bool,
    PySem.W.mg_none_of X G z_dict,
    PySem.W.mg_none_of X G z_enumerate,
    PySem.W.mg_none_of X G z_int,
    PySem.W.mg_none_of X G z_isinstance,
    PySem.W.mg_none_of X G z_len,
    PySem.W.mg_none_of X G z_list,
    PySem.W.mg_none_of X G z_range,
    PySem.W.mg_none_of X G z_repr,
    PySem.W.mg_none_of X G z_sorted,
    PySem.W.mg_none_of X G z_str,
    PySem.W.mg_none_of X G z_tuple,
    PySem.W.mg_none_of X G z_zip,
    ⟨_, PySem.W.mg_of X G y_DEMAND⟩,
    ⟨_, PySem.W.mg_of X G y_DIGITS⟩,
    ⟨_, PySem.W.mg_of X G y_LONGEST⟩,
    y_MAX_AMOUNT,
    ⟨_, PySem.W.mg_of X G y_MAX_DEMANDS⟩,
    ⟨_, PySem.W.mg_of X G y_MAX_OFFERS⟩,
    ⟨_, PySem.W.mg_of X G y_OFFER⟩,
    ⟨_, _, F0, PySem.W.mg_of X G a0, k0, F0.binds (ps := ["items"]) fun _ _ _ _ _ _ us hl => match us, hl with | [_], _ => rfl⟩,
    ⟨_, _, F1, PySem.W.mg_of X G a1, k1, F1.binds (ps := ["table", "prices", "penalties"]) fun _ _ _ _ _ _ us hl => match us, hl with | [_, _, _], _ => rfl⟩,
    ⟨_, _, F2, PySem.W.mg_of X G a2, k2, F2.binds (ps := ["order"]) fun _ _ _ _ _ _ us hl => match us, hl with | [_], _ => rfl⟩,
    ⟨_, _, F3, PySem.W.mg_of X G a3, k3, F3.binds (ps := ["word"]) fun _ _ _ _ _ _ us hl => match us, hl with | [_], _ => rfl⟩,
    ⟨_, _, F4, PySem.W.mg_of X G a4, k4, F4.binds (ps := ["words"]) fun _ _ _ _ _ _ us hl => match us, hl with | [_], _ => rfl⟩,
    ⟨_, _, F5, PySem.W.mg_of X G a5, k5, F5.binds (ps := ["value"]) fun _ _ _ _ _ _ us hl => match us, hl with | [_], _ => rfl⟩,
    ⟨_, _, F6, PySem.W.mg_of X G a6, k6, F6.binds (ps := ["penalties", "numbers"]) fun _ _ _ _ _ _ us hl => match us, hl with | [_, _], _ => rfl⟩,
    ⟨_, _, F7, PySem.W.mg_of X G a7, k7, F7.binds (ps := ["offers", "count", "numbers"]) fun _ _ _ _ _ _ us hl => match us, hl with | [_, _, _], _ => rfl⟩,
    ⟨_, _, F8, PySem.W.mg_of X G a8, k8, F8.binds (ps := ["penalties", "offers", "line"]) fun _ _ _ _ _ _ us hl => match us, hl with | [_, _, _], _ => rfl⟩,
    ⟨_, _, F9, PySem.W.mg_of X G a9, k9, F9.binds (ps := ["value"]) fun _ _ _ _ _ _ us hl => match us, hl with | [_], _ => rfl⟩,
    ⟨_, _, F10, PySem.W.mg_of X G a10, k10, F10.binds (ps := ["value"]) fun _ _ _ _ _ _ us hl => match us, hl with | [_], _ => rfl⟩,
    ⟨_, _, F11, PySem.W.mg_of X G a11, k11, F11.binds (ps := ["_law_script"]) fun _ _ _ _ _ _ us hl => match us, hl with | [_], _ => rfl⟩,
    ⟨_, _, F12, PySem.W.mg_of X G a12, k12, F12.binds (ps := ["_law_deck_here", "_law_many"]) fun _ _ _ _ _ _ us hl => match us, hl with | [_, _], _ => rfl⟩,
    ⟨_, _, F13, PySem.W.mg_of X G a13, k13, F13.binds (ps := ["_law_deck_here", "_law_some"]) fun _ _ _ _ _ _ us hl => match us, hl with | [_, _], _ => rfl⟩,
    ⟨_, _, F14, PySem.W.mg_of X G a14, k14, F14.binds (ps := ["_law_found", "_law_due"]) fun _ _ _ _ _ _ us hl => match us, hl with | [_, _], _ => rfl⟩,
    ⟨_, _, F15, PySem.W.mg_of X G a15, k15, F15.binds (ps := ["_law_deck_here", "_law_items", "_law_share"]) fun _ _ _ _ _ _ us hl => match us, hl with | [_, _, _], _ => rfl⟩,
    ⟨_, _, F16, PySem.W.mg_of X G a16, k16, F16.binds (ps := ["_law_deck_here", "_law_count"]) fun _ _ _ _ _ _ us hl => match us, hl with | [_, _], _ => rfl⟩,
    ⟨_, _, F17, PySem.W.mg_of X G a17, k17, F17.binds (ps := ["_law_deck_here", "_law_demands", "_law_offers"]) fun _ _ _ _ _ _ us hl => match us, hl with | [_, _, _], _ => rfl⟩,
    ⟨_, _, F18, PySem.W.mg_of X G a18, k18, F18.binds (ps := ["_law_deck_here", "_law_demands", "_law_offers"]) fun _ _ _ _ _ _ us hl => match us, hl with | [_, _, _], _ => rfl⟩,
    ⟨_, _, F19, PySem.W.mg_of X G a19, k19, F19.binds (ps := ["_law_deck_here", "_law_demands", "_law_offers"]) fun _ _ _ _ _ _ us hl => match us, hl with | [_, _, _], _ => rfl⟩,
    ⟨_, _, F20, PySem.W.mg_of X G a20, k20, F20.binds (ps := ["_law_deck_here", "_law_demands", "_law_offers"]) fun _ _ _ _ _ _ us hl => match us, hl with | [_, _, _], _ => rfl⟩,
    ⟨_, _, F21, PySem.W.mg_of X G a21, k21, F21.binds (ps := ["_law_deck_here"]) fun _ _ _ _ _ _ us hl => match us, hl with | [_], _ => rfl⟩,
    ⟨_, _, F22, PySem.W.mg_of X G a22, k22, F22.binds (ps := ["_law_deck_here", "_law_table_here"]) fun _ _ _ _ _ _ us hl => match us, hl with | [_, _], _ => rfl⟩,
    ⟨_, _, F23, PySem.W.mg_of X G a23, k23, F23.binds (ps := ["_law_table_here", "_law_prices", "_law_penalties"]) fun _ _ _ _ _ _ us hl => match us, hl with | [_, _, _], _ => rfl⟩,
    ⟨_, _, F24, PySem.W.mg_of X G a24, k24, F24.binds (ps := ["_law_script"]) fun _ _ _ _ _ _ us hl => match us, hl with | [_], _ => rfl⟩⟩
  exact ⟨_, { K := K, ct := fun _ => 0 }, rfl, F24, fun s v => .of_eq rfl, fun base _ _ => w_law T rfl (c__law_data T rfl) (c__law_deck T rfl) (c__law_next T rfl) (c__law_same T rfl) (c__law_shuffled T rfl) (c__law_table T rfl) (c__law_text T rfl) (c_format_data T rfl) (c_format_order T rfl) (c_parse_data T rfl) (c_parse_order T rfl)⟩
end PB.k66
open PySem PySem.W PyProof.Rows
set_option maxRecDepth 100000 in
set_option maxHeartbeats 0 in
theorem PySem.Challenge.cw_payorder_k66_texts_formatted_and_parsed_holds : PySem.Challenge.rw_payorder_k66_texts_formatted_and_parsed.Holds := by
  w_on; o_law; k_head; (case hw => w_witness2)
  k_fill
  refine PB.walk_end (l := PySem.Challenge.rw_payorder_k66_texts_formatted_and_parsed) (nm := "law") (k := 8) (top := 63) rfl (by decide) rfl ⟨rfl, by decide, by decide⟩ PB.k66.sc_law (fun w h Y => PySem.W.kIn_of Y) ?F PB.k66.sound
  case F =>
    intro w mg fa h KX XX G hmg
    refine' PB.k66.all_mk KX G hmg ?a0 ?l0 ?c0 ?k0 ?a1 ?l1 ?c1 ?k1 ?a2 ?l2 ?c2 ?k2 ?a3 ?l3 ?c3 ?k3 ?a4 ?l4 ?c4 ?k4 ?a5 ?l5 ?c5 ?k5 ?a6 ?l6 ?c6 ?k6 ?a7 ?l7 ?c7 ?k7 ?a8 ?l8 ?c8 ?k8 ?a9 ?l9 ?c9 ?k9 ?a10 ?l10 ?c10 ?k10 ?a11 ?l11 ?c11 ?k11 ?a12 ?l12 ?c12 ?k12 ?a13 ?l13 ?c13 ?k13 ?a14 ?l14 ?c14 ?k14 ?a15 ?l15 ?c15 ?k15 ?a16 ?l16 ?c16 ?k16 ?a17 ?l17 ?c17 ?k17 ?a18 ?l18 ?c18 ?k18 ?a19 ?l19 ?c19 ?k19 ?a20 ?l20 ?c20 ?k20 ?a21 ?l21 ?c21 ?k21 ?a22 ?l22 ?c22 ?k22 ?a23 ?l23 ?c23 ?k23 ?a24 ?l24 ?c24 ?k24 ?z_abs ?z_all ?z_bool ?z_dict ?z_enumerate ?z_int ?z_isinstance ?z_len ?z_list ?z_range ?z_repr ?z_sorted ?z_str ?z_tuple ?z_zip ?y_DEMAND ?y_DIGITS ?y_LONGEST (PB.loose_int XX.2 (by simp)) ?y_MAX_DEMANDS ?y_MAX_OFFERS ?y_OFFER
    (case a0 => k_is); (case l0 => k_is); (case c0 => k_is); (case k0 => k_is); (case a1 => k_is)
    (case l1 => k_is); (case c1 => k_is); (case k1 => k_is); (case a2 => k_is); (case l2 => k_is)
    (case c2 => k_is); (case k2 => k_is); (case a3 => k_is); (case l3 => k_is); (case c3 => k_is)
    (case k3 => k_is); (case a4 => k_is); (case l4 => k_is); (case c4 => k_is); (case k4 => k_is)
    (case a5 => k_is); (case l5 => k_is); (case c5 => k_is); (case k5 => k_is); (case a6 => k_is)
    (case l6 => k_is); (case c6 => k_is); (case k6 => k_is); (case a7 => k_is); (case l7 => k_is)
    (case c7 => k_is); (case k7 => k_is); (case a8 => k_is); (case l8 => k_is); (case c8 => k_is)
    (case k8 => k_is); (case a9 => k_is); (case l9 => k_is); (case c9 => k_is); (case k9 => k_is)
    (case a10 => k_is); (case l10 => k_is); (case c10 => k_is); (case k10 => k_is); (case a11 => k_is)
    (case l11 => k_is); (case c11 => k_is); (case k11 => k_is); (case a12 => k_is); (case l12 => k_is)
    (case c12 => k_is); (case k12 => k_is); (case a13 => k_is); (case l13 => k_is); (case c13 => k_is)
    (case k13 => k_is); (case a14 => k_is); (case l14 => k_is); (case c14 => k_is); (case k14 => k_is)
    (case a15 => k_is); (case l15 => k_is); (case c15 => k_is); (case k15 => k_is); (case a16 => k_is)
    (case l16 => k_is); (case c16 => k_is); (case k16 => k_is); (case a17 => k_is); (case l17 => k_is)
    (case c17 => k_is); (case k17 => k_is); (case a18 => k_is); (case l18 => k_is); (case c18 => k_is)
    (case k18 => k_is); (case a19 => k_is); (case l19 => k_is); (case c19 => k_is); (case k19 => k_is)
    (case a20 => k_is); (case l20 => k_is); (case c20 => k_is); (case k20 => k_is); (case a21 => k_is)
    (case l21 => k_is); (case c21 => k_is); (case k21 => k_is); (case a22 => k_is); (case l22 => k_is)
    (case c22 => k_is); (case k22 => k_is); (case a23 => k_is); (case l23 => k_is); (case c23 => k_is)
    (case k23 => k_is); (case a24 => k_is); (case l24 => k_is); (case c24 => k_is); (case k24 => k_is)
    (case z_abs => k_is); (case z_all => k_is); (case z_bool => k_is); (case z_dict => k_is); (case z_enumerate => k_is)
    (case z_int => k_is); (case z_isinstance => k_is); (case z_len => k_is); (case z_list => k_is); (case z_range => k_is)
    (case z_repr => k_is); (case z_sorted => k_is); (case z_str => k_is); (case z_tuple => k_is); (case z_zip => k_is)
    (case y_DEMAND => k_is); (case y_DIGITS => k_is); (case y_LONGEST => k_is); (case y_MAX_DEMANDS => k_is); (case y_MAX_OFFERS => k_is)
    (case y_OFFER => k_is)
#print axioms PySem.Challenge.cw_payorder_k66_texts_formatted_and_parsed_holds
