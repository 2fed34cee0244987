import PyProof.Rows.All
import Wide.All
import OpenK.AllK
import Wide.FinOn
import HandS.ForMost
import HandS.Exc
import HandS.TryOnly
import HandS.ExcOwn
import HandS.CallSlots
import HandS.HotCalls
import HandS.Zip
import HandS.Wide
import HandS.Conv
import HandS.Deep
import HandS.TupMul
import HandS.TupAny
import KE.SortData
import HandS.Flow
import HandS.ExcIs
import HandS.ExcCtx
import HandS.Ends
import PySem.Challenge.RW_queuenets_k37_streams_that_meet
set_option maxHeartbeats 4000000
set_option Elab.async false
set_option linter.all false
set_option maxRecDepth 100000
set_option autoImplicit false
/-! Den1: pure data, a small memory of mutable containers, computations, and how they lie in HandS' abstract heap. -/
namespace Den
open PySem PySem.Spec PyProof.Rows L2

abbrev D := PyData
abbrev St := L2.St
/-- what a name holds: pure data, a handle of a mutable container, a def of the module; n: a container just made; s: the script; e: a caught error -/
inductive W where
  | d (x : D) | r (n : Nat) | n (x : D) | f (x : Str) | s (xs : List D) | e (a : Addr)
/-- what a handle names: a list or a dict; nothing any more -/
abbrev Mem := List (Option D)
abbrev Env := List (Option W)
inductive Exc where
  | own (x : Str)
  | low (x : Str) (fld : Str) (v : D)
  deriving Inhabited
inductive Rs (β : Type) where
  | ok (b : β) (m : Mem) | ex (c : Exc) (m : Mem) | no
abbrev EM (β : Type) := Env → Mem → Rs β

def val : W → W
  | .n x => .d x
  | w => w
def Rs.bind {β γ : Type} : Rs β → (β → Mem → Rs γ) → Rs γ
  | .ok b m, k => k b m
  | .ex c m, _ => .ex c m
  | .no, _ => .no
/-- the value of an operand -/
def Rs.bindV {γ : Type} : Rs W → (W → Mem → Rs γ) → Rs γ
  | .ok w m, k => k (val w) m
  | .ex c m, _ => .ex c m
  | .no, _ => .no
/-- the data that an operand is -/
def peek (m : Mem) : W → Option D
  | .d x => some x
  | .n x => some x
  | .r n => (m[n]?).join
  | .f _ => none
  | .s _ => none
  | .e _ => none

section
variable (K : PySem.W.Frag) (O : Addr → Prop) (H : Hp)
/-- a list that nobody may change: not one of the mutable ones -/
def SqF (a : Addr) (vs : List V) : Prop := H a = some (.lst vs) ∧ ¬ O a
/-- the script: a list that is locked, or of the module -/
def SqS (a : Addr) (vs : List V) : Prop :=
  (∃ o, H a = some (.frz o (.lst vs))) ∨
    ∃ (o : Obj) (its : Array Value) (n : Nat), K.lookup a = some o ∧ o.cls = .type "list" ∧ o.dict = none ∧ o.data = .seq its n ∧ its.size ≤ sizeLine ∧ Vals vs its.toList
/-- a key of a dict: an int or a text -/
def keyD : Key → D
  | .inl i => .int i
  | .inr x => .str x
mutual
def RepD : D → V → Prop
  | .none, v => v = .non
  | .bool b, v => v = .bl b
  | .int i, v => v = .int i
  | .str x, v => v = .str x
  | .tuple ds, v => ∃ a vs, v = .ref a ∧ SqT K H a vs ∧ RepDs ds vs
  | .list ds, v => ∃ a vs, v = .ref a ∧ SqF O H a vs ∧ RepDs ds vs
  | .dict kvs, v => ∃ a, v = .ref a ∧ ¬ O a ∧ ((∃ kz, H a = some (.dK kz) ∧ RepK kvs kz) ∨ (∃ kz, H a = some (.dT kz) ∧ RepT kvs kz))
def RepDs : List D → List V → Prop
  | [], vs => vs = []
  | x :: ds, vs => ∃ v r, vs = v :: r ∧ RepD x v ∧ RepDs ds r
def RepK : List (D × D) → List (Key × V) → Prop
  | [], kz => kz = []
  | (k, x) :: kvs, kz => ∃ key v r, kz = (key, v) :: r ∧ k = keyD key ∧ RepD x v ∧ RepK kvs r
def RepT : List (D × D) → List (List Key × V) → Prop
  | [], kz => kz = []
  | (k, x) :: kvs, kz => ∃ key v r, kz = (key, v) :: r ∧ k = .tuple (key.map keyD) ∧ RepD x v ∧ RepT kvs r
end
/-- a mutable container's object -/
def ObOk : D → Addr → Prop
  | .list ds, a => ∃ vs, H a = some (.lst vs) ∧ RepDs K O H ds vs
  | .dict kvs, a => (∃ kz, H a = some (.dK kz) ∧ RepK K O H kvs kz) ∨ (∃ kz, H a = some (.dT kz) ∧ RepT K O H kvs kz)
  | _, _ => False
end

/-- the mutable ones are left to whoever changes them, all else stays; a new mutable one is new -/
structure Ext (O : Addr → Prop) (H : Hp) (O' : Addr → Prop) (H' : Hp) : Prop where
  tup : ∀ a vs, H a = some (.tup vs) → H' a = some (.tup vs)
  frz : ∀ a o u, H a = some (.frz o u) → H' a = some (.frz o u)
  oth : ∀ a o, H a = some o → ¬ O a → H' a = some o
  new : ∀ a, O' a → O a ∨ H a = none
theorem Ext.refl {O : Addr → Prop} {H : Hp} : Ext O H O H := ⟨fun _ _ h => h, fun _ _ _ h => h, fun _ _ h _ => h, fun _ h => .inl h⟩
theorem Ext.trans {O O1 O2 : Addr → Prop} {H H1 H2 : Hp} (e : Ext O H O1 H1) (e2 : Ext O1 H1 O2 H2) : Ext O H O2 H2 where
  tup := fun a vs h => e2.tup a vs (e.tup a vs h)
  frz := fun a o u h => e2.frz a o u (e.frz a o u h)
  oth := fun a o h n => e2.oth a o (e.oth a o h n) fun z => (e.new a z).elim n fun q => by rw [h] at q; cases q
  new := fun a z => by
    rcases e2.new a z with q | q
    · exact e.new a q
    · cases hh : H a with
      | none => exact .inr rfl
      | some o =>
        by_cases n : O a
        · exact .inl n
        · have := e.oth a o hh n
          rw [q] at this; cases this
theorem Ext.weak {O O1 O2 : Addr → Prop} {H H1 : Hp} (e : Ext O H O1 H1) (h : ∀ a, O2 a → O1 a) : Ext O H O2 H1 := ⟨e.tup, e.frz, e.oth, fun a z => e.new a (h a z)⟩

section
variable {K : PySem.W.Frag} {O O' : Addr → Prop} {H H' : Hp} {a : Addr} {vs : List V}
theorem sqT_ext (e : Ext O H O' H') (h : SqT K H a vs) : SqT K H' a vs := by
  rcases h with (h | ⟨o, h⟩) | h
  · exact .inl (.inl (e.tup _ _ h))
  · exact .inl (.inr ⟨o, e.frz _ _ _ h⟩)
  · exact .inr h
theorem sqF_ext (e : Ext O H O' H') (h : SqF O H a vs) : SqF O' H' a vs :=
  ⟨e.oth _ _ h.1 h.2, fun z => (e.new a z).elim h.2 fun q => by rw [h.1] at q; cases q⟩
theorem sqS_ext (e : Ext O H O' H') (h : SqS K H a vs) : SqS K H' a vs := by
  rcases h with ⟨o, h⟩ | h
  · exact .inl ⟨o, e.frz _ _ _ h⟩
  · exact .inr h
theorem sqS_L (h : SqS K H a vs) : SqL K H a vs := by
  rcases h with ⟨o, h⟩ | h
  · exact .inl (.inr ⟨o, h⟩)
  · exact .inr h
mutual
theorem RepD.ext (e : Ext O H O' H') : ∀ (x : D) (v : V), RepD K O H x v → RepD K O' H' x v
  | .none, _, h => h
  | .bool _, _, h => h
  | .int _, _, h => h
  | .str _, _, h => h
  | .tuple ds, _, ⟨a, vs, h1, h2, h3⟩ => ⟨a, vs, h1, sqT_ext e h2, RepDs.ext e ds vs h3⟩
  | .list ds, _, ⟨a, vs, h1, h2, h3⟩ => ⟨a, vs, h1, sqF_ext e h2, RepDs.ext e ds vs h3⟩
  | .dict kvs, _, ⟨a, h1, n, h2⟩ => ⟨a, h1, fun z => (e.new a z).elim n fun q => by
      rcases h2 with ⟨_, h2, _⟩ | ⟨_, h2, _⟩ <;> (rw [h2] at q; cases q), by
      rcases h2 with ⟨kz, h2, h3⟩ | ⟨kz, h2, h3⟩
      · exact .inl ⟨kz, e.oth _ _ h2 n, RepK.ext e kvs kz h3⟩
      · exact .inr ⟨kz, e.oth _ _ h2 n, RepT.ext e kvs kz h3⟩⟩
theorem RepDs.ext (e : Ext O H O' H') : ∀ (ds : List D) (vs : List V), RepDs K O H ds vs → RepDs K O' H' ds vs
  | [], _, h => h
  | x :: ds, _, ⟨v, r, h1, h2, h3⟩ => ⟨v, r, h1, RepD.ext e x v h2, RepDs.ext e ds r h3⟩
theorem RepK.ext (e : Ext O H O' H') : ∀ (ds : List (D × D)) (vs : List (Key × V)), RepK K O H ds vs → RepK K O' H' ds vs
  | [], _, h => h
  | (k, x) :: ds, _, ⟨key, v, r, h1, h2, h3, h4⟩ => ⟨key, v, r, h1, h2, RepD.ext e x v h3, RepK.ext e ds r h4⟩
theorem RepT.ext (e : Ext O H O' H') : ∀ (ds : List (D × D)) (vs : List (List Key × V)), RepT K O H ds vs → RepT K O' H' ds vs
  | [], _, h => h
  | (k, x) :: ds, _, ⟨key, v, r, h1, h2, h3, h4⟩ => ⟨key, v, r, h1, h2, RepD.ext e x v h3, RepT.ext e ds r h4⟩
end
theorem obOk_ext (e : Ext O H O' H') (n : ¬ O a) : ∀ {x : D}, ObOk K O H x a → ObOk K O' H' x a
  | .none, h => h.elim
  | .bool _, h => h.elim
  | .int _, h => h.elim
  | .str _, h => h.elim
  | .tuple _, h => h.elim
  | .list ds, ⟨vs, h1, h2⟩ => ⟨vs, e.oth _ _ h1 n, h2.ext e⟩
  | .dict kvs, h => by
    rcases h with ⟨kz, h2, h3⟩ | ⟨kz, h2, h3⟩
    · exact .inl ⟨kz, e.oth _ _ h2 n, RepK.ext e kvs kz h3⟩
    · exact .inr ⟨kz, e.oth _ _ h2 n, RepT.ext e kvs kz h3⟩
/-- fewer mutable ones -/
theorem Ext.less (h : ∀ a, O' a → O a) : Ext O H O' H := ⟨fun _ _ h => h, fun _ _ _ h => h, fun _ _ h _ => h, fun a z => .inl (h a z)⟩
theorem RepDs.len : ∀ {ds : List D} {vs : List V}, RepDs K O H ds vs → vs.length = ds.length
  | [], _, h => by rw [show _ = [] from h]; rfl
  | x :: ds, _, ⟨v, r, h1, h2, h3⟩ => by rw [h1, List.length_cons, RepDs.len h3]; rfl
theorem RepDs.get : ∀ {ds : List D} {vs : List V} {i : Nat} {x : D}, RepDs K O H ds vs → ds[i]? = some x → ∃ v, vs[i]? = some v ∧ RepD K O H x v
  | [], _, _, _, _, e => by simp at e
  | x :: ds, _, 0, y, ⟨v, r, h1, h2, h3⟩, e => by
    simp at e; subst e; subst h1; exact ⟨v, rfl, h2⟩
  | x :: ds, _, i + 1, y, ⟨v, r, h1, h2, h3⟩, e => by
    subst h1
    obtain ⟨u, q1, q2⟩ := RepDs.get (i := i) (x := y) h3 (by simpa using e)
    exact ⟨u, by simpa using q1, q2⟩
theorem RepDs.getV : ∀ {ds : List D} {vs : List V} {i : Nat} {v : V}, RepDs K O H ds vs → vs[i]? = some v → ∃ x, ds[i]? = some x ∧ RepD K O H x v
  | [], _, _, _, h, e => by rw [show _ = [] from h] at e; simp at e
  | x :: ds, _, 0, y, ⟨v, r, h1, h2, h3⟩, e => by
    subst h1; simp at e; subst e; exact ⟨x, rfl, h2⟩
  | x :: ds, _, i + 1, y, ⟨v, r, h1, h2, h3⟩, e => by
    subst h1
    obtain ⟨u, q1, q2⟩ := RepDs.getV (i := i) (v := y) h3 (by simpa using e)
    exact ⟨u, by simpa using q1, q2⟩
theorem RepDs.append : ∀ {ds es : List D} {vs us : List V}, RepDs K O H ds vs → RepDs K O H es us → RepDs K O H (ds ++ es) (vs ++ us)
  | [], _, _, _, h, q => by rw [show _ = [] from h]; exact q
  | x :: ds, _, _, _, ⟨v, r, h1, h2, h3⟩, q => by subst h1; exact ⟨v, _, rfl, h2, RepDs.append h3 q⟩
theorem RepDs.one {x : D} {v : V} (h : RepD K O H x v) : RepDs K O H [x] [v] := ⟨v, [], rfl, h, rfl⟩
theorem RepDs.take (n : Nat) : ∀ {ds : List D} {vs : List V}, RepDs K O H ds vs → RepDs K O H (ds.take n) (vs.take n) := by
  induction n with
  | zero => intro ds vs _; rw [List.take_zero, List.take_zero]; rfl
  | succ n ih =>
    intro ds vs h
    cases ds with
    | nil => rw [show vs = [] from h]; rfl
    | cons x ds => obtain ⟨v, r, h1, h2, h3⟩ := h; subst h1; exact ⟨v, _, rfl, h2, ih h3⟩
theorem RepDs.drop (n : Nat) : ∀ {ds : List D} {vs : List V}, RepDs K O H ds vs → RepDs K O H (ds.drop n) (vs.drop n) := by
  induction n with
  | zero => intro ds vs h; exact h
  | succ n ih =>
    intro ds vs h
    cases ds with
    | nil => rw [show vs = [] from h]; rfl
    | cons x ds => obtain ⟨v, r, h1, h2, h3⟩ := h; subst h1; exact ih h3
theorem RepDs.set {x : D} {v : V} (hx : RepD K O H x v) (n : Nat) : ∀ {ds : List D} {vs : List V}, RepDs K O H ds vs → RepDs K O H (ds.set n x) (vs.set n v) := by
  induction n with
  | zero =>
    intro ds vs h
    cases ds with
    | nil => rw [show vs = [] from h]; rfl
    | cons y ds => obtain ⟨u, r, h1, h2, h3⟩ := h; subst h1; exact ⟨v, r, rfl, hx, h3⟩
  | succ n ih =>
    intro ds vs h
    cases ds with
    | nil => rw [show vs = [] from h]; rfl
    | cons y ds => obtain ⟨u, r, h1, h2, h3⟩ := h; subst h1; exact ⟨u, _, rfl, h2, ih h3⟩
theorem RepDs.reverse : ∀ {ds : List D} {vs : List V}, RepDs K O H ds vs → RepDs K O H ds.reverse vs.reverse
  | [], _, h => by rw [show _ = [] from h]; rfl
  | x :: ds, _, ⟨v, r, h1, h2, h3⟩ => by
    subst h1
    rw [List.reverse_cons, List.reverse_cons]
    exact (RepDs.reverse h3).append (.one h2)
theorem RepDs.all {P : D → V → Prop} : ∀ {ds : List D} {vs : List V}, RepDs K O H ds vs → (∀ x v, x ∈ ds → RepD K O H x v → P x v) → Paired P ds vs
  | [], _, h, _ => by rw [show _ = [] from h]; exact .nil
  | x :: ds, _, ⟨v, r, h1, h2, h3⟩, k => by subst h1; exact .cons (k x v List.mem_cons_self h2) (RepDs.all h3 fun y u m => k y u (List.mem_cons_of_mem _ m))
end
end Den
/-! Den2: the state's relation, what a computation promises (tM), operands in a row, constants, names, arithmetic. -/
namespace Den
open PySem PySem.Spec PyProof.Rows L2

def Live (m : Mem) (r : Nat) : Prop := ∃ o, m[r]? = some (some o)
/-- the mutable objects; p: one that was just made -/
def Own (Hd : Addr → Prop) (al : List Addr) (m : Mem) (p : Option Addr) (a : Addr) : Prop := (∃ r : Nat, al[r]? = some a ∧ Live m r) ∨ Hd a ∨ p = some a
def RepW (K : PySem.W.Frag) (mg : Str → Option Value) (O : Addr → Prop) (p : Option Addr) (al : List Addr) (H : Hp) : W → V → Prop
  | .d x, v => p = none ∧ RepD K O H x v
  | .r n, v => p = none ∧ ∃ a, al[n]? = some a ∧ v = .ref a
  | .n x, v => ∃ a, p = some a ∧ v = .ref a ∧ ObOk K O H x a
  | .f x, v => p = none ∧ ∃ f, mg x = some (.ref f) ∧ v = .ref f
  | .s xs, v => p = none ∧ ∃ a vs, v = .ref a ∧ SqS K H a vs ∧ RepDs K O H xs vs
  | .e a, v => p = none ∧ v = .ref a
structure Stt (K : PySem.W.Frag) (Hd : Addr → Prop) (al : List Addr) (p : Option Addr) (H : Hp) (m : Mem) : Prop where
  len : al.length = m.length
  ob : ∀ (r : Nat) a o, al[r]? = some a → m[r]? = some (some o) → ObOk K (Own Hd al m p) H o a
  inj : ∀ (r r' : Nat) a, al[r]? = some a → al[r']? = some a → Live m r → Live m r' → r = r'
  pnd : ∀ a (r : Nat), p = some a → Live m r → al[r]? ≠ some a
  hin : ∀ a, Hd a → (∃ o, H a = some o) ∧ p ≠ some a ∧ ∀ r : Nat, Live m r → al[r]? ≠ some a
structure Go (Hd : Addr → Prop) (al : List Addr) (m : Mem) (p : Option Addr) (H : Hp) (al' : List Addr) (m' : Mem) (p' : Option Addr) (H' : Hp) : Prop where
  ext : Ext (Own Hd al m p) H (Own Hd al' m' p') H'
  pre : ∀ (r : Nat) a, al[r]? = some a → al'[r]? = some a
  hid : ∀ a o, Hd a → H a = some o → H' a = some o
def EnvOk (K : PySem.W.Frag) (mg : Str → Option Value) (O : Addr → Prop) (al : List Addr) (H : Hp) (rho : Env) (σ : St) : Prop :=
  rho.length = σ.length ∧ ∀ (i : Nat) w, rho[i]? = some (some w) → ∃ v, σ[i]? = some (some v) ∧ RepW K mg O none al H w v
def ExcOk (mg : Str → Option Value) : Exc → Value → Option Addr → Hp → (Addr → Prop) → Prop
  | .own x, c, d, _, _ => d = none ∧ ∃ C, mg x = some (.ref C) ∧ c = .ref C
  | .low x fld v, c, d, H, _ => ∃ C dd, mg x = some (.ref C) ∧ c = .ref C ∧ d = some dd ∧ ∃ i, v = .int i ∧ H dd = some (.xd [(fld, .int i)])

/-- what is wanted behind a computation's outcome -/
def Post {β : Type} (K : PySem.W.Frag) (mg : Str → Option Value) (Hd : Addr → Prop) (al : List Addr) (m : Mem) (H : Hp) (E : XK) (r : Rs β) (R : β → List Addr → Option Addr → Mem → Hp → Prop) : Prop :=
  match r with
  | .ok b m' => ∀ al' p H', Go Hd al m none H al' m' p H' → Stt K Hd al' p H' m' → R b al' p m' H'
  | .ex c m' => ∀ al' H' cls dd, Go Hd al m none H al' m' none H' → Stt K Hd al' none H' m' → ExcOk mg c cls dd H' (Own Hd al' m' none) → E cls dd H'
  | .no => False
/-- the reading of an expression whose computation is c -/
def tM (K : PySem.W.Frag) (mg : Str → Option Value) (E : St → XK) (c : EM W) : TE := fun σ H Q => ∃ Hd al rho m, Stt K Hd al none H m ∧ EnvOk K mg (Own Hd al m none) al H rho σ ∧
  Post K mg Hd al m H (E σ) (c rho m) fun w al' p m' H' => ∀ v, RepW K mg (Own Hd al' m' p) p al' H' w v → Q v H'
abbrev Den (X : Cx) (E : St → XK) (e : Expr) (c : EM W) : Prop := PE X e (tM X.K X.mg E c)

theorem PE.imp {X : Cx} {e : Expr} {t t' : TE} (h : PE X e t) (k : ∀ σ H Q, t' σ H Q → t σ H Q) : PE X e t' := ⟨fun pins s σ H Q I q => h.run pins s σ H Q I (k σ H Q q)⟩

section
variable {K : PySem.W.Frag} {mg : Str → Option Value} {O O' : Addr → Prop} {Hd : Addr → Prop} {al al1 al2 : List Addr} {m m1 m2 : Mem} {p p1 p2 : Option Addr} {H H1 H2 : Hp} {E : XK} {rho : Env} {σ : St}
theorem Go.refl : Go Hd al m p H al m p H := ⟨Ext.refl, fun _ _ h => h, fun _ _ _ h => h⟩
theorem Go.trans (a : Go Hd al m p H al1 m1 p1 H1) (b : Go Hd al1 m1 p1 H1 al2 m2 p2 H2) : Go Hd al m p H al2 m2 p2 H2 := ⟨a.ext.trans b.ext, fun r x h => b.pre r x (a.pre r x h), fun x o hx h => b.hid x o hx (a.hid x o hx h)⟩
/-- nobody is just made any more: it stands fast -/
theorem Go.settle : Go Hd al m p H al m none H := ⟨Ext.less fun a h => h.elim .inl fun z => z.elim (fun y => .inr (.inl y)) fun y => (nomatch y), fun _ _ h => h, fun _ _ _ h => h⟩
theorem Stt.settle (s : Stt K Hd al p H m) : Stt K Hd al none H m where
  len := s.len
  ob := fun r a o h1 h2 => by
    have q := s.ob r a o h1 h2
    have e : Ext (Own Hd al m p) H (Own Hd al m none) H := (Go.settle (p := p)).ext
    cases o with
    | list ds => obtain ⟨vs, h3, h4⟩ := q; exact ⟨vs, h3, h4.ext e⟩
    | dict kvs =>
      rcases q with ⟨kz, h3, h4⟩ | ⟨kz, h3, h4⟩
      · exact .inl ⟨kz, h3, RepK.ext e kvs kz h4⟩
      · exact .inr ⟨kz, h3, RepT.ext e kvs kz h4⟩
    | _ => exact q.elim
  inj := s.inj
  pnd := fun _ _ h => nomatch h
  hin := fun a h => ⟨(s.hin a h).1, (fun z => nomatch z), (s.hin a h).2.2⟩
theorem val_ok {w : W} {v : V} (s : Stt K Hd al p H m) (h : RepW K mg (Own Hd al m p) p al H w v) : RepW K mg (Own Hd al m none) none al H (val w) v := by
  cases w with
  | d x => exact ⟨rfl, h.2.ext (Go.settle (p := p)).ext⟩
  | r n => exact ⟨rfl, h.2⟩
  | f x => exact ⟨rfl, h.2⟩
  | s xs => obtain ⟨a, vs, h1, h2, h3⟩ := h.2; exact ⟨rfl, a, vs, h1, h2, h3.ext (Go.settle (p := p)).ext⟩
  | e a => exact ⟨rfl, h.2⟩
  | n x =>
    obtain ⟨a, e1, e2, q⟩ := h
    have e : Ext (Own Hd al m p) H (Own Hd al m none) H := (Go.settle (p := p)).ext
    have no : ¬ Own Hd al m none a := fun z => by
      rcases z with ⟨r, h1, h2⟩ | z | z
      · exact s.pnd a r e1 h2 h1
      · exact (s.hin a z).2.1 e1
      · cases z
    refine ⟨rfl, ?_⟩
    cases x with
    | list ds => obtain ⟨vs, h3, h4⟩ := q; exact ⟨a, vs, e2, ⟨h3, no⟩, h4.ext e⟩
    | dict kvs =>
      refine ⟨a, e2, no, ?_⟩
      rcases q with ⟨kz, h3, h4⟩ | ⟨kz, h3, h4⟩
      · exact .inl ⟨kz, h3, RepK.ext e kvs kz h4⟩
      · exact .inr ⟨kz, h3, RepT.ext e kvs kz h4⟩
    | _ => exact q.elim
theorem RepW.go {w : W} {v : V} (g : Go Hd al m none H al1 m1 p1 H1) (h : RepW K mg (Own Hd al m none) none al H w v) : RepW K mg (Own Hd al1 m1 p1) none al1 H1 w v := by
  cases w with
  | d x => exact ⟨rfl, h.2.ext g.ext⟩
  | r n => obtain ⟨a, h1, h2⟩ := h.2; exact ⟨rfl, a, g.pre _ _ h1, h2⟩
  | f x => exact ⟨rfl, h.2⟩
  | s xs => obtain ⟨a, vs, h1, h2, h3⟩ := h.2; exact ⟨rfl, a, vs, h1, sqS_ext g.ext h2, h3.ext g.ext⟩
  | e a => exact ⟨rfl, h.2⟩
  | n x => obtain ⟨a, h1, h2⟩ := h; cases h1
theorem EnvOk.go (e : EnvOk K mg (Own Hd al m none) al H rho σ) (g : Go Hd al m none H al1 m1 p1 H1) : EnvOk K mg (Own Hd al1 m1 p1) al1 H1 rho σ :=
  ⟨e.1, fun i w h => by obtain ⟨v, h1, h2⟩ := e.2 i w h; exact ⟨v, h1, h2.go g⟩⟩
theorem Post.imp {β : Type} {r : Rs β} {R R' : β → List Addr → Option Addr → Mem → Hp → Prop} (h : Post K mg Hd al m H E r R)
    (k : ∀ b al' p m' H', Go Hd al m none H al' m' p H' → Stt K Hd al' p H' m' → R b al' p m' H' → R' b al' p m' H') : Post K mg Hd al m H E r R' := by
  cases r with
  | ok b m' => exact fun al' p H' g s => k b al' p m' H' g s (h al' p H' g s)
  | ex c m' => exact h
  | no => exact h
/-- from a later point -/
theorem Post.go {β : Type} {r : Rs β} {R : β → List Addr → Option Addr → Mem → Hp → Prop} (g : Go Hd al m none H al1 m1 none H1) (h : Post K mg Hd al m H E r R) : Post K mg Hd al1 m1 H1 E r R := by
  cases r with
  | ok b m' => exact fun al' p H' g' s => h al' p H' (g.trans g') s
  | ex c m' => exact fun al' H' cls dd g' s => h al' H' cls dd (g.trans g') s
  | no => exact h
theorem Post.bind {β γ : Type} {r : Rs β} {k : β → Mem → Rs γ} {R : γ → List Addr → Option Addr → Mem → Hp → Prop} (h : Post K mg Hd al m H E (r.bind k) R) :
    Post K mg Hd al m H E r fun b al1 p1 m1 H1 => p1 = none → Post K mg Hd al1 m1 H1 E (k b m1) R := by
  cases r with
  | ok b m' => exact fun al' p H' g s e => by subst e; exact Post.go g h
  | ex c m' => exact h
  | no => exact h
/-- an operand -/
theorem Post.bindV {γ : Type} {r : Rs W} {k : W → Mem → Rs γ} {R : γ → List Addr → Option Addr → Mem → Hp → Prop} (h : Post K mg Hd al m H E (r.bindV k) R) :
    Post K mg Hd al m H E r fun w al1 p1 m1 H1 => ∀ v, RepW K mg (Own Hd al1 m1 p1) p1 al1 H1 w v →
      Go Hd al m none H al1 m1 none H1 ∧ Stt K Hd al1 none H1 m1 ∧ RepW K mg (Own Hd al1 m1 none) none al1 H1 (val w) v ∧ Post K mg Hd al1 m1 H1 E (k (val w) m1) R := by
  cases r with
  | ok w m' => exact fun al' p H' g s v rv => ⟨g.trans Go.settle, s.settle, val_ok s rv, Post.go (g.trans Go.settle) h⟩
  | ex c m' => exact h
  | no => exact h
theorem Post.ok {β : Type} {b : β} {R : β → List Addr → Option Addr → Mem → Hp → Prop} (s : Stt K Hd al none H m) (h : Post K mg Hd al m H E (.ok b m) R) : R b al none m H := h al none H Go.refl s
end

/-! ### one operand, two operands -/
def mOp1 (a : EM W) (f : W → Mem → Rs W) : EM W := fun rho m => (a rho m).bindV f
def mOp2 (a b : EM W) (f : W → W → Mem → Rs W) : EM W := fun rho m => (a rho m).bindV fun x m1 => (b rho m1).bindV fun y m2 => f x y m2
section
variable {X : Cx} {E : St → XK} {ea eb : Expr} {a b : EM W} {pos : Pos}
/-- a rule for one operand: from what the value is to the reading -/
def Un1 (X : Cx) (r : V → Hp → VK → Prop) (f : W → Mem → Rs W) : Prop := ∀ (E : XK) Hd al m H w v (R : W → List Addr → Option Addr → Mem → Hp → Prop) (Q : VK), Stt X.K Hd al none H m → RepW X.K X.mg (Own Hd al m none) none al H w v →
  Post X.K X.mg Hd al m H E (f w m) R → (∀ w' al' p m' H' v', R w' al' p m' H' → RepW X.K X.mg (Own Hd al' m' p) p al' H' w' v' → Q v' H') → r v H Q
def Bi2 (X : Cx) (r : R2) (f : W → W → Mem → Rs W) : Prop := ∀ (E : XK) Hd al m H w v w2 v2 (R : W → List Addr → Option Addr → Mem → Hp → Prop) (Q : VK), Stt X.K Hd al none H m → RepW X.K X.mg (Own Hd al m none) none al H w v → RepW X.K X.mg (Own Hd al m none) none al H w2 v2 →
  Post X.K X.mg Hd al m H E (f w w2 m) R → (∀ w' al' p m' H' v', R w' al' p m' H' → RepW X.K X.mg (Own Hd al' m' p) p al' H' w' v' → Q v' H') → r v v2 H Q
theorem tM_un {r : V → Hp → VK → Prop} {f : W → Mem → Rs W} (h : Un1 X r f) {σ : St} {H : Hp} {Q : VK} (q : tM X.K X.mg E (mOp1 a f) σ H Q) : tUn r (tM X.K X.mg E a) σ H Q := by
  obtain ⟨Hd, al, rho, m, s, e, P⟩ := q
  refine ⟨Hd, al, rho, m, s, e, (Post.bindV P).imp fun w al1 p1 m1 H1 g s1 k v rv => ?_⟩
  obtain ⟨g1, s1', rv1, P1⟩ := k v rv
  exact h _ _ _ _ _ _ _ _ Q s1' rv1 P1 fun w' al' p m' H' v' q' => q' v'
theorem tM_op {r : R2} {f : W → W → Mem → Rs W} (h : Bi2 X r f) {σ : St} {H : Hp} {Q : VK} (q : tM X.K X.mg E (mOp2 a b f) σ H Q) : tOp r (tM X.K X.mg E a) (tM X.K X.mg E b) σ H Q := by
  obtain ⟨Hd, al, rho, m, s, e, P⟩ := q
  refine ⟨Hd, al, rho, m, s, e, (Post.bindV P).imp fun w al1 p1 m1 H1 g s1 k v rv => ?_⟩
  obtain ⟨g1, s1', rv1, P1⟩ := k v rv
  refine ⟨Hd, al1, rho, m1, s1', e.go g1, (Post.bindV P1).imp fun w2 al2 p2 m2 H2 g2 s2 k2 v2 rw2 => ?_⟩
  obtain ⟨g3, s2', rv2, P2⟩ := k2 v2 rw2
  exact h _ _ _ _ _ _ _ _ _ _ Q s2' (rv1.go g3) rv2 P2 fun w' al' p m' H' v' q' => q' v'

/-! ### constants and names -/
def mC (x : D) : EM W := fun _ m => .ok (.d x) m
def mVar (i : Nat) : EM W := fun rho m => match rho[i]? with | some (some w) => .ok w m | _ => .no
def mF (x : Str) : EM W := fun _ m => .ok (.f x) m
theorem den_const {e : Expr} {x : D} {v : V} (h : PE X e (tC v)) (r : ∀ K O H, RepD K O H x v) : Den X E e (mC x) := PE.imp h fun σ H Q q => by
  obtain ⟨Hd, al, rho, m, s, e, P⟩ := q
  exact (Post.ok s P) v ⟨rfl, r _ _ _⟩
theorem den_int {i : Int} {j pos} : Den X E (.Constant (.int i) j pos) (mC (.int i)) := den_const pe_int fun _ _ _ => rfl
theorem den_bool {b : Bool} {j pos} : Den X E (.Constant (.bool b) j pos) (mC (.bool b)) := den_const pe_bl fun _ _ _ => rfl
theorem den_none {j pos} : Den X E (.Constant .none j pos) (mC .none) := den_const pe_non fun _ _ _ => rfl
theorem den_str {x : Str} {j pos} : Den X E (.Constant (.str x) j pos) (mC (.str x)) := den_const pe_str fun _ _ _ => rfl
theorem den_var (i : Nat) {x : Str} {pos : Pos} (hN : X.N[i]? = some x := by rfl) (hv : Vis X.env.scope x := by first | exact Or.inl rfl | exact Or.inr (Or.inl rfl) | exact Or.inr (Or.inr rfl)) (hd : (x == ("__debug__" : Str)) = false := by decide)
    (hcd : (x == ("__classdict__" : Str)) = false := by decide) : Den X E (.Name x pos) (mVar i) := PE.imp (pe_var hN hv hd hcd) fun σ H Q q => by
  obtain ⟨Hd, al, rho, m, s, e, P⟩ := q
  unfold mVar at P
  split at P
  · rename_i w hw
    obtain ⟨v, h1, h2⟩ := e.2 i w hw
    exact ⟨v, h1, (Post.ok s P) v h2⟩
  · exact P.elim
theorem den_fn {x : Str} {f : Addr} {pos : Pos} (hg : Gl X x) (hm : X.mg x = some (.ref f)) (hd : (x == ("__debug__" : Str)) = false := by decide) : Den X E (.Name x pos) (mF x) := PE.imp (pe_glob (v := .ref f) hg hm rfl hd) fun σ H Q q => by
  obtain ⟨Hd, al, rho, m, s, e, P⟩ := q
  exact (Post.ok s P) _ ⟨rfl, f, hm, rfl⟩
end
end Den
/-! Den3: what an operand is, new objects, operators. -/
namespace Den
open PySem PySem.Spec PyProof.Rows L2

section
variable (K : PySem.W.Frag) (O : Addr → Prop) (H : Hp)
/-- an operand's data: a container may be one of the mutable ones -/
def RepP : D → V → Prop
  | .list ds, v => ∃ a vs, v = .ref a ∧ H a = some (.lst vs) ∧ RepDs K O H ds vs
  | .dict kvs, v => ∃ a, v = .ref a ∧ ((∃ kz, H a = some (.dK kz) ∧ RepK K O H kvs kz) ∨ (∃ kz, H a = some (.dT kz) ∧ RepT K O H kvs kz))
  | x, v => RepD K O H x v
end
section
variable {K : PySem.W.Frag} {mg : Str → Option Value} {O O' : Addr → Prop} {Hd : Addr → Prop} {al al1 al2 : List Addr} {m m1 m2 : Mem} {p p1 p2 : Option Addr} {H H1 H2 : Hp} {E : XK} {rho : Env} {σ : St}
theorem RepD.P : ∀ {x : D} {v : V}, RepD K O H x v → RepP K O H x v
  | .none, _, h => h
  | .bool _, _, h => h
  | .int _, _, h => h
  | .str _, _, h => h
  | .tuple _, _, h => h
  | .list _, _, ⟨a, vs, h1, h2, h3⟩ => ⟨a, vs, h1, h2.1, h3⟩
  | .dict _, _, ⟨a, h1, _, h2⟩ => ⟨a, h1, h2⟩
theorem peek_ok {w : W} {v : V} {x : D} (s : Stt K Hd al none H m) (h : RepW K mg (Own Hd al m none) none al H w v) (e : peek m w = some x) : RepP K (Own Hd al m none) H x v := by
  cases w with
  | d y => cases e; exact h.2.P
  | n y => obtain ⟨a, h1, _⟩ := h; cases h1
  | f y => cases e
  | s y => cases e
  | e y => cases e
  | r n =>
    obtain ⟨a, h1, rfl⟩ := h.2
    have e' : (m[n]?).join = some x := e
    have em : m[n]? = some (some x) := by
      cases q : m[n]? with
      | none => rw [q] at e'; cases e'
      | some o => rw [q] at e'; have z : o = some x := e'; rw [z]
    have ob := s.ob n a x h1 em
    cases x with
    | list ds => obtain ⟨vs, h2, h3⟩ := ob; exact ⟨a, vs, rfl, h2, h3⟩
    | dict kvs => exact ⟨a, rfl, ob⟩
    | _ => exact ob.elim
mutual
theorem RepD.dp : ∀ (x : D) (v : V), RepD K O H x v → x.hasDict = false → Dp K H v x
  | .none, _, h, _ => by cases h; exact .non
  | .bool b, _, h, _ => by cases h; exact .bl b
  | .int i, _, h, _ => by cases h; exact .int i
  | .str x, _, h, _ => by cases h; exact .str x
  | .tuple ds, _, ⟨a, vs, h1, h2, h3⟩, n => by subst h1; exact .tup h2 (RepDs.dp ds vs h3 (by simpa only [PyData.hasDict] using n))
  | .list ds, _, ⟨a, vs, h1, h2, h3⟩, n => by subst h1; exact .lst (.inl (.inl h2.1)) (RepDs.dp ds vs h3 (by simpa only [PyData.hasDict] using n))
  | .dict kvs, _, _, n => by simp only [PyData.hasDict] at n; cases n
theorem RepDs.dp : ∀ (ds : List D) (vs : List V), RepDs K O H ds vs → PyData.hasDictAll ds = false → DpAll K H vs ds
  | [], _, h, _ => by rw [show _ = [] from h]; exact .nil
  | x :: ds, _, ⟨v, r, h1, h2, h3⟩, n => by
    subst h1
    simp only [PyData.hasDictAll, Bool.or_eq_false_iff] at n
    exact .cons (RepD.dp x v h2 n.1) (RepDs.dp ds r h3 n.2)
end
theorem RepP.dp {x : D} {v : V} (h : RepP K O H x v) (n : x.hasDict = false) : Dp K H v x := by
  cases x with
  | list ds => obtain ⟨a, vs, rfl, h2, h3⟩ := h; exact .lst (.inl (.inl h2)) (h3.dp _ _ (by simpa only [PyData.hasDict] using n))
  | dict kvs => simp only [PyData.hasDict] at n; cases n
  | none => exact RepD.dp (O := O) _ _ h n
  | bool b => exact RepD.dp (O := O) _ _ h n
  | int i => exact RepD.dp (O := O) _ _ h n
  | str z => exact RepD.dp (O := O) _ _ h n
  | tuple ds => exact RepD.dp (O := O) _ _ h n
theorem noDict_shaped {x : D} (h : SeqAt.shaped x = true) : x.hasDict = false := PyData.hasDict_of_canLay _ (SeqAt.canLay_of_shaped h)

/-! ### a new object -/
theorem ObOk.stay {x : D} {a : Addr} (e : Ext O H O' H1) (k : H1 a = H a) (h : ObOk K O H x a) : ObOk K O' H1 x a := by
  cases x with
  | list ds => obtain ⟨vs, h1, h2⟩ := h; exact ⟨vs, k.trans h1, h2.ext e⟩
  | dict kvs =>
    rcases h with ⟨kz, h2, h3⟩ | ⟨kz, h2, h3⟩
    · exact .inl ⟨kz, k.trans h2, RepK.ext e kvs kz h3⟩
    · exact .inr ⟨kz, k.trans h2, RepT.ext e kvs kz h3⟩
  | _ => exact h.elim
theorem ObOk.some {x : D} {a : Addr} (h : ObOk K O H x a) : ∃ o, H a = some o ∧ Mut (some o) := by
  cases x with
  | list ds => obtain ⟨vs, h1, _⟩ := h; exact ⟨_, h1, True.intro⟩
  | dict kvs => rcases h with ⟨kz, h2, _⟩ | ⟨kz, h2, _⟩ <;> exact ⟨_, h2, True.intro⟩
  | _ => exact h.elim
theorem Stt.own (s : Stt K Hd al p H m) {a : Addr} (h : Own Hd al m none a) : ∃ o, H a = Option.some o := by
  rcases h with ⟨r, h1, o, h2⟩ | h | h
  · obtain ⟨o, h, _⟩ := (s.ob r a o h1 h2).some
    exact ⟨o, h⟩
  · exact (s.hin a h).1
  · cases h
theorem go_new {a : Addr} {o : HO} {q : Option Addr} (hn : H a = none) (hq : q = none ∨ q = some a) : Go Hd al m none H al m q (upd H a o) where
  ext := ⟨fun b vs h => by rw [upd_ne (ne_of_none h hn)]; exact h, fun b ob u h => by rw [upd_ne (ne_of_none h hn)]; exact h, fun b ob h _ => by rw [upd_ne (ne_of_none h hn)]; exact h,
    fun b z => by
      rcases z with z | z | z
      · exact .inl (.inl z)
      · exact .inl (.inr (.inl z))
      · rcases hq with q0 | q0
        · rw [q0] at z; cases z
        · rw [q0] at z; cases z; exact .inr hn⟩
  pre := fun _ _ h => h
  hid := fun b ob _ h => by rw [upd_ne (ne_of_none h hn)]; exact h
theorem stt_new {a : Addr} {o : HO} {q : Option Addr} (s : Stt K Hd al none H m) (hn : H a = none) (hq : q = none ∨ q = some a) : Stt K Hd al q (upd H a o) m where
  len := s.len
  ob := fun r b x h1 h2 => by
    have h := s.ob r b x h1 h2
    obtain ⟨u, hu, _⟩ := h.some
    exact h.stay (go_new hn hq).ext (upd_ne (ne_of_none hu hn))
  inj := s.inj
  pnd := fun b r h1 h2 h3 => by
    rcases hq with q0 | q0
    · rw [q0] at h1; cases h1
    · rw [q0] at h1; cases h1
      obtain ⟨x, hx⟩ := h2
      obtain ⟨u, hu, _⟩ := (s.ob r _ x h3 hx).some
      rw [hn] at hu; cases hu
  hin := fun b hb => by
    obtain ⟨⟨u, hu⟩, h2, h3⟩ := s.hin b hb
    refine ⟨⟨u, by rw [upd_ne (ne_of_none hu hn)]; exact hu⟩, fun z => ?_, h3⟩
    rcases hq with q0 | q0
    · rw [q0] at z; cases z
    · rw [q0] at z; cases z
      rw [hn] at hu; cases hu
theorem Post.fresh {β : Type} {b : β} {R : β → List Addr → Option Addr → Mem → Hp → Prop} {a : Addr} {o : HO} (s : Stt K Hd al none H m) (hn : H a = none) (h : Post K mg Hd al m H E (.ok b m) R) : R b al none m (upd H a o) :=
  h al none _ (go_new hn (.inl rfl)) (stt_new s hn (.inl rfl))
theorem Post.made {β : Type} {b : β} {R : β → List Addr → Option Addr → Mem → Hp → Prop} {a : Addr} {o : HO} (s : Stt K Hd al none H m) (hn : H a = none) (h : Post K mg Hd al m H E (.ok b m) R) : R b al (some a) m (upd H a o) :=
  h al (some a) _ (go_new hn (.inr rfl)) (stt_new s hn (.inr rfl))
theorem RepDs.fresh {ds : List D} {vs : List V} {a : Addr} {o : HO} {q : Option Addr} (h : RepDs K (Own Hd al m none) H ds vs) (hn : H a = none) (hq : q = none ∨ q = some a) : RepDs K (Own Hd al m q) (upd H a o) ds vs := h.ext (go_new hn hq).ext
/-- a new list, a new tuple as a result -/
theorem res_list {X : Cx} {ds : List D} {vs : List V} {R : W → List Addr → Option Addr → Mem → Hp → Prop} {Q : VK} {a : Addr} (s : Stt X.K Hd al none H m) (h : RepDs X.K (Own Hd al m none) H ds vs) (hn : H a = none) (P : Post X.K X.mg Hd al m H E (.ok (.n (.list ds)) m) R)
    (k : ∀ w' al' p m' H' v', R w' al' p m' H' → RepW X.K X.mg (Own Hd al' m' p) p al' H' w' v' → Q v' H') : Q (.ref a) (upd H a (.lst vs)) :=
  k _ _ _ _ _ _ (P.made s hn) ⟨a, rfl, rfl, vs, upd_same, h.fresh hn (.inr rfl)⟩
theorem res_tup {X : Cx} {ds : List D} {vs : List V} {R : W → List Addr → Option Addr → Mem → Hp → Prop} {Q : VK} {a : Addr} (s : Stt X.K Hd al none H m) (h : RepDs X.K (Own Hd al m none) H ds vs) (hn : H a = none) (P : Post X.K X.mg Hd al m H E (.ok (.d (.tuple ds)) m) R)
    (k : ∀ w' al' p m' H' v', R w' al' p m' H' → RepW X.K X.mg (Own Hd al' m' p) p al' H' w' v' → Q v' H') : Q (.ref a) (upd H a (.tup vs)) :=
  k _ _ _ _ _ _ (P.fresh s hn) ⟨rfl, a, vs, rfl, .inl (.inl upd_same), h.fresh hn (.inl rfl)⟩
theorem res_d {X : Cx} {x : D} {v : V} {R : W → List Addr → Option Addr → Mem → Hp → Prop} {Q : VK} (s : Stt X.K Hd al none H m) (P : Post X.K X.mg Hd al m H E (.ok (.d x) m) R) (h : RepD X.K (Own Hd al m none) H x v)
    (k : ∀ w' al' p m' H' v', R w' al' p m' H' → RepW X.K X.mg (Own Hd al' m' p) p al' H' w' v' → Q v' H') : Q v H := k _ _ _ _ _ _ (P.ok s) ⟨rfl, h⟩
end

/-! ### operators by data -/
def lift1 (g : D → Option W) : W → Mem → Rs W := fun x m => match peek m x with | some a => (match g a with | some w => .ok w m | none => .no) | none => .no
def lift2 (g : D → D → Option W) : W → W → Mem → Rs W := fun x y m => match peek m x, peek m y with | some a, some b => (match g a b with | some w => .ok w m | none => .no) | _, _ => .no
section
variable {X : Cx} {E : St → XK} {ea eb : Expr} {a b : EM W} {pos : Pos}
theorem un_lift {r : V → Hp → VK → Prop} {g : D → Option W} (h : ∀ (E : XK) Hd al m H x v w (R : W → List Addr → Option Addr → Mem → Hp → Prop) (Q : VK), Stt X.K Hd al none H m → RepP X.K (Own Hd al m none) H x v → g x = some w →
    Post X.K X.mg Hd al m H E (.ok w m) R → (∀ w' al' p m' H' v', R w' al' p m' H' → RepW X.K X.mg (Own Hd al' m' p) p al' H' w' v' → Q v' H') → r v H Q) : Un1 X r (lift1 g) := by
  intro E Hd al m H w v R Q s rv P k
  unfold lift1 at P
  split at P
  · rename_i x hx
    split at P
    · rename_i z hz
      exact h E Hd al m H x v z R Q s (peek_ok s rv hx) hz P k
    · exact P.elim
  · exact P.elim
theorem bi_lift {r : R2} {g : D → D → Option W} (h : ∀ (E : XK) Hd al m H x v y u w (R : W → List Addr → Option Addr → Mem → Hp → Prop) (Q : VK), Stt X.K Hd al none H m → RepP X.K (Own Hd al m none) H x v → RepP X.K (Own Hd al m none) H y u → g x y = some w →
    Post X.K X.mg Hd al m H E (.ok w m) R → (∀ w' al' p m' H' v', R w' al' p m' H' → RepW X.K X.mg (Own Hd al' m' p) p al' H' w' v' → Q v' H') → r v u H Q) : Bi2 X r (lift2 g) := by
  intro E Hd al m H w v w2 v2 R Q s rv rv2 P k
  unfold lift2 at P
  split at P
  · rename_i x y hx hy
    split at P
    · rename_i z hz
      exact h E Hd al m H x v y v2 z R Q s (peek_ok s rv hx) (peek_ok s rv2 hy) hz P k
    · exact P.elim
  · exact P.elim
theorem opOr {f : Value → Value → Sem Value} {r r' : R2} (h : OpR X f r) (h' : OpR X f r') : OpR X f (fun x y H Q => r x y H Q ∨ r' x y H Q) := fun pins s σ H x y v u Q I rx ry q =>
  q.elim (h pins s σ H x y v u Q I rx ry) (h' pins s σ H x y v u Q I rx ry)

/-- data of two ints -/
def onI (g : Int → Int → Option D) : D → D → Option W
  | .int i, .int j => (g i j).map .d
  | _, _ => none
theorem bi_int {C : Int → Int → Prop} {g : Int → Int → V} {f : Int → Int → Option D} (h : ∀ i j x, f i j = some x → C i j ∧ ∀ K O H, RepD K O H x (g i j)) : Bi2 X (rI C g) (lift2 (onI f)) := bi_lift fun E Hd al m H x v y u w R Q s rx ry hg P k => by
  cases x <;> cases y <;> first | (simp only [onI] at hg; cases hg; done) | skip
  rename_i i j
  have e1 : v = .int i := rx
  have e2 : u = .int j := ry
  subst e1 e2
  obtain ⟨x, hx, rfl⟩ := Option.map_eq_some_iff.mp hg
  obtain ⟨c, rp⟩ := h i j x hx
  exact ⟨i, j, rfl, rfl, c, res_d s P (rp _ _ _) k⟩
theorem rI0_of {g : Int → Int → V} {x y : V} {H : Hp} {Q : VK} (h : rI (fun _ _ => True) g x y H Q) : rI0 g x y H Q := by
  obtain ⟨i, j, h1, h2, _, h3⟩ := h
  exact ⟨i, j, h1, h2, h3⟩
theorem bi_int0 {g : Int → Int → V} {f : Int → Int → D} (h : ∀ i j K O H, RepD K O H (f i j) (g i j)) : Bi2 X (rI0 g) (lift2 (onI fun i j => some (f i j))) := fun E Hd al m H w v w2 v2 R Q s r1 r2 P k =>
  rI0_of (bi_int (C := fun _ _ => True) (fun i j x e => ⟨trivial, by cases e; exact h i j⟩) E Hd al m H w v w2 v2 R Q s r1 r2 P k)

def small (n : Nat) : Bool := decide (n ≤ 1000000)
theorem small_line {n : Nat} (h : small n = true) : n ≤ sizeLine := Nat.le_trans (of_decide_eq_true h) (by decide)
def addD : D → D → Option W
  | .int i, .int j => some (.d (.int (i + j)))
  | .str x, .str y => if small (x.length + y.length) then some (.d (.str (x ++ y))) else none
  | .list xs, .list ys => if small (xs.length + ys.length) then some (.n (.list (xs ++ ys))) else none
  | .tuple xs, .tuple ys => if small (xs.length + ys.length) then some (.d (.tuple (xs ++ ys))) else none
  | _, _ => none
theorem ite_none {α : Type} {c : Bool} {x y : α} (h : (if c = true then some x else none) = some y) : c = true ∧ x = y := by
  cases c with
  | true => exact ⟨rfl, Option.some.inj h⟩
  | false => cases h
theorem bi_add : Bi2 X (fun x y H Q => rI0 (fun i j => .int (i + j)) x y H Q ∨ (fun x y H Q => (fun x y H Q => ∃ i j, x = .str i ∧ y = .str j ∧ i.length + j.length ≤ sizeLine ∧ Q (.str (i ++ j)) H) x y H Q ∨ (fun x y H Q => rCat x y H Q ∨ rCatA X.K x y H Q) x y H Q) x y H Q) (lift2 addD) := bi_lift fun E Hd al m H x v y u w R Q s rx ry hg P k => by
  cases x <;> cases y <;> first | (simp only [addD] at hg; cases hg; done) | skip
  · rename_i i j
    have e1 : v = .int i := rx
    have e2 : u = .int j := ry
    subst e1 e2
    cases hg
    exact .inl ⟨i, j, rfl, rfl, res_d s P rfl k⟩
  · rename_i i j
    have e1 : v = .str i := rx
    have e2 : u = .str j := ry
    subst e1 e2
    obtain ⟨c, rfl⟩ := ite_none hg
    exact .inr (.inl ⟨i, j, rfl, rfl, small_line c, res_d s P rfl k⟩)
  · obtain ⟨l, xs, rfl, h1, h2⟩ := rx
    obtain ⟨b, ys, rfl, h3, h4⟩ := ry
    obtain ⟨c, rfl⟩ := ite_none hg
    exact .inr (.inr (.inl ⟨l, b, xs, ys, rfl, rfl, h1, h3, by rw [h2.len, h4.len]; exact small_line c, fun p hp => res_list s (h2.append h4) hp P k⟩))
  · obtain ⟨l, xs, rfl, h1, h2⟩ := rx
    obtain ⟨b, ys, rfl, h3, h4⟩ := ry
    obtain ⟨c, rfl⟩ := ite_none hg
    refine .inr (.inr (.inr ⟨l, b, xs, ys, rfl, rfl, h1, h3, by rw [h2.len, h4.len]; exact small_line c, fun e => ?_, fun e e' => ?_, fun e e' p hp => res_tup s (h2.append h4) hp P k⟩))
    · have z := h2.len
      rw [e] at z
      rename_i ds es
      have z' : ds = [] := List.eq_nil_of_length_eq_zero z.symm
      subst z'
      exact res_d s P ⟨b, ys, rfl, h3, h4⟩ k
    · have z := h4.len
      rw [e'] at z
      rename_i ds es
      have z' : es = [] := List.eq_nil_of_length_eq_zero z.symm
      subst z'
      rw [List.append_nil] at P
      exact res_d s P ⟨l, xs, rfl, h1, h2⟩ k
def mAdd (a b : EM W) : EM W := mOp2 a b (lift2 addD)
theorem den_add (ha : Den X E ea a) (hb : Den X E eb b) : Den X E (.BinOp ea .Add eb pos) (mAdd a b) := PE.imp (pe_op (opOr op_add (opOr op_add_str (opOr op_cat op_catA))) ha hb) fun _ _ _ q => tM_op bi_add q
def mSub (a b : EM W) : EM W := mOp2 a b (lift2 (onI fun i j => some (.int (i - j))))
theorem den_sub (ha : Den X E ea a) (hb : Den X E eb b) : Den X E (.BinOp ea .Sub eb pos) (mSub a b) := PE.imp (pe_op op_sub ha hb) fun _ _ _ q => tM_op (bi_int0 (f := fun i j => .int (i - j)) fun _ _ _ _ _ => rfl) q
def fdivD (i j : Int) : Option D := if decide (0 < j ∧ j.natAbs.log2 < 9000) then some (.int (i / j)) else none
def modD (i j : Int) : Option D := if decide (0 < j) then some (.int (i % j)) else none
def powD (i j : Int) : Option D := if decide (0 ≤ j ∧ j ≤ 1000000 ∧ i.natAbs < 2 ^ 64) then some (.int (i ^ j.toNat)) else none
def shlD (i j : Int) : Option D := if decide (0 ≤ j ∧ j ≤ 1000000 ∧ i.natAbs < 2 ^ 64) then some (.int (i * 2 ^ j.toNat)) else none
def shrD (i j : Int) : Option D := if decide (0 ≤ j) then some (.int (i / 2 ^ j.toNat)) else none
def mFdiv (a b : EM W) : EM W := mOp2 a b (lift2 (onI fdivD))
def mMod (a b : EM W) : EM W := mOp2 a b (lift2 (onI modD))
def mPow (a b : EM W) : EM W := mOp2 a b (lift2 (onI powD))
def mShl (a b : EM W) : EM W := mOp2 a b (lift2 (onI shlD))
def mShr (a b : EM W) : EM W := mOp2 a b (lift2 (onI shrD))
def mAnd (a b : EM W) : EM W := mOp2 a b (lift2 (onI fun i j => some (.int (Builtin.bitAnd i j))))
def mOr (a b : EM W) : EM W := mOp2 a b (lift2 (onI fun i j => some (.int (Builtin.bitOr i j))))
theorem den_fdiv (ha : Den X E ea a) (hb : Den X E eb b) : Den X E (.BinOp ea .FloorDiv eb pos) (mFdiv a b) := PE.imp (pe_op op_fdivW ha hb) fun _ _ _ q => tM_op (bi_int fun i j x e => by
  obtain ⟨c, rfl⟩ := ite_none e
  exact ⟨of_decide_eq_true (p := 0 < j ∧ j.natAbs.log2 < 9000) c, fun _ _ _ => rfl⟩) q
theorem den_mod (ha : Den X E ea a) (hb : Den X E eb b) : Den X E (.BinOp ea .Mod eb pos) (mMod a b) := PE.imp (pe_op op_mod ha hb) fun _ _ _ q => tM_op (bi_int fun i j x e => by
  obtain ⟨c, rfl⟩ := ite_none e
  exact ⟨of_decide_eq_true (p := 0 < j) c, fun _ _ _ => rfl⟩) q
theorem den_pow (ha : Den X E ea a) (hb : Den X E eb b) : Den X E (.BinOp ea .Pow eb pos) (mPow a b) := PE.imp (pe_op op_pow ha hb) fun _ _ _ q => tM_op (bi_int fun i j x e => by
  obtain ⟨c, rfl⟩ := ite_none e
  exact ⟨of_decide_eq_true (p := 0 ≤ j ∧ j ≤ 1000000 ∧ i.natAbs < 2 ^ 64) c, fun _ _ _ => rfl⟩) q
theorem den_shl (ha : Den X E ea a) (hb : Den X E eb b) : Den X E (.BinOp ea .LShift eb pos) (mShl a b) := PE.imp (pe_op op_shl ha hb) fun _ _ _ q => tM_op (bi_int fun i j x e => by
  obtain ⟨c, rfl⟩ := ite_none e
  exact ⟨of_decide_eq_true (p := 0 ≤ j ∧ j ≤ 1000000 ∧ i.natAbs < 2 ^ 64) c, fun _ _ _ => rfl⟩) q
theorem den_shr (ha : Den X E ea a) (hb : Den X E eb b) : Den X E (.BinOp ea .RShift eb pos) (mShr a b) := PE.imp (pe_op op_shr ha hb) fun _ _ _ q => tM_op (bi_int fun i j x e => by
  obtain ⟨c, rfl⟩ := ite_none e
  exact ⟨of_decide_eq_true (p := 0 ≤ j) c, fun _ _ _ => rfl⟩) q
theorem den_and (ha : Den X E ea a) (hb : Den X E eb b) : Den X E (.BinOp ea .BitAnd eb pos) (mAnd a b) := PE.imp (pe_op op_and ha hb) fun _ _ _ q => tM_op (bi_int0 (f := fun i j => .int (Builtin.bitAnd i j)) fun _ _ _ _ _ => rfl) q
theorem den_or (ha : Den X E ea a) (hb : Den X E eb b) : Den X E (.BinOp ea .BitOr eb pos) (mOr a b) := PE.imp (pe_op op_or ha hb) fun _ _ _ q => tM_op (bi_int0 (f := fun i j => .int (Builtin.bitOr i j)) fun _ _ _ _ _ => rfl) q

/-- a tuple of no item, or once: itself -/
theorem tup_once (l : Addr) (items : Array Value) (n : Nat) (dd : Option Addr) (sl : Array (Option Value)) (x : Int) (u : Tok) (b0 : (decide (x < -(2 ^ 63)) || decide (x ≥ 2 ^ 63)) = false) (b1 : (items.isEmpty || x == 1) = true) :
    Meets (Builtin.«tuple.__mul__» ⟨[.ref l, .int x u], []⟩) (fun _ R s => s.heap.get? l = some { cls := .type "tuple", dict := dd, data := .seq items n, slots := sl } ∧ R (.ok (.ret (.ref l))) s) :=
  .of_wp fun prog w A R s h => by
    obtain ⟨hp, g, d, tk, os⟩ := s
    obtain ⟨hl, h⟩ := h
    have f1 := AutoSeq1.idx_int
    wp_walk using wpAny_loadPart' hl
    repeat (first
      | (refine wpAny_ite_false (decide_eq_false (by rw [b0]; exact Bool.false_ne_true)) ?_; wp_walk using wpAny_loadPart' hl)
      | (refine wpAny_ite_true (decide_eq_true b1) ?_; wp_walk using wpAny_loadPart' hl))
    exact ⟨_, rfl, h⟩
/-- no times: the empty one, new -/
theorem tup_never (l : Addr) (items : Array Value) (n : Nat) (dd : Option Addr) (sl : Array (Option Value)) (x : Int) (u : Tok) (b0 : (decide (x < -(2 ^ 63)) || decide (x ≥ 2 ^ 63)) = false) (b1 : (items.isEmpty || x == 1) = false) (b2 : (decide (x ≤ 0) || items.isEmpty) = true) :
    Meets (Builtin.«tuple.__mul__» ⟨[.ref l, .int x u], []⟩) (fun _ R s => s.heap.get? l = some { cls := .type "tuple", dict := dd, data := .seq items n, slots := sl } ∧
      R (.ok (.ret (Value.ref s.heap.objs.size))) { s with heap := s.heap.push { cls := Value.type "tuple", data := Data.seq #[] }, toks := s.toks }) :=
  .of_wp fun prog w A R s h => by
    obtain ⟨hp, g, d, tk, os⟩ := s
    obtain ⟨hl, h⟩ := h
    have f1 := AutoSeq1.idx_int
    wp_walk using wpAny_loadPart' hl
    repeat (first
      | (refine wpAny_ite_false (decide_eq_false (by rw [b0]; exact Bool.false_ne_true)) ?_; wp_walk using wpAny_loadPart' hl)
      | (refine wpAny_ite_false (decide_eq_false (by rw [b1]; exact Bool.false_ne_true)) ?_; wp_walk using wpAny_loadPart' hl)
      | (refine wpAny_ite_true (decide_eq_true b2) ?_; wp_walk using wpAny_loadPart' hl))
    exact ⟨_, rfl, h⟩
def rRepT1 (K : PySem.W.Frag) : R2 := fun x y H Q => ∃ l k xs, x = .ref l ∧ y = .int k ∧ SqT K H l xs ∧ -1000000 ≤ k ∧ k ≤ 1000000 ∧ (if xs = [] ∨ k = 1 then Q (.ref l) H else k ≤ 0 ∧ ∀ p, H p = none → Q (.ref p) (upd H p (.tup [])))
theorem op_repT1 : OpR X (binaryOp .Mult) (rRepT1 X.K) := by
  intro pins s σ H x y v u Q I rx ry h
  obtain ⟨l, k, xs, rfl, rfl, hT, k1, k2, q⟩ := h
  cases rx
  obtain ⟨t, rfl⟩ := ry
  obtain ⟨its, r, ⟨⟨cls, dd, data, sl⟩, ho, hc, n, hd⟩, hs⟩ := I.tuple hT
  simp only at hc hd
  subst hc hd
  have hle : its.length = xs.length := r.length.symm
  have b0 : (decide (k < -(2 ^ 63)) || decide (k ≥ 2 ^ 63)) = false := by
    have e1 : decide (k < -(2 ^ 63)) = false := decide_eq_false (by omega)
    have e2 : decide (k ≥ 2 ^ 63) = false := decide_eq_false (by omega)
    rw [e1, e2]; rfl
  have emp : its.toArray.isEmpty = decide (xs = []) := by
    cases its with
    | nil => cases xs with
      | nil => rfl
      | cons a b => cases hle
    | cons a b => cases xs with
      | nil => cases hle
      | cons c d => rfl
  refine wpAny_binaryOp_repeat_ref (T := "tuple") (U := "int") (by decide) ⟨_, ho, rfl⟩ (fun s' => typeIs_int s' k t) noFill_tuple_mul F.fills_int_mul F.slot_int_rmul repeat_tuple F.slot_int_index.lookup
    (call_meets F.slot_int_rmul (typeIs_int s k t) F.entry_int_rmul (F.args_int_rmul_2 _ _) (int_rmul_tuple k t l its.toArray n dd sl) ⟨ho, rfl, ⟨_, ho, rfl⟩, ?_⟩)
  by_cases c : xs = [] ∨ k = 1
  · rw [if_pos c] at q
    have b1 : (its.toArray.isEmpty || k == 1) = true := by
      rw [emp]
      rcases c with c | c
      · rw [decide_eq_true c]; rfl
      · rw [c]; simp
    exact call_meets F.slot_tuple_mul ⟨_, ho, rfl⟩ F.entry_tuple_mul (F.args_tuple_mul_2 _ _) (tup_once l its.toArray n dd sl k t b0 b1) ⟨ho, .ref l, H, I, rfl, q⟩
  · rw [if_neg c] at q
    have c' := not_or.mp c
    have b1 : (its.toArray.isEmpty || k == 1) = false := by
      rw [emp, decide_eq_false c'.1, Bool.false_or]; exact beq_eq_false_iff_ne.mpr c'.2
    have b2 : (decide (k ≤ 0) || its.toArray.isEmpty) = true := by rw [decide_eq_true q.1]; rfl
    refine call_meets F.slot_tuple_mul ⟨_, ho, rfl⟩ F.entry_tuple_mul (F.args_tuple_mul_2 _ _) (tup_never l its.toArray n dd sl k t b0 b1 b2) ⟨ho, .ref s.heap.objs.size, _, I.laid (t' := s.toks) (o := .tup []) (fun b ob q => Heap.get?_push_of_some _ q) (Nat.le_refl _) ⟨Nat.zero_le _, [], .nil, IsTup.new _ _⟩, rfl, q.2 _ (I.hok.fresh (Nat.le_refl _))⟩
def mulOk (i j : Int) : Bool := decide (i.natAbs.log2 + j.natAbs.log2 < 1000000)
def mulD : D → D → Option W
  | .int i, .int j => if mulOk i j then some (.d (.int (i * j))) else none
  | .list xs, .int k => if decide (-1000000 ≤ k ∧ k ≤ 1000000) && small (xs.length * k.toNat) then some (.n (.list (List.replicate k.toNat xs).flatten)) else none
  | .tuple xs, .int k => if decide (-1000000 ≤ k ∧ k ≤ 1000 ∧ xs.length ≤ 1000) then some (.d (.tuple (List.replicate k.toNat xs).flatten)) else none
  | _, _ => none
theorem RepDs.rep {K : PySem.W.Frag} {O : Addr → Prop} {H : Hp} {ds : List D} {vs : List V} (h : RepDs K O H ds vs) : ∀ n : Nat, RepDs K O H (List.replicate n ds).flatten (List.replicate n vs).flatten
  | 0 => rfl
  | n + 1 => by
    rw [List.replicate_succ, List.replicate_succ, List.flatten_cons, List.flatten_cons]
    exact h.append (h.rep n)
theorem bi_mul : Bi2 X (fun x y H Q => rI CMulW (fun i j => .int (i * j)) x y H Q ∨ (fun x y H Q => rRep x y H Q ∨ (fun x y H Q => rRepT X.K x y H Q ∨ rRepT1 X.K x y H Q) x y H Q) x y H Q) (lift2 mulD) := bi_lift fun E Hd al m H x v y u w R Q s rx ry hg P k => by
  cases x <;> cases y <;> first | (simp only [mulD] at hg; cases hg; done) | skip
  · rename_i i j
    have e1 : v = .int i := rx
    have e2 : u = .int j := ry
    subst e1 e2
    obtain ⟨c, rfl⟩ := ite_none hg
    exact .inl ⟨i, j, rfl, rfl, of_decide_eq_true (p := i.natAbs.log2 + j.natAbs.log2 < 1000000) c, res_d s P rfl k⟩
  · rename_i ds j
    obtain ⟨l, xs, rfl, h1, h2⟩ := rx
    have e2 : u = .int j := ry
    subst e2
    obtain ⟨c, rfl⟩ := ite_none hg
    rw [Bool.and_eq_true] at c
    have c1 := of_decide_eq_true c.1
    refine .inr (.inl ⟨l, j, xs, rfl, rfl, h1, by omega, by omega, by rw [h2.len]; exact small_line c.2, fun p hp => res_list s (h2.rep _) hp P k⟩)
  · rename_i ds j
    obtain ⟨l, xs, rfl, h1, h2⟩ := rx
    have e2 : u = .int j := ry
    subst e2
    obtain ⟨c, rfl⟩ := ite_none hg
    have c1 := of_decide_eq_true c
    have hl := h2.len
    by_cases c0 : xs = [] ∨ j = 1
    · refine .inr (.inr (.inr ⟨l, j, xs, rfl, rfl, h1, by omega, by omega, ?_⟩))
      rw [if_pos c0]
      have e : (List.replicate j.toNat ds).flatten = ds := by
        rcases c0 with z | z
        · rw [z] at hl
          have : ds = [] := List.eq_nil_of_length_eq_zero hl.symm
          rw [this]; simp
        · rw [z]; simp
      rw [e] at P
      exact res_d s P ⟨l, xs, rfl, h1, h2⟩ k
    · have c2 := not_or.mp c0
      by_cases c3 : 2 ≤ j
      · exact .inr (.inr (.inl ⟨l, j, xs, rfl, rfl, h1, c2.1, c3, c1.2.1, by rw [hl]; exact c1.2.2, fun p hp => res_tup s (h2.rep _) hp P k⟩))
      · refine .inr (.inr (.inr ⟨l, j, xs, rfl, rfl, h1, by omega, by omega, ?_⟩))
        rw [if_neg c0]
        have e : (List.replicate j.toNat ds).flatten = [] := by
          have : j.toNat = 0 := by omega
          rw [this]; rfl
        rw [e] at P
        exact ⟨by omega, fun p hp => res_tup (ds := []) (vs := []) s rfl hp P k⟩
def mMul (a b : EM W) : EM W := mOp2 a b (lift2 mulD)
theorem den_mul (ha : Den X E ea a) (hb : Den X E eb b) : Den X E (.BinOp ea .Mult eb pos) (mMul a b) := PE.imp (pe_op (opOr op_mulW (opOr op_rep (opOr op_repT op_repT1))) ha hb) fun _ _ _ q => tM_op bi_mul q

/-! ### one operand -/
def negD : D → Option W
  | .int i => some (.d (.int (-i)))
  | _ => none
def invD : D → Option W
  | .int i => some (.d (.int (Builtin.bitNot i)))
  | _ => none
def mNeg (a : EM W) : EM W := mOp1 a (lift1 negD)
def mInv (a : EM W) : EM W := mOp1 a (lift1 invD)
theorem den_neg (ha : Den X E ea a) : Den X E (.UnaryOp .USub ea pos) (mNeg a) := PE.imp (pe_un un_neg ha) fun _ _ _ q => tM_un (un_lift fun E Hd al m H x v w R Q s rx hg P k => by
  cases x <;> first | (simp only [negD] at hg; cases hg; done) | skip
  rename_i i
  have e1 : v = .int i := rx
  subst e1
  cases hg
  exact ⟨i, rfl, res_d s P rfl k⟩) q
theorem den_inv (ha : Den X E ea a) : Den X E (.UnaryOp .Invert ea pos) (mInv a) := PE.imp (pe_un un_inv ha) fun _ _ _ q => tM_un (un_lift fun E Hd al m H x v w R Q s rx hg P k => by
  cases x <;> first | (simp only [invD] at hg; cases hg; done) | skip
  rename_i i
  have e1 : v = .int i := rx
  subst e1
  cases hg
  exact ⟨i, rfl, res_d s P rfl k⟩) q
end
end Den
/-! Den4: tests, comparisons, and or not, displays, argument lists. -/
namespace Den
open PySem PySem.Spec PyProof.Rows L2

def tT (K : PySem.W.Frag) (mg : Str → Option Value) (E : St → XK) (c : EM Bool) : TT := fun σ H Q => ∃ Hd al rho m, Stt K Hd al none H m ∧ EnvOk K mg (Own Hd al m none) al H rho σ ∧
  Post K mg Hd al m H (E σ) (c rho m) fun b _ p _ H' => p = none → Q b H'
abbrev DenT (X : Cx) (E : St → XK) (e : Expr) (c : EM Bool) : Prop := PT X e (tT X.K X.mg E c)
abbrev DenW (X : Cx) (E : St → XK) (e : Expr) (c : EM Bool) : Prop := PW X e (tT X.K X.mg E c)
theorem PT.imp {X : Cx} {e : Expr} {t t' : TT} (h : PT X e t) (k : ∀ σ H Q, t' σ H Q → t σ H Q) : PT X e t' := ⟨fun pins s σ H Q I q => h.run pins s σ H Q I (k σ H Q q)⟩
theorem PW.imp {X : Cx} {e : Expr} {t t' : TT} (h : PW X e t) (k : ∀ σ H Q, t' σ H Q → t σ H Q) : PW X e t' := ⟨fun wh pins s σ H Q I q => h.run wh pins s σ H Q I (k σ H Q q)⟩

/-! ### truth -/
def truD : D → Option Bool
  | .none => some false
  | .bool b => some b
  | .int i => some (i != 0)
  | .str y => if small y.length then some ((y.length : Int) != 0) else none
  | .tuple ds => some (!ds.isEmpty)
  | .list ds => some (!ds.isEmpty)
  | .dict _ => none
def truW (w : W) (m : Mem) : Rs Bool := match peek m w with | some x => (match truD x with | some b => .ok b m | none => .no) | none => .no
def mTru (a : EM W) : EM Bool := fun rho m => (a rho m).bindV truW
/-- a value that is a bool -/
def mBool (a : EM W) : EM Bool := fun rho m => (a rho m).bindV fun w m1 => match w with | .d (.bool b) => .ok b m1 | _ => .no
section
variable {K : PySem.W.Frag} {mg : Str → Option Value} {O : Addr → Prop} {Hd : Addr → Prop} {al : List Addr} {m : Mem} {H : Hp} {E : XK}
theorem RepDs.isEmpty {ds : List D} {vs : List V} (h : RepDs K O H ds vs) : (!ds.isEmpty) = !vs.isEmpty := by
  cases ds with
  | nil => rw [show vs = [] from h]; rfl
  | cons x ds => obtain ⟨v, r, h1, _⟩ := h; subst h1; rfl
theorem truV_of {x : D} {v : V} {b : Bool} (h : RepP K O H x v) (e : truD x = some b) : TruV K v H b := by
  cases x with
  | none => cases h; cases e; rfl
  | bool c => cases h; cases e; rfl
  | int i => cases h; cases e; rfl
  | str y =>
    cases h
    obtain ⟨c, rfl⟩ := ite_none e
    exact ⟨small_line c, rfl⟩
  | tuple ds => obtain ⟨a, vs, rfl, h1, h2⟩ := h; cases e; exact .inr (.inl ⟨vs, h1, h2.isEmpty⟩)
  | list ds => obtain ⟨a, vs, rfl, h1, h2⟩ := h; cases e; exact .inl ⟨vs, .inl (.inl h1), h2.isEmpty⟩
  | dict kvs => cases e
theorem truW_ok {w : W} {v : V} {R : Bool → List Addr → Option Addr → Mem → Hp → Prop} (s : Stt K Hd al none H m) (h : RepW K mg (Own Hd al m none) none al H w v) (P : Post K mg Hd al m H E (truW w m) R) : ∃ b, TruV K v H b ∧ R b al none m H := by
  unfold truW at P
  split at P
  · rename_i x hx
    split at P
    · rename_i b hb
      exact ⟨b, truV_of (peek_ok s h hx) hb, P.ok s⟩
    · exact P.elim
  · exact P.elim
end
section
variable {X : Cx} {E : St → XK} {ea eb ec : Expr} {a b c : EM W} {t u : EM Bool} {pos : Pos} {rest : List Expr}
theorem dt_tru (ha : Den X E ea a) (he : ∀ whole, isTrue ea X.env whole = (do let v ← whole; standAt ea.pos; holding [v] (truthy v)) := by intro _; rfl) : DenT X E ea (mTru a) := PT.imp (pt_truth ha he) fun σ H Q q => by
  obtain ⟨Hd, al, rho, m, s, e, P⟩ := q
  refine ⟨Hd, al, rho, m, s, e, (Post.bindV P).imp fun w al1 p1 m1 H1 g s1 k v rv => ?_⟩
  obtain ⟨g1, s1', rv1, P1⟩ := k v rv
  obtain ⟨b, h1, h2⟩ := truW_ok s1' rv1 P1
  exact ⟨b, h1, h2 rfl⟩
theorem tT_bool {tE : TE} (h : ∀ σ H Q, tM X.K X.mg E a σ H Q → tE σ H Q) {σ : St} {H : Hp} {Q : Bool → Hp → Prop} (q : tT X.K X.mg E (mBool a) σ H Q) : tTest tE σ H Q := by
  obtain ⟨Hd, al, rho, m, s, e, P⟩ := q
  refine h σ H _ ⟨Hd, al, rho, m, s, e, (Post.bindV P).imp fun w al1 p1 m1 H1 g s1 k v rv => ?_⟩
  obtain ⟨g1, s1', rv1, P1⟩ := k v rv
  split at P1
  · rename_i b hw
    rw [hw] at rv1
    have e : v = .bl b := rv1.2
    exact ⟨b, e, (P1.ok s1') rfl⟩
  · exact P1.elim
/-! ### and, or, not as tests -/
def mAndT (t u : EM Bool) : EM Bool := fun rho m => (t rho m).bind fun b m1 => if b = true then u rho m1 else .ok false m1
def mOrT (t u : EM Bool) : EM Bool := fun rho m => (t rho m).bind fun b m1 => if b = true then .ok true m1 else u rho m1
def mNotT (t : EM Bool) : EM Bool := fun rho m => (t rho m).bind fun b m1 => .ok (!b) m1
theorem tT_and {σ : St} {H : Hp} {Q : Bool → Hp → Prop} (q : tT X.K X.mg E (mAndT t u) σ H Q) : tAnd (tT X.K X.mg E t) (tT X.K X.mg E u) σ H Q := by
  obtain ⟨Hd, al, rho, m, s, e, P⟩ := q
  refine ⟨Hd, al, rho, m, s, e, (Post.bind P).imp fun b al1 p1 m1 H1 g s1 k hp => ?_⟩
  subst hp
  cases b with
  | true => exact ⟨Hd, al1, rho, m1, s1, e.go g, k rfl⟩
  | false => exact Post.ok s1 (k rfl) rfl
theorem tT_or {σ : St} {H : Hp} {Q : Bool → Hp → Prop} (q : tT X.K X.mg E (mOrT t u) σ H Q) : tOr (tT X.K X.mg E t) (tT X.K X.mg E u) σ H Q := by
  obtain ⟨Hd, al, rho, m, s, e, P⟩ := q
  refine ⟨Hd, al, rho, m, s, e, (Post.bind P).imp fun b al1 p1 m1 H1 g s1 k hp => ?_⟩
  subst hp
  cases b with
  | false => exact ⟨Hd, al1, rho, m1, s1, e.go g, k rfl⟩
  | true => exact Post.ok s1 (k rfl) rfl
theorem dw_and1 (h : DenT X E ea t) : DenW X E (.BoolOp .And [ea] pos) t := pw_and1 h
theorem dw_or1 (h : DenT X E ea t) : DenW X E (.BoolOp .Or [ea] pos) t := pw_or1 h
theorem dw_and (h : DenT X E ea t) (h2 : DenW X E (.BoolOp .And (eb :: rest) pos) u) : DenW X E (.BoolOp .And (ea :: eb :: rest) pos) (mAndT t u) := PW.imp (pw_and h h2) fun _ _ _ q => tT_and q
theorem dw_or (h : DenT X E ea t) (h2 : DenW X E (.BoolOp .Or (eb :: rest) pos) u) : DenW X E (.BoolOp .Or (ea :: eb :: rest) pos) (mOrT t u) := PW.imp (pw_or h h2) fun _ _ _ q => tT_or q
theorem dt_w (h : DenW X E ea t) : DenT X E ea t := h.pt
theorem dt_not (h : DenT X E ea t) : DenT X E (.UnaryOp .Not ea pos) (mNotT t) := PT.imp (pt_not h) fun σ H Q q => by
  obtain ⟨Hd, al, rho, m, s, e, P⟩ := q
  refine ⟨Hd, al, rho, m, s, e, (Post.bind P).imp fun b al1 p1 m1 H1 g s1 k hp => ?_⟩
  subst hp
  exact Post.ok s1 (k rfl) rfl
/-! ### as values, by truth -/
def mAndV (a b : EM W) : EM W := fun rho m => (a rho m).bindV fun w m1 => (truW w m1).bind fun k m2 => if k = true then b rho m2 else .ok w m2
def mOrV (a b : EM W) : EM W := fun rho m => (a rho m).bindV fun w m1 => (truW w m1).bind fun k m2 => if k = true then .ok w m2 else b rho m2
def mNotV (a : EM W) : EM W := fun rho m => (a rho m).bindV fun w m1 => (truW w m1).bind fun k m2 => .ok (.d (.bool (!k))) m2
theorem den_and1 {op} (h : Den X E ea a) : Den X E (.BoolOp op [ea] pos) a := pe_one h
theorem den_andV (h : Den X E ea a) (h2 : Den X E (.BoolOp .And (eb :: rest) pos) b) : Den X E (.BoolOp .And (ea :: eb :: rest) pos) (mAndV a b) := PE.imp (pe_andT h h2) fun σ H Q q => by
  obtain ⟨Hd, al, rho, m, s, e, P⟩ := q
  refine ⟨Hd, al, rho, m, s, e, (Post.bindV P).imp fun w al1 p1 m1 H1 g s1 k v rv => ?_⟩
  obtain ⟨g1, s1', rv1, P1⟩ := k v rv
  obtain ⟨b, h1, h2⟩ := truW_ok s1' rv1 (Post.bind P1)
  refine ⟨b, h1, ?_⟩
  cases b with
  | true => exact ⟨Hd, al1, rho, m1, s1', e.go g1, h2 rfl⟩
  | false => exact (Post.ok s1' (h2 rfl)) v rv1
theorem den_orV (h : Den X E ea a) (h2 : Den X E (.BoolOp .Or (eb :: rest) pos) b) : Den X E (.BoolOp .Or (ea :: eb :: rest) pos) (mOrV a b) := PE.imp (pe_orT h h2) fun σ H Q q => by
  obtain ⟨Hd, al, rho, m, s, e, P⟩ := q
  refine ⟨Hd, al, rho, m, s, e, (Post.bindV P).imp fun w al1 p1 m1 H1 g s1 k v rv => ?_⟩
  obtain ⟨g1, s1', rv1, P1⟩ := k v rv
  obtain ⟨b, h1, h2⟩ := truW_ok s1' rv1 (Post.bind P1)
  refine ⟨b, h1, ?_⟩
  cases b with
  | false => exact ⟨Hd, al1, rho, m1, s1', e.go g1, h2 rfl⟩
  | true => exact (Post.ok s1' (h2 rfl)) v rv1
theorem den_notV (h : Den X E ea a) : Den X E (.UnaryOp .Not ea pos) (mNotV a) := PE.imp (pe_notT h) fun σ H Q q => by
  obtain ⟨Hd, al, rho, m, s, e, P⟩ := q
  refine ⟨Hd, al, rho, m, s, e, (Post.bindV P).imp fun w al1 p1 m1 H1 g s1 k v rv => ?_⟩
  obtain ⟨g1, s1', rv1, P1⟩ := k v rv
  obtain ⟨b, h1, h2⟩ := truW_ok s1' rv1 (Post.bind P1)
  exact ⟨b, h1, (Post.ok s1' (h2 rfl)) _ ⟨rfl, rfl⟩⟩
/-- a if t else b -/
def mIf (t : EM Bool) (a b : EM W) : EM W := fun rho m => (t rho m).bind fun k m1 => if k = true then a rho m1 else b rho m1
theorem den_if (h : DenT X E ec t) (ha : Den X E ea a) (hb : Den X E eb b) : Den X E (.IfExp ec ea eb pos) (mIf t a b) := PE.imp (pe_ifExp h ha hb) fun σ H Q q => by
  obtain ⟨Hd, al, rho, m, s, e, P⟩ := q
  refine ⟨Hd, al, rho, m, s, e, (Post.bind P).imp fun b al1 p1 m1 H1 g s1 k hp => ?_⟩
  subst hp
  cases b with
  | true => exact ⟨Hd, al1, rho, m1, s1, e.go g, k rfl⟩
  | false => exact ⟨Hd, al1, rho, m1, s1, e.go g, k rfl⟩

/-! ### comparisons -/
theorem den_cmp {op : CmpOp} {r : R2} {f : W → W → Mem → Rs W} (ho : OpR X (compareOp op) r) (hf : Bi2 X r f) (ha : Den X E ea a) (hb : Den X E eb b) (hm : behindInMarks op eb = false) : Den X E (.Compare ea [op] [eb] pos) (mOp2 a b f) :=
  PE.imp (pe_cmpR ho ha hb hm) fun _ _ _ q => tM_op hf q
theorem dt_cmp {op : CmpOp} {r : R2} {f : W → W → Mem → Rs W} (ho : OpR X (compareOp op) r) (hf : Bi2 X r f) (ha : Den X E ea a) (hb : Den X E eb b) (hm : behindInMarks op eb = false) : DenT X E (.Compare ea [op] [eb] pos) (mBool (mOp2 a b f)) :=
  PT.imp (pt_cmpR ho ha hb hm) fun _ _ _ q => tT_bool (fun _ _ _ q => tM_op hf q) q
def mChain (f g : W → W → Mem → Rs W) (a b c : EM W) : EM W := fun rho m => (a rho m).bindV fun x m1 => (b rho m1).bindV fun y m2 => (f x y m2).bindV fun r m3 =>
  match r with | .d (.bool true) => (c rho m3).bindV fun z m4 => g y z m4 | .d (.bool false) => .ok (.d (.bool false)) m3 | _ => .no
theorem tM_chain {r r' : R2} {f g : W → W → Mem → Rs W} (hf : Bi2 X r f) (hg : Bi2 X r' g) {σ : St} {H : Hp} {Q : VK} (q : tM X.K X.mg E (mChain f g a b c) σ H Q) : tChain r r' (tM X.K X.mg E a) (tM X.K X.mg E b) (tM X.K X.mg E c) σ H Q := by
  obtain ⟨Hd, al, rho, m, s, e, P⟩ := q
  refine ⟨Hd, al, rho, m, s, e, (Post.bindV P).imp fun w al1 p1 m1 H1 g1 s1 k v rv => ?_⟩
  obtain ⟨g1, s1', rv1, P1⟩ := k v rv
  refine ⟨Hd, al1, rho, m1, s1', e.go g1, (Post.bindV P1).imp fun w2 al2 p2 m2 H2 g2 s2 k2 v2 rw2 => ?_⟩
  obtain ⟨g2, s2', rv2, P2⟩ := k2 v2 rw2
  refine hf _ _ _ _ _ _ _ _ _ _ _ s2' (rv1.go g2) rv2 (Post.bindV P2) fun w' al' p m' H' v' q' rw' => ?_
  obtain ⟨g3, s3, rv3, P3⟩ := q' v' rw'
  generalize val w' = wr at rv3 P3
  split at P3
  · have e3 : v' = .bl true := rv3.2
    refine ⟨true, e3, ?_⟩
    refine ⟨Hd, al', rho, m', s3, (e.go (g1.trans g2)).go g3, (Post.bindV P3).imp fun w4 al4 p4 m4 H4 g4 s4 k4 v4 rw4 => ?_⟩
    obtain ⟨g4, s4', rv4, P4⟩ := k4 v4 rw4
    exact hg _ _ _ _ _ _ _ _ _ _ Q s4' (rv2.go (g3.trans g4)) rv4 P4 fun w' al' p m' H' v' q' => q' v'
  · have e3 : v' = .bl false := rv3.2
    exact ⟨false, e3, (Post.ok s3 P3) _ ⟨rfl, rfl⟩⟩
  · exact P3.elim
theorem den_chain {op op' : CmpOp} {r r' : R2} {f g : W → W → Mem → Rs W} (ho : OpR X (compareOp op) r) (hf : Bi2 X r f) (ho' : OpR X (compareOp op') r') (hg : Bi2 X r' g) (ha : Den X E ea a) (hb : Den X E eb b) (hc : Den X E ec c)
    (hm : lastMarks [op, op'] [eb, ec] = false := by with_unfolding_all rfl) : Den X E (.Compare ea [op, op'] [eb, ec] pos) (mChain f g a b c) := PE.imp (pe_chain ho ho' ha hb hc hm) fun _ _ _ q => tM_chain hf hg q
theorem dt_chain {op op' : CmpOp} {r r' : R2} {f g : W → W → Mem → Rs W} (ho : OpR X (compareOp op) r) (hf : Bi2 X r f) (ho' : OpR X (compareOp op') r') (hg : Bi2 X r' g) (ha : Den X E ea a) (hb : Den X E eb b) (hc : Den X E ec c)
    (hm : lastMarks [op, op'] [eb, ec] = false := by with_unfolding_all rfl) : DenT X E (.Compare ea [op, op'] [eb, ec] pos) (mBool (mChain f g a b c)) := PT.imp (pt_chain ho ho' ha hb hc hm) fun _ _ _ q => tT_bool (fun _ _ _ q => tM_chain hf hg q) q

/-- the order of ints and of texts -/
def ltD : D → D → Option W
  | .int i, .int j => some (.d (.bool (decide (i < j))))
  | .str i, .str j => some (.d (.bool (decide (i.cps.toList < j.cps.toList))))
  | _, _ => none
def leD : D → D → Option W
  | .int i, .int j => some (.d (.bool (decide (i ≤ j))))
  | .str i, .str j => some (.d (.bool (!decide (j.cps.toList < i.cps.toList))))
  | _, _ => none
def gtD : D → D → Option W
  | .int i, .int j => some (.d (.bool (decide (j < i))))
  | .str i, .str j => some (.d (.bool (decide (j.cps.toList < i.cps.toList))))
  | _, _ => none
def geD : D → D → Option W
  | .int i, .int j => some (.d (.bool (decide (j ≤ i))))
  | .str i, .str j => some (.d (.bool (!decide (i.cps.toList < j.cps.toList))))
  | _, _ => none
abbrev rOr (r r' : R2) : R2 := fun x y H Q => r x y H Q ∨ r' x y H Q
theorem bi_ord {g : D → D → Option W} {f : Int → Int → Bool} {h : Str → Str → Bool} (hi : ∀ i j, g (.int i) (.int j) = some (.d (.bool (f i j)))) (hs : ∀ i j, g (.str i) (.str j) = some (.d (.bool (h i j))))
    (hn : ∀ x y w, g x y = some w → (∃ i j, x = .int i ∧ y = .int j) ∨ ∃ i j, x = .str i ∧ y = .str j) :
    Bi2 X (rOr (rI0 fun i j => .bl (f i j)) (fun x y H Q => ∃ i j, x = .str i ∧ y = .str j ∧ Q (.bl (h i j)) H)) (lift2 g) := bi_lift fun E Hd al m H x v y u w R Q s rx ry hg P k => by
  rcases hn x y w hg with ⟨i, j, rfl, rfl⟩ | ⟨i, j, rfl, rfl⟩
  · have e1 : v = .int i := rx
    have e2 : u = .int j := ry
    subst e1 e2
    rw [hi] at hg; cases hg
    exact .inl ⟨i, j, rfl, rfl, res_d s P rfl k⟩
  · have e1 : v = .str i := rx
    have e2 : u = .str j := ry
    subst e1 e2
    rw [hs] at hg; cases hg
    exact .inr ⟨i, j, rfl, rfl, res_d s P rfl k⟩
theorem ord_cases {g : D → D → Option W} (h : ∀ x y, (∃ i j, x = .int i ∧ y = .int j) ∨ (∃ i j, x = .str i ∧ y = .str j) ∨ g x y = none) : ∀ x y w, g x y = some w → (∃ i j, x = .int i ∧ y = .int j) ∨ ∃ i j, x = .str i ∧ y = .str j := fun x y w e => by
  rcases h x y with q | q | q
  · exact .inl q
  · exact .inr q
  · rw [q] at e; cases e
theorem bi_lt : Bi2 X (rOr (rI0 fun i j => .bl (decide (i < j))) (fun x y H Q => ∃ i j, x = .str i ∧ y = .str j ∧ Q (.bl (decide (i.cps.toList < j.cps.toList))) H)) (lift2 ltD) := bi_ord (fun _ _ => rfl) (fun _ _ => rfl) (ord_cases fun x y => by
  cases x <;> cases y <;> first | exact .inr (.inr rfl) | exact .inl ⟨_, _, rfl, rfl⟩ | exact .inr (.inl ⟨_, _, rfl, rfl⟩))
theorem bi_le : Bi2 X (rOr (rI0 fun i j => .bl (decide (i ≤ j))) (fun x y H Q => ∃ i j, x = .str i ∧ y = .str j ∧ Q (.bl (!decide (j.cps.toList < i.cps.toList))) H)) (lift2 leD) := bi_ord (fun _ _ => rfl) (fun _ _ => rfl) (ord_cases fun x y => by
  cases x <;> cases y <;> first | exact .inr (.inr rfl) | exact .inl ⟨_, _, rfl, rfl⟩ | exact .inr (.inl ⟨_, _, rfl, rfl⟩))
theorem bi_gt : Bi2 X (rOr (rI0 fun i j => .bl (decide (j < i))) (fun x y H Q => ∃ i j, x = .str i ∧ y = .str j ∧ Q (.bl (decide (j.cps.toList < i.cps.toList))) H)) (lift2 gtD) := bi_ord (fun _ _ => rfl) (fun _ _ => rfl) (ord_cases fun x y => by
  cases x <;> cases y <;> first | exact .inr (.inr rfl) | exact .inl ⟨_, _, rfl, rfl⟩ | exact .inr (.inl ⟨_, _, rfl, rfl⟩))
theorem bi_ge : Bi2 X (rOr (rI0 fun i j => .bl (decide (j ≤ i))) (fun x y H Q => ∃ i j, x = .str i ∧ y = .str j ∧ Q (.bl (!decide (i.cps.toList < j.cps.toList))) H)) (lift2 geD) := bi_ord (fun _ _ => rfl) (fun _ _ => rfl) (ord_cases fun x y => by
  cases x <;> cases y <;> first | exact .inr (.inr rfl) | exact .inl ⟨_, _, rfl, rfl⟩ | exact .inr (.inl ⟨_, _, rfl, rfl⟩))
theorem po_lt : OpR X (compareOp .Lt) (rOr (rI0 fun i j => .bl (decide (i < j))) (fun x y H Q => ∃ i j, x = .str i ∧ y = .str j ∧ Q (.bl (decide (i.cps.toList < j.cps.toList))) H)) := opOr op_lt op_lt_str
theorem po_le : OpR X (compareOp .LtE) (rOr (rI0 fun i j => .bl (decide (i ≤ j))) (fun x y H Q => ∃ i j, x = .str i ∧ y = .str j ∧ Q (.bl (!decide (j.cps.toList < i.cps.toList))) H)) := opOr op_le op_le_str
theorem po_gt : OpR X (compareOp .Gt) (rOr (rI0 fun i j => .bl (decide (j < i))) (fun x y H Q => ∃ i j, x = .str i ∧ y = .str j ∧ Q (.bl (decide (j.cps.toList < i.cps.toList))) H)) := opOr op_gt op_gt_str
theorem po_ge : OpR X (compareOp .GtE) (rOr (rI0 fun i j => .bl (decide (j ≤ i))) (fun x y H Q => ∃ i j, x = .str i ∧ y = .str j ∧ Q (.bl (!decide (i.cps.toList < j.cps.toList))) H)) := opOr op_ge op_ge_str

/-! ### equality of data, what is in what -/
def eqD : D → D → Option W
  | .str a, .str b => some (.d (.bool (decide (a = b))))
  | x, y => if SeqAt.shaped x && SeqAt.shaped y then some (.d (.bool (PyData.eqv x y))) else none
def neD : D → D → Option W
  | .str a, .str b => some (.d (.bool (!decide (a = b))))
  | x, y => if SeqAt.shaped x && SeqAt.shaped y then some (.d (.bool (!PyData.eqv x y))) else none
theorem dec_S {a b : Str} : decide (V.str a = V.str b) = decide (a = b) := decide_eq_decide.mpr ⟨fun h => V.str.inj h, fun h => by rw [h]⟩
theorem bi_eq : Bi2 X (rOr rEq (rEqD X.K)) (lift2 eqD) := bi_lift fun E Hd al m H x v y u w R Q s rx ry hg P k => by
  unfold eqD at hg
  split at hg
  · rename_i a b
    cases hg
    have e1 : v = .str a := rx
    have e2 : u = .str b := ry
    subst e1 e2
    exact .inl ⟨rfl, by rw [dec_S]; exact res_d s P rfl k⟩
  · obtain ⟨c, rfl⟩ := ite_none hg
    rw [Bool.and_eq_true] at c
    exact .inr ⟨x, y, rx.dp (noDict_shaped c.1), ry.dp (noDict_shaped c.2), c.1, c.2, res_d s P rfl k⟩
theorem bi_ne : Bi2 X (rOr rNe (rNeD X.K)) (lift2 neD) := bi_lift fun E Hd al m H x v y u w R Q s rx ry hg P k => by
  unfold neD at hg
  split at hg
  · rename_i a b
    cases hg
    have e1 : v = .str a := rx
    have e2 : u = .str b := ry
    subst e1 e2
    exact .inl ⟨rfl, by rw [dec_S]; exact res_d s P rfl k⟩
  · obtain ⟨c, rfl⟩ := ite_none hg
    rw [Bool.and_eq_true] at c
    exact .inr ⟨x, y, rx.dp (noDict_shaped c.1), ry.dp (noDict_shaped c.2), c.1, c.2, res_d s P rfl k⟩
theorem po_eq (hu : X.A.units + 64 < cLine) : OpR X (compareOp .Eq) (rOr rEq (rEqD X.K)) := opOr op_eq (op_eqD hu)
theorem po_ne (hu : X.A.units + 64 < cLine) : OpR X (compareOp .NotEq) (rOr rNe (rNeD X.K)) := opOr op_ne (op_neD hu)
/-- x in a list, a tuple of data; a text in a text -/
def inD : D → D → Option W
  | x, .list ys => if SeqAt.shaped x && SeqAt.shaped (.list ys) then some (.d (.bool (ys.any fun z => PyData.eqv z x))) else none
  | x, .tuple ys => if SeqAt.shaped x && SeqAt.shaped (.tuple ys) then some (.d (.bool (ys.any fun z => PyData.eqv z x))) else none
  | .str i, .str j => some (.d (.bool (!(Builtin.Str.occurrences j i 0 j.length 1).isEmpty)))
  | _, _ => none
def ninD (x y : D) : Option W := match inD x y with | some (.d (.bool b)) => some (.d (.bool (!b))) | _ => none
def rInT (K : PySem.W.Frag) (neg : Bool) : R2 := fun x y H Q => ∃ d ds, Dp K H x d ∧ Dp K H y (.tuple ds) ∧ SeqAt.shaped d = true ∧ SeqAt.shaped (.tuple ds) = true ∧ Q (.bl (if neg then !(ds.any fun z => PyData.eqv z d) else ds.any fun z => PyData.eqv z d)) H
theorem room_inT {A : Around} {d : PyData} {ds : List PyData} (sd : SeqAt.shaped d = true) (hu : A.units + 65 < cLine) : A.units + 1 + min (PyData.depthAll ds) d.depth < cLine := by
  have h1 := SeqAt.depth_of_shaped sd
  have h2 : min (PyData.depthAll ds) d.depth ≤ d.depth := Nat.min_le_right _ _
  omega
theorem lay_tuple {ds : List PyData} (h : SeqAt.shaped (.tuple ds) = true) : PyData.canLayAll0 ds = true := by
  have q := SeqAt.canLay_of_shaped h
  simpa only [PyData.canLay0] using q
theorem op_inT (hu : X.A.units + 65 < cLine) : OpR X (compareOp .In) (rInT X.K false) := by
  intro pins s σ H x y v u Q I rx ry h
  obtain ⟨d, ds, hd, he, sd, se, q⟩ := h
  obtain ⟨as, r1⟩ := Dp.reads I d x v hd rx
  obtain ⟨bs, r2⟩ := Dp.reads I (.tuple ds) y u he ry
  exact SeqAt.in_tuple_reads r2 r1 (lay_tuple se) (SeqAt.canLay_of_shaped sd) (room_inT sd hu) ⟨.bl _, H, I, rfl, q⟩
theorem op_ninT (hu : X.A.units + 65 < cLine) : OpR X (compareOp .NotIn) (rInT X.K true) := by
  intro pins s σ H x y v u Q I rx ry h
  obtain ⟨d, ds, hd, he, sd, se, q⟩ := h
  obtain ⟨as, r1⟩ := Dp.reads I d x v hd rx
  obtain ⟨bs, r2⟩ := Dp.reads I (.tuple ds) y u he ry
  exact SeqAt.notIn_tuple_reads r2 r1 (lay_tuple se) (SeqAt.canLay_of_shaped sd) (room_inT sd hu) ⟨.bl _, H, I, rfl, q⟩
abbrev rInStr (neg : Bool) : R2 := fun x y H Q => ∃ i j, x = .str i ∧ y = .str j ∧ Q (.bl (if neg then !(!(Builtin.Str.occurrences j i 0 j.length 1).isEmpty) else !(Builtin.Str.occurrences j i 0 j.length 1).isEmpty)) H
theorem po_in (hu : X.A.units + 65 < cLine) : OpR X (compareOp .In) (rOr (rInD X.K) (rOr (rInT X.K false) (rInStr false))) := opOr (op_inD hu) (opOr (op_inT hu) op_in_str)
theorem po_nin (hu : X.A.units + 65 < cLine) : OpR X (compareOp .NotIn) (rOr (rNotInD X.K) (rOr (rInT X.K true) (rInStr true))) := opOr (op_notInD hu) (opOr (op_ninT hu) op_notin_str)
theorem in_cases {x y : D} {w : W} (h : inD x y = some w) : (∃ ys, y = .list ys ∧ SeqAt.shaped x = true ∧ SeqAt.shaped (.list ys) = true ∧ w = .d (.bool (ys.any fun z => PyData.eqv z x))) ∨
    (∃ ys, y = .tuple ys ∧ SeqAt.shaped x = true ∧ SeqAt.shaped (.tuple ys) = true ∧ w = .d (.bool (ys.any fun z => PyData.eqv z x))) ∨ ∃ i j, x = .str i ∧ y = .str j ∧ w = .d (.bool (!(Builtin.Str.occurrences j i 0 j.length 1).isEmpty)) := by
  cases y with
  | list ys =>
    have h' : (if SeqAt.shaped x && SeqAt.shaped (.list ys) then some (W.d (.bool (ys.any fun z => PyData.eqv z x))) else none) = some w := by cases x <;> exact h
    obtain ⟨c, rfl⟩ := ite_none h'
    rw [Bool.and_eq_true] at c
    exact .inl ⟨ys, rfl, c.1, c.2, rfl⟩
  | tuple ys =>
    have h' : (if SeqAt.shaped x && SeqAt.shaped (.tuple ys) then some (W.d (.bool (ys.any fun z => PyData.eqv z x))) else none) = some w := by cases x <;> exact h
    obtain ⟨c, rfl⟩ := ite_none h'
    rw [Bool.and_eq_true] at c
    exact .inr (.inl ⟨ys, rfl, c.1, c.2, rfl⟩)
  | str j =>
    cases x <;> first | (simp only [inD] at h; cases h; done) | skip
    rename_i i
    cases h
    exact .inr (.inr ⟨i, j, rfl, rfl, rfl⟩)
  | _ => cases x <;> (simp only [inD] at h; cases h)
theorem bi_in : Bi2 X (rOr (rInD X.K) (rOr (rInT X.K false) (rInStr false))) (lift2 inD) := bi_lift fun E Hd al m H x v y u w R Q s rx ry hg P k => by
  rcases in_cases hg with ⟨ys, rfl, c1, c2, rfl⟩ | ⟨ys, rfl, c1, c2, rfl⟩ | ⟨i, j, rfl, rfl, rfl⟩
  · exact .inl ⟨x, ys, rx.dp (noDict_shaped c1), ry.dp (noDict_shaped c2), c1, c2, res_d s P rfl k⟩
  · exact .inr (.inl ⟨x, ys, rx.dp (noDict_shaped c1), ry.dp (noDict_shaped c2), c1, c2, res_d s P rfl k⟩)
  · have e1 : v = .str i := rx
    have e2 : u = .str j := ry
    exact .inr (.inr ⟨i, j, e1, e2, res_d s P rfl k⟩)
theorem bi_nin : Bi2 X (rOr (rNotInD X.K) (rOr (rInT X.K true) (rInStr true))) (lift2 ninD) := bi_lift fun E Hd al m H x v y u w R Q s rx ry hg P k => by
  unfold ninD at hg
  split at hg
  · rename_i b hb
    cases hg
    rcases in_cases hb with ⟨ys, rfl, c1, c2, e⟩ | ⟨ys, rfl, c1, c2, e⟩ | ⟨i, j, rfl, rfl, e⟩
    · cases e; exact .inl ⟨x, ys, rx.dp (noDict_shaped c1), ry.dp (noDict_shaped c2), c1, c2, res_d s P rfl k⟩
    · cases e; exact .inr (.inl ⟨x, ys, rx.dp (noDict_shaped c1), ry.dp (noDict_shaped c2), c1, c2, res_d s P rfl k⟩)
    · have e1 : v = .str i := rx
      have e2 : u = .str j := ry
      cases e; exact .inr (.inr ⟨i, j, e1, e2, res_d s P rfl k⟩)
  · cases hg
/-- is None -/
def isNone : D → Bool
  | .none => true
  | _ => false
def isD : D → D → Option W
  | x, .none => some (.d (.bool (isNone x)))
  | _, _ => none
def isntD : D → D → Option W
  | x, .none => some (.d (.bool (!isNone x)))
  | _, _ => none
theorem isNone_ok {K : PySem.W.Frag} {O : Addr → Prop} {H : Hp} {x : D} {v : V} (h : RepP K O H x v) : decide (v = .non) = isNone x := by
  cases x with
  | none => cases h; rfl
  | bool b => cases h; rfl
  | int i => cases h; rfl
  | str z => cases h; rfl
  | tuple ds => obtain ⟨a, vs, rfl, _⟩ := h; rfl
  | list ds => obtain ⟨a, vs, rfl, _⟩ := h; rfl
  | dict kvs => obtain ⟨a, rfl, _⟩ := h; rfl
theorem bi_is : Bi2 X (fun x y H Q => y = .non ∧ Q (.bl (decide (x = .non))) H) (lift2 isD) := bi_lift fun E Hd al m H x v y u w R Q s rx ry hg P k => by
  cases y <;> first | (cases x <;> (simp only [isD] at hg; cases hg); done) | skip
  have e2 : u = .non := ry
  subst e2
  have e : some (W.d (.bool (isNone x))) = some w := by cases x <;> exact hg
  cases e
  refine ⟨rfl, ?_⟩
  rw [isNone_ok rx]
  exact res_d s P rfl k
theorem bi_isnt : Bi2 X (fun x y H Q => y = .non ∧ Q (.bl (!decide (x = .non))) H) (lift2 isntD) := bi_lift fun E Hd al m H x v y u w R Q s rx ry hg P k => by
  cases y <;> first | (cases x <;> (simp only [isntD] at hg; cases hg); done) | skip
  have e2 : u = .non := ry
  subst e2
  have e : some (W.d (.bool (!isNone x))) = some w := by cases x <;> exact hg
  cases e
  refine ⟨rfl, ?_⟩
  rw [isNone_ok rx]
  exact res_d s P rfl k

/-! ### argument lists, displays -/
def RepWs (K : PySem.W.Frag) (mg : Str → Option Value) (O : Addr → Prop) (al : List Addr) (H : Hp) : List W → List V → Prop
  | [], vs => vs = []
  | w :: ws, vs => ∃ v r, vs = v :: r ∧ RepW K mg O none al H w v ∧ RepWs K mg O al H ws r
def tA (K : PySem.W.Frag) (mg : Str → Option Value) (E : St → XK) (c : EM (List W)) : TA := fun σ H Q => ∃ Hd al rho m, Stt K Hd al none H m ∧ EnvOk K mg (Own Hd al m none) al H rho σ ∧
  Post K mg Hd al m H (E σ) (c rho m) fun ws al' p m' H' => p = none → ∀ vs, RepWs K mg (Own Hd al' m' none) al' H' ws vs → Q vs H'
abbrev DenA (X : Cx) (E : St → XK) (es : List Expr) (c : EM (List W)) : Prop := PA X es (tA X.K X.mg E c)
theorem PA.imp {es : List Expr} {t t' : TA} (h : PA X es t) (k : ∀ σ H Q, t' σ H Q → t σ H Q) : PA X es t' := ⟨fun pos pins s σ H Q I q => h.run pos pins s σ H Q I (k σ H Q q)⟩
def mNil : EM (List W) := fun _ m => .ok [] m
def mCons (a : EM W) (r : EM (List W)) : EM (List W) := fun rho m => (a rho m).bindV fun x m1 => (r rho m1).bind fun xs m2 => .ok (x :: xs) m2
theorem da_nil : DenA X E [] mNil := PA.imp pa_nil fun σ H Q q => by
  obtain ⟨Hd, al, rho, m, s, e, P⟩ := q
  exact Post.ok s P rfl [] rfl
theorem da_cons {es : List Expr} {r : EM (List W)} (ha : Den X E ea a) (hr : DenA X E es r) (hs : starEach (ea :: es) X.env = (false, eval ea X.env) :: starEach es X.env := by rfl) : DenA X E (ea :: es) (mCons a r) := PA.imp (pa_cons ha hr hs) fun σ H Q q => by
  obtain ⟨Hd, al, rho, m, s, e, P⟩ := q
  refine ⟨Hd, al, rho, m, s, e, (Post.bindV P).imp fun w al1 p1 m1 H1 g s1 k v rv => ?_⟩
  obtain ⟨g1, s1', rv1, P1⟩ := k v rv
  refine ⟨Hd, al1, rho, m1, s1', e.go g1, (Post.bind P1).imp fun ws al2 p2 m2 H2 g2 s2 k2 hp vs rw2 => ?_⟩
  subst hp
  exact Post.ok s2 (k2 rfl) rfl _ ⟨v, vs, rfl, rv1.go g2, rw2⟩
/-- an item that is laid into a container stands fast -/
def frz (m : Mem) : W → Option (D × Mem)
  | .d x => some (x, m)
  | .n x => some (x, m)
  | .r n => match m[n]? with | some (some x) => some (x, m.set n none) | _ => none
  | .f _ => none
  | .s _ => none
  | .e _ => none
def frzAll : List W → Mem → Option (List D × Mem)
  | [], m => some ([], m)
  | w :: ws, m => match frz m w with | some (x, m1) => (match frzAll ws m1 with | some (xs, m2) => some (x :: xs, m2) | none => none) | none => none
end
section
variable {K : PySem.W.Frag} {mg : Str → Option Value} {Hd : Addr → Prop} {al : List Addr} {m m1 : Mem} {H : Hp}
theorem live_set {n r : Nat} (h : Live (m.set n none) r) : Live m r ∧ r ≠ n := by
  obtain ⟨o, h⟩ := h
  by_cases e : n = r
  · subst e
    rw [List.getElem?_set_self'] at h
    cases q : m[n]? with
    | none => rw [q] at h; cases h
    | some z => rw [q] at h; cases h
  · rw [List.getElem?_set_ne e] at h
    exact ⟨⟨o, h⟩, fun z => e z.symm⟩
theorem own_set {n : Nat} {a : Addr} (h : Own Hd al (m.set n none) none a) : Own Hd al m none a := by
  rcases h with ⟨r, h1, h2⟩ | h
  · exact .inl ⟨r, h1, (live_set h2).1⟩
  · exact .inr h
theorem ext_set {n : Nat} : Ext (Own Hd al m none) H (Own Hd al (m.set n none) none) H := Ext.less fun _ h => own_set h
theorem stt_set {n : Nat} (s : Stt K Hd al none H m) : Stt K Hd al none H (m.set n none) where
  len := by rw [List.length_set]; exact s.len
  ob := fun r a o h1 h2 => by
    have q := live_set ⟨o, h2⟩
    have e : m[r]? = some (some o) := by rw [← h2, List.getElem?_set_ne (Ne.symm q.2)]
    exact (s.ob r a o h1 e).stay ext_set rfl
  inj := fun r r' a h1 h2 h3 h4 => s.inj r r' a h1 h2 (live_set h3).1 (live_set h4).1
  pnd := fun _ _ h => nomatch h
  hin := fun a h => ⟨(s.hin a h).1, (fun z => nomatch z), fun r h1 => (s.hin a h).2.2 r (live_set h1).1⟩
theorem frz_ok {w : W} {v : V} {x : D} (s : Stt K Hd al none H m) (h : RepW K mg (Own Hd al m none) none al H w v) (e : frz m w = some (x, m1)) : Stt K Hd al none H m1 ∧ Go Hd al m none H al m1 none H ∧ RepD K (Own Hd al m1 none) H x v := by
  cases w with
  | d y => cases e; exact ⟨s, Go.refl, h.2⟩
  | n y => obtain ⟨a, h1, _⟩ := h; cases h1
  | f y => cases e
  | s y => cases e
  | e y => cases e
  | r n =>
    obtain ⟨a, h1, rfl⟩ := h.2
    have e' : (match m[n]? with | some (some x) => some (x, m.set n none) | _ => none) = some (x, m1) := e
    split at e'
    · rename_i y hy
      cases e'
      refine ⟨stt_set s, ⟨ext_set, fun _ _ h => h, fun _ _ _ h => h⟩, ?_⟩
      have ob := s.ob n a x h1 hy
      have no : ¬ Own Hd al (m.set n none) none a := fun z => by
        rcases z with ⟨r, q1, q2⟩ | z | z
        · exact (live_set q2).2 (s.inj r n a q1 h1 (live_set q2).1 ⟨x, hy⟩)
        · exact (s.hin a z).2.2 n ⟨x, hy⟩ h1
        · cases z
      cases x with
      | list ds => obtain ⟨vs, h2, h3⟩ := ob; exact ⟨a, vs, rfl, ⟨h2, no⟩, h3.ext ext_set⟩
      | dict kvs =>
        refine ⟨a, rfl, no, ?_⟩
        rcases ob with ⟨kz, h2, h3⟩ | ⟨kz, h2, h3⟩
        · exact .inl ⟨kz, h2, RepK.ext ext_set kvs kz h3⟩
        · exact .inr ⟨kz, h2, RepT.ext ext_set kvs kz h3⟩
      | _ => exact ob.elim
    · cases e'
theorem RepWs.go {ws : List W} {vs : List V} {al1 : List Addr} {H1 : Hp} (g : Go Hd al m none H al1 m1 none H1) (h : RepWs K mg (Own Hd al m none) al H ws vs) : RepWs K mg (Own Hd al1 m1 none) al1 H1 ws vs := by
  induction ws generalizing vs with
  | nil => exact h
  | cons w ws ih => obtain ⟨v, r, h1, h2, h3⟩ := h; exact ⟨v, r, h1, h2.go g, ih h3⟩
theorem frzAll_ok : ∀ {ws : List W} {vs : List V} {xs : List D} {m m1 : Mem}, Stt K Hd al none H m → RepWs K mg (Own Hd al m none) al H ws vs → frzAll ws m = some (xs, m1) → Stt K Hd al none H m1 ∧ Go Hd al m none H al m1 none H ∧ RepDs K (Own Hd al m1 none) H xs vs
  | [], _, _, _, _, s, h, e => by cases e; exact ⟨s, Go.refl, h⟩
  | w :: ws, _, xs, m, m1, s, ⟨v, r, h1, h2, h3⟩, e => by
    subst h1
    unfold frzAll at e
    split at e
    · rename_i x m2 hx
      split at e
      · rename_i ys m3 hys
        cases e
        obtain ⟨s2, g2, r2⟩ := frz_ok s h2 hx
        obtain ⟨s3, g3, r3⟩ := frzAll_ok s2 (h3.go g2) hys
        exact ⟨s3, g2.trans g3, v, r, rfl, r2.ext g3.ext, r3⟩
      · cases e
    · cases e
end
section
variable {X : Cx} {E : St → XK} {ea eb ec : Expr} {a b c : EM W} {t u : EM Bool} {pos : Pos} {rest es : List Expr} {r : EM (List W)}
def mTup (r : EM (List W)) : EM W := fun rho m => (r rho m).bind fun ws m1 => match frzAll ws m1 with | some (xs, m2) => if small xs.length then .ok (.d (.tuple xs)) m2 else .no | none => .no
def mLst (r : EM (List W)) : EM W := fun rho m => (r rho m).bind fun ws m1 => match frzAll ws m1 with | some (xs, m2) => if small xs.length then .ok (.n (.list xs)) m2 else .no | none => .no
theorem den_tup {k} (h : DenA X E es r) : Den X E (.Tuple es k pos) (mTup r) := PE.imp (pe_tup h) fun σ H Q q => by
  obtain ⟨Hd, al, rho, m, s, e, P⟩ := q
  refine ⟨Hd, al, rho, m, s, e, (Post.bind P).imp fun ws al1 p1 m1 H1 g s1 k hp vs rv => ?_⟩
  subst hp
  have P1 := k rfl
  split at P1
  · rename_i xs m2 hx
    obtain ⟨s2, g2, r2⟩ := frzAll_ok s1 rv hx
    split at P1
    · rename_i hz
      refine ⟨by rw [r2.len]; exact small_line hz, fun p hp => ?_⟩
      exact res_tup s2 r2 hp (Post.go g2 P1) fun w' al' p m' H' v' q' => q' v'
    · exact P1.elim
  · exact P1.elim
theorem den_lst (h : DenA X E es r) : Den X E (.List es pos) (mLst r) := PE.imp (pe_lst h) fun σ H Q q => by
  obtain ⟨Hd, al, rho, m, s, e, P⟩ := q
  refine ⟨Hd, al, rho, m, s, e, (Post.bind P).imp fun ws al1 p1 m1 H1 g s1 k hp vs rv => ?_⟩
  subst hp
  have P1 := k rfl
  split at P1
  · rename_i xs m2 hx
    obtain ⟨s2, g2, r2⟩ := frzAll_ok s1 rv hx
    split at P1
    · rename_i hz
      refine ⟨by rw [r2.len]; exact small_line hz, fun p hp => ?_⟩
      exact res_list s2 r2 hp (Post.go g2 P1) fun w' al' p m' H' v' q' => q' v'
    · exact P1.elim
  · exact P1.elim
end
end Den
/-! Den5: statements, targets. -/
namespace Den
open PySem PySem.Spec PyProof.Rows L2

inductive Out where
  | nx (rho : Env) (m : Mem) | rt (w : W) (m : Mem) | bk (rho : Env) (m : Mem) | ct (rho : Env) (m : Mem) | ex (c : Exc) (rho : Env) (m : Mem) | no
abbrev SM := Env → Mem → Out
def PostS (K : PySem.W.Frag) (mg : Str → Option Value) (Hd : Addr → Prop) (al : List Addr) (m : Mem) (H : Hp) (E : St → XK) (Dn : Ends) (o : Out) : Prop :=
  match o with
  | .nx rho' m' => ∀ al' H' σ', Go Hd al m none H al' m' none H' → Stt K Hd al' none H' m' → EnvOk K mg (Own Hd al' m' none) al' H' rho' σ' → Dn.nx σ' H'
  | .bk rho' m' => ∀ al' H' σ', Go Hd al m none H al' m' none H' → Stt K Hd al' none H' m' → EnvOk K mg (Own Hd al' m' none) al' H' rho' σ' → Dn.bk σ' H'
  | .ct rho' m' => ∀ al' H' σ', Go Hd al m none H al' m' none H' → Stt K Hd al' none H' m' → EnvOk K mg (Own Hd al' m' none) al' H' rho' σ' → Dn.ct σ' H'
  | .rt w m' => ∀ al' p H' v, Go Hd al m none H al' m' p H' → Stt K Hd al' p H' m' → RepW K mg (Own Hd al' m' p) p al' H' w v → Dn.rt v H'
  | .ex c rho' m' => ∀ al' H' σ' cls dd, Go Hd al m none H al' m' none H' → Stt K Hd al' none H' m' → EnvOk K mg (Own Hd al' m' none) al' H' rho' σ' → ExcOk mg c cls dd H' (Own Hd al' m' none) → E σ' cls dd H'
  | .no => False
def tS (K : PySem.W.Frag) (mg : Str → Option Value) (E : St → XK) (c : SM) : TS := fun Dn σ H => ∃ Hd al rho m, Stt K Hd al none H m ∧ EnvOk K mg (Own Hd al m none) al H rho σ ∧ PostS K mg Hd al m H E Dn (c rho m)
abbrev DenS (X : Cx) (E : St → XK) (st : Stmt) (c : SM) : Prop := PS X st (tS X.K X.mg E c)
abbrev DenSs (X : Cx) (E : St → XK) (st : List Stmt) (c : SM) : Prop := PSs X st (tS X.K X.mg E c)
theorem PS.imp {X : Cx} {st : Stmt} {t t' : TS} (h : PS X st t) (k : ∀ Dn σ H, t' Dn σ H → t Dn σ H) : PS X st t' := ⟨fun pins s σ H Dn I q => h.run pins s σ H Dn I (k Dn σ H q)⟩
theorem PSs.imp {X : Cx} {st : List Stmt} {t t' : TS} (h : PSs X st t) (k : ∀ Dn σ H, t' Dn σ H → t Dn σ H) : PSs X st t' := ⟨fun pins s σ H Dn I q => h.run pins s σ H Dn I (k Dn σ H q)⟩

section
variable {K : PySem.W.Frag} {mg : Str → Option Value} {Hd : Addr → Prop} {al al1 al2 : List Addr} {m m1 m2 : Mem} {p : Option Addr} {H H1 H2 : Hp} {E : St → XK} {Dn Dn' : Ends} {rho : Env} {σ : St}
theorem PostS.go {o : Out} (g : Go Hd al m none H al1 m1 none H1) (h : PostS K mg Hd al m H E Dn o) : PostS K mg Hd al1 m1 H1 E Dn o := by
  cases o with
  | nx r m' => exact fun al' H' σ' g' s e => h al' H' σ' (g.trans g') s e
  | bk r m' => exact fun al' H' σ' g' s e => h al' H' σ' (g.trans g') s e
  | ct r m' => exact fun al' H' σ' g' s e => h al' H' σ' (g.trans g') s e
  | rt w m' => exact fun al' p H' v g' s e => h al' p H' v (g.trans g') s e
  | ex c r m' => exact fun al' H' σ' cls dd g' s e => h al' H' σ' cls dd (g.trans g') s e
  | no => exact h
theorem PostS.nx {rho' : Env} (s : Stt K Hd al none H m) (e : EnvOk K mg (Own Hd al m none) al H rho' σ) (h : PostS K mg Hd al m H E Dn (.nx rho' m)) : Dn.nx σ H := h al H σ Go.refl s e
end

/-- an expression's outcome, then a statement's -/
def Rs.thenS {β : Type} (r : Rs β) (rho : Env) (k : β → Mem → Out) : Out := match r with | .ok b m => k b m | .ex c m => .ex c rho m | .no => .no
def Rs.thenV (r : Rs W) (rho : Env) (k : W → Mem → Out) : Out := match r with | .ok w m => k (val w) m | .ex c m => .ex c rho m | .no => .no
section
variable {K : PySem.W.Frag} {mg : Str → Option Value} {Hd : Addr → Prop} {al al1 al2 : List Addr} {m m1 m2 : Mem} {p : Option Addr} {H H1 H2 : Hp} {E : St → XK} {Dn Dn' : Ends} {rho : Env} {σ : St}
theorem PostS.ofE {β : Type} {r : Rs β} {k : β → Mem → Out} (e : EnvOk K mg (Own Hd al m none) al H rho σ) (h : PostS K mg Hd al m H E Dn (r.thenS rho k)) :
    Post K mg Hd al m H (E σ) r fun b al1 p1 m1 H1 => p1 = none → PostS K mg Hd al1 m1 H1 E Dn (k b m1) := by
  cases r with
  | ok b m' => exact fun al' p H' g s hp => by subst hp; exact PostS.go g h
  | ex c m' => exact fun al' H' cls dd g s x => h al' H' σ cls dd g s (e.go g) x
  | no => exact h
theorem PostS.ofV {r : Rs W} {k : W → Mem → Out} (e : EnvOk K mg (Own Hd al m none) al H rho σ) (h : PostS K mg Hd al m H E Dn (r.thenV rho k)) :
    Post K mg Hd al m H (E σ) r fun w al1 p1 m1 H1 => ∀ v, RepW K mg (Own Hd al1 m1 p1) p1 al1 H1 w v →
      Go Hd al m none H al1 m1 none H1 ∧ Stt K Hd al1 none H1 m1 ∧ RepW K mg (Own Hd al1 m1 none) none al1 H1 (val w) v ∧ PostS K mg Hd al1 m1 H1 E Dn (k (val w) m1) := by
  cases r with
  | ok w m' => exact fun al' p H' g s v rv => ⟨g.trans Go.settle, s.settle, val_ok s rv, PostS.go (g.trans Go.settle) h⟩
  | ex c m' => exact fun al' H' cls dd g s x => h al' H' σ cls dd g s (e.go g) x
  | no => exact h
theorem EnvOk.set {O : Addr → Prop} {i : Nat} {w : W} {v : V} (e : EnvOk K mg O al H rho σ) (h : RepW K mg O none al H w v) : EnvOk K mg O al H (rho.set i (some w)) (σ.set i (some v)) := by
  refine ⟨by rw [List.length_set, List.length_set, e.1], fun j u hj => ?_⟩
  by_cases q : i = j
  · subst q
    have hl : i < rho.length := by
      by_cases hl : i < rho.length
      · exact hl
      · rw [List.getElem?_eq_none (by rw [List.length_set]; omega)] at hj; cases hj
    rw [List.getElem?_set_self hl] at hj
    cases hj
    exact ⟨v, List.getElem?_set_self (by rw [← e.1]; exact hl), h⟩
  · rw [List.getElem?_set_ne q] at hj
    obtain ⟨v', h1, h2⟩ := e.2 j u hj
    exact ⟨v', by rw [List.getElem?_set_ne q]; exact h1, h2⟩
theorem EnvOk.drop {O : Addr → Prop} {i : Nat} (e : EnvOk K mg O al H rho σ) : EnvOk K mg O al H (rho.set i none) (σ.set i none) := by
  refine ⟨by rw [List.length_set, List.length_set, e.1], fun j u hj => ?_⟩
  by_cases q : i = j
  · subst q
    have hl : i < rho.length := by
      by_cases hl : i < rho.length
      · exact hl
      · rw [List.getElem?_eq_none (by rw [List.length_set]; omega)] at hj; cases hj
    rw [List.getElem?_set_self hl] at hj
    cases hj
  · rw [List.getElem?_set_ne q] at hj
    obtain ⟨v', h1, h2⟩ := e.2 j u hj
    exact ⟨v', by rw [List.getElem?_set_ne q]; exact h1, h2⟩
/-- a container just made is given a handle -/
theorem own_alloc {a b : Addr} {x : D} (hl : al.length = m.length) : Own Hd (al ++ [a]) (m ++ [some x]) none b ↔ Own Hd al m (some a) b := by
  constructor
  · rintro (⟨r, h1, o, h2⟩ | h)
    · by_cases hr : r < m.length
      · rw [List.getElem?_append_left (by omega)] at h1
        rw [List.getElem?_append_left hr] at h2
        exact .inl ⟨r, h1, o, h2⟩
      · have : r = al.length := by
          have z := List.getElem?_eq_some_iff.mp h1
          obtain ⟨z, _⟩ := z
          rw [List.length_append, List.length_singleton] at z
          omega
        subst this
        rw [List.getElem?_append_right (Nat.le_refl _), Nat.sub_self] at h1
        cases h1
        exact .inr (.inr rfl)
    · rcases h with h | h
      · exact .inr (.inl h)
      · cases h
  · rintro (⟨r, h1, o, h2⟩ | h | h)
    · obtain ⟨hr, _⟩ := List.getElem?_eq_some_iff.mp h1
      exact .inl ⟨r, by rw [List.getElem?_append_left hr]; exact h1, o, by rw [List.getElem?_append_left (by omega)]; exact h2⟩
    · exact .inr (.inl h)
    · cases h
      exact .inl ⟨al.length, by rw [List.getElem?_append_right (Nat.le_refl _), Nat.sub_self]; rfl, x, by rw [hl, List.getElem?_append_right (Nat.le_refl _), Nat.sub_self]; rfl⟩
theorem go_alloc {a : Addr} {x : D} (s : Stt K Hd al (some a) H m) : Go Hd al m (some a) H (al ++ [a]) (m ++ [some x]) none H where
  ext := Ext.less fun b h => (own_alloc s.len).mp h
  pre := fun r b h => by
    obtain ⟨hr, _⟩ := List.getElem?_eq_some_iff.mp h
    rw [List.getElem?_append_left hr]; exact h
  hid := fun _ _ _ h => h
theorem stt_alloc {a : Addr} {x : D} (s : Stt K Hd al (some a) H m) (ho : ObOk K (Own Hd al m (some a)) H x a) : Stt K Hd (al ++ [a]) none H (m ++ [some x]) where
  len := by rw [List.length_append, List.length_append, s.len]; rfl
  ob := fun r b o h1 h2 => by
    by_cases hr : r < m.length
    · rw [List.getElem?_append_left (by rw [s.len]; exact hr)] at h1
      rw [List.getElem?_append_left hr] at h2
      exact (s.ob r b o h1 h2).stay (go_alloc s).ext rfl
    · have : r = m.length := by
        obtain ⟨z, _⟩ := List.getElem?_eq_some_iff.mp h2
        rw [List.length_append, List.length_singleton] at z
        omega
      subst this
      rw [← s.len, List.getElem?_append_right (Nat.le_refl _), Nat.sub_self] at h1
      rw [List.getElem?_append_right (Nat.le_refl _), Nat.sub_self] at h2
      cases h1; cases h2
      exact ho.stay (go_alloc s).ext rfl
  inj := fun r r' b h1 h2 h3 h4 => by
    have lt : ∀ {q : Nat}, Live (m ++ [some x]) q → q < m.length ∧ Live m q ∨ q = m.length := fun {q} ⟨o, z⟩ => by
      by_cases hr : q < m.length
      · rw [List.getElem?_append_left hr] at z; exact .inl ⟨hr, o, z⟩
      · obtain ⟨z, _⟩ := List.getElem?_eq_some_iff.mp z
        rw [List.length_append, List.length_singleton] at z
        exact .inr (by omega)
    have old : ∀ {q : Nat}, q < m.length → (al ++ [a])[q]? = al[q]? := fun {q} hq => List.getElem?_append_left (by rw [s.len]; exact hq)
    have nw : (al ++ [a])[m.length]? = some a := by rw [← s.len, List.getElem?_append_right (Nat.le_refl _), Nat.sub_self]; rfl
    rcases lt h3 with ⟨l1, v1⟩ | e1
    · rcases lt h4 with ⟨l2, v2⟩ | e2
      · rw [old l1] at h1; rw [old l2] at h2
        exact s.inj r r' b h1 h2 v1 v2
      · subst e2
        rw [nw] at h2; cases h2
        rw [old l1] at h1
        exact absurd h1 (s.pnd a r rfl v1)
    · subst e1
      rcases lt h4 with ⟨l2, v2⟩ | e2
      · rw [nw] at h1; cases h1
        rw [old l2] at h2
        exact absurd h2 (s.pnd a r' rfl v2)
      · exact e2.symm
  pnd := fun _ _ h => nomatch h
  hin := fun b hb => by
    obtain ⟨h1, h2, h3⟩ := s.hin b hb
    refine ⟨h1, (fun z => nomatch z), fun r ⟨o, z⟩ h4 => ?_⟩
    by_cases hr : r < m.length
    · rw [List.getElem?_append_left hr] at z
      rw [List.getElem?_append_left (by rw [s.len]; exact hr)] at h4
      exact h3 r ⟨o, z⟩ h4
    · have : r = m.length := by
        obtain ⟨z, _⟩ := List.getElem?_eq_some_iff.mp z
        rw [List.length_append, List.length_singleton] at z
        omega
      subst this
      rw [← s.len, List.getElem?_append_right (Nat.le_refl _), Nat.sub_self] at h4
      cases h4
      exact h2 rfl
end

section
variable {X : Cx} {E : St → XK} {e ea eb : Expr} {a b : EM W} {st : Stmt} {rest sa sb : List Stmt} {c d : SM} {t : EM Bool} {pos : Pos}
def sSkip : SM := fun rho m => .nx rho m
def sSeq (c d : SM) : SM := fun rho m => match c rho m with | .nx rho' m' => d rho' m' | o => o
theorem dss_nil : DenSs X E [] sSkip := PSs.imp pss_nil fun Dn σ H q => by
  obtain ⟨Hd, al, rho, m, s, e, P⟩ := q
  exact P.nx s e
theorem dss_cons (h : DenS X E st c) (h2 : DenSs X E rest d) : DenSs X E (st :: rest) (sSeq c d) := PSs.imp (pss_cons h h2) fun Dn σ H q => by
  obtain ⟨Hd, al, rho, m, s, e, P⟩ := q
  refine ⟨Hd, al, rho, m, s, e, ?_⟩
  unfold sSeq at P
  cases ho : c rho m with
  | nx r m' => rw [ho] at P; exact fun al' H' σ' g s e => ⟨Hd, al', r, m', s, e, PostS.go g P⟩
  | bk r m' => rw [ho] at P; exact P
  | ct r m' => rw [ho] at P; exact P
  | rt w m' => rw [ho] at P; exact P
  | ex x r m' => rw [ho] at P; exact P
  | no => rw [ho] at P; exact P
theorem dss_one (h : DenS X E st c) : DenSs X E [st] c := pss_one h
def sDrop (a : EM W) : SM := fun rho m => (a rho m).thenV rho fun _ m1 => .nx rho m1
theorem ds_expr (h : Den X E e a) (hs : swapsWith e none pos.line X.env = pure false := by rfl) : DenS X E (.Expr e pos) (sDrop a) := PS.imp (ps_expr h hs) fun Dn σ H q => by
  obtain ⟨Hd, al, rho, m, s, e, P⟩ := q
  refine ⟨Hd, al, rho, m, s, e, (PostS.ofV e P).imp fun w al1 p1 m1 H1 g s1 k v rv => ?_⟩
  obtain ⟨g1, s1', rv1, P1⟩ := k v rv
  exact P1.nx s1' (e.go g1)
theorem ds_doc {x j p q} : DenS X E (.Expr (.Constant (.str x) j p) q) sSkip := PS.imp ps_doc fun Dn σ H q => by
  obtain ⟨Hd, al, rho, m, s, e, P⟩ := q
  exact P.nx s e
theorem ds_pass : DenS X E (.Pass pos) sSkip := PS.imp ps_pass fun Dn σ H q => by
  obtain ⟨Hd, al, rho, m, s, e, P⟩ := q
  exact P.nx s e
def sBreak : SM := fun rho m => .bk rho m
def sCont : SM := fun rho m => .ct rho m
theorem ds_break : DenS X E (.Break pos) sBreak := PS.imp ps_break fun Dn σ H q => by
  obtain ⟨Hd, al, rho, m, s, e, P⟩ := q
  exact P al H σ Go.refl s e
theorem ds_continue : DenS X E (.Continue pos) sCont := PS.imp ps_continue fun Dn σ H q => by
  obtain ⟨Hd, al, rho, m, s, e, P⟩ := q
  exact P al H σ Go.refl s e
def sRet (a : EM W) : SM := fun rho m => (a rho m).thenS rho fun w m1 => .rt w m1
theorem ds_ret (h : Den X E e a) : DenS X E (.Return (some e) pos) (sRet a) := PS.imp (ps_ret h) fun Dn σ H q => by
  obtain ⟨Hd, al, rho, m, s, e, P⟩ := q
  refine ⟨Hd, al, rho, m, s, e, ?_⟩
  unfold sRet at P
  cases ho : a rho m with
  | ok w m' => rw [ho] at P; exact fun al' p H' g s v rv => P al' p H' v g s rv
  | ex x m' => rw [ho] at P; exact fun al' H' cls dd g s x => P al' H' σ cls dd g s (e.go g) x
  | no => rw [ho] at P; exact P
def sRetN : SM := fun _ m => .rt (.d .none) m
theorem ds_retN : DenS X E (.Return none pos) sRetN := PS.imp ps_retN fun Dn σ H q => by
  obtain ⟨Hd, al, rho, m, s, e, P⟩ := q
  exact P al none H _ Go.refl s ⟨rfl, rfl⟩
def sIf (t : EM Bool) (c d : SM) : SM := fun rho m => (t rho m).thenS rho fun b m1 => if b = true then c rho m1 else d rho m1
theorem ds_if (h : DenT X E e t) (h1 : DenSs X E sa c) (h2 : DenSs X E sb d) : DenS X E (.If e sa sb pos) (sIf t c d) := PS.imp (ps_if h h1 h2) fun Dn σ H q => by
  obtain ⟨Hd, al, rho, m, s, e, P⟩ := q
  refine ⟨Hd, al, rho, m, s, e, (PostS.ofE e P).imp fun b al1 p1 m1 H1 g s1 k hp => ?_⟩
  subst hp
  cases b with
  | true => exact ⟨Hd, al1, rho, m1, s1, e.go g, k rfl⟩
  | false => exact ⟨Hd, al1, rho, m1, s1, e.go g, k rfl⟩

/-! ### x = e -/
def sSet (i : Nat) (a : EM W) : SM := fun rho m => (a rho m).thenV rho fun w m1 => .nx (rho.set i (some w)) m1
/-- x is changed later: a container just made gets a handle -/
def sSetR (i : Nat) (a : EM W) : SM := fun rho m => (a rho m).thenS rho fun w m1 => match w with | .n x => .nx (rho.set i (some (.r m1.length))) (m1 ++ [some x]) | _ => .no
theorem tS_set {te : TE} (hi : ∀ σ H Q, tM X.K X.mg E a σ H Q → te σ H Q) {i : Nat} {Dn : Ends} {σ : St} {H : Hp} (q : tS X.K X.mg E (sSet i a) Dn σ H) : tAsg te (gName i) Dn σ H := by
  obtain ⟨Hd, al, rho, m, s, e, P⟩ := q
  refine hi _ _ _ ⟨Hd, al, rho, m, s, e, (PostS.ofV e P).imp fun w al1 p1 m1 H1 g s1 k v rv => ?_⟩
  obtain ⟨g1, s1', rv1, P1⟩ := k v rv
  exact P1.nx s1' ((e.go g1).set rv1)
theorem tS_setR {te : TE} (hi : ∀ σ H Q, tM X.K X.mg E a σ H Q → te σ H Q) {i : Nat} {Dn : Ends} {σ : St} {H : Hp} (q : tS X.K X.mg E (sSetR i a) Dn σ H) : tAsg te (gName i) Dn σ H := by
  obtain ⟨Hd, al, rho, m, s, e, P⟩ := q
  refine hi _ _ _ ⟨Hd, al, rho, m, s, e, ?_⟩
  unfold sSetR at P
  cases ho : a rho m with
  | no => rw [ho] at P; exact P
  | ex x m' => rw [ho] at P; exact fun al' H' cls dd g s x => P al' H' σ cls dd g s (e.go g) x
  | ok w m' =>
    rw [ho] at P
    intro al' p H' g s' v rv
    cases w with
    | n x =>
      obtain ⟨a0, hp, rfl, ob⟩ := rv
      subst hp
      have g2 := go_alloc (x := x) s'
      refine P (al' ++ [a0]) H' _ (g.trans g2) (stt_alloc s' ob) ?_
      refine EnvOk.set (e.go (g.trans g2)) ⟨rfl, a0, ?_, rfl⟩
      · rw [← s'.len, List.getElem?_append_right (Nat.le_refl _), Nat.sub_self]; rfl
    | _ => exact P.elim
variable {i : Nat} {x : Str} {pos' : Pos}
theorem ds_set (i : Nat) (hN : X.N.Nodup) (he : Den X E e a) (hi : X.N[i]? = some x := by rfl) (hx : Loc X.env.scope x := by first | exact Or.inl rfl | exact Or.inr rfl) (hs : swapsWith e (some (.Name x pos')) pos.line X.env = pure false := by rfl)
    (hf : X.fn x = true ∨ X.env.scope.names.lookup x = some .local := by first | exact .inl rfl | exact .inr rfl | assumption) : DenS X E (.Assign [.Name x pos'] e pos) (sSet i a) := PS.imp (ps_set hN hi hx he hs hf) fun _ _ _ q => tS_set (fun _ _ _ h => h) q
theorem ds_setR (i : Nat) (hN : X.N.Nodup) (he : Den X E e a) (hi : X.N[i]? = some x := by rfl) (hx : Loc X.env.scope x := by first | exact Or.inl rfl | exact Or.inr rfl) (hs : swapsWith e (some (.Name x pos')) pos.line X.env = pure false := by rfl)
    (hf : X.fn x = true ∨ X.env.scope.names.lookup x = some .local := by first | exact .inl rfl | exact .inr rfl | assumption) : DenS X E (.Assign [.Name x pos'] e pos) (sSetR i a) := PS.imp (ps_set hN hi hx he hs hf) fun _ _ _ q => tS_setR (fun _ _ _ h => h) q

/-! ### targets -/
/-- a target's store: none where it raises or is none of ours -/
abbrev GM := W → Env → Mem → Option (Env × Mem)
/-- nothing but the slots sl has changed -/
def Off (sl : List Nat) (σ σ' : St) : Prop := σ'.length = σ.length ∧ ∀ j : Nat, j ∉ sl → σ'[j]? = σ[j]?
theorem Off.refl {sl : List Nat} {σ : St} : Off sl σ σ := ⟨rfl, fun _ _ => rfl⟩
theorem Off.trans {sl sl2 sl3 : List Nat} {σ σ1 σ2 : St} (a : Off sl σ σ1) (b : Off sl2 σ1 σ2) (h : ∀ j, j ∈ sl → j ∈ sl3) (h2 : ∀ j, j ∈ sl2 → j ∈ sl3) : Off sl3 σ σ2 :=
  ⟨b.1.trans a.1, fun j n => (b.2 j fun z => n (h2 j z)).trans (a.2 j fun z => n (h j z))⟩
def PostG (K : PySem.W.Frag) (mg : Str → Option Value) (Hd : Addr → Prop) (al : List Addr) (m : Mem) (H : Hp) (σ : St) (sl : List Nat) (r : Option (Env × Mem)) (Q : St → Hp → Prop) : Prop :=
  match r with
  | some (rho', m') => ∀ al' H' σ', Go Hd al m none H al' m' none H' → Stt K Hd al' none H' m' → EnvOk K mg (Own Hd al' m' none) al' H' rho' σ' → Off sl σ σ' → Q σ' H'
  | none => False
def tG (K : PySem.W.Frag) (mg : Str → Option Value) (g : GM) (sl : List Nat) : TG := fun v σ H Q => ∃ Hd al rho m w, Stt K Hd al none H m ∧ EnvOk K mg (Own Hd al m none) al H rho σ ∧ RepW K mg (Own Hd al m none) none al H w v ∧ PostG K mg Hd al m H σ sl (g w rho m) Q
abbrev DenG (X : Cx) (e : Expr) (g : GM) (sl : List Nat) : Prop := PG X e (tG X.K X.mg g sl)
theorem PG.imp {e : Expr} {t t' : TG} (h : PG X e t) (k : ∀ v σ H Q, t' v σ H Q → t v σ H Q) : PG X e t' := ⟨fun pins s σ H v u Q I r q => h.run pins s σ H v u Q I r (k v σ H Q q)⟩
theorem PG.or {e : Expr} {t t' : TG} (h : PG X e t) (h' : PG X e t') : PG X e (fun v σ H Q => t v σ H Q ∨ t' v σ H Q) := ⟨fun pins s σ H v u Q I r q => q.elim (h.run pins s σ H v u Q I r) (h'.run pins s σ H v u Q I r)⟩
theorem PGs.imp {es : List Expr} {t t' : TGs} (h : PGs X es t) (k : ∀ v σ H Q, t' v σ H Q → t v σ H Q) : PGs X es t' := ⟨fun pins s σ H v u Q I r q => h.run pins s σ H v u Q I r (k v σ H Q q)⟩
theorem PostG.go {Hd : Addr → Prop} {al al1 : List Addr} {m m1 : Mem} {H H1 : Hp} {σ : St} {sl : List Nat} {r : Option (Env × Mem)} {Q : St → Hp → Prop} (g : Go Hd al m none H al1 m1 none H1) (h : PostG X.K X.mg Hd al m H σ sl r Q) : PostG X.K X.mg Hd al1 m1 H1 σ sl r Q := by
  cases r with
  | none => exact h
  | some z => exact fun al' H' σ' g' s e => h al' H' σ' (g.trans g') s e
def gN (i : Nat) : GM := fun w rho m => some (rho.set i (some w), m)
theorem dg_name (i : Nat) (hN : X.N.Nodup) (hi : X.N[i]? = some x := by rfl) (hx : Loc X.env.scope x := by first | exact Or.inl rfl | exact Or.inr rfl) (hf : X.fn x = true ∨ X.env.scope.names.lookup x = some .local := by first | exact .inl rfl | exact .inr rfl | assumption) :
    DenG X (.Name x pos) (gN i) [i] := PG.imp (pg_name hN hi hx hf) fun v σ H Q q => by
  obtain ⟨Hd, al, rho, m, w, s, e, rv, P⟩ := q
  refine P al H _ Go.refl s (e.set rv) ⟨List.length_set, fun j hj => List.getElem?_set_ne fun z => hj (by simp [z])⟩
/-- several targets -/
def gAll : List GM → List D → Env → Mem → Option (Env × Mem)
  | [], [], rho, m => some (rho, m)
  | g :: gs, x :: xs, rho, m => match g (.d x) rho m with | some (rho', m') => gAll gs xs rho' m' | none => none
  | _, _, _, _ => none
def tGs (K : PySem.W.Frag) (mg : Str → Option Value) (gs : List GM) (sl : List Nat) : TGs := fun vs σ H Q => ∃ Hd al rho m xs, Stt K Hd al none H m ∧ EnvOk K mg (Own Hd al m none) al H rho σ ∧ RepDs K (Own Hd al m none) H xs vs ∧ PostG K mg Hd al m H σ sl (gAll gs xs rho m) Q
abbrev DenGs (X : Cx) (es : List Expr) (gs : List GM) (sl : List Nat) : Prop := PGs X es (tGs X.K X.mg gs sl)
theorem dgs_nil : DenGs X [] [] [] := PGs.imp pgs_nil fun vs σ H Q q => by
  obtain ⟨Hd, al, rho, m, xs, s, e, rv, P⟩ := q
  cases xs with
  | nil => exact ⟨rv, P al H σ Go.refl s e Off.refl⟩
  | cons y ys => exact P.elim
theorem dgs_cons {es : List Expr} {g : GM} {gs : List GM} {sl sl2 : List Nat} (h1 : DenG X e g sl) (h2 : DenGs X es gs sl2) (hs : (assignEach (e :: es) X.env).map (·.2) = assign e X.env :: (assignEach es X.env).map (·.2) := by rfl) : DenGs X (e :: es) (g :: gs) (sl ++ sl2) := PGs.imp (pgs_cons h1 h2 hs) fun vs σ H Q q => by
  obtain ⟨Hd, al, rho, m, xs, s, e, rv, P⟩ := q
  cases xs with
  | nil => exact P.elim
  | cons y ys =>
    obtain ⟨v, r, rfl, r1, r2⟩ := rv
    refine ⟨v, r, rfl, Hd, al, rho, m, .d y, s, e, ⟨rfl, r1⟩, ?_⟩
    have P' : PostG X.K X.mg Hd al m H σ (sl ++ sl2) (match g (.d y) rho m with | some (rho', m') => gAll gs ys rho' m' | none => none) Q := P
    cases hg : g (.d y) rho m with
    | none => rw [hg] at P'; exact P'
    | some z =>
      rw [hg] at P'
      intro al' H' σ' g' s' e' off
      refine ⟨Hd, al', z.1, z.2, ys, s', e', r2.ext g'.ext, ?_⟩
      have P2 := PostG.go (X := X) g' P'
      have P3 : PostG X.K X.mg Hd al' z.2 H' σ (sl ++ sl2) (gAll gs ys z.1 z.2) Q := P2
      cases hz : gAll gs ys z.1 z.2 with
      | none => rw [hz] at P3; exact P3
      | some z2 =>
        rw [hz] at P3
        exact fun al2 H2 σ2 g2 s2 e2 off2 => P3 al2 H2 σ2 g2 s2 e2 (off.trans off2 (fun j h => List.mem_append_left _ h) fun j h => List.mem_append_right _ h)
def seqOf : D → Option (List D)
  | .tuple ds => some ds
  | .list ds => some ds
  | _ => none
def gT (gs : List GM) : GM := fun w rho m => match (peek m w).bind seqOf with | some ds => if ds.length = gs.length then gAll gs ds rho m else none | none => none
theorem dg_tup {es : List Expr} {k : Nat} {gs : List GM} {sl : List Nat} (hc : X.calm = true) (h : DenGs X es gs sl) (hn : (assignEach es X.env).length = gs.length := by rfl) (hst : (assignEach es X.env).findIdx? (·.1) = none := by rfl) : DenG X (.Tuple es k pos) (gT gs) sl :=
  PG.imp (PG.or (pg_tup hc h hn hst) (pg_lst hc h hn hst)) fun v σ H Q q => by
    obtain ⟨Hd, al, rho, m, w, s, e, rv, P⟩ := q
    unfold gT at P
    cases hp : peek m w with
    | none => rw [hp] at P; exact P.elim
    | some x =>
      rw [hp] at P
      have r := peek_ok s rv hp
      cases x with
      | tuple ds =>
        obtain ⟨a, vs, rfl, h1, h2⟩ := r
        have P' : PostG X.K X.mg Hd al m H σ sl (if ds.length = gs.length then gAll gs ds rho m else none) Q := P
        split at P'
        · rename_i hl
          exact .inl ⟨a, vs, rfl, h1, by rw [h2.len]; exact hl, Hd, al, rho, m, ds, s, e, h2, P'⟩
        · exact P'.elim
      | list ds =>
        obtain ⟨a, vs, rfl, h1, h2⟩ := r
        have P' : PostG X.K X.mg Hd al m H σ sl (if ds.length = gs.length then gAll gs ds rho m else none) Q := P
        split at P'
        · rename_i hl
          exact .inr ⟨a, vs, rfl, .inl (.inl h1), by rw [h2.len]; exact hl, Hd, al, rho, m, ds, s, e, h2, P'⟩
        · exact P'.elim
      | _ => exact P.elim
/-- target = e -/
def sAsg (g : GM) (a : EM W) : SM := fun rho m => (a rho m).thenV rho fun w m1 => match g w rho m1 with | some (rho', m') => .nx rho' m' | none => .no
theorem ds_asg {tg : Expr} {g : GM} {sl : List Nat} (he : Den X E e a) (hg : DenG X tg g sl) (hs : swapsWithSole [tg] e pos.line X.env = pure false := by rfl) (hw : swappedStores [tg] e X.env = pure none := by rfl)
    (h1 : (assignEach [tg] X.env).map (·.2) = [assign tg X.env] := by rfl) : DenS X E (.Assign [tg] e pos) (sAsg g a) := PS.imp (ps_asg he hg hs hw h1) fun Dn σ H q => by
  obtain ⟨Hd, al, rho, m, s, e, P⟩ := q
  refine ⟨Hd, al, rho, m, s, e, (PostS.ofV e P).imp fun w al1 p1 m1 H1 g s1 k v rv => ?_⟩
  obtain ⟨g1, s1', rv1, P1⟩ := k v rv
  refine ⟨Hd, al1, rho, m1, val w, s1', e.go g1, rv1, ?_⟩
  split at P1
  · rename_i heq
    rw [heq]; exact fun al' H' σ' g s e _ => P1 al' H' σ' g s e
  · exact P1.elim
/-- a, b = x, y: plain names, stored together -/
def sPar (i j : Nat) (a b : EM W) : SM := fun rho m => (a rho m).thenV rho fun x m1 => (b rho m1).thenV rho fun y m2 => .nx ((rho.set i (some x)).set j (some y)) m2
def mPair (a b : EM W) : EM (List W) := mCons a (mCons b mNil)
theorem ds_par {i j : Nat} {y : Str} {px py pt : Pos} {kt k2 pt2} (hc : X.calm = true) (hN : X.N.Nodup) (ha : DenA X E [ea, eb] (mPair a b)) (hi : X.N[i]? = some x := by rfl) (hj : X.N[j]? = some y := by rfl) (hij : i ≠ j := by decide)
    (hx : X.env.scope.names.lookup x = some .local := by rfl) (hy : X.env.scope.names.lookup y = some .local := by rfl)
    (hw : swappedStores [.Tuple [.Name x px, .Name y py] kt pt] (.Tuple [ea, eb] k2 pt2) X.env = pure (some [x, y]) := by rfl)
    (hs : swapsWithSole [.Tuple [.Name x px, .Name y py] kt pt] (.Tuple [ea, eb] k2 pt2) pos.line X.env = pure false := by rfl) :
    DenS X E (.Assign [.Tuple [.Name x px, .Name y py] kt pt] (.Tuple [ea, eb] k2 pt2) pos) (sPar i j a b) := PS.imp (ps_par hc hN hi hj hij hx hy ha hw hs) fun Dn σ H q => by
  obtain ⟨Hd, al, rho, m, s, e, P⟩ := q
  refine ⟨Hd, al, rho, m, s, e, ?_⟩
  unfold sPar at P
  show Post X.K X.mg Hd al m H (E σ) ((a rho m).bindV fun x m1 => (mCons b mNil rho m1).bind fun xs m2 => .ok (x :: xs) m2) _
  cases ho : a rho m with
  | no => rw [ho] at P; exact P
  | ex c m' => rw [ho] at P; exact fun al' H' cls dd g s x => P al' H' σ cls dd g s (e.go g) x
  | ok w1 m1 =>
    rw [ho] at P
    show Post X.K X.mg Hd al m H (E σ) (((b rho m1).bindV fun y m2 => (mNil rho m2).bind fun xs m3 => .ok (y :: xs) m3).bind fun xs m2 => .ok (val w1 :: xs) m2) _
    have P2 : PostS X.K X.mg Hd al m H E Dn ((b rho m1).thenV rho fun y m2 => .nx ((rho.set i (some (val w1))).set j (some y)) m2) := P
    cases ho2 : b rho m1 with
    | no => rw [ho2] at P2; exact P2
    | ex c m' => rw [ho2] at P2; exact fun al' H' cls dd g s x => P2 al' H' σ cls dd g s (e.go g) x
    | ok w2 m2 =>
      rw [ho2] at P2
      intro al' p H' g s' hp vs rv
      subst hp
      obtain ⟨v, r, rfl, r1, v2, r', rfl, r2, h3⟩ := rv
      have h3' : r' = [] := h3
      subst h3'
      exact ⟨v, v2, rfl, P2 al' H' _ g s' (((e.go g).set r1).set r2)⟩
end
end Den
/-! Den6: loops, what is walked, comprehensions. -/
namespace Den
open PySem PySem.Spec PyProof.Rows L2

/-! ### while -/
def whileN (t : EM Bool) (c : SM) : Nat → SM
  | 0 => fun _ _ => .no
  | n + 1 => fun rho m => (t rho m).thenS rho fun b m1 => if b = true then (match c rho m1 with | .nx r m' => whileN t c n r m' | .ct r m' => whileN t c n r m' | .bk r m' => .nx r m' | o => o) else .nx rho m1
def sWhile (n : Nat) (t : EM Bool) (c : SM) : SM := whileN t c n
section
variable {X : Cx} {E : St → XK} {e ea eb iter tg : Expr} {a b : EM W} {st : Stmt} {rest sa sb body : List Stmt} {c d : SM} {t : EM Bool} {pos : Pos}
theorem ds_while (n : Nat) (hp : PassesOwn (model X.prog X.w) X.A X.env X.xe) (h : DenT X E e t) (hb : DenSs X E body c) : DenS X E (.While e body [] pos) (sWhile n t c) := PS.imp (ps_while hp h hb) fun Dn σ H q => by
  refine ⟨fun k σ H => ∃ Hd al rho m, Stt X.K Hd al none H m ∧ EnvOk X.K X.mg (Own Hd al m none) al H rho σ ∧ PostS X.K X.mg Hd al m H E Dn (whileN t c k rho m), ⟨n, q⟩, fun k σ H hk => ?_⟩
  obtain ⟨Hd, al, rho, m, s, e, P⟩ := hk
  cases k with
  | zero => exact P.elim
  | succ k =>
    refine ⟨Hd, al, rho, m, s, e, (PostS.ofE e P).imp fun b al1 p1 m1 H1 g s1 kk hp => ?_⟩
    subst hp
    have P1 := kk rfl
    cases b with
    | false => exact P1 al1 H1 σ Go.refl s1 (e.go g)
    | true =>
      refine ⟨fun σ' H' => ∃ Hd al rho m, Stt X.K Hd al none H' m ∧ EnvOk X.K X.mg (Own Hd al m none) al H' rho σ' ∧ PostS X.K X.mg Hd al m H' E Dn (whileN t c k rho m), fun σ' H' hn => ⟨k, Nat.lt_succ_self _, hn⟩, ?_⟩
      refine ⟨Hd, al1, rho, m1, s1, e.go g, ?_⟩
      have P2 : PostS X.K X.mg Hd al1 m1 H1 E Dn (match c rho m1 with | .nx r m' => whileN t c k r m' | .ct r m' => whileN t c k r m' | .bk r m' => .nx r m' | o => o) := P1
      cases ho : c rho m1 with
      | nx r m' => rw [ho] at P2; exact fun al' H' σ' g s e => ⟨Hd, al', r, m', s, e, PostS.go g P2⟩
      | ct r m' => rw [ho] at P2; exact fun al' H' σ' g s e => ⟨Hd, al', r, m', s, e, PostS.go g P2⟩
      | bk r m' => rw [ho] at P2; exact P2
      | rt w m' => rw [ho] at P2; exact P2
      | ex x r m' => rw [ho] at P2; exact P2
      | no => rw [ho] at P2; exact P2

/-! ### what is walked -/
/-- H, or H with one new object -/
def Fresh (H H' : Hp) : Prop := H' = H ∨ ∃ T o, H T = none ∧ H' = upd H T o
theorem Fresh.ext {O : Addr → Prop} {H H' : Hp} (f : Fresh H H') : Ext O H O H' := by
  rcases f with rfl | ⟨T, o, hn, rfl⟩
  · exact Ext.refl
  · exact ⟨fun b vs h => by rw [upd_ne (ne_of_none h hn)]; exact h, fun b ob u h => by rw [upd_ne (ne_of_none h hn)]; exact h, fun b ob h _ => by rw [upd_ne (ne_of_none h hn)]; exact h, fun b z => .inl z⟩
theorem Fresh.go {Hd : Addr → Prop} {al : List Addr} {m : Mem} {H H' : Hp} (f : Fresh H H') : Go Hd al m none H al m none H' := by
  rcases f with rfl | ⟨T, o, hn, rfl⟩
  · exact Go.refl
  · exact go_new hn (.inl rfl)
theorem Fresh.stt {K : PySem.W.Frag} {Hd : Addr → Prop} {al : List Addr} {m : Mem} {H H' : Hp} (f : Fresh H H') (s : Stt K Hd al none H m) : Stt K Hd al none H' m := by
  rcases f with rfl | ⟨T, o, hn, rfl⟩
  · exact s
  · exact stt_new s hn (.inl rfl)
/-- the walk J yields the data items, from any later point -/
structure ItD (X : Cx) (O : Addr → Prop) (H : Hp) (J : It) (items : List D) : Prop where
  go : ∀ (i : Nat) O' H', Ext O H O' H' → i < items.length → J.go i H'
  yld : ∀ (i : Nat) O' H' x v H'', Ext O H O' H' → items[i]? = some x → J.yld i H' v H'' → Fresh H' H'' ∧ RepD X.K O' H'' x v
  stop : ∀ O' H', Ext O H O' H' → J.stop items.length H'
def tI (X : Cx) (E : St → XK) (c : EM (List D)) : TI := fun σ H R => ∃ Hd al rho m, Stt X.K Hd al none H m ∧ EnvOk X.K X.mg (Own Hd al m none) al H rho σ ∧
  Post X.K X.mg Hd al m H (E σ) (c rho m) fun items al' p m' H' => p = none → ∀ J, ItD X (Own Hd al' m' none) H' J items → R J H'
abbrev DenI (X : Cx) (E : St → XK) (tg iter : Expr) (c : EM (List D)) : Prop := PI X tg iter (tI X E c)
theorem PI.imp {wi wi' : TI} (h : PI X tg iter wi) (k : ∀ σ H R, wi' σ H R → wi σ H R) : PI X tg iter wi' := ⟨fun pins s σ H R I q => h.run pins s σ H R I (k σ H R q)⟩
/-! ### for -/
def forL (g : GM) (c : SM) : List D → SM
  | [] => fun rho m => .nx rho m
  | x :: xs => fun rho m => match g (.d x) rho m with
    | some (r1, m1) => (match c r1 m1 with | .nx r m' => forL g c xs r m' | .ct r m' => forL g c xs r m' | .bk r m' => .nx r m' | o => o)
    | none => .no
def sFor (it : EM (List D)) (g : GM) (c : SM) : SM := fun rho m => (it rho m).thenS rho fun items m1 => forL g c items rho m1
theorem ds_for {it : EM (List D)} {g : GM} {sl : List Nat} (hp : PassesOwn (model X.prog X.w) X.A X.env X.xe) (hc : X.calm = true) (hi : DenI X E tg iter it) (hg : DenG X tg g sl) (hb : DenSs X E body c)
    (hs : ∀ x, foldedSetIterable iter X.env x = pure x := by intro _; rfl) : DenS X E (.For tg iter body [] pos) (sFor it g c) := PS.imp (ps_for hp hc hi hg hb hs) fun Dn σ H q => by
  obtain ⟨Hd, al, rho, m, s, e, P⟩ := q
  refine ⟨Hd, al, rho, m, s, e, (PostS.ofE e P).imp fun items al1 p1 m1 H1 g1 s1 k hp J hJ => ?_⟩
  subst hp
  have P1 := k rfl
  refine ⟨fun i k σ' H' => k = items.length - i ∧ i ≤ items.length ∧ ∃ al' rho' m', Go Hd al1 m1 none H1 al' m' none H' ∧ Stt X.K Hd al' none H' m' ∧ EnvOk X.K X.mg (Own Hd al' m' none) al' H' rho' σ' ∧ PostS X.K X.mg Hd al' m' H' E Dn (forL g c (items.drop i) rho' m'),
    ⟨items.length, rfl, Nat.zero_le _, al1, rho, m1, Go.refl, s1, e.go g1, P1⟩, fun i k σ' H' hk => ?_⟩
  obtain ⟨rfl, hi, al2, rho2, m2, g2, s2, e2, P2⟩ := hk
  by_cases hlt : i < items.length
  · refine .inr ⟨hJ.go i _ H' g2.ext hlt, fun σ3 H3 => ∃ al' rho' m', Go Hd al1 m1 none H1 al' m' none H3 ∧ Stt X.K Hd al' none H3 m' ∧ EnvOk X.K X.mg (Own Hd al' m' none) al' H3 rho' σ3 ∧ PostS X.K X.mg Hd al' m' H3 E Dn (forL g c (items.drop (i + 1)) rho' m'),
      fun σ3 H3 hn => ⟨items.length - (i + 1), by omega, rfl, by omega, hn⟩, fun x H3 hy => ?_⟩
    obtain ⟨f3, r3⟩ := hJ.yld i _ H' items[i] x H3 g2.ext (List.getElem?_eq_getElem hlt) hy
    have g3 : Go Hd al2 m2 none H' al2 m2 none H3 := f3.go
    have s3 := f3.stt s2
    have P3 := PostS.go g3 P2
    have ed : items.drop i = items[i] :: items.drop (i + 1) := List.drop_eq_getElem_cons hlt
    rw [ed] at P3
    have P4 : PostS X.K X.mg Hd al2 m2 H3 E Dn (match g (.d items[i]) rho2 m2 with
      | some (r1, m1) => (match c r1 m1 with | .nx r m' => forL g c (items.drop (i + 1)) r m' | .ct r m' => forL g c (items.drop (i + 1)) r m' | .bk r m' => .nx r m' | o => o)
      | none => .no) := P3
    refine ⟨Hd, al2, rho2, m2, .d items[i], s3, e2.go g3, ⟨rfl, r3⟩, ?_⟩
    cases hg : g (.d items[i]) rho2 m2 with
    | none => rw [hg] at P4; exact P4
    | some z =>
      obtain ⟨r4, m4⟩ := z
      rw [hg] at P4
      intro al4 H4 σ4 g4 s4 e4 _
      have P5 := PostS.go g4 P4
      refine ⟨Hd, al4, r4, m4, s4, e4, ?_⟩
      have P6 : PostS X.K X.mg Hd al4 m4 H4 E Dn (match c r4 m4 with | .nx r m' => forL g c (items.drop (i + 1)) r m' | .ct r m' => forL g c (items.drop (i + 1)) r m' | .bk r m' => .nx r m' | o => o) := P5
      cases ho : c r4 m4 with
      | nx r m' => rw [ho] at P6; exact fun al' H5 σ' g5 s5 e5 => ⟨al', r, m', ((g2.trans g3).trans g4).trans g5, s5, e5, PostS.go g5 P6⟩
      | ct r m' => rw [ho] at P6; exact fun al' H5 σ' g5 s5 e5 => ⟨al', r, m', ((g2.trans g3).trans g4).trans g5, s5, e5, PostS.go g5 P6⟩
      | bk r m' => rw [ho] at P6; exact P6
      | rt w m' => rw [ho] at P6; exact P6
      | ex x r m' => rw [ho] at P6; exact P6
      | no => rw [ho] at P6; exact P6
  · have e : i = items.length := by omega
    subst e
    rw [List.drop_length] at P2
    exact .inl ⟨hJ.stop _ H' g2.ext, P2.nx s2 e2⟩

/-! ### lists, tuples, ranges, zip -/
def mItems (a : EM W) : EM (List D) := fun rho m => (a rho m).bindV fun w m1 => match w with | .d x => (match seqOf x with | some ds => .ok ds m1 | none => .no) | .s ds => .ok ds m1 | _ => .no
theorem PI.or {wi wi' : TI} (h : PI X tg iter wi) (h' : PI X tg iter wi') : PI X tg iter (fun σ H R => wi σ H R ∨ wi' σ H R) := ⟨fun pins s σ H R I q => q.elim (h.run pins s σ H R I) (h'.run pins s σ H R I)⟩
section
variable {O : Addr → Prop} {H : Hp}
/-- the two ways that a list stands fast -/
theorem itD_list {a0 : Addr} {ds : List D} {vs : List V} (hq : ∀ {O' H'}, Ext O H O' H' → SqL X.K H' a0 vs) (r : RepDs X.K O H ds vs) : ItD X O H (Itl X.K a0) ds where
  go := fun i O' H' g hi => by
    have hl := r.len
    exact ⟨vs, vs[i]'(by omega), hq g, List.getElem?_eq_getElem _⟩
  yld := fun i O' H' x v H'' g hx hy => by
    obtain ⟨e, hy⟩ := hy
    subst e
    obtain ⟨v', h1, h2⟩ := (r.ext g).get hx
    have := hy vs (hq g)
    rw [h1] at this; cases this
    exact ⟨.inl rfl, h2⟩
  stop := fun O' H' g => ⟨vs, hq g, by rw [r.len]; exact Nat.le_refl _⟩
theorem itD_tup {a0 : Addr} {ds : List D} {vs : List V} (hq : ∀ {O' H'}, Ext O H O' H' → SqT X.K H' a0 vs) (r : RepDs X.K O H ds vs) : ItD X O H (Itt X.K a0) ds where
  go := fun i O' H' g hi => by
    have hl := r.len
    exact ⟨vs, vs[i]'(by omega), hq g, List.getElem?_eq_getElem _⟩
  yld := fun i O' H' x v H'' g hx hy => by
    obtain ⟨e, hy⟩ := hy
    subst e
    obtain ⟨v', h1, h2⟩ := (r.ext g).get hx
    have := hy vs (hq g)
    rw [h1] at this; cases this
    exact ⟨.inl rfl, h2⟩
  stop := fun O' H' g => ⟨vs, hq g, by rw [r.len]; exact Nat.le_refl _⟩
end
/-- a list or a tuple -/
theorem di_seq (h : Den X E iter a) : DenI X E tg iter (mItems a) := PI.imp (PI.or (pi_list h) (pi_tup h)) fun σ H R q => by
  obtain ⟨Hd, al, rho, m, s, e, P⟩ := q
  unfold mItems at P
  cases ho : a rho m with
  | no => rw [ho] at P; exact P.elim
  | ex c m' => rw [ho] at P; exact .inl ⟨Hd, al, rho, m, s, e, by rw [ho]; exact P⟩
  | ok w m' =>
    rw [ho] at P
    have P0 : Post X.K X.mg Hd al m H (E σ) (match val w with | .d x => (match seqOf x with | some ds => .ok ds m' | none => .no) | .s ds => .ok ds m' | _ => .no) fun items al' p m' H' => p = none → ∀ J, ItD X (Own Hd al' m' none) H' J items → R J H' := P
    cases hw : val w with
    | d x =>
      rw [hw] at P0
      cases x with
      | tuple ds =>
        refine .inr ⟨Hd, al, rho, m, s, e, by
          rw [ho]
          intro al1 p1 H1 g s1 v rv
          have rv' := val_ok s1 rv
          rw [hw] at rv'
          obtain ⟨a0, vs, rfl, h1, h2⟩ := rv'.2
          exact ⟨a0, rfl, ⟨vs, h1⟩, P0 al1 none H1 (g.trans Go.settle) s1.settle rfl _ (itD_tup (fun g => sqT_ext g h1) h2)⟩⟩
      | list ds =>
        refine .inl ⟨Hd, al, rho, m, s, e, by
          rw [ho]
          intro al1 p1 H1 g s1 v rv
          have rv' := val_ok s1 rv
          rw [hw] at rv'
          obtain ⟨a0, vs, rfl, h1, h2⟩ := rv'.2
          exact ⟨a0, rfl, ⟨vs, .inl (.inl h1.1)⟩, P0 al1 none H1 (g.trans Go.settle) s1.settle rfl _ (itD_list (fun g => .inl (.inl (sqF_ext g h1).1)) h2)⟩⟩
      | _ => exact P0.elim
    | s ds =>
      rw [hw] at P0
      refine .inl ⟨Hd, al, rho, m, s, e, by
        rw [ho]
        intro al1 p1 H1 g s1 v rv
        have rv' := val_ok s1 rv
        rw [hw] at rv'
        obtain ⟨a0, vs, rfl, h1, h2⟩ := rv'.2
        exact ⟨a0, rfl, ⟨vs, sqS_L h1⟩, P0 al1 none H1 (g.trans Go.settle) s1.settle rfl _ (itD_list (fun g => sqS_L (sqS_ext g h1)) h2)⟩⟩
    | r n => rw [hw] at P0; exact P0.elim
    | n x => rw [hw] at P0; exact P0.elim
    | f x => rw [hw] at P0; exact P0.elim
    | e x => rw [hw] at P0; exact P0.elim
def intOf : W → Option Int
  | .d (.int i) => some i
  | _ => none
theorem intOf_ok {K : PySem.W.Frag} {mg : Str → Option Value} {O : Addr → Prop} {al : List Addr} {H : Hp} {w : W} {v : V} {i : Int} (h : RepW K mg O none al H w v) (e : intOf w = some i) : v = .int i := by
  cases w with
  | d x =>
    cases x <;> first | (simp only [intOf] at e; cases e; done) | skip
    rename_i j
    have e1 : j = i := Option.some.inj e
    have e2 : v = .int j := h.2
    rw [e2, e1]
  | _ => cases e
def rangeD (lo hi : Int) : List D := (List.range (hi - lo).toNat).map fun (k : Nat) => .int (lo + (k : Int))
def midI (i : Int) : Bool := decide (-(2 ^ 62) ≤ i ∧ i < 2 ^ 62)
theorem itD_range {O : Addr → Prop} {H : Hp} (lo : Int) (n : Nat) : ItD X O H (Itr lo n) ((List.range n).map fun (k : Nat) => .int (lo + (k : Int))) where
  go := fun i O' H' g hi => by
    rw [List.length_map, List.length_range] at hi
    exact hi
  yld := fun i O' H' x v H'' g hx hy => by
    obtain ⟨e, hy⟩ := hy
    subst e hy
    rw [List.getElem?_map] at hx
    cases hr : (List.range n)[i]? with
    | none => rw [hr] at hx; cases hx
    | some k =>
      rw [hr] at hx
      cases hx
      obtain ⟨hlt, e⟩ := List.getElem?_eq_some_iff.mp hr
      rw [List.getElem_range] at e
      subst e
      exact ⟨.inl rfl, rfl⟩
  stop := fun O' H' g => by
    show n ≤ _
    rw [List.length_map, List.length_range]
    exact Nat.le_refl _
def mRange1 (a : EM W) : EM (List D) := fun rho m => (mCons a mNil rho m).bind fun ws m1 => match ws with | [x] => (match intOf x with | some j => if midI j then .ok (rangeD 0 j) m1 else .no | none => .no) | _ => .no
def mRange2 (a b : EM W) : EM (List D) := fun rho m => (mCons a (mCons b mNil) rho m).bind fun ws m1 => match ws with | [x, y] => (match intOf x, intOf y with | some i, some j => if midI i && midI j then .ok (rangeD i j) m1 else .no | _, _ => .no) | _ => .no
theorem di_range1 {p : Pos} (hg : Gl X "range") (hm : X.mg "range" = none) (ha : DenA X E [ea] (mCons a mNil)) (hs : starEach [ea] X.env = [(false, eval ea X.env)] := by rfl) : DenI X E tg (.Call (.Name "range" p) [ea] [] pos) (mRange1 a) :=
  PI.imp (pi_range1 hg hm ha hs) fun σ H R q => by
    obtain ⟨Hd, al, rho, m, s, e, P⟩ := q
    refine ⟨Hd, al, rho, m, s, e, (Post.bind P).imp fun ws al1 p1 m1 H1 g s1 k hp vs rv => ?_⟩
    subst hp
    have P1 := k rfl
    split at P1
    · rename_i x
      obtain ⟨v, r, rfl, r1, r2⟩ := rv
      have r2' : r = [] := r2
      subst r2'
      split at P1
      · rename_i j hj
        split at P1
        · rename_i hb
          have hb' := of_decide_eq_true hb
          have e1 : v = .int j := intOf_ok r1 hj
          subst e1
          refine ⟨j, rfl, hb'.1, hb'.2, Post.ok s1 P1 rfl _ ?_⟩
          have z := itD_range (X := X) (O := Own Hd al1 m1 none) (H := H1) 0 j.toNat
          unfold rangeD
          rw [Int.sub_zero]
          exact z
        · exact P1.elim
      · exact P1.elim
    · exact P1.elim
theorem di_range2 {p : Pos} (hg : Gl X "range") (hm : X.mg "range" = none) (ha : DenA X E [ea, eb] (mCons a (mCons b mNil))) (hs : starEach [ea, eb] X.env = [(false, eval ea X.env), (false, eval eb X.env)] := by rfl) (hs2 : starEach [eb] X.env = [(false, eval eb X.env)] := by rfl) :
    DenI X E tg (.Call (.Name "range" p) [ea, eb] [] pos) (mRange2 a b) :=
  PI.imp (pi_range2 hg hm ha hs hs2) fun σ H R q => by
    obtain ⟨Hd, al, rho, m, s, e, P⟩ := q
    refine ⟨Hd, al, rho, m, s, e, (Post.bind P).imp fun ws al1 p1 m1 H1 g s1 k hp vs rv => ?_⟩
    subst hp
    have P1 := k rfl
    split at P1
    · rename_i x y
      obtain ⟨v, r, rfl, r1, v2, r', rfl, r2, r3⟩ := rv
      have r3' : r' = [] := r3
      subst r3'
      split at P1
      · rename_i i j hi hj
        split at P1
        · rename_i hb
          rw [Bool.and_eq_true] at hb
          have hb1 := of_decide_eq_true hb.1
          have hb2 := of_decide_eq_true hb.2
          have e1 : v = .int i := intOf_ok r1 hi
          have e2 : v2 = .int j := intOf_ok r2 hj
          subst e1 e2
          exact ⟨i, j, rfl, ⟨hb1.1, hb1.2, hb2.1, hb2.2⟩, Post.ok s1 P1 rfl _ (itD_range _ _)⟩
        · exact P1.elim
      · exact P1.elim
    · exact P1.elim

/-! ### zip -/
theorem itD_zip {O : Addr → Prop} {H : Hp} {a0 b0 : Addr} {xs ys : List D} {vs us : List V} (hq : ∀ {O' H'}, Ext O H O' H' → SqL X.K H' a0 vs) (hq2 : ∀ {O' H'}, Ext O H O' H' → SqL X.K H' b0 us)
    (r : RepDs X.K O H xs vs) (r2 : RepDs X.K O H ys us) : ItD X O H (Itz X.K a0 b0) ((xs.zip ys).map fun p => .tuple [p.1, p.2]) where
  go := fun i O' H' g hi => by
    have hl := r.len
    have hl2 := r2.len
    rw [List.length_map, List.length_zip] at hi
    exact ⟨vs, us, vs[i]'(by omega), us[i]'(by omega), hq g, hq2 g, List.getElem?_eq_getElem _, List.getElem?_eq_getElem _⟩
  yld := fun i O' H' x v H'' g hx hy => by
    obtain ⟨T, y1, y2, rfl, hn, rfl, h1, h2⟩ := hy
    rw [List.getElem?_map] at hx
    cases hz : (xs.zip ys)[i]? with
    | none => rw [hz] at hx; cases hx
    | some pr =>
      rw [hz] at hx
      cases hx
      obtain ⟨z1, z2⟩ := List.getElem?_zip_eq_some.mp hz
      obtain ⟨v1, w1, q1⟩ := (r.ext g).get z1
      obtain ⟨v2, w2, q2⟩ := (r2.ext g).get z2
      have e1 := h1 vs (hq g)
      have e2 := h2 us (hq2 g)
      rw [w1] at e1; cases e1
      rw [w2] at e2; cases e2
      have f : Fresh H' (upd H' T (.tup [y1, y2])) := .inr ⟨T, _, hn, rfl⟩
      exact ⟨f, T, [y1, y2], rfl, .inl (.inl upd_same), y1, [y2], rfl, q1.ext f.ext, y2, [], rfl, q2.ext f.ext, rfl⟩
  stop := fun O' H' g => by
    refine ⟨vs, us, hq g, hq2 g, ?_⟩
    rw [List.length_map, List.length_zip, r.len, r2.len]
    omega
theorem itD_zipT {O : Addr → Prop} {H : Hp} {a0 b0 : Addr} {xs ys : List D} {vs us : List V} (hq : ∀ {O' H'}, Ext O H O' H' → SqT X.K H' a0 vs) (hq2 : ∀ {O' H'}, Ext O H O' H' → SqT X.K H' b0 us)
    (r : RepDs X.K O H xs vs) (r2 : RepDs X.K O H ys us) : ItD X O H (RZ.ItzT X.K a0 b0) ((xs.zip ys).map fun p => .tuple [p.1, p.2]) where
  go := fun i O' H' g hi => by
    have hl := r.len
    have hl2 := r2.len
    rw [List.length_map, List.length_zip] at hi
    exact ⟨vs, us, vs[i]'(by omega), us[i]'(by omega), hq g, hq2 g, List.getElem?_eq_getElem _, List.getElem?_eq_getElem _⟩
  yld := fun i O' H' x v H'' g hx hy => by
    obtain ⟨T, y1, y2, rfl, hn, rfl, h1, h2⟩ := hy
    rw [List.getElem?_map] at hx
    cases hz : (xs.zip ys)[i]? with
    | none => rw [hz] at hx; cases hx
    | some pr =>
      rw [hz] at hx
      cases hx
      obtain ⟨z1, z2⟩ := List.getElem?_zip_eq_some.mp hz
      obtain ⟨v1, w1, q1⟩ := (r.ext g).get z1
      obtain ⟨v2, w2, q2⟩ := (r2.ext g).get z2
      have e1 := h1 vs (hq g)
      have e2 := h2 us (hq2 g)
      rw [w1] at e1; cases e1
      rw [w2] at e2; cases e2
      have f : Fresh H' (upd H' T (.tup [y1, y2])) := .inr ⟨T, _, hn, rfl⟩
      exact ⟨f, T, [y1, y2], rfl, .inl (.inl upd_same), y1, [y2], rfl, q1.ext f.ext, y2, [], rfl, q2.ext f.ext, rfl⟩
  stop := fun O' H' g => by
    refine ⟨vs, us, hq g, hq2 g, ?_⟩
    rw [List.length_map, List.length_zip, r.len, r2.len]
    omega
/-- two lists or two tuples -/
def zipD : D → D → Option (List D)
  | .list xs, .list ys => some ((xs.zip ys).map fun p => .tuple [p.1, p.2])
  | .tuple xs, .tuple ys => some ((xs.zip ys).map fun p => .tuple [p.1, p.2])
  | _, _ => none
def mZip (a b : EM W) : EM (List D) := fun rho m => (mCons a (mCons b mNil) rho m).bind fun ws m1 => match ws with | [.d x, .d y] => (match zipD x y with | some ds => .ok ds m1 | none => .no) | _ => .no
theorem di_zip {p pt : Pos} {elts : List Expr} {kk : Nat} (hg : Gl X "zip") (hm : X.mg "zip" = none) (ha : DenA X E [ea, eb] (mCons a (mCons b mNil)))
    (hs : starEach [ea, eb] X.env = (false, eval ea X.env) :: starEach [eb] X.env := by rfl) (hpl : (backTo pos (starEach [eb] X.env)).any (·.1) = false := by rfl) : DenI X E (.Tuple elts kk pt) (.Call (.Name "zip" p) [ea, eb] [] pos) (mZip a b) :=
  PI.imp (RZ.pi_zipA hg hm ha hs hpl) fun σ H R q => by
    obtain ⟨Hd, al, rho, m, s, e, P⟩ := q
    refine ⟨Hd, al, rho, m, s, e, (Post.bind P).imp fun ws al1 p1 m1 H1 g s1 k hp vs rv => ?_⟩
    subst hp
    have P1 := k rfl
    split at P1
    · rename_i x y
      obtain ⟨v, r, rfl, r1, v2, r', rfl, r2, r3⟩ := rv
      have r3' : r' = [] := r3
      subst r3'
      split at P1
      · rename_i ds hz
        cases x with
        | list xs =>
          cases y <;> first | (simp only [zipD] at hz; cases hz; done) | skip
          cases hz
          obtain ⟨a0, vs, rfl, h1, h2⟩ := r1.2
          obtain ⟨b0, us, rfl, h3, h4⟩ := r2.2
          exact ⟨a0, b0, vs, us, rfl, .inl ⟨.inl (.inl h1.1), .inl (.inl h3.1), Post.ok s1 P1 rfl _ (itD_zip (fun g => .inl (.inl (sqF_ext g h1).1)) (fun g => .inl (.inl (sqF_ext g h3).1)) h2 h4)⟩⟩
        | tuple xs =>
          cases y <;> first | (simp only [zipD] at hz; cases hz; done) | skip
          cases hz
          obtain ⟨a0, vs, rfl, h1, h2⟩ := r1.2
          obtain ⟨b0, us, rfl, h3, h4⟩ := r2.2
          exact ⟨a0, b0, vs, us, rfl, .inr ⟨h1, h3, Post.ok s1 P1 rfl _ (itD_zipT (fun g => sqT_ext g h1) (fun g => sqT_ext g h3) h2 h4)⟩⟩
        | _ => simp only [zipD] at hz; cases hz
      · exact P1.elim
    · exact P1.elim

/-! ### comprehensions -/
def wipeE (rho : Env) : List Nat → Env
  | [] => rho
  | v :: vs => (wipeE rho vs).set v none
theorem EnvOk.wipe {K : PySem.W.Frag} {mg : Str → Option Value} {O : Addr → Prop} {al : List Addr} {H : Hp} {rho : Env} {σ : St} (e : EnvOk K mg O al H rho σ) : ∀ vs : List Nat, EnvOk K mg O al H (wipeE rho vs) (L2.wipe σ vs)
  | [] => e
  | v :: vs => (EnvOk.wipe e vs).drop
theorem wipe_get (σ : St) (j : Nat) : ∀ vs : List Nat, (L2.wipe σ vs)[j]? = if j ∈ vs ∧ j < σ.length then some none else σ[j]?
  | [] => by rw [if_neg (by simp)]; rfl
  | v :: vs => by
    show ((L2.wipe σ vs).set v none)[j]? = _
    by_cases e : v = j
    · subst e
      by_cases hl : v < σ.length
      · rw [List.getElem?_set_self (by rw [wipe_length]; exact hl), if_pos ⟨List.mem_cons_self, hl⟩]
      · rw [if_neg (fun z => hl z.2), List.getElem?_eq_none (by rw [List.length_set, wipe_length]; omega), List.getElem?_eq_none (by omega)]
    · rw [List.getElem?_set_ne e, wipe_get σ j vs]
      by_cases q : j ∈ vs ∧ j < σ.length
      · rw [if_pos q, if_pos ⟨List.mem_cons_of_mem _ q.1, q.2⟩]
      · rw [if_neg q, if_neg fun z => q ⟨(List.mem_cons.mp z.1).resolve_left fun y => e y.symm, z.2⟩]
theorem wipe_off {sl vs : List Nat} {σ σ2 : St} (h : Off sl (L2.wipe σ vs) σ2) (hs : ∀ j ∈ sl, j ∈ vs) : L2.wipe σ2 vs = L2.wipe σ vs := by
  refine List.ext_getElem? fun j => ?_
  rw [wipe_get, wipe_get]
  have hl : σ2.length = σ.length := by rw [h.1, wipe_length]
  rw [hl]
  by_cases q : j ∈ vs ∧ j < σ.length
  · rw [if_pos q, if_pos q]
  · rw [if_neg q, if_neg q]
    by_cases hj : j ∈ sl
    · have : ¬ j < σ.length := fun z => q ⟨hs j hj, z⟩
      rw [List.getElem?_eq_none (by omega), List.getElem?_eq_none (by omega)]
    · rw [h.2 j hj, wipe_get, if_neg q]
/-- the items one after another; acc: what is made so far -/
def compL (vs : List Nat) (g : GM) (t : EM Bool) (a : EM W) : List D → List D → EM (List D)
  | [], acc => fun _ m => .ok acc m
  | x :: xs, acc => fun rho m => match g (.d x) (wipeE rho vs) m with
    | some (r1, m1) => (t r1 m1).bind fun b m2 => if b = true then
        (a r1 m2).bindV fun w m3 => match frz m3 w with | some (y, m4) => compL vs g t a xs (acc ++ [y]) rho m4 | none => .no
      else compL vs g t a xs acc rho m2
    | none => .no
def mComp (it : EM (List D)) (vs : List Nat) (g : GM) (t : EM Bool) (a : EM W) : EM W := fun rho m => (it rho m).bind fun items m1 => if small items.length then (compL vs g t a items [] rho m1).bind fun acc m2 => .ok (.n (.list acc)) m2 else .no
def tYesT : EM Bool := fun _ m => .ok true m
abbrev E0' : St → XK := fun _ _ _ _ => False
abbrev DenTs (X : Cx) (ifs : List Expr) (t : EM Bool) : Prop := PTs X ifs (tT X.K X.mg E0' t)
theorem PTs.imp {ifs : List Expr} {t t' : TT} (h : PTs X ifs t) (k : ∀ σ H Q, t' σ H Q → t σ H Q) : PTs X ifs t' := ⟨fun pins s σ H Q I q => h.run pins s σ H Q I (k σ H Q q)⟩
theorem dts_nil : DenTs X [] tYesT := PTs.imp pts_nil fun σ H Q q => by
  obtain ⟨Hd, al, rho, m, s, e, P⟩ := q
  exact Post.ok s P rfl
theorem dts_one {c : Expr} {t : EM Bool} (h : DenT X E0' c t) : DenTs X [c] t := pts_one h
/-- the outcome is none of ours where an exception would leave -/
def calmR {β : Type} : Rs β → Rs β
  | .ex _ _ => .no
  | r => r
/-- one more hidden object -/
def more (Hd : Addr → Prop) (D0 : Addr) : Addr → Prop := fun a => Hd a ∨ a = D0
theorem own_more {Hd : Addr → Prop} {D0 : Addr} {al : List Addr} {m : Mem} {p : Option Addr} {a : Addr} : Own (more Hd D0) al m p a ↔ Own Hd al m p a ∨ a = D0 := by
  constructor
  · rintro (h | (h | h) | h)
    · exact .inl (.inl h)
    · exact .inl (.inr (.inl h))
    · exact .inr h
    · exact .inl (.inr (.inr h))
  · rintro ((h | h | h) | h)
    · exact .inl h
    · exact .inr (.inl (.inl h))
    · exact .inr (.inr h)
    · exact .inr (.inl (.inr h))
theorem stt_more {K : PySem.W.Frag} {Hd : Addr → Prop} {D0 : Addr} {o : HO} {al : List Addr} {m : Mem} {H : Hp} (s : Stt K Hd al none H m) (hn : H D0 = none) : Stt K (more Hd D0) al none (upd H D0 o) m ∧ Ext (Own Hd al m none) H (Own (more Hd D0) al m none) (upd H D0 o) := by
  have ex : Ext (Own Hd al m none) H (Own (more Hd D0) al m none) (upd H D0 o) := ⟨(go_new (Hd := Hd) (al := al) (m := m) (o := o) hn (.inl rfl)).ext.tup, (go_new (Hd := Hd) (al := al) (m := m) (o := o) hn (.inl rfl)).ext.frz, (go_new (Hd := Hd) (al := al) (m := m) (o := o) hn (.inl rfl)).ext.oth, fun b z => by
    rcases own_more.mp z with z | z
    · exact .inl z
    · subst z; exact .inr hn⟩
  refine ⟨⟨s.len, fun r b x h1 h2 => ?_, s.inj, fun _ _ h => (nomatch h), fun b hb => ?_⟩, ex⟩
  · have h := s.ob r b x h1 h2
    obtain ⟨u, hu, _⟩ := h.some
    exact h.stay ex (upd_ne (ne_of_none hu hn))
  · rcases hb with hb | hb
    · obtain ⟨⟨u, hu⟩, h2, h3⟩ := s.hin b hb
      exact ⟨⟨u, by rw [upd_ne (ne_of_none hu hn)]; exact hu⟩, h2, h3⟩
    · subst hb
      refine ⟨⟨o, upd_same⟩, (fun z => nomatch z), fun r ⟨x, hx⟩ h1 => ?_⟩
      obtain ⟨u, hu, _⟩ := (s.ob r _ x h1 hx).some
      rw [hn] at hu; cases hu
/-- the hidden list grows -/
theorem stt_grow {K : PySem.W.Frag} {Hd : Addr → Prop} {D0 : Addr} {o o' : HO} {al : List Addr} {m : Mem} {H : Hp} (s : Stt K (more Hd D0) al none H m) (hD : H D0 = some o) (ht : Mut (some o)) : Stt K (more Hd D0) al none (upd H D0 o') m ∧
    ∀ ds vs, RepDs K (Own (more Hd D0) al m none) H ds vs → RepDs K (Own (more Hd D0) al m none) (upd H D0 o') ds vs := by
  have nt : ∀ b vs, H b = some (.tup vs) → b ≠ D0 := fun b vs h z => by subst z; rw [hD] at h; cases h; exact ht
  have nf : ∀ b ob u, H b = some (.frz ob u) → b ≠ D0 := fun b ob u h z => by subst z; rw [hD] at h; cases h; exact ht
  have ex : Ext (Own (more Hd D0) al m none) H (Own (more Hd D0) al m none) (upd H D0 o') := ⟨fun b vs h => by rw [upd_ne (nt b vs h)]; exact h, fun b ob u h => by rw [upd_ne (nf b ob u h)]; exact h,
    fun b ob h n => by rw [upd_ne fun z => n (own_more.mpr (.inr z))]; exact h, fun _ z => .inl z⟩
  refine ⟨⟨s.len, fun r b x h1 h2 => ?_, s.inj, s.pnd, fun b hb => ?_⟩, fun ds vs h => h.ext ex⟩
  · exact (s.ob r b x h1 h2).stay ex (upd_ne fun z => (s.hin D0 (.inr rfl)).2.2 r ⟨x, h2⟩ (z ▸ h1))
  · obtain ⟨⟨u, hu⟩, h2, h3⟩ := s.hin b hb
    refine ⟨?_, h2, h3⟩
    by_cases e : b = D0
    · subst e; exact ⟨o', upd_same⟩
    · exact ⟨u, by rw [upd_ne e]; exact hu⟩
theorem RepW.ext {K : PySem.W.Frag} {mg : Str → Option Value} {O O' : Addr → Prop} {al al1 : List Addr} {H H1 : Hp} {w : W} {v : V} (ex : Ext O H O' H1) (pre : ∀ (r : Nat) a, al[r]? = some a → al1[r]? = some a) (h : RepW K mg O none al H w v) : RepW K mg O' none al1 H1 w v := by
  cases w with
  | d x => exact ⟨rfl, h.2.ext ex⟩
  | r n => obtain ⟨a, h1, h2⟩ := h.2; exact ⟨rfl, a, pre _ _ h1, h2⟩
  | f x => exact ⟨rfl, h.2⟩
  | s xs => obtain ⟨a, vs, h1, h2, h3⟩ := h.2; exact ⟨rfl, a, vs, h1, sqS_ext ex h2, h3.ext ex⟩
  | e a => exact ⟨rfl, h.2⟩
  | n x => obtain ⟨a, h1, h2⟩ := h; cases h1
theorem EnvOk.ext {K : PySem.W.Frag} {mg : Str → Option Value} {O O' : Addr → Prop} {al al1 : List Addr} {H H1 : Hp} {rho : Env} {σ : St} (ex : Ext O H O' H1) (pre : ∀ (r : Nat) a, al[r]? = some a → al1[r]? = some a) (e : EnvOk K mg O al H rho σ) : EnvOk K mg O' al1 H1 rho σ :=
  ⟨e.1, fun i w h => by obtain ⟨v, h1, h2⟩ := e.2 i w h; exact ⟨v, h1, h2.ext ex pre⟩⟩
theorem own_hid {Hd : Addr → Prop} {D0 : Addr} {al : List Addr} {m : Mem} {a : Addr} : Own (more Hd D0) al m none a ↔ Own Hd al m (some D0) a := by
  constructor
  · rintro (h | (h | h) | h)
    · exact .inl h
    · exact .inr (.inl h)
    · subst h; exact .inr (.inr rfl)
    · cases h
  · rintro (h | h | h)
    · exact .inl h
    · exact .inr (.inl (.inl h))
    · cases h; exact .inr (.inl (.inr rfl))
theorem stt_show {K : PySem.W.Frag} {Hd : Addr → Prop} {D0 : Addr} {al : List Addr} {m : Mem} {H : Hp} (s : Stt K (more Hd D0) al none H m) (nh : ¬ Hd D0) : Stt K Hd al (some D0) H m where
  len := s.len
  ob := fun r a o h1 h2 => (s.ob r a o h1 h2).stay (Ext.less fun b h => own_hid.mpr h) rfl
  inj := s.inj
  pnd := fun a r h1 h2 => by cases h1; exact (s.hin D0 (.inr rfl)).2.2 r h2
  hin := fun a h => ⟨(s.hin a (.inl h)).1, fun z => by cases z; exact nh h, (s.hin a (.inl h)).2.2⟩
theorem tM_comp {it : EM (List D)} {g : GM} {sl vs : List Nat} {t : EM Bool} {a : EM W} (hs : ∀ j ∈ sl, j ∈ vs) {σ : St} {H : Hp} {Q : VK} (q : tM X.K X.mg E (mComp it vs g (fun r m => calmR (t r m)) (fun r m => calmR (a r m))) σ H Q) :
    tLc (tI X E it) (tG X.K X.mg g sl) (tT X.K X.mg E0' t) (tM X.K X.mg E0' a) vs σ H Q := by
  obtain ⟨Hd, al, rho, m, s, e, P⟩ := q
  refine ⟨Hd, al, rho, m, s, e, (Post.bind P).imp fun items al1 p1 m1 H1 g1 s1 k hp J hJ D0 hD => ?_⟩
  subst hp
  have P0 := k rfl
  by_cases hsm : small items.length = true
  case neg => rw [if_neg hsm] at P0; exact P0.elim
  rw [if_pos hsm] at P0
  have e1 := e.go g1
  have nh : ¬ Hd D0 := fun z => by obtain ⟨⟨o, ho⟩, _⟩ := s1.hin D0 z; rw [hD] at ho; cases ho
  obtain ⟨sD, exD⟩ := stt_more (o := .lst []) s1 hD
  refine ⟨fun i k H' => k = items.length - i ∧ i ≤ items.length ∧ ∃ al' m' acc vsA, Ext (Own Hd al1 m1 none) H1 (Own (more Hd D0) al' m' none) H' ∧ (∀ (r : Nat) a, al1[r]? = some a → al'[r]? = some a) ∧ (∀ a o, Hd a → H1 a = some o → H' a = some o) ∧
      Stt X.K (more Hd D0) al' none H' m' ∧ H' D0 = some (.lst vsA) ∧ RepDs X.K (Own (more Hd D0) al' m' none) H' acc vsA ∧ acc.length ≤ i ∧
      Post X.K X.mg Hd al1 m1 H1 (E σ) ((compL vs g (fun r m => calmR (t r m)) (fun r m => calmR (a r m)) (items.drop i) acc rho m').bind fun acc m2 => Rs.ok (W.n (PyData.list acc)) m2) fun w al' p m' H' => ∀ v, RepW X.K X.mg (Own Hd al' m' p) p al' H' w v → Q v H',
    ⟨items.length, rfl, Nat.zero_le _, al1, m1, [], [], exD, fun _ _ h => h, fun b o hb h => by rw [upd_ne fun z => nh (by rw [← z]; exact hb)]; exact h, sD, upd_same, rfl, Nat.le_refl _, P0⟩, fun i k H' hk => ?_⟩
  obtain ⟨rfl, hi, al2, m2, acc, vsA, ex2, pre2, hid2, s2, hA, rA, hacc, P2⟩ := hk
  by_cases hlt : i < items.length
  · refine .inr ⟨hJ.go i _ H' ex2 hlt, fun H3 => ∃ al' m' acc vsA, Ext (Own Hd al1 m1 none) H1 (Own (more Hd D0) al' m' none) H3 ∧ (∀ (r : Nat) a, al1[r]? = some a → al'[r]? = some a) ∧ (∀ a o, Hd a → H1 a = some o → H3 a = some o) ∧
      Stt X.K (more Hd D0) al' none H3 m' ∧ H3 D0 = some (.lst vsA) ∧ RepDs X.K (Own (more Hd D0) al' m' none) H3 acc vsA ∧ acc.length ≤ i + 1 ∧
      Post X.K X.mg Hd al1 m1 H1 (E σ) ((compL vs g (fun r m => calmR (t r m)) (fun r m => calmR (a r m)) (items.drop (i + 1)) acc rho m').bind fun acc m2 => Rs.ok (W.n (PyData.list acc)) m2) fun w al' p m' H' => ∀ v, RepW X.K X.mg (Own Hd al' m' p) p al' H' w v → Q v H',
      fun H3 hn => ⟨items.length - (i + 1), by omega, rfl, by omega, hn⟩, fun x H3 hy => ?_⟩
    obtain ⟨f3, r3⟩ := hJ.yld i _ H' items[i] x H3 ex2 (List.getElem?_eq_getElem hlt) hy
    have g3 : Go (more Hd D0) al2 m2 none H' al2 m2 none H3 := f3.go
    have s3 := f3.stt s2
    rw [List.drop_eq_getElem_cons hlt] at P2
    have P4 : Post X.K X.mg Hd al1 m1 H1 (E σ) ((match g (.d items[i]) (wipeE rho vs) m2 with
      | some (r1, m1) => (calmR (t r1 m1)).bind fun b m2 => if b = true then
          (calmR (a r1 m2)).bindV fun w m3 => match frz m3 w with | some (y, m4) => compL vs g (fun r m => calmR (t r m)) (fun r m => calmR (a r m)) (items.drop (i + 1)) (acc ++ [y]) rho m4 | none => .no
        else compL vs g (fun r m => calmR (t r m)) (fun r m => calmR (a r m)) (items.drop (i + 1)) acc rho m2
      | none => .no).bind fun acc m2 => Rs.ok (W.n (PyData.list acc)) m2) fun w al' p m' H' => ∀ v, RepW X.K X.mg (Own Hd al' m' p) p al' H' w v → Q v H' := P2
    refine ⟨more Hd D0, al2, wipeE rho vs, m2, .d items[i], s3, ((e1.ext ex2 pre2).go g3).wipe vs, ⟨rfl, r3⟩, ?_⟩
    cases hg : g (.d items[i]) (wipeE rho vs) m2 with
    | none => rw [hg] at P4; exact P4
    | some z =>
      obtain ⟨r4, m4⟩ := z
      rw [hg] at P4
      dsimp only at P4
      intro al4 H4 σ4 g4 s4 e4 off
      refine ⟨wipe_off off hs, more Hd D0, al4, r4, m4, s4, e4, ?_⟩
      cases ht : t r4 m4 with
      | no => rw [ht] at P4; exact P4.elim
      | ex c m' => rw [ht] at P4; exact P4.elim
      | ok b m5 =>
        rw [ht] at P4
        intro al5 p5 H5 g5 s5 hp5
        subst hp5
        have g35 := (g3.trans g4).trans g5
        have stay : ∀ {al' m' p' H''}, Go (more Hd D0) al2 m2 none H' al' m' p' H'' → H'' D0 = some (.lst vsA) ∧ Ext (Own Hd al1 m1 none) H1 (Own (more Hd D0) al' m' p') H'' ∧ (∀ (r : Nat) a, al1[r]? = some a → al'[r]? = some a) ∧ (∀ a o, Hd a → H1 a = some o → H'' a = some o) :=
          fun g => ⟨g.hid D0 _ (.inr rfl) hA, ex2.trans g.ext, fun r a h => g.pre r a (pre2 r a h), fun a o ha h => g.hid a o (.inl ha) (hid2 a o ha h)⟩
        cases b with
        | false =>
          obtain ⟨z1, z2, z3, z4⟩ := stay g35
          exact ⟨al5, m5, acc, vsA, z2, z3, z4, s5, z1, rA.ext g35.ext, by omega, P4⟩
        | true =>
          refine ⟨more Hd D0, al5, r4, m5, s5, e4.go g5, ?_⟩
          have P7 : Post X.K X.mg Hd al1 m1 H1 (E σ) (((calmR (a r4 m5)).bindV fun w m3 => match frz m3 w with | some (y, m4) => compL vs g (fun r m => calmR (t r m)) (fun r m => calmR (a r m)) (items.drop (i + 1)) (acc ++ [y]) rho m4 | none => .no).bind fun acc m2 => Rs.ok (W.n (PyData.list acc)) m2) fun w al' p m' H' => ∀ v, RepW X.K X.mg (Own Hd al' m' p) p al' H' w v → Q v H' := P4
          cases ha : a r4 m5 with
          | no => rw [ha] at P7; exact P7.elim
          | ex c m' => rw [ha] at P7; exact P7.elim
          | ok w m6 =>
            rw [ha] at P7
            intro al6 p6 H6 g6 s6 v6 rv6
            have s6' := s6.settle
            have g6' := g6.trans (Go.settle (p := p6))
            have rv6' := val_ok s6 rv6
            have P9 : Post X.K X.mg Hd al1 m1 H1 (E σ) ((match frz m6 (val w) with | some (y, m4) => compL vs g (fun r m => calmR (t r m)) (fun r m => calmR (a r m)) (items.drop (i + 1)) (acc ++ [y]) rho m4 | none => .no).bind fun acc m2 => Rs.ok (W.n (PyData.list acc)) m2) fun w al' p m' H' => ∀ v, RepW X.K X.mg (Own Hd al' m' p) p al' H' w v → Q v H' := P7
            cases hf : frz m6 (val w) with
            | none => rw [hf] at P9; exact P9.elim
            | some yz =>
              obtain ⟨y, m7⟩ := yz
              rw [hf] at P9
              obtain ⟨s7, g7, r7⟩ := frz_ok s6' rv6' hf
              have g27 := (g35.trans g6').trans g7
              obtain ⟨z1, z2, z3, z4⟩ := stay g27
              have rA7 := rA.ext g27.ext
              refine ⟨vsA, z1, ?_, ?_⟩
              · rw [rA.len]
                exact Nat.lt_of_lt_of_le (show acc.length < 1000001 by have := of_decide_eq_true hsm; omega) (by decide)
              · obtain ⟨s8, k8⟩ := stt_grow (o' := .lst (vsA ++ [v6])) s7 z1 True.intro
                refine ⟨al6, m7, acc ++ [y], vsA ++ [v6], ⟨fun b us h => ?_, fun b ob u h => ?_, fun b ob h n => ?_, z2.new⟩, z3, fun b o hb h => ?_, s8, upd_same, k8 _ _ (rA7.append (.one r7)), ?_, P9⟩
                · rw [upd_ne fun z => by rw [z, hD] at h; cases h]; exact z2.tup b us h
                · rw [upd_ne fun z => by rw [z, hD] at h; cases h]; exact z2.frz b ob u h
                · rw [upd_ne fun z => by rw [z, hD] at h; cases h]; exact z2.oth b ob h n
                · rw [upd_ne fun z => nh (by rw [← z]; exact hb)]; exact z4 b o hb h
                · rw [List.length_append, List.length_singleton]; omega
  · have e0 : i = items.length := by omega
    subst e0
    rw [List.drop_length] at P2
    refine .inl ⟨hJ.stop _ H' ex2, ?_⟩
    have P3 : Post X.K X.mg Hd al1 m1 H1 (E σ) (Rs.ok (W.n (PyData.list acc)) m2) fun w al' p m' H' => ∀ v, RepW X.K X.mg (Own Hd al' m' p) p al' H' w v → Q v H' := P2
    have exE : Ext (Own Hd al1 m1 none) H1 (Own Hd al2 m2 (some D0)) H' := ex2.weak fun b h => own_hid.mpr h
    exact P3 al2 (some D0) H' ⟨exE, pre2, hid2⟩ (stt_show s2 nh) _ ⟨D0, rfl, rfl, vsA, hA, rA.ext (Ext.less fun b h => own_hid.mpr h)⟩
def mLC (it : EM (List D)) (vs : List Nat) (g : GM) (t : EM Bool) (a : EM W) : EM W := mComp it vs g (fun r m => calmR (t r m)) (fun r m => calmR (a r m))
variable {scope : Scope} {elt tg' : Expr} {ifs : List Expr} {own : List (Str × Nat)} {it : EM (List D)} {g : GM} {sl : List Nat} {t' : EM Bool}
theorem den_lc (own : List (Str × Nat)) (hc : X.calm = true) (hN : X.N.Nodup) (hi : DenI X E tg iter it) (ok : BlkOk X.N X.env.scope scope own)
    (hg : ∀ (s : Shared) (H : Hp) (C : Addr) (cl : List (Str × Addr)) (fp : List Addr), DenG (X.blk s H scope (compEnvC scope cl C X.env) fp) tg g sl) (ht : ∀ (s : Shared) (H : Hp) (C : Addr) (cl : List (Str × Addr)) (fp : List Addr), DenTs (X.blk s H scope (compEnvC scope cl C X.env) fp) ifs t')
    (he : ∀ (s : Shared) (H : Hp) (C : Addr) (cl : List (Str × Addr)) (fp : List Addr), Den (X.blk s H scope (compEnvC scope cl C X.env) fp) E0' elt a) (hsl : ∀ j ∈ sl, j ∈ own.map (·.2) := by decide) (hs : ∀ x, foldedSetIterable iter X.env x = pure x := by intro _; rfl) :
    Den X E (.ListComp elt [⟨tg, iter, ifs, 0⟩] scope pos) (mLC it (own.map (·.2)) g t' a) := PE.imp (pe_lc hc hN hi ok hg ht he hs) fun _ _ _ q => tM_comp hsl q
section
variable {i : Nat} {y : Str} {py spos : Pos}
theorem ds_setLc (i : Nat) (own : List (Str × Nat)) (hc : X.calm = true) (hN : X.N.Nodup) (hi : DenI X E tg iter it) (ok : BlkOk X.N X.env.scope scope own)
    (hg : ∀ (s : Shared) (H : Hp) (C : Addr) (cl : List (Str × Addr)) (fp : List Addr), DenG (X.blk s H scope (compEnvC scope cl C X.env) fp) tg g sl) (ht : ∀ (s : Shared) (H : Hp) (C : Addr) (cl : List (Str × Addr)) (fp : List Addr), DenTs (X.blk s H scope (compEnvC scope cl C X.env) fp) ifs t')
    (he : ∀ (s : Shared) (H : Hp) (C : Addr) (cl : List (Str × Addr)) (fp : List Addr), Den (X.blk s H scope (compEnvC scope cl C X.env) fp) E0' elt a) (hsl : ∀ j ∈ sl, j ∈ own.map (·.2) := by decide)
    (hsw : swapsWith (.ListComp elt [⟨tg, iter, ifs, 0⟩] scope pos) (some (.Name y py)) spos.line X.env = pure true) (hy : X.N[i]? = some y := by rfl) (hyl : X.env.scope.names.lookup y = some .local := by rfl) (hs : ∀ x, foldedSetIterable iter X.env x = pure x := by intro _; rfl) :
    DenS X E (.Assign [.Name y py] (.ListComp elt [⟨tg, iter, ifs, 0⟩] scope pos) spos) (sSet i (mLC it (own.map (·.2)) g t' a)) := PS.imp (ps_setLc hc hN hy hyl hsw hi ok hg ht he hs) fun _ _ _ q => tS_set (fun _ _ _ h => tM_comp hsl h) q
theorem ds_setLcR (i : Nat) (own : List (Str × Nat)) (hc : X.calm = true) (hN : X.N.Nodup) (hi : DenI X E tg iter it) (ok : BlkOk X.N X.env.scope scope own)
    (hg : ∀ (s : Shared) (H : Hp) (C : Addr) (cl : List (Str × Addr)) (fp : List Addr), DenG (X.blk s H scope (compEnvC scope cl C X.env) fp) tg g sl) (ht : ∀ (s : Shared) (H : Hp) (C : Addr) (cl : List (Str × Addr)) (fp : List Addr), DenTs (X.blk s H scope (compEnvC scope cl C X.env) fp) ifs t')
    (he : ∀ (s : Shared) (H : Hp) (C : Addr) (cl : List (Str × Addr)) (fp : List Addr), Den (X.blk s H scope (compEnvC scope cl C X.env) fp) E0' elt a) (hsl : ∀ j ∈ sl, j ∈ own.map (·.2) := by decide)
    (hsw : swapsWith (.ListComp elt [⟨tg, iter, ifs, 0⟩] scope pos) (some (.Name y py)) spos.line X.env = pure true) (hy : X.N[i]? = some y := by rfl) (hyl : X.env.scope.names.lookup y = some .local := by rfl) (hs : ∀ x, foldedSetIterable iter X.env x = pure x := by intro _; rfl) :
    DenS X E (.Assign [.Name y py] (.ListComp elt [⟨tg, iter, ifs, 0⟩] scope pos) spos) (sSetR i (mLC it (own.map (·.2)) g t' a)) := PS.imp (ps_setLc hc hN hy hyl hsw hi ok hg ht he hs) fun _ _ _ q => tS_setR (fun _ _ _ h => tM_comp hsl h) q
end
end
end Den
/-! Den7: defs and their calls, raise, the law's end. -/
namespace Den
open PySem PySem.Spec PyProof.Rows L2

/-! ### what a def promises, where nothing is being shown (no repr around) -/
structure FnG (P : Program) (w : World) (K : PySem.W.Frag) (mg : Str → Option Value) (base : Heap) (k : Nat) (f : Addr) (fd : FuncData) (ps : List Str) (sp : Sp) : Prop where
  len : ∀ vs H Q E, sp vs H Q E → vs.length = ps.length
  run : ∀ (A : Around) (outer : List PySem.Env) (s : Shared) (H : Hp) (args : Args) (us : List Value) (vs : List V) (Q : VK) (E : XK), Room k A → A.guards = some [] → Env0 P w K mg base A outer s H → BindsTo s fd args (ps.zip us) → Vals vs us → sp vs H Q E →
    codeAny (model P w) A (.call (.ref f) args) (CR (L2N.CX P w) outer P w H s Q E) s
theorem FnG.mono {P : Program} {w : World} {K : PySem.W.Frag} {mg : Str → Option Value} {base : Heap} {j k : Nat} {f : Addr} {fd : FuncData} {ps : List Str} {sp : Sp} (F : FnG P w K mg base j f fd ps sp) (h : j ≤ k) : FnG P w K mg base k f fd ps sp :=
  ⟨F.len, fun A outer s H args us vs Q E hr => F.run A outer s H args us vs Q E (hr.mono h)⟩
section
variable {P : Program} {w : World} {K : PySem.W.Frag} {mg : Str → Option Value} {base : Heap} {k : Nat} {f : Addr} {x : Str} {st : Stmt} {fd : FuncData} {N ps : List Str} {sp : Sp}
theorem fn_G (F : Fun K x x st f fd) (S : FnScope N ps (defScope st)) (len : ∀ vs H Q E, sp vs H Q E → vs.length = ps.length)
    (hbody : ∀ (cdv : Value) (A : Around) (outer : List PySem.Env) (s : Shared) (H : Hp) (vs : List V) (Q : VK) (E : XK), Room k (A.deeper (envOfC x (defScope st) s.heap.objs.size f cdv)) → (A.deeper (envOfC x (defScope st) s.heap.objs.size f cdv)).guards = some [] → sp vs H Q E →
      ∃ t, PSs (cxOf (L2N.CX P w) P w K mg base N x (defScope st) f cdv A outer s H E) (defBody st) t ∧ t { nx := fun _ H' => Q .non H', rt := Q } (L2.start N vs) H) : FnG P w K mg base (k + 1) f fd ps sp := by
  obtain ⟨oc, od, kV, doc, pm, an, cdv, ct, osl, rfl, lk, hcd⟩ := F.ex
  refine ⟨len, fun A outer s H args us vs Q E hr hgu e0 hb r hsp => ?_⟩
  have hl := len _ _ _ _ hsp
  have hus : us.length = ps.length := r.length.symm.trans hl
  obtain ⟨t, ht, hq⟩ := hbody cdv A outer s H vs Q E (hr.deeper _) hgu hsp
  refine Att.call_fn (e0.mod.kin.keeps fun b o e => (e0.bs b o e).1) (e0.mod.nolimit.keeps fun b o e => (e0.bs b o e).1) lk hcd hr.depth hb ?_ (fun s1 ic => ?_) S.co S.gen S.kind
  · refine List.all_eq_true.mpr fun y hy => ?_
    rcases S.par y.1 (List.of_mem_zip (a := y.1) (b := y.2) hy).1 with q | q
    · rw [q]; rfl
    · rw [q]; rfl
  · refine wpAny_mono (ht.run [] s1 _ H _ (inv_start (CX := L2N.CX P w) (E := E) (N := N) S hr.hd e0 hl r ic) hq) (fun fl s' h => ?_) fun e s' h => h
    cases fl with
    | ret u => obtain ⟨v, σ', H', J, rv, q⟩ := h; exact ⟨v, H', J.os, J.bare, J.base, J.hok, rv, q⟩
    | next => obtain ⟨σ', H', J, q⟩ := h; exact ⟨.non, H', J.os, J.bare, J.base, J.hok, rfl, q⟩
    | brk => obtain ⟨_, _, _, q⟩ := h; exact q.elim
    | cont => obtain ⟨_, _, _, q⟩ := h; exact q.elim
end

/-! ### a def's computation -/
def fin (n : Nat) (m : Mem) : W → Rs W
  | .d x => .ok (.d x) (m.take n)
  | .n x => .ok (.n x) (m.take n)
  | .r k => if n ≤ k then (match m[k]? with | some (some x) => .ok (.n x) (m.take n) | _ => .no) else .no
  | .f x => .ok (.f x) (m.take n)
  | .s _ => .no
  | .e _ => .no
def startE (N : Nat) (ws : List W) : Env := ws.map some ++ List.replicate (N - ws.length) none
/-- the def with N names and the body c -/
def runF (N : Nat) (c : SM) : List W → Mem → Rs W := fun ws m => match c (startE N ws) m with
  | .nx _ m' => .ok (.d .none) (m'.take m.length)
  | .rt w m' => fin m.length m' w
  | .ex x _ m' => .ex x (m'.take m.length)
  | _ => .no
def spM (K : PySem.W.Frag) (mg : Str → Option Value) (n : Nat) (fm : List W → Mem → Rs W) : Sp := fun vs H Q E => ∃ Hd al ws m, ws.length = n ∧ Stt K Hd al none H m ∧ RepWs K mg (Own Hd al m none) al H ws vs ∧
  Post K mg Hd al m H E (fm ws m) fun w al' p m' H' => ∀ v, RepW K mg (Own Hd al' m' p) p al' H' w v → Q v H'
section
variable {K : PySem.W.Frag} {mg : Str → Option Value} {Hd : Addr → Prop} {al al1 : List Addr} {m m1 : Mem} {p q : Option Addr} {H H1 : Hp} {n : Nat}
theorem RepWs.len {O : Addr → Prop} : ∀ {ws : List W} {vs : List V}, RepWs K mg O al H ws vs → vs.length = ws.length
  | [], _, h => by rw [show _ = [] from h]; rfl
  | w :: ws, _, ⟨v, r, h1, h2, h3⟩ => by rw [h1, List.length_cons, List.length_cons, RepWs.len h3]
theorem live_take {r : Nat} (h : Live (m1.take n) r) : r < n ∧ Live m1 r := by
  obtain ⟨o, h⟩ := h
  obtain ⟨hl, _⟩ := List.getElem?_eq_some_iff.mp h
  rw [List.length_take] at hl
  have hr : r < n := by omega
  exact ⟨hr, o, by rw [List.getElem?_take_of_lt hr] at h; exact h⟩
theorem own_take (hq : ∀ a, q = some a → Own Hd al1 m1 p a) {a : Addr} (h : Own Hd (al1.take n) (m1.take n) q a) : Own Hd al1 m1 p a := by
  rcases h with ⟨r, h1, h2⟩ | h | h
  · obtain ⟨hr, hl⟩ := live_take h2
    exact .inl ⟨r, by rw [List.getElem?_take_of_lt hr] at h1; exact h1, hl⟩
  · exact .inr (.inl h)
  · exact hq a h
theorem stt_take (s : Stt K Hd al1 p H1 m1) (n : Nat) (hq : ∀ a, q = some a → Own Hd al1 m1 p a ∧ ¬ Hd a ∧ ∀ r : Nat, r < n → Live m1 r → al1[r]? ≠ some a) : Stt K Hd (al1.take n) q H1 (m1.take n) where
  len := by rw [List.length_take, List.length_take, s.len]
  ob := fun r a o h1 h2 => by
    obtain ⟨hr, _⟩ := live_take (n := n) ⟨o, h2⟩
    rw [List.getElem?_take_of_lt hr] at h1 h2
    exact (s.ob r a o h1 h2).stay (Ext.less fun b h => own_take (fun a h => (hq a h).1) h) rfl
  inj := fun r r' a h1 h2 h3 h4 => by
    obtain ⟨q1, l1⟩ := live_take h3
    obtain ⟨q2, l2⟩ := live_take h4
    rw [List.getElem?_take_of_lt q1] at h1
    rw [List.getElem?_take_of_lt q2] at h2
    exact s.inj r r' a h1 h2 l1 l2
  pnd := fun a r h1 h2 h3 => by
    obtain ⟨q1, l1⟩ := live_take h2
    rw [List.getElem?_take_of_lt q1] at h3
    exact (hq a h1).2.2 r q1 l1 h3
  hin := fun a h => ⟨(s.hin a h).1, fun z => (hq a z).2.1 h, fun r h1 h2 => by
    obtain ⟨q1, l1⟩ := live_take h1
    rw [List.getElem?_take_of_lt q1] at h2
    exact (s.hin a h).2.2 r l1 h2⟩
theorem go_take (g : Go Hd al m none H al1 m1 p H1) (hl : al.length = n) (hq : ∀ a, q = some a → Own Hd al1 m1 p a) : Go Hd al m none H (al1.take n) (m1.take n) q H1 where
  ext := g.ext.weak fun a h => own_take hq h
  pre := fun r a h => by
    obtain ⟨hr, _⟩ := List.getElem?_eq_some_iff.mp h
    rw [List.getElem?_take_of_lt (by omega)]
    exact g.pre r a h
  hid := g.hid
theorem own_pnd (s : Stt K Hd al1 p H1 m1) : ∀ a, p = some a → Own Hd al1 m1 p a ∧ ¬ Hd a ∧ ∀ r : Nat, r < n → Live m1 r → al1[r]? ≠ some a := fun a h => ⟨.inr (.inr h), fun z => (s.hin a z).2.1 h, fun r _ h1 h2 => s.pnd a r h h1 h2⟩
/-- what a def hands back -/
theorem post_fin {E : XK} {w : W} {R : W → List Addr → Option Addr → Mem → Hp → Prop} (hl : al.length = n) (g : Go Hd al m none H al1 m1 p H1) (s : Stt K Hd al1 p H1 m1) {v : V} (rv : RepW K mg (Own Hd al1 m1 p) p al1 H1 w v) (P : Post K mg Hd al m H E (fin n m1 w) R) :
    ∃ w' al' q m', R w' al' q m' H1 ∧ RepW K mg (Own Hd al' m' q) q al' H1 w' v := by
  cases w with
  | d x =>
    obtain ⟨rfl, r⟩ := rv
    have h0 : ∀ a, (none : Option Addr) = some a → Own Hd al1 m1 none a := fun a h => nomatch h
    exact ⟨_, _, _, _, P (al1.take n) none H1 (go_take g hl h0) (stt_take s n (own_pnd s)), rfl, r.ext (Ext.less fun a h => own_take h0 h)⟩
  | f x =>
    obtain ⟨rfl, r⟩ := rv
    have h0 : ∀ a, (none : Option Addr) = some a → Own Hd al1 m1 none a := fun a h => nomatch h
    exact ⟨_, _, _, _, P (al1.take n) none H1 (go_take g hl h0) (stt_take s n (own_pnd s)), rfl, r⟩
  | n x =>
    obtain ⟨a, rfl, rfl, r⟩ := rv
    have h0 : ∀ b, some a = some b → Own Hd al1 m1 (some a) b := fun b h => .inr (.inr h)
    exact ⟨_, _, _, _, P (al1.take n) (some a) H1 (go_take g hl h0) (stt_take s n (own_pnd s)), a, rfl, rfl, r.stay (Ext.less fun a h => own_take h0 h) rfl⟩
  | s xs => exact P.elim
  | e a => exact P.elim
  | r k =>
    obtain ⟨rfl, a, h1, rfl⟩ := rv
    unfold fin at P
    dsimp only at P
    split at P
    · rename_i hk
      split at P
      · rename_i x hx
        have hq : ∀ b, some a = some b → Own Hd al1 m1 none b ∧ ¬ Hd b ∧ ∀ r : Nat, r < n → Live m1 r → al1[r]? ≠ some b := fun b h => by
          cases h
          refine ⟨.inl ⟨k, h1, x, hx⟩, fun z => (s.hin a z).2.2 k ⟨x, hx⟩ h1, fun r hr l1 h2 => ?_⟩
          have := s.inj r k a h2 h1 l1 ⟨x, hx⟩
          omega
        exact ⟨_, _, _, _, P (al1.take n) (some a) H1 (go_take g hl fun b h => (hq b h).1) (stt_take s n hq), a, rfl, rfl, (s.ob k a x h1 hx).stay (Ext.less fun b h => own_take (fun b h => (hq b h).1) h) rfl⟩
      · exact P.elim
    · exact P.elim
theorem envOk_start {O : Addr → Prop} {N : List Str} : ∀ {ws : List W} {vs : List V}, RepWs K mg O al H ws vs → EnvOk K mg O al H (startE N.length ws) (L2.start N vs) := fun {ws vs} h => by
  have hl := h.len
  refine ⟨by unfold startE L2.start; rw [List.length_append, List.length_append, List.length_map, List.length_map, List.length_replicate, List.length_replicate, hl], fun i w hi => ?_⟩
  unfold startE at hi
  by_cases hw : i < ws.length
  · rw [List.getElem?_append_left (by rw [List.length_map]; exact hw), List.getElem?_map, List.getElem?_eq_getElem hw] at hi
    cases hi
    have q : ∀ {ws : List W} {vs : List V} {i : Nat} (hw : i < ws.length), RepWs K mg O al H ws vs → ∃ v, vs[i]? = some v ∧ RepW K mg O none al H ws[i] v := by
      intro ws
      induction ws with
      | nil => intro vs i hw; exact absurd hw (Nat.not_lt_zero _)
      | cons w ws ih =>
        intro vs i hw ⟨v, r, h1, h2, h3⟩
        subst h1
        cases i with
        | zero => exact ⟨v, rfl, h2⟩
        | succ i => exact ih (Nat.lt_of_succ_lt_succ hw) h3
    obtain ⟨v, h1, h2⟩ := q hw h
    refine ⟨v, ?_, h2⟩
    unfold L2.start
    rw [List.getElem?_append_left (by rw [List.length_map, hl]; exact hw), List.getElem?_map, h1]
    rfl
  · rw [List.getElem?_append_right (by rw [List.length_map]; omega), List.getElem?_replicate] at hi
    split at hi <;> cases hi
end
section
variable {P : Program} {w : World} {K : PySem.W.Frag} {mg : Str → Option Value} {base : Heap} {k : Nat} {f : Addr} {x : Str} {st : Stmt} {fd : FuncData} {N ps : List Str} {c : SM}
/-- the wish about exceptions in a def's body -/
abbrev EK (E : XK) : St → XK := fun _ cls d H => E cls d H
/-- a def keeps the promise of its computation -/
theorem def_ok (F : Fun K x x st f fd) (S : FnScope N ps (defScope st))
    (hbody : ∀ (cdv : Value) (A : Around) (outer : List PySem.Env) (s : Shared) (H : Hp) (E : XK), Room k (A.deeper (envOfC x (defScope st) s.heap.objs.size f cdv)) → (A.deeper (envOfC x (defScope st) s.heap.objs.size f cdv)).guards = some [] →
      DenSs (cxOf (L2N.CX P w) P w K mg base N x (defScope st) f cdv A outer s H E) (EK E) (defBody st) c) : FnG P w K mg base (k + 1) f fd ps (spM K mg ps.length (runF N.length c)) := by
  refine fn_G F S (fun vs H Q E h => ?_) fun cdv A outer s H vs Q E hr hg h => ⟨_, hbody cdv A outer s H E hr hg, ?_⟩
  · obtain ⟨Hd, al, ws, m, hl, _, h, _⟩ := h
    exact h.len.trans hl
  · obtain ⟨Hd, al, ws, m, hl, s, h, P⟩ := h
    refine ⟨Hd, al, startE N.length ws, m, s, envOk_start h, ?_⟩
    unfold runF at P
    cases ho : c (startE N.length ws) m with
    | nx r m' =>
      rw [ho] at P
      intro al' H' σ' g s' e
      obtain ⟨w', al2, q, m2, q1, q2⟩ := post_fin (w := .d .none) (v := .non) s.len g s' ⟨rfl, rfl⟩ P
      exact q1 _ q2
    | rt w m' =>
      rw [ho] at P
      intro al' p H' v g s' rv
      obtain ⟨w', al2, q, m2, q1, q2⟩ := post_fin s.len g s' rv P
      exact q1 _ q2
    | ex y r m' =>
      rw [ho] at P
      intro al' H' σ' cls dd g s' e xo
      have h0 : ∀ a, (none : Option Addr) = some a → Own Hd al' m' none a := fun a h => nomatch h
      exact P (al'.take m.length) H' cls dd (go_take g s.len h0) (stt_take s' m.length (own_pnd s')) (by cases y <;> exact xo)
    | bk r m' => rw [ho] at P; exact P.elim
    | ct r m' => rw [ho] at P; exact P.elim
    | no => rw [ho] at P; exact P.elim

/-! ### calls -/
structure CalG (P : Program) (w : World) (K : PySem.W.Frag) (mg : Str → Option Value) (base : Heap) (k : Nat) (x : Str) (n : Nat) (fm : List W → Mem → Rs W) : Prop where
  ex : ∃ (f : Addr) (fd : FuncData) (ps : List Str), FnG P w K mg base k f fd ps (spM K mg n fm) ∧ mg x = some (.ref f) ∧ PySem.W.keepIn K (.ref f) = true ∧ Binds K fd ps [] ∧ ps.length = n
def mCall (n : Nat) (fm : List W → Mem → Rs W) (c : EM (List W)) : EM W := fun rho m => (c rho m).bind fun ws m1 => if ws.length = n then fm ws m1 else .no
end
section
variable {X : Cx} {E : St → XK} {k j n : Nat} {x : Str} {fm : List W → Mem → Rs W} {p pos : Pos} {e : Expr} {es : List Expr} {c : EM (List W)}
theorem run_G {f : Addr} {fd : FuncData} {ps : List Str} {sp : Sp} {pins : List (Addr × Obj)} {σ : St} {H : Hp} {s : Shared} {Q : VK} {us : List Value} {vs : List V} {E0 : XK} (F : FnG X.prog X.w X.K X.mg X.base k f fd ps sp) (hr : Room k X.A) (hgu : X.A.guards = some []) (hb : Binds X.K fd ps []) (hx : PassesAt (L2N.CX X.prog X.w) X σ E0)
    (I : Inv X pins σ H s) (r : Vals vs us) (h : sp vs H Q E0) : wpAny (model X.prog X.w) X.A (call (.ref f) us) (EP X pins σ Q) X.xe s := by
  have hl : us.length = ps.length := r.length.symm.trans (F.len _ _ _ _ h)
  have b := hb s us I.kIn (by rw [List.append_nil, hl])
  rw [List.append_nil] at b
  refine wpAny_call (codeAny_mono (F.run X.A X.stack s H _ us vs Q E0 hr hgu I.env0 b r h) fun res s' hq => ?_)
  match res, hq with
  | .error e, hq => exact hx pins H s e s' I hq
  | .ok (.ret u), hq => exact I.after hq
/-- f(..) where f keeps the promise sp -/
theorem pe_G {f : Addr} {fd : FuncData} {ps : List Str} {sp : Sp} {t : TA} (F : FnG X.prog X.w X.K X.mg X.base k f fd ps sp) (hm : X.mg x = some (.ref f)) (kp : PySem.W.keepIn X.K (.ref f) = true) (hb : Binds X.K fd ps []) (hr : Room k X.A) (hgu : X.A.guards = some [])
    (hx : ∀ σ, PassesAt (L2N.CX X.prog X.w) X σ (E σ)) (ha : PA X (e :: es) t) (hg : Gl X x)
    (hdb : (x == ("__debug__" : Str)) = false) (he : starEach (e :: es) X.env = (false, eval e X.env) :: starEach es X.env) (hpl : (backTo pos (starEach es X.env)).any (·.1) = false) : PE X (.Call (.Name x p) (e :: es) [] pos) (fun σ H Q => t σ H fun vs H1 => sp vs H1 Q (E σ)) := by
  refine ⟨fun pins s σ H Q I h => wpAny_Call_Name_kw (ld_glob I hg hm ?_ hdb)⟩
  refine PySem.W.callWith_K (h₀ := X.base) I.ok.mod.kin kp (thn (ha.run pos pins s σ H _ I h) fun us s1 hh => ?_) he hpl
  obtain ⟨vs, H1, I1, r, q⟩ := hh
  exact ⟨I1.kIn, run_G F hr hgu hb (hx σ) I1 r q⟩
theorem tM_call {σ : St} {H : Hp} {Q : VK} (q : tM X.K X.mg E (mCall n fm c) σ H Q) : tA X.K X.mg E c σ H fun vs H1 => spM X.K X.mg n fm vs H1 Q (E σ) := by
  obtain ⟨Hd, al, rho, m, s, e, P⟩ := q
  refine ⟨Hd, al, rho, m, s, e, (Post.bind P).imp fun ws al1 p1 m1 H1 g s1 k hp vs rv => ?_⟩
  subst hp
  have P1 := k rfl
  split at P1
  · rename_i hl
    exact ⟨Hd, al1, ws, m1, hl, s1, rv, P1⟩
  · exact P1.elim
theorem den_call (C : CalG X.prog X.w X.K X.mg X.base k x n fm) (hr : Room j X.A) (hgu : X.A.guards = some []) (hx : ∀ σ, PassesAt (L2N.CX X.prog X.w) X σ (E σ)) (ha : DenA X E (e :: es) c) (hk : k ≤ j := by decide) (hg : Gl X x := by rfl)
    (hdb : (x == ("__debug__" : Str)) = false := by decide) (he : starEach (e :: es) X.env = (false, eval e X.env) :: starEach es X.env := by rfl) (hpl : (backTo pos (starEach es X.env)).any (·.1) = false := by rfl) : Den X E (.Call (.Name x p) (e :: es) [] pos) (mCall n fm c) := by
  obtain ⟨f, fd, ps, F, hm, kp, hb, hn⟩ := C.ex
  exact PE.imp (pe_G F hm kp hb (hr.mono hk) hgu hx ha hg hdb he hpl) fun _ _ _ q => tM_call q

/-! ### [f, g, ..][i](..) -/
/-- the callee is picked from written names -/
def mSel (n : Nat) (fs : List (List W → Mem → Rs W)) (i : EM W) (c : EM (List W)) : EM W := fun rho m => (i rho m).bindV fun w m1 => match intOf w with
  | some j => if 0 ≤ j then (match fs[j.toNat]? with | some fm => (c rho m1).bind fun ws m2 => if ws.length = n then fm ws m2 else .no | none => .no) else .no
  | none => .no

/-! ### raise -/
/-- what the written part says of an own exception class without __init__ -/
structure ExcT (K : PySem.W.Frag) (mg : Str → Option Value) (x : Str) : Prop where
  ex : ∃ C, mg x = some (.ref C) ∧ PySem.W.excIn K C [.type "ValueError", .type "Exception", .type "BaseException", .type "object"] "ValueError.__new__" = true ∧ PySem.W.keepIn K (.ref C) = true ∧
    PySem.W.subIn K (.ref C) (.type "BaseException") = some true ∧ PySem.W.typeIn K (.ref C) = some (.type "type")
def sRaise (x : Str) : SM := fun rho m => .ex (.own x) rho m
theorem ds_raise {W0 : WX} {msg : Str} {jk : Nat} {p2 pos2 : Pos} (T : ExcT X.K X.mg x) (hc : X.calm = true) (tk : L2N.Takes X W0) (hE : ∀ σ cls d H, E σ cls d H → W0 cls d σ H) (hg : Gl X x := by rfl) (hdb : (x == ("__debug__" : Str)) = false := by decide) :
    DenS X E (.Raise (some (.Call (.Name x p) [.Constant (.str msg) jk p2] [] pos)) none pos2) (sRaise x) := by
  obtain ⟨C, hm, h1, h2, h3, h4⟩ := T.ex
  refine PS.imp (L2N.ps_raise hc tk (L2N.pmk_own PySem.F.excBase_ValueError h1 hm h2 (raises_own h3 h4) hg hdb)) fun Dn σ H q => ?_
  obtain ⟨Hd, al, rho, m, s, e, P⟩ := q
  exact hE _ _ _ _ (P al H σ _ _ Go.refl s e ⟨rfl, C, hm, rfl⟩)
end
end Den
/-! Den8: calls of built-ins, subscripts, slices, methods of lists. -/
namespace Den
open PySem PySem.Spec PyProof.Rows L2

/-! ### calls of built-ins -/
/-- a rule for a call by values: from what the arguments are to the reading -/
def Ca (X : Cx) (r : List V → Hp → VK → Prop) (f : List W → Mem → Rs W) : Prop := ∀ (E : XK) Hd al m H ws vs (R : W → List Addr → Option Addr → Mem → Hp → Prop) (Q : VK), Stt X.K Hd al none H m → RepWs X.K X.mg (Own Hd al m none) al H ws vs →
  Post X.K X.mg Hd al m H E (f ws m) R → (∀ w' al' p m' H' v', R w' al' p m' H' → RepW X.K X.mg (Own Hd al' m' p) p al' H' w' v' → Q v' H') → r vs H Q
def mB (c : EM (List W)) (f : List W → Mem → Rs W) : EM W := fun rho m => (c rho m).bind f
section
variable {X : Cx} {E : St → XK} {r : List V → Hp → VK → Prop} {f : List W → Mem → Rs W} {id T : String} {x : Str} {p pos : Pos} {e : Expr} {es : List Expr} {c : EM (List W)}
theorem tM_cb (h : Ca X r f) {σ : St} {H : Hp} {Q : VK} (q : tM X.K X.mg E (mB c f) σ H Q) : tCB r (tA X.K X.mg E c) σ H Q := by
  obtain ⟨Hd, al, rho, m, s, e, P⟩ := q
  refine ⟨Hd, al, rho, m, s, e, (Post.bind P).imp fun ws al1 p1 m1 H1 g s1 k hp vs rv => ?_⟩
  subst hp
  exact h _ _ _ _ _ _ _ _ Q s1 rv (k rfl) fun w' al' p m' H' v' q' => q' v'
theorem den_B (h : Ca X r f) (hc : CallR X (.builtin id) r) (hg : Gl X x) (hm : X.mg x = none) (hv : bootBuiltins x = some (.builtin id)) (ha : DenA X E (e :: es) c) (hn : x ≠ "__name__" := by decide) (hdb : (x == ("__debug__" : Str)) = false := by decide)
    (he : starEach (e :: es) X.env = (false, eval e X.env) :: starEach es X.env := by rfl) (hpl : (backTo pos (starEach es X.env)).any (·.1) = false := by rfl) : Den X E (.Call (.Name x p) (e :: es) [] pos) (mB c f) :=
  PE.imp (pe_callB hc hg hm hv ha hn hdb he hpl) fun _ _ _ q => tM_cb h q
theorem den_Ty (h : Ca X r f) (hc : CallR X (.type T) r) (hg : Gl X x) (hm : X.mg x = none) (hv : bootBuiltins x = some (.type T)) (ha : DenA X E (e :: es) c) (hn : x ≠ "__name__" := by decide) (hdb : (x == ("__debug__" : Str)) = false := by decide)
    (he : starEach (e :: es) X.env = (false, eval e X.env) :: starEach es X.env := by rfl) (hpl : (backTo pos (starEach es X.env)).any (·.1) = false := by rfl) : Den X E (.Call (.Name x p) (e :: es) [] pos) (mB c f) :=
  PE.imp (pe_callTy hc hg hm hv ha hn hdb he hpl) fun _ _ _ q => tM_cb h q
end
/-- one argument, data in, data out -/
def fD1 (g : D → Option D) : List W → Mem → Rs W
  | [w], m => (match peek m w with | some x => (match g x with | some y => .ok (.d y) m | none => .no) | none => .no)
  | _, _ => .no
def fD2 (g : D → D → Option D) : List W → Mem → Rs W
  | [w, w2], m => (match peek m w, peek m w2 with | some x, some y => (match g x y with | some z => .ok (.d z) m | none => .no) | _, _ => .no)
  | _, _ => .no
/-- one argument, a new list out -/
def fN1 (g : D → Option (List D)) : List W → Mem → Rs W
  | [w], m => (match peek m w with | some x => (match g x with | some ys => .ok (.n (.list ys)) m | none => .no) | none => .no)
  | _, _ => .no
section
variable {X : Cx} {r : List V → Hp → VK → Prop}
theorem ca_D1 {g : D → Option D} (h : ∀ (O : Addr → Prop) (H : Hp) x v y (Q : VK), RepP X.K O H x v → g x = some y → (∀ v', RepD X.K O H y v' → Q v' H) → r [v] H Q) : Ca X r (fD1 g) := by
  intro E Hd al m H ws vs R Q s rv P k
  match ws, rv with
  | [w], ⟨v, _, h1, h2, h3⟩ =>
    subst h1
    rw [show _ = [] from h3]
    unfold fD1 at P
    dsimp only at P
    split at P
    · rename_i x hx
      split at P
      · rename_i y hy
        exact h _ H x v y Q (peek_ok s h2 hx) hy fun v' rv' => k _ _ _ _ _ _ (P.ok s) ⟨rfl, rv'⟩
      · exact P.elim
    · exact P.elim
  | [], _ => exact P.elim
  | _ :: _ :: _, _ => exact P.elim
theorem ca_D2 {g : D → D → Option D} (h : ∀ (O : Addr → Prop) (H : Hp) x y v v2 z (Q : VK), RepP X.K O H x v → RepP X.K O H y v2 → g x y = some z → (∀ v', RepD X.K O H z v' → Q v' H) → r [v, v2] H Q) : Ca X r (fD2 g) := by
  intro E Hd al m H ws vs R Q s rv P k
  match ws, rv with
  | [w, w2], ⟨v, _, h1, h2, v2, _, h3, h4, h5⟩ =>
    subst h1 h3
    rw [show _ = [] from h5]
    unfold fD2 at P
    dsimp only at P
    split at P
    · rename_i x y hx hy
      split at P
      · rename_i z hz
        exact h _ H x y v v2 z Q (peek_ok s h2 hx) (peek_ok s h4 hy) hz fun v' rv' => k _ _ _ _ _ _ (P.ok s) ⟨rfl, rv'⟩
      · exact P.elim
    · exact P.elim
  | [], _ => exact P.elim
  | [_], _ => exact P.elim
  | _ :: _ :: _ :: _, _ => exact P.elim
theorem ca_N1 {g : D → Option (List D)} (h : ∀ (O : Addr → Prop) (H : Hp) x v ys (Q : VK), RepP X.K O H x v → g x = some ys → (∀ p vs, H p = none → RepDs X.K O H ys vs → Q (.ref p) (upd H p (.lst vs))) → r [v] H Q) : Ca X r (fN1 g) := by
  intro E Hd al m H ws vs R Q s rv P k
  match ws, rv with
  | [w], ⟨v, _, h1, h2, h3⟩ =>
    subst h1
    rw [show _ = [] from h3]
    unfold fN1 at P
    dsimp only at P
    split at P
    · rename_i x hx
      split at P
      · rename_i ys hy
        exact h _ H x v ys Q (peek_ok s h2 hx) hy fun p vs hp rv' => res_list s rv' hp P k
      · exact P.elim
    · exact P.elim
  | [], _ => exact P.elim
  | _ :: _ :: _, _ => exact P.elim
end

def lenD : D → Option D
  | .str y => if small y.length then some (.int (y.length : Nat)) else none
  | .list ds => some (.int (ds.length : Nat))
  | .tuple ds => some (.int (ds.length : Nat))
  | _ => none
theorem ca_len {X : Cx} : Ca X (fun xs H Q => ∃ x n, xs = [x] ∧ LenV X.K x H n ∧ Q (.int n) H) (fD1 lenD) := ca_D1 fun O H x v y Q rv e k => by
  cases x with
  | str z =>
    obtain ⟨c, e⟩ := ite_none e
    cases e; cases rv
    exact ⟨_, _, rfl, ⟨small_line c, rfl⟩, k _ rfl⟩
  | list ds => obtain ⟨a, vs, rfl, h1, h2⟩ := rv; cases e; exact ⟨_, _, rfl, .inl ⟨vs, .inl (.inl h1), rfl⟩, k _ (by rw [h2.len]; rfl)⟩
  | tuple ds => obtain ⟨a, vs, rfl, h1, h2⟩ := rv; cases e; exact ⟨_, _, rfl, .inr ⟨vs, h1, rfl⟩, k _ (by rw [h2.len]; rfl)⟩
  | _ => cases e
def absD : D → Option D
  | .int i => some (.int (if i < 0 then -i else i))
  | _ => none
theorem ca_abs {X : Cx} : Ca X (fun xs H Q => ∃ i, xs = [.int i] ∧ Q (.int (if i < 0 then -i else i)) H) (fD1 absD) := ca_D1 fun O H x v y Q rv e k => by
  cases x with
  | int i => cases e; cases rv; exact ⟨i, rfl, k _ rfl⟩
  | _ => cases e
def intD : D → Option D
  | .int i => some (.int i)
  | .bool b => some (.int (if b then 1 else 0))
  | _ => none
theorem ca_int {X : Cx} : Ca X (fun xs H Q => (∃ i, xs = [.int i] ∧ Q (.int i) H) ∨ ∃ k, xs = [.bl k] ∧ Q (.int (if k then 1 else 0)) H) (fD1 intD) := ca_D1 fun O H x v y Q rv e k => by
  cases x with
  | int i => cases e; cases rv; exact .inl ⟨i, rfl, k _ rfl⟩
  | bool b => cases e; cases rv; exact .inr ⟨b, rfl, k _ rfl⟩
  | _ => cases e
def boolD : D → Option D
  | .int i => some (.bool (i != 0))
  | .bool b => some (.bool b)
  | _ => none
theorem ca_bool {X : Cx} : Ca X (fun xs H Q => (∃ i, xs = [.int i] ∧ Q (.bl (i != 0)) H) ∨ ∃ k, xs = [.bl k] ∧ Q (.bl k) H) (fD1 boolD) := ca_D1 fun O H x v y Q rv e k => by
  cases x with
  | int i => cases e; cases rv; exact .inl ⟨i, rfl, k _ rfl⟩
  | bool b => cases e; cases rv; exact .inr ⟨b, rfl, k _ rfl⟩
  | _ => cases e
def maxD : D → D → Option D
  | .int i, .int j => some (.int (if j > i then j else i))
  | _, _ => none
def minD : D → D → Option D
  | .int i, .int j => some (.int (if j < i then j else i))
  | _, _ => none
theorem ca_max2 {X : Cx} : Ca X (fun xs H Q => ∃ i j, xs = [.int i, .int j] ∧ Q (.int (if j > i then j else i)) H) (fD2 maxD) := ca_D2 fun O H x y v v2 z Q rv rv2 e k => by
  cases x with
  | int i => cases y with
    | int j => cases e; cases rv; cases rv2; exact ⟨i, j, rfl, k _ rfl⟩
    | _ => cases e
  | _ => cases e
theorem ca_min2 {X : Cx} : Ca X (fun xs H Q => ∃ i j, xs = [.int i, .int j] ∧ Q (.int (if j < i then j else i)) H) (fD2 minD) := ca_D2 fun O H x y v v2 z Q rv rv2 e k => by
  cases x with
  | int i => cases y with
    | int j => cases e; cases rv; cases rv2; exact ⟨i, j, rfl, k _ rfl⟩
    | _ => cases e
  | _ => cases e
/-! lists of ints, of bools -/
def intsOf : List D → Option (List Int)
  | [] => some []
  | .int i :: ds => (match intsOf ds with | some ns => some (i :: ns) | none => none)
  | _ :: _ => none
def boolsOf : List D → Option (List Bool)
  | [] => some []
  | .bool i :: ds => (match boolsOf ds with | some ns => some (i :: ns) | none => none)
  | _ :: _ => none
theorem intsOf_eq : ∀ {ds : List D} {ns : List Int}, intsOf ds = some ns → ds = ns.map .int
  | [], _, h => by cases h; rfl
  | .int i :: ds, ns, h => by
    unfold intsOf at h
    split at h
    · rename_i ms hm; cases h; rw [intsOf_eq hm]; rfl
    · cases h
  | .none :: _, _, h => by cases h
  | .bool _ :: _, _, h => by cases h
  | .str _ :: _, _, h => by cases h
  | .list _ :: _, _, h => by cases h
  | .tuple _ :: _, _, h => by cases h
  | .dict _ :: _, _, h => by cases h
theorem intsOf_map : ∀ ns : List Int, intsOf (ns.map .int) = some ns
  | [] => rfl
  | n :: ns => by rw [List.map_cons]; unfold intsOf; rw [intsOf_map ns]
theorem boolsOf_eq : ∀ {ds : List D} {ns : List Bool}, boolsOf ds = some ns → ds = ns.map .bool
  | [], _, h => by cases h; rfl
  | .bool i :: ds, ns, h => by
    unfold boolsOf at h
    split at h
    · rename_i ms hm; cases h; rw [boolsOf_eq hm]; rfl
    · cases h
  | .none :: _, _, h => by cases h
  | .int _ :: _, _, h => by cases h
  | .str _ :: _, _, h => by cases h
  | .list _ :: _, _, h => by cases h
  | .tuple _ :: _, _, h => by cases h
  | .dict _ :: _, _, h => by cases h
theorem boolsOf_map : ∀ ns : List Bool, boolsOf (ns.map .bool) = some ns
  | [] => rfl
  | n :: ns => by rw [List.map_cons]; unfold boolsOf; rw [boolsOf_map ns]
theorem repDs_ints {K : PySem.W.Frag} {O : Addr → Prop} {H : Hp} : ∀ {ns : List Int} {vs : List V}, RepDs K O H (ns.map .int) vs → vs = ns.map V.int
  | [], _, h => h
  | n :: ns, _, ⟨v, r, h1, h2, h3⟩ => by rw [h1, repDs_ints h3, show v = _ from h2]; rfl
theorem repDs_bools {K : PySem.W.Frag} {O : Addr → Prop} {H : Hp} : ∀ {ns : List Bool} {vs : List V}, RepDs K O H (ns.map .bool) vs → vs = ns.map V.bl
  | [], _, h => h
  | n :: ns, _, ⟨v, r, h1, h2, h3⟩ => by rw [h1, repDs_bools h3, show v = _ from h2]; rfl
theorem ints_repDs {K : PySem.W.Frag} {O : Addr → Prop} {H : Hp} : ∀ (ns : List Int), RepDs K O H (ns.map .int) (ns.map V.int)
  | [] => rfl
  | n :: ns => ⟨_, _, rfl, rfl, ints_repDs ns⟩
def sumD : D → Option D
  | .list ds => (match intsOf ds with | some ns => some (.int ns.sum) | none => none)
  | _ => none
def allD : D → Option D
  | .list ds => (match boolsOf ds with | some ns => some (.bool (ns.all id)) | none => none)
  | _ => none
def anyD : D → Option D
  | .list ds => (match boolsOf ds with | some ns => some (.bool (ns.any id)) | none => none)
  | _ => none
theorem ca_sum {X : Cx} : Ca X (rSum X.K) (fD1 sumD) := ca_D1 fun O H x v y Q rv e k => by
  cases x with
  | list ds =>
    obtain ⟨a, vs, rfl, h1, h2⟩ := rv
    unfold sumD at e
    dsimp only at e
    split at e
    · rename_i ns hn
      cases e
      rw [intsOf_eq hn] at h2
      rw [repDs_ints h2] at h1
      exact ⟨a, ns, rfl, .inl (.inl h1), k _ rfl⟩
    · cases e
  | _ => cases e
theorem ca_all {X : Cx} : Ca X (rAll X.K) (fD1 allD) := ca_D1 fun O H x v y Q rv e k => by
  cases x with
  | list ds =>
    obtain ⟨a, vs, rfl, h1, h2⟩ := rv
    unfold allD at e
    dsimp only at e
    split at e
    · rename_i ns hn
      cases e
      rw [boolsOf_eq hn] at h2
      rw [repDs_bools h2] at h1
      exact ⟨a, ns, rfl, .inl (.inl h1), k _ rfl⟩
    · cases e
  | _ => cases e
theorem ca_any {X : Cx} : Ca X (rAny X.K) (fD1 anyD) := ca_D1 fun O H x v y Q rv e k => by
  cases x with
  | list ds =>
    obtain ⟨a, vs, rfl, h1, h2⟩ := rv
    unfold anyD at e
    dsimp only at e
    split at e
    · rename_i ns hn
      cases e
      rw [boolsOf_eq hn] at h2
      rw [repDs_bools h2] at h1
      exact ⟨a, ns, rfl, .inl (.inl h1), k _ rfl⟩
    · cases e
  | _ => cases e
/-! max, min of a list of ints -/
def maxI : List Int → Int
  | [] => 0
  | [x] => x
  | x :: xs => max x (maxI xs)
def minI : List Int → Int
  | [] => 0
  | [x] => x
  | x :: xs => min x (minI xs)
theorem maxI_ok : ∀ {xs : List Int}, xs ≠ [] → maxI xs ∈ xs ∧ ∀ y ∈ xs, y ≤ maxI xs
  | [], h => absurd rfl h
  | [x], _ => ⟨by simp [maxI], by intro y hy; simp at hy; simp [maxI, hy]⟩
  | x :: z :: xs, _ => by
    obtain ⟨h1, h2⟩ := maxI_ok (xs := z :: xs) (by simp)
    refine ⟨?_, fun y hy => ?_⟩
    · show max x (maxI (z :: xs)) ∈ x :: z :: xs
      rcases Int.le_total x (maxI (z :: xs)) with q | q
      · rw [Int.max_eq_right q]; exact List.mem_cons_of_mem _ h1
      · rw [Int.max_eq_left q]; exact List.mem_cons_self
    · show y ≤ max x (maxI (z :: xs))
      rcases List.mem_cons.mp hy with rfl | hy
      · omega
      · have := h2 y hy; omega
theorem minI_ok : ∀ {xs : List Int}, xs ≠ [] → minI xs ∈ xs ∧ ∀ y ∈ xs, minI xs ≤ y
  | [], h => absurd rfl h
  | [x], _ => ⟨by simp [minI], by intro y hy; simp at hy; simp [minI, hy]⟩
  | x :: z :: xs, _ => by
    obtain ⟨h1, h2⟩ := minI_ok (xs := z :: xs) (by simp)
    refine ⟨?_, fun y hy => ?_⟩
    · show min x (minI (z :: xs)) ∈ x :: z :: xs
      rcases Int.le_total x (minI (z :: xs)) with q | q
      · rw [Int.min_eq_left q]; exact List.mem_cons_self
      · rw [Int.min_eq_right q]; exact List.mem_cons_of_mem _ h1
    · show min x (minI (z :: xs)) ≤ y
      rcases List.mem_cons.mp hy with rfl | hy
      · omega
      · have := h2 y hy; omega
def maxLD : D → Option D
  | .list ds => (match intsOf ds with | some (n :: ns) => some (.int (maxI (n :: ns))) | _ => none)
  | _ => none
def minLD : D → Option D
  | .list ds => (match intsOf ds with | some (n :: ns) => some (.int (minI (n :: ns))) | _ => none)
  | _ => none
theorem ca_maxL {X : Cx} : Ca X (rMax X.K) (fD1 maxLD) := ca_D1 fun O H x v y Q rv e k => by
  cases x with
  | list ds =>
    obtain ⟨a, vs, rfl, h1, h2⟩ := rv
    unfold maxLD at e
    dsimp only at e
    split at e
    · rename_i n ns hn
      cases e
      rw [intsOf_eq hn] at h2
      rw [repDs_ints h2] at h1
      refine ⟨a, n :: ns, rfl, .inl (.inl h1), by simp, fun m hm hle => ?_⟩
      obtain ⟨g1, g2⟩ := maxI_ok (xs := n :: ns) (by simp)
      have e1 : m = maxI (n :: ns) := Int.le_antisymm (g2 m hm) (hle _ g1)
      rw [e1]
      exact k _ rfl
    · cases e
  | _ => cases e
theorem ca_minL {X : Cx} : Ca X (rMin X.K) (fD1 minLD) := ca_D1 fun O H x v y Q rv e k => by
  cases x with
  | list ds =>
    obtain ⟨a, vs, rfl, h1, h2⟩ := rv
    unfold minLD at e
    dsimp only at e
    split at e
    · rename_i n ns hn
      cases e
      rw [intsOf_eq hn] at h2
      rw [repDs_ints h2] at h1
      refine ⟨a, n :: ns, rfl, .inl (.inl h1), by simp, fun m hm hle => ?_⟩
      obtain ⟨g1, g2⟩ := minI_ok (xs := n :: ns) (by simp)
      have e1 : m = minI (n :: ns) := Int.le_antisymm (hle _ g1) (g2 m hm)
      rw [e1]
      exact k _ rfl
    · cases e
  | _ => cases e
/-! tuple(x), list(x) -/
/-- tuple(x): a new tuple, or x -/
def fTup : List W → Mem → Rs W
  | [w], m => (match peek m w with | some (.list ds) => .ok (.d (.tuple ds)) m | some (.tuple ds) => .ok (.d (.tuple ds)) m | _ => .no)
  | _, _ => .no
theorem ca_tup {X : Cx} : Ca X (fun xs H Q => ∃ p ys, xs = [.ref p] ∧ ((SqL X.K H p ys ∧ ∀ l, H l = none → Q (.ref l) (upd H l (.tup ys))) ∨ (SqT X.K H p ys ∧ Q (.ref p) H))) fTup := by
  intro E Hd al m H ws vs R Q s rv P k
  match ws, rv with
  | [w], ⟨v, _, h1, h2, h3⟩ =>
    subst h1
    rw [show _ = [] from h3]
    unfold fTup at P
    dsimp only at P
    split at P
    · rename_i ds hx
      obtain ⟨a, vs, rfl, g1, g2⟩ := peek_ok s h2 hx
      exact ⟨a, vs, rfl, .inl ⟨.inl (.inl g1), fun l hl => res_tup s g2 hl P k⟩⟩
    · rename_i ds hx
      obtain ⟨a, vs, rfl, g1, g2⟩ := peek_ok s h2 hx
      exact ⟨a, vs, rfl, .inr ⟨g1, res_d s P ⟨a, vs, rfl, g1, g2⟩ k⟩⟩
    · exact P.elim
  | [], _ => exact P.elim
  | _ :: _ :: _, _ => exact P.elim
def listD : D → Option (List D)
  | .list ds => some ds
  | .tuple ds => some ds
  | _ => none
theorem ca_list {X : Cx} : Ca X (fun xs H Q => ∃ p ys, xs = [.ref p] ∧ (SqL X.K H p ys ∨ SqT X.K H p ys) ∧ ∀ l, H l = none → Q (.ref l) (upd H l (.lst ys))) (fN1 listD) := ca_N1 fun O H x v ys Q rv e k => by
  cases x with
  | list ds => cases e; obtain ⟨a, vs, rfl, g1, g2⟩ := rv; exact ⟨a, vs, rfl, .inl (.inl (.inl g1)), fun l hl => k l vs hl g2⟩
  | tuple ds => cases e; obtain ⟨a, vs, rfl, g1, g2⟩ := rv; exact ⟨a, vs, rfl, .inr g1, fun l hl => k l vs hl g2⟩
  | _ => cases e
end Den
/-! Den9: subscripts, slices, methods of lists, stores in lists. -/
namespace Den
open PySem PySem.Spec PyProof.Rows L2

/-! ### a[b] -/
def ixD : D → D → Option D
  | .list ds, .int i => atI ds i
  | .tuple ds, .int i => atI ds i
  | .str z, .int i => if small z.length then (match atI z.cps.toList i with | some c => some (.str ⟨#[c]⟩) | none => none) else none
  | _, _ => none
def fIx (w w2 : W) (m : Mem) : Rs W := match peek m w, peek m w2 with | some x, some y => (match ixD x y with | some z => .ok (.d z) m | none => .no) | _, _ => .no
def mIx (a b : EM W) : EM W := mOp2 a b fIx
theorem atI_rep {K : PySem.W.Frag} {O : Addr → Prop} {H : Hp} {ds : List D} {vs : List V} {i : Int} {z : D} (h : RepDs K O H ds vs) (e : atI ds i = some z) : ∃ v, atI vs i = some v ∧ RepD K O H z v := by
  unfold atI at e ⊢
  rw [h.len]
  cases hj : ixN ds.length i with
  | none => rw [hj] at e; cases e
  | some j =>
    rw [hj] at e
    obtain ⟨v, h1, h2⟩ := h.get e
    exact ⟨v, h1, h2⟩
theorem bi_ix {X : Cx} : Bi2 X (rIx X.K) fIx := by
  intro E Hd al m H w v w2 v2 R Q s r1 r2 P k
  unfold fIx at P
  split at P
  · rename_i x y hx hy
    have rx := peek_ok s r1 hx
    have ry := peek_ok s r2 hy
    split at P
    · rename_i z hz
      cases y with
      | int i =>
        cases ry
        cases x with
        | list ds =>
          obtain ⟨a, vs, rfl, g1, g2⟩ := rx
          obtain ⟨u, h1, h2⟩ := atI_rep g2 hz
          exact .inl ⟨a, vs, i, u, rfl, rfl, .inl (.inl g1), h1, res_d s P h2 k⟩
        | tuple ds =>
          obtain ⟨a, vs, rfl, g1, g2⟩ := rx
          obtain ⟨u, h1, h2⟩ := atI_rep g2 hz
          exact .inr (.inl ⟨a, vs, i, u, rfl, rfl, g1, h1, res_d s P h2 k⟩)
        | str t =>
          cases rx
          unfold ixD at hz
          dsimp only at hz
          split at hz
          · rename_i c
            split at hz
            · rename_i u hu
              cases hz
              exact .inr (.inr ⟨t, i, u, rfl, rfl, small_line c, hu, res_d s P rfl k⟩)
            · cases hz
          · cases hz
        | _ => cases hz
      | _ => cases x <;> cases hz
    · exact P.elim
  · exact P.elim
section
variable {X : Cx} {E : St → XK} {ea eb : Expr} {a b : EM W} {pos : Pos}
theorem den_ix (ha : Den X E ea a) (hb : Den X E eb b) (hs : PlainIx eb := by exact fun _ _ => rfl) : Den X E (.Subscript ea eb pos) (mIx a b) := PE.imp (pe_ix ix_seq ha hb hs) fun _ _ _ q => tM_op bi_ix q
end

/-! ### a[lo:hi] -/
def tO (K : PySem.W.Frag) (mg : Str → Option Value) (E : St → XK) (c : EM (Option Int)) : TO := fun σ H Q => ∃ Hd al rho m, Stt K Hd al none H m ∧ EnvOk K mg (Own Hd al m none) al H rho σ ∧
  Post K mg Hd al m H (E σ) (c rho m) fun o al' p m' H' => p = none → Q o H'
abbrev DenO (X : Cx) (E : St → XK) (e : Option Expr) (c : EM (Option Int)) : Prop := PO X e (tO X.K X.mg E c)
def oNone : EM (Option Int) := fun _ m => .ok none m
def oSome (a : EM W) : EM (Option Int) := fun rho m => (a rho m).bindV fun w m1 => match w with | .d (.int i) => .ok (some i) m1 | _ => .no
theorem PO.imp {X : Cx} {e : Option Expr} {t t' : TO} (h : PO X e t) (k : ∀ σ H Q, t' σ H Q → t σ H Q) : PO X e t' := ⟨fun pins s σ H Q I q => h.run pins s σ H Q I (k σ H Q q)⟩
def cutD {α : Type} (xs : List α) (lo hi : Option Int) : List α := (xs.drop (HT.sIx xs.length 0 lo)).take (HT.sIx xs.length xs.length hi - HT.sIx xs.length 0 lo)
def fSl (w : W) (lo hi : Option Int) (m : Mem) : Rs W := match peek m w with
  | some (.list ds) => .ok (.n (.list (cutD ds lo hi))) m
  | some (.tuple ds) => .ok (.d (.tuple (cutD ds lo hi))) m
  | some (.str z) => if small z.length then .ok (.d (.str ⟨(cutD z.cps.toList lo hi).toArray⟩)) m else .no
  | _ => .no
def mSl (a : EM W) (lo hi : EM (Option Int)) : EM W := fun rho m => (a rho m).bindV fun w m1 => (lo rho m1).bind fun l m2 => (hi rho m2).bind fun h m3 => fSl w l h m3
theorem RepDs.cut {K : PySem.W.Frag} {O : Addr → Prop} {H : Hp} {ds : List D} {vs : List V} (h : RepDs K O H ds vs) (lo hi : Option Int) : RepDs K O H (cutD ds lo hi) (cutV vs lo hi) := by
  unfold cutD cutV
  rw [h.len]
  exact (h.drop _).take _
section
variable {X : Cx} {E : St → XK} {ea eb : Expr} {a b : EM W} {pos : Pos} {lo hi : Option Expr} {l h : EM (Option Int)}
theorem do_none : DenO X E none oNone := PO.imp po_none fun σ H Q q => by
  obtain ⟨Hd, al, rho, m, s, e, P⟩ := q
  exact Post.ok s P rfl
theorem do_some (ha : Den X E ea a) : DenO X E (some ea) (oSome a) := PO.imp (po_some ha) fun σ H Q q => by
  obtain ⟨Hd, al, rho, m, s, e, P⟩ := q
  refine ⟨Hd, al, rho, m, s, e, (Post.bindV P).imp fun w al1 p1 m1 H1 g s1 k v rv => ?_⟩
  obtain ⟨g1, s1', rv1, P1⟩ := k v rv
  split at P1
  · rename_i i hw
    rw [hw] at rv1
    exact ⟨i, rv1.2, (P1.ok s1') rfl⟩
  · exact P1.elim
theorem den_sl {p2 : Pos} (ha : Den X E ea a) (hl : DenO X E lo l) (hh : DenO X E hi h) : Den X E (.Subscript ea (.Slice lo hi none p2) pos) (mSl a l h) := PE.imp (pe_slice (sl_list.or (sl_tupA.or sl_str)) ha hl hh) fun σ H Q q => by
  obtain ⟨Hd, al, rho, m, s, e, P⟩ := q
  refine ⟨Hd, al, rho, m, s, e, (Post.bindV P).imp fun w al1 p1 m1 H1 g s1 k v rv => ?_⟩
  obtain ⟨g1, s1', rv1, P1⟩ := k v rv
  refine ⟨Hd, al1, rho, m1, s1', e.go g1, (Post.bind P1).imp fun l al2 p2 m2 H2 g2 s2 k2 hp2 => ?_⟩
  subst hp2
  have P2 := k2 rfl
  refine ⟨Hd, al2, rho, m2, s2, (e.go g1).go g2, (Post.bind P2).imp fun h al3 p3 m3 H3 g3 s3 k3 hp3 => ?_⟩
  subst hp3
  have P3 := k3 rfl
  have rv3 := (rv1.go g2).go g3
  unfold fSl at P3
  split at P3
  · rename_i ds hx
    obtain ⟨a, vs, rfl, q1, q2⟩ := peek_ok s3 rv3 hx
    exact .inl ⟨a, vs, rfl, .inl (.inl q1), fun p hp => res_list s3 (q2.cut l h) hp P3 fun w' al' p m' H' v' q' => q' v'⟩
  · rename_i ds hx
    obtain ⟨a, vs, rfl, q1, q2⟩ := peek_ok s3 rv3 hx
    refine .inr (.inl ⟨a, vs, rfl, q1, fun hw => ?_, fun _ p hp => res_tup s3 (q2.cut l h) hp P3 fun w' al' p m' H' v' q' => q' v'⟩)
    have e1 : cutD ds l h = ds := by
      unfold cutD
      rw [q2.len] at hw
      rw [hw.1, hw.2, List.drop_zero, Nat.sub_zero, List.take_length]
    rw [e1] at P3
    exact (P3.ok s3) _ ⟨rfl, a, vs, rfl, q1, q2⟩
  · rename_i z hx
    have := peek_ok s3 rv3 hx
    cases this
    split at P3
    · rename_i hz
      refine .inr (.inr ⟨z, rfl, small_line hz, ?_⟩)
      have e1 : (⟨(cutD z.cps.toList l h).toArray⟩ : Str) = cutS z l h := by
        unfold cutD cutS
        have : z.cps.toList.length = z.length := by simp [Str.length]
        rw [this]
      rw [← e1]
      exact (P3.ok s3) _ ⟨rfl, rfl⟩
    · exact P3.elim
  · exact P3.elim
end

/-! ### a mutable list is written -/
section
variable {K : PySem.W.Frag} {mg : Str → Option Value} {Hd : Addr → Prop} {al : List Addr} {m : Mem} {H : Hp} {E : XK} {n : Nat} {a : Addr} {x y : D} {o : HO}
theorem live_put (hx : m[n]? = some (some x)) {r : Nat} : Live (m.set n (some y)) r ↔ Live m r := by
  obtain ⟨hn, _⟩ := List.getElem?_eq_some_iff.mp hx
  by_cases e : n = r
  · subst e
    exact ⟨fun _ => ⟨x, hx⟩, fun _ => ⟨y, by rw [List.getElem?_set_self hn]⟩⟩
  · unfold Live
    rw [List.getElem?_set_ne e]
theorem own_put (hx : m[n]? = some (some x)) {b : Addr} : Own Hd al (m.set n (some y)) none b ↔ Own Hd al m none b := by
  unfold Own
  exact ⟨fun h => h.imp (fun ⟨r, h1, h2⟩ => ⟨r, h1, (live_put hx).mp h2⟩) id, fun h => h.imp (fun ⟨r, h1, h2⟩ => ⟨r, h1, (live_put hx).mpr h2⟩) id⟩
theorem go_put (s : Stt K Hd al none H m) (ha : al[n]? = some a) (hx : m[n]? = some (some x)) : Go Hd al m none H al (m.set n (some y)) none (upd H a o) where
  ext := by
    obtain ⟨u, hu, hm⟩ := (s.ob n a x ha hx).some
    refine ⟨fun b vs h => ?_, fun b ob u h => ?_, fun b ob h nb => ?_, fun b z => .inl ((own_put hx).mp z)⟩
    · by_cases e : b = a
      · subst e; rw [hu] at h; cases h; exact hm.elim
      · rw [upd_ne e]; exact h
    · by_cases e : b = a
      · subst e; rw [hu] at h; cases h; exact hm.elim
      · rw [upd_ne e]; exact h
    · by_cases e : b = a
      · subst e; exact (nb (.inl ⟨n, ha, x, hx⟩)).elim
      · rw [upd_ne e]; exact h
  pre := fun _ _ h => h
  hid := fun b ob hb h => by
    have : b ≠ a := fun e => by subst e; exact (s.hin b hb).2.2 n ⟨x, hx⟩ ha
    rw [upd_ne this]; exact h
theorem stt_put (s : Stt K Hd al none H m) (ha : al[n]? = some a) (hx : m[n]? = some (some x)) (hy : ObOk K (Own Hd al (m.set n (some y)) none) (upd H a o) y a) : Stt K Hd al none (upd H a o) (m.set n (some y)) where
  len := by rw [List.length_set]; exact s.len
  ob := fun r b z h1 h2 => by
    obtain ⟨hn, _⟩ := List.getElem?_eq_some_iff.mp hx
    by_cases e : n = r
    · subst e
      rw [List.getElem?_set_self hn] at h2
      rw [ha] at h1
      cases h1; cases h2
      exact hy
    · rw [List.getElem?_set_ne e] at h2
      have : b ≠ a := fun eb => by subst eb; exact e (s.inj n r b ha h1 ⟨x, hx⟩ ⟨z, h2⟩)
      exact (s.ob r b z h1 h2).stay (go_put s ha hx).ext (upd_ne this)
  inj := fun r r' b h1 h2 h3 h4 => s.inj r r' b h1 h2 ((live_put hx).mp h3) ((live_put hx).mp h4)
  pnd := fun _ _ h => nomatch h
  hin := fun b hb => by
    obtain ⟨⟨u, hu⟩, h2, h3⟩ := s.hin b hb
    exact ⟨⟨u, (go_put (y := y) (o := o) s ha hx).hid b u hb hu⟩, h2, fun r h => h3 r ((live_put hx).mp h)⟩
/-- a list is written with other items -/
theorem put_list {ds : List D} {vs : List V} (s : Stt K Hd al none H m) (ha : al[n]? = some a) (hx : m[n]? = some (some x)) (h : RepDs K (Own Hd al m none) H ds vs) :
    Go Hd al m none H al (m.set n (some (.list ds))) none (upd H a (.lst vs)) ∧ Stt K Hd al none (upd H a (.lst vs)) (m.set n (some (.list ds))) :=
  have g := go_put (y := .list ds) (o := .lst vs) s ha hx
  ⟨g, stt_put s ha hx ⟨vs, upd_same, h.ext g.ext⟩⟩
end

/-! ### methods -/
/-- a rule for a method by values -/
def Cm (X : Cx) (r : V → List V → Hp → VK → Prop) (f : W → List W → Mem → Rs W) : Prop := ∀ (E : XK) Hd al m H w v ws vs (R : W → List Addr → Option Addr → Mem → Hp → Prop) (Q : VK), Stt X.K Hd al none H m → RepW X.K X.mg (Own Hd al m none) none al H w v → RepWs X.K X.mg (Own Hd al m none) al H ws vs →
  Post X.K X.mg Hd al m H E (f w ws m) R → (∀ w' al' p m' H' v', R w' al' p m' H' → RepW X.K X.mg (Own Hd al' m' p) p al' H' w' v' → Q v' H') → r v vs H Q
/-- the type of what a method is called on -/
inductive Kd where
  | lst | str | dct | int
def Kd.nm : Kd → String
  | .lst => "list" | .str => "str" | .dct => "dict" | .int => "int"
def Kd.ok : Kd → D → Bool
  | .lst, .list _ => true
  | .str, .str _ => true
  | .dct, .dict _ => true
  | .int, .int _ => true
  | _, _ => false
theorem Kd.ty {K : PySem.W.Frag} {O : Addr → Prop} {H : Hp} {T : Kd} {x : D} {v : V} (h : RepP K O H x v) (e : T.ok x = true) : tyV K T.nm v H := by
  cases T <;> cases x <;> first | (cases e; done) | skip
  · obtain ⟨a, vs, rfl, h1, _⟩ := h; exact .inl ⟨rfl, vs, .inl (.inl h1)⟩
  · cases h; exact rfl
  · obtain ⟨a, rfl, h⟩ := h
    refine .inr (.inr (.inl ⟨rfl, ?_⟩))
    rcases h with ⟨kz, h, _⟩ | ⟨kz, h, _⟩
    · exact .inl ⟨kz, h⟩
    · exact .inr ⟨kz, h⟩
  · cases h; exact rfl
def mM (T : Kd) (o : EM W) (c : EM (List W)) (f : W → List W → Mem → Rs W) : EM W := fun rho m => (o rho m).bindV fun w m1 => match peek m1 w with
  | some x => if T.ok x then (c rho m1).bind fun ws m2 => f w ws m2 else .no
  | none => .no
section
variable {X : Cx} {E : St → XK} {r : V → List V → Hp → VK → Prop} {f : W → List W → Mem → Rs W} {T : Kd} {id : String} {name : Str} {apos cpos : Pos} {o e : Expr} {es : List Expr} {a : EM W} {c : EM (List W)}
theorem tM_m (h : Cm X r f) {σ : St} {H : Hp} {Q : VK} (q : tM X.K X.mg E (mM T a c f) σ H Q) : tBM X.K T.nm r (tM X.K X.mg E a) (tA X.K X.mg E c) σ H Q := by
  obtain ⟨Hd, al, rho, m, s, e, P⟩ := q
  refine ⟨Hd, al, rho, m, s, e, (Post.bindV P).imp fun w al1 p1 m1 H1 g s1 k v rv => ?_⟩
  obtain ⟨g1, s1', rv1, P1⟩ := k v rv
  split at P1
  · rename_i x hx
    split at P1
    · rename_i hT
      refine ⟨Kd.ty (peek_ok s1' rv1 hx) hT, Hd, al1, rho, m1, s1', e.go g1, (Post.bind P1).imp fun ws al2 p2 m2 H2 g2 s2 k2 hp2 vs rvs => ?_⟩
      subst hp2
      exact h _ _ _ _ _ _ _ _ _ _ Q s2 (rv1.go g2) rvs (k2 rfl) fun w' al' p m' H' v' q' => q' v'
    · exact P1.elim
  · exact P1.elim
theorem tM_m0 (h : Cm X r f) {σ : St} {H : Hp} {Q : VK} (q : tM X.K X.mg E (mM T a mNil f) σ H Q) : tBM0 X.K T.nm r (tM X.K X.mg E a) σ H Q := by
  obtain ⟨Hd, al, rho, m, s, e, P⟩ := q
  refine ⟨Hd, al, rho, m, s, e, (Post.bindV P).imp fun w al1 p1 m1 H1 g s1 k v rv => ?_⟩
  obtain ⟨g1, s1', rv1, P1⟩ := k v rv
  split at P1
  · rename_i x hx
    split at P1
    · rename_i hT
      exact ⟨Kd.ty (peek_ok s1' rv1 hx) hT, h _ _ _ _ _ _ _ [] [] _ Q s1' rv1 rfl P1 fun w' al' p m' H' v' q' => q' v'⟩
    · exact P1.elim
  · exact P1.elim
theorem den_m (h : Cm X r f) (pa : PlainAttrs T.nm) (slot : Slot T.nm name id) (hty : typeOf (.builtin id) = pure (.type "method_descriptor")) (hm : MtR X id r) (ho : Den X E o a) (ha : DenA X E (e :: es) c)
    (hbase : attributeBase o name X.env (eval o X.env) = eval o X.env := by rfl)
    (hfew : ((backTo cpos (starEach (e :: es) X.env)).all (fun x => !x.1) && (backToKw cpos (keywordEach [] X.env)).all (fun x => x.1.isSome)
      && decide ((e :: es).length + ([] : List Keyword).length + (if ([] : List Keyword).isEmpty then 0 else 1) < 30)) = true := by rfl)
    (hline : (apos.endLine == cpos.line) = true := by rfl) (hs : starEach (e :: es) X.env = (false, eval e X.env) :: starEach es X.env := by rfl) (hplain : (backTo cpos (starEach es X.env)).any (·.1) = false := by rfl) :
    Den X E (.Call (.Attribute o name apos) (e :: es) [] cpos) (mM T a c f) := PE.imp (pe_bm pa slot hty hm ho ha hbase hfew hline hs hplain) fun _ _ _ q => tM_m h q
theorem den_m0 (h : Cm X r f) (pa : PlainAttrs T.nm) (slot : Slot T.nm name id) (hty : typeOf (.builtin id) = pure (.type "method_descriptor")) (hm : MtR X id r) (ho : Den X E o a)
    (hbase : attributeBase o name X.env (eval o X.env) = eval o X.env := by rfl) (hline : (apos.endLine == cpos.line) = true := by rfl) :
    Den X E (.Call (.Attribute o name apos) [] [] cpos) (mM T a mNil f) := PE.imp (pe_bm0 pa slot hty hm ho hbase hline) fun _ _ _ q => tM_m0 h q
end
def fAppend : W → List W → Mem → Rs W
  | .r n, [w], m => (match frz m w with
    | some (x, m1) => (match m1[n]? with | some (some (.list ds)) => if small (ds.length + 1) then .ok (.d .none) (m1.set n (some (.list (ds ++ [x])))) else .no | _ => .no)
    | none => .no)
  | _, _, _ => .no
theorem repWs1 {K : PySem.W.Frag} {mg : Str → Option Value} {O : Addr → Prop} {al : List Addr} {H : Hp} {w : W} {vs : List V} (h : RepWs K mg O al H [w] vs) : ∃ v, vs = [v] ∧ RepW K mg O none al H w v := by
  obtain ⟨v, r, h1, h2, h3⟩ := h
  rw [show r = [] from h3] at h1
  exact ⟨v, h1, h2⟩
theorem cm_append {X : Cx} : Cm X rAppend fAppend := by
  intro E Hd al m H w v ws vs R Q s r1 r2 P k
  unfold fAppend at P
  split at P
  · rename_i n w1 
    obtain ⟨u, rfl, ru⟩ := repWs1 r2
    split at P
    · rename_i x m1 hx
      obtain ⟨s1, g1, rx⟩ := frz_ok s ru hx
      split at P
      · rename_i ds hd
        split at P
        · rename_i hz
          obtain ⟨a, ha, rfl⟩ := r1.2
          obtain ⟨us, h2, h3⟩ := s1.ob n a _ ha hd
          obtain ⟨g2, s2⟩ := put_list s1 ha hd (h3.append (show RepDs X.K _ H [x] [u] from ⟨u, [], rfl, rx, rfl⟩))
          refine ⟨a, us, u, rfl, rfl, h2, by have := small_line hz; rw [h3.len]; omega, k _ _ _ _ _ _ (P al none _ (g1.trans g2) s2) ⟨rfl, rfl⟩⟩
        · exact P.elim
      · exact P.elim
    · exact P.elim
  · exact P.elim
def fExtend : W → List W → Mem → Rs W
  | .r n, [w], m => (match peek m w with
    | some (.list xs) => (match frz m w with
      | some (_, m1) => (match m1[n]? with | some (some (.list ds)) => if small (ds.length + xs.length) then .ok (.d .none) (m1.set n (some (.list (ds ++ xs)))) else .no | _ => .no)
      | none => .no)
    | _ => .no)
  | _, _, _ => .no
theorem frz_peek {m m1 : Mem} {w : W} {x y : D} (h : frz m w = some (x, m1)) (h2 : peek m w = some y) : x = y := by
  cases w with
  | d z => cases h; cases h2; rfl
  | n z => cases h; cases h2; rfl
  | f z => cases h
  | s z => cases h
  | e z => cases h
  | r n =>
    unfold frz at h
    dsimp only at h
    split at h
    · rename_i z hz
      cases h
      unfold peek at h2
      dsimp only at h2
      rw [hz] at h2
      cases h2; rfl
    · cases h
theorem cm_extend {X : Cx} : Cm X rExtend fExtend := by
  intro E Hd al m H w v ws vs R Q s r1 r2 P k
  unfold fExtend at P
  split at P
  · rename_i n w1 
    obtain ⟨u, rfl, ru⟩ := repWs1 r2
    split at P
    · rename_i xs hp
      split at P
      · rename_i x m1 hx
        obtain ⟨s1, g1, rx⟩ := frz_ok s ru hx
        have e0 := frz_peek hx hp
        subst e0
        obtain ⟨b, zs, rfl, hb, hzs⟩ := rx
        split at P
        · rename_i ds hd
          split at P
          · rename_i hz
            obtain ⟨a, ha, rfl⟩ := r1.2
            obtain ⟨us, h2, h3⟩ := s1.ob n a _ ha hd
            obtain ⟨g2, s2⟩ := put_list s1 ha hd (h3.append hzs)
            exact ⟨a, b, us, zs, rfl, rfl, h2, hb.1, by have := small_line hz; rw [h3.len, hzs.len]; omega, k _ _ _ _ _ _ (P al none _ (g1.trans g2) s2) ⟨rfl, rfl⟩⟩
          · exact P.elim
        · exact P.elim
      · exact P.elim
    · exact P.elim
  · exact P.elim
def fPop : W → List W → Mem → Rs W
  | .r n, [], m => (match m[n]? with | some (some (.list ds)) => (match ds[ds.length - 1]? with | some x => .ok (.d x) (m.set n (some (.list ds.dropLast))) | none => .no) | _ => .no)
  | _, _, _ => .no
theorem RepDs.dropLast {K : PySem.W.Frag} {O : Addr → Prop} {H : Hp} {ds : List D} {vs : List V} (h : RepDs K O H ds vs) : RepDs K O H ds.dropLast vs.dropLast := by
  rw [List.dropLast_eq_take, List.dropLast_eq_take, h.len]
  exact h.take _
theorem cm_pop {X : Cx} : Cm X rPop fPop := by
  intro E Hd al m H w v ws vs R Q s r1 r2 P k
  unfold fPop at P
  split at P
  · rename_i n
    have e0 : vs = [] := r2
    subst e0
    split at P
    · rename_i ds hd
      split at P
      · rename_i x hx
        obtain ⟨a, ha, rfl⟩ := r1.2
        obtain ⟨us, h2, h3⟩ := s.ob n a _ ha hd
        obtain ⟨u, hu, ru⟩ := h3.get hx
        obtain ⟨g2, s2⟩ := put_list s ha hd h3.dropLast
        exact ⟨a, us, u, rfl, rfl, h2, by rw [h3.len]; exact hu, k _ _ _ _ _ _ (P al none _ g2 s2) ⟨rfl, ru.ext g2.ext⟩⟩
      · exact P.elim
    · exact P.elim
  · exact P.elim
def fPopAt : W → List W → Mem → Rs W
  | .r n, [.d (.int i)], m => (match m[n]? with | some (some (.list ds)) => (match ixN ds.length i with
      | some j => (match ds[j]? with | some x => if small ds.length then .ok (.d x) (m.set n (some (.list (ds.eraseIdx j)))) else .no | none => .no) | none => .no) | _ => .no)
  | _, _, _ => .no
theorem RepDs.erase {K : PySem.W.Frag} {O : Addr → Prop} {H : Hp} : ∀ {ds : List D} {vs : List V} (j : Nat), RepDs K O H ds vs → RepDs K O H (ds.eraseIdx j) (vs.eraseIdx j)
  | [], _, _, h => by rw [show _ = [] from h]; exact rfl
  | x :: ds, _, 0, ⟨v, r, h1, h2, h3⟩ => by subst h1; exact h3
  | x :: ds, _, j + 1, ⟨v, r, h1, h2, h3⟩ => by subst h1; exact ⟨v, _, rfl, h2, RepDs.erase j h3⟩
theorem cm_popAt {X : Cx} : Cm X rPopAt fPopAt := by
  intro E Hd al m H w v ws vs R Q s r1 r2 P k
  unfold fPopAt at P
  split at P
  · rename_i n i
    obtain ⟨u0, rfl, ru0⟩ := repWs1 r2
    split at P
    · rename_i ds hd
      split at P
      · rename_i j hj
        split at P
        · rename_i x hx
          split at P
          · rename_i hz
            obtain ⟨a, ha, rfl⟩ := r1.2
            obtain ⟨us, h2, h3⟩ := s.ob n a _ ha hd
            obtain ⟨u, hu, ru⟩ := h3.get hx
            obtain ⟨g2, s2⟩ := put_list s ha hd (h3.erase j)
            obtain ⟨q1, q2, q3, q4⟩ := ixN_seq hj
            have hzz := small_line hz
            have hsl := sizeLine_eq
            have e1 : u0 = .int i := ru0.2
            subst e1
            refine ⟨a, us, i, j, u, rfl, rfl, h2, by omega, by omega, by rw [h3.len]; exact q1, hu, k _ _ _ _ _ _ (P al none _ g2 s2) ⟨rfl, ru.ext g2.ext⟩⟩
          · exact P.elim
        · exact P.elim
      · exact P.elim
    · exact P.elim
  · exact P.elim
def fReverse : W → List W → Mem → Rs W
  | .r n, [], m => (match m[n]? with | some (some (.list ds)) => .ok (.d .none) (m.set n (some (.list ds.reverse))) | _ => .no)
  | _, _, _ => .no
theorem cm_reverse {X : Cx} : Cm X rReverse fReverse := by
  intro E Hd al m H w v ws vs R Q s r1 r2 P k
  unfold fReverse at P
  split at P
  · rename_i n
    have e0 : vs = [] := r2
    subst e0
    split at P
    · rename_i ds hd
      obtain ⟨a, ha, rfl⟩ := r1.2
      obtain ⟨us, h2, h3⟩ := s.ob n a _ ha hd
      obtain ⟨g2, s2⟩ := put_list s ha hd h3.reverse
      exact ⟨a, us, rfl, rfl, h2, k _ _ _ _ _ _ (P al none _ g2 s2) ⟨rfl, rfl⟩⟩
    · exact P.elim
  · exact P.elim
end Den
/-! Den10: sorted of lists and tuples, index, count, stores in lists, name op= e, list(range(..)). -/
namespace Den
open PySem PySem.Spec PyProof.Rows L2

/-! ### sorted -/
section
variable {prog : Program} {w : World} {A : Around} {E : Value → Shared → Prop} {s : Shared}
theorem sorted_seq {T : String} {l : Addr} {o : Obj} {its : List Value} {n : Nat} {Q : Value → Shared → Prop} (hT : T = "list" ∨ T = "tuple") (ho : s.heap.get? l = some o) (hc : o.cls = .type T) (hd : o.data = .seq its.toArray n) (hz : its.length ≤ sizeLine)
    (body : ∀ (h' : Heap) (E' : Value → Shared → Prop), (∀ b u, s.heap.get? b = some u → h'.get? b = some u) → wpAny (model prog w) A.in1.in1 (Builtin.«list.sort» ⟨[.ref h'.objs.size], []⟩) (fun f s' => f = .done (.ret .none) ∧ Q (.ref h'.objs.size) s') E' { s with heap := h'.push (seqObj "list" its.toArray 0) }) :
    wpAny (model prog w) A (call (.builtin "sorted") [.ref l]) Q E s := by
  refine call_function_entry_kw kind_sorted plain_sorted entry_sorted (args_sorted1 _) (show wpAny _ _ (Builtin.«sorted» ⟨[.ref l], []⟩) _ _ _ from ?_)
  unfold Builtin.«sorted»
  refine wpAny_bind (m := checkCount "sorted" 1 1 _) (wpAny_pure (wpAny_bind (wpAny_collect_seq l hT ho hc hd (fun h' hk => ?_) (by rw [List.size_toArray]; exact hz))))
  refine wpAny_bind (wpAny_newList (s := { s with heap := h' }) ?_ (by simpa using hz))
  refine wpAny_bind (wpAny_holding (wpAny_call_entry_kw slot_list_sort ⟨_, Heap.get?_push_size _ rfl, rfl⟩ entry_list_sort (wpAny_mono (body h' _ hk) (fun f s' hf => ⟨.none, hf.1, wpAny_pure ⟨_, rfl, hf.2⟩⟩) fun _ _ e => e) (args_list_sort _)))
end
/-- sorted(xs), xs a list or a tuple of alike data -/
def rSortD (K : PySem.W.Frag) : List V → Hp → VK → Prop := fun xs H Q => ∃ (a : Addr) (bs : List (V × D)), xs = [.ref a] ∧ (SqL K H a (bs.map (·.1)) ∨ SqT K H a (bs.map (·.1))) ∧ (∀ b ∈ bs, Dp K H b.1 b.2) ∧ PySem.W.AllAlike (bs.map (·.2)) ∧ PySem.W.Sortable (bs.map (·.2)) ∧
  (∀ b ∈ bs, b.2.depth ≤ 60) ∧ ∀ p, H p = none → Q (.ref p) (upd H p (.lst ((bs.mergeSort (PySem.W.dataLe false (·.2))).map (·.1))))
section
variable {X : Cx}
theorem each_of {pins : List (Addr × Obj)} {σ : St} {H : Hp} {s : Shared} (I : Inv X pins σ H s) : ∀ {bs : List (V × D)} {us : List Value}, (∀ b ∈ bs, Dp X.K H b.1 b.2) → Vals (bs.map (·.1)) us → PySem.W.EachIs (fun u (b : V × D) => RelV b.1 u ∧ ∃ as, Reads s.heap u b.2 as) us bs
  | [], _, _, .nil => .nil
  | b :: bs, _, h, .cons r t => .cons ⟨r, Dp.reads I _ _ _ (h b (List.mem_cons_self)) r⟩ (each_of I (fun c hc => h c (List.mem_cons_of_mem _ hc)) t)
theorem vals_each : ∀ {us : List Value} {bs : List (V × D)}, PySem.W.EachIs (fun u (b : V × D) => RelV b.1 u) us bs → Vals (bs.map (·.1)) us
  | _, _, .nil => .nil
  | _, _, .cons h t => .cons h (vals_each t)
theorem sort_seq {pins : List (Addr × Obj)} {σ : St} {H : Hp} {s : Shared} {Q : VK} {T : String} {l : Addr} {o : Obj} {its : List Value} {n : Nat} {bs : List (V × D)} (hu : X.A.units + 65 < cLine) (hT : T = "list" ∨ T = "tuple") (ho : s.heap.get? l = some o) (hc : o.cls = .type T)
    (hd : o.data = .seq its.toArray n) (hz : (bs.map (·.1)).length ≤ sizeLine) (I : Inv X pins σ H s) (rv : Vals (bs.map (·.1)) its) (hdp : ∀ b ∈ bs, Dp X.K H b.1 b.2) (hal : PySem.W.AllAlike (bs.map (·.2))) (hk : PySem.W.Sortable (bs.map (·.2))) (hdd : ∀ b ∈ bs, b.2.depth ≤ 60)
    (q : ∀ p, H p = none → Q (.ref p) (upd H p (.lst ((bs.mergeSort (PySem.W.dataLe false (·.2))).map (·.1))))) : wpAny (model X.prog X.w) X.A (call (.builtin "sorted") [.ref l]) (EP X pins σ Q) X.xe s := by
  have hzi : its.length ≤ sizeLine := by rw [← rv.length]; exact hz
  refine sorted_seq hT ho hc hd hzi fun h' E' keep => ?_
  have I1 : Inv X pins σ H { s with heap := h' } := I.kept (t' := s.toks) keep
  have ee := each_of I1 hdp rv
  have atL : (h'.push (seqObj "list" its.toArray 0)).get? h'.objs.size = some (seqObj "list" its.toArray 0) := Heap.get?_push_size _ rfl
  have old : ∀ b u, h'.get? b = some u → (PySem.W.sortingHeap (h'.push (seqObj "list" its.toArray 0)) h'.objs.size its).get? b = some u := fun b u e => PySem.W.sortingHeap_old (Nat.ne_of_lt (Heap.lt_size e)) (Heap.get?_push_of_some _ e)
  have er : PySem.W.EachIs (fun u (b : V × D) => ∃ as, Reads (PySem.W.sortingHeap (h'.push (seqObj "list" its.toArray 0)) h'.objs.size its) u b.2 as) its bs := ee.mono fun u b ⟨_, as, r⟩ => ⟨as, PyProof.Rows.Reads.keeps old r⟩
  have el : its.length = bs.length := by rw [← rv.length, List.length_map]
  refine PySem.W.list_sort_vals (s := { s with heap := h'.push (seqObj "list" its.toArray 0) }) atL (PySem.W.SortsAt.data (s := { s with heap := PySem.W.sortingHeap (h'.push (seqObj "list" its.toArray 0)) h'.objs.size its }) (PySem.W.each_map (R := fun v d => ∃ as, Reads (PySem.W.sortingHeap (h'.push (seqObj "list" its.toArray 0)) h'.objs.size its) v d as) (fun b : V × D => b.2) er) hal hk (fun d hd => ?_)) hzi ⟨rfl, ?_⟩
  · obtain ⟨b, hb, rfl⟩ := List.mem_map.mp hd
    have := hdd b hb
    show X.A.units + 1 + 1 + b.2.depth < cLine
    omega
  · have out := PySem.W.sortVals_data (R := fun u (b : V × D) => RelV b.1 u) false (ee.mono fun _ _ z => z.1) er hal
    have rvo := vals_each out
    obtain ⟨ep, he⟩ := sortedHeap_at (out := (PySem.W.sortVals (PySem.W.dataKind (PySem.W.sortingHeap (h'.push (seqObj "list" its.toArray 0)) h'.objs.size its) (bs.map (·.2))) false its its).toArray) atL
    have hzo : ((bs.mergeSort (PySem.W.dataLe false fun b : V × D => b.2)).map (·.1)).length ≤ sizeLine := by rw [List.length_map, List.length_mergeSort, ← el]; exact hzi
    refine ⟨.ref h'.objs.size, _, I1.laid (t' := s.toks) (a := h'.objs.size) (o := .lst ((bs.mergeSort (PySem.W.dataLe false fun b : V × D => b.2)).map (·.1))) (fun b u e => ?_) (Nat.le_refl _) (show _ ∧ _ from ⟨hzo, _, ep, rvo, he⟩), rfl, q _ (I1.hok.fresh (Nat.le_refl _))⟩
    have hlt : b < h'.objs.size := Heap.lt_size e
    have e2 := Heap.get?_push_of_some (seqObj "list" its.toArray 0) e
    rw [sortedHeap_old (Nat.ne_of_lt hlt) (Heap.lt_size e2)]
    exact e2
theorem cr_sortD (hu : X.A.units + 65 < cLine) : CallR X (.builtin "sorted") (rSortD X.K) := by
  intro pins s σ H vs us Q I r h
  obtain ⟨a, bs, rfl, hs, hdp, hal, hk, hdd, q⟩ := h
  rw [Vals.ref1 r]
  rcases hs with hs | hs
  · obtain ⟨its, rv, ⟨o, n, ho, hc, hdn, hd⟩, hz⟩ := I.list hs
    exact sort_seq hu (.inl rfl) ho hc hd hz I rv hdp hal hk hdd q
  · obtain ⟨its, rv, ⟨o, ho, hc, n, hd⟩, hz⟩ := I.tuple hs
    exact sort_seq hu (.inr rfl) ho hc hd hz I rv hdp hal hk hdd q
end
def alikeAllB (ds : List D) : Bool := ds.all fun d => ds.all fun d' => PySem.W.alike d d'
def tupConsB : D → Bool
  | .tuple (_ :: _) => true
  | _ => false
def plainB : D → Bool
  | .none => false
  | .tuple _ => false
  | _ => true
def sortD : D → Option (List D)
  | .list ds => if alikeAllB ds && (ds.all tupConsB || ds.all plainB) && ds.all (fun d => decide (d.depth ≤ 60) && !d.hasDict) then some (ds.mergeSort (PySem.W.dataLe false id)) else none
  | .tuple ds => if alikeAllB ds && (ds.all tupConsB || ds.all plainB) && ds.all (fun d => decide (d.depth ≤ 60) && !d.hasDict) then some (ds.mergeSort (PySem.W.dataLe false id)) else none
  | _ => none
section
variable {K : PySem.W.Frag} {O : Addr → Prop} {H : Hp}
theorem alikeAllB_ok {ds : List D} (h : alikeAllB ds = true) : PySem.W.AllAlike ds := fun d hd d' hd' => List.all_eq_true.mp (List.all_eq_true.mp h d hd) d' hd'
theorem sortableB_ok {ds : List D} (h : (ds.all tupConsB || ds.all plainB) = true) : PySem.W.Sortable ds := by
  rcases Bool.or_eq_true_iff.mp h with h | h
  · refine .inl fun d hd => ?_
    have := List.all_eq_true.mp h d hd
    cases d with
    | tuple xs => cases xs with
      | nil => cases this
      | cons x r => exact ⟨x, r, rfl⟩
    | _ => cases this
  · refine .inr fun d hd => ?_
    have := List.all_eq_true.mp h d hd
    cases d with
    | none => cases this
    | tuple xs => cases this
    | _ => exact ⟨fun e => (nomatch e), fun xs e => (nomatch e)⟩
theorem repDs_zip : ∀ {ds : List D} {vs : List V}, RepDs K O H ds vs → (vs.zip ds).map (·.1) = vs ∧ (vs.zip ds).map (·.2) = ds ∧ ∀ b ∈ vs.zip ds, RepD K O H b.2 b.1
  | [], _, h => by rw [show _ = [] from h]; exact ⟨rfl, rfl, fun b hb => (nomatch hb)⟩
  | x :: ds, _, ⟨v, r, h1, h2, h3⟩ => by
    subst h1
    obtain ⟨q1, q2, q3⟩ := repDs_zip h3
    refine ⟨by rw [List.zip_cons_cons, List.map_cons, q1], by rw [List.zip_cons_cons, List.map_cons, q2], fun b hb => ?_⟩
    rw [List.zip_cons_cons] at hb
    rcases List.mem_cons.mp hb with rfl | hb
    · exact h2
    · exact q3 b hb
theorem zip_repDs : ∀ {bs : List (V × D)}, (∀ b ∈ bs, RepD K O H b.2 b.1) → RepDs K O H (bs.map (·.2)) (bs.map (·.1))
  | [], _ => rfl
  | b :: bs, h => ⟨_, _, rfl, h b List.mem_cons_self, zip_repDs fun c hc => h c (List.mem_cons_of_mem _ hc)⟩
theorem sort_rep {ds : List D} {vs : List V} (h : RepDs K O H ds vs) : RepDs K O H (ds.mergeSort (PySem.W.dataLe false id)) (((vs.zip ds).mergeSort (PySem.W.dataLe false (·.2))).map (·.1)) := by
  obtain ⟨q1, q2, q3⟩ := repDs_zip h
  have e : ds.mergeSort (PySem.W.dataLe false id) = ((vs.zip ds).mergeSort (PySem.W.dataLe false (·.2))).map (·.2) := by
    have e1 := List.map_mergeSort (r := PySem.W.dataLe false fun b : V × D => b.2) (s := PySem.W.dataLe false id) (f := fun b : V × D => b.2) (l := vs.zip ds) fun a _ b _ => rfl
    rw [e1, q2]
  rw [e]
  exact zip_repDs fun b hb => q3 b (List.mem_mergeSort.mp hb)
theorem ca_sort {X : Cx} : Ca X (rSortD X.K) (fN1 sortD) := ca_N1 fun O H x v ys Q rv e k => by
  have go : ∀ (ds : List D) (vs : List V), RepDs X.K O H ds vs → (if alikeAllB ds && (ds.all tupConsB || ds.all plainB) && ds.all (fun d => decide (d.depth ≤ 60) && !d.hasDict) then some (ds.mergeSort (PySem.W.dataLe false id)) else none) = some ys → ∀ a, (SqL X.K H a vs ∨ SqT X.K H a vs) → rSortD X.K [.ref a] H Q := by
    intro ds vs h2 e a h1
    obtain ⟨c, e⟩ := ite_none e
    cases e
    obtain ⟨q1, q2, q3⟩ := repDs_zip h2
    simp only [Bool.and_eq_true] at c
    obtain ⟨⟨c1, c2⟩, c3⟩ := c
    have c4 := List.all_eq_true.mp c3
    have mem2 : ∀ b ∈ vs.zip ds, b.2 ∈ ds := fun b hb => by rw [← q2]; exact List.mem_map_of_mem hb
    refine ⟨a, vs.zip ds, rfl, by rw [q1]; exact h1, fun b hb => ?_, by rw [q2]; exact alikeAllB_ok c1, by rw [q2]; exact sortableB_ok c2, fun b hb => ?_, fun p hp => k p _ hp (sort_rep h2)⟩
    · have := c4 _ (mem2 b hb)
      simp only [Bool.and_eq_true, Bool.not_eq_true'] at this
      exact RepD.dp _ _ (q3 b hb) this.2
    · have := c4 _ (mem2 b hb)
      simp only [Bool.and_eq_true, decide_eq_true_eq] at this
      exact this.1
  cases x with
  | list ds => obtain ⟨a, vs, rfl, h1, h2⟩ := rv; exact go ds vs h2 e a (.inl (.inl (.inl h1)))
  | tuple ds => obtain ⟨a, vs, rfl, h1, h2⟩ := rv; exact go ds vs h2 e a (.inr h1)
  | _ => cases e
end

/-! ### l.index(x), l.count(x) -/
def rCntD (K : PySem.W.Frag) : V → List V → Hp → VK → Prop := fun x xs H Q => ∃ (a : Addr) (y : V) (d : D) (ds : List D), x = V.ref a ∧ xs = [y] ∧ Dp K H (V.ref a) (.list ds) ∧ Dp K H y d ∧
  SeqAt.shaped (.list ds) = true ∧ SeqAt.shaped d = true ∧ Q (.int (ds.countP fun z => PyData.eqv z d : Nat)) H
theorem mt_countD {X : Cx} (hu : X.A.units + 65 < cLine) : MtR X "list.count" (rCntD X.K) := by
  intro pins s σ H x xs v us Q I rx rxs h
  obtain ⟨a, y, d, ds, rfl, rfl, hl, hy, sl, sd, q⟩ := h
  cases rx
  obtain ⟨uy, rfl, ry⟩ := rxs.one
  obtain ⟨bs, rd1⟩ := Dp.reads I d y uy hy ry
  cases hl with
  | lst hs ha =>
    obtain ⟨its, rv, ⟨⟨cls, dd, data, sls⟩, n, ho, hc, hdn, hdt⟩, hlen⟩ := I.list hs
    simp only at hc hdt
    subst hc hdt
    obtain ⟨as, rd2⟩ := Dp.readsAll I ds _ its ha rv
    have cl : PyData.canLayAll0 ds = true := SeqAt.canLay_of_shaped sl
    have hm : its.map (SeqAt.readOf s.heap) = ds := SeqAt.readsAll_map ds its as cl rd2
    have ec : its.toArray.toList.countP (fun u => PyData.eqv (SeqAt.readOf s.heap u) d) = ds.countP fun z => PyData.eqv z d := by
      rw [← hm, List.countP_map]; rfl
    refine call_meets PySem.F.slot_list_count ⟨_, ho, rfl⟩ PySem.F.entry_list_count (PySem.F.args_list_count_2 _ _) (SeqAt.list_countAt a its.toArray n dd sls uy fun u => PyData.eqv (SeqAt.readOf s.heap u) d)
      ⟨ho, SeqAt.items_eqAt (vs := its.toArray) (show ReadsAll s.heap its.toArray.toList ds as from rd2) rd1 cl (SeqAt.canLay_of_shaped sd) (room_in_shaped sd hu), .int _, H, I.tok _, ⟨s.toks, ?_⟩, q⟩
    show Value.int ((its.toArray.toList.countP (fun u => PyData.eqv (SeqAt.readOf s.heap u) d) : Nat) : Int) s.toks = Value.int ((ds.countP fun z => PyData.eqv z d : Nat) : Int) s.toks
    rw [ec]
/-- one argument, data: a method that changes nothing -/
def fMD (g : D → D → Option D) : W → List W → Mem → Rs W
  | w, [w2], m => (match peek m w, peek m w2 with | some x, some y => (match g x y with | some z => .ok (.d z) m | none => .no) | _, _ => .no)
  | _, _, _ => .no
theorem cm_D {X : Cx} {r : V → List V → Hp → VK → Prop} {g : D → D → Option D} (h : ∀ (O : Addr → Prop) (H : Hp) x y v v2 z (Q : VK), RepP X.K O H x v → RepP X.K O H y v2 → g x y = some z → (∀ v', RepD X.K O H z v' → Q v' H) → r v [v2] H Q) : Cm X r (fMD g) := by
  intro E Hd al m H w v ws vs R Q s r1 r2 P k
  match ws, r2 with
  | [w2], r2 =>
    obtain ⟨v2, rfl, h2⟩ := repWs1 r2
    unfold fMD at P
    dsimp only at P
    split at P
    · rename_i x y hx hy
      split at P
      · rename_i z hz
        exact h _ H x y v v2 z Q (peek_ok s r1 hx) (peek_ok s h2 hy) hz fun v' rv' => k _ _ _ _ _ _ (P.ok s) ⟨rfl, rv'⟩
      · exact P.elim
    · exact P.elim
  | [], _ => exact P.elim
  | _ :: _ :: _, _ => exact P.elim
def cntD : D → D → Option D
  | .list ds, d => if SeqAt.shaped (.list ds) && SeqAt.shaped d then some (.int (ds.countP fun z => PyData.eqv z d : Nat)) else none
  | _, _ => none
theorem cm_count {X : Cx} : Cm X (rCntD X.K) (fMD cntD) := cm_D fun O H x y v v2 z Q r1 r2 e k => by
  cases x with
  | list ds =>
    obtain ⟨c, e⟩ := ite_none e
    cases e
    simp only [Bool.and_eq_true] at c
    have dl := r1.dp (noDict_shaped c.1)
    obtain ⟨a, vs, rfl, h1, h2⟩ := r1
    exact ⟨a, v2, y, ds, rfl, rfl, dl, r2.dp (noDict_shaped c.2), c.1, c.2, k _ rfl⟩
  | _ => cases e
/-- the first place of an equal one -/
def firstEq (d : D) : List D → Nat → Option Nat
  | [], _ => none
  | z :: ds, j => if PyData.eqv z d = true then some j else firstEq d ds (j + 1)
theorem firstEq_ok {d : D} : ∀ {ds : List D} {k j : Nat}, firstEq d ds k = some j → k ≤ j ∧ ∃ z, ds[j - k]? = some z ∧ PyData.eqv z d = true ∧ ∀ (m : Nat) z', m < j - k → ds[m]? = some z' → PyData.eqv z' d = false
  | [], _, _, h => by cases h
  | z :: ds, k, j, h => by
    unfold firstEq at h
    split at h
    · rename_i hz
      cases h
      exact ⟨Nat.le_refl _, z, by rw [Nat.sub_self]; rfl, hz, fun m z' hm => absurd hm (by omega)⟩
    · rename_i hz
      obtain ⟨q1, z2, q2, q3, q4⟩ := firstEq_ok h
      have ej : j - k = (j - (k + 1)) + 1 := by omega
      refine ⟨by omega, z2, by rw [ej]; exact q2, q3, fun m z' hm hmz => ?_⟩
      cases m with
      | zero => cases hmz; exact Bool.eq_false_iff.mpr hz
      | succ m => exact q4 m z' (by omega) hmz
def indD : D → D → Option D
  | .list ds, d => if SeqAt.shaped (.list ds) && SeqAt.shaped d then (match firstEq d ds 0 with | some j => some (.int (j : Nat)) | none => none) else none
  | _, _ => none
theorem cm_index {X : Cx} : Cm X (rIndexD X.K) (fMD indD) := cm_D fun O H x y v v2 z Q r1 r2 e k => by
  cases x with
  | list ds =>
    unfold indD at e
    dsimp only at e
    split at e
    · rename_i c
      split at e
      · rename_i j hj
        cases e
        simp only [Bool.and_eq_true] at c
        have dl := r1.dp (noDict_shaped c.1)
        obtain ⟨a, vs, rfl, h1, h2⟩ := r1
        obtain ⟨_, z2, q2, q3, q4⟩ := firstEq_ok hj
        rw [Nat.sub_zero] at q2 q4
        exact ⟨a, v2, y, ds, j, z2, rfl, rfl, dl, r2.dp (noDict_shaped c.2), c.1, c.2, q2, q3, q4, k _ rfl⟩
      · cases e
    · cases e
  | _ => cases e

/-! ### list(range(..)) -/
def tRgM (K : PySem.W.Frag) (mg : Str → Option Value) (E : St → XK) (c : EM (Int × Int)) : St → Hp → (Int → Int → Hp → Prop) → Prop := fun σ H Q => ∃ Hd al rho m, Stt K Hd al none H m ∧ EnvOk K mg (Own Hd al m none) al H rho σ ∧
  Post K mg Hd al m H (E σ) (c rho m) fun b al' p m' H' => p = none → Q b.1 b.2 H'
abbrev DenRg (X : Cx) (E : St → XK) (e : Expr) (c : EM (Int × Int)) : Prop := PRg X e (tRgM X.K X.mg E c)
def mRg1 (a : EM W) : EM (Int × Int) := fun rho m => (a rho m).bindV fun w m1 => match w with | .d (.int i) => .ok (0, i) m1 | _ => .no
def mRg2 (a b : EM W) : EM (Int × Int) := fun rho m => (a rho m).bindV fun w m1 => (b rho m1).bindV fun w2 m2 => match w, w2 with | .d (.int i), .d (.int j) => .ok (i, j) m2 | _, _ => .no
def rgOk (i j : Int) : Bool := decide (-(2 ^ 62) ≤ i ∧ i < 2 ^ 62 ∧ -(2 ^ 62) ≤ j ∧ j < 2 ^ 62 ∧ (j - i).toNat ≤ 2 ^ 20)
def mLstRg (c : EM (Int × Int)) : EM W := fun rho m => (c rho m).bind fun b m1 => if rgOk b.1 b.2 then .ok (.n (.list (rangeD b.1 b.2))) m1 else .no
theorem rep_rg {K : PySem.W.Frag} {O : Addr → Prop} {H : Hp} (i j : Int) : RepDs K O H (rangeD i j) (rgV i j) := by
  unfold rangeD rgV
  have : ∀ (l : List Nat) (f : Nat → Int), RepDs K O H (l.map fun k => .int (f k)) (l.map fun k => V.int (f k)) := by
    intro l f
    induction l with
    | nil => exact rfl
    | cons x l ih => exact ⟨_, _, rfl, rfl, ih⟩
  exact this _ fun k => i + (k : Int)
section
variable {X : Cx} {E : St → XK} {ea eb : Expr} {a b : EM W} {c : EM (Int × Int)} {p pos : Pos}
theorem drg_1 (hg : Gl X "range") (hm : X.mg "range" = none) (ha : Den X E ea a) (na : starEach [ea] X.env = (false, eval ea X.env) :: starEach [] X.env := by rfl) : DenRg X E (.Call (.Name "range" p) [ea] [] pos) (mRg1 a) := fun pins s σ H Q I q => by
  refine prg_1 hg hm ha na pins s σ H Q I ?_
  obtain ⟨Hd, al, rho, m, s, e, P⟩ := q
  refine ⟨Hd, al, rho, m, s, e, (Post.bindV P).imp fun w al1 p1 m1 H1 g s1 k v rv => ?_⟩
  obtain ⟨g1, s1', rv1, P1⟩ := k v rv
  split at P1
  · rename_i i hw
    rw [hw] at rv1
    exact ⟨i, rv1.2, (P1.ok s1') rfl⟩
  · exact P1.elim
theorem drg_2 (hg : Gl X "range") (hm : X.mg "range" = none) (ha : Den X E ea a) (hb : Den X E eb b) (na : starEach [ea, eb] X.env = (false, eval ea X.env) :: starEach [eb] X.env := by rfl)
    (nb : starEach [eb] X.env = (false, eval eb X.env) :: starEach [] X.env := by rfl) (hp : (backTo pos (starEach [eb] X.env)).any (·.1) = false := by rfl) : DenRg X E (.Call (.Name "range" p) [ea, eb] [] pos) (mRg2 a b) := fun pins s σ H Q I q => by
  refine prg_2 hg hm ha hb na nb hp pins s σ H Q I ?_
  obtain ⟨Hd, al, rho, m, s, e, P⟩ := q
  refine ⟨Hd, al, rho, m, s, e, (Post.bindV P).imp fun w al1 p1 m1 H1 g s1 k v rv => ?_⟩
  obtain ⟨g1, s1', rv1, P1⟩ := k v rv
  refine ⟨Hd, al1, rho, m1, s1', e.go g1, (Post.bindV P1).imp fun w2 al2 p2 m2 H2 g2 s2 k2 v2 rw2 => ?_⟩
  obtain ⟨g3, s2', rv2, P2⟩ := k2 v2 rw2
  split at P2
  · rename_i i j hw hw2
    rw [hw] at rv1
    rw [hw2] at rv2
    exact ⟨i, j, rv1.2, rv2.2, (P2.ok s2') rfl⟩
  · exact P2.elim
theorem den_lstRg {p2 : Pos} (hc : X.calm = true) (hg : Gl X "list") (hm : X.mg "list" = none) (he : DenRg X E ea c) (na : starEach [ea] X.env = (false, eval ea X.env) :: starEach [] X.env := by rfl) : Den X E (.Call (.Name "list" p2) [ea] [] pos) (mLstRg c) := PE.imp (pe_listRg hc hg hm he na) fun σ H Q q => by
  obtain ⟨Hd, al, rho, m, s, e, P⟩ := q
  refine ⟨Hd, al, rho, m, s, e, (Post.bind P).imp fun b al1 p1 m1 H1 g s1 k hp => ?_⟩
  subst hp
  have P1 := k rfl
  split at P1
  · rename_i hz
    have hz' := of_decide_eq_true hz
    exact ⟨⟨hz'.1, hz'.2.1, hz'.2.2.1, hz'.2.2.2.1, Nat.le_trans hz'.2.2.2.2 (by decide)⟩, fun q hq => res_list s1 (rep_rg _ _) hq P1 fun w' al' p m' H' v' q' => q' v'⟩
  · exact P1.elim
end

/-! ### o[i] = e, name op= e -/
def putD : D → W → D → Option D
  | .list ds, .d (.int k), x => (match ixN ds.length k with | some j => some (.list (ds.set j x)) | none => none)
  | _, _, _ => none
def gSubM (a b : EM W) : GM := fun w rho m => match a rho m with
  | .ok (.r n) m1 => (match b rho m1 with
    | .ok i m2 => (match frz m2 w with
      | some (x, m3) => (match m3[n]? with
        | some (some o) => (match putD o (val i) x with | some o' => some (rho, m3.set n (some o')) | none => none)
        | _ => none)
      | none => none)
    | _ => none)
  | _ => none
theorem RepDs.put {K : PySem.W.Frag} {O : Addr → Prop} {H : Hp} : ∀ {ds : List D} {vs : List V} (j : Nat) {x : D} {v : V}, RepDs K O H ds vs → RepD K O H x v → RepDs K O H (ds.set j x) (vs.set j v)
  | [], _, _, _, _, h, _ => by rw [show _ = [] from h]; exact rfl
  | y :: ds, _, 0, x, v, ⟨u, r, h1, h2, h3⟩, hx => by subst h1; exact ⟨v, r, rfl, hx, h3⟩
  | y :: ds, _, j + 1, x, v, ⟨u, r, h1, h2, h3⟩, hx => by subst h1; exact ⟨u, _, rfl, h2, RepDs.put j h3 hx⟩
section
variable {X : Cx} {E : St → XK} {ea eb : Expr} {a b : EM W} {p pos : Pos}
theorem dg_sub (ha : Den X E ea a) (hb : Den X E eb b) (hs : ∀ v, assign (.Subscript ea eb pos) X.env v = (do
      let ov ← holding [v] (eval ea X.env); let iv ← holding [v, ov] (eval eb X.env)
      standAt pos; holding [v, ov, iv] (setItem ov iv v); release [v, ov, iv] []) := by intro _; rfl) : DenG X (.Subscript ea eb pos) (gSubM a b) [] := PG.imp (pg_sub ha hb set_list hs) fun v σ H Q q => by
  obtain ⟨Hd, al, rho, m, w, s, e, rv, P⟩ := q
  unfold gSubM at P
  split at P
  · rename_i n m1 ho
    split at P
    · rename_i i m2 hi
      split at P
      · rename_i x m3 hx
        split at P
        · rename_i o hn
          split at P
          · rename_i o' hp
            refine ⟨Hd, al, rho, m, s, e, ?_⟩
            rw [ho]
            intro al1 p1 H1 g1 s1 vo ro
            obtain ⟨e1, aa, ha1, rfl⟩ := ro
            subst e1
            refine ⟨Hd, al1, rho, m1, s1, e.go g1, ?_⟩
            rw [hi]
            intro al2 p2 H2 g2 s2 vi ri
            have g2' := g2.trans Go.settle
            have ri' := val_ok s2 ri
            have s2' := s2.settle
            obtain ⟨s3, g3, rx⟩ := frz_ok s2' ((rv.go g1).go g2') hx
            have ha3 : al2[n]? = some aa := g2'.pre _ _ ha1
            cases o with
            | list ds =>
              cases hvi : val i with
              | d y =>
                rw [hvi] at ri' hp
                cases y with
                | int k =>
                  have ev : vi = .int k := ri'.2
                  subst ev
                  unfold putD at hp
                  dsimp only at hp
                  split at hp
                  · rename_i j hj
                    cases hp
                    obtain ⟨us, h2, h3⟩ := s3.ob n aa _ ha3 hn
                    obtain ⟨g4, s4⟩ := put_list s3 ha3 hn (h3.put j rx)
                    exact ⟨aa, us, k, j, rfl, rfl, h2, by rw [h3.len]; exact hj, P _ _ _ (((g1.trans g2').trans g3).trans g4) s4 ((((e.go g1).go g2').go g3).go g4) Off.refl⟩
                  · cases hp
                | _ => cases hp
              | _ => rw [hvi] at hp; cases hp
            | _ => cases hp
          · exact P.elim
        · exact P.elim
      · exact P.elim
    · exact P.elim
  · exact P.elim
/-- name += e, name -= e -/
def sAugI (i : Nat) (f : Int → Int → Int) (a : EM W) : SM := fun rho m => match rho[i]? with
  | some (some (.d (.int x))) => (a rho m).thenV rho fun w m1 => match w with | .d (.int y) => .nx (rho.set i (some (.d (.int (f x y))))) m1 | _ => .no
  | _ => .no
theorem ds_augI {i : Nat} {x : Str} {e : Expr} {op : Operator} {f : Int → Int → Int} {pos' : Pos} (hN : X.N.Nodup) (ho : PIp X op (ipI f)) (he : Den X E e a) (hi : X.N[i]? = some x := by rfl) (hx : Loc X.env.scope x := by first | exact Or.inl rfl | exact Or.inr rfl)
    (hf : X.fn x = true ∨ X.env.scope.names.lookup x = some .local := by first | exact .inl rfl | exact .inr rfl | assumption) : DenS X E (.AugAssign (.Name x pos') op e pos) (sAugI i f a) := PS.imp (ps_aug hN hi hx he ho hf) fun Dn σ H q => by
  obtain ⟨Hd, al, rho, m, s, e, P⟩ := q
  unfold sAugI at P
  split at P
  · rename_i z hz
    obtain ⟨v, h1, h2⟩ := e.2 i _ hz
    have ev : v = .int z := h2.2
    subst ev
    refine ⟨_, h1, Hd, al, rho, m, s, e, (PostS.ofV e P).imp fun w al1 p1 m1 H1 g s1 k v rv => ?_⟩
    obtain ⟨g1, s1', rv1, P1⟩ := k v rv
    split at P1
    · rename_i y hw
      rw [hw] at rv1
      exact ⟨z, y, rfl, rv1.2, P1 al1 H1 _ Go.refl s1' ((e.go g1).set ⟨rfl, rfl⟩)⟩
    · exact P1.elim
  · exact P.elim
end
end Den
/-! Den11: caught errors and their kinds, a callee picked from a list, ghosts. -/
namespace Den
open PySem PySem.Spec PyProof.Rows L2

/-! ### a def called within an except suite, of the caught error -/
abbrev cxE (P : Program) (w : World) (K : PySem.W.Frag) (mg : Str → Option Value) (base : Heap) (N : List Str) (qual : Str) (scope : Scope) (f : Addr) (cd : Value) (A : Around) (outer : List PySem.Env) (s : Shared) (H : Hp) (p : Addr × Obj) : Cx :=
  (cxOf (L2N.CX P w) P w K mg base N qual scope f cd A outer s H fun _ _ _ => False).suite p.1 [p]
section
variable {P : Program} {w : World} {K : PySem.W.Frag} {mg : Str → Option Value} {base : Heap} {k : Nat} {f : Addr} {x : Str} {st : Stmt} {fd : FuncData} {N ps : List Str}
theorem fn_E (F : Fun K x x st f fd) (S : FnScope N ps (defScope st)) {p : Addr × Obj} {A : Around} {outer : List PySem.Env} {s : Shared} {H : Hp} {args : Args} {us : List Value} {vs : List V} {Q : VK} {E : XK}
    (hr : L2H.RoomH (k + 1) A) (hh : A.handled = some (.ref p.1)) (hpin : L2H.PinOk outer H s p) (e0 : Env0 P w K mg base A outer s H) (hb : BindsTo s fd args (ps.zip us)) (r : Vals vs us) (hl : vs.length = ps.length)
    (hbody : ∀ cdv : Value, L2H.RoomH k (A.deeper (envOfC x (defScope st) s.heap.objs.size f cdv)) → ∃ t, PSs (cxE P w K mg base N x (defScope st) f cdv A outer s H p) (defBody st) t ∧ t { nx := fun _ H' => Q .non H', rt := Q } (L2.start N vs) H) :
    codeAny (model P w) A (.call (.ref f) args) (CR (L2N.CX P w) outer P w H s Q E) s := by
  obtain ⟨oc, od, kV, doc, pm, an, cdv, ct, osl, rfl, lk, hcd⟩ := F.ex
  obtain ⟨t, ht, hq⟩ := hbody cdv (hr.deeper _)
  refine Att.call_fn (e0.mod.kin.keeps fun b o e => (e0.bs b o e).1) (e0.mod.nolimit.keeps fun b o e => (e0.bs b o e).1) lk hcd hr.depth hb ?_ (fun s1 ic => ?_) S.co S.gen S.kind
  · refine List.all_eq_true.mpr fun y hy => ?_
    rcases S.par y.1 (List.of_mem_zip (a := y.1) (b := y.2) hy).1 with q | q
    · rw [q]; rfl
    · rw [q]; rfl
  · have I0 := L2H.inv_startH (CX := L2N.CX P w) (E := fun _ _ _ => False) S hpin e0 hl r ic
    have eA : (A.deeper (envOfC x (defScope st) s.heap.objs.size f cdv)).mark (some (.ref p.1)) = A.deeper (envOfC x (defScope st) s.heap.objs.size f cdv) := by
      unfold Around.mark Around.deeper
      rw [Option.some_or, ← hh]
    have eX : cxE P w K mg base N x (defScope st) f cdv A outer s H p = (L2H.cxH (L2N.CX P w) P w K mg base N x (defScope st) f cdv A outer s H (fun _ _ _ => False) p).wish fun _ _ => False := by
      unfold cxE L2H.cxH Cx.suite Cx.wish
      unfold cxOf
      dsimp only
      rw [eA]
    have I1 : L2.Inv (cxE P w K mg base N x (defScope st) f cdv A outer s H p) [] (L2.start N vs) H s1 := by
      rw [eX]; exact I0.wish _
    have run := ht.run [] s1 _ H _ I1 hq
    rw [show (cxE P w K mg base N x (defScope st) f cdv A outer s H p).A = A.deeper (envOfC x (defScope st) s.heap.objs.size f cdv) from eA] at run
    refine wpAny_mono run (fun fl s' h => ?_) fun e s' z => z.elim
    cases fl with
    | ret u => obtain ⟨v, σ', H', J, rv, q⟩ := h; exact ⟨v, H', J.os, J.bare, J.base, J.hok, rv, q⟩
    | next => obtain ⟨σ', H', J, q⟩ := h; exact ⟨.non, H', J.os, J.bare, J.base, J.hok, rfl, q⟩
    | brk => obtain ⟨_, _, _, q⟩ := h; exact q.elim
    | cont => obtain ⟨_, _, _, q⟩ := h; exact q.elim
end
/-- isinstance(error, C) of the error at a, which slot i holds -/
def mIsE (a : Addr) (i : Nat) (b : Bool) : EM W := fun rho m => match rho[i]? with
  | some (some (.e a')) => if a' = a then .ok (.d (.bool b)) m else .no
  | _ => .no
section
variable {X : Cx} {E : St → XK} {a C D : Addr} {oe : Obj} {pn : List (Addr × Obj)} {b : Bool} {x y : Str} {p q q2 pos : Pos}
theorem den_isE (i : Nat) (EC : ExcC X.K C) (hz : Zc (.ref C) none oe) (hf : ∃ vs, oe.data = .fields vs) (hk : PySem.W.kitOne X.K (.ref C) (.ref D) = some b) (gD : X.mg y = some (.ref D)) (hm : X.mg "isinstance" = none) (hgy : Gl (X.suite a ((a, oe) :: pn)) y) (hg : Gl (X.suite a ((a, oe) :: pn)) "isinstance" := by rfl)
    (hN : X.N[i]? = some x := by rfl) (hv : Vis X.env.scope x := by first | exact Or.inl rfl | exact Or.inr (Or.inl rfl) | exact Or.inr (Or.inr rfl)) (hd : (x == ("__debug__" : Str)) = false := by decide) (hd2 : (y == ("__debug__" : Str)) = false := by decide)
    (hcd : (x == ("__classdict__" : Str)) = false := by decide) (he : starEach [.Name x q, .Name y q2] X.env = (false, eval (.Name x q) X.env) :: starEach [.Name y q2] X.env := by rfl) (he2 : starEach [.Name y q2] X.env = [(false, eval (.Name y q2) X.env)] := by rfl)
    (hpl : (backTo pos (starEach [.Name y q2] X.env)).any (·.1) = false := by rfl) : Den (X.suite a ((a, oe) :: pn)) E (.Call (.Name "isinstance" p) [.Name x q, .Name y q2] [] pos) (mIsE a i b) :=
  PE.imp (pe_callB (call_isE EC hz hf) hg hm boot_isinstance (pa_cons (pe_var hN hv hd hcd) (pa_cons (pe_glob (v := .ref D) hgy gD rfl hd2) pa_nil he2) he) (by decide) (by decide) he hpl) fun σ H Q q => by
    obtain ⟨Hd, al, rho, m, s, e, P⟩ := q
    unfold mIsE at P
    split at P
    · rename_i a' ha
      split at P
      · rename_i ea
        subst ea
        obtain ⟨v, h1, h2⟩ := e.2 i _ ha
        have ev : v = .ref a' := h2.2
        subst ev
        exact ⟨_, h1, .ref D, .ref D, b, rfl, fun u hu => hu, hk, (P.ok s) _ ⟨rfl, rfl⟩⟩
      · exact P.elim
    · exact P.elim
end

/-! ### try: .., except QueueError as error: return _law_kind(error) -/
/-- what the def says of an error of each class: kf -/
structure KindOk (P : Program) (w : World) (K : PySem.W.Frag) (mg : Str → Option Value) (base : Heap) (k : Nat) (x : Str) (kf : Str → Option Str) : Prop where
  ex : ∃ (f : Addr) (fd : FuncData), mg x = some (.ref f) ∧ PySem.W.keepIn K (.ref f) = true ∧ Binds K fd ["error"] [] ∧ ∀ (y z : Str) (C : Addr), kf y = some z → mg y = some (.ref C) →
    ∀ (A : Around) (outer : List PySem.Env) (s : Shared) (H : Hp) (args : Args) (Q : VK) (E : XK) (p : Addr × Obj), L2H.RoomH k A → A.handled = some (.ref p.1) → L2H.PinOk outer H s p → Zc (.ref C) none p.2 → (∃ vs, p.2.data = .fields vs) → Env0 P w K mg base A outer s H →
      BindsTo s fd args ([("error" : Str)].zip [Value.ref p.1]) → (∃ Hd al m, Stt K Hd al none H m ∧ ∀ al' H', Go Hd al m none H al' m none H' → Stt K Hd al' none H' m → Q (.str z) H') → codeAny (model P w) A (.call (.ref f) args) (CR (L2N.CX P w) outer P w H s Q E) s
structure CatchOk (K : PySem.W.Frag) (mg : Str → Option Value) (q : Str) (kf : Str → Option Str) : Prop where
  ex : ∃ B : Addr, mg q = some (.ref B) ∧ ∀ y z, kf y = some z → ∃ C, mg y = some (.ref C) ∧ PySem.W.exmOne K (.ref C) (.ref B) = some true
def sTryK (i : Nat) (cb : SM) (kf : Str → Option Str) : SM := fun rho m => match cb rho m with
  | .ex (.own x) rho' m' => (match kf x with | some y => if i < rho'.length then .rt (.d (.str y)) m' else .no | none => .no)
  | .ex (.low _ _ _) _ _ => .no
  | r => r
section
variable {X : Cx} {E : St → XK} {kf : Str → Option Str} {cb : SM} {body : List Stmt} {x n q0 : Str} {k j : Nat} {p q np pos pos' pos2 pos3 : Pos}
/-- the call in the suite -/
def tKindE (K : PySem.W.Frag) (mg : Str → Option Value) (kf : Str → Option Str) (i : Nat) (a : Addr) (cls : Value) (d : Option Addr) : TE := fun σ H Q => ∃ (y z : Str) (C : Addr), kf y = some z ∧ mg y = some (.ref C) ∧ cls = .ref C ∧ d = none ∧ σ[i]? = some (some (.ref a)) ∧
  ∃ Hd al m, Stt K Hd al none H m ∧ ∀ al' H', Go Hd al m none H al' m none H' → Stt K Hd al' none H' m → Q (.str z) H'
theorem pe_kind {i : Nat} {a : Addr} {oe : Obj} {cls : Value} {d : Option Addr} {pn : List (Addr × Obj)} (KO : KindOk X.prog X.w X.K X.mg X.base k x kf) (hr : Room j X.A) (hz : Zc cls d oe) (hf : ∃ vs, oe.data = .fields vs) (hk : k ≤ j) (hg : Gl X x) (hN : X.N[i]? = some n)
    (hln : X.env.kindOf n = some .local) (hd : (n == ("__debug__" : Str)) = false) (hcd : (n == ("__classdict__" : Str)) = false) (hdb : (x == ("__debug__" : Str)) = false) (he : starEach [.Name n q] X.env = [(false, eval (.Name n q) X.env)]) :
    PE (X.suite a ((a, oe) :: pn)) (.Call (.Name x p) [.Name n q] [] pos) (tKindE X.K X.mg kf i a cls d) := by
  obtain ⟨f, fd, hm, kp, hb, run⟩ := KO.ex
  refine ⟨fun pins s σ H Q I h => wpAny_Call_Name_kw (ld_glob I (show Gl (X.suite a ((a, oe) :: pn)) x from hg) hm ?_ hdb)⟩
  obtain ⟨y, z, C, h1, h2, rfl, rfl, h5, h6⟩ := h
  have ha : PA (X.suite a ((a, oe) :: pn)) [.Name n q] (tCons (tVar i) tNil) := pa_cons (pe_var hN (.inl hln) hd hcd) pa_nil he
  refine PySem.W.callWith_K (h₀ := X.base) I.ok.mod.kin kp (thn (ha.run pos pins s σ H (fun vs H1 => vs = [V.ref a] ∧ H1 = H) I ⟨.ref a, h5, rfl, rfl⟩) fun us s1 hh => ?_) he rfl
  obtain ⟨vs, H1, I1, r, rfl, rfl⟩ := hh
  cases r with
  | cons ru rn =>
    cases rn
    cases ru
    have P1 := I1.pin (a, oe) (List.mem_append_left _ List.mem_cons_self)
    have hpin : L2H.PinOk (X.suite a ((a, oe) :: pn)).stack H1 s1 (a, oe) := ⟨P1.1, P1.2.1, fun hm => (List.mem_cons.mp (I1.stkSub a hm)).elim P1.2.2.1 P1.2.2.2.1, P1.2.2.2.2⟩
    have b := hb s1 [.ref a] I1.kIn rfl
    rw [List.append_nil] at b
    have hrr := hr.mono hk
    refine ⟨I1.kIn, wpAny_call (codeAny_mono (run y z C h1 h2 (X.suite a ((a, oe) :: pn)).A _ s1 H1 _ Q (fun _ _ _ => False) (a, oe) ⟨hrr.dp, hrr.un⟩ rfl hpin hz hf I1.env0 b h6) fun res s' hq => ?_)⟩
    match res, hq with
    | .error e, hq => obtain ⟨_, _, _, _, _, _, _, _, _, _, _, _, ⟨⟩⟩ := hq
    | .ok (.ret u), hq => exact I1.after hq
theorem ds_tryK {i : Nat} (KO : KindOk X.prog X.w X.K X.mg X.base k x kf) (CO : CatchOk X.K X.mg q0 kf) (hr : Room j X.A) (hk : k ≤ j) (hs : X.stack = X.env :: X.outer) (hf : X.env.frame = some X.env.locals) (hN : X.N.Nodup) (tk : L2N.Takes X fun cls d σ H => E σ cls d H)
    (hb : ∀ (E' : St → XK) (pn : List (Addr × Obj)) (xe : Value → Shared → Prop), L2N.Takes (X.tr pn xe) (fun cls d σ H => E' σ cls d H) → PassesOwn (model X.prog X.w) X.A X.env xe → DenSs (X.tr pn xe) E' body cb)
    (hi : X.N[i]? = some n := by rfl) (hln : X.env.kindOf n = some .local := by rfl) (hgq : Gl X q0 := by rfl) (hgx : Gl X x := by rfl) (hdq : (q0 == ("__debug__" : Str)) = false := by decide) (hd : (n == ("__debug__" : Str)) = false := by decide) (hcd : (n == ("__classdict__" : Str)) = false := by decide)
    (hdb : (x == ("__debug__" : Str)) = false := by decide) (he : starEach [.Name n q] X.env = [(false, eval (.Name n q) X.env)] := by rfl) :
    DenS X E (.Try body [.ExceptHandler (some (.Name q0 np)) (some n) [.Return (some (.Call (.Name x p) [.Name n q] [] pos)) pos2] pos'] [] [] pos3) (sTryK i cb kf) := by
  obtain ⟨B, hB, hC⟩ := CO.ex
  refine PS.imp (L2N.ps_try_as hs hf hN hi hln ⟨hgq, hdq, .inl hB⟩ tk (tb := fun W => tS X.K X.mg (fun σ cls d H => W cls d σ H) cb) (ts := fun a cls d => tRet (tKindE X.K X.mg kf i a cls d)) (fun W pn xe t hp => hb _ pn xe t hp)
    (fun a oe cls d pn hz hf => pss_one (ps_ret (pe_kind KO hr hz.zc hf hk hgx hi hln hd hcd hdb he)))) fun Dn σ H q => ?_
  obtain ⟨Hd, al, rho, m, s, e, P⟩ := q
  refine ⟨Hd, al, rho, m, s, e, ?_⟩
  unfold sTryK at P
  cases hc : cb rho m with
  | ex c rho' m' =>
    rw [hc] at P
    cases c with
    | low _ _ _ => exact P.elim
    | own y =>
      dsimp only at P
      split at P
      · rename_i z hkz
        split at P
        · rename_i hl
          intro al' H' σ' cls dd g s' e' xo
          obtain ⟨rfl, C, h1, rfl⟩ := xo
          obtain ⟨C', h1', h2⟩ := hC y z hkz
          have eC : C' = C := by rw [h1] at h1'; cases h1'; rfl
          subst eC
          refine ⟨true, h2, fun _ a na => ?_, fun h => (nomatch h)⟩
          exact ⟨y, z, C', hkz, h1, rfl, rfl, List.getElem?_set_self (by rw [← e'.1]; exact hl), Hd, al', m', s', fun al2 H2 g2 s2 => P al2 none H2 _ (g.trans g2) s2 ⟨rfl, rfl⟩⟩
        · exact P.elim
      · exact P.elim
  | nx r m' => rw [hc] at P; exact P
  | rt w m' => rw [hc] at P; exact P
  | bk r m' => rw [hc] at P; exact P
  | ct r m' => rw [hc] at P; exact P
  | no => rw [hc] at P; exact P
end
end Den
/-! Den12: a callee picked from a list of defs; ghosts; repr, str; isinstance of data. -/
namespace Den
open PySem PySem.Spec PyProof.Rows L2

/-! ### [f, g, ..][i](..) -/
abbrev FnM := Str × Nat × (List W → Mem → Rs W)
def mPick (fs : List FnM) (i : EM W) (c : EM (List W)) : EM W := fun rho m => (i rho m).bindV fun w m1 => match intOf w with
  | some j => if 0 ≤ j then (match fs[j.toNat]? with | some t => (c rho m1).bind fun ws m2 => if ws.length = t.2.1 then t.2.2 ws m2 else .no | none => .no) else .no
  | none => .no
def tK (vs : List V) : TA := fun _ H Q => Q vs H
section
variable {X : Cx} {E : St → XK} {k j : Nat} {ei e : Expr} {es : List Expr} {i : EM W} {c : EM (List W)} {p pos lp sp : Pos}
/-- names of defs, in a row -/
structure DefsAt (X : Cx) (ns : List Expr) (fs : List FnM) : Prop where
  ex : ∃ as : List Addr, PA X ns (tK (as.map V.ref)) ∧ as.length = fs.length ∧ ∀ (j : Nat) (t : FnM) (a : Addr), fs[j]? = some t → as[j]? = some a → X.mg t.1 = some (.ref a)
theorem defs_nil : DefsAt X [] [] := ⟨[], pa_nil, rfl, fun j t a h => by cases h⟩
theorem defs_cons {x : Str} {q : Pos} {ns : List Expr} {fs : List FnM} {n : Nat} {fm : List W → Mem → Rs W} (h : DefsAt X ns fs) (C : ∃ f, X.mg x = some (.ref f)) (hg : Gl X x := by rfl) (hd : (x == ("__debug__" : Str)) = false := by decide)
    (hs : starEach (.Name x q :: ns) X.env = (false, eval (.Name x q) X.env) :: starEach ns X.env := by rfl) : DefsAt X (.Name x q :: ns) ((x, n, fm) :: fs) := by
  obtain ⟨as, h1, h2, h3⟩ := h
  obtain ⟨f, hm⟩ := C
  refine ⟨f :: as, PA.imp (pa_cons (pe_glob (v := .ref f) hg hm rfl hd) h1 hs) fun _ _ _ q => q, by rw [List.length_cons, List.length_cons, h2], fun j t a e1 e2 => ?_⟩
  cases j with
  | zero => cases e1; cases e2; exact hm
  | succ j => exact h3 j t a e1 e2
theorem den_pick {ns : List Expr} {fs : List FnM} (Ds : DefsAt X ns fs) (Cs : ∀ t ∈ fs, CalG X.prog X.w X.K X.mg X.base k t.1 t.2.1 t.2.2) (hz : fs.length ≤ 1000) (hi : Den X E ei i) (hr : Room j X.A) (hgu : X.A.guards = some []) (hx : ∀ σ, PassesAt (L2N.CX X.prog X.w) X σ (E σ)) (ha : DenA X E (e :: es) c)
    (hk : k ≤ j := by decide) (hpi : PlainIx ei := by exact fun _ _ => rfl) (he : starEach (e :: es) X.env = (false, eval e X.env) :: starEach es X.env := by rfl) (hpl : (backTo pos (starEach es X.env)).any (·.1) = false := by rfl) :
    Den X E (.Call (.Subscript (.List ns lp) ei sp) (e :: es) [] pos) (mPick fs i c) := by
  obtain ⟨as, h1, h2, h3⟩ := Ds.ex
  refine ⟨fun pins s σ H Q I q => ?_⟩
  show wpAny _ _ (do callWith pos (← eval (.Subscript (.List ns lp) ei sp) X.env) [] (backTo pos (starEach (e :: es) X.env)) (backToKw pos (keywordEach [] X.env))) _ _ _
  obtain ⟨Hd, al, rho, m, st, en, P⟩ := q
  have callee : PE X (.Subscript (.List ns lp) ei sp) _ := pe_ix ix_list (pe_lst h1) hi hpi
  refine wpAny_bind (thn (callee.run pins s σ H (fun v H1 => ∃ (t : FnM) (f : Addr), t ∈ fs ∧ X.mg t.1 = some (.ref f) ∧ v = .ref f ∧ ∃ Hd al rho m, Stt X.K Hd al none H1 m ∧ EnvOk X.K X.mg (Own Hd al m none) al H1 rho σ ∧
    Post X.K X.mg Hd al m H1 (E σ) ((c rho m).bind fun ws m2 => if ws.length = t.2.1 then t.2.2 ws m2 else .no) fun w al' p m' H' => ∀ v, RepW X.K X.mg (Own Hd al' m' p) p al' H' w v → Q v H') I ?_) fun u s1 hh => ?_)
  · refine ⟨by rw [List.length_map, h2]; have := sizeLine_eq; omega, fun b hb => ?_⟩
    have g0 : Go Hd al m none H al m none (upd H b (.lst (as.map V.ref))) := go_new hb (.inl rfl)
    refine ⟨Hd, al, rho, m, stt_new st hb (.inl rfl), en.go g0, (Post.bindV (Post.go g0 P)).imp fun w al1 p1 m1 H1 g s1 k v rv => ?_⟩
    obtain ⟨g1, s1', rv1, P1⟩ := k v rv
    split at P1
    · rename_i jj hj
      have ev := intOf_ok rv1 hj
      subst ev
      split at P1
      · rename_i h0
        split at P1
        · rename_i t ht
          obtain ⟨hl, _⟩ := List.getElem?_eq_some_iff.mp ht
          have hla : jj.toNat < as.length := by rw [h2]; exact hl
          have ga : as[jj.toNat]? = some as[jj.toNat] := List.getElem?_eq_getElem hla
          have hb1 : H1 b = some (.lst (as.map V.ref)) := g.ext.oth b _ upd_same fun z => by
            obtain ⟨o, ho⟩ := st.own z
            rw [hb] at ho; cases ho
          refine ⟨b, as.map V.ref, jj, .ref as[jj.toNat], rfl, rfl, .inl (.inl hb1), ?_, t, as[jj.toNat], List.mem_of_getElem? ht, h3 _ t _ ht ga, rfl, Hd, al1, rho, m1, s1', (en.go g0).go g1, P1⟩
          unfold atI ixN
          rw [if_pos h0, if_pos (by rw [List.length_map]; omega)]
          show (as.map V.ref)[jj.toNat]? = _
          rw [List.getElem?_map, ga]; rfl
        · exact P1.elim
      · exact P1.elim
    · exact P1.elim
  · obtain ⟨v, H1, I1, r1, t, f, tm, hm, rfl, q1⟩ := hh
    cases r1
    obtain ⟨f', fd, ps, F, hm', kp, hb, hn⟩ := (Cs t tm).ex
    have ef : f' = f := by rw [hm] at hm'; cases hm'; rfl
    subst ef
    refine PySem.W.callWith_K (h₀ := X.base) I.ok.mod.kin kp (thn (ha.run pos pins s1 σ H1 (fun vs H2 => spM X.K X.mg t.2.1 t.2.2 vs H2 Q (E σ)) I1 ?_) fun us s2 hh => ?_) he hpl
    · obtain ⟨Hd, al, rho, m, st, en, P⟩ := q1
      refine ⟨Hd, al, rho, m, st, en, (Post.bind P).imp fun ws al1 p1 m1 H1 g s1 k hp vs rv => ?_⟩
      subst hp
      have P1 := k rfl
      split at P1
      · rename_i hl
        exact ⟨Hd, al1, ws, m1, hl, s1, rv, P1⟩
      · exact P1.elim
    · obtain ⟨vs, H2, I2, r, q2⟩ := hh
      exact ⟨I2.kIn, run_G F (hr.mono hk) hgu hb (hx σ) I2 r q2⟩
end

/-! ### a ghost: the list that slot i holds is written no more -/
def frzW (n : Nat) (x : D) : Option W → Option W
  | some (.r k) => if k = n then some (.d x) else some (.r k)
  | w => w
def sFrz (i : Nat) (c : SM) : SM := fun rho m => match rho[i]? with
  | some (some (.r n)) => (match m[n]? with | some (some x) => c (rho.map (frzW n x)) (m.set n none) | _ => .no)
  | _ => c rho m
section
variable {X : Cx} {E : St → XK} {sts : List Stmt} {c : SM}
theorem tS_frz {i : Nat} {Dn : Ends} {σ : St} {H : Hp} (q : tS X.K X.mg E (sFrz i c) Dn σ H) : tS X.K X.mg E c Dn σ H := by
  obtain ⟨Hd, al, rho, m, s, e, P⟩ := q
  unfold sFrz at P
  split at P
  · rename_i n hi
    split at P
    · rename_i x hx
      obtain ⟨v0, h1, h2⟩ := e.2 i _ hi
      have hf : frz m (.r n) = some (x, m.set n none) := by unfold frz; dsimp only; rw [hx]
      obtain ⟨s1, g1, rx⟩ := frz_ok s h2 hf
      refine ⟨Hd, al, rho.map (frzW n x), m.set n none, s1, ⟨by rw [List.length_map]; exact e.1, fun k w hk => ?_⟩, ?_⟩
      · rw [List.getElem?_map] at hk
        cases hr : rho[k]? with
        | none => rw [hr] at hk; cases hk
        | some ow =>
          rw [hr] at hk
          have hk' : frzW n x ow = some w := Option.some.inj hk
          cases ow with
          | none => exact absurd (show (none : Option W) = some w from hk') (fun z => nomatch z)
          | some w0 =>
            obtain ⟨v, q1, q2⟩ := e.2 k w0 hr
            cases w0 with
            | r k2 =>
              unfold frzW at hk'
              dsimp only at hk'
              split at hk'
              · rename_i ek
                subst ek
                cases hk'
                refine ⟨v, q1, rfl, ?_⟩
                obtain ⟨_, a, ha, rfl⟩ := h2
                obtain ⟨_, a', ha', rfl⟩ := q2
                have ea : a' = a := by rw [ha] at ha'; cases ha'; rfl
                rw [ea]; exact rx
              · cases hk'; exact ⟨v, q1, q2.go g1⟩
            | d y => cases (show some (W.d y) = some w from hk'); exact ⟨v, q1, q2.go g1⟩
            | n y => cases (show some (W.n y) = some w from hk'); exact ⟨v, q1, q2.go g1⟩
            | f y => cases (show some (W.f y) = some w from hk'); exact ⟨v, q1, q2.go g1⟩
            | s y => cases (show some (W.s y) = some w from hk'); exact ⟨v, q1, q2.go g1⟩
            | e y => cases (show some (W.e y) = some w from hk'); exact ⟨v, q1, q2.go g1⟩
      · exact PostS.go g1 P
    · exact P.elim
  · exact ⟨Hd, al, rho, m, s, e, P⟩
theorem dss_frz {i : Nat} (h : DenSs X E sts c) : DenSs X E sts (sFrz i c) := PSs.imp h fun _ _ _ q => tS_frz q
end

/-! ### repr of data -/
def rReprD (K : PySem.W.Frag) : List V → Hp → VK → Prop := fun xs H Q => ∃ (y : V) (d : D), xs = [y] ∧ Dp K H y d ∧ d.showable = true ∧ d.hasDict = false ∧ d.depth ≤ 60 ∧ d.shown.length ≤ sizeLine ∧ Q (.str d.shown) H
theorem cr_repr {X : Cx} (hg : X.A.guards = some []) (hu : X.A.units + 65 < cLine) : CallR X (.builtin "repr") (rReprD X.K) := by
  intro pins s σ H vs us Q I r h
  obtain ⟨y, d, rfl, hd, h1, h2, h3, h4, q⟩ := h
  obtain ⟨u, rfl, ru⟩ := r.one
  obtain ⟨as, rd⟩ := Dp.reads I d y u hd ru
  have big : ∀ a, Reads s.heap (.ref a) d as → wpAny (model X.prog X.w) X.A (call (.builtin "repr") [.ref a]) (EP X pins σ Q) X.xe s := fun a rd => repr_of_reads' rd h1 (fun z => by rw [h2] at z; cases z) hg (by omega) (fun _ _ z => z)
    (fun h' u tk keep => ⟨.str d.shown, H, I.kept (t' := tk) keep, ⟨u, rfl⟩, q⟩) h4
  cases rd with
  | none => exact PySem.P.repr_of_none ⟨.str _, H, I.tok _, ⟨_, rfl⟩, q⟩
  | bool b => exact PySem.P.repr_of_bool ⟨.str _, H, I.tok _, ⟨_, rfl⟩, q⟩
  | int i t => exact PySem.P.repr_of_int (of_decide_eq_true h1) ⟨.str _, H, I.tok _, ⟨_, rfl⟩, q⟩
  | str x t => exact PySem.P.repr_of_str ⟨.str _, H, I.tok _, ⟨_, rfl⟩, q⟩ h4
  | list a b c e => exact big _ (.list a b c e)
  | tuple a b c e => exact big _ (.tuple a b c e)
  | dict _ _ _ _ => exact absurd h2 (by simp [PyData.hasDict])
def reprOk (d : D) : Bool := d.showable && !d.hasDict && decide (d.depth ≤ 60) && small d.shown.length
def reprD (d : D) : Option D := if reprOk d then some (.str d.shown) else none
theorem ca_repr {X : Cx} : Ca X (rReprD X.K) (fD1 reprD) := ca_D1 fun O H x v y Q rv e k => by
  obtain ⟨c, e⟩ := ite_none e
  cases e
  unfold reprOk at c
  simp only [Bool.and_eq_true, Bool.not_eq_true', decide_eq_true_eq] at c
  obtain ⟨⟨⟨c1, c2⟩, c3⟩, c4⟩ := c
  exact ⟨v, x, rfl, rv.dp c2, c1, c2, c3, small_line c4, k _ rfl⟩
end Den
/-! Den13: the law's end. -/
namespace Den
open PySem PySem.Spec PyProof.Rows L2
section
variable {P : Program} {w : World} {K : PySem.W.Frag} {mg mb : Str → Option Value} {k : Nat} {fa a : Addr} {fd : FuncData} {x : Str} {s₁ : Shared} {vs : List Value} {ns : List Int} {fm : List W → Mem → Rs W}
/-- what is tracked at the law's call: the script, where it is no object of the module -/
noncomputable def scrH (K : PySem.W.Frag) (a : Addr) (vs : List Value) (ns : List Int) : Hp := fun b => if b = a ∧ K.lookup a = none then some (.frz { cls := .type "list", data := .seq vs.toArray } (.lst (ns.map V.int))) else none
theorem scrH_some {b : Addr} {u : HO} (h : scrH K a vs ns b = some u) : b = a ∧ K.lookup a = none ∧ u = .frz { cls := .type "list", data := .seq vs.toArray } (.lst (ns.map V.int)) := by
  unfold scrH at h
  by_cases c : b = a ∧ K.lookup a = none
  · rw [if_pos c] at h; cases h; exact ⟨c.1, c.2, rfl⟩
  · rw [if_neg c] at h; cases h
theorem law_G (KX : K.In s₁.heap) (hns : s₁.heap.Ns mainGlobals mg) (hb : s₁.heap.Ns builtinsNs mb) (hbb : ∀ x : Str, x ≠ "__name__" → mb x = bootBuiltins x) (hlim : s₁.heap.NoLimit) (hg : s₁.gens = #[])
    (ha : s₁.heap.get? a = some { cls := .type "list", data := .seq vs.toArray }) (hi : IntsAre vs ns) (hl : ns.length ≤ sizeLine) (hr : Room k callerA) (hgu : callerA.guards = some [])
    (F : ∀ base : Heap, K.In base → base.Ns mainGlobals mg → FnG P w K mg base k fa fd [x] (spM K mg 1 fm)) (hbind : ∀ (s : Shared) (u : Value), BindsTo s fd ⟨[u], []⟩ [(x, u)])
    (law : fm [.s (ns.map .int)] [] = .ok (.d (.bool true)) []) :
    codeAny (model P w) callerA (.call (.ref fa) ⟨[.ref a], []⟩) (fun r s' => r = .ok (.ret (.bool true)) ∧ OldK s₁.heap s'.heap ∧ s'.os = s₁.os ∧ AllBare s'.gens) s₁ := by
  have rv := vals_ints hi
  generalize hHp : scrH K a vs ns = H
  have only : ∀ b u, H b = some u → b = a ∧ K.lookup a = none ∧ u = .frz { cls := .type "list", data := .seq vs.toArray } (.lst (ns.map V.int)) := fun b u h => scrH_some (by rw [hHp]; exact h)
  have dictFree : ∀ {b : Addr} {o : Obj} {es : Array DictEntry} {ep : Nat}, s₁.heap.get? b = some o → o.data = .dict es ep → H b = none := fun {b o es ep} e d => by
    cases q : H b with
    | none => rfl
    | some u =>
      have z := only b u q
      rw [z.1, ha] at e
      cases e
      cases (show Data.seq vs.toArray _ = Data.dict es ep from d)
  have keepNs : ∀ {b : Addr} {m : Str → Option Value}, s₁.heap.Ns b m → (hidT s₁.heap H).Ns b m := fun ⟨o, es, ep, e, d, r⟩ => ⟨o, es, ep, hidT_get e (dictFree e d), d, r⟩
  have keepK : K.In (hidT s₁.heap H) := fun b o e => hidT_get (KX b o e) (by
    cases q : H b with
    | none => rfl
    | some u =>
      have z := only b u q
      rw [z.1, z.2.1] at e
      cases e)
  obtain ⟨mc, c1, c2⟩ := id hlim
  have hok : HOk P w H s₁.heap := fun b u e => by
    obtain ⟨rfl, _, rfl⟩ := only b u e
    exact ⟨ha, by rw [List.length_map]; exact hl, vs, _, rv, ha⟩
  have env : Env0 P w K mg (hidT s₁.heap H) callerA [] s₁ H := ⟨rfl, ⟨keepK, keepNs hns, ⟨mb, keepNs hb, hbb⟩, mc, keepNs c1, c2⟩, fun b o e => of_hidT e, Nat.le_of_eq (hidT_size _ _), trivial, fun b z => absurd (show b ∈ ([] : List Addr) from z) (by simp), hok, .of_eq hg⟩
  have script : SqS K H a (ns.map V.int) := by
    cases q : K.lookup a with
    | none => exact .inl ⟨_, by rw [← hHp]; exact if_pos ⟨rfl, q⟩⟩
    | some o =>
      have e := KX a o q
      rw [ha] at e
      cases e
      exact .inr ⟨_, vs.toArray, _, q, rfl, rfl, rfl, by rw [List.size_toArray, hi.length]; exact hl, by simpa using rv⟩
  have st0 : Stt K (fun _ => False) [] none H [] := ⟨rfl, fun r a o h => by simp at h, fun r r' a h => by simp at h, fun a r h => (nomatch h), fun a h => h.elim⟩
  have sp0 : spM K mg 1 fm [.ref a] H (fun v _ => v = .bl true) fun _ _ _ => False := by
    refine ⟨fun _ => False, [], [.s (ns.map .int)], [], rfl, st0, ⟨_, _, rfl, ⟨rfl, a, _, rfl, script, ints_repDs ns⟩, rfl⟩, ?_⟩
    rw [law]
    exact fun al' p H' g s v r => r.2
  refine codeAny_mono ((F _ keepK (keepNs hns)).run callerA [] s₁ H ⟨[.ref a], []⟩ [.ref a] [.ref a] _ _ hr hgu env (hbind s₁ (.ref a)) (.cons rfl .nil) sp0) fun r s' h => ?_
  match r, h with
  | .error e, h => obtain ⟨_, _, _, _, _, _, _, _, _, _, _, _, ⟨⟩⟩ := h
  | .ok (.ret u), ⟨v, H', os, bare, un, hok', r', q⟩ =>
    cases (show v = .bl true from q)
    cases (show u = Value.bool true from r')
    refine ⟨rfl, OldK.of_keep fun b o e => ?_, os, bare⟩
    cases q : H b with
    | none => exact un.keep b o e q (fun z => absurd (show b ∈ ([] : List Addr) from z) (by simp)) (by simp)
    | some u =>
      obtain ⟨rfl, _, rfl⟩ := only b u q
      obtain ⟨z2, _⟩ := hok' b _ (un.frzs b _ _ q)
      rw [ha] at e
      cases e
      exact z2
theorem walk_G {l : PySem.W.OpenLaw} {n k : Nat} {q : Program} {loose : List Str} {XP : (Str → Option Value) → Heap → Prop} {YP : World → Heap → Prop} {d : DefRec} {K : Params → PySem.W.Frag} {x : Str} {fm : List W → Mem → Rs W}
    (hn : l.most = some n) (hn2 : n ≤ sizeLine) (hdf : d.params.defaults = []) (hr : Room k callerA) (hgu : callerA.guards = some []) (hY : ∀ (w : World) (h : Heap), YP w h → (K w.params).In h)
    (F : ∀ (w : World) (mg : Str → Option Value) (fa : Addr) (h : Heap), (K w.params).In h → h.Ns mainGlobals mg → mg d.name = some (.ref fa) →
      ∃ fd : FuncData, (∀ (s : Shared) (u : Value), BindsTo s fd ⟨[u], []⟩ [(x, u)]) ∧ ∀ base : Heap, (K w.params).In base → base.Ns mainGlobals mg → FnG l.prog w (K w.params) mg base k fa fd [x] (spM (K w.params) mg 1 fm))
    (law : ∀ ns : List Int, ns.length ≤ n → fm [.s (ns.map .int)] [] = .ok (.d (.bool true)) []) : PySem.W.WalkO q loose XP YP l.row.toRowW d [] (fun f vs => PySem.call f vs) := by
  refine Att.attach_call hn hdf fun w s₀ s₁ mg mb fa o pm cd doc a vs ns G Y ho hd hcd hmg hobj hints hlen hg => ?_
  obtain ⟨fd, hb, hF⟩ := F w mg fa _ (hY w _ Y) G.T.g hmg
  exact law_G (hY w _ Y) G.T.g G.T.b G.T.builtins G.T.nolimit hg hobj hints (Nat.le_trans hlen hn2) hr hgu hF hb (law ns hlen)
end
end Den
/-! Den14: what the printed texts lean on. -/
namespace Den
open PySem PySem.Spec PyProof.Rows L2
theorem u65 {A : Around} {k : Nat} (hr : Room k A) : A.units + 65 < cLine := by have := hr.un; omega
theorem u64 {A : Around} {k : Nat} (hr : Room k A) : A.units + 64 < cLine := by have := hr.un; omega
theorem passNo {X : Cx} : ∀ σ : St, PassesAt (L2N.CX X.prog X.w) X σ (E0' σ) := fun _ _ _ _ _ _ _ c => by
  obtain ⟨_, _, _, _, _, _, _, _, _, _, _, _, ⟨⟩⟩ := c
section
variable {X : Cx} {E : St → XK} {x : Str} {pos : Pos}
theorem den_gi {i : Int} (hg : Gl X x) (hm : ∃ t, X.mg x = some (.int i t)) (hd : (x == ("__debug__" : Str)) = false := by decide) : Den X E (.Name x pos) (mC (.int i)) := by
  obtain ⟨t, hm⟩ := hm
  exact den_const (pe_glob (v := .int i) hg hm ⟨t, rfl⟩ hd) fun _ _ _ => rfl
theorem den_gs {y : Str} (hg : Gl X x) (hm : ∃ t, X.mg x = some (.str y t)) (hd : (x == ("__debug__" : Str)) = false := by decide) : Den X E (.Name x pos) (mC (.str y)) := by
  obtain ⟨t, hm⟩ := hm
  exact den_const (pe_glob (v := .str y) hg hm ⟨t, rfl⟩ hd) fun _ _ _ => rfl
end
section
variable {P : Program} {w : World} {K : PySem.W.Frag} {mg : Str → Option Value} {base : Heap} {k j n : Nat} {f : Addr} {x : Str} {st : Stmt} {fd : FuncData} {N ps : List Str} {c : SM} {fm : List W → Mem → Rs W}
theorem def_go (F : Fun K x x st f fd) (S : FnScope N ps (defScope st))
    (hbody : ∀ (cdv : Value) (A : Around) (outer : List PySem.Env) (s : Shared) (H : Hp) (E : XK), Room k (A.deeper (envOfC x (defScope st) s.heap.objs.size f cdv)) → (A.deeper (envOfC x (defScope st) s.heap.objs.size f cdv)).guards = some [] →
      L2N.Takes (cxOf (L2N.CX P w) P w K mg base N x (defScope st) f cdv A outer s H E) (fun cls d σ H => EK E σ cls d H) →
      (∀ σ, PassesAt (L2N.CX P w) (cxOf (L2N.CX P w) P w K mg base N x (defScope st) f cdv A outer s H E) σ (EK E σ)) →
      PassesOwn (model P w) (A.deeper (envOfC x (defScope st) s.heap.objs.size f cdv)) (envOfC x (defScope st) s.heap.objs.size f cdv) (cxOf (L2N.CX P w) P w K mg base N x (defScope st) f cdv A outer s H E).xe →
      DenSs (cxOf (L2N.CX P w) P w K mg base N x (defScope st) f cdv A outer s H E) (EK E) (defBody st) c) : FnG P w K mg base (k + 1) f fd ps (spM K mg ps.length (runF N.length c)) :=
  def_ok F S fun cdv A outer s H E hr hgu =>
    have tk : L2N.Takes (cxOf (L2N.CX P w) P w K mg base N x (defScope st) f cdv A outer s H E) (fun cls d σ H => EK E σ cls d H) := L2N.takes_of rfl rfl rfl rfl
    hbody cdv A outer s H E hr hgu tk (fun σ => L2N.passAt tk σ) (passes_of (X := cxOf (L2N.CX P w) P w K mg base N x (defScope st) f cdv A outer s H E) rfl)
theorem CalG.mono (C : CalG P w K mg base j x n fm) (h : j ≤ k) : CalG P w K mg base k x n fm := by
  obtain ⟨f, fd, ps, F, h1, h2, h3, h4⟩ := C.ex
  exact ⟨f, fd, ps, F.mono h, h1, h2, h3, h4⟩
theorem all_nil : ∀ t ∈ ([] : List FnM), CalG P w K mg base k t.1 t.2.1 t.2.2 := fun t h => nomatch h
theorem all_cons {fs : List FnM} (h : CalG P w K mg base k x n fm) (h2 : ∀ t ∈ fs, CalG P w K mg base k t.1 t.2.1 t.2.2) : ∀ t ∈ (x, n, fm) :: fs, CalG P w K mg base k t.1 t.2.1 t.2.2 := fun t ht => by
  rcases List.mem_cons.mp ht with rfl | ht
  · exact h
  · exact h2 t ht
/-- a def as it is called -/
theorem cal_mk (G : FnG P w K mg base k f fd ps (spM K mg n fm)) (F : Fun K x x st f fd) (hm : mg x = some (.ref f)) (hb : Binds K fd ps []) (hn : ps.length = n) : CalG P w K mg base k x n fm := ⟨f, fd, ps, G, hm, F.kp, hb, hn⟩
end
/-- the kinds of errors that the laws' helper tells -/
def kindTab : Str → Option Str := fun x =>
  if x = "NotChain" then some "!chain" else if x = "NotNet" then some "!net" else if x = "NotTrace" then some "!trace" else if x = "NotPaper" then some "!paper" else
  if x = "BadNumber" then some "!number" else if x = "NoAnswer" then some "!none" else if x = "TooLarge" then some "!large" else none
end Den
/-! Den15: the def that tells a caught error's kind. -/
namespace Den
open PySem PySem.Spec PyProof.Rows L2
theorem uH {A : Around} {k : Nat} (hr : L2H.RoomH k A) : A.units + 65 < cLine := by have := hr.un; omega
theorem uH4 {A : Around} {k : Nat} (hr : L2H.RoomH k A) : A.units + 64 < cLine := by have := hr.un; omega
section
variable {P : Program} {w : World} {K : PySem.W.Frag} {mg : Str → Option Value} {base : Heap} {k : Nat} {f : Addr} {x : Str} {st : Stmt} {fd : FuncData} {N : List Str} {kf : Str → Option Str}
theorem kind_mk (F : Fun K x x st f fd) (S : FnScope N ["error"] (defScope st)) (hb : Binds K fd ["error"] []) (hm : mg x = some (.ref f)) (c : Addr → Str → SM)
    (hbody : ∀ (y z : Str) (C : Addr), kf y = some z → mg y = some (.ref C) → ∀ (cdv : Value) (A : Around) (outer : List PySem.Env) (s : Shared) (H : Hp) (a : Addr) (oe : Obj), L2H.RoomH k (A.deeper (envOfC x (defScope st) s.heap.objs.size f cdv)) → Zc (.ref C) none oe → (∃ vs, oe.data = .fields vs) →
      DenSs (cxE P w K mg base N x (defScope st) f cdv A outer s H (a, oe)) E0' (defBody st) (c a y))
    (hval : ∀ y z : Str, kf y = some z → ∀ (a : Addr) (m : Mem), c a y (startE N.length [.e a]) m = .rt (.d (.str z)) m) : KindOk P w K mg base (k + 1) x kf := by
  refine ⟨f, fd, hm, F.kp, hb, fun y z C h1 h2 A outer s H args Q E p hr hh hpin hz hf e0 hbt q => ?_⟩
  obtain ⟨a, oe⟩ := p
  refine fn_E F S (p := (a, oe)) (vs := [V.ref a]) (us := [Value.ref a]) hr hh hpin e0 hbt (.cons rfl .nil) rfl fun cdv hr2 => ⟨_, hbody y z C h1 h2 cdv A outer s H a oe hr2 hz hf, ?_⟩
  obtain ⟨Hd, al, m, st0, q⟩ := q
  have rv : RepWs K mg (Own Hd al m none) al H [.e a] [.ref a] := ⟨_, _, rfl, ⟨rfl, rfl⟩, rfl⟩
  refine ⟨Hd, al, startE N.length [.e a], m, st0, envOk_start rv, ?_⟩
  rw [hval y z h1]
  intro al' p' H' v g s' rv'
  obtain ⟨rfl, e⟩ := rv'
  have e' : v = .str z := e
  subst e'
  exact q al' H' g s'
end
theorem kindTab_cases {y z : Str} (h : kindTab y = some z) : (y = "NotChain" ∧ z = "!chain") ∨ (y = "NotNet" ∧ z = "!net") ∨ (y = "NotTrace" ∧ z = "!trace") ∨ (y = "NotPaper" ∧ z = "!paper") ∨
    (y = "BadNumber" ∧ z = "!number") ∨ (y = "NoAnswer" ∧ z = "!none") ∨ (y = "TooLarge" ∧ z = "!large") := by
  unfold kindTab at h
  repeat' (split at h)
  · rename_i e; cases h; exact .inl ⟨e, rfl⟩
  · rename_i e; cases h; exact .inr (.inl ⟨e, rfl⟩)
  · rename_i e; cases h; exact .inr (.inr (.inl ⟨e, rfl⟩))
  · rename_i e; cases h; exact .inr (.inr (.inr (.inl ⟨e, rfl⟩)))
  · rename_i e; cases h; exact .inr (.inr (.inr (.inr (.inl ⟨e, rfl⟩))))
  · rename_i e; cases h; exact .inr (.inr (.inr (.inr (.inr (.inl ⟨e, rfl⟩)))))
  · rename_i e; cases h; exact .inr (.inr (.inr (.inr (.inr (.inr ⟨e, rfl⟩)))))
  · cases h
/-- what the written part says of the classes of errors -/
structure KindT (K : PySem.W.Frag) (mg : Str → Option Value) : Prop where
  cls : ∀ y z : Str, kindTab y = some z → ∃ C, mg y = some (.ref C) ∧ ExcC K C ∧ ∀ y2 z2 : Str, kindTab y2 = some z2 → ∃ D, mg y2 = some (.ref D) ∧ PySem.W.kitOne K (.ref C) (.ref D) = some (decide (y2 = y))
end Den
/-! Den16: the mirrors evaluated (simp), comprehensions and loops by invariants. -/
namespace Den
open PySem PySem.Spec PyProof.Rows L2
section
variable {β γ : Type} {b : β} {m m1 : Mem} {w w2 : W} {c : Exc} {rho : Env}
@[simp] theorem ev_bind {k : β → Mem → Rs γ} : (Rs.ok b m).bind k = k b m := rfl
@[simp] theorem ev_bindX {k : β → Mem → Rs γ} : (Rs.ex c m : Rs β).bind k = .ex c m := rfl
@[simp] theorem ev_bindN {k : β → Mem → Rs γ} : (Rs.no : Rs β).bind k = .no := rfl
@[simp] theorem ev_bindV {k : W → Mem → Rs γ} : (Rs.ok w m).bindV k = k (val w) m := rfl
@[simp] theorem ev_bindVX {k : W → Mem → Rs γ} : (Rs.ex c m : Rs W).bindV k = .ex c m := rfl
@[simp] theorem ev_thenS {k : β → Mem → Out} : (Rs.ok b m).thenS rho k = k b m := rfl
@[simp] theorem ev_thenSX {k : β → Mem → Out} : (Rs.ex c m : Rs β).thenS rho k = .ex c rho m := rfl
@[simp] theorem ev_thenV {k : W → Mem → Out} : (Rs.ok w m).thenV rho k = k (val w) m := rfl
@[simp] theorem ev_thenVX {k : W → Mem → Out} : (Rs.ex c m : Rs W).thenV rho k = .ex c rho m := rfl
@[simp] theorem val_d {x : D} : val (.d x) = .d x := rfl
@[simp] theorem val_n {x : D} : val (.n x) = .d x := rfl
@[simp] theorem val_r {n : Nat} : val (.r n) = .r n := rfl
@[simp] theorem val_s {xs : List D} : val (.s xs) = .s xs := rfl
@[simp] theorem val_f {x : Str} : val (.f x) = .f x := rfl
@[simp] theorem peek_d {x : D} : peek m (.d x) = some x := rfl
@[simp] theorem peek_n {x : D} : peek m (.n x) = some x := rfl
@[simp] theorem peek_r {n : Nat} : peek m (.r n) = (m[n]?).join := rfl
@[simp] theorem frz_d {x : D} : frz m (.d x) = some (x, m) := rfl
@[simp] theorem frz_n {x : D} : frz m (.n x) = some (x, m) := rfl
@[simp] theorem frzAll_nil : frzAll [] m = some ([], m) := rfl
@[simp] theorem frzAll_d {x : D} {ws : List W} : frzAll (.d x :: ws) m = match frzAll ws m with | some (xs, m2) => some (x :: xs, m2) | none => none := rfl
@[simp] theorem frzAll_n {x : D} {ws : List W} : frzAll (.n x :: ws) m = match frzAll ws m with | some (xs, m2) => some (x :: xs, m2) | none => none := rfl
end
section
variable {rho : Env} {m : Mem} {a b c : EM W} {r : EM (List W)} {t u : EM Bool} {s d : SM} {i n : Nat}
@[simp] theorem e_C {x : D} : mC x rho m = .ok (.d x) m := rfl
@[simp] theorem e_Var : mVar i rho m = match rho[i]? with | some (some w) => .ok w m | _ => .no := rfl
@[simp] theorem e_F {x : Str} : mF x rho m = .ok (.f x) m := rfl
@[simp] theorem e_Nil : mNil rho m = .ok [] m := rfl
@[simp] theorem e_Cons : mCons a r rho m = (a rho m).bindV fun x m1 => (r rho m1).bind fun xs m2 => .ok (x :: xs) m2 := rfl
@[simp] theorem e_Op1 {f : W → Mem → Rs W} : mOp1 a f rho m = (a rho m).bindV f := rfl
@[simp] theorem e_Op2 {f : W → W → Mem → Rs W} : mOp2 a b f rho m = (a rho m).bindV fun x m1 => (b rho m1).bindV fun y m2 => f x y m2 := rfl
@[simp] theorem e_Tup : mTup r rho m = (r rho m).bind fun ws m1 => match frzAll ws m1 with | some (xs, m2) => if small xs.length then .ok (.d (.tuple xs)) m2 else .no | none => .no := rfl
@[simp] theorem e_Lst : mLst r rho m = (r rho m).bind fun ws m1 => match frzAll ws m1 with | some (xs, m2) => if small xs.length then .ok (.n (.list xs)) m2 else .no | none => .no := rfl
@[simp] theorem e_Tru : mTru a rho m = (a rho m).bindV truW := rfl
@[simp] theorem e_Bool : mBool a rho m = (a rho m).bindV fun w m1 => match w with | .d (.bool b) => .ok b m1 | _ => .no := rfl
@[simp] theorem e_AndT : mAndT t u rho m = (t rho m).bind fun b m1 => if b = true then u rho m1 else .ok false m1 := rfl
@[simp] theorem e_OrT : mOrT t u rho m = (t rho m).bind fun b m1 => if b = true then .ok true m1 else u rho m1 := rfl
@[simp] theorem e_NotT : mNotT t rho m = (t rho m).bind fun b m1 => .ok (!b) m1 := rfl
@[simp] theorem e_AndV : mAndV a b rho m = (a rho m).bindV fun w m1 => (truW w m1).bind fun k m2 => if k = true then b rho m2 else .ok w m2 := rfl
@[simp] theorem e_OrV : mOrV a b rho m = (a rho m).bindV fun w m1 => (truW w m1).bind fun k m2 => if k = true then .ok w m2 else b rho m2 := rfl
@[simp] theorem e_NotV : mNotV a rho m = (a rho m).bindV fun w m1 => (truW w m1).bind fun k m2 => .ok (.d (.bool (!k))) m2 := rfl
@[simp] theorem e_If : mIf t a b rho m = (t rho m).bind fun k m1 => if k = true then a rho m1 else b rho m1 := rfl
@[simp] theorem e_Add : mAdd a b rho m = (a rho m).bindV fun x m1 => (b rho m1).bindV fun y m2 => lift2 addD x y m2 := rfl
@[simp] theorem e_Sub : mSub a b rho m = (a rho m).bindV fun x m1 => (b rho m1).bindV fun y m2 => lift2 (onI fun i j => some (.int (i - j))) x y m2 := rfl
@[simp] theorem e_Mul : mMul a b rho m = (a rho m).bindV fun x m1 => (b rho m1).bindV fun y m2 => lift2 mulD x y m2 := rfl
@[simp] theorem e_Fdiv : mFdiv a b rho m = (a rho m).bindV fun x m1 => (b rho m1).bindV fun y m2 => lift2 (onI fdivD) x y m2 := rfl
@[simp] theorem e_Mod : mMod a b rho m = (a rho m).bindV fun x m1 => (b rho m1).bindV fun y m2 => lift2 (onI modD) x y m2 := rfl
@[simp] theorem e_Neg : mNeg a rho m = (a rho m).bindV (lift1 negD) := rfl
@[simp] theorem e_Ix : mIx a b rho m = (a rho m).bindV fun x m1 => (b rho m1).bindV fun y m2 => fIx x y m2 := rfl
@[simp] theorem e_B {f : List W → Mem → Rs W} : mB r f rho m = (r rho m).bind f := rfl
@[simp] theorem e_Call {fm : List W → Mem → Rs W} : mCall n fm r rho m = (r rho m).bind fun ws m1 => if ws.length = n then fm ws m1 else .no := rfl
@[simp] theorem e_M {T : Kd} {f : W → List W → Mem → Rs W} : mM T a r f rho m = (a rho m).bindV fun w m1 => match peek m1 w with | some x => if T.ok x then (r rho m1).bind fun ws m2 => f w ws m2 else .no | none => .no := rfl
@[simp] theorem e_oN : oNone rho m = .ok none m := rfl
@[simp] theorem e_oS : oSome a rho m = (a rho m).bindV fun w m1 => match w with | .d (.int i) => .ok (some i) m1 | _ => .no := rfl
@[simp] theorem e_Sl {l h : EM (Option Int)} : mSl a l h rho m = (a rho m).bindV fun w m1 => (l rho m1).bind fun l m2 => (h rho m2).bind fun h m3 => fSl w l h m3 := rfl
@[simp] theorem e_Chain {f g : W → W → Mem → Rs W} : mChain f g a b c rho m = (a rho m).bindV fun x m1 => (b rho m1).bindV fun y m2 => (f x y m2).bindV fun r m3 =>
  match r with | .d (.bool true) => (c rho m3).bindV fun z m4 => g y z m4 | .d (.bool false) => .ok (.d (.bool false)) m3 | _ => .no := rfl
@[simp] theorem e_Rg1 : mRg1 a rho m = (a rho m).bindV fun w m1 => match w with | .d (.int i) => .ok ((0 : Int), i) m1 | _ => .no := rfl
@[simp] theorem e_Rg2 : mRg2 a b rho m = (a rho m).bindV fun w m1 => (b rho m1).bindV fun w2 m2 => match w, w2 with | .d (.int i), .d (.int j) => .ok (i, j) m2 | _, _ => .no := rfl
@[simp] theorem e_LstRg {q : EM (Int × Int)} : mLstRg q rho m = (q rho m).bind fun b m1 => if rgOk b.1 b.2 then .ok (.n (.list (rangeD b.1 b.2))) m1 else .no := rfl
@[simp] theorem e_tYes : tYesT rho m = .ok true m := rfl
-- statements
@[simp] theorem e_Seq : sSeq s d rho m = match s rho m with | .nx rho' m' => d rho' m' | o => o := rfl
@[simp] theorem e_Skip : sSkip rho m = .nx rho m := rfl
@[simp] theorem e_Set : sSet i a rho m = (a rho m).thenV rho fun w m1 => .nx (rho.set i (some w)) m1 := rfl
@[simp] theorem e_SetR : sSetR i a rho m = (a rho m).thenS rho fun w m1 => match w with | .n x => .nx (rho.set i (some (.r m1.length))) (m1 ++ [some x]) | _ => .no := rfl
@[simp] theorem e_Drop : sDrop a rho m = (a rho m).thenV rho fun _ m1 => .nx rho m1 := rfl
@[simp] theorem e_Ret : sRet a rho m = (a rho m).thenS rho fun w m1 => .rt w m1 := rfl
@[simp] theorem e_IfS : sIf t s d rho m = (t rho m).thenS rho fun b m1 => if b = true then s rho m1 else d rho m1 := rfl
@[simp] theorem e_Raise {x : Str} : sRaise x rho m = .ex (.own x) rho m := rfl
@[simp] theorem e_Break : sBreak rho m = .bk rho m := rfl
@[simp] theorem e_Cont : sCont rho m = .ct rho m := rfl
@[simp] theorem e_For {it : EM (List D)} {g : GM} : sFor it g s rho m = (it rho m).thenS rho fun items m1 => forL g s items rho m1 := rfl
@[simp] theorem e_gN {w : W} : gN i w rho m = some (rho.set i (some w), m) := rfl
@[simp] theorem e_Items : mItems a rho m = (a rho m).bindV fun w m1 => match w with | .d x => (match seqOf x with | some ds => .ok ds m1 | none => .no) | .s ds => .ok ds m1 | _ => .no := rfl
@[simp] theorem seqOf_t {ds : List D} : seqOf (.tuple ds) = some ds := rfl
@[simp] theorem seqOf_l {ds : List D} : seqOf (.list ds) = some ds := rfl
end
section
variable {m : Mem} {w w2 : W} {x y : D} {i j : Int} {ds es : List D} {z : Str}
@[simp] theorem f_lift2 {g : D → D → Option W} : lift2 g w w2 m = match peek m w, peek m w2 with | some a, some b => (match g a b with | some w => .ok w m | none => .no) | _, _ => .no := rfl
@[simp] theorem f_D1 {g : D → Option D} : fD1 g [w] m = match peek m w with | some x => (match g x with | some y => .ok (.d y) m | none => .no) | none => .no := rfl
@[simp] theorem f_D2 {g : D → D → Option D} : fD2 g [w, w2] m = match peek m w, peek m w2 with | some x, some y => (match g x y with | some z => .ok (.d z) m | none => .no) | _, _ => .no := rfl
@[simp] theorem f_N1 {g : D → Option (List D)} : fN1 g [w] m = match peek m w with | some x => (match g x with | some ys => .ok (.n (.list ys)) m | none => .no) | none => .no := rfl
@[simp] theorem f_Tup : fTup [w] m = match peek m w with | some (.list ds) => .ok (.d (.tuple ds)) m | some (.tuple ds) => .ok (.d (.tuple ds)) m | _ => .no := rfl
@[simp] theorem f_MD {g : D → D → Option D} : fMD g w [w2] m = match peek m w, peek m w2 with | some x, some y => (match g x y with | some z => .ok (.d z) m | none => .no) | _, _ => .no := rfl
@[simp] theorem f_Ix : fIx w w2 m = match peek m w, peek m w2 with | some x, some y => (match ixD x y with | some z => .ok (.d z) m | none => .no) | _, _ => .no := rfl
@[simp] theorem f_Sl {lo hi : Option Int} : fSl w lo hi m = match peek m w with
  | some (.list ds) => .ok (.n (.list (cutD ds lo hi))) m | some (.tuple ds) => .ok (.d (.tuple (cutD ds lo hi))) m | some (.str z) => if small z.length then .ok (.d (.str ⟨(cutD z.cps.toList lo hi).toArray⟩)) m else .no | _ => .no := rfl
@[simp] theorem f_pop {n : Nat} : fPop (.r n) [] m = match m[n]? with | some (some (.list ds)) => (match ds[ds.length - 1]? with | some x => .ok (.d x) (m.set n (some (.list ds.dropLast))) | none => .no) | _ => .no := rfl
@[simp] theorem f_rev {n : Nat} : fReverse (.r n) [] m = match m[n]? with | some (some (.list ds)) => .ok (.d .none) (m.set n (some (.list ds.reverse))) | _ => .no := rfl
@[simp] theorem f_app {n : Nat} : fAppend (.r n) [.d x] m = match m[n]? with | some (some (.list ds)) => if small (ds.length + 1) then .ok (.d .none) (m.set n (some (.list (ds ++ [x])))) else .no | _ => .no := rfl
@[simp] theorem f_ext {n : Nat} : fExtend (.r n) [.d (.list es)] m = match m[n]? with | some (some (.list ds)) => if small (ds.length + es.length) then .ok (.d .none) (m.set n (some (.list (ds ++ es)))) else .no | _ => .no := rfl
@[simp] theorem on_ii {f : Int → Int → Option D} : onI f (.int i) (.int j) = (f i j).map W.d := rfl
@[simp] theorem add_i : addD (.int i) (.int j) = some (.d (.int (i + j))) := rfl
@[simp] theorem add_l : addD (.list ds) (.list es) = if small (ds.length + es.length) then some (.n (.list (ds ++ es))) else none := rfl
@[simp] theorem add_t : addD (.tuple ds) (.tuple es) = if small (ds.length + es.length) then some (.d (.tuple (ds ++ es))) else none := rfl
@[simp] theorem neg_i : lift1 negD (.d (.int i)) m = .ok (.d (.int (-i))) m := rfl
@[simp] theorem lt_i : ltD (.int i) (.int j) = some (.d (.bool (decide (i < j)))) := rfl
@[simp] theorem le_i : leD (.int i) (.int j) = some (.d (.bool (decide (i ≤ j)))) := rfl
@[simp] theorem gt_i : gtD (.int i) (.int j) = some (.d (.bool (decide (j < i)))) := rfl
@[simp] theorem ge_i : geD (.int i) (.int j) = some (.d (.bool (decide (j ≤ i)))) := rfl
@[simp] theorem len_l : lenD (.list ds) = some (.int (ds.length : Nat)) := rfl
@[simp] theorem len_t : lenD (.tuple ds) = some (.int (ds.length : Nat)) := rfl
@[simp] theorem abs_i : absD (.int i) = some (.int (if i < 0 then -i else i)) := rfl
@[simp] theorem int_i : intD (.int i) = some (.int i) := rfl
@[simp] theorem int_b {b : Bool} : intD (.bool b) = some (.int (if b then 1 else 0)) := rfl
@[simp] theorem max_i : maxD (.int i) (.int j) = some (.int (if j > i then j else i)) := rfl
@[simp] theorem min_i : minD (.int i) (.int j) = some (.int (if j < i then j else i)) := rfl
@[simp] theorem list_l : listD (.list ds) = some ds := rfl
@[simp] theorem list_t : listD (.tuple ds) = some ds := rfl
@[simp] theorem ix_l : ixD (.list ds) (.int i) = atI ds i := rfl
@[simp] theorem ix_t : ixD (.tuple ds) (.int i) = atI ds i := rfl
@[simp] theorem tru_d : truW (.d x) m = match truD x with | some b => .ok b m | none => .no := rfl
@[simp] theorem tru_b {b : Bool} : truD (.bool b) = some b := rfl
@[simp] theorem tru_l : truD (.list ds) = some (!ds.isEmpty) := rfl
@[simp] theorem tru_t : truD (.tuple ds) = some (!ds.isEmpty) := rfl
@[simp] theorem tru_i : truD (.int i) = some (i != 0) := rfl
@[simp] theorem tru_r {n : Nat} : truW (.r n) m = match (m[n]?).join with | some x => (match truD x with | some b => .ok b m | none => .no) | none => .no := rfl
@[simp] theorem kd_l : Kd.ok .lst (.list ds) = true := rfl
@[simp] theorem kd_s : Kd.ok .str (.str z) = true := rfl
theorem small_le {n : Nat} (h : n ≤ 1000000) : small n = true := decide_eq_true h
theorem sum_ints (ns : List Int) : sumD (.list (ns.map .int)) = some (.int ns.sum) := by unfold sumD; dsimp only; rw [intsOf_map]
theorem all_bools (bs : List Bool) : allD (.list (bs.map .bool)) = some (.bool (bs.all id)) := by unfold allD; dsimp only; rw [boolsOf_map]
theorem any_bools (bs : List Bool) : anyD (.list (bs.map .bool)) = some (.bool (bs.any id)) := by unfold anyD; dsimp only; rw [boolsOf_map]
end
/-! ### comprehensions, loops -/
theorem compL_inv {vs : List Nat} {g : GM} {t : EM Bool} {a : EM W} {rho : Env} (I : Nat → Mem → List D → Prop) : ∀ (items : List D) (k : Nat) (m : Mem) (acc : List D), I k m acc →
    (∀ (i : Nat) (h : i < items.length) m1 acc, I (k + i) m1 acc → ∃ r1 b m2, g (.d items[i]) (wipeE rho vs) m1 = some (r1, m1) ∧ t r1 m1 = .ok b m2 ∧ (b = false → I (k + i + 1) m2 acc) ∧
      (b = true → ∃ w m3 y m4, a r1 m2 = .ok w m3 ∧ frz m3 (val w) = some (y, m4) ∧ I (k + i + 1) m4 (acc ++ [y]))) → ∃ acc' m', compL vs g t a items acc rho m = .ok acc' m' ∧ I (k + items.length) m' acc'
  | [], k, m, acc, h0, _ => ⟨acc, m, rfl, h0⟩
  | x :: items, k, m, acc, h0, H => by
    obtain ⟨r1, b, m2, h1, h2, h3, h4⟩ := H 0 (by simp) m acc h0
    have e : k + (x :: items).length = k + 1 + items.length := by rw [List.length_cons]; omega
    rw [e]
    have H' : ∀ (i : Nat) (h : i < items.length) m1 acc, I (k + 1 + i) m1 acc → ∃ r1 b m2, g (.d items[i]) (wipeE rho vs) m1 = some (r1, m1) ∧ t r1 m1 = .ok b m2 ∧ (b = false → I (k + 1 + i + 1) m2 acc) ∧
        (b = true → ∃ w m3 y m4, a r1 m2 = .ok w m3 ∧ frz m3 (val w) = some (y, m4) ∧ I (k + 1 + i + 1) m4 (acc ++ [y])) := fun i h m1 acc hI => by
      have := H (i + 1) (by simp; omega) m1 acc (by rw [show k + (i + 1) = k + 1 + i by omega]; exact hI)
      rw [show k + (i + 1) = k + 1 + i by omega] at this
      exact this
    unfold compL
    dsimp only [List.getElem_cons_zero] at h1
    rw [h1]
    dsimp only
    rw [h2]
    cases b with
    | false =>
      rw [ev_bind, if_neg Bool.false_ne_true]
      exact compL_inv I items (k + 1) m2 acc (h3 rfl) H'
    | true =>
      obtain ⟨w, m3, y, m4, q1, q2, q3⟩ := h4 rfl
      rw [ev_bind, if_pos rfl, q1, ev_bindV, q2]
      exact compL_inv I items (k + 1) m4 (acc ++ [y]) q3 H'
theorem mLC_inv {it : EM (List D)} {vs : List Nat} {g : GM} {t : EM Bool} {a : EM W} {rho : Env} {m m0 : Mem} {items : List D} (I : Nat → Mem → List D → Prop) (hit : it rho m = .ok items m0) (hs : items.length ≤ 1000000) (h0 : I 0 m0 [])
    (H : ∀ (i : Nat) (h : i < items.length) m1 acc, I i m1 acc → ∃ r1 b m2, g (.d items[i]) (wipeE rho vs) m1 = some (r1, m1) ∧ t r1 m1 = .ok b m2 ∧ (b = false → I (i + 1) m2 acc) ∧
      (b = true → ∃ w m3 y m4, a r1 m2 = .ok w m3 ∧ frz m3 (val w) = some (y, m4) ∧ I (i + 1) m4 (acc ++ [y]))) : ∃ acc m', mLC it vs g t a rho m = .ok (.n (.list acc)) m' ∧ I items.length m' acc := by
  unfold mLC mComp
  rw [hit, ev_bind, if_pos (small_le hs)]
  obtain ⟨acc, m', h1, h2⟩ := compL_inv (vs := vs) (g := g) (t := fun r m => calmR (t r m)) (a := fun r m => calmR (a r m)) (rho := rho) I items 0 m0 [] h0 fun i h m1 acc hI => by
    rw [Nat.zero_add] at hI ⊢
    obtain ⟨r1, b, m2, q1, q2, q3, q4⟩ := H i h m1 acc hI
    refine ⟨r1, b, m2, q1, by rw [q2]; rfl, q3, fun hb => ?_⟩
    obtain ⟨w, m3, y, m4, z1, z2, z3⟩ := q4 hb
    exact ⟨w, m3, y, m4, by rw [z1]; rfl, z2, z3⟩
  rw [Nat.zero_add] at h2
  exact ⟨acc, m', by rw [h1]; rfl, h2⟩
/-- nothing is changed: a filter and a map -/
theorem mLC_map {it : EM (List D)} {vs : List Nat} {g : GM} {t : EM Bool} {a : EM W} {rho : Env} {m m0 : Mem} {items : List D} (p : D → Bool) (f : D → D) (hit : it rho m = .ok items m0) (hs : items.length ≤ 1000000)
    (H : ∀ x ∈ items, ∃ r1, g (.d x) (wipeE rho vs) m0 = some (r1, m0) ∧ t r1 m0 = .ok (p x) m0 ∧ (p x = true → ∃ w, a r1 m0 = .ok w m0 ∧ frz m0 (val w) = some (f x, m0))) : mLC it vs g t a rho m = .ok (.n (.list ((items.filter p).map f))) m0 := by
  obtain ⟨acc, m', h1, rfl, rfl⟩ := mLC_inv (vs := vs) (g := g) (t := t) (a := a) (fun i m1 acc => m1 = m0 ∧ acc = ((items.take i).filter p).map f) hit hs ⟨rfl, rfl⟩ fun i h m1 acc hI => by
    obtain ⟨rfl, rfl⟩ := hI
    obtain ⟨r1, q1, q2, q3⟩ := H items[i] (List.getElem_mem h)
    refine ⟨r1, p items[i], m1, q1, q2, fun hp => ⟨rfl, ?_⟩, fun hp => ?_⟩
    · rw [List.take_succ_eq_append_getElem h, List.filter_append, List.filter_cons_of_neg (by rw [hp]; simp)]; simp
    · obtain ⟨w, z1, z2⟩ := q3 hp
      refine ⟨w, m1, f items[i], m1, z1, z2, rfl, ?_⟩
      rw [List.take_succ_eq_append_getElem h, List.filter_append, List.filter_cons_of_pos hp]; simp
  rw [h1, List.take_length]
theorem forL_inv {g : GM} {c : SM} (I : Nat → Env → Mem → Prop) (J : Env → Mem → Prop) : ∀ (items : List D) (k : Nat) (rho : Env) (m : Mem), I k rho m →
    (∀ (i : Nat) (h : i < items.length) rho m, I (k + i) rho m → ∃ r1 m1, g (.d items[i]) rho m = some (r1, m1) ∧ ((∃ r m', c r1 m1 = .nx r m' ∧ I (k + i + 1) r m') ∨ (∃ r m', c r1 m1 = .ct r m' ∧ I (k + i + 1) r m') ∨ ∃ r m', c r1 m1 = .bk r m' ∧ J r m')) →
    ∃ r m', forL g c items rho m = .nx r m' ∧ (I (k + items.length) r m' ∨ J r m')
  | [], k, rho, m, h0, _ => ⟨rho, m, rfl, .inl h0⟩
  | x :: items, k, rho, m, h0, H => by
    obtain ⟨r1, m1, h1, h2⟩ := H 0 (by simp) rho m h0
    have e : k + (x :: items).length = k + 1 + items.length := by rw [List.length_cons]; omega
    rw [e]
    have H' : ∀ (i : Nat) (h : i < items.length) rho m, I (k + 1 + i) rho m → ∃ r1 m1, g (.d items[i]) rho m = some (r1, m1) ∧ ((∃ r m', c r1 m1 = .nx r m' ∧ I (k + 1 + i + 1) r m') ∨ (∃ r m', c r1 m1 = .ct r m' ∧ I (k + 1 + i + 1) r m') ∨ ∃ r m', c r1 m1 = .bk r m' ∧ J r m') := fun i h rho m hI => by
      have := H (i + 1) (by simp; omega) rho m (by rw [show k + (i + 1) = k + 1 + i by omega]; exact hI)
      rw [show k + (i + 1) = k + 1 + i by omega] at this
      exact this
    unfold forL
    dsimp only [List.getElem_cons_zero] at h1
    rw [h1]
    dsimp only
    rcases h2 with ⟨r, m', q1, q2⟩ | ⟨r, m', q1, q2⟩ | ⟨r, m', q1, q2⟩
    · rw [q1]; exact forL_inv I J items (k + 1) r m' q2 H'
    · rw [q1]; exact forL_inv I J items (k + 1) r m' q2 H'
    · rw [q1]; exact ⟨r, m', rfl, .inr q2⟩
theorem for_inv {g : GM} {c : SM} {rho : Env} {m : Mem} (items : List D) (I : Nat → Env → Mem → Prop) (h0 : I 0 rho m)
    (H : ∀ (i : Nat) (h : i < items.length) rho m, I i rho m → ∃ r1 m1, g (.d items[i]) rho m = some (r1, m1) ∧ ∃ r m', c r1 m1 = .nx r m' ∧ I (i + 1) r m') : ∃ r m', forL g c items rho m = .nx r m' ∧ I items.length r m' := by
  obtain ⟨r, m', h1, h2⟩ := forL_inv (g := g) (c := c) I (fun _ _ => False) items 0 rho m h0 fun i h rho m hI => by
    rw [Nat.zero_add] at hI ⊢
    obtain ⟨r1, m1, q1, q2⟩ := H i h rho m hI
    exact ⟨r1, m1, q1, .inl q2⟩
  rw [Nat.zero_add] at h2
  exact ⟨r, m', h1, h2.resolve_right id⟩
end Den
/-! Den17: arithmetic and comparisons of the mirrors at ints. -/
namespace Den
open PySem PySem.Spec PyProof.Rows L2
@[simp] theorem shaped_i {i : Int} : SeqAt.shaped (.int i) = true := by unfold SeqAt.shaped; simp [PyData.canLay0, PyData.depth]
@[simp] theorem shaped_b {b : Bool} : SeqAt.shaped (.bool b) = true := by unfold SeqAt.shaped; simp [PyData.canLay0, PyData.depth]
@[simp] theorem eq_s {x y : Str} : eqD (.str x) (.str y) = some (.d (.bool (decide (x = y)))) := rfl
@[simp] theorem ne_s {x y : Str} : neD (.str x) (.str y) = some (.d (.bool (!decide (x = y)))) := rfl
@[simp] theorem eq_i {i j : Int} : eqD (.int i) (.int j) = some (.d (.bool (i == j))) := by unfold eqD; simp [PyData.eqv]
@[simp] theorem ne_i {i j : Int} : neD (.int i) (.int j) = some (.d (.bool (!(i == j)))) := by unfold neD; simp [PyData.eqv]
theorem mod_pos {i j : Int} (h : 0 < j) : modD i j = some (.int (i % j)) := by unfold modD; rw [if_pos (decide_eq_true h)]
theorem fdiv_ok {i j : Int} (h : decide (0 < j ∧ j.natAbs.log2 < 9000) = true) : fdivD i j = some (.int (i / j)) := by unfold fdivD; rw [if_pos h]
@[simp] theorem fdiv_1000 {i : Int} : fdivD i 1000 = some (.int (i / 1000)) := fdiv_ok (by decide)
@[simp] theorem fdiv_7 {i : Int} : fdivD i 7 = some (.int (i / 7)) := fdiv_ok (by decide)
@[simp] theorem mod_1000 {i : Int} : modD i 1000 = some (.int (i % 1000)) := mod_pos (by decide)
@[simp] theorem mod_a {i : Int} : modD i 2147483647 = some (.int (i % 2147483647)) := mod_pos (by decide)
@[simp] theorem mod_b {i : Int} : modD i 2147483629 = some (.int (i % 2147483629)) := mod_pos (by decide)
theorem log2_small {n : Nat} (h : n < 2 ^ 100) : n.log2 < 100 := by
  by_cases h0 : n = 0
  · subst h0; decide
  · exact (Nat.log2_lt h0).mpr h
theorem mul_small {i j : Int} (h : i.natAbs < 2 ^ 100) (h2 : j.natAbs < 2 ^ 100) : mulD (.int i) (.int j) = some (.d (.int (i * j))) := by
  have e : mulOk i j = true := by
    unfold mulOk
    have := log2_small h
    have := log2_small h2
    exact decide_eq_true (by omega)
  show (if mulOk i j = true then _ else _) = _
  rw [if_pos e]
theorem range_get {lo hi : Int} {i : Nat} (h : i < (rangeD lo hi).length) : (rangeD lo hi)[i] = .int (lo + (i : Int)) := by
  have e : (rangeD lo hi)[i]? = some (.int (lo + (i : Int))) := by
    have h' : i < (hi - lo).toNat := by unfold rangeD at h; simpa using h
    unfold rangeD
    rw [List.getElem?_map, List.getElem?_range h']; rfl
  exact Option.some.inj ((List.getElem?_eq_getElem h).symm.trans e)
@[simp] theorem range_len {lo hi : Int} : (rangeD lo hi).length = (hi - lo).toNat := by unfold rangeD; rw [List.length_map, List.length_range]
theorem range1_ok {a : EM W} {rho : Env} {m : Mem} {n : Int} (h : a rho m = .ok (.d (.int n)) m) (h0 : 0 ≤ n) (h1 : n ≤ 1000000) : mRange1 a rho m = .ok (rangeD 0 n) m := by
  have hm : midI n = true := decide_eq_true (by omega)
  unfold mRange1
  show (mCons a mNil rho m).bind _ = _
  rw [e_Cons, h]
  simp [intOf, hm]
@[simp] theorem ints_len {ns : List Int} : (ns.map PyData.int).length = ns.length := by simp
@[simp] theorem small_0 : small 0 = true := rfl
@[simp] theorem small_1 : small 1 = true := rfl
@[simp] theorem small_2 : small 2 = true := rfl
@[simp] theorem small_3 : small 3 = true := rfl
@[simp] theorem small_4 : small 4 = true := rfl
@[simp] theorem small_5 : small 5 = true := rfl
@[simp] theorem small_6 : small 6 = true := rfl
@[simp] theorem small_7 : small 7 = true := rfl
@[simp] theorem small_8 : small 8 = true := rfl
@[simp] theorem small_9 : small 9 = true := rfl
@[simp] theorem small_10 : small 10 = true := rfl
@[simp] theorem small_11 : small 11 = true := rfl
@[simp] theorem small_12 : small 12 = true := rfl
@[simp] theorem small_13 : small 13 = true := rfl
@[simp] theorem small_14 : small 14 = true := rfl
@[simp] theorem small_15 : small 15 = true := rfl
@[simp] theorem small_16 : small 16 = true := rfl
@[simp] theorem small_17 : small 17 = true := rfl
@[simp] theorem small_18 : small 18 = true := rfl
@[simp] theorem small_19 : small 19 = true := rfl
@[simp] theorem small_20 : small 20 = true := rfl
@[simp] theorem small_21 : small 21 = true := rfl
@[simp] theorem small_22 : small 22 = true := rfl
@[simp] theorem small_23 : small 23 = true := rfl
@[simp] theorem small_24 : small 24 = true := rfl
end Den
/-! Den18: data that can be shown: a bound of what repr writes. -/
namespace Den
open PySem PySem.Spec PyProof.Rows L2
mutual
/-- ints below 10^30, texts of small signs, lists and tuples of these -/
def tame : D → Bool
  | .none => true
  | .bool _ => true
  | .int i => decide (i.natAbs < 10 ^ 30)
  | .str x => x.cps.toList.all fun c => decide (c < 16 ^ 8)
  | .list xs => tames xs
  | .tuple xs => tames xs
  | .dict _ => false
def tames : List D → Bool
  | [] => true
  | x :: xs => tame x && tames xs
end
mutual
/-- at most so many signs -/
def rsz : D → Nat
  | .none => 4
  | .bool _ => 5
  | .int _ => 31
  | .str x => 10 * x.length + 2
  | .list xs => rszs xs + 3
  | .tuple xs => rszs xs + 3
  | .dict _ => 0
def rszs : List D → Nat
  | [] => 0
  | x :: xs => rsz x + 2 + rszs xs
end
theorem shown_n (xs : List D) : (PyData.shownAll xs).length = xs.length := by
  induction xs with
  | nil => rfl
  | cons x xs ih => simp only [PyData.shownAll, List.length_cons, ih]
mutual
theorem tame_ok : ∀ d : D, tame d = true → d.showable = true ∧ d.hasDict = false ∧ d.shown.length ≤ rsz d
  | .none, _ => ⟨by simp only [PyData.showable], by simp only [PyData.hasDict], by decide⟩
  | .bool b, _ => ⟨by simp only [PyData.showable], by simp only [PyData.hasDict], by cases b <;> decide⟩
  | .int i, h => by
    have hi : i.natAbs < 10 ^ 30 := by unfold tame at h; exact of_decide_eq_true h
    refine ⟨?_, by simp only [PyData.hasDict], ?_⟩
    · simp only [PyData.showable]
      have : i.natAbs.log2 < 100 := log2_small (Nat.lt_trans hi (by decide))
      exact decide_eq_true (by omega)
    · have e := int_text_length_le10 (a := i) (k := 30) (by decide) hi
      simp only [PyData.shown, rsz]
      rw [PySem.ofString_length]
      exact e
  | .str x, h => by
    refine ⟨by simp only [PyData.showable], by simp only [PyData.hasDict], ?_⟩
    have hx : ∀ c ∈ x.cps.toList, c < 16 ^ 8 := by unfold tame at h; exact fun c hc => of_decide_eq_true (List.all_eq_true.mp h c hc)
    simp only [PyData.shown, rsz]
    exact StrLaws.reprText_len x hx
  | .list xs, h => by
    obtain ⟨h1, h2, h3⟩ := tames_ok xs (by unfold tame at h; exact h)
    refine ⟨by simp only [PyData.showable]; exact h1, by simp only [PyData.hasDict]; exact h2, ?_⟩
    have q := listText_len_le (PyData.shownAll xs)
    rw [shown_n] at q
    simp only [PyData.shown, rsz]
    omega
  | .tuple xs, h => by
    obtain ⟨h1, h2, h3⟩ := tames_ok xs (by unfold tame at h; exact h)
    refine ⟨by simp only [PyData.showable]; exact h1, by simp only [PyData.hasDict]; exact h2, ?_⟩
    have q := tupleText_len_le (PyData.shownAll xs)
    rw [shown_n] at q
    simp only [PyData.shown, rsz]
    omega
  | .dict _, h => by unfold tame at h; cases h
theorem tames_ok : ∀ xs : List D, tames xs = true → PyData.showableAll xs = true ∧ PyData.hasDictAll xs = false ∧ ((PyData.shownAll xs).map (·.length)).sum + 2 * xs.length ≤ rszs xs
  | [], _ => ⟨by simp only [PyData.showableAll], by simp only [PyData.hasDictAll], by simp [PyData.shownAll, rszs]⟩
  | x :: xs, h => by
    unfold tames at h
    rw [Bool.and_eq_true] at h
    obtain ⟨a1, a2, a3⟩ := tame_ok x h.1
    obtain ⟨b1, b2, b3⟩ := tames_ok xs h.2
    refine ⟨by simp only [PyData.showableAll]; rw [a1, b1]; rfl, by simp only [PyData.hasDictAll]; rw [a2, b2]; rfl, ?_⟩
    simp only [PyData.shownAll, List.map_cons, List.sum_cons, List.length_cons, rszs]
    omega
end
theorem repr_tame {d : D} (h : tame d = true) (h2 : d.depth ≤ 60) (h3 : rsz d ≤ 1000000) : reprD d = some (.str d.shown) := by
  obtain ⟨a, b, c⟩ := tame_ok d h
  unfold reprD reprOk
  rw [a, b, decide_eq_true h2, small_le (by omega)]
  rfl
theorem tames_map {α : Type} (l : List α) (f : α → D) (h : ∀ x ∈ l, tame (f x) = true) : tames (l.map f) = true := by
  induction l with
  | nil => rfl
  | cons x l ih =>
    rw [List.map_cons]
    unfold tames
    rw [h x List.mem_cons_self, ih fun y hy => h y (List.mem_cons_of_mem _ hy)]
    rfl
theorem rszs_map {α : Type} (l : List α) (f : α → D) (c : Nat) (h : ∀ x ∈ l, rsz (f x) + 2 ≤ c) : rszs (l.map f) ≤ l.length * c := by
  induction l with
  | nil => exact Nat.zero_le _
  | cons x l ih =>
    rw [List.map_cons, List.length_cons]
    unfold rszs
    have := h x List.mem_cons_self
    have := ih fun y hy => h y (List.mem_cons_of_mem _ hy)
    rw [Nat.add_mul, Nat.one_mul]
    omega
theorem depthAll_map {α : Type} (l : List α) (f : α → D) (c : Nat) (h : ∀ x ∈ l, (f x).depth ≤ c) : PyData.depthAll (l.map f) ≤ c := by
  induction l with
  | nil => simp [PyData.depthAll]
  | cons x l ih =>
    rw [List.map_cons]
    simp only [PyData.depthAll]
    exact Nat.max_le.mpr ⟨h x List.mem_cons_self, ih fun y hy => h y (List.mem_cons_of_mem _ hy)⟩
/-- shaped: lists and tuples of ints -/
theorem canLay_map {α : Type} (l : List α) (f : α → D) (h : ∀ x ∈ l, (f x).canLay0 = true) : PyData.canLayAll0 (l.map f) = true := by
  induction l with
  | nil => simp [PyData.canLayAll0]
  | cons x l ih =>
    rw [List.map_cons]
    simp only [PyData.canLayAll0]
    rw [h x List.mem_cons_self, ih fun y hy => h y (List.mem_cons_of_mem _ hy)]
    rfl
theorem shaped_ints (l : List Int) : SeqAt.shaped (.list (l.map .int)) = true := by
  unfold SeqAt.shaped
  have h1 := canLay_map l PyData.int fun x _ => by simp [PyData.canLay0]
  have h2 := depthAll_map l PyData.int 1 fun x _ => by simp [PyData.depth]
  have e1 : (PyData.list (l.map PyData.int)).canLay0 = true := by simp only [PyData.canLay0]; exact h1
  have e2 : (PyData.list (l.map PyData.int)).depth ≤ 64 := by simp only [PyData.depth]; omega
  rw [e1, decide_eq_true e2]
  rfl
theorem shaped_intsT (l : List Int) : SeqAt.shaped (.tuple (l.map .int)) = true := by
  unfold SeqAt.shaped
  have h1 := canLay_map l PyData.int fun x _ => by simp [PyData.canLay0]
  have h2 := depthAll_map l PyData.int 1 fun x _ => by simp [PyData.depth]
  have e1 : (PyData.tuple (l.map PyData.int)).canLay0 = true := by simp only [PyData.canLay0]; exact h1
  have e2 : (PyData.tuple (l.map PyData.int)).depth ≤ 64 := by simp only [PyData.depth]; omega
  rw [e1, decide_eq_true e2]
  rfl
theorem eqvAll_ints (l k : List Int) : PyData.eqvAll (l.map .int) (k.map .int) = decide (l = k) := by
  induction l generalizing k with
  | nil => cases k <;> simp [PyData.eqvAll]
  | cons x l ih =>
    cases k with
    | nil => simp [PyData.eqvAll]
    | cons y k =>
      rw [List.map_cons, List.map_cons]
      simp only [PyData.eqvAll, PyData.eqv]
      rw [ih]
      by_cases h : x = y
      · subst h; simp
      · have : (x == y) = false := beq_eq_false_iff_ne.mpr h
        rw [this]; simp [h]
theorem ne_ints (l k : List Int) : neD (.list (l.map .int)) (.list (k.map .int)) = some (.d (.bool (!decide (l = k)))) := by
  show (if SeqAt.shaped (.list (l.map .int)) && SeqAt.shaped (.list (k.map .int)) then some (W.d (.bool (!PyData.eqv (.list (l.map .int)) (.list (k.map .int))))) else none) = _
  rw [shaped_ints, shaped_ints]
  simp [PyData.eqv, eqvAll_ints]
/-! sorted lists of ints -/
def leI (a b : Int) : Bool := decide (a ≤ b)
theorem sort_ints (l : List Int) : (l.map PyData.int).mergeSort (PySem.W.dataLe false id) = (l.mergeSort leI).map .int := by
  refine (List.map_mergeSort (r := leI) (s := PySem.W.dataLe false id) (f := PyData.int) (l := l) fun a _ b _ => ?_).symm
  show decide (a ≤ b) = (!(decide (b < a) || (!decide (a < b) && false)))
  by_cases h : a ≤ b
  · have h2 : ¬ b < a := by omega
    simp [h, h2]
  · have h2 : b < a := by omega
    simp [h, h2]
theorem leI_tot (a b : Int) : (leI a b || leI b a) = true := by
  unfold leI
  by_cases h : a ≤ b
  · simp [h]
  · have : b ≤ a := by omega
    simp [this]
theorem leI_trans (a b c : Int) (h : leI a b = true) (h2 : leI b c = true) : leI a c = true := by
  unfold leI at *
  have := of_decide_eq_true h
  have := of_decide_eq_true h2
  exact decide_eq_true (by omega)
theorem sorted_le (l : List Int) : (l.mergeSort leI).Pairwise (· ≤ ·) := by
  have h := List.pairwise_mergeSort (le := leI) leI_trans leI_tot l
  exact h.imp fun {a b} q => of_decide_eq_true q
/-- two sorted lists of the same are the same -/
theorem sorted_eq : ∀ {l k : List Int}, l.Pairwise (· ≤ ·) → k.Pairwise (· ≤ ·) → l.Perm k → l = k := fun {l k} h1 h2 p =>
  p.eq_of_pairwise (le := (· ≤ ·)) (fun a b _ _ x y => Int.le_antisymm x y) h1 h2
end Den
/-! Den19: comprehensions over mapped lists, more evaluation. -/
namespace Den
open PySem PySem.Spec PyProof.Rows L2
section
variable {it : EM (List D)} {vs : List Nat} {g : GM} {t : EM Bool} {a : EM W} {rho : Env} {m m0 : Mem}
theorem mLC_of {α : Type} (l : List α) (F : α → D) (p : α → Bool) (f : α → D) (hit : it rho m = .ok (l.map F) m0) (hs : l.length ≤ 1000000)
    (H : ∀ x ∈ l, ∃ r1, g (.d (F x)) (wipeE rho vs) m0 = some (r1, m0) ∧ t r1 m0 = .ok (p x) m0 ∧ (p x = true → ∃ w, a r1 m0 = .ok w m0 ∧ frz m0 (val w) = some (f x, m0))) : mLC it vs g t a rho m = .ok (.n (.list ((l.filter p).map f))) m0 := by
  obtain ⟨acc, m', h1, rfl, rfl⟩ := mLC_inv (vs := vs) (g := g) (t := t) (a := a) (fun i m1 acc => m1 = m0 ∧ acc = ((l.take i).filter p).map f) hit (by rw [List.length_map]; exact hs) ⟨rfl, rfl⟩ fun i h m1 acc hI => by
    obtain ⟨rfl, rfl⟩ := hI
    have h' : i < l.length := by rw [List.length_map] at h; exact h
    have e0 : (l.map F)[i] = F l[i] := by simp
    rw [e0]
    obtain ⟨r1, q1, q2, q3⟩ := H l[i] (List.getElem_mem h')
    refine ⟨r1, p l[i], m1, q1, q2, fun hp => ⟨rfl, ?_⟩, fun hp => ?_⟩
    · rw [List.take_succ_eq_append_getElem h', List.filter_append, List.filter_cons_of_neg (by rw [hp]; simp)]; simp
    · obtain ⟨w, z1, z2⟩ := q3 hp
      refine ⟨w, m1, f l[i], m1, z1, z2, rfl, ?_⟩
      rw [List.take_succ_eq_append_getElem h', List.filter_append, List.filter_cons_of_pos hp]; simp
  rw [h1, List.length_map, List.take_length]
theorem mLC_all {α : Type} (l : List α) (F : α → D) (f : α → D) (hit : it rho m = .ok (l.map F) m0) (hs : l.length ≤ 1000000)
    (H : ∀ x ∈ l, ∃ r1, g (.d (F x)) (wipeE rho vs) m0 = some (r1, m0) ∧ t r1 m0 = .ok true m0 ∧ ∃ w, a r1 m0 = .ok w m0 ∧ frz m0 (val w) = some (f x, m0)) : mLC it vs g t a rho m = .ok (.n (.list (l.map f))) m0 := by
  have h := mLC_of l F (fun _ => true) f hit hs fun x hx => by
    obtain ⟨r1, q1, q2, q3⟩ := H x hx
    exact ⟨r1, q1, q2, fun _ => q3⟩
  rw [h, show l.filter (fun _ => true) = l from List.filter_eq_self.mpr fun _ _ => rfl]
end
def pairIJ (p : Int × Int) : D := .tuple [.int p.1, .int p.2]
theorem zip_ints (a b : List Int) : ((a.map PyData.int).zip (b.map PyData.int)).map (fun p => PyData.tuple [p.1, p.2]) = (a.zip b).map pairIJ := by
  induction a generalizing b with
  | nil => rfl
  | cons x a ih => cases b with
    | nil => rfl
    | cons y b => simp only [List.map_cons, List.zip_cons_cons, ih]; rfl
section
variable {rho : Env} {m : Mem} {a b c : EM W} {r : EM (List W)} {i n : Nat}
@[simp] theorem e_Zip : mZip a b rho m = (mCons a (mCons b mNil) rho m).bind fun ws m1 => match ws with | [.d x, .d y] => (match zipD x y with | some ds => .ok ds m1 | none => .no) | _ => .no := rfl
@[simp] theorem zip_t {xs ys : List D} : zipD (.tuple xs) (.tuple ys) = some ((xs.zip ys).map fun p => .tuple [p.1, p.2]) := rfl
@[simp] theorem zip_l {xs ys : List D} : zipD (.list xs) (.list ys) = some ((xs.zip ys).map fun p => .tuple [p.1, p.2]) := rfl
@[simp] theorem intOf_i {i : Int} : intOf (.d (.int i)) = some i := rfl
@[simp] theorem e_Pick {fs : List FnM} {i : EM W} : mPick fs i r rho m = (i rho m).bindV fun w m1 => match intOf w with
  | some j => if 0 ≤ j then (match fs[j.toNat]? with | some t => (r rho m1).bind fun ws m2 => if ws.length = t.2.1 then t.2.2 ws m2 else .no | none => .no) else .no
  | none => .no := rfl
@[simp] theorem e_TryK {cb : SM} {kf : Str → Option Str} : sTryK i cb kf rho m = match cb rho m with
  | .ex (.own x) rho' m' => (match kf x with | some y => if i < rho'.length then .rt (.d (.str y)) m' else .no | none => .no)
  | .ex (.low _ _ _) _ _ => .no
  | r => r := rfl
@[simp] theorem e_gT {gs : List GM} {w : W} : gT gs w rho m = match (peek m w).bind seqOf with | some ds => if ds.length = gs.length then gAll gs ds rho m else none | none => none := rfl
@[simp] theorem gAll_nil : gAll [] [] rho m = some (rho, m) := rfl
@[simp] theorem gAll_cons {g : GM} {gs : List GM} {x : D} {xs : List D} : gAll (g :: gs) (x :: xs) rho m = match g (.d x) rho m with | some (rho', m') => gAll gs xs rho' m' | none => none := rfl
@[simp] theorem wipe_nil : wipeE rho [] = rho := rfl
@[simp] theorem wipe_cons {v : Nat} {vs : List Nat} : wipeE rho (v :: vs) = (wipeE rho vs).set v none := rfl
@[simp] theorem cut_1 {α : Type} {xs : List α} : cutD xs (some 1) none = xs.drop 1 := by
  unfold cutD
  have h : HT.sIx xs.length 0 (some 1) = min 1 xs.length := HT.sIx_nat xs.length 0 1
  rw [h]
  show (xs.drop (min 1 xs.length)).take (xs.length - min 1 xs.length) = xs.drop 1
  cases xs with
  | nil => rfl
  | cons x xs =>
    rw [show min 1 (x :: xs).length = 1 by rw [List.length_cons]; omega]
    exact List.take_of_length_le (by simp)
@[simp] theorem kind_chain : kindTab "NotChain" = some "!chain" := by decide
@[simp] theorem kind_net : kindTab "NotNet" = some "!net" := by decide
@[simp] theorem kind_trace : kindTab "NotTrace" = some "!trace" := by decide
@[simp] theorem kind_paper : kindTab "NotPaper" = some "!paper" := by decide
@[simp] theorem kind_number : kindTab "BadNumber" = some "!number" := by decide
@[simp] theorem kind_none : kindTab "NoAnswer" = some "!none" := by decide
@[simp] theorem kind_large : kindTab "TooLarge" = some "!large" := by decide
end
theorem all_true {α : Type} (l : List α) : allD (.list (l.map fun _ => .bool true)) = some (.bool true) := by
  have e : l.map (fun _ => PyData.bool true) = (l.map fun _ => true).map PyData.bool := by simp
  rw [e, all_bools]
  simp
end Den
namespace Law
open PySem PySem.Spec PyProof.Rows L2 Den
def topS (i : Nat) : Stmt := PySem.Challenge.pw_queuenets_k37_streams_that_meet.main.body.getD i (.Pass ⟨0, 0, 0, 0⟩)
def kindF : Str → Option Str := kindTab
def m_are_times : SM := sSeq (sIf (mOrT (mBool (mOp2 (mB (mCons (mVar 0) (mNil)) (fD1 lenD)) (mC (.int 100)) (lift2 gtD))) (mNotT (mTru (mB (mCons (mLC (mItems (mVar 0)) [1] (gN 1) (tYesT) (mChain (lift2 leD) (lift2 leD) (mC (.int 0)) (mVar 1) (mC (.int 1000000)))) (mNil)) (fD1 allD))))) (sSeq (sRet (mC (.bool false))) (sSkip)) (sSkip)) (sSeq (sRet (mB (mCons (mLC (mZip (mVar 0) (mSl (mVar 0) (oSome (mC (.int 1))) (oNone))) [2, 3] (gT [gN 2, gN 3]) (tYesT) (mOp2 (mVar 2) (mVar 3) (lift2 leD))) (mNil)) (fD1 allD))) (sSkip))
def F_are_times : List W → Mem → Rs W := runF 4 m_are_times
def m_check_streams : SM := sSeq (sIf (mOrT (mNotT (mTru (mCall 1 F_are_times (mCons (mVar 0) (mNil))))) (mNotT (mTru (mCall 1 F_are_times (mCons (mVar 1) (mNil)))))) (sSeq (sRaise "NotTrace") (sSkip)) (sSkip)) (sSkip)
def F_check_streams : List W → Mem → Rs W := runF 2 m_check_streams
def m_meetings : SM := sSeq (sDrop (mCall 2 F_check_streams (mCons (mVar 0) (mCons (mVar 1) (mNil))))) (sSeq (sRet (mB (mCons (mLC (mZip (mVar 0) (mVar 1)) [2, 3] (gT [gN 2, gN 3]) (tYesT) (mTup (mCons (mB (mCons (mVar 2) (mCons (mVar 3) (mNil))) (fD2 maxD)) (mCons (mSub (mVar 3) (mVar 2)) (mNil))))) (mNil)) fTup)) (sSkip))
def F_meetings : List W → Mem → Rs W := runF 4 m_meetings
def m_sum_of_waits : SM := sSeq (sDrop (mCall 2 F_check_streams (mCons (mVar 0) (mCons (mVar 1) (mNil))))) (sSeq (sRet (mB (mCons (mLC (mZip (mVar 0) (mVar 1)) [2, 3] (gT [gN 2, gN 3]) (tYesT) (mB (mCons (mSub (mVar 2) (mVar 3)) (mNil)) (fD1 absD))) (mNil)) (fD1 sumD))) (sSkip))
def F_sum_of_waits : List W → Mem → Rs W := runF 4 m_sum_of_waits
def m_waiting_at : SM := sSeq (sDrop (mCall 2 F_check_streams (mCons (mVar 0) (mCons (mVar 1) (mNil))))) (sSeq (sIf (mNotT (mBool (mChain (lift2 leD) (lift2 leD) (mC (.int 0)) (mVar 2) (mC (.int 1000000))))) (sSeq (sRaise "BadNumber") (sSkip)) (sSkip)) (sSeq (sRet (mSub (mB (mCons (mLC (mItems (mVar 0)) [3] (gN 3) (mBool (mOp2 (mVar 3) (mVar 2) (lift2 leD))) (mC (.int 1))) (mNil)) (fD1 lenD)) (mB (mCons (mLC (mItems (mVar 1)) [4] (gN 4) (mBool (mOp2 (mVar 4) (mVar 2) (lift2 leD))) (mC (.int 1))) (mNil)) (fD1 lenD)))) (sSkip)))
def F_waiting_at : List W → Mem → Rs W := runF 5 m_waiting_at
def m_pairing_waits : SM := sSeq (sDrop (mCall 2 F_check_streams (mCons (mVar 0) (mCons (mVar 1) (mNil))))) (sSeq (sIf (mOrT (mBool (mOp2 (mB (mCons (mVar 0) (mNil)) (fD1 lenD)) (mB (mCons (mVar 1) (mNil)) (fD1 lenD)) (lift2 neD))) (mBool (mOp2 (mB (mCons (mVar 2) (mNil)) (fN1 sortD)) (mLstRg (mRg1 (mB (mCons (mVar 0) (mNil)) (fD1 lenD)))) (lift2 neD)))) (sSeq (sRaise "BadNumber") (sSkip)) (sSkip)) (sSeq (sRet (mB (mCons (mLC (mZip (mVar 0) (mVar 2)) [3, 4] (gT [gN 3, gN 4]) (tYesT) (mB (mCons (mSub (mVar 3) (mIx (mVar 1) (mVar 4))) (mNil)) (fD1 absD))) (mNil)) (fD1 sumD))) (sSkip)))
def F_pairing_waits : List W → Mem → Rs W := runF 5 m_pairing_waits
def m__law_number : SM := sSeq (sIf (mBool (mOp2 (mVar 0) (mC (.int 0)) (lift2 ltD))) (sSeq (sRet (mSub (mC (.int 0)) (mVar 0))) (sSkip)) (sSkip)) (sSeq (sRet (mVar 0)) (sSkip))
def F__law_number : List W → Mem → Rs W := runF 1 m__law_number
def m__law_draws : SM := sSeq (sSetR 1 (mLst (mNil))) (sSeq (sFor (mItems (mVar 0)) (gN 2) (sSeq (sSet 3 (mCall 1 F__law_number (mCons (mVar 2) (mNil)))) (sSeq (sIf (mBool (mOp2 (mVar 3) (mC (.int 1000000000000000000)) (lift2 geD))) (sSeq (sFor (mRange1 (mC (.int 60))) (gN 4) (sSeq (sIf (mBool (mOp2 (mVar 3) (mC (.int 0)) (lift2 eqD))) (sSeq (sBreak) (sSkip)) (sSkip)) (sSeq (sDrop (mM .lst (mVar 1) (mCons (mMod (mB (mCons (mVar 3) (mNil)) (fD1 intD)) (mC (.int 1000))) (mNil)) fAppend)) (sSeq (sSet 3 (mFdiv (mVar 3) (mC (.int 1000)))) (sSkip))))) (sSkip)) (sSeq (sSet 5 (mMod (mB (mCons (mAdd (mMul (mVar 3) (mC (.int 48271))) (mC (.int 11))) (mNil)) (fD1 intD)) (mC (.int 2147483647)))) (sSeq (sSet 6 (mMod (mB (mCons (mAdd (mMul (mVar 5) (mC (.int 69621))) (mVar 3)) (mNil)) (fD1 intD)) (mC (.int 2147483629)))) (sSeq (sDrop (mM .lst (mVar 1) (mCons (mLst (mCons (mMod (mB (mCons (mVar 3) (mNil)) (fD1 intD)) (mC (.int 1000))) (mCons (mMod (mB (mCons (mVar 5) (mNil)) (fD1 intD)) (mC (.int 1000))) (mCons (mMod (mB (mCons (mVar 6) (mNil)) (fD1 intD)) (mC (.int 1000))) (mNil))))) (mNil)) fExtend)) (sSkip))))) (sSkip)))) (sSeq (sDrop (mM .lst (mVar 1) mNil fReverse)) (sSeq (sRet (mVar 1)) (sSkip))))
def F__law_draws : List W → Mem → Rs W := runF 7 m__law_draws
def m__law_flat : SM := sSeq (sSetR 1 (mLst (mNil))) (sSeq (sFor (mItems (mVar 0)) (gN 2) (sSeq (sDrop (mM .lst (mVar 1) (mCons (mVar 2) (mNil)) fExtend)) (sSkip))) (sSeq (sRet (mVar 1)) (sSkip)))
def F__law_flat : List W → Mem → Rs W := runF 3 m__law_flat
def m__law_next : SM := sSeq (sIf (mTru (mVar 0)) (sSeq (sRet (mM .lst (mVar 0) mNil fPop)) (sSkip)) (sSkip)) (sSeq (sRet (mC (.int 0))) (sSkip))
def F__law_next : List W → Mem → Rs W := runF 1 m__law_next
def m__law_more : SM := sSeq (sSet 2 (mAdd (mAdd (mMul (mC (.int 1000)) (mCall 1 F__law_next (mCons (mVar 0) (mNil)))) (mCall 1 F__law_next (mCons (mVar 0) (mNil)))) (mC (.int 1)))) (sSeq (sSetR 3 (mLst (mNil))) (sSeq (sFor (mRange1 (mVar 1)) (gN 4) (sSeq (sSet 2 (mMod (mB (mCons (mAdd (mMul (mVar 2) (mC (.int 48271))) (mC (.int 12345))) (mNil)) (fD1 intD)) (mC (.int 2147483647)))) (sSeq (sDrop (mM .lst (mVar 3) (mCons (mMod (mB (mCons (mFdiv (mVar 2) (mC (.int 7))) (mNil)) (fD1 intD)) (mC (.int 1000))) (mNil)) fAppend)) (sSkip)))) (sSeq (sRet (mAdd (mVar 3) (mVar 0))) (sSkip))))
def F__law_more : List W → Mem → Rs W := runF 5 m__law_more
def m__law_pick : SM := sSeq (sRet (mIx (mVar 1) (mMod (mB (mCons (mCall 1 F__law_next (mCons (mVar 0) (mNil))) (mNil)) (fD1 intD)) (mB (mCons (mVar 1) (mNil)) (fD1 lenD))))) (sSkip)
def F__law_pick : List W → Mem → Rs W := runF 2 m__law_pick
def m__law_orders : SM := sSeq (sSet 1 (mLst (mCons (mTup (mNil)) (mNil)))) (sSeq (sFor (mRange1 (mVar 0)) (gN 2) (sSeq (sSetR 3 (mLst (mNil))) (sSeq (sFor (mItems (mVar 1)) (gN 4) (sSeq (sDrop (mM .lst (mVar 3) (mCons (mLC (mRange1 (mVar 0)) [5] (gN 5) (mBool (mOp2 (mVar 5) (mVar 4) (lift2 ninD))) (mAdd (mVar 4) (mTup (mCons (mVar 5) (mNil))))) (mNil)) fExtend)) (sSkip))) (sSeq (sSet 1 (mVar 3)) (sFrz 1 (sSkip)))))) (sSeq (sRet (mVar 1)) (sSkip)))
def F__law_orders : List W → Mem → Rs W := runF 6 m__law_orders
def m__law_stream : SM := sSeq (sRet (mB (mCons (mB (mCons (mLC (mRange1 (mVar 1)) [3] (gN 3) (tYesT) (mMod (mB (mCons (mCall 1 F__law_next (mCons (mVar 0) (mNil))) (mNil)) (fD1 intD)) (mVar 2))) (mNil)) (fN1 sortD)) (mNil)) fTup)) (sSkip)
def F__law_stream : List W → Mem → Rs W := runF 4 m__law_stream
def m__law_kind (a : Addr) (y : Str) : SM := sSeq (sSet 1 (mLst (mCons (mC (.str "chain")) (mCons (mC (.str "net")) (mCons (mC (.str "trace")) (mCons (mC (.str "paper")) (mCons (mC (.str "number")) (mCons (mC (.str "none")) (mCons (mC (.str "large")) (mNil)))))))))) (sSeq (sSet 2 (mLst (mCons (mIsE a 0 (decide (("NotChain" : Str) = y))) (mCons (mIsE a 0 (decide (("NotNet" : Str) = y))) (mCons (mIsE a 0 (decide (("NotTrace" : Str) = y))) (mCons (mIsE a 0 (decide (("NotPaper" : Str) = y))) (mNil))))))) (sSeq (sSet 2 (mAdd (mVar 2) (mLst (mCons (mIsE a 0 (decide (("BadNumber" : Str) = y))) (mCons (mIsE a 0 (decide (("NoAnswer" : Str) = y))) (mCons (mIsE a 0 (decide (("TooLarge" : Str) = y))) (mNil))))))) (sSeq (sRet (mIf (mBool (mOp2 (mM .lst (mVar 2) (mCons (mC (.bool true)) (mNil)) (fMD cntD)) (mC (.int 1)) (lift2 eqD))) (mAdd (mC (.str "!")) (mIx (mVar 1) (mM .lst (mVar 2) (mCons (mC (.bool true)) (mNil)) (fMD indD)))) (mC (.str "!other")))) (sSkip))))
def m__law_asked : SM := sSeq (sTryK 4 (sSeq (sRet (mIf (mBool (mOp2 (mVar 0) (mC (.int 2)) (lift2 ltD))) (mPick [("meetings", 2, F_meetings), ("sum_of_waits", 2, F_sum_of_waits)] (mVar 0) (mCons (mVar 1) (mCons (mVar 2) (mNil)))) (mPick [("waiting_at", 3, F_waiting_at), ("pairing_waits", 3, F_pairing_waits)] (mSub (mVar 0) (mC (.int 2))) (mCons (mVar 1) (mCons (mVar 2) (mCons (mVar 3) (mNil))))))) (sSkip)) kindF) (sSkip)
def F__law_asked : List W → Mem → Rs W := runF 5 m__law_asked
def m_law : SM := sSeq (sSetR 1 (mCall 1 F__law_draws (mCons (mVar 0) (mNil)))) (sSeq (sSetR 1 (mCall 2 F__law_more (mCons (mVar 1) (mCons (mC (.int 60)) (mNil))))) (sSeq (sSet 2 (mCall 2 F__law_pick (mCons (mVar 1) (mCons (mLst (mCons (mC (.int 3)) (mCons (mC (.int 8)) (mCons (mC (.int 30)) (mNil))))) (mNil))))) (sSeq (sSet 3 (mCall 3 F__law_stream (mCons (mVar 1) (mCons (mMod (mB (mCons (mCall 1 F__law_next (mCons (mVar 1) (mNil))) (mNil)) (fD1 intD)) (mC (.int 6))) (mCons (mVar 2) (mNil)))))) (sSeq (sSet 4 (mCall 3 F__law_stream (mCons (mVar 1) (mCons (mIf (mBool (mOp2 (mMod (mB (mCons (mCall 1 F__law_next (mCons (mVar 1) (mNil))) (mNil)) (fD1 intD)) (mC (.int 3))) (mC (.int 0)) (lift2 gtD))) (mB (mCons (mVar 3) (mNil)) (fD1 lenD)) (mMod (mB (mCons (mCall 1 F__law_next (mCons (mVar 1) (mNil))) (mNil)) (fD1 intD)) (mC (.int 6)))) (mCons (mVar 2) (mNil)))))) (sSeq (sSet 5 (mB (mCons (mB (mCons (mVar 3) (mNil)) (fD1 lenD)) (mCons (mB (mCons (mVar 4) (mNil)) (fD1 lenD)) (mNil))) (fD2 minD))) (sSeq (sSet 6 (mB (mCons (mLC (mRange1 (mVar 5)) [7] (gN 7) (tYesT) (mTup (mCons (mB (mCons (mIx (mVar 3) (mVar 7)) (mCons (mIx (mVar 4) (mVar 7)) (mNil))) (fD2 maxD)) (mCons (mSub (mIx (mVar 4) (mVar 7)) (mIx (mVar 3) (mVar 7))) (mNil))))) (mNil)) fTup)) (sSeq (sSet 8 (mB (mCons (mLC (mItems (mVar 6)) [9, 10] (gT [gN 9, gN 10]) (tYesT) (mB (mCons (mVar 10) (mNil)) (fD1 absD))) (mNil)) (fD1 sumD))) (sSeq (sSet 9 (mMod (mB (mCons (mCall 1 F__law_next (mCons (mVar 1) (mNil))) (mNil)) (fD1 intD)) (mAdd (mVar 2) (mC (.int 3))))) (sSeq (sSet 11 (mSub (mB (mCons (mLC (mItems (mVar 3)) [12] (gN 12) (mBool (mOp2 (mVar 12) (mVar 9) (lift2 leD))) (mVar 12)) (mNil)) (fD1 lenD)) (mB (mCons (mLC (mItems (mVar 4)) [13] (gN 13) (mBool (mOp2 (mVar 13) (mVar 9) (lift2 leD))) (mVar 13)) (mNil)) (fD1 lenD)))) (sSeq (sIf (mBool (mOp2 (mB (mCons (mLst (mCons (mCall 4 F__law_asked (mCons (mC (.int 0)) (mCons (mVar 3) (mCons (mVar 4) (mCons (mC .none) (mNil)))))) (mCons (mCall 4 F__law_asked (mCons (mC (.int 1)) (mCons (mVar 3) (mCons (mVar 4) (mCons (mC .none) (mNil)))))) (mCons (mCall 4 F__law_asked (mCons (mC (.int 2)) (mCons (mVar 3) (mCons (mVar 4) (mCons (mVar 9) (mNil)))))) (mNil))))) (mNil)) (fD1 reprD)) (mB (mCons (mLst (mCons (mVar 6) (mCons (mVar 8) (mCons (mVar 11) (mNil))))) (mNil)) (fD1 reprD)) (lift2 neD))) (sSeq (sRet (mC (.bool false))) (sSkip)) (sSkip)) (sSeq (sIf (mBool (mOp2 (mB (mCons (mVar 3) (mNil)) (fD1 lenD)) (mB (mCons (mVar 4) (mNil)) (fD1 lenD)) (lift2 eqD))) (sSeq (sIf (mBool (mOp2 (mB (mCons (mLC (mRange1 (mVar 2)) [14] (gN 14) (tYesT) (mB (mCons (mCall 3 F_waiting_at (mCons (mVar 3) (mCons (mVar 4) (mCons (mVar 14) (mNil))))) (mNil)) (fD1 absD))) (mNil)) (fD1 sumD)) (mVar 8) (lift2 neD))) (sSeq (sRet (mC (.bool false))) (sSkip)) (sSkip)) (sSeq (sFor (mItems (mCall 1 F__law_orders (mCons (mB (mCons (mVar 3) (mNil)) (fD1 lenD)) (mNil)))) (gN 15) (sSeq (sSet 16 (mB (mCons (mLC (mRange1 (mB (mCons (mVar 3) (mNil)) (fD1 lenD))) [7] (gN 7) (tYesT) (mB (mCons (mSub (mIx (mVar 3) (mVar 7)) (mIx (mVar 4) (mIx (mVar 15) (mVar 7)))) (mNil)) (fD1 absD))) (mNil)) (fD1 sumD))) (sSeq (sIf (mOrT (mBool (mOp2 (mVar 16) (mVar 8) (lift2 ltD))) (mBool (mOp2 (mCall 3 F_pairing_waits (mCons (mVar 3) (mCons (mVar 4) (mCons (mVar 15) (mNil))))) (mVar 16) (lift2 neD)))) (sSeq (sRet (mC (.bool false))) (sSkip)) (sSkip)) (sSkip)))) (sSeq (sSet 17 (mLst (mCons (mB (mCons (mLstRg (mRg2 (mC (.int 1)) (mAdd (mB (mCons (mVar 3) (mNil)) (fD1 lenD)) (mC (.int 1))))) (mNil)) fTup) (mCons (mMul (mTup (mCons (mC (.int 0)) (mNil))) (mAdd (mB (mCons (mVar 3) (mNil)) (fD1 lenD)) (mC (.int 1)))) (mCons (mB (mCons (mLstRg (mRg1 (mAdd (mB (mCons (mVar 3) (mNil)) (fD1 lenD)) (mC (.int 1))))) (mNil)) fTup) (mNil)))))) (sSeq (sIf (mBool (mOp2 (mLC (mItems (mSl (mVar 17) (oSome (mB (mCons (mOp2 (mB (mCons (mVar 3) (mNil)) (fD1 lenD)) (mC (.int 0)) (lift2 eqD)) (mNil)) (fD1 intD))) (oNone))) [15] (gN 15) (tYesT) (mCall 4 F__law_asked (mCons (mC (.int 3)) (mCons (mVar 3) (mCons (mVar 4) (mCons (mVar 15) (mNil))))))) (mMul (mLst (mCons (mC (.str "!number")) (mNil))) (mSub (mC (.int 3)) (mB (mCons (mOp2 (mB (mCons (mVar 3) (mNil)) (fD1 lenD)) (mC (.int 0)) (lift2 eqD)) (mNil)) (fD1 intD)))) (lift2 neD))) (sSeq (sRet (mC (.bool false))) (sSkip)) (sSkip)) (sSkip))))) (sSeq (sIf (mBool (mOp2 (mCall 4 F__law_asked (mCons (mC (.int 3)) (mCons (mVar 3) (mCons (mVar 4) (mCons (mB (mCons (mLstRg (mRg1 (mB (mCons (mVar 3) (mNil)) (fD1 lenD)))) (mNil)) fTup) (mNil)))))) (mC (.str "!number")) (lift2 neD))) (sSeq (sRet (mC (.bool false))) (sSkip)) (sSkip)) (sSkip))) (sSeq (sIf (mBool (mOp2 (mB (mCons (mLst (mCons (mCall 2 F_meetings (mCons (mTup (mCons (mC (.int 1)) (mCons (mC (.int 4)) (mNil)))) (mCons (mTup (mCons (mC (.int 2)) (mCons (mC (.int 3)) (mNil)))) (mNil)))) (mCons (mCall 2 F_sum_of_waits (mCons (mTup (mCons (mC (.int 1)) (mCons (mC (.int 4)) (mNil)))) (mCons (mTup (mCons (mC (.int 2)) (mCons (mC (.int 3)) (mNil)))) (mNil)))) (mCons (mCall 3 F_waiting_at (mCons (mTup (mCons (mC (.int 1)) (mCons (mC (.int 4)) (mNil)))) (mCons (mTup (mCons (mC (.int 2)) (mCons (mC (.int 3)) (mNil)))) (mCons (mC (.int 1)) (mNil))))) (mCons (mCall 3 F_waiting_at (mCons (mTup (mNil)) (mCons (mTup (mCons (mC (.int 2)) (mCons (mC (.int 3)) (mNil)))) (mCons (mC (.int 3)) (mNil))))) (mNil)))))) (mNil)) (fD1 reprD)) (mB (mCons (mLst (mCons (mTup (mCons (mTup (mCons (mC (.int 2)) (mCons (mC (.int 1)) (mNil)))) (mCons (mTup (mCons (mC (.int 4)) (mCons (mNeg (mC (.int 1))) (mNil)))) (mNil)))) (mCons (mC (.int 2)) (mCons (mC (.int 1)) (mCons (mNeg (mC (.int 2))) (mNil)))))) (mNil)) (fD1 reprD)) (lift2 neD))) (sSeq (sRet (mC (.bool false))) (sSkip)) (sSkip)) (sSeq (sSet 18 (mCall 2 F__law_pick (mCons (mVar 1) (mCons (mLst (mCons (mTup (mCons (mC (.int 2)) (mCons (mC (.int 1)) (mNil)))) (mCons (mTup (mCons (mNeg (mC (.int 1))) (mNil))) (mCons (mTup (mCons (mC (.int 1000001)) (mNil))) (mCons (mMul (mTup (mCons (mC (.int 0)) (mNil))) (mC (.int 101))) (mNil)))))) (mNil))))) (sSeq (sSet 16 (mCall 1 F__law_flat (mCons (mLC (mRange1 (mC (.int 4))) [19] (gN 19) (tYesT) (mLst (mCons (mCall 4 F__law_asked (mCons (mVar 19) (mCons (mVar 18) (mCons (mVar 3) (mCons (mIf (mBool (mOp2 (mVar 19) (mC (.int 2)) (lift2 eqD))) (mNeg (mC (.int 1))) (mTup (mCons (mC (.int 5)) (mCons (mC (.int 5)) (mNil))))) (mNil)))))) (mCons (mCall 4 F__law_asked (mCons (mVar 19) (mCons (mVar 3) (mCons (mVar 18) (mCons (mIf (mBool (mOp2 (mVar 19) (mC (.int 2)) (lift2 eqD))) (mNeg (mC (.int 1))) (mTup (mCons (mC (.int 5)) (mCons (mC (.int 5)) (mNil))))) (mNil)))))) (mNil))))) (mNil)))) (sSeq (sRet (mAndV (mOp2 (mVar 16) (mMul (mLst (mCons (mC (.str "!trace")) (mNil))) (mC (.int 8))) (lift2 eqD)) (mOp2 (mLC (mItems (mLst (mCons (mNeg (mC (.int 1))) (mCons (mC (.int 1000001)) (mNil))))) [14] (gN 14) (tYesT) (mCall 4 F__law_asked (mCons (mC (.int 2)) (mCons (mVar 3) (mCons (mVar 4) (mCons (mVar 14) (mNil))))))) (mMul (mLst (mCons (mC (.str "!number")) (mNil))) (mC (.int 2))) (lift2 eqD)))) (sSkip))))))))))))))))
def F_law : List W → Mem → Rs W := runF 20 m_law
/-- what the module's names are -/
structure MG (K : PySem.W.Frag) (mg : Str → Option Value) : Prop where
  b_abs : mg "abs" = none
  b_all : mg "all" = none
  b_int : mg "int" = none
  b_isinstance : mg "isinstance" = none
  b_len : mg "len" = none
  b_list : mg "list" = none
  b_max : mg "max" = none
  b_min : mg "min" = none
  b_range : mg "range" = none
  b_repr : mg "repr" = none
  b_sorted : mg "sorted" = none
  b_sum : mg "sum" = none
  b_tuple : mg "tuple" = none
  b_zip : mg "zip" = none
  v_MOST_CUSTOMERS : ∃ t, mg "MOST_CUSTOMERS" = some (.int 100 t)
  v_MOST_TIME : ∃ t, mg "MOST_TIME" = some (.int 1000000 t)
  x_BadNumber : ExcT K mg "BadNumber"
  x_NotTrace : ExcT K mg "NotTrace"
  catch_ : CatchOk K mg "QueueError" kindF
  d_are_times : ∃ f, mg "are_times" = some (.ref f)
  d_check_streams : ∃ f, mg "check_streams" = some (.ref f)
  d_meetings : ∃ f, mg "meetings" = some (.ref f)
  d_sum_of_waits : ∃ f, mg "sum_of_waits" = some (.ref f)
  d_waiting_at : ∃ f, mg "waiting_at" = some (.ref f)
  d_pairing_waits : ∃ f, mg "pairing_waits" = some (.ref f)
  d__law_number : ∃ f, mg "_law_number" = some (.ref f)
  d__law_draws : ∃ f, mg "_law_draws" = some (.ref f)
  d__law_flat : ∃ f, mg "_law_flat" = some (.ref f)
  d__law_next : ∃ f, mg "_law_next" = some (.ref f)
  d__law_more : ∃ f, mg "_law_more" = some (.ref f)
  d__law_pick : ∃ f, mg "_law_pick" = some (.ref f)
  d__law_orders : ∃ f, mg "_law_orders" = some (.ref f)
  d__law_stream : ∃ f, mg "_law_stream" = some (.ref f)
  d__law_kind : ∃ f, mg "_law_kind" = some (.ref f)
  d__law_asked : ∃ f, mg "_law_asked" = some (.ref f)
  d_law : ∃ f, mg "law" = some (.ref f)
section
variable {P : Program} {w : World} {K : PySem.W.Frag} {mg : Str → Option Value} {base : Heap} {f : Addr} {fd : FuncData}
def sc_are_times : FnScope ["told", "time", "one", "other"] ["told"] (defScope (topS 12)) := ⟨rfl, rfl, rfl, by decide +kernel, rfl, by decide +kernel, by decide +kernel⟩
theorem ok_are_times (F : Fun K "are_times" "are_times" (topS 12) f fd) (M : MG K mg)  : FnG P w K mg base 1 f fd ["told"] (spM K mg 1 F_are_times) := def_go F sc_are_times fun cdv A outer s H E hr hgu tk hx hp => have hN := (sc_are_times).nd; dss_cons (ds_if (dt_w (dw_or (dt_cmp po_gt bi_gt (den_B ca_len call_len (by rfl) M.b_len (by decide +kernel) (da_cons (den_var 0) (da_nil))) (den_gi (by rfl) M.v_MOST_CUSTOMERS) (by with_unfolding_all rfl)) (dw_or1 (dt_not (dt_tru (den_B ca_all (cr_all rfl) (by rfl) M.b_all (by decide +kernel) (da_cons (den_lc [("time", 1)] rfl hN (di_seq (den_var 0)) (blkOk_by (by kernel_rfl)) (fun s H C cl fp => dg_name 1 hN) (fun s H C cl fp => dts_nil) (fun s H C cl fp => den_chain po_le bi_le po_le bi_le (den_int) (den_var 1) (den_gi (by rfl) M.v_MOST_TIME))) (da_nil)))))))) (dss_cons (ds_ret (den_bool)) (dss_nil)) (dss_nil)) (dss_cons (ds_ret (den_B ca_all (cr_all rfl) (by rfl) M.b_all (by decide +kernel) (da_cons (den_lc [("one", 2), ("other", 3)] rfl hN (di_zip (by rfl) M.b_zip (da_cons (den_var 0) (da_cons (den_sl (den_var 0) (do_some (den_int)) (do_none)) (da_nil)))) (blkOk_by (by kernel_rfl)) (fun s H C cl fp => dg_tup rfl (dgs_cons (dg_name 2 hN) (dgs_cons (dg_name 3 hN) (dgs_nil)))) (fun s H C cl fp => dts_nil) (fun s H C cl fp => den_cmp po_le bi_le (den_var 2) (den_var 3) (by with_unfolding_all rfl))) (da_nil)))) (dss_nil))
def sc_check_streams : FnScope ["one", "other"] ["one", "other"] (defScope (topS 13)) := ⟨rfl, rfl, rfl, by decide +kernel, rfl, by decide +kernel, by decide +kernel⟩
theorem ok_check_streams (F : Fun K "check_streams" "check_streams" (topS 13) f fd) (M : MG K mg) (c_are_times : CalG P w K mg base 1 "are_times" 1 F_are_times) : FnG P w K mg base 2 f fd ["one", "other"] (spM K mg 2 F_check_streams) := def_go F sc_check_streams fun cdv A outer s H E hr hgu tk hx hp => have hN := (sc_check_streams).nd; dss_cons (ds_if (dt_w (dw_or (dt_not (dt_tru (den_call c_are_times hr hgu hx (da_cons (den_var 0) (da_nil))))) (dw_or1 (dt_not (dt_tru (den_call c_are_times hr hgu hx (da_cons (den_var 1) (da_nil)))))))) (dss_cons (ds_raise M.x_NotTrace rfl tk (fun _ _ _ _ h => h)) (dss_nil)) (dss_nil)) (dss_nil)
def sc_meetings : FnScope ["one", "other", "mine", "theirs"] ["one", "other"] (defScope (topS 14)) := ⟨rfl, rfl, rfl, by decide +kernel, rfl, by decide +kernel, by decide +kernel⟩
theorem ok_meetings (F : Fun K "meetings" "meetings" (topS 14) f fd) (M : MG K mg) (c_check_streams : CalG P w K mg base 2 "check_streams" 2 F_check_streams) : FnG P w K mg base 3 f fd ["one", "other"] (spM K mg 2 F_meetings) := def_go F sc_meetings fun cdv A outer s H E hr hgu tk hx hp => have hN := (sc_meetings).nd; dss_cons (ds_expr (den_call c_check_streams hr hgu hx (da_cons (den_var 0) (da_cons (den_var 1) (da_nil))))) (dss_cons (ds_ret (den_Ty ca_tup call_tuple_of (by rfl) M.b_tuple (by decide +kernel) (da_cons (den_lc [("mine", 2), ("theirs", 3)] rfl hN (di_zip (by rfl) M.b_zip (da_cons (den_var 0) (da_cons (den_var 1) (da_nil)))) (blkOk_by (by kernel_rfl)) (fun s H C cl fp => dg_tup rfl (dgs_cons (dg_name 2 hN) (dgs_cons (dg_name 3 hN) (dgs_nil)))) (fun s H C cl fp => dts_nil) (fun s H C cl fp => den_tup (da_cons (den_B ca_max2 (call_max2 rfl) (by rfl) M.b_max (by decide +kernel) (da_cons (den_var 2) (da_cons (den_var 3) (da_nil)))) (da_cons (den_sub (den_var 3) (den_var 2)) (da_nil))))) (da_nil)))) (dss_nil))
def sc_sum_of_waits : FnScope ["one", "other", "mine", "theirs"] ["one", "other"] (defScope (topS 15)) := ⟨rfl, rfl, rfl, by decide +kernel, rfl, by decide +kernel, by decide +kernel⟩
theorem ok_sum_of_waits (F : Fun K "sum_of_waits" "sum_of_waits" (topS 15) f fd) (M : MG K mg) (c_check_streams : CalG P w K mg base 2 "check_streams" 2 F_check_streams) : FnG P w K mg base 3 f fd ["one", "other"] (spM K mg 2 F_sum_of_waits) := def_go F sc_sum_of_waits fun cdv A outer s H E hr hgu tk hx hp => have hN := (sc_sum_of_waits).nd; dss_cons (ds_expr (den_call c_check_streams hr hgu hx (da_cons (den_var 0) (da_cons (den_var 1) (da_nil))))) (dss_cons (ds_ret (den_B ca_sum (cr_sum rfl) (by rfl) M.b_sum (by decide +kernel) (da_cons (den_lc [("mine", 2), ("theirs", 3)] rfl hN (di_zip (by rfl) M.b_zip (da_cons (den_var 0) (da_cons (den_var 1) (da_nil)))) (blkOk_by (by kernel_rfl)) (fun s H C cl fp => dg_tup rfl (dgs_cons (dg_name 2 hN) (dgs_cons (dg_name 3 hN) (dgs_nil)))) (fun s H C cl fp => dts_nil) (fun s H C cl fp => den_B ca_abs call_abs (by rfl) M.b_abs (by decide +kernel) (da_cons (den_sub (den_var 2) (den_var 3)) (da_nil)))) (da_nil)))) (dss_nil))
def sc_waiting_at : FnScope ["one", "other", "time", "mine", "theirs"] ["one", "other", "time"] (defScope (topS 16)) := ⟨rfl, rfl, rfl, by decide +kernel, rfl, by decide +kernel, by decide +kernel⟩
theorem ok_waiting_at (F : Fun K "waiting_at" "waiting_at" (topS 16) f fd) (M : MG K mg) (c_check_streams : CalG P w K mg base 2 "check_streams" 2 F_check_streams) : FnG P w K mg base 3 f fd ["one", "other", "time"] (spM K mg 3 F_waiting_at) := def_go F sc_waiting_at fun cdv A outer s H E hr hgu tk hx hp => have hN := (sc_waiting_at).nd; dss_cons (ds_expr (den_call c_check_streams hr hgu hx (da_cons (den_var 0) (da_cons (den_var 1) (da_nil))))) (dss_cons (ds_if (dt_not (dt_chain po_le bi_le po_le bi_le (den_int) (den_var 2) (den_gi (by rfl) M.v_MOST_TIME))) (dss_cons (ds_raise M.x_BadNumber rfl tk (fun _ _ _ _ h => h)) (dss_nil)) (dss_nil)) (dss_cons (ds_ret (den_sub (den_B ca_len call_len (by rfl) M.b_len (by decide +kernel) (da_cons (den_lc [("mine", 3)] rfl hN (di_seq (den_var 0)) (blkOk_by (by kernel_rfl)) (fun s H C cl fp => dg_name 3 hN) (fun s H C cl fp => dts_one (dt_cmp po_le bi_le (den_var 3) (den_var 2) (by with_unfolding_all rfl))) (fun s H C cl fp => den_int)) (da_nil))) (den_B ca_len call_len (by rfl) M.b_len (by decide +kernel) (da_cons (den_lc [("theirs", 4)] rfl hN (di_seq (den_var 1)) (blkOk_by (by kernel_rfl)) (fun s H C cl fp => dg_name 4 hN) (fun s H C cl fp => dts_one (dt_cmp po_le bi_le (den_var 4) (den_var 2) (by with_unfolding_all rfl))) (fun s H C cl fp => den_int)) (da_nil))))) (dss_nil)))
def sc_pairing_waits : FnScope ["one", "other", "order", "mine", "at"] ["one", "other", "order"] (defScope (topS 17)) := ⟨rfl, rfl, rfl, by decide +kernel, rfl, by decide +kernel, by decide +kernel⟩
theorem ok_pairing_waits (F : Fun K "pairing_waits" "pairing_waits" (topS 17) f fd) (M : MG K mg) (c_check_streams : CalG P w K mg base 2 "check_streams" 2 F_check_streams) : FnG P w K mg base 3 f fd ["one", "other", "order"] (spM K mg 3 F_pairing_waits) := def_go F sc_pairing_waits fun cdv A outer s H E hr hgu tk hx hp => have hN := (sc_pairing_waits).nd; dss_cons (ds_expr (den_call c_check_streams hr hgu hx (da_cons (den_var 0) (da_cons (den_var 1) (da_nil))))) (dss_cons (ds_if (dt_w (dw_or (dt_cmp (po_ne (u64 hr)) bi_ne (den_B ca_len call_len (by rfl) M.b_len (by decide +kernel) (da_cons (den_var 0) (da_nil))) (den_B ca_len call_len (by rfl) M.b_len (by decide +kernel) (da_cons (den_var 1) (da_nil))) (by with_unfolding_all rfl)) (dw_or1 (dt_cmp (po_ne (u64 hr)) bi_ne (den_B ca_sort (cr_sortD (u65 hr)) (by rfl) M.b_sorted (by decide +kernel) (da_cons (den_var 2) (da_nil))) (den_lstRg rfl (by rfl) M.b_list (drg_1 (by rfl) M.b_range (den_B ca_len call_len (by rfl) M.b_len (by decide +kernel) (da_cons (den_var 0) (da_nil))))) (by with_unfolding_all rfl))))) (dss_cons (ds_raise M.x_BadNumber rfl tk (fun _ _ _ _ h => h)) (dss_nil)) (dss_nil)) (dss_cons (ds_ret (den_B ca_sum (cr_sum rfl) (by rfl) M.b_sum (by decide +kernel) (da_cons (den_lc [("mine", 3), ("at", 4)] rfl hN (di_zip (by rfl) M.b_zip (da_cons (den_var 0) (da_cons (den_var 2) (da_nil)))) (blkOk_by (by kernel_rfl)) (fun s H C cl fp => dg_tup rfl (dgs_cons (dg_name 3 hN) (dgs_cons (dg_name 4 hN) (dgs_nil)))) (fun s H C cl fp => dts_nil) (fun s H C cl fp => den_B ca_abs call_abs (by rfl) M.b_abs (by decide +kernel) (da_cons (den_sub (den_var 3) (den_ix (den_var 1) (den_var 4))) (da_nil)))) (da_nil)))) (dss_nil)))
def sc__law_number : FnScope ["cell"] ["cell"] (defScope (topS 19)) := ⟨rfl, rfl, rfl, by decide +kernel, rfl, by decide +kernel, by decide +kernel⟩
theorem ok__law_number (F : Fun K "_law_number" "_law_number" (topS 19) f fd) (M : MG K mg)  : FnG P w K mg base 1 f fd ["cell"] (spM K mg 1 F__law_number) := def_go F sc__law_number fun cdv A outer s H E hr hgu tk hx hp => have hN := (sc__law_number).nd; dss_cons (ds_if (dt_cmp po_lt bi_lt (den_var 0) (den_int) (by with_unfolding_all rfl)) (dss_cons (ds_ret (den_sub (den_int) (den_var 0))) (dss_nil)) (dss_nil)) (dss_cons (ds_ret (den_var 0)) (dss_nil))
def sc__law_draws : FnScope ["script", "draws", "cell", "rest", "k", "once", "twice"] ["script"] (defScope (topS 20)) := ⟨rfl, rfl, rfl, by decide +kernel, rfl, by decide +kernel, by decide +kernel⟩
theorem ok__law_draws (F : Fun K "_law_draws" "_law_draws" (topS 20) f fd) (M : MG K mg) (c__law_number : CalG P w K mg base 1 "_law_number" 1 F__law_number) : FnG P w K mg base 2 f fd ["script"] (spM K mg 1 F__law_draws) := def_go F sc__law_draws fun cdv A outer s H E hr hgu tk hx hp => have hN := (sc__law_draws).nd; dss_cons (ds_setR 1 hN (den_lst (da_nil))) (dss_cons (ds_for hp rfl (di_seq (den_var 0)) (dg_name 2 hN) (dss_cons (ds_set 3 hN (den_call c__law_number hr hgu hx (da_cons (den_var 2) (da_nil)))) (dss_cons (ds_if (dt_cmp po_ge bi_ge (den_var 3) (den_int) (by with_unfolding_all rfl)) (dss_cons (ds_for hp rfl (di_range1 (by rfl) M.b_range (da_cons (den_int) (da_nil))) (dg_name 4 hN) (dss_cons (ds_if (dt_cmp (po_eq (u64 hr)) bi_eq (den_var 3) (den_int) (by with_unfolding_all rfl)) (dss_cons (ds_break) (dss_nil)) (dss_nil)) (dss_cons (ds_expr (den_m (T := .lst) cm_append PySem.F.plainAttrs_list PySem.F.slot_list_append PySem.F.type_list_append mt_append (den_var 1) (da_cons (den_mod (den_Ty ca_int call_int1 (by rfl) M.b_int (by decide +kernel) (da_cons (den_var 3) (da_nil))) (den_int)) (da_nil)))) (dss_cons (ds_set 3 hN (den_fdiv (den_var 3) (den_int))) (dss_nil))))) (dss_nil)) (dss_cons (ds_set 5 hN (den_mod (den_Ty ca_int call_int1 (by rfl) M.b_int (by decide +kernel) (da_cons (den_add (den_mul (den_var 3) (den_int)) (den_int)) (da_nil))) (den_int))) (dss_cons (ds_set 6 hN (den_mod (den_Ty ca_int call_int1 (by rfl) M.b_int (by decide +kernel) (da_cons (den_add (den_mul (den_var 5) (den_int)) (den_var 3)) (da_nil))) (den_int))) (dss_cons (ds_expr (den_m (T := .lst) cm_extend PySem.F.plainAttrs_list PySem.F.slot_list_extend PySem.F.type_list_extend mt_extend (den_var 1) (da_cons (den_lst (da_cons (den_mod (den_Ty ca_int call_int1 (by rfl) M.b_int (by decide +kernel) (da_cons (den_var 3) (da_nil))) (den_int)) (da_cons (den_mod (den_Ty ca_int call_int1 (by rfl) M.b_int (by decide +kernel) (da_cons (den_var 5) (da_nil))) (den_int)) (da_cons (den_mod (den_Ty ca_int call_int1 (by rfl) M.b_int (by decide +kernel) (da_cons (den_var 6) (da_nil))) (den_int)) (da_nil))))) (da_nil)))) (dss_nil))))) (dss_nil)))) (dss_cons (ds_expr (den_m0 (T := .lst) cm_reverse PySem.F.plainAttrs_list PySem.F.slot_list_reverse PySem.F.type_list_reverse mt_reverse (den_var 1))) (dss_cons (ds_ret (den_var 1)) (dss_nil))))
def sc__law_flat : FnScope ["rows", "found", "row"] ["rows"] (defScope (topS 21)) := ⟨rfl, rfl, rfl, by decide +kernel, rfl, by decide +kernel, by decide +kernel⟩
theorem ok__law_flat (F : Fun K "_law_flat" "_law_flat" (topS 21) f fd) (M : MG K mg)  : FnG P w K mg base 1 f fd ["rows"] (spM K mg 1 F__law_flat) := def_go F sc__law_flat fun cdv A outer s H E hr hgu tk hx hp => have hN := (sc__law_flat).nd; dss_cons (ds_setR 1 hN (den_lst (da_nil))) (dss_cons (ds_for hp rfl (di_seq (den_var 0)) (dg_name 2 hN) (dss_cons (ds_expr (den_m (T := .lst) cm_extend PySem.F.plainAttrs_list PySem.F.slot_list_extend PySem.F.type_list_extend mt_extend (den_var 1) (da_cons (den_var 2) (da_nil)))) (dss_nil))) (dss_cons (ds_ret (den_var 1)) (dss_nil)))
def sc__law_next : FnScope ["draws"] ["draws"] (defScope (topS 22)) := ⟨rfl, rfl, rfl, by decide +kernel, rfl, by decide +kernel, by decide +kernel⟩
theorem ok__law_next (F : Fun K "_law_next" "_law_next" (topS 22) f fd) (M : MG K mg)  : FnG P w K mg base 1 f fd ["draws"] (spM K mg 1 F__law_next) := def_go F sc__law_next fun cdv A outer s H E hr hgu tk hx hp => have hN := (sc__law_next).nd; dss_cons (ds_if (dt_tru (den_var 0)) (dss_cons (ds_ret (den_m0 (T := .lst) cm_pop PySem.F.plainAttrs_list PySem.F.slot_list_pop PySem.F.type_list_pop mt_pop (den_var 0))) (dss_nil)) (dss_nil)) (dss_cons (ds_ret (den_int)) (dss_nil))
def sc__law_more : FnScope ["draws", "many", "seed", "more", "k"] ["draws", "many"] (defScope (topS 23)) := ⟨rfl, rfl, rfl, by decide +kernel, rfl, by decide +kernel, by decide +kernel⟩
theorem ok__law_more (F : Fun K "_law_more" "_law_more" (topS 23) f fd) (M : MG K mg) (c__law_next : CalG P w K mg base 1 "_law_next" 1 F__law_next) : FnG P w K mg base 2 f fd ["draws", "many"] (spM K mg 2 F__law_more) := def_go F sc__law_more fun cdv A outer s H E hr hgu tk hx hp => have hN := (sc__law_more).nd; dss_cons (ds_set 2 hN (den_add (den_add (den_mul (den_int) (den_call c__law_next hr hgu hx (da_cons (den_var 0) (da_nil)))) (den_call c__law_next hr hgu hx (da_cons (den_var 0) (da_nil)))) (den_int))) (dss_cons (ds_setR 3 hN (den_lst (da_nil))) (dss_cons (ds_for hp rfl (di_range1 (by rfl) M.b_range (da_cons (den_var 1) (da_nil))) (dg_name 4 hN) (dss_cons (ds_set 2 hN (den_mod (den_Ty ca_int call_int1 (by rfl) M.b_int (by decide +kernel) (da_cons (den_add (den_mul (den_var 2) (den_int)) (den_int)) (da_nil))) (den_int))) (dss_cons (ds_expr (den_m (T := .lst) cm_append PySem.F.plainAttrs_list PySem.F.slot_list_append PySem.F.type_list_append mt_append (den_var 3) (da_cons (den_mod (den_Ty ca_int call_int1 (by rfl) M.b_int (by decide +kernel) (da_cons (den_fdiv (den_var 2) (den_int)) (da_nil))) (den_int)) (da_nil)))) (dss_nil)))) (dss_cons (ds_ret (den_add (den_var 3) (den_var 0))) (dss_nil))))
def sc__law_pick : FnScope ["draws", "some"] ["draws", "some"] (defScope (topS 24)) := ⟨rfl, rfl, rfl, by decide +kernel, rfl, by decide +kernel, by decide +kernel⟩
theorem ok__law_pick (F : Fun K "_law_pick" "_law_pick" (topS 24) f fd) (M : MG K mg) (c__law_next : CalG P w K mg base 1 "_law_next" 1 F__law_next) : FnG P w K mg base 2 f fd ["draws", "some"] (spM K mg 2 F__law_pick) := def_go F sc__law_pick fun cdv A outer s H E hr hgu tk hx hp => have hN := (sc__law_pick).nd; dss_cons (ds_ret (den_ix (den_var 1) (den_mod (den_Ty ca_int call_int1 (by rfl) M.b_int (by decide +kernel) (da_cons (den_call c__law_next hr hgu hx (da_cons (den_var 0) (da_nil))) (da_nil))) (den_B ca_len call_len (by rfl) M.b_len (by decide +kernel) (da_cons (den_var 1) (da_nil)))))) (dss_nil)
def sc__law_orders : FnScope ["n", "found", "turn", "longer", "told", "place"] ["n"] (defScope (topS 25)) := ⟨rfl, rfl, rfl, by decide +kernel, rfl, by decide +kernel, by decide +kernel⟩
theorem ok__law_orders (F : Fun K "_law_orders" "_law_orders" (topS 25) f fd) (M : MG K mg)  : FnG P w K mg base 1 f fd ["n"] (spM K mg 1 F__law_orders) := def_go F sc__law_orders fun cdv A outer s H E hr hgu tk hx hp => have hN := (sc__law_orders).nd; dss_cons (ds_set 1 hN (den_lst (da_cons (den_tup (da_nil)) (da_nil)))) (dss_cons (ds_for hp rfl (di_range1 (by rfl) M.b_range (da_cons (den_var 0) (da_nil))) (dg_name 2 hN) (dss_cons (ds_setR 3 hN (den_lst (da_nil))) (dss_cons (ds_for hp rfl (di_seq (den_var 1)) (dg_name 4 hN) (dss_cons (ds_expr (den_m (T := .lst) cm_extend PySem.F.plainAttrs_list PySem.F.slot_list_extend PySem.F.type_list_extend mt_extend (den_var 3) (da_cons (den_lc [("place", 5)] rfl hN (di_range1 (by rfl) M.b_range (da_cons (den_var 0) (da_nil))) (blkOk_by (by kernel_rfl)) (fun s H C cl fp => dg_name 5 hN) (fun s H C cl fp => dts_one (dt_cmp (po_nin (u65 hr)) bi_nin (den_var 5) (den_var 4) (by with_unfolding_all rfl))) (fun s H C cl fp => den_add (den_var 4) (den_tup (da_cons (den_var 5) (da_nil))))) (da_nil)))) (dss_nil))) (dss_cons (ds_set 1 hN (den_var 3)) (dss_frz (i := 1) (dss_nil)))))) (dss_cons (ds_ret (den_var 1)) (dss_nil)))
def sc__law_stream : FnScope ["draws", "many", "long", "k"] ["draws", "many", "long"] (defScope (topS 27)) := ⟨rfl, rfl, rfl, by decide +kernel, rfl, by decide +kernel, by decide +kernel⟩
theorem ok__law_stream (F : Fun K "_law_stream" "_law_stream" (topS 27) f fd) (M : MG K mg) (c__law_next : CalG P w K mg base 1 "_law_next" 1 F__law_next) : FnG P w K mg base 2 f fd ["draws", "many", "long"] (spM K mg 3 F__law_stream) := def_go F sc__law_stream fun cdv A outer s H E hr hgu tk hx hp => have hN := (sc__law_stream).nd; dss_cons (ds_ret (den_Ty ca_tup call_tuple_of (by rfl) M.b_tuple (by decide +kernel) (da_cons (den_B ca_sort (cr_sortD (u65 hr)) (by rfl) M.b_sorted (by decide +kernel) (da_cons (den_lc [("k", 3)] rfl hN (di_range1 (by rfl) M.b_range (da_cons (den_var 1) (da_nil))) (blkOk_by (by kernel_rfl)) (fun s H C cl fp => dg_name 3 hN) (fun s H C cl fp => dts_nil) (fun s H C cl fp => den_mod (den_Ty ca_int call_int1 (by rfl) M.b_int (by decide +kernel) (da_cons (den_call c__law_next hr hgu passNo (da_cons (den_var 0) (da_nil))) (da_nil))) (den_var 2))) (da_nil))) (da_nil)))) (dss_nil)
def sc__law_kind : FnScope ["error", "names", "found"] ["error"] (defScope (topS 26)) := ⟨rfl, rfl, rfl, by decide +kernel, rfl, by decide +kernel, by decide +kernel⟩
theorem kind_val (y z : Str) (h : kindTab y = some z) (a : Addr) (m : Mem) : m__law_kind a y (startE 3 [.e a]) m = .rt (.d (.str z)) m := by
  rcases kindTab_cases h with ⟨rfl, rfl⟩ | ⟨rfl, rfl⟩ | ⟨rfl, rfl⟩ | ⟨rfl, rfl⟩ | ⟨rfl, rfl⟩ | ⟨rfl, rfl⟩ | ⟨rfl, rfl⟩
  · simp [m__law_kind, sSeq, sSet, sRet, mLst, mCons, mNil, mC, mIsE, startE, Rs.bind, Rs.bindV, val, frzAll, frz, mVar, mAdd, mOp2, lift2, Rs.thenV, small, addD, peek]
    kernel_rfl
  · simp [m__law_kind, sSeq, sSet, sRet, mLst, mCons, mNil, mC, mIsE, startE, Rs.bind, Rs.bindV, val, frzAll, frz, mVar, mAdd, mOp2, lift2, Rs.thenV, small, addD, peek]
    kernel_rfl
  · simp [m__law_kind, sSeq, sSet, sRet, mLst, mCons, mNil, mC, mIsE, startE, Rs.bind, Rs.bindV, val, frzAll, frz, mVar, mAdd, mOp2, lift2, Rs.thenV, small, addD, peek]
    kernel_rfl
  · simp [m__law_kind, sSeq, sSet, sRet, mLst, mCons, mNil, mC, mIsE, startE, Rs.bind, Rs.bindV, val, frzAll, frz, mVar, mAdd, mOp2, lift2, Rs.thenV, small, addD, peek]
    kernel_rfl
  · simp [m__law_kind, sSeq, sSet, sRet, mLst, mCons, mNil, mC, mIsE, startE, Rs.bind, Rs.bindV, val, frzAll, frz, mVar, mAdd, mOp2, lift2, Rs.thenV, small, addD, peek]
    kernel_rfl
  · simp [m__law_kind, sSeq, sSet, sRet, mLst, mCons, mNil, mC, mIsE, startE, Rs.bind, Rs.bindV, val, frzAll, frz, mVar, mAdd, mOp2, lift2, Rs.thenV, small, addD, peek]
    kernel_rfl
  · simp [m__law_kind, sSeq, sSet, sRet, mLst, mCons, mNil, mC, mIsE, startE, Rs.bind, Rs.bindV, val, frzAll, frz, mVar, mAdd, mOp2, lift2, Rs.thenV, small, addD, peek]
    kernel_rfl
theorem kind_body (y z : Str) (C : Addr) (h : kindTab y = some z) (hC : mg y = some (.ref C)) (T : KindT K mg) (bi : mg "isinstance" = none) (cdv : Value) (A : Around) (outer : List PySem.Env) (s : Shared) (H : Hp) (a : Addr) (oe : Obj) (hr : L2H.RoomH 1 (A.deeper (envOfC "_law_kind" (defScope (topS 26)) s.heap.objs.size f cdv)))
    (hz : Zc (.ref C) none oe) (hf : ∃ vs, oe.data = .fields vs) : DenSs (cxE P w K mg base ["error", "names", "found"] "_law_kind" (defScope (topS 26)) f cdv A outer s H (a, oe)) E0' (defBody (topS 26)) (m__law_kind a y) := by
  obtain ⟨C2, hC2, EC, ks⟩ := T.cls y z h
  have eC : C2 = C := by rw [hC] at hC2; cases hC2; rfl
  subst eC
  obtain ⟨D_NotChain, g_NotChain, k_NotChain⟩ := ks "NotChain" "!chain" (by decide)
  obtain ⟨D_NotNet, g_NotNet, k_NotNet⟩ := ks "NotNet" "!net" (by decide)
  obtain ⟨D_NotTrace, g_NotTrace, k_NotTrace⟩ := ks "NotTrace" "!trace" (by decide)
  obtain ⟨D_NotPaper, g_NotPaper, k_NotPaper⟩ := ks "NotPaper" "!paper" (by decide)
  obtain ⟨D_BadNumber, g_BadNumber, k_BadNumber⟩ := ks "BadNumber" "!number" (by decide)
  obtain ⟨D_NoAnswer, g_NoAnswer, k_NoAnswer⟩ := ks "NoAnswer" "!none" (by decide)
  obtain ⟨D_TooLarge, g_TooLarge, k_TooLarge⟩ := ks "TooLarge" "!large" (by decide)
  have hN := (sc__law_kind).nd
  have hr : L2H.RoomH 1 ((A.deeper (envOfC "_law_kind" (defScope (topS 26)) s.heap.objs.size f cdv)).mark (some (.ref a))) := ⟨hr.dp, hr.un⟩
  exact dss_cons (ds_set 1 hN (den_lst (da_cons (den_str) (da_cons (den_str) (da_cons (den_str) (da_cons (den_str) (da_cons (den_str) (da_cons (den_str) (da_cons (den_str) (da_nil)))))))))) (dss_cons (ds_set 2 hN (den_lst (da_cons (den_isE 0 EC hz hf k_NotChain g_NotChain bi (by rfl)) (da_cons (den_isE 0 EC hz hf k_NotNet g_NotNet bi (by rfl)) (da_cons (den_isE 0 EC hz hf k_NotTrace g_NotTrace bi (by rfl)) (da_cons (den_isE 0 EC hz hf k_NotPaper g_NotPaper bi (by rfl)) (da_nil))))))) (dss_cons (ds_set 2 hN (den_add (den_var 2) (den_lst (da_cons (den_isE 0 EC hz hf k_BadNumber g_BadNumber bi (by rfl)) (da_cons (den_isE 0 EC hz hf k_NoAnswer g_NoAnswer bi (by rfl)) (da_cons (den_isE 0 EC hz hf k_TooLarge g_TooLarge bi (by rfl)) (da_nil))))))) (dss_cons (ds_ret (den_if (dt_cmp (po_eq (uH4 hr)) bi_eq (den_m (T := .lst) cm_count PySem.F.plainAttrs_list PySem.F.slot_list_count PySem.F.type_list_count (mt_countD (uH hr)) (den_var 2) (da_cons (den_bool) (da_nil))) (den_int) (by with_unfolding_all rfl)) (den_add (den_str) (den_ix (den_var 1) (den_m (T := .lst) cm_index PySem.F.plainAttrs_list PySem.F.slot_list_index PySem.F.type_list_index (mt_indexD (uH hr)) (den_var 2) (da_cons (den_bool) (da_nil))))) (den_str))) (dss_nil))))
theorem ok__law_kind (F : Fun K "_law_kind" "_law_kind" (topS 26) f fd) (hb : Binds K fd ["error"] []) (hm : mg "_law_kind" = some (.ref f)) (M : MG K mg) (T : KindT K mg) : KindOk P w K mg base 2 "_law_kind" kindF :=
  kind_mk F sc__law_kind hb hm m__law_kind (fun y z C h1 h2 cdv A outer s H a oe hr hz hf => kind_body y z C h1 h2 T M.b_isinstance cdv A outer s H a oe hr hz hf) kind_val
def sc__law_asked : FnScope ["way", "one", "other", "more", "error"] ["way", "one", "other", "more"] (defScope (topS 28)) := ⟨rfl, rfl, rfl, by decide +kernel, rfl, by decide +kernel, by decide +kernel⟩
theorem ok__law_asked (F : Fun K "_law_asked" "_law_asked" (topS 28) f fd) (M : MG K mg) (c_meetings : CalG P w K mg base 3 "meetings" 2 F_meetings) (c_sum_of_waits : CalG P w K mg base 3 "sum_of_waits" 2 F_sum_of_waits) (c_waiting_at : CalG P w K mg base 3 "waiting_at" 3 F_waiting_at) (c_pairing_waits : CalG P w K mg base 3 "pairing_waits" 3 F_pairing_waits) (c__law_kind : KindOk P w K mg base 2 "_law_kind" kindF) : FnG P w K mg base 4 f fd ["way", "one", "other", "more"] (spM K mg 4 F__law_asked) := def_go F sc__law_asked fun cdv A outer s H E hr hgu tk hx hp => have hN := (sc__law_asked).nd; dss_cons (ds_tryK (i := 4) c__law_kind M.catch_ hr (by decide) rfl rfl hN tk (fun E1 pn xe tk hp => have hx := fun σ => L2N.passAt tk σ; dss_cons (ds_ret (den_if (dt_cmp po_lt bi_lt (den_var 0) (den_int) (by with_unfolding_all rfl)) (den_pick (k := 3) (defs_cons (defs_cons (defs_nil) M.d_sum_of_waits) M.d_meetings) (all_cons (c_meetings.mono (by decide)) (all_cons (c_sum_of_waits.mono (by decide)) (all_nil))) (by decide) (den_var 0) hr hgu hx (da_cons (den_var 1) (da_cons (den_var 2) (da_nil)))) (den_pick (k := 3) (defs_cons (defs_cons (defs_nil) M.d_pairing_waits) M.d_waiting_at) (all_cons (c_waiting_at.mono (by decide)) (all_cons (c_pairing_waits.mono (by decide)) (all_nil))) (by decide) (den_sub (den_var 0) (den_int)) hr hgu hx (da_cons (den_var 1) (da_cons (den_var 2) (da_cons (den_var 3) (da_nil))))))) (dss_nil))) (dss_nil)
def sc_law : FnScope ["script", "draws", "long", "one", "other", "met", "due", "k", "whole", "time", "wait", "waits", "mine", "theirs", "at", "order", "told", "orders", "bad", "way"] ["script"] (defScope (topS 29)) := ⟨rfl, rfl, rfl, by decide +kernel, rfl, by decide +kernel, by decide +kernel⟩
theorem ok_law (F : Fun K "law" "law" (topS 29) f fd) (M : MG K mg) (c_meetings : CalG P w K mg base 3 "meetings" 2 F_meetings) (c_sum_of_waits : CalG P w K mg base 3 "sum_of_waits" 2 F_sum_of_waits) (c_waiting_at : CalG P w K mg base 3 "waiting_at" 3 F_waiting_at) (c_pairing_waits : CalG P w K mg base 3 "pairing_waits" 3 F_pairing_waits) (c__law_draws : CalG P w K mg base 2 "_law_draws" 1 F__law_draws) (c__law_flat : CalG P w K mg base 1 "_law_flat" 1 F__law_flat) (c__law_next : CalG P w K mg base 1 "_law_next" 1 F__law_next) (c__law_more : CalG P w K mg base 2 "_law_more" 2 F__law_more) (c__law_pick : CalG P w K mg base 2 "_law_pick" 2 F__law_pick) (c__law_orders : CalG P w K mg base 1 "_law_orders" 1 F__law_orders) (c__law_stream : CalG P w K mg base 2 "_law_stream" 3 F__law_stream) (c__law_asked : CalG P w K mg base 4 "_law_asked" 4 F__law_asked) : FnG P w K mg base 5 f fd ["script"] (spM K mg 1 F_law) := def_go F sc_law fun cdv A outer s H E hr hgu tk hx hp => have hN := (sc_law).nd; dss_cons (ds_setR 1 hN (den_call c__law_draws hr hgu hx (da_cons (den_var 0) (da_nil)))) (dss_cons (ds_setR 1 hN (den_call c__law_more hr hgu hx (da_cons (den_var 1) (da_cons (den_int) (da_nil))))) (dss_cons (ds_set 2 hN (den_call c__law_pick hr hgu hx (da_cons (den_var 1) (da_cons (den_lst (da_cons (den_int) (da_cons (den_int) (da_cons (den_int) (da_nil))))) (da_nil))))) (dss_cons (ds_set 3 hN (den_call c__law_stream hr hgu hx (da_cons (den_var 1) (da_cons (den_mod (den_Ty ca_int call_int1 (by rfl) M.b_int (by decide +kernel) (da_cons (den_call c__law_next hr hgu hx (da_cons (den_var 1) (da_nil))) (da_nil))) (den_int)) (da_cons (den_var 2) (da_nil)))))) (dss_cons (ds_set 4 hN (den_call c__law_stream hr hgu hx (da_cons (den_var 1) (da_cons (den_if (dt_cmp po_gt bi_gt (den_mod (den_Ty ca_int call_int1 (by rfl) M.b_int (by decide +kernel) (da_cons (den_call c__law_next hr hgu hx (da_cons (den_var 1) (da_nil))) (da_nil))) (den_int)) (den_int) (by with_unfolding_all rfl)) (den_B ca_len call_len (by rfl) M.b_len (by decide +kernel) (da_cons (den_var 3) (da_nil))) (den_mod (den_Ty ca_int call_int1 (by rfl) M.b_int (by decide +kernel) (da_cons (den_call c__law_next hr hgu hx (da_cons (den_var 1) (da_nil))) (da_nil))) (den_int))) (da_cons (den_var 2) (da_nil)))))) (dss_cons (ds_set 5 hN (den_B ca_min2 (call_min2 rfl) (by rfl) M.b_min (by decide +kernel) (da_cons (den_B ca_len call_len (by rfl) M.b_len (by decide +kernel) (da_cons (den_var 3) (da_nil))) (da_cons (den_B ca_len call_len (by rfl) M.b_len (by decide +kernel) (da_cons (den_var 4) (da_nil))) (da_nil))))) (dss_cons (ds_set 6 hN (den_Ty ca_tup call_tuple_of (by rfl) M.b_tuple (by decide +kernel) (da_cons (den_lc [("k", 7)] rfl hN (di_range1 (by rfl) M.b_range (da_cons (den_var 5) (da_nil))) (blkOk_by (by kernel_rfl)) (fun s H C cl fp => dg_name 7 hN) (fun s H C cl fp => dts_nil) (fun s H C cl fp => den_tup (da_cons (den_B ca_max2 (call_max2 rfl) (by rfl) M.b_max (by decide +kernel) (da_cons (den_ix (den_var 3) (den_var 7)) (da_cons (den_ix (den_var 4) (den_var 7)) (da_nil)))) (da_cons (den_sub (den_ix (den_var 4) (den_var 7)) (den_ix (den_var 3) (den_var 7))) (da_nil))))) (da_nil)))) (dss_cons (ds_set 8 hN (den_B ca_sum (cr_sum rfl) (by rfl) M.b_sum (by decide +kernel) (da_cons (den_lc [("time", 9), ("wait", 10)] rfl hN (di_seq (den_var 6)) (blkOk_by (by kernel_rfl)) (fun s H C cl fp => dg_tup rfl (dgs_cons (dg_name 9 hN) (dgs_cons (dg_name 10 hN) (dgs_nil)))) (fun s H C cl fp => dts_nil) (fun s H C cl fp => den_B ca_abs call_abs (by rfl) M.b_abs (by decide +kernel) (da_cons (den_var 10) (da_nil)))) (da_nil)))) (dss_cons (ds_set 9 hN (den_mod (den_Ty ca_int call_int1 (by rfl) M.b_int (by decide +kernel) (da_cons (den_call c__law_next hr hgu hx (da_cons (den_var 1) (da_nil))) (da_nil))) (den_add (den_var 2) (den_int)))) (dss_cons (ds_set 11 hN (den_sub (den_B ca_len call_len (by rfl) M.b_len (by decide +kernel) (da_cons (den_lc [("mine", 12)] rfl hN (di_seq (den_var 3)) (blkOk_by (by kernel_rfl)) (fun s H C cl fp => dg_name 12 hN) (fun s H C cl fp => dts_one (dt_cmp po_le bi_le (den_var 12) (den_var 9) (by with_unfolding_all rfl))) (fun s H C cl fp => den_var 12)) (da_nil))) (den_B ca_len call_len (by rfl) M.b_len (by decide +kernel) (da_cons (den_lc [("theirs", 13)] rfl hN (di_seq (den_var 4)) (blkOk_by (by kernel_rfl)) (fun s H C cl fp => dg_name 13 hN) (fun s H C cl fp => dts_one (dt_cmp po_le bi_le (den_var 13) (den_var 9) (by with_unfolding_all rfl))) (fun s H C cl fp => den_var 13)) (da_nil))))) (dss_cons (ds_if (dt_cmp (po_ne (u64 hr)) bi_ne (den_B ca_repr (cr_repr hgu (u65 hr)) (by rfl) M.b_repr (by decide +kernel) (da_cons (den_lst (da_cons (den_call c__law_asked hr hgu hx (da_cons (den_int) (da_cons (den_var 3) (da_cons (den_var 4) (da_cons (den_none) (da_nil)))))) (da_cons (den_call c__law_asked hr hgu hx (da_cons (den_int) (da_cons (den_var 3) (da_cons (den_var 4) (da_cons (den_none) (da_nil)))))) (da_cons (den_call c__law_asked hr hgu hx (da_cons (den_int) (da_cons (den_var 3) (da_cons (den_var 4) (da_cons (den_var 9) (da_nil)))))) (da_nil))))) (da_nil))) (den_B ca_repr (cr_repr hgu (u65 hr)) (by rfl) M.b_repr (by decide +kernel) (da_cons (den_lst (da_cons (den_var 6) (da_cons (den_var 8) (da_cons (den_var 11) (da_nil))))) (da_nil))) (by with_unfolding_all rfl)) (dss_cons (ds_ret (den_bool)) (dss_nil)) (dss_nil)) (dss_cons (ds_if (dt_cmp (po_eq (u64 hr)) bi_eq (den_B ca_len call_len (by rfl) M.b_len (by decide +kernel) (da_cons (den_var 3) (da_nil))) (den_B ca_len call_len (by rfl) M.b_len (by decide +kernel) (da_cons (den_var 4) (da_nil))) (by with_unfolding_all rfl)) (dss_cons (ds_if (dt_cmp (po_ne (u64 hr)) bi_ne (den_B ca_sum (cr_sum rfl) (by rfl) M.b_sum (by decide +kernel) (da_cons (den_lc [("at", 14)] rfl hN (di_range1 (by rfl) M.b_range (da_cons (den_var 2) (da_nil))) (blkOk_by (by kernel_rfl)) (fun s H C cl fp => dg_name 14 hN) (fun s H C cl fp => dts_nil) (fun s H C cl fp => den_B ca_abs call_abs (by rfl) M.b_abs (by decide +kernel) (da_cons (den_call c_waiting_at hr hgu passNo (da_cons (den_var 3) (da_cons (den_var 4) (da_cons (den_var 14) (da_nil))))) (da_nil)))) (da_nil))) (den_var 8) (by with_unfolding_all rfl)) (dss_cons (ds_ret (den_bool)) (dss_nil)) (dss_nil)) (dss_cons (ds_for hp rfl (di_seq (den_call c__law_orders hr hgu hx (da_cons (den_B ca_len call_len (by rfl) M.b_len (by decide +kernel) (da_cons (den_var 3) (da_nil))) (da_nil)))) (dg_name 15 hN) (dss_cons (ds_set 16 hN (den_B ca_sum (cr_sum rfl) (by rfl) M.b_sum (by decide +kernel) (da_cons (den_lc [("k", 7)] rfl hN (di_range1 (by rfl) M.b_range (da_cons (den_B ca_len call_len (by rfl) M.b_len (by decide +kernel) (da_cons (den_var 3) (da_nil))) (da_nil))) (blkOk_by (by kernel_rfl)) (fun s H C cl fp => dg_name 7 hN) (fun s H C cl fp => dts_nil) (fun s H C cl fp => den_B ca_abs call_abs (by rfl) M.b_abs (by decide +kernel) (da_cons (den_sub (den_ix (den_var 3) (den_var 7)) (den_ix (den_var 4) (den_ix (den_var 15) (den_var 7)))) (da_nil)))) (da_nil)))) (dss_cons (ds_if (dt_w (dw_or (dt_cmp po_lt bi_lt (den_var 16) (den_var 8) (by with_unfolding_all rfl)) (dw_or1 (dt_cmp (po_ne (u64 hr)) bi_ne (den_call c_pairing_waits hr hgu hx (da_cons (den_var 3) (da_cons (den_var 4) (da_cons (den_var 15) (da_nil))))) (den_var 16) (by with_unfolding_all rfl))))) (dss_cons (ds_ret (den_bool)) (dss_nil)) (dss_nil)) (dss_nil)))) (dss_cons (ds_set 17 hN (den_lst (da_cons (den_Ty ca_tup call_tuple_of (by rfl) M.b_tuple (by decide +kernel) (da_cons (den_lstRg rfl (by rfl) M.b_list (drg_2 (by rfl) M.b_range (den_int) (den_add (den_B ca_len call_len (by rfl) M.b_len (by decide +kernel) (da_cons (den_var 3) (da_nil))) (den_int)))) (da_nil))) (da_cons (den_mul (den_tup (da_cons (den_int) (da_nil))) (den_add (den_B ca_len call_len (by rfl) M.b_len (by decide +kernel) (da_cons (den_var 3) (da_nil))) (den_int))) (da_cons (den_Ty ca_tup call_tuple_of (by rfl) M.b_tuple (by decide +kernel) (da_cons (den_lstRg rfl (by rfl) M.b_list (drg_1 (by rfl) M.b_range (den_add (den_B ca_len call_len (by rfl) M.b_len (by decide +kernel) (da_cons (den_var 3) (da_nil))) (den_int)))) (da_nil))) (da_nil)))))) (dss_cons (ds_if (dt_cmp (po_ne (u64 hr)) bi_ne (den_lc [("order", 15)] rfl hN (di_seq (den_sl (den_var 17) (do_some (den_Ty ca_int call_int1 (by rfl) M.b_int (by decide +kernel) (da_cons (den_cmp (po_eq (u64 hr)) bi_eq (den_B ca_len call_len (by rfl) M.b_len (by decide +kernel) (da_cons (den_var 3) (da_nil))) (den_int) (by with_unfolding_all rfl)) (da_nil)))) (do_none))) (blkOk_by (by kernel_rfl)) (fun s H C cl fp => dg_name 15 hN) (fun s H C cl fp => dts_nil) (fun s H C cl fp => den_call c__law_asked hr hgu passNo (da_cons (den_int) (da_cons (den_var 3) (da_cons (den_var 4) (da_cons (den_var 15) (da_nil))))))) (den_mul (den_lst (da_cons (den_str) (da_nil))) (den_sub (den_int) (den_Ty ca_int call_int1 (by rfl) M.b_int (by decide +kernel) (da_cons (den_cmp (po_eq (u64 hr)) bi_eq (den_B ca_len call_len (by rfl) M.b_len (by decide +kernel) (da_cons (den_var 3) (da_nil))) (den_int) (by with_unfolding_all rfl)) (da_nil))))) (by with_unfolding_all rfl)) (dss_cons (ds_ret (den_bool)) (dss_nil)) (dss_nil)) (dss_nil))))) (dss_cons (ds_if (dt_cmp (po_ne (u64 hr)) bi_ne (den_call c__law_asked hr hgu hx (da_cons (den_int) (da_cons (den_var 3) (da_cons (den_var 4) (da_cons (den_Ty ca_tup call_tuple_of (by rfl) M.b_tuple (by decide +kernel) (da_cons (den_lstRg rfl (by rfl) M.b_list (drg_1 (by rfl) M.b_range (den_B ca_len call_len (by rfl) M.b_len (by decide +kernel) (da_cons (den_var 3) (da_nil))))) (da_nil))) (da_nil)))))) (den_str) (by with_unfolding_all rfl)) (dss_cons (ds_ret (den_bool)) (dss_nil)) (dss_nil)) (dss_nil))) (dss_cons (ds_if (dt_cmp (po_ne (u64 hr)) bi_ne (den_B ca_repr (cr_repr hgu (u65 hr)) (by rfl) M.b_repr (by decide +kernel) (da_cons (den_lst (da_cons (den_call c_meetings hr hgu hx (da_cons (den_tup (da_cons (den_int) (da_cons (den_int) (da_nil)))) (da_cons (den_tup (da_cons (den_int) (da_cons (den_int) (da_nil)))) (da_nil)))) (da_cons (den_call c_sum_of_waits hr hgu hx (da_cons (den_tup (da_cons (den_int) (da_cons (den_int) (da_nil)))) (da_cons (den_tup (da_cons (den_int) (da_cons (den_int) (da_nil)))) (da_nil)))) (da_cons (den_call c_waiting_at hr hgu hx (da_cons (den_tup (da_cons (den_int) (da_cons (den_int) (da_nil)))) (da_cons (den_tup (da_cons (den_int) (da_cons (den_int) (da_nil)))) (da_cons (den_int) (da_nil))))) (da_cons (den_call c_waiting_at hr hgu hx (da_cons (den_tup (da_nil)) (da_cons (den_tup (da_cons (den_int) (da_cons (den_int) (da_nil)))) (da_cons (den_int) (da_nil))))) (da_nil)))))) (da_nil))) (den_B ca_repr (cr_repr hgu (u65 hr)) (by rfl) M.b_repr (by decide +kernel) (da_cons (den_lst (da_cons (den_tup (da_cons (den_tup (da_cons (den_int) (da_cons (den_int) (da_nil)))) (da_cons (den_tup (da_cons (den_int) (da_cons (den_neg (den_int)) (da_nil)))) (da_nil)))) (da_cons (den_int) (da_cons (den_int) (da_cons (den_neg (den_int)) (da_nil)))))) (da_nil))) (by with_unfolding_all rfl)) (dss_cons (ds_ret (den_bool)) (dss_nil)) (dss_nil)) (dss_cons (ds_set 18 hN (den_call c__law_pick hr hgu hx (da_cons (den_var 1) (da_cons (den_lst (da_cons (den_tup (da_cons (den_int) (da_cons (den_int) (da_nil)))) (da_cons (den_tup (da_cons (den_neg (den_int)) (da_nil))) (da_cons (den_tup (da_cons (den_int) (da_nil))) (da_cons (den_mul (den_tup (da_cons (den_int) (da_nil))) (den_int)) (da_nil)))))) (da_nil))))) (dss_cons (ds_set 16 hN (den_call c__law_flat hr hgu hx (da_cons (den_lc [("way", 19)] rfl hN (di_range1 (by rfl) M.b_range (da_cons (den_int) (da_nil))) (blkOk_by (by kernel_rfl)) (fun s H C cl fp => dg_name 19 hN) (fun s H C cl fp => dts_nil) (fun s H C cl fp => den_lst (da_cons (den_call c__law_asked hr hgu passNo (da_cons (den_var 19) (da_cons (den_var 18) (da_cons (den_var 3) (da_cons (den_if (dt_cmp (po_eq (u64 hr)) bi_eq (den_var 19) (den_int) (by with_unfolding_all rfl)) (den_neg (den_int)) (den_tup (da_cons (den_int) (da_cons (den_int) (da_nil))))) (da_nil)))))) (da_cons (den_call c__law_asked hr hgu passNo (da_cons (den_var 19) (da_cons (den_var 3) (da_cons (den_var 18) (da_cons (den_if (dt_cmp (po_eq (u64 hr)) bi_eq (den_var 19) (den_int) (by with_unfolding_all rfl)) (den_neg (den_int)) (den_tup (da_cons (den_int) (da_cons (den_int) (da_nil))))) (da_nil)))))) (da_nil))))) (da_nil)))) (dss_cons (ds_ret (den_andV (den_cmp (po_eq (u64 hr)) bi_eq (den_var 16) (den_mul (den_lst (da_cons (den_str) (da_nil))) (den_int)) (by with_unfolding_all rfl)) (den_and1 (den_cmp (po_eq (u64 hr)) bi_eq (den_lc [("at", 14)] rfl hN (di_seq (den_lst (da_cons (den_neg (den_int)) (da_cons (den_int) (da_nil))))) (blkOk_by (by kernel_rfl)) (fun s H C cl fp => dg_name 14 hN) (fun s H C cl fp => dts_nil) (fun s H C cl fp => den_call c__law_asked hr hgu passNo (da_cons (den_int) (da_cons (den_var 3) (da_cons (den_var 4) (da_cons (den_var 14) (da_nil))))))) (den_mul (den_lst (da_cons (den_str) (da_nil))) (den_int)) (by with_unfolding_all rfl))))) (dss_nil))))))))))))))))
theorem catch_mk {h : Heap} {A_NotChain A_NotNet A_NotTrace A_NotPaper A_BadNumber A_NoAnswer A_TooLarge A_QueueError : Addr} (X : K.In h) (G : h.Ns mainGlobals mg) (g_NotChain : PySem.W.nsIn K mainGlobals "NotChain" = some (some (.ref A_NotChain))) (g_NotNet : PySem.W.nsIn K mainGlobals "NotNet" = some (some (.ref A_NotNet))) (g_NotTrace : PySem.W.nsIn K mainGlobals "NotTrace" = some (some (.ref A_NotTrace))) (g_NotPaper : PySem.W.nsIn K mainGlobals "NotPaper" = some (some (.ref A_NotPaper))) (g_BadNumber : PySem.W.nsIn K mainGlobals "BadNumber" = some (some (.ref A_BadNumber))) (g_NoAnswer : PySem.W.nsIn K mainGlobals "NoAnswer" = some (some (.ref A_NoAnswer))) (g_TooLarge : PySem.W.nsIn K mainGlobals "TooLarge" = some (some (.ref A_TooLarge))) (g_QueueError : PySem.W.nsIn K mainGlobals "QueueError" = some (some (.ref A_QueueError))) (s_QueueError : PySem.W.subIn K (.ref A_QueueError) (.type "BaseException") = some true) (y_QueueError : PySem.W.typeIn K (.ref A_QueueError) = some (.type "type")) (q_h : PySem.W.hasDictIn K A_QueueError = true) (u_NotChain : PySem.W.subIn K (.ref A_NotChain) (.ref A_QueueError) = some true) (u_NotNet : PySem.W.subIn K (.ref A_NotNet) (.ref A_QueueError) = some true) (u_NotTrace : PySem.W.subIn K (.ref A_NotTrace) (.ref A_QueueError) = some true) (u_NotPaper : PySem.W.subIn K (.ref A_NotPaper) (.ref A_QueueError) = some true) (u_BadNumber : PySem.W.subIn K (.ref A_BadNumber) (.ref A_QueueError) = some true) (u_NoAnswer : PySem.W.subIn K (.ref A_NoAnswer) (.ref A_QueueError) = some true) (u_TooLarge : PySem.W.subIn K (.ref A_TooLarge) (.ref A_QueueError) = some true) : CatchOk K mg "QueueError" kindF := by
  refine ⟨A_QueueError, PySem.W.mg_of X G g_QueueError, fun y z h => ?_⟩
  rcases kindTab_cases h with ⟨rfl, rfl⟩ | ⟨rfl, rfl⟩ | ⟨rfl, rfl⟩ | ⟨rfl, rfl⟩ | ⟨rfl, rfl⟩ | ⟨rfl, rfl⟩ | ⟨rfl, rfl⟩
  · exact ⟨A_NotChain, PySem.W.mg_of X G g_NotChain, PySem.W.exm_ref s_QueueError q_h y_QueueError u_NotChain⟩
  · exact ⟨A_NotNet, PySem.W.mg_of X G g_NotNet, PySem.W.exm_ref s_QueueError q_h y_QueueError u_NotNet⟩
  · exact ⟨A_NotTrace, PySem.W.mg_of X G g_NotTrace, PySem.W.exm_ref s_QueueError q_h y_QueueError u_NotTrace⟩
  · exact ⟨A_NotPaper, PySem.W.mg_of X G g_NotPaper, PySem.W.exm_ref s_QueueError q_h y_QueueError u_NotPaper⟩
  · exact ⟨A_BadNumber, PySem.W.mg_of X G g_BadNumber, PySem.W.exm_ref s_QueueError q_h y_QueueError u_BadNumber⟩
  · exact ⟨A_NoAnswer, PySem.W.mg_of X G g_NoAnswer, PySem.W.exm_ref s_QueueError q_h y_QueueError u_NoAnswer⟩
  · exact ⟨A_TooLarge, PySem.W.mg_of X G g_TooLarge, PySem.W.exm_ref s_QueueError q_h y_QueueError u_TooLarge⟩
theorem kindt_mk {h : Heap} {A_NotChain A_NotNet A_NotTrace A_NotPaper A_BadNumber A_NoAnswer A_TooLarge : Addr} (X : K.In h) (G : h.Ns mainGlobals mg) (g_NotChain : PySem.W.nsIn K mainGlobals "NotChain" = some (some (.ref A_NotChain))) (g_NotNet : PySem.W.nsIn K mainGlobals "NotNet" = some (some (.ref A_NotNet))) (g_NotTrace : PySem.W.nsIn K mainGlobals "NotTrace" = some (some (.ref A_NotTrace))) (g_NotPaper : PySem.W.nsIn K mainGlobals "NotPaper" = some (some (.ref A_NotPaper))) (g_BadNumber : PySem.W.nsIn K mainGlobals "BadNumber" = some (some (.ref A_BadNumber))) (g_NoAnswer : PySem.W.nsIn K mainGlobals "NoAnswer" = some (some (.ref A_NoAnswer))) (g_TooLarge : PySem.W.nsIn K mainGlobals "TooLarge" = some (some (.ref A_TooLarge))) (q_n : PySem.W.specialIn K (.builtin "object.__class__") "__get__" = some (some (.builtin "getset_descriptor.__get__"))) (q_t : PySem.W.takesIn K (.builtin "object.__class__") = some true) (s_NotChain : PySem.W.subIn K (.ref A_NotChain) (.type "BaseException") = some true) (n1_NotChain : PySem.W.findIn K (.ref A_NotChain) "__getattribute__" = some (some (.builtin "BaseException.__getattribute__"))) (n2_NotChain : PySem.W.findIn K (.ref A_NotChain) "__getattr__" = some none) (n3_NotChain : PySem.W.hasDictIn K A_NotChain = true) (n4_NotChain : PySem.W.findIn K (.ref A_NotChain) "__class__" = some (some (.builtin "object.__class__"))) (n5_NotChain : PySem.W.mroIn K A_NotChain (.type "object") = some true) (kit_NotChain_NotChain : PySem.W.kitOne K (.ref A_NotChain) (.ref A_NotChain) = some true) (kit_NotChain_NotNet : PySem.W.kitOne K (.ref A_NotChain) (.ref A_NotNet) = some false) (kit_NotChain_NotTrace : PySem.W.kitOne K (.ref A_NotChain) (.ref A_NotTrace) = some false) (kit_NotChain_NotPaper : PySem.W.kitOne K (.ref A_NotChain) (.ref A_NotPaper) = some false) (kit_NotChain_BadNumber : PySem.W.kitOne K (.ref A_NotChain) (.ref A_BadNumber) = some false) (kit_NotChain_NoAnswer : PySem.W.kitOne K (.ref A_NotChain) (.ref A_NoAnswer) = some false) (kit_NotChain_TooLarge : PySem.W.kitOne K (.ref A_NotChain) (.ref A_TooLarge) = some false) (s_NotNet : PySem.W.subIn K (.ref A_NotNet) (.type "BaseException") = some true) (n1_NotNet : PySem.W.findIn K (.ref A_NotNet) "__getattribute__" = some (some (.builtin "BaseException.__getattribute__"))) (n2_NotNet : PySem.W.findIn K (.ref A_NotNet) "__getattr__" = some none) (n3_NotNet : PySem.W.hasDictIn K A_NotNet = true) (n4_NotNet : PySem.W.findIn K (.ref A_NotNet) "__class__" = some (some (.builtin "object.__class__"))) (n5_NotNet : PySem.W.mroIn K A_NotNet (.type "object") = some true) (kit_NotNet_NotChain : PySem.W.kitOne K (.ref A_NotNet) (.ref A_NotChain) = some false) (kit_NotNet_NotNet : PySem.W.kitOne K (.ref A_NotNet) (.ref A_NotNet) = some true) (kit_NotNet_NotTrace : PySem.W.kitOne K (.ref A_NotNet) (.ref A_NotTrace) = some false) (kit_NotNet_NotPaper : PySem.W.kitOne K (.ref A_NotNet) (.ref A_NotPaper) = some false) (kit_NotNet_BadNumber : PySem.W.kitOne K (.ref A_NotNet) (.ref A_BadNumber) = some false) (kit_NotNet_NoAnswer : PySem.W.kitOne K (.ref A_NotNet) (.ref A_NoAnswer) = some false) (kit_NotNet_TooLarge : PySem.W.kitOne K (.ref A_NotNet) (.ref A_TooLarge) = some false) (s_NotTrace : PySem.W.subIn K (.ref A_NotTrace) (.type "BaseException") = some true) (n1_NotTrace : PySem.W.findIn K (.ref A_NotTrace) "__getattribute__" = some (some (.builtin "BaseException.__getattribute__"))) (n2_NotTrace : PySem.W.findIn K (.ref A_NotTrace) "__getattr__" = some none) (n3_NotTrace : PySem.W.hasDictIn K A_NotTrace = true) (n4_NotTrace : PySem.W.findIn K (.ref A_NotTrace) "__class__" = some (some (.builtin "object.__class__"))) (n5_NotTrace : PySem.W.mroIn K A_NotTrace (.type "object") = some true) (kit_NotTrace_NotChain : PySem.W.kitOne K (.ref A_NotTrace) (.ref A_NotChain) = some false) (kit_NotTrace_NotNet : PySem.W.kitOne K (.ref A_NotTrace) (.ref A_NotNet) = some false) (kit_NotTrace_NotTrace : PySem.W.kitOne K (.ref A_NotTrace) (.ref A_NotTrace) = some true) (kit_NotTrace_NotPaper : PySem.W.kitOne K (.ref A_NotTrace) (.ref A_NotPaper) = some false) (kit_NotTrace_BadNumber : PySem.W.kitOne K (.ref A_NotTrace) (.ref A_BadNumber) = some false) (kit_NotTrace_NoAnswer : PySem.W.kitOne K (.ref A_NotTrace) (.ref A_NoAnswer) = some false) (kit_NotTrace_TooLarge : PySem.W.kitOne K (.ref A_NotTrace) (.ref A_TooLarge) = some false) (s_NotPaper : PySem.W.subIn K (.ref A_NotPaper) (.type "BaseException") = some true) (n1_NotPaper : PySem.W.findIn K (.ref A_NotPaper) "__getattribute__" = some (some (.builtin "BaseException.__getattribute__"))) (n2_NotPaper : PySem.W.findIn K (.ref A_NotPaper) "__getattr__" = some none) (n3_NotPaper : PySem.W.hasDictIn K A_NotPaper = true) (n4_NotPaper : PySem.W.findIn K (.ref A_NotPaper) "__class__" = some (some (.builtin "object.__class__"))) (n5_NotPaper : PySem.W.mroIn K A_NotPaper (.type "object") = some true) (kit_NotPaper_NotChain : PySem.W.kitOne K (.ref A_NotPaper) (.ref A_NotChain) = some false) (kit_NotPaper_NotNet : PySem.W.kitOne K (.ref A_NotPaper) (.ref A_NotNet) = some false) (kit_NotPaper_NotTrace : PySem.W.kitOne K (.ref A_NotPaper) (.ref A_NotTrace) = some false) (kit_NotPaper_NotPaper : PySem.W.kitOne K (.ref A_NotPaper) (.ref A_NotPaper) = some true) (kit_NotPaper_BadNumber : PySem.W.kitOne K (.ref A_NotPaper) (.ref A_BadNumber) = some false) (kit_NotPaper_NoAnswer : PySem.W.kitOne K (.ref A_NotPaper) (.ref A_NoAnswer) = some false) (kit_NotPaper_TooLarge : PySem.W.kitOne K (.ref A_NotPaper) (.ref A_TooLarge) = some false) (s_BadNumber : PySem.W.subIn K (.ref A_BadNumber) (.type "BaseException") = some true) (n1_BadNumber : PySem.W.findIn K (.ref A_BadNumber) "__getattribute__" = some (some (.builtin "BaseException.__getattribute__"))) (n2_BadNumber : PySem.W.findIn K (.ref A_BadNumber) "__getattr__" = some none) (n3_BadNumber : PySem.W.hasDictIn K A_BadNumber = true) (n4_BadNumber : PySem.W.findIn K (.ref A_BadNumber) "__class__" = some (some (.builtin "object.__class__"))) (n5_BadNumber : PySem.W.mroIn K A_BadNumber (.type "object") = some true) (kit_BadNumber_NotChain : PySem.W.kitOne K (.ref A_BadNumber) (.ref A_NotChain) = some false) (kit_BadNumber_NotNet : PySem.W.kitOne K (.ref A_BadNumber) (.ref A_NotNet) = some false) (kit_BadNumber_NotTrace : PySem.W.kitOne K (.ref A_BadNumber) (.ref A_NotTrace) = some false) (kit_BadNumber_NotPaper : PySem.W.kitOne K (.ref A_BadNumber) (.ref A_NotPaper) = some false) (kit_BadNumber_BadNumber : PySem.W.kitOne K (.ref A_BadNumber) (.ref A_BadNumber) = some true) (kit_BadNumber_NoAnswer : PySem.W.kitOne K (.ref A_BadNumber) (.ref A_NoAnswer) = some false) (kit_BadNumber_TooLarge : PySem.W.kitOne K (.ref A_BadNumber) (.ref A_TooLarge) = some false) (s_NoAnswer : PySem.W.subIn K (.ref A_NoAnswer) (.type "BaseException") = some true) (n1_NoAnswer : PySem.W.findIn K (.ref A_NoAnswer) "__getattribute__" = some (some (.builtin "BaseException.__getattribute__"))) (n2_NoAnswer : PySem.W.findIn K (.ref A_NoAnswer) "__getattr__" = some none) (n3_NoAnswer : PySem.W.hasDictIn K A_NoAnswer = true) (n4_NoAnswer : PySem.W.findIn K (.ref A_NoAnswer) "__class__" = some (some (.builtin "object.__class__"))) (n5_NoAnswer : PySem.W.mroIn K A_NoAnswer (.type "object") = some true) (kit_NoAnswer_NotChain : PySem.W.kitOne K (.ref A_NoAnswer) (.ref A_NotChain) = some false) (kit_NoAnswer_NotNet : PySem.W.kitOne K (.ref A_NoAnswer) (.ref A_NotNet) = some false) (kit_NoAnswer_NotTrace : PySem.W.kitOne K (.ref A_NoAnswer) (.ref A_NotTrace) = some false) (kit_NoAnswer_NotPaper : PySem.W.kitOne K (.ref A_NoAnswer) (.ref A_NotPaper) = some false) (kit_NoAnswer_BadNumber : PySem.W.kitOne K (.ref A_NoAnswer) (.ref A_BadNumber) = some false) (kit_NoAnswer_NoAnswer : PySem.W.kitOne K (.ref A_NoAnswer) (.ref A_NoAnswer) = some true) (kit_NoAnswer_TooLarge : PySem.W.kitOne K (.ref A_NoAnswer) (.ref A_TooLarge) = some false) (s_TooLarge : PySem.W.subIn K (.ref A_TooLarge) (.type "BaseException") = some true) (n1_TooLarge : PySem.W.findIn K (.ref A_TooLarge) "__getattribute__" = some (some (.builtin "BaseException.__getattribute__"))) (n2_TooLarge : PySem.W.findIn K (.ref A_TooLarge) "__getattr__" = some none) (n3_TooLarge : PySem.W.hasDictIn K A_TooLarge = true) (n4_TooLarge : PySem.W.findIn K (.ref A_TooLarge) "__class__" = some (some (.builtin "object.__class__"))) (n5_TooLarge : PySem.W.mroIn K A_TooLarge (.type "object") = some true) (kit_TooLarge_NotChain : PySem.W.kitOne K (.ref A_TooLarge) (.ref A_NotChain) = some false) (kit_TooLarge_NotNet : PySem.W.kitOne K (.ref A_TooLarge) (.ref A_NotNet) = some false) (kit_TooLarge_NotTrace : PySem.W.kitOne K (.ref A_TooLarge) (.ref A_NotTrace) = some false) (kit_TooLarge_NotPaper : PySem.W.kitOne K (.ref A_TooLarge) (.ref A_NotPaper) = some false) (kit_TooLarge_BadNumber : PySem.W.kitOne K (.ref A_TooLarge) (.ref A_BadNumber) = some false) (kit_TooLarge_NoAnswer : PySem.W.kitOne K (.ref A_TooLarge) (.ref A_NoAnswer) = some false) (kit_TooLarge_TooLarge : PySem.W.kitOne K (.ref A_TooLarge) (.ref A_TooLarge) = some true) : KindT K mg := by
  refine ⟨fun y z h => ?_⟩
  rcases kindTab_cases h with ⟨rfl, rfl⟩ | ⟨rfl, rfl⟩ | ⟨rfl, rfl⟩ | ⟨rfl, rfl⟩ | ⟨rfl, rfl⟩ | ⟨rfl, rfl⟩ | ⟨rfl, rfl⟩
  · refine ⟨A_NotChain, PySem.W.mg_of X G g_NotChain, ⟨n1_NotChain, n2_NotChain, s_NotChain, n3_NotChain, n4_NotChain, q_n, q_t, n5_NotChain⟩, fun y2 z2 h2 => ?_⟩
    rcases kindTab_cases h2 with ⟨rfl, rfl⟩ | ⟨rfl, rfl⟩ | ⟨rfl, rfl⟩ | ⟨rfl, rfl⟩ | ⟨rfl, rfl⟩ | ⟨rfl, rfl⟩ | ⟨rfl, rfl⟩
    · exact ⟨A_NotChain, PySem.W.mg_of X G g_NotChain, kit_NotChain_NotChain.trans (by decide)⟩
    · exact ⟨A_NotNet, PySem.W.mg_of X G g_NotNet, kit_NotChain_NotNet.trans (by decide)⟩
    · exact ⟨A_NotTrace, PySem.W.mg_of X G g_NotTrace, kit_NotChain_NotTrace.trans (by decide)⟩
    · exact ⟨A_NotPaper, PySem.W.mg_of X G g_NotPaper, kit_NotChain_NotPaper.trans (by decide)⟩
    · exact ⟨A_BadNumber, PySem.W.mg_of X G g_BadNumber, kit_NotChain_BadNumber.trans (by decide)⟩
    · exact ⟨A_NoAnswer, PySem.W.mg_of X G g_NoAnswer, kit_NotChain_NoAnswer.trans (by decide)⟩
    · exact ⟨A_TooLarge, PySem.W.mg_of X G g_TooLarge, kit_NotChain_TooLarge.trans (by decide)⟩
  · refine ⟨A_NotNet, PySem.W.mg_of X G g_NotNet, ⟨n1_NotNet, n2_NotNet, s_NotNet, n3_NotNet, n4_NotNet, q_n, q_t, n5_NotNet⟩, fun y2 z2 h2 => ?_⟩
    rcases kindTab_cases h2 with ⟨rfl, rfl⟩ | ⟨rfl, rfl⟩ | ⟨rfl, rfl⟩ | ⟨rfl, rfl⟩ | ⟨rfl, rfl⟩ | ⟨rfl, rfl⟩ | ⟨rfl, rfl⟩
    · exact ⟨A_NotChain, PySem.W.mg_of X G g_NotChain, kit_NotNet_NotChain.trans (by decide)⟩
    · exact ⟨A_NotNet, PySem.W.mg_of X G g_NotNet, kit_NotNet_NotNet.trans (by decide)⟩
    · exact ⟨A_NotTrace, PySem.W.mg_of X G g_NotTrace, kit_NotNet_NotTrace.trans (by decide)⟩
    · exact ⟨A_NotPaper, PySem.W.mg_of X G g_NotPaper, kit_NotNet_NotPaper.trans (by decide)⟩
    · exact ⟨A_BadNumber, PySem.W.mg_of X G g_BadNumber, kit_NotNet_BadNumber.trans (by decide)⟩
    · exact ⟨A_NoAnswer, PySem.W.mg_of X G g_NoAnswer, kit_NotNet_NoAnswer.trans (by decide)⟩
    · exact ⟨A_TooLarge, PySem.W.mg_of X G g_TooLarge, kit_NotNet_TooLarge.trans (by decide)⟩
  · refine ⟨A_NotTrace, PySem.W.mg_of X G g_NotTrace, ⟨n1_NotTrace, n2_NotTrace, s_NotTrace, n3_NotTrace, n4_NotTrace, q_n, q_t, n5_NotTrace⟩, fun y2 z2 h2 => ?_⟩
    rcases kindTab_cases h2 with ⟨rfl, rfl⟩ | ⟨rfl, rfl⟩ | ⟨rfl, rfl⟩ | ⟨rfl, rfl⟩ | ⟨rfl, rfl⟩ | ⟨rfl, rfl⟩ | ⟨rfl, rfl⟩
    · exact ⟨A_NotChain, PySem.W.mg_of X G g_NotChain, kit_NotTrace_NotChain.trans (by decide)⟩
    · exact ⟨A_NotNet, PySem.W.mg_of X G g_NotNet, kit_NotTrace_NotNet.trans (by decide)⟩
    · exact ⟨A_NotTrace, PySem.W.mg_of X G g_NotTrace, kit_NotTrace_NotTrace.trans (by decide)⟩
    · exact ⟨A_NotPaper, PySem.W.mg_of X G g_NotPaper, kit_NotTrace_NotPaper.trans (by decide)⟩
    · exact ⟨A_BadNumber, PySem.W.mg_of X G g_BadNumber, kit_NotTrace_BadNumber.trans (by decide)⟩
    · exact ⟨A_NoAnswer, PySem.W.mg_of X G g_NoAnswer, kit_NotTrace_NoAnswer.trans (by decide)⟩
    · exact ⟨A_TooLarge, PySem.W.mg_of X G g_TooLarge, kit_NotTrace_TooLarge.trans (by decide)⟩
  · refine ⟨A_NotPaper, PySem.W.mg_of X G g_NotPaper, ⟨n1_NotPaper, n2_NotPaper, s_NotPaper, n3_NotPaper, n4_NotPaper, q_n, q_t, n5_NotPaper⟩, fun y2 z2 h2 => ?_⟩
    rcases kindTab_cases h2 with ⟨rfl, rfl⟩ | ⟨rfl, rfl⟩ | ⟨rfl, rfl⟩ | ⟨rfl, rfl⟩ | ⟨rfl, rfl⟩ | ⟨rfl, rfl⟩ | ⟨rfl, rfl⟩
    · exact ⟨A_NotChain, PySem.W.mg_of X G g_NotChain, kit_NotPaper_NotChain.trans (by decide)⟩
    · exact ⟨A_NotNet, PySem.W.mg_of X G g_NotNet, kit_NotPaper_NotNet.trans (by decide)⟩
    · exact ⟨A_NotTrace, PySem.W.mg_of X G g_NotTrace, kit_NotPaper_NotTrace.trans (by decide)⟩
    · exact ⟨A_NotPaper, PySem.W.mg_of X G g_NotPaper, kit_NotPaper_NotPaper.trans (by decide)⟩
    · exact ⟨A_BadNumber, PySem.W.mg_of X G g_BadNumber, kit_NotPaper_BadNumber.trans (by decide)⟩
    · exact ⟨A_NoAnswer, PySem.W.mg_of X G g_NoAnswer, kit_NotPaper_NoAnswer.trans (by decide)⟩
    · exact ⟨A_TooLarge, PySem.W.mg_of X G g_TooLarge, kit_NotPaper_TooLarge.trans (by decide)⟩
  · refine ⟨A_BadNumber, PySem.W.mg_of X G g_BadNumber, ⟨n1_BadNumber, n2_BadNumber, s_BadNumber, n3_BadNumber, n4_BadNumber, q_n, q_t, n5_BadNumber⟩, fun y2 z2 h2 => ?_⟩
    rcases kindTab_cases h2 with ⟨rfl, rfl⟩ | ⟨rfl, rfl⟩ | ⟨rfl, rfl⟩ | ⟨rfl, rfl⟩ | ⟨rfl, rfl⟩ | ⟨rfl, rfl⟩ | ⟨rfl, rfl⟩
    · exact ⟨A_NotChain, PySem.W.mg_of X G g_NotChain, kit_BadNumber_NotChain.trans (by decide)⟩
    · exact ⟨A_NotNet, PySem.W.mg_of X G g_NotNet, kit_BadNumber_NotNet.trans (by decide)⟩
    · exact ⟨A_NotTrace, PySem.W.mg_of X G g_NotTrace, kit_BadNumber_NotTrace.trans (by decide)⟩
    · exact ⟨A_NotPaper, PySem.W.mg_of X G g_NotPaper, kit_BadNumber_NotPaper.trans (by decide)⟩
    · exact ⟨A_BadNumber, PySem.W.mg_of X G g_BadNumber, kit_BadNumber_BadNumber.trans (by decide)⟩
    · exact ⟨A_NoAnswer, PySem.W.mg_of X G g_NoAnswer, kit_BadNumber_NoAnswer.trans (by decide)⟩
    · exact ⟨A_TooLarge, PySem.W.mg_of X G g_TooLarge, kit_BadNumber_TooLarge.trans (by decide)⟩
  · refine ⟨A_NoAnswer, PySem.W.mg_of X G g_NoAnswer, ⟨n1_NoAnswer, n2_NoAnswer, s_NoAnswer, n3_NoAnswer, n4_NoAnswer, q_n, q_t, n5_NoAnswer⟩, fun y2 z2 h2 => ?_⟩
    rcases kindTab_cases h2 with ⟨rfl, rfl⟩ | ⟨rfl, rfl⟩ | ⟨rfl, rfl⟩ | ⟨rfl, rfl⟩ | ⟨rfl, rfl⟩ | ⟨rfl, rfl⟩ | ⟨rfl, rfl⟩
    · exact ⟨A_NotChain, PySem.W.mg_of X G g_NotChain, kit_NoAnswer_NotChain.trans (by decide)⟩
    · exact ⟨A_NotNet, PySem.W.mg_of X G g_NotNet, kit_NoAnswer_NotNet.trans (by decide)⟩
    · exact ⟨A_NotTrace, PySem.W.mg_of X G g_NotTrace, kit_NoAnswer_NotTrace.trans (by decide)⟩
    · exact ⟨A_NotPaper, PySem.W.mg_of X G g_NotPaper, kit_NoAnswer_NotPaper.trans (by decide)⟩
    · exact ⟨A_BadNumber, PySem.W.mg_of X G g_BadNumber, kit_NoAnswer_BadNumber.trans (by decide)⟩
    · exact ⟨A_NoAnswer, PySem.W.mg_of X G g_NoAnswer, kit_NoAnswer_NoAnswer.trans (by decide)⟩
    · exact ⟨A_TooLarge, PySem.W.mg_of X G g_TooLarge, kit_NoAnswer_TooLarge.trans (by decide)⟩
  · refine ⟨A_TooLarge, PySem.W.mg_of X G g_TooLarge, ⟨n1_TooLarge, n2_TooLarge, s_TooLarge, n3_TooLarge, n4_TooLarge, q_n, q_t, n5_TooLarge⟩, fun y2 z2 h2 => ?_⟩
    rcases kindTab_cases h2 with ⟨rfl, rfl⟩ | ⟨rfl, rfl⟩ | ⟨rfl, rfl⟩ | ⟨rfl, rfl⟩ | ⟨rfl, rfl⟩ | ⟨rfl, rfl⟩ | ⟨rfl, rfl⟩
    · exact ⟨A_NotChain, PySem.W.mg_of X G g_NotChain, kit_TooLarge_NotChain.trans (by decide)⟩
    · exact ⟨A_NotNet, PySem.W.mg_of X G g_NotNet, kit_TooLarge_NotNet.trans (by decide)⟩
    · exact ⟨A_NotTrace, PySem.W.mg_of X G g_NotTrace, kit_TooLarge_NotTrace.trans (by decide)⟩
    · exact ⟨A_NotPaper, PySem.W.mg_of X G g_NotPaper, kit_TooLarge_NotPaper.trans (by decide)⟩
    · exact ⟨A_BadNumber, PySem.W.mg_of X G g_BadNumber, kit_TooLarge_BadNumber.trans (by decide)⟩
    · exact ⟨A_NoAnswer, PySem.W.mg_of X G g_NoAnswer, kit_TooLarge_NoAnswer.trans (by decide)⟩
    · exact ⟨A_TooLarge, PySem.W.mg_of X G g_TooLarge, kit_TooLarge_TooLarge.trans (by decide)⟩
theorem all_mk {l : PySem.W.OpenLaw} {h : Heap} {fa : Addr} {f_are_times : Addr} {od_are_times an_are_times : Option Addr} {sl_are_times : Array (Option Value)} {oc_are_times kV_are_times dc_are_times pm_are_times cd_are_times ct_are_times : Value} {f_check_streams : Addr} {od_check_streams an_check_streams : Option Addr} {sl_check_streams : Array (Option Value)} {oc_check_streams kV_check_streams dc_check_streams pm_check_streams cd_check_streams ct_check_streams : Value} {f_meetings : Addr} {od_meetings an_meetings : Option Addr} {sl_meetings : Array (Option Value)} {oc_meetings kV_meetings dc_meetings pm_meetings cd_meetings ct_meetings : Value} {f_sum_of_waits : Addr} {od_sum_of_waits an_sum_of_waits : Option Addr} {sl_sum_of_waits : Array (Option Value)} {oc_sum_of_waits kV_sum_of_waits dc_sum_of_waits pm_sum_of_waits cd_sum_of_waits ct_sum_of_waits : Value} {f_waiting_at : Addr} {od_waiting_at an_waiting_at : Option Addr} {sl_waiting_at : Array (Option Value)} {oc_waiting_at kV_waiting_at dc_waiting_at pm_waiting_at cd_waiting_at ct_waiting_at : Value} {f_pairing_waits : Addr} {od_pairing_waits an_pairing_waits : Option Addr} {sl_pairing_waits : Array (Option Value)} {oc_pairing_waits kV_pairing_waits dc_pairing_waits pm_pairing_waits cd_pairing_waits ct_pairing_waits : Value} {f__law_number : Addr} {od__law_number an__law_number : Option Addr} {sl__law_number : Array (Option Value)} {oc__law_number kV__law_number dc__law_number pm__law_number cd__law_number ct__law_number : Value} {f__law_draws : Addr} {od__law_draws an__law_draws : Option Addr} {sl__law_draws : Array (Option Value)} {oc__law_draws kV__law_draws dc__law_draws pm__law_draws cd__law_draws ct__law_draws : Value} {f__law_flat : Addr} {od__law_flat an__law_flat : Option Addr} {sl__law_flat : Array (Option Value)} {oc__law_flat kV__law_flat dc__law_flat pm__law_flat cd__law_flat ct__law_flat : Value} {f__law_next : Addr} {od__law_next an__law_next : Option Addr} {sl__law_next : Array (Option Value)} {oc__law_next kV__law_next dc__law_next pm__law_next cd__law_next ct__law_next : Value} {f__law_more : Addr} {od__law_more an__law_more : Option Addr} {sl__law_more : Array (Option Value)} {oc__law_more kV__law_more dc__law_more pm__law_more cd__law_more ct__law_more : Value} {f__law_pick : Addr} {od__law_pick an__law_pick : Option Addr} {sl__law_pick : Array (Option Value)} {oc__law_pick kV__law_pick dc__law_pick pm__law_pick cd__law_pick ct__law_pick : Value} {f__law_orders : Addr} {od__law_orders an__law_orders : Option Addr} {sl__law_orders : Array (Option Value)} {oc__law_orders kV__law_orders dc__law_orders pm__law_orders cd__law_orders ct__law_orders : Value} {f__law_stream : Addr} {od__law_stream an__law_stream : Option Addr} {sl__law_stream : Array (Option Value)} {oc__law_stream kV__law_stream dc__law_stream pm__law_stream cd__law_stream ct__law_stream : Value} {f__law_kind : Addr} {od__law_kind an__law_kind : Option Addr} {sl__law_kind : Array (Option Value)} {oc__law_kind kV__law_kind dc__law_kind pm__law_kind cd__law_kind ct__law_kind : Value} {f__law_asked : Addr} {od__law_asked an__law_asked : Option Addr} {sl__law_asked : Array (Option Value)} {oc__law_asked kV__law_asked dc__law_asked pm__law_asked cd__law_asked ct__law_asked : Value} {f_law : Addr} {od_law an_law : Option Addr} {sl_law : Array (Option Value)} {oc_law kV_law dc_law pm_law cd_law ct_law : Value} {A_NotChain : Addr} {A_NotNet : Addr} {A_NotTrace : Addr} {A_NotPaper : Addr} {A_BadNumber : Addr} {A_NoAnswer : Addr} {A_TooLarge : Addr} {A_QueueError : Addr} {t_MOST_CUSTOMERS : Tok} {t_MOST_TIME : Tok} (X : K.In h) (G : h.Ns mainGlobals mg) (hfa : mg "law" = some (.ref fa))
    (a_are_times : PySem.W.nsIn K mainGlobals "are_times" = some (some (.ref f_are_times)))
    (l_are_times : K.lookup f_are_times = some ⟨oc_are_times, od_are_times, .func (PySem.W.fnOf "are_times" "are_times" (defArgs (topS 12)) (defBody (topS 12)) (defScope (topS 12)) .none kV_are_times dc_are_times pm_are_times an_are_times cd_are_times ct_are_times), sl_are_times⟩)
    (c_are_times : PySem.W.codeIn K cd_are_times "are_times" = true)
    (k_are_times : PySem.W.keepIn K (.ref f_are_times) = true)
    (a_check_streams : PySem.W.nsIn K mainGlobals "check_streams" = some (some (.ref f_check_streams)))
    (l_check_streams : K.lookup f_check_streams = some ⟨oc_check_streams, od_check_streams, .func (PySem.W.fnOf "check_streams" "check_streams" (defArgs (topS 13)) (defBody (topS 13)) (defScope (topS 13)) .none kV_check_streams dc_check_streams pm_check_streams an_check_streams cd_check_streams ct_check_streams), sl_check_streams⟩)
    (c_check_streams : PySem.W.codeIn K cd_check_streams "check_streams" = true)
    (k_check_streams : PySem.W.keepIn K (.ref f_check_streams) = true)
    (a_meetings : PySem.W.nsIn K mainGlobals "meetings" = some (some (.ref f_meetings)))
    (l_meetings : K.lookup f_meetings = some ⟨oc_meetings, od_meetings, .func (PySem.W.fnOf "meetings" "meetings" (defArgs (topS 14)) (defBody (topS 14)) (defScope (topS 14)) .none kV_meetings dc_meetings pm_meetings an_meetings cd_meetings ct_meetings), sl_meetings⟩)
    (c_meetings : PySem.W.codeIn K cd_meetings "meetings" = true)
    (k_meetings : PySem.W.keepIn K (.ref f_meetings) = true)
    (a_sum_of_waits : PySem.W.nsIn K mainGlobals "sum_of_waits" = some (some (.ref f_sum_of_waits)))
    (l_sum_of_waits : K.lookup f_sum_of_waits = some ⟨oc_sum_of_waits, od_sum_of_waits, .func (PySem.W.fnOf "sum_of_waits" "sum_of_waits" (defArgs (topS 15)) (defBody (topS 15)) (defScope (topS 15)) .none kV_sum_of_waits dc_sum_of_waits pm_sum_of_waits an_sum_of_waits cd_sum_of_waits ct_sum_of_waits), sl_sum_of_waits⟩)
    (c_sum_of_waits : PySem.W.codeIn K cd_sum_of_waits "sum_of_waits" = true)
    (k_sum_of_waits : PySem.W.keepIn K (.ref f_sum_of_waits) = true)
    (a_waiting_at : PySem.W.nsIn K mainGlobals "waiting_at" = some (some (.ref f_waiting_at)))
    (l_waiting_at : K.lookup f_waiting_at = some ⟨oc_waiting_at, od_waiting_at, .func (PySem.W.fnOf "waiting_at" "waiting_at" (defArgs (topS 16)) (defBody (topS 16)) (defScope (topS 16)) .none kV_waiting_at dc_waiting_at pm_waiting_at an_waiting_at cd_waiting_at ct_waiting_at), sl_waiting_at⟩)
    (c_waiting_at : PySem.W.codeIn K cd_waiting_at "waiting_at" = true)
    (k_waiting_at : PySem.W.keepIn K (.ref f_waiting_at) = true)
    (a_pairing_waits : PySem.W.nsIn K mainGlobals "pairing_waits" = some (some (.ref f_pairing_waits)))
    (l_pairing_waits : K.lookup f_pairing_waits = some ⟨oc_pairing_waits, od_pairing_waits, .func (PySem.W.fnOf "pairing_waits" "pairing_waits" (defArgs (topS 17)) (defBody (topS 17)) (defScope (topS 17)) .none kV_pairing_waits dc_pairing_waits pm_pairing_waits an_pairing_waits cd_pairing_waits ct_pairing_waits), sl_pairing_waits⟩)
    (c_pairing_waits : PySem.W.codeIn K cd_pairing_waits "pairing_waits" = true)
    (k_pairing_waits : PySem.W.keepIn K (.ref f_pairing_waits) = true)
    (a__law_number : PySem.W.nsIn K mainGlobals "_law_number" = some (some (.ref f__law_number)))
    (l__law_number : K.lookup f__law_number = some ⟨oc__law_number, od__law_number, .func (PySem.W.fnOf "_law_number" "_law_number" (defArgs (topS 19)) (defBody (topS 19)) (defScope (topS 19)) .none kV__law_number dc__law_number pm__law_number an__law_number cd__law_number ct__law_number), sl__law_number⟩)
    (c__law_number : PySem.W.codeIn K cd__law_number "_law_number" = true)
    (k__law_number : PySem.W.keepIn K (.ref f__law_number) = true)
    (a__law_draws : PySem.W.nsIn K mainGlobals "_law_draws" = some (some (.ref f__law_draws)))
    (l__law_draws : K.lookup f__law_draws = some ⟨oc__law_draws, od__law_draws, .func (PySem.W.fnOf "_law_draws" "_law_draws" (defArgs (topS 20)) (defBody (topS 20)) (defScope (topS 20)) .none kV__law_draws dc__law_draws pm__law_draws an__law_draws cd__law_draws ct__law_draws), sl__law_draws⟩)
    (c__law_draws : PySem.W.codeIn K cd__law_draws "_law_draws" = true)
    (k__law_draws : PySem.W.keepIn K (.ref f__law_draws) = true)
    (a__law_flat : PySem.W.nsIn K mainGlobals "_law_flat" = some (some (.ref f__law_flat)))
    (l__law_flat : K.lookup f__law_flat = some ⟨oc__law_flat, od__law_flat, .func (PySem.W.fnOf "_law_flat" "_law_flat" (defArgs (topS 21)) (defBody (topS 21)) (defScope (topS 21)) .none kV__law_flat dc__law_flat pm__law_flat an__law_flat cd__law_flat ct__law_flat), sl__law_flat⟩)
    (c__law_flat : PySem.W.codeIn K cd__law_flat "_law_flat" = true)
    (k__law_flat : PySem.W.keepIn K (.ref f__law_flat) = true)
    (a__law_next : PySem.W.nsIn K mainGlobals "_law_next" = some (some (.ref f__law_next)))
    (l__law_next : K.lookup f__law_next = some ⟨oc__law_next, od__law_next, .func (PySem.W.fnOf "_law_next" "_law_next" (defArgs (topS 22)) (defBody (topS 22)) (defScope (topS 22)) .none kV__law_next dc__law_next pm__law_next an__law_next cd__law_next ct__law_next), sl__law_next⟩)
    (c__law_next : PySem.W.codeIn K cd__law_next "_law_next" = true)
    (k__law_next : PySem.W.keepIn K (.ref f__law_next) = true)
    (a__law_more : PySem.W.nsIn K mainGlobals "_law_more" = some (some (.ref f__law_more)))
    (l__law_more : K.lookup f__law_more = some ⟨oc__law_more, od__law_more, .func (PySem.W.fnOf "_law_more" "_law_more" (defArgs (topS 23)) (defBody (topS 23)) (defScope (topS 23)) .none kV__law_more dc__law_more pm__law_more an__law_more cd__law_more ct__law_more), sl__law_more⟩)
    (c__law_more : PySem.W.codeIn K cd__law_more "_law_more" = true)
    (k__law_more : PySem.W.keepIn K (.ref f__law_more) = true)
    (a__law_pick : PySem.W.nsIn K mainGlobals "_law_pick" = some (some (.ref f__law_pick)))
    (l__law_pick : K.lookup f__law_pick = some ⟨oc__law_pick, od__law_pick, .func (PySem.W.fnOf "_law_pick" "_law_pick" (defArgs (topS 24)) (defBody (topS 24)) (defScope (topS 24)) .none kV__law_pick dc__law_pick pm__law_pick an__law_pick cd__law_pick ct__law_pick), sl__law_pick⟩)
    (c__law_pick : PySem.W.codeIn K cd__law_pick "_law_pick" = true)
    (k__law_pick : PySem.W.keepIn K (.ref f__law_pick) = true)
    (a__law_orders : PySem.W.nsIn K mainGlobals "_law_orders" = some (some (.ref f__law_orders)))
    (l__law_orders : K.lookup f__law_orders = some ⟨oc__law_orders, od__law_orders, .func (PySem.W.fnOf "_law_orders" "_law_orders" (defArgs (topS 25)) (defBody (topS 25)) (defScope (topS 25)) .none kV__law_orders dc__law_orders pm__law_orders an__law_orders cd__law_orders ct__law_orders), sl__law_orders⟩)
    (c__law_orders : PySem.W.codeIn K cd__law_orders "_law_orders" = true)
    (k__law_orders : PySem.W.keepIn K (.ref f__law_orders) = true)
    (a__law_stream : PySem.W.nsIn K mainGlobals "_law_stream" = some (some (.ref f__law_stream)))
    (l__law_stream : K.lookup f__law_stream = some ⟨oc__law_stream, od__law_stream, .func (PySem.W.fnOf "_law_stream" "_law_stream" (defArgs (topS 27)) (defBody (topS 27)) (defScope (topS 27)) .none kV__law_stream dc__law_stream pm__law_stream an__law_stream cd__law_stream ct__law_stream), sl__law_stream⟩)
    (c__law_stream : PySem.W.codeIn K cd__law_stream "_law_stream" = true)
    (k__law_stream : PySem.W.keepIn K (.ref f__law_stream) = true)
    (a__law_kind : PySem.W.nsIn K mainGlobals "_law_kind" = some (some (.ref f__law_kind)))
    (l__law_kind : K.lookup f__law_kind = some ⟨oc__law_kind, od__law_kind, .func (PySem.W.fnOf "_law_kind" "_law_kind" (defArgs (topS 26)) (defBody (topS 26)) (defScope (topS 26)) .none kV__law_kind dc__law_kind pm__law_kind an__law_kind cd__law_kind ct__law_kind), sl__law_kind⟩)
    (c__law_kind : PySem.W.codeIn K cd__law_kind "_law_kind" = true)
    (k__law_kind : PySem.W.keepIn K (.ref f__law_kind) = true)
    (a__law_asked : PySem.W.nsIn K mainGlobals "_law_asked" = some (some (.ref f__law_asked)))
    (l__law_asked : K.lookup f__law_asked = some ⟨oc__law_asked, od__law_asked, .func (PySem.W.fnOf "_law_asked" "_law_asked" (defArgs (topS 28)) (defBody (topS 28)) (defScope (topS 28)) .none kV__law_asked dc__law_asked pm__law_asked an__law_asked cd__law_asked ct__law_asked), sl__law_asked⟩)
    (c__law_asked : PySem.W.codeIn K cd__law_asked "_law_asked" = true)
    (k__law_asked : PySem.W.keepIn K (.ref f__law_asked) = true)
    (a_law : PySem.W.nsIn K mainGlobals "law" = some (some (.ref f_law)))
    (l_law : K.lookup f_law = some ⟨oc_law, od_law, .func (PySem.W.fnOf "law" "law" (defArgs (topS 29)) (defBody (topS 29)) (defScope (topS 29)) .none kV_law dc_law pm_law an_law cd_law ct_law), sl_law⟩)
    (c_law : PySem.W.codeIn K cd_law "law" = true)
    (k_law : PySem.W.keepIn K (.ref f_law) = true)
    (z_abs : PySem.W.nsIn K mainGlobals "abs" = some none)
    (z_all : PySem.W.nsIn K mainGlobals "all" = some none)
    (z_int : PySem.W.nsIn K mainGlobals "int" = some none)
    (z_isinstance : PySem.W.nsIn K mainGlobals "isinstance" = some none)
    (z_len : PySem.W.nsIn K mainGlobals "len" = some none)
    (z_list : PySem.W.nsIn K mainGlobals "list" = some none)
    (z_max : PySem.W.nsIn K mainGlobals "max" = some none)
    (z_min : PySem.W.nsIn K mainGlobals "min" = some none)
    (z_range : PySem.W.nsIn K mainGlobals "range" = some none)
    (z_repr : PySem.W.nsIn K mainGlobals "repr" = some none)
    (z_sorted : PySem.W.nsIn K mainGlobals "sorted" = some none)
    (z_sum : PySem.W.nsIn K mainGlobals "sum" = some none)
    (z_tuple : PySem.W.nsIn K mainGlobals "tuple" = some none)
    (z_zip : PySem.W.nsIn K mainGlobals "zip" = some none)
    (v_MOST_CUSTOMERS : PySem.W.nsIn K mainGlobals "MOST_CUSTOMERS" = some (some (.int 100 t_MOST_CUSTOMERS)))
    (v_MOST_TIME : PySem.W.nsIn K mainGlobals "MOST_TIME" = some (some (.int 1000000 t_MOST_TIME)))
    (g_NotChain : PySem.W.nsIn K mainGlobals "NotChain" = some (some (.ref A_NotChain)))
    (s_NotChain : PySem.W.subIn K (.ref A_NotChain) (.type "BaseException") = some true)
    (y_NotChain : PySem.W.typeIn K (.ref A_NotChain) = some (.type "type"))
    (g_NotNet : PySem.W.nsIn K mainGlobals "NotNet" = some (some (.ref A_NotNet)))
    (s_NotNet : PySem.W.subIn K (.ref A_NotNet) (.type "BaseException") = some true)
    (y_NotNet : PySem.W.typeIn K (.ref A_NotNet) = some (.type "type"))
    (g_NotTrace : PySem.W.nsIn K mainGlobals "NotTrace" = some (some (.ref A_NotTrace)))
    (s_NotTrace : PySem.W.subIn K (.ref A_NotTrace) (.type "BaseException") = some true)
    (y_NotTrace : PySem.W.typeIn K (.ref A_NotTrace) = some (.type "type"))
    (g_NotPaper : PySem.W.nsIn K mainGlobals "NotPaper" = some (some (.ref A_NotPaper)))
    (s_NotPaper : PySem.W.subIn K (.ref A_NotPaper) (.type "BaseException") = some true)
    (y_NotPaper : PySem.W.typeIn K (.ref A_NotPaper) = some (.type "type"))
    (g_BadNumber : PySem.W.nsIn K mainGlobals "BadNumber" = some (some (.ref A_BadNumber)))
    (s_BadNumber : PySem.W.subIn K (.ref A_BadNumber) (.type "BaseException") = some true)
    (y_BadNumber : PySem.W.typeIn K (.ref A_BadNumber) = some (.type "type"))
    (g_NoAnswer : PySem.W.nsIn K mainGlobals "NoAnswer" = some (some (.ref A_NoAnswer)))
    (s_NoAnswer : PySem.W.subIn K (.ref A_NoAnswer) (.type "BaseException") = some true)
    (y_NoAnswer : PySem.W.typeIn K (.ref A_NoAnswer) = some (.type "type"))
    (g_TooLarge : PySem.W.nsIn K mainGlobals "TooLarge" = some (some (.ref A_TooLarge)))
    (s_TooLarge : PySem.W.subIn K (.ref A_TooLarge) (.type "BaseException") = some true)
    (y_TooLarge : PySem.W.typeIn K (.ref A_TooLarge) = some (.type "type"))
    (g_QueueError : PySem.W.nsIn K mainGlobals "QueueError" = some (some (.ref A_QueueError)))
    (s_QueueError : PySem.W.subIn K (.ref A_QueueError) (.type "BaseException") = some true)
    (y_QueueError : PySem.W.typeIn K (.ref A_QueueError) = some (.type "type"))
    (e_BadNumber : PySem.W.excIn K A_BadNumber [.type "ValueError", .type "Exception", .type "BaseException", .type "object"] "ValueError.__new__" = true)
    (p_BadNumber : PySem.W.keepIn K (.ref A_BadNumber) = true)
    (e_NotTrace : PySem.W.excIn K A_NotTrace [.type "ValueError", .type "Exception", .type "BaseException", .type "object"] "ValueError.__new__" = true)
    (p_NotTrace : PySem.W.keepIn K (.ref A_NotTrace) = true)
    (q_h : PySem.W.hasDictIn K A_QueueError = true)
    (q_n : PySem.W.specialIn K (.builtin "object.__class__") "__get__" = some (some (.builtin "getset_descriptor.__get__")))
    (q_t : PySem.W.takesIn K (.builtin "object.__class__") = some true)
    (u_NotChain : PySem.W.subIn K (.ref A_NotChain) (.ref A_QueueError) = some true)
    (n1_NotChain : PySem.W.findIn K (.ref A_NotChain) "__getattribute__" = some (some (.builtin "BaseException.__getattribute__")))
    (n2_NotChain : PySem.W.findIn K (.ref A_NotChain) "__getattr__" = some none)
    (n3_NotChain : PySem.W.hasDictIn K A_NotChain = true)
    (n4_NotChain : PySem.W.findIn K (.ref A_NotChain) "__class__" = some (some (.builtin "object.__class__")))
    (n5_NotChain : PySem.W.mroIn K A_NotChain (.type "object") = some true)
    (kit_NotChain_NotChain : PySem.W.kitOne K (.ref A_NotChain) (.ref A_NotChain) = some true)
    (kit_NotChain_NotNet : PySem.W.kitOne K (.ref A_NotChain) (.ref A_NotNet) = some false)
    (kit_NotChain_NotTrace : PySem.W.kitOne K (.ref A_NotChain) (.ref A_NotTrace) = some false)
    (kit_NotChain_NotPaper : PySem.W.kitOne K (.ref A_NotChain) (.ref A_NotPaper) = some false)
    (kit_NotChain_BadNumber : PySem.W.kitOne K (.ref A_NotChain) (.ref A_BadNumber) = some false)
    (kit_NotChain_NoAnswer : PySem.W.kitOne K (.ref A_NotChain) (.ref A_NoAnswer) = some false)
    (kit_NotChain_TooLarge : PySem.W.kitOne K (.ref A_NotChain) (.ref A_TooLarge) = some false)
    (u_NotNet : PySem.W.subIn K (.ref A_NotNet) (.ref A_QueueError) = some true)
    (n1_NotNet : PySem.W.findIn K (.ref A_NotNet) "__getattribute__" = some (some (.builtin "BaseException.__getattribute__")))
    (n2_NotNet : PySem.W.findIn K (.ref A_NotNet) "__getattr__" = some none)
    (n3_NotNet : PySem.W.hasDictIn K A_NotNet = true)
    (n4_NotNet : PySem.W.findIn K (.ref A_NotNet) "__class__" = some (some (.builtin "object.__class__")))
    (n5_NotNet : PySem.W.mroIn K A_NotNet (.type "object") = some true)
    (kit_NotNet_NotChain : PySem.W.kitOne K (.ref A_NotNet) (.ref A_NotChain) = some false)
    (kit_NotNet_NotNet : PySem.W.kitOne K (.ref A_NotNet) (.ref A_NotNet) = some true)
    (kit_NotNet_NotTrace : PySem.W.kitOne K (.ref A_NotNet) (.ref A_NotTrace) = some false)
    (kit_NotNet_NotPaper : PySem.W.kitOne K (.ref A_NotNet) (.ref A_NotPaper) = some false)
    (kit_NotNet_BadNumber : PySem.W.kitOne K (.ref A_NotNet) (.ref A_BadNumber) = some false)
    (kit_NotNet_NoAnswer : PySem.W.kitOne K (.ref A_NotNet) (.ref A_NoAnswer) = some false)
    (kit_NotNet_TooLarge : PySem.W.kitOne K (.ref A_NotNet) (.ref A_TooLarge) = some false)
    (u_NotTrace : PySem.W.subIn K (.ref A_NotTrace) (.ref A_QueueError) = some true)
    (n1_NotTrace : PySem.W.findIn K (.ref A_NotTrace) "__getattribute__" = some (some (.builtin "BaseException.__getattribute__")))
    (n2_NotTrace : PySem.W.findIn K (.ref A_NotTrace) "__getattr__" = some none)
    (n3_NotTrace : PySem.W.hasDictIn K A_NotTrace = true)
    (n4_NotTrace : PySem.W.findIn K (.ref A_NotTrace) "__class__" = some (some (.builtin "object.__class__")))
    (n5_NotTrace : PySem.W.mroIn K A_NotTrace (.type "object") = some true)
    (kit_NotTrace_NotChain : PySem.W.kitOne K (.ref A_NotTrace) (.ref A_NotChain) = some false)
    (kit_NotTrace_NotNet : PySem.W.kitOne K (.ref A_NotTrace) (.ref A_NotNet) = some false)
    (kit_NotTrace_NotTrace : PySem.W.kitOne K (.ref A_NotTrace) (.ref A_NotTrace) = some true)
    (kit_NotTrace_NotPaper : PySem.W.kitOne K (.ref A_NotTrace) (.ref A_NotPaper) = some false)
    (kit_NotTrace_BadNumber : PySem.W.kitOne K (.ref A_NotTrace) (.ref A_BadNumber) = some false)
    (kit_NotTrace_NoAnswer : PySem.W.kitOne K (.ref A_NotTrace) (.ref A_NoAnswer) = some false)
    (kit_NotTrace_TooLarge : PySem.W.kitOne K (.ref A_NotTrace) (.ref A_TooLarge) = some false)
    (u_NotPaper : PySem.W.subIn K (.ref A_NotPaper) (.ref A_QueueError) = some true)
    (n1_NotPaper : PySem.W.findIn K (.ref A_NotPaper) "__getattribute__" = some (some (.builtin "BaseException.__getattribute__")))
    (n2_NotPaper : PySem.W.findIn K (.ref A_NotPaper) "__getattr__" = some none)
    (n3_NotPaper : PySem.W.hasDictIn K A_NotPaper = true)
    (n4_NotPaper : PySem.W.findIn K (.ref A_NotPaper) "__class__" = some (some (.builtin "object.__class__")))
    (n5_NotPaper : PySem.W.mroIn K A_NotPaper (.type "object") = some true)
    (kit_NotPaper_NotChain : PySem.W.kitOne K (.ref A_NotPaper) (.ref A_NotChain) = some false)
    (kit_NotPaper_NotNet : PySem.W.kitOne K (.ref A_NotPaper) (.ref A_NotNet) = some false)
    (kit_NotPaper_NotTrace : PySem.W.kitOne K (.ref A_NotPaper) (.ref A_NotTrace) = some false)
    (kit_NotPaper_NotPaper : PySem.W.kitOne K (.ref A_NotPaper) (.ref A_NotPaper) = some true)
    (kit_NotPaper_BadNumber : PySem.W.kitOne K (.ref A_NotPaper) (.ref A_BadNumber) = some false)
    (kit_NotPaper_NoAnswer : PySem.W.kitOne K (.ref A_NotPaper) (.ref A_NoAnswer) = some false)
    (kit_NotPaper_TooLarge : PySem.W.kitOne K (.ref A_NotPaper) (.ref A_TooLarge) = some false)
    (u_BadNumber : PySem.W.subIn K (.ref A_BadNumber) (.ref A_QueueError) = some true)
    (n1_BadNumber : PySem.W.findIn K (.ref A_BadNumber) "__getattribute__" = some (some (.builtin "BaseException.__getattribute__")))
    (n2_BadNumber : PySem.W.findIn K (.ref A_BadNumber) "__getattr__" = some none)
    (n3_BadNumber : PySem.W.hasDictIn K A_BadNumber = true)
    (n4_BadNumber : PySem.W.findIn K (.ref A_BadNumber) "__class__" = some (some (.builtin "object.__class__")))
    (n5_BadNumber : PySem.W.mroIn K A_BadNumber (.type "object") = some true)
    (kit_BadNumber_NotChain : PySem.W.kitOne K (.ref A_BadNumber) (.ref A_NotChain) = some false)
    (kit_BadNumber_NotNet : PySem.W.kitOne K (.ref A_BadNumber) (.ref A_NotNet) = some false)
    (kit_BadNumber_NotTrace : PySem.W.kitOne K (.ref A_BadNumber) (.ref A_NotTrace) = some false)
    (kit_BadNumber_NotPaper : PySem.W.kitOne K (.ref A_BadNumber) (.ref A_NotPaper) = some false)
    (kit_BadNumber_BadNumber : PySem.W.kitOne K (.ref A_BadNumber) (.ref A_BadNumber) = some true)
    (kit_BadNumber_NoAnswer : PySem.W.kitOne K (.ref A_BadNumber) (.ref A_NoAnswer) = some false)
    (kit_BadNumber_TooLarge : PySem.W.kitOne K (.ref A_BadNumber) (.ref A_TooLarge) = some false)
    (u_NoAnswer : PySem.W.subIn K (.ref A_NoAnswer) (.ref A_QueueError) = some true)
    (n1_NoAnswer : PySem.W.findIn K (.ref A_NoAnswer) "__getattribute__" = some (some (.builtin "BaseException.__getattribute__")))
    (n2_NoAnswer : PySem.W.findIn K (.ref A_NoAnswer) "__getattr__" = some none)
    (n3_NoAnswer : PySem.W.hasDictIn K A_NoAnswer = true)
    (n4_NoAnswer : PySem.W.findIn K (.ref A_NoAnswer) "__class__" = some (some (.builtin "object.__class__")))
    (n5_NoAnswer : PySem.W.mroIn K A_NoAnswer (.type "object") = some true)
    (kit_NoAnswer_NotChain : PySem.W.kitOne K (.ref A_NoAnswer) (.ref A_NotChain) = some false)
    (kit_NoAnswer_NotNet : PySem.W.kitOne K (.ref A_NoAnswer) (.ref A_NotNet) = some false)
    (kit_NoAnswer_NotTrace : PySem.W.kitOne K (.ref A_NoAnswer) (.ref A_NotTrace) = some false)
    (kit_NoAnswer_NotPaper : PySem.W.kitOne K (.ref A_NoAnswer) (.ref A_NotPaper) = some false)
    (kit_NoAnswer_BadNumber : PySem.W.kitOne K (.ref A_NoAnswer) (.ref A_BadNumber) = some false)
    (kit_NoAnswer_NoAnswer : PySem.W.kitOne K (.ref A_NoAnswer) (.ref A_NoAnswer) = some true)
    (kit_NoAnswer_TooLarge : PySem.W.kitOne K (.ref A_NoAnswer) (.ref A_TooLarge) = some false)
    (u_TooLarge : PySem.W.subIn K (.ref A_TooLarge) (.ref A_QueueError) = some true)
    (n1_TooLarge : PySem.W.findIn K (.ref A_TooLarge) "__getattribute__" = some (some (.builtin "BaseException.__getattribute__")))
    (n2_TooLarge : PySem.W.findIn K (.ref A_TooLarge) "__getattr__" = some none)
    (n3_TooLarge : PySem.W.hasDictIn K A_TooLarge = true)
    (n4_TooLarge : PySem.W.findIn K (.ref A_TooLarge) "__class__" = some (some (.builtin "object.__class__")))
    (n5_TooLarge : PySem.W.mroIn K A_TooLarge (.type "object") = some true)
    (kit_TooLarge_NotChain : PySem.W.kitOne K (.ref A_TooLarge) (.ref A_NotChain) = some false)
    (kit_TooLarge_NotNet : PySem.W.kitOne K (.ref A_TooLarge) (.ref A_NotNet) = some false)
    (kit_TooLarge_NotTrace : PySem.W.kitOne K (.ref A_TooLarge) (.ref A_NotTrace) = some false)
    (kit_TooLarge_NotPaper : PySem.W.kitOne K (.ref A_TooLarge) (.ref A_NotPaper) = some false)
    (kit_TooLarge_BadNumber : PySem.W.kitOne K (.ref A_TooLarge) (.ref A_BadNumber) = some false)
    (kit_TooLarge_NoAnswer : PySem.W.kitOne K (.ref A_TooLarge) (.ref A_NoAnswer) = some false)
    (kit_TooLarge_TooLarge : PySem.W.kitOne K (.ref A_TooLarge) (.ref A_TooLarge) = some true)
    : ∃ fd : FuncData, (∀ (s : Shared) (v : Value), BindsTo s fd ⟨[v], []⟩ [("script", v)]) ∧ ∀ base : Heap, K.In base → base.Ns mainGlobals mg → FnG l.prog w K mg base 5 fa fd ["script"] (spM K mg 1 F_law) := by
  have e := hfa.symm.trans (PySem.W.mg_of X G a_law)
  cases e
  have Fu_are_times := fun_mk (st := topS 12) l_are_times c_are_times k_are_times
  have m_are_times := PySem.W.mg_of X G a_are_times
  have b_are_times := Fu_are_times.binds (ps := ["told"]) fun _ _ _ _ _ _ us hl => match us, hl with | [_], _ => rfl
  have Fu_check_streams := fun_mk (st := topS 13) l_check_streams c_check_streams k_check_streams
  have m_check_streams := PySem.W.mg_of X G a_check_streams
  have b_check_streams := Fu_check_streams.binds (ps := ["one", "other"]) fun _ _ _ _ _ _ us hl => match us, hl with | [_, _], _ => rfl
  have Fu_meetings := fun_mk (st := topS 14) l_meetings c_meetings k_meetings
  have m_meetings := PySem.W.mg_of X G a_meetings
  have b_meetings := Fu_meetings.binds (ps := ["one", "other"]) fun _ _ _ _ _ _ us hl => match us, hl with | [_, _], _ => rfl
  have Fu_sum_of_waits := fun_mk (st := topS 15) l_sum_of_waits c_sum_of_waits k_sum_of_waits
  have m_sum_of_waits := PySem.W.mg_of X G a_sum_of_waits
  have b_sum_of_waits := Fu_sum_of_waits.binds (ps := ["one", "other"]) fun _ _ _ _ _ _ us hl => match us, hl with | [_, _], _ => rfl
  have Fu_waiting_at := fun_mk (st := topS 16) l_waiting_at c_waiting_at k_waiting_at
  have m_waiting_at := PySem.W.mg_of X G a_waiting_at
  have b_waiting_at := Fu_waiting_at.binds (ps := ["one", "other", "time"]) fun _ _ _ _ _ _ us hl => match us, hl with | [_, _, _], _ => rfl
  have Fu_pairing_waits := fun_mk (st := topS 17) l_pairing_waits c_pairing_waits k_pairing_waits
  have m_pairing_waits := PySem.W.mg_of X G a_pairing_waits
  have b_pairing_waits := Fu_pairing_waits.binds (ps := ["one", "other", "order"]) fun _ _ _ _ _ _ us hl => match us, hl with | [_, _, _], _ => rfl
  have Fu__law_number := fun_mk (st := topS 19) l__law_number c__law_number k__law_number
  have m__law_number := PySem.W.mg_of X G a__law_number
  have b__law_number := Fu__law_number.binds (ps := ["cell"]) fun _ _ _ _ _ _ us hl => match us, hl with | [_], _ => rfl
  have Fu__law_draws := fun_mk (st := topS 20) l__law_draws c__law_draws k__law_draws
  have m__law_draws := PySem.W.mg_of X G a__law_draws
  have b__law_draws := Fu__law_draws.binds (ps := ["script"]) fun _ _ _ _ _ _ us hl => match us, hl with | [_], _ => rfl
  have Fu__law_flat := fun_mk (st := topS 21) l__law_flat c__law_flat k__law_flat
  have m__law_flat := PySem.W.mg_of X G a__law_flat
  have b__law_flat := Fu__law_flat.binds (ps := ["rows"]) fun _ _ _ _ _ _ us hl => match us, hl with | [_], _ => rfl
  have Fu__law_next := fun_mk (st := topS 22) l__law_next c__law_next k__law_next
  have m__law_next := PySem.W.mg_of X G a__law_next
  have b__law_next := Fu__law_next.binds (ps := ["draws"]) fun _ _ _ _ _ _ us hl => match us, hl with | [_], _ => rfl
  have Fu__law_more := fun_mk (st := topS 23) l__law_more c__law_more k__law_more
  have m__law_more := PySem.W.mg_of X G a__law_more
  have b__law_more := Fu__law_more.binds (ps := ["draws", "many"]) fun _ _ _ _ _ _ us hl => match us, hl with | [_, _], _ => rfl
  have Fu__law_pick := fun_mk (st := topS 24) l__law_pick c__law_pick k__law_pick
  have m__law_pick := PySem.W.mg_of X G a__law_pick
  have b__law_pick := Fu__law_pick.binds (ps := ["draws", "some"]) fun _ _ _ _ _ _ us hl => match us, hl with | [_, _], _ => rfl
  have Fu__law_orders := fun_mk (st := topS 25) l__law_orders c__law_orders k__law_orders
  have m__law_orders := PySem.W.mg_of X G a__law_orders
  have b__law_orders := Fu__law_orders.binds (ps := ["n"]) fun _ _ _ _ _ _ us hl => match us, hl with | [_], _ => rfl
  have Fu__law_stream := fun_mk (st := topS 27) l__law_stream c__law_stream k__law_stream
  have m__law_stream := PySem.W.mg_of X G a__law_stream
  have b__law_stream := Fu__law_stream.binds (ps := ["draws", "many", "long"]) fun _ _ _ _ _ _ us hl => match us, hl with | [_, _, _], _ => rfl
  have Fu__law_kind := fun_mk (st := topS 26) l__law_kind c__law_kind k__law_kind
  have m__law_kind := PySem.W.mg_of X G a__law_kind
  have b__law_kind := Fu__law_kind.binds (ps := ["error"]) fun _ _ _ _ _ _ us hl => match us, hl with | [_], _ => rfl
  have Fu__law_asked := fun_mk (st := topS 28) l__law_asked c__law_asked k__law_asked
  have m__law_asked := PySem.W.mg_of X G a__law_asked
  have b__law_asked := Fu__law_asked.binds (ps := ["way", "one", "other", "more"]) fun _ _ _ _ _ _ us hl => match us, hl with | [_, _, _, _], _ => rfl
  have Fu_law := fun_mk (st := topS 29) l_law c_law k_law
  have m_law := PySem.W.mg_of X G a_law
  have b_law := Fu_law.binds (ps := ["script"]) fun _ _ _ _ _ _ us hl => match us, hl with | [_], _ => rfl
  have ca : CatchOk K mg "QueueError" kindF := catch_mk X G g_NotChain g_NotNet g_NotTrace g_NotPaper g_BadNumber g_NoAnswer g_TooLarge g_QueueError s_QueueError y_QueueError q_h u_NotChain u_NotNet u_NotTrace u_NotPaper u_BadNumber u_NoAnswer u_TooLarge
  have T : KindT K mg := kindt_mk X G g_NotChain g_NotNet g_NotTrace g_NotPaper g_BadNumber g_NoAnswer g_TooLarge q_n q_t s_NotChain n1_NotChain n2_NotChain n3_NotChain n4_NotChain n5_NotChain kit_NotChain_NotChain kit_NotChain_NotNet kit_NotChain_NotTrace kit_NotChain_NotPaper kit_NotChain_BadNumber kit_NotChain_NoAnswer kit_NotChain_TooLarge s_NotNet n1_NotNet n2_NotNet n3_NotNet n4_NotNet n5_NotNet kit_NotNet_NotChain kit_NotNet_NotNet kit_NotNet_NotTrace kit_NotNet_NotPaper kit_NotNet_BadNumber kit_NotNet_NoAnswer kit_NotNet_TooLarge s_NotTrace n1_NotTrace n2_NotTrace n3_NotTrace n4_NotTrace n5_NotTrace kit_NotTrace_NotChain kit_NotTrace_NotNet kit_NotTrace_NotTrace kit_NotTrace_NotPaper kit_NotTrace_BadNumber kit_NotTrace_NoAnswer kit_NotTrace_TooLarge s_NotPaper n1_NotPaper n2_NotPaper n3_NotPaper n4_NotPaper n5_NotPaper kit_NotPaper_NotChain kit_NotPaper_NotNet kit_NotPaper_NotTrace kit_NotPaper_NotPaper kit_NotPaper_BadNumber kit_NotPaper_NoAnswer kit_NotPaper_TooLarge s_BadNumber n1_BadNumber n2_BadNumber n3_BadNumber n4_BadNumber n5_BadNumber kit_BadNumber_NotChain kit_BadNumber_NotNet kit_BadNumber_NotTrace kit_BadNumber_NotPaper kit_BadNumber_BadNumber kit_BadNumber_NoAnswer kit_BadNumber_TooLarge s_NoAnswer n1_NoAnswer n2_NoAnswer n3_NoAnswer n4_NoAnswer n5_NoAnswer kit_NoAnswer_NotChain kit_NoAnswer_NotNet kit_NoAnswer_NotTrace kit_NoAnswer_NotPaper kit_NoAnswer_BadNumber kit_NoAnswer_NoAnswer kit_NoAnswer_TooLarge s_TooLarge n1_TooLarge n2_TooLarge n3_TooLarge n4_TooLarge n5_TooLarge kit_TooLarge_NotChain kit_TooLarge_NotNet kit_TooLarge_NotTrace kit_TooLarge_NotPaper kit_TooLarge_BadNumber kit_TooLarge_NoAnswer kit_TooLarge_TooLarge
  have M : MG K mg := { b_abs := PySem.W.mg_none_of X G z_abs, b_all := PySem.W.mg_none_of X G z_all, b_int := PySem.W.mg_none_of X G z_int, b_isinstance := PySem.W.mg_none_of X G z_isinstance, b_len := PySem.W.mg_none_of X G z_len, b_list := PySem.W.mg_none_of X G z_list, b_max := PySem.W.mg_none_of X G z_max, b_min := PySem.W.mg_none_of X G z_min, b_range := PySem.W.mg_none_of X G z_range, b_repr := PySem.W.mg_none_of X G z_repr, b_sorted := PySem.W.mg_none_of X G z_sorted, b_sum := PySem.W.mg_none_of X G z_sum, b_tuple := PySem.W.mg_none_of X G z_tuple, b_zip := PySem.W.mg_none_of X G z_zip, v_MOST_CUSTOMERS := ⟨_, PySem.W.mg_of X G v_MOST_CUSTOMERS⟩, v_MOST_TIME := ⟨_, PySem.W.mg_of X G v_MOST_TIME⟩, x_BadNumber := ⟨A_BadNumber, PySem.W.mg_of X G g_BadNumber, e_BadNumber, p_BadNumber, s_BadNumber, y_BadNumber⟩, x_NotTrace := ⟨A_NotTrace, PySem.W.mg_of X G g_NotTrace, e_NotTrace, p_NotTrace, s_NotTrace, y_NotTrace⟩, d_are_times := ⟨_, m_are_times⟩, d_check_streams := ⟨_, m_check_streams⟩, d_meetings := ⟨_, m_meetings⟩, d_sum_of_waits := ⟨_, m_sum_of_waits⟩, d_waiting_at := ⟨_, m_waiting_at⟩, d_pairing_waits := ⟨_, m_pairing_waits⟩, d__law_number := ⟨_, m__law_number⟩, d__law_draws := ⟨_, m__law_draws⟩, d__law_flat := ⟨_, m__law_flat⟩, d__law_next := ⟨_, m__law_next⟩, d__law_more := ⟨_, m__law_more⟩, d__law_pick := ⟨_, m__law_pick⟩, d__law_orders := ⟨_, m__law_orders⟩, d__law_stream := ⟨_, m__law_stream⟩, d__law_kind := ⟨_, m__law_kind⟩, d__law_asked := ⟨_, m__law_asked⟩, d_law := ⟨_, m_law⟩, catch_ := ca }
  refine ⟨PySem.W.fnOf "law" "law" (defArgs (topS 29)) (defBody (topS 29)) (defScope (topS 29)) .none kV_law dc_law pm_law an_law cd_law ct_law, fun s v => .of_eq rfl, fun base _ _ => ?_⟩
  have C_are_times : CalG l.prog w K mg base 1 "are_times" 1 F_are_times := cal_mk (ok_are_times Fu_are_times M ) Fu_are_times m_are_times b_are_times rfl
  have C_check_streams : CalG l.prog w K mg base 2 "check_streams" 2 F_check_streams := cal_mk (ok_check_streams Fu_check_streams M C_are_times) Fu_check_streams m_check_streams b_check_streams rfl
  have C_meetings : CalG l.prog w K mg base 3 "meetings" 2 F_meetings := cal_mk (ok_meetings Fu_meetings M C_check_streams) Fu_meetings m_meetings b_meetings rfl
  have C_sum_of_waits : CalG l.prog w K mg base 3 "sum_of_waits" 2 F_sum_of_waits := cal_mk (ok_sum_of_waits Fu_sum_of_waits M C_check_streams) Fu_sum_of_waits m_sum_of_waits b_sum_of_waits rfl
  have C_waiting_at : CalG l.prog w K mg base 3 "waiting_at" 3 F_waiting_at := cal_mk (ok_waiting_at Fu_waiting_at M C_check_streams) Fu_waiting_at m_waiting_at b_waiting_at rfl
  have C_pairing_waits : CalG l.prog w K mg base 3 "pairing_waits" 3 F_pairing_waits := cal_mk (ok_pairing_waits Fu_pairing_waits M C_check_streams) Fu_pairing_waits m_pairing_waits b_pairing_waits rfl
  have C__law_number : CalG l.prog w K mg base 1 "_law_number" 1 F__law_number := cal_mk (ok__law_number Fu__law_number M ) Fu__law_number m__law_number b__law_number rfl
  have C__law_draws : CalG l.prog w K mg base 2 "_law_draws" 1 F__law_draws := cal_mk (ok__law_draws Fu__law_draws M C__law_number) Fu__law_draws m__law_draws b__law_draws rfl
  have C__law_flat : CalG l.prog w K mg base 1 "_law_flat" 1 F__law_flat := cal_mk (ok__law_flat Fu__law_flat M ) Fu__law_flat m__law_flat b__law_flat rfl
  have C__law_next : CalG l.prog w K mg base 1 "_law_next" 1 F__law_next := cal_mk (ok__law_next Fu__law_next M ) Fu__law_next m__law_next b__law_next rfl
  have C__law_more : CalG l.prog w K mg base 2 "_law_more" 2 F__law_more := cal_mk (ok__law_more Fu__law_more M C__law_next) Fu__law_more m__law_more b__law_more rfl
  have C__law_pick : CalG l.prog w K mg base 2 "_law_pick" 2 F__law_pick := cal_mk (ok__law_pick Fu__law_pick M C__law_next) Fu__law_pick m__law_pick b__law_pick rfl
  have C__law_orders : CalG l.prog w K mg base 1 "_law_orders" 1 F__law_orders := cal_mk (ok__law_orders Fu__law_orders M ) Fu__law_orders m__law_orders b__law_orders rfl
  have C__law_stream : CalG l.prog w K mg base 2 "_law_stream" 3 F__law_stream := cal_mk (ok__law_stream Fu__law_stream M C__law_next) Fu__law_stream m__law_stream b__law_stream rfl
  have C__law_kind : KindOk l.prog w K mg base 2 "_law_kind" kindF := ok__law_kind Fu__law_kind b__law_kind m__law_kind M T
  have C__law_asked : CalG l.prog w K mg base 4 "_law_asked" 4 F__law_asked := cal_mk (ok__law_asked Fu__law_asked M C_meetings C_sum_of_waits C_waiting_at C_pairing_waits C__law_kind) Fu__law_asked m__law_asked b__law_asked rfl
  exact ok_law Fu_law M C_meetings C_sum_of_waits C_waiting_at C_pairing_waits C__law_draws C__law_flat C__law_next C__law_more C__law_pick C__law_orders C__law_stream C__law_asked
end
end Law
namespace Law
open PySem PySem.Spec PyProof.Rows L2 Den
/-- the draws that are left lie at n -/
def Dr (b n : Nat) (m : Mem) : Prop := ∃ ds : List Int, m[n]? = some (some (.list (ds.map .int))) ∧ (∀ d ∈ ds, 0 ≤ d ∧ d < 1000) ∧ ds.length ≤ b
theorem Dr.lt {b n : Nat} {m : Mem} (h : Dr b n m) : n < m.length := by
  obtain ⟨ds, h1, _⟩ := h
  exact (List.getElem?_eq_some_iff.mp h1).1
theorem next_ok {b n : Nat} {m : Mem} (h : Dr b n m) : ∃ (v : Int) (m' : Mem), F__law_next [.r n] m = .ok (.d (.int v)) m' ∧ 0 ≤ v ∧ v < 1000 ∧ Dr b n m' ∧ m'.length = m.length ∧ ∀ k, k ≠ n → m'[k]? = m[k]? := by
  obtain ⟨ds, h1, h2, h3⟩ := h
  obtain ⟨hn, _⟩ := List.getElem?_eq_some_iff.mp h1
  by_cases hd : ds = []
  · subst hd
    refine ⟨0, m, ?_, by omega, by omega, ⟨[], h1, h2, h3⟩, rfl, fun _ _ => rfl⟩
    simp [F__law_next, runF, m__law_next, startE, h1, fin]
  · obtain ⟨es, e, rfl⟩ : ∃ es e, ds = es ++ [e] := ⟨ds.dropLast, ds.getLast hd, (List.dropLast_concat_getLast hd).symm⟩
    have he := h2 e (by simp)
    refine ⟨e, m.set n (some (.list (es.map .int))), ?_, he.1, he.2, ⟨es, by rw [List.getElem?_set_self hn], fun d hd => h2 d (by simp [hd]), by simp at h3; omega⟩, by simp, fun k hk => List.getElem?_set_ne (Ne.symm hk)⟩
    have tk : (m.set n (some (.list (es.map .int)))).take m.length = m.set n (some (.list (es.map .int))) := List.take_of_length_le (by simp)
    simp [F__law_next, runF, m__law_next, startE, h1, fin, tk]
theorem number_ok {c : Int} {m : Mem} : F__law_number [.d (.int c)] m = .ok (.d (.int (c.natAbs : Int))) m := by
  by_cases h : c < 0
  · simp [F__law_number, runF, m__law_number, startE, fin, h]; omega
  · simp [F__law_number, runF, m__law_number, startE, fin, h]; omega
theorem pick_ok {b n : Nat} {m : Mem} {some_ : List D} (h : Dr b n m) (h0 : some_ ≠ []) : ∃ (x : D) (m' : Mem), F__law_pick [.r n, .d (.list some_)] m = .ok (.d x) m' ∧ x ∈ some_ ∧ Dr b n m' ∧ m'.length = m.length := by
  obtain ⟨v, m', e, v0, v1, d, l, _⟩ := next_ok h
  have hp : 0 < (some_.length : Int) := by
    cases some_ with
    | nil => exact absurd rfl h0
    | cons a r => rw [List.length_cons]; omega
  have r0 := Int.emod_nonneg v (Int.ne_of_gt hp)
  have r1 := Int.emod_lt_of_pos v hp
  have hi : (v % (some_.length : Int)).toNat < some_.length := by omega
  have ha : atI some_ (v % (some_.length : Int)) = some some_[(v % (some_.length : Int)).toNat] := by
    unfold atI ixN
    rw [if_pos r0, if_pos r1]
    exact List.getElem?_eq_getElem hi
  refine ⟨some_[(v % (some_.length : Int)).toNat], m', ?_, List.getElem_mem hi, d, l⟩
  have tk : m'.take m.length = m' := List.take_of_length_le (by omega)
  simp [F__law_pick, runF, m__law_pick, startE, fin, e, mod_pos hp, ha, tk]
theorem set_last (m : Mem) (x y : Option D) : (m ++ [x]).set m.length y = m ++ [y] := by
  rw [List.set_append_right _ _ (Nat.le_refl _), Nat.sub_self]; rfl
theorem get_last (m : Mem) (x : Option D) : (m ++ [x])[m.length]? = some x := by
  rw [List.getElem?_append_right (Nat.le_refl _), Nat.sub_self]; rfl
theorem more_ok {b n : Nat} {m : Mem} {k : Int} (h : Dr b n m) (hb : b ≤ 10000) (k0 : 0 ≤ k) (k1 : k ≤ 1000) : ∃ (es : List Int) (m' : Mem), F__law_more [.r n, .d (.int k)] m = .ok (.n (.list (es.map .int))) m' ∧ (∀ d ∈ es, 0 ≤ d ∧ d < 1000) ∧ es.length ≤ b + k.toNat ∧ m'.length = m.length := by
  obtain ⟨v1, m1, e1, a1, b1, d1, l1, _⟩ := next_ok h
  obtain ⟨v2, m2, e2, a2, b2, d2, l2, _⟩ := next_ok d1
  have hm : mulD (.int 1000) (.int v1) = some (.d (.int (1000 * v1))) := mul_small (by decide) (by omega)
  have hr : ∀ rho : Den.Env, rho[1]? = some (some (.d (.int k))) → ∀ m : Mem, mRange1 (mVar 1) rho m = .ok (rangeD 0 k) m := fun rho hrho m => range1_ok (by rw [e_Var, hrho]) k0 (by omega)
  have hn2 := d2.lt
  obtain ⟨r, m', f1, es, f2, f3, f4, f5, seed, f6⟩ := for_inv (g := gN 4) (c := sSeq (sSet 2 (mMod (mB (mCons (mAdd (mMul (mVar 2) (mC (.int 48271))) (mC (.int 12345))) (mNil)) (fD1 intD)) (mC (.int 2147483647)))) (sSeq (sDrop (mM .lst (mVar 3) (mCons (mMod (mB (mCons (mFdiv (mVar 2) (mC (.int 7))) (mNil)) (fD1 intD)) (mC (.int 1000))) (mNil)) fAppend)) (sSkip)))
    (rho := [some (.r n), some (.d (.int k)), some (.d (.int (1000 * v1 + v2 + 1))), some (.r m2.length), none]) (m := m2 ++ [some (.list [])]) (rangeD 0 k)
    (fun i rho m => ∃ es : List Int, m = m2 ++ [some (.list (es.map .int))] ∧ (∀ d ∈ es, 0 ≤ d ∧ d < 1000) ∧ es.length ≤ i ∧ rho.length = 5 ∧ ∃ seed : Int, (rho[0]? = some (some (.r n)) ∧ rho[1]? = some (some (.d (.int k))) ∧ rho[2]? = some (some (.d (.int seed))) ∧ rho[3]? = some (some (.r m2.length))) ∧ 0 ≤ seed ∧ seed < 2 ^ 40)
    (by refine ⟨[], rfl, by simp, Nat.le_refl _, rfl, 1000 * v1 + v2 + 1, ⟨rfl, rfl, rfl, rfl⟩, by omega, by omega⟩) (fun i hi rho m hI => by
      obtain ⟨es, rfl, q2, q3, q4, seed, ⟨z0, z1, z2, z3⟩, q6, q7⟩ := hI
      refine ⟨_, _, rfl, ?_⟩
      rw [range_len] at hi
      match rho, q4, z0, z1, z2, z3 with
      | [w0, w1, w2, w3, w4], _, z0, z1, z2, z3 =>
        simp only [List.getElem?_cons_zero, List.getElem?_cons_succ, Option.some.injEq] at z0 z1 z2 z3
        subst z0 z1 z2 z3
        have hm2 : mulD (.int seed) (.int 48271) = some (.d (.int (seed * 48271))) := mul_small (by omega) (by decide)
        have hs : small (es.length + 1) = true := small_le (by omega)
        refine ⟨[some (.r n), some (.d (.int k)), some (.d (.int ((seed * 48271 + 12345) % 2147483647))), some (.r m2.length), some (.d (rangeD 0 k)[i])], m2 ++ [some (.list ((es ++ [(seed * 48271 + 12345) % 2147483647 / 7 % 1000]).map .int))], ?_, es ++ [(seed * 48271 + 12345) % 2147483647 / 7 % 1000], rfl, ?_, ?_, ?_, (seed * 48271 + 12345) % 2147483647, ⟨rfl, rfl, rfl, rfl⟩, ?_, ?_⟩
        · simp [hm2, hs, set_last, get_last]
        · intro d hd
          rcases List.mem_append.mp hd with hd | hd
          · exact q2 d hd
          · rw [List.mem_singleton] at hd; omega
        · rw [List.length_append]; simp; omega
        · rfl
        · omega
        · omega)
  obtain ⟨ds, g1, g2, g3⟩ := d2
  subst f2
  match r, f5, f6 with
  | [w0, w1, w2, w3, w4], _, ⟨⟨z0, z1, z2, z3⟩, f7, f8⟩ =>
    simp only [List.getElem?_cons_zero, List.getElem?_cons_succ, Option.some.injEq] at z0 z1 z2 z3
    subst z0 z1 z2 z3
    have g1' : (m2 ++ [some (.list (es.map .int))])[n]? = some (some (.list (ds.map .int))) := by rw [List.getElem?_append_left hn2]; exact g1
    rw [range_len] at f4
    have hs : small (es.length + ds.length) = true := small_le (by omega)
    refine ⟨es ++ ds, m2, ?_, ?_, ?_, by omega⟩
    · have tk : (m2 ++ [some (PyData.list (es.map .int))] : Mem).take m.length = m2 := by
        rw [List.take_append_of_le_length (by omega), List.take_of_length_le (by omega)]
      unfold F__law_more runF m__law_more startE
      simp [e1, e2, hm, hr, f1, g1', get_last, hs, fin, tk]
    · intro d hd
      rcases List.mem_append.mp hd with hd | hd
      · exact f3 d hd
      · exact g2 d hd
    · rw [List.length_append]; omega
theorem draws_in (x0 x2 x4 x5 x6 : Option W) (rest : Int) (ds : List Int) (h0 : 0 ≤ rest) (hd : ∀ d ∈ ds, 0 ≤ d ∧ d < 1000) (hlen : ds.length ≤ 3720) : ∃ (rho' : Den.Env) (m' : Mem), forL (gN 4) (sSeq (sIf (mBool (mOp2 (mVar 3) (mC (.int 0)) (lift2 eqD))) (sSeq (sBreak) (sSkip)) (sSkip)) (sSeq (sDrop (mM .lst (mVar 1) (mCons (mMod (mB (mCons (mVar 3) (mNil)) (fD1 intD)) (mC (.int 1000))) (mNil)) fAppend)) (sSeq (sSet 3 (mFdiv (mVar 3) (mC (.int 1000)))) (sSkip)))) (rangeD 0 60)
      [x0, some (.r 0), x2, some (.d (.int rest)), x4, x5, x6] [some (.list (ds.map .int))] = .nx rho' m' ∧ ∃ (es : List Int) (y2 y3 y4 y5 y6 : Option W), rho' = [x0, some (.r 0), y2, y3, y4, y5, y6] ∧ m' = [some (.list (es.map .int))] ∧ (∀ d ∈ es, 0 ≤ d ∧ d < 1000) ∧ es.length ≤ ds.length + 60 := by
  obtain ⟨r, m', e, hI⟩ := forL_inv (g := gN 4) (c := sSeq (sIf (mBool (mOp2 (mVar 3) (mC (.int 0)) (lift2 eqD))) (sSeq (sBreak) (sSkip)) (sSkip)) (sSeq (sDrop (mM .lst (mVar 1) (mCons (mMod (mB (mCons (mVar 3) (mNil)) (fD1 intD)) (mC (.int 1000))) (mNil)) fAppend)) (sSeq (sSet 3 (mFdiv (mVar 3) (mC (.int 1000)))) (sSkip))))
    (fun i rho m => ∃ (rest : Int) (es : List Int) (y4 : Option W), rho = [x0, some (.r 0), x2, some (.d (.int rest)), y4, x5, x6] ∧ 0 ≤ rest ∧ m = [some (.list (es.map .int))] ∧ (∀ d ∈ es, 0 ≤ d ∧ d < 1000) ∧ es.length ≤ ds.length + i)
    (fun rho m => ∃ (es : List Int) (y2 y3 y4 y5 y6 : Option W), rho = [x0, some (.r 0), y2, y3, y4, y5, y6] ∧ m = [some (.list (es.map .int))] ∧ (∀ d ∈ es, 0 ≤ d ∧ d < 1000) ∧ es.length ≤ ds.length + 60)
    (rangeD 0 60) 0 [x0, some (.r 0), x2, some (.d (.int rest)), x4, x5, x6] [some (.list (ds.map .int))] ⟨rest, ds, x4, rfl, h0, rfl, hd, Nat.le_refl _⟩ (fun i hi rho m hI => by
      obtain ⟨rest, es, y4, rfl, q1, rfl, q2, q3⟩ := hI
      have hi2 : i < 60 := by simpa using hi
      refine ⟨_, _, rfl, ?_⟩
      generalize (rangeD 0 60)[i] = xi
      by_cases hz : rest = 0
      · refine .inr (.inr ⟨[x0, some (.r 0), x2, some (.d (.int rest)), some (.d xi), x5, x6], [some (.list (es.map .int))], ?_, es, x2, some (.d (.int rest)), some (.d xi), x5, x6, rfl, rfl, q2, by omega⟩)
        simp [hz]
      · refine .inl ⟨[x0, some (.r 0), x2, some (.d (.int (rest / 1000))), some (.d xi), x5, x6], [some (.list ((es ++ [rest % 1000]).map .int))], ?_, rest / 1000, es ++ [rest % 1000], _, rfl, by omega, rfl, ?_, by rw [List.length_append]; simp; omega⟩
        · have hs : small (es.length + 1) = true := small_le (by omega)
          simp [hz, hs]
        · intro d hd
          rcases List.mem_append.mp hd with hd | hd
          · exact q2 d hd
          · rw [List.mem_singleton] at hd; omega)
  rcases hI with ⟨rest', es, y4, rfl, _, rfl, q2, q3⟩ | hJ
  · rw [range_len] at q3
    exact ⟨_, _, e, es, x2, _, y4, x5, x6, rfl, rfl, q2, by omega⟩
  · exact ⟨_, _, e, hJ⟩
theorem draws_ok (ns : List Int) (hl : ns.length ≤ 63) : ∃ es : List Int, F__law_draws [.s (ns.map .int)] [] = .ok (.n (.list (es.map .int))) [] ∧ (∀ d ∈ es, 0 ≤ d ∧ d < 1000) ∧ es.length ≤ 3780 := by
  have hr : ∀ rho m, mRange1 (mC (.int 60)) rho m = .ok (rangeD 0 60) m := fun rho m => range1_ok rfl (by decide) (by decide)
  obtain ⟨r, m', e, es, y2, y3, y4, y5, y6, rfl, rfl, q2, q3⟩ := for_inv (g := gN 2) (c := sSeq (sSet 3 (mCall 1 F__law_number (mCons (mVar 2) (mNil)))) (sSeq (sIf (mBool (mOp2 (mVar 3) (mC (.int 1000000000000000000)) (lift2 geD))) (sSeq (sFor (mRange1 (mC (.int 60))) (gN 4) (sSeq (sIf (mBool (mOp2 (mVar 3) (mC (.int 0)) (lift2 eqD))) (sSeq (sBreak) (sSkip)) (sSkip)) (sSeq (sDrop (mM .lst (mVar 1) (mCons (mMod (mB (mCons (mVar 3) (mNil)) (fD1 intD)) (mC (.int 1000))) (mNil)) fAppend)) (sSeq (sSet 3 (mFdiv (mVar 3) (mC (.int 1000)))) (sSkip))))) (sSkip)) (sSeq (sSet 5 (mMod (mB (mCons (mAdd (mMul (mVar 3) (mC (.int 48271))) (mC (.int 11))) (mNil)) (fD1 intD)) (mC (.int 2147483647)))) (sSeq (sSet 6 (mMod (mB (mCons (mAdd (mMul (mVar 5) (mC (.int 69621))) (mVar 3)) (mNil)) (fD1 intD)) (mC (.int 2147483629)))) (sSeq (sDrop (mM .lst (mVar 1) (mCons (mLst (mCons (mMod (mB (mCons (mVar 3) (mNil)) (fD1 intD)) (mC (.int 1000))) (mCons (mMod (mB (mCons (mVar 5) (mNil)) (fD1 intD)) (mC (.int 1000))) (mCons (mMod (mB (mCons (mVar 6) (mNil)) (fD1 intD)) (mC (.int 1000))) (mNil))))) (mNil)) fExtend)) (sSkip))))) (sSkip)))
    (rho := [some (.s (ns.map .int)), some (.r 0), none, none, none, none, none]) (m := [some (.list [])]) (ns.map .int)
    (fun i rho m => ∃ (es : List Int) (y2 y3 y4 y5 y6 : Option W), rho = [some (.s (ns.map .int)), some (.r 0), y2, y3, y4, y5, y6] ∧ m = [some (.list (es.map .int))] ∧ (∀ d ∈ es, 0 ≤ d ∧ d < 1000) ∧ es.length ≤ 60 * i)
    ⟨[], none, none, none, none, none, rfl, rfl, by simp, Nat.le_refl _⟩ (fun i hi rho m hI => by
      obtain ⟨es, y2, y3, y4, y5, y6, rfl, rfl, q2, q3⟩ := hI
      have hi' : i < ns.length := by simpa using hi
      have hcell : (ns.map PyData.int)[i] = .int ns[i] := by simp
      rw [hcell]
      refine ⟨_, _, rfl, ?_⟩
      by_cases hb : (1000000000000000000 : Int) ≤ (ns[i].natAbs : Int)
      · obtain ⟨rho', m', e1, es1, z2, z3, z4, z5, z6, rfl, rfl, w2, w3⟩ := draws_in (some (.s (ns.map .int))) (some (.d (.int ns[i]))) y4 y5 y6 (ns[i].natAbs : Int) es (by omega) q2 (by omega)
        exact ⟨[some (.s (ns.map .int)), some (.r 0), z2, z3, z4, z5, z6], [some (.list (es1.map .int))], by simp [number_ok, hb, hr, e1], es1, z2, z3, z4, z5, z6, rfl, rfl, w2, by omega⟩
      · generalize hR : (ns[i].natAbs : Int) = R at hb
        have r0 : 0 ≤ R := by omega
        have r1 : R < 1000000000000000000 := by omega
        have m1 : mulD (.int R) (.int 48271) = some (.d (.int (R * 48271))) := mul_small (by omega) (by decide)
        generalize hO : (R * 48271 + 11) % 2147483647 = O
        have o0 : 0 ≤ O ∧ O < 2147483647 := by omega
        have m2 : mulD (.int O) (.int 69621) = some (.d (.int (O * 69621))) := mul_small (by omega) (by decide)
        have hs : small (es.length + 3) = true := small_le (by omega)
        refine ⟨[some (.s (ns.map .int)), some (.r 0), some (.d (.int ns[i])), some (.d (.int R)), y4, some (.d (.int O)), some (.d (.int ((O * 69621 + R) % 2147483629)))], [some (.list ((es ++ [R % 1000, O % 1000, (O * 69621 + R) % 2147483629 % 1000]).map .int))], ?_, es ++ [R % 1000, O % 1000, (O * 69621 + R) % 2147483629 % 1000], _, _, _, _, _, rfl, rfl, ?_, by rw [List.length_append]; simp; omega⟩
        · simp [number_ok, hR, hb, m1, hO, m2, hs]
        · intro d hd
          rcases List.mem_append.mp hd with hd | hd
          · exact q2 d hd
          · simp at hd; omega)
  rw [ints_len] at q3
  refine ⟨es.reverse, ?_, fun d hd => q2 d (List.mem_reverse.mp hd), by rw [List.length_reverse]; omega⟩
  unfold F__law_draws runF m__law_draws startE
  simp [e, fin]
end Law
/-! K37m: matching two streams: the mathematics of k37 in plain ints. -/
namespace Meet
def ab (i : Int) : Int := if i < 0 then -i else i
def ind (t x : Int) : Int := if x ≤ t then 1 else 0
def dist : List Int → List Int → Int
  | x :: a, y :: b => ab (x - y) + dist a b
  | _, _ => 0
def cnt (t : Int) : List Int → Int
  | [] => 0
  | x :: l => ind t x + cnt t l
def dI (t : Int) : List Int → List Int → Int
  | x :: a, y :: b => ab (ind t x - ind t y) + dI t a b
  | _, _ => 0
def sumT (f : Int → Int) : Nat → Int
  | 0 => 0
  | n + 1 => sumT f n + f n
theorem sumT_congr {f g : Int → Int} : ∀ {n : Nat}, (∀ t : Nat, t < n → f t = g t) → sumT f n = sumT g n
  | 0, _ => rfl
  | n + 1, h => by
    show sumT f n + f n = sumT g n + g n
    rw [sumT_congr fun t ht => h t (by omega), h n (by omega)]
theorem sumT_add (f g : Int → Int) : ∀ n : Nat, sumT (fun t => f t + g t) n = sumT f n + sumT g n
  | 0 => rfl
  | n + 1 => by
    show sumT (fun t => f t + g t) n + (f n + g n) = (sumT f n + f n) + (sumT g n + g n)
    rw [sumT_add f g n]; omega
theorem sumT_mono {f g : Int → Int} : ∀ {n : Nat}, (∀ t : Nat, t < n → f t ≤ g t) → sumT f n ≤ sumT g n
  | 0, _ => Int.le_refl _
  | n + 1, h => by
    have := sumT_mono (n := n) fun t ht => h t (by omega)
    have := h n (by omega)
    show sumT f n + f n ≤ sumT g n + g n
    omega
theorem sumT_zero : ∀ n : Nat, sumT (fun _ => 0) n = 0
  | 0 => rfl
  | n + 1 => by show sumT (fun _ => 0) n + 0 = 0; rw [sumT_zero n]; rfl
theorem layer : ∀ (n : Nat) (x y : Int), 0 ≤ x → x ≤ n → 0 ≤ y → y ≤ n → sumT (fun t => ab (ind t x - ind t y)) n = ab (x - y)
  | 0, x, y, h1, h2, h3, h4 => by
    have e1 : x = 0 := by omega
    have e2 : y = 0 := by omega
    subst e1 e2; rfl
  | n + 1, x, y, h1, h2, h3, h4 => by
    have ih := layer n (min x n) (min y n) (by omega) (by omega) (by omega) (by omega)
    have e : sumT (fun t => ab (ind t x - ind t y)) n = sumT (fun t => ab (ind t (min x n) - ind t (min y n))) n := sumT_congr fun t ht => by
      have i1 : ind t x = ind t (min x n) := by unfold ind; split <;> split <;> omega
      have i2 : ind t y = ind t (min y n) := by unfold ind; split <;> split <;> omega
      rw [i1, i2]
    show sumT (fun t => ab (ind t x - ind t y)) n + ab (ind n x - ind n y) = ab (x - y)
    rw [e, ih]
    unfold ab ind
    repeat' split
    all_goals omega
theorem dist_layer (n : Nat) : ∀ (a c : List Int), (∀ x ∈ a, 0 ≤ x ∧ x ≤ n) → (∀ x ∈ c, 0 ≤ x ∧ x ≤ n) → dist a c = sumT (fun t => dI t a c) n
  | [], _, _, _ => (sumT_zero n).symm
  | _ :: _, [], _, _ => (sumT_zero n).symm
  | x :: a, y :: c, h1, h2 => by
    have hx := h1 x List.mem_cons_self
    have hy := h2 y List.mem_cons_self
    show ab (x - y) + dist a c = sumT (fun t => ab (ind t x - ind t y) + dI t a c) n
    rw [sumT_add (fun t => ab (ind t x - ind t y)) (fun t => dI t a c), layer n x y hx.1 hx.2 hy.1 hy.2, dist_layer n a c (fun z hz => h1 z (List.mem_cons_of_mem _ hz)) fun z hz => h2 z (List.mem_cons_of_mem _ hz)]
theorem ab_tri (p q : Int) : ab (p + q) ≤ ab p + ab q := by unfold ab; repeat' split <;> omega
theorem dI_ge (t : Int) : ∀ (a c : List Int), a.length = c.length → ab (cnt t a - cnt t c) ≤ dI t a c
  | [], [], _ => by show ab (0 - 0) ≤ 0; decide
  | [], _ :: _, h => by simp at h
  | _ :: _, [], h => by simp at h
  | x :: a, y :: c, h => by
    have ih := dI_ge t a c (by simpa using h)
    have q := ab_tri (ind t x - ind t y) (cnt t a - cnt t c)
    show ab (ind t x + cnt t a - (ind t y + cnt t c)) ≤ ab (ind t x - ind t y) + dI t a c
    rw [show ind t x + cnt t a - (ind t y + cnt t c) = (ind t x - ind t y) + (cnt t a - cnt t c) by omega]
    omega
theorem cnt_nonneg (t : Int) : ∀ a : List Int, 0 ≤ cnt t a
  | [] => Int.le_refl _
  | x :: a => by
    have := cnt_nonneg t a
    show 0 ≤ ind t x + cnt t a
    unfold ind; split <;> omega
theorem cnt_above {t : Int} : ∀ {a : List Int}, (∀ x ∈ a, t < x) → cnt t a = 0
  | [], _ => rfl
  | x :: a, h => by
    have := h x List.mem_cons_self
    show ind t x + cnt t a = 0
    rw [cnt_above fun z hz => h z (List.mem_cons_of_mem _ hz)]
    unfold ind; split <;> omega
theorem dI_left {t : Int} : ∀ {a c : List Int}, a.length = c.length → (∀ x ∈ a, t < x) → dI t a c = cnt t c
  | [], [], _, _ => rfl
  | [], _ :: _, h, _ => by simp at h
  | _ :: _, [], h, _ => by simp at h
  | x :: a, y :: c, h, hx => by
    have := hx x List.mem_cons_self
    show ab (ind t x - ind t y) + dI t a c = ind t y + cnt t c
    rw [dI_left (by simpa using h) fun z hz => hx z (List.mem_cons_of_mem _ hz)]
    unfold ab ind; repeat' split
    all_goals omega
theorem dI_right {t : Int} : ∀ {a c : List Int}, a.length = c.length → (∀ x ∈ c, t < x) → dI t a c = cnt t a
  | [], [], _, _ => rfl
  | [], _ :: _, h, _ => by simp at h
  | _ :: _, [], h, _ => by simp at h
  | x :: a, y :: c, h, hx => by
    have := hx y List.mem_cons_self
    show ab (ind t x - ind t y) + dI t a c = ind t x + cnt t a
    rw [dI_right (by simpa using h) fun z hz => hx z (List.mem_cons_of_mem _ hz)]
    unfold ab ind; repeat' split
    all_goals omega
theorem dI_sorted (t : Int) : ∀ (a c : List Int), a.length = c.length → a.Pairwise (· ≤ ·) → c.Pairwise (· ≤ ·) → dI t a c = ab (cnt t a - cnt t c)
  | [], [], _, _, _ => rfl
  | [], _ :: _, h, _, _ => by simp at h
  | _ :: _, [], h, _, _ => by simp at h
  | x :: a, y :: c, h, ha, hc => by
    have hl : a.length = c.length := by simpa using h
    rw [List.pairwise_cons] at ha hc
    by_cases h1 : x ≤ t
    · by_cases h2 : y ≤ t
      · have ih := dI_sorted t a c hl ha.2 hc.2
        show ab (ind t x - ind t y) + dI t a c = ab (ind t x + cnt t a - (ind t y + cnt t c))
        have e1 : ind t x = 1 := if_pos h1
        have e2 : ind t y = 1 := if_pos h2
        rw [ih, e1, e2, show (1 + cnt t a - (1 + cnt t c)) = cnt t a - cnt t c by omega]
        show 0 + _ = _
        omega
      · have q : ∀ z ∈ y :: c, t < z := fun z hz => by
          rcases List.mem_cons.mp hz with rfl | hz
          · omega
          · have := hc.1 z hz; omega
        rw [dI_right h q, cnt_above q]
        have := cnt_nonneg t (x :: a)
        unfold ab; split <;> omega
    · have q : ∀ z ∈ x :: a, t < z := fun z hz => by
        rcases List.mem_cons.mp hz with rfl | hz
        · omega
        · have := ha.1 z hz; omega
      rw [dI_left h q, cnt_above q]
      have := cnt_nonneg t (y :: c)
      unfold ab; split <;> omega
theorem cnt_perm {t : Int} {a b : List Int} (h : a.Perm b) : cnt t a = cnt t b := by
  induction h with
  | nil => rfl
  | cons x _ ih => show _ + _ = _ + _; rw [ih]
  | swap x y l => show ind t y + (ind t x + cnt t l) = ind t x + (ind t y + cnt t l); omega
  | trans _ _ ih1 ih2 => exact ih1.trans ih2
/-- the waits of sorted streams, time by time -/
theorem by_times (n : Nat) {a b : List Int} (hl : a.length = b.length) (ha : ∀ x ∈ a, 0 ≤ x ∧ x ≤ n) (hb : ∀ x ∈ b, 0 ≤ x ∧ x ≤ n) (sa : a.Pairwise (· ≤ ·)) (sb : b.Pairwise (· ≤ ·)) : sumT (fun t => ab (cnt t a - cnt t b)) n = dist a b := by
  rw [dist_layer n a b ha hb]
  exact sumT_congr fun t _ => (dI_sorted t a b hl sa sb).symm
/-- no other order is better -/
theorem no_better (n : Nat) {a b c : List Int} (hl : a.length = b.length) (p : c.Perm b) (ha : ∀ x ∈ a, 0 ≤ x ∧ x ≤ n) (hb : ∀ x ∈ b, 0 ≤ x ∧ x ≤ n) (sa : a.Pairwise (· ≤ ·)) (sb : b.Pairwise (· ≤ ·)) : dist a b ≤ dist a c := by
  rw [← by_times n hl ha hb sa sb, dist_layer n a c ha fun x hx => hb x (p.mem_iff.mp hx)]
  exact sumT_mono fun t _ => by
    rw [← cnt_perm p]
    exact dI_ge t a c (by rw [hl, p.length_eq])
end Meet
namespace Law
open PySem PySem.Spec PyProof.Rows L2 Den Meet
abbrev T (a : List Int) : D := .tuple (a.map .int)
/-- times of a stream -/
structure Good (a : List Int) : Prop where
  len : a.length ≤ 100
  rng : ∀ x ∈ a, 0 ≤ x ∧ x ≤ 1000000
  srt : a.Pairwise (· ≤ ·)
theorem zip_drop : ∀ {a : List Int}, a.Pairwise (· ≤ ·) → ∀ p ∈ a.zip (a.drop 1), p.1 ≤ p.2
  | [], _, p, h => by simp at h
  | [x], _, p, h => by simp at h
  | x :: y :: a, h, p, hp => by
    rw [List.drop_one, List.tail_cons, List.zip_cons_cons] at hp
    rcases List.mem_cons.mp hp with rfl | hp
    · exact (List.pairwise_cons.mp h).1 y List.mem_cons_self
    · exact zip_drop (List.pairwise_cons.mp h).2 p (by rw [List.drop_one, List.tail_cons]; exact hp)
theorem are_ok {a : List Int} {m : Mem} (h : Good a) : F_are_times [.d (T a)] m = .ok (.d (.bool true)) m := by
  have c1 := mLC_all (it := mItems (mVar 0)) (vs := [1]) (g := gN 1) (t := tYesT) (a := mChain (lift2 leD) (lift2 leD) (mC (.int 0)) (mVar 1) (mC (.int 1000000))) (rho := [some (.d (T a)), none, none, none]) (m := m) (m0 := m) a PyData.int (fun _ => .bool true) (by simp) (by have := h.len; omega)
    fun x hx => ⟨_, rfl, rfl, .d (.bool true), by have := h.rng x hx; simp [this.1, this.2], rfl⟩
  have c2 := mLC_all (it := mZip (mVar 0) (mSl (mVar 0) (oSome (mC (.int 1))) (oNone))) (vs := [2, 3]) (g := gT [gN 2, gN 3]) (t := tYesT) (a := mOp2 (mVar 2) (mVar 3) (lift2 leD)) (rho := [some (.d (T a)), none, none, none]) (m := m) (m0 := m) (a.zip (a.drop 1)) pairIJ (fun _ => .bool true)
    (by simp only [e_Zip, e_Cons, e_Var, List.getElem?_cons_zero, ev_bindV, val_d, e_Sl, e_oS, e_oN, e_C, ev_bind, f_Sl, peek_d, cut_1, e_Nil, val_n, zip_t]; rw [← List.map_drop, zip_ints]) (by have := h.len; rw [List.length_zip]; omega)
    fun p hp => ⟨[some (.d (T a)), none, some (.d (.int p.1)), some (.d (.int p.2))], by simp [pairIJ], rfl, .d (.bool true), by have := zip_drop h.srt p hp; simp [this], rfl⟩
  have hl : ¬ (100 : Int) < (a.length : Nat) := by have := h.len; omega
  unfold F_are_times runF m_are_times startE
  simp [hl, c1, c2, all_true, fin]
theorem check_ok {a b : List Int} {m : Mem} (h : Good a) (h2 : Good b) : F_check_streams [.d (T a), .d (T b)] m = .ok (.d .none) m := by
  unfold F_check_streams runF m_check_streams startE
  simp [are_ok h, are_ok h2]
theorem dist_sum : ∀ (a b : List Int), ((a.zip b).map fun p => if p.1 - p.2 < 0 then -(p.1 - p.2) else p.1 - p.2).sum = dist a b
  | [], _ => by simp [dist]
  | _ :: _, [] => by simp [dist]
  | x :: a, y :: b => by
    rw [List.zip_cons_cons, List.map_cons, List.sum_cons, dist_sum a b]
    rfl
theorem cnt_len (t : Int) : ∀ a : List Int, ((a.filter fun x => decide (x ≤ t)).length : Int) = cnt t a
  | [] => rfl
  | x :: a => by
    have ih := cnt_len t a
    by_cases h : x ≤ t
    · rw [List.filter_cons_of_pos (by simp [h]), List.length_cons]
      show _ = ind t x + cnt t a
      rw [show ind t x = 1 from if_pos h]; omega
    · rw [List.filter_cons_of_neg (by simp [h])]
      show _ = ind t x + cnt t a
      rw [show ind t x = 0 from if_neg h]; omega
def meetD (p : Int × Int) : D := .tuple [.int (if p.2 > p.1 then p.2 else p.1), .int (p.2 - p.1)]
theorem meetings_ok {a b : List Int} {m : Mem} (h : Good a) (h2 : Good b) : F_meetings [.d (T a), .d (T b)] m = .ok (.d (.tuple ((a.zip b).map meetD))) m := by
  have c1 := mLC_all (it := mZip (mVar 0) (mVar 1)) (vs := [2, 3]) (g := gT [gN 2, gN 3]) (t := tYesT) (a := mTup (mCons (mB (mCons (mVar 2) (mCons (mVar 3) (mNil))) (fD2 maxD)) (mCons (mSub (mVar 3) (mVar 2)) (mNil)))) (rho := [some (.d (T a)), some (.d (T b)), none, none]) (m := m) (m0 := m) (a.zip b) pairIJ meetD
    (by simp [zip_ints]) (by have := h.len; rw [List.length_zip]; omega) fun p hp => ⟨[some (.d (T a)), some (.d (T b)), some (.d (.int p.1)), some (.d (.int p.2))], by simp [pairIJ], rfl, .d (meetD p), by simp [meetD], rfl⟩
  unfold F_meetings runF m_meetings startE
  simp [check_ok h h2, c1, fin]
theorem sum_ok {a b : List Int} {m : Mem} (h : Good a) (h2 : Good b) : F_sum_of_waits [.d (T a), .d (T b)] m = .ok (.d (.int (dist a b))) m := by
  have c1 := mLC_all (it := mZip (mVar 0) (mVar 1)) (vs := [2, 3]) (g := gT [gN 2, gN 3]) (t := tYesT) (a := mB (mCons (mSub (mVar 2) (mVar 3)) (mNil)) (fD1 absD)) (rho := [some (.d (T a)), some (.d (T b)), none, none]) (m := m) (m0 := m) (a.zip b) pairIJ (fun p => .int (if p.1 - p.2 < 0 then -(p.1 - p.2) else p.1 - p.2))
    (by simp [zip_ints]) (by have := h.len; rw [List.length_zip]; omega) fun p hp => ⟨[some (.d (T a)), some (.d (T b)), some (.d (.int p.1)), some (.d (.int p.2))], by simp [pairIJ], rfl, .d (.int (if p.1 - p.2 < 0 then -(p.1 - p.2) else p.1 - p.2)), by simp, rfl⟩
  have c2 : sumD (.list ((a.zip b).map fun p => .int (if p.1 - p.2 < 0 then -(p.1 - p.2) else p.1 - p.2))) = some (.int (dist a b)) := by
    rw [← dist_sum, ← sum_ints, List.map_map]; rfl
  unfold F_sum_of_waits runF m_sum_of_waits startE
  simp [check_ok h h2, c1, c2, fin]
theorem wait_ok {a b : List Int} {m : Mem} {t : Int} (h : Good a) (h2 : Good b) (t0 : 0 ≤ t) (t1 : t ≤ 1000000) : F_waiting_at [.d (T a), .d (T b), .d (.int t)] m = .ok (.d (.int (cnt t a - cnt t b))) m := by
  have c1 := mLC_of (it := mItems (mVar 0)) (vs := [3]) (g := gN 3) (t := mBool (mOp2 (mVar 3) (mVar 2) (lift2 leD))) (a := mC (.int 1)) (rho := [some (.d (T a)), some (.d (T b)), some (.d (.int t)), none, none]) (m := m) (m0 := m) a PyData.int (fun x => decide (x ≤ t)) (fun _ => .int 1)
    (by simp) (by have := h.len; omega) fun x hx => ⟨[some (.d (T a)), some (.d (T b)), some (.d (.int t)), some (.d (.int x)), none], by simp, by simp, fun _ => ⟨.d (.int 1), rfl, rfl⟩⟩
  have c2 := mLC_of (it := mItems (mVar 1)) (vs := [4]) (g := gN 4) (t := mBool (mOp2 (mVar 4) (mVar 2) (lift2 leD))) (a := mC (.int 1)) (rho := [some (.d (T a)), some (.d (T b)), some (.d (.int t)), none, none]) (m := m) (m0 := m) b PyData.int (fun x => decide (x ≤ t)) (fun _ => .int 1)
    (by simp) (by have := h2.len; omega) fun x hx => ⟨[some (.d (T a)), some (.d (T b)), some (.d (.int t)), none, some (.d (.int x))], by simp, by simp, fun _ => ⟨.d (.int 1), rfl, rfl⟩⟩
  unfold F_waiting_at runF m_waiting_at startE
  simp [check_ok h h2, c1, c2, t0, t1, fin, cnt_len]
/-- an order: a row of places -/
structure Ord (n : Nat) (o : List Int) : Prop where
  perm : o.Perm ((List.range n).map fun (k : Nat) => (k : Int))
theorem Ord.rng {n : Nat} {o : List Int} (h : Ord n o) : ∀ k ∈ o, 0 ≤ k ∧ k < n := fun k hk => by
  have := h.perm.mem_iff.mp hk
  simp only [List.mem_map, List.mem_range] at this
  obtain ⟨j, hj, rfl⟩ := this
  omega
theorem range_srt (n : Nat) : ((List.range n).map fun (k : Nat) => (k : Int)).Pairwise (· ≤ ·) := by
  rw [List.pairwise_map]
  exact List.pairwise_lt_range.imp fun h => by omega
theorem tame_ints (o : List Int) (h : ∀ k ∈ o, 0 ≤ k ∧ k < 1000) : (o.map PyData.int).all (fun d => decide (d.depth ≤ 60) && !d.hasDict) = true := by
  rw [List.all_eq_true]
  intro d hd
  obtain ⟨k, _, rfl⟩ := List.mem_map.mp hd
  simp [PyData.depth, PyData.hasDict]
theorem sort_T (o : List Int) : sortD (T o) = some ((o.mergeSort leI).map .int) := by
  have h1 : alikeAllB (o.map PyData.int) = true := by
    unfold alikeAllB
    rw [List.all_eq_true]
    intro d hd
    rw [List.all_eq_true]
    intro d' hd'
    obtain ⟨k, _, rfl⟩ := List.mem_map.mp hd
    obtain ⟨k', _, rfl⟩ := List.mem_map.mp hd'
    simp [PySem.W.alike]
  have h2 : (o.map PyData.int).all plainB = true := by
    rw [List.all_eq_true]
    intro d hd
    obtain ⟨k, _, rfl⟩ := List.mem_map.mp hd
    rfl
  have h3 : (o.map PyData.int).all (fun d => decide (d.depth ≤ 60) && !d.hasDict) = true := by
    rw [List.all_eq_true]
    intro d hd
    obtain ⟨k, _, rfl⟩ := List.mem_map.mp hd
    simp [PyData.depth, PyData.hasDict]
  unfold sortD
  dsimp only
  rw [h1, h2, h3, sort_ints]
  simp
theorem sort_L (o : List Int) : sortD (.list (o.map .int)) = some ((o.mergeSort leI).map .int) := sort_T o
theorem rangeD_ints (n : Nat) : rangeD 0 (n : Int) = ((List.range n).map fun (k : Nat) => (k : Int)).map .int := by
  unfold rangeD
  rw [List.map_map]
  simp
theorem Ord.sort {n : Nat} {o : List Int} (h : Ord n o) : o.mergeSort leI = (List.range n).map fun (k : Nat) => (k : Int) :=
  sorted_eq (sorted_le o) (range_srt n) ((List.mergeSort_perm o leI).trans h.perm)
/-- the other stream in that order -/
def put (b : List Int) (o : List Int) : List Int := o.map fun k => b[k.toNat]?.getD 0
theorem put_sum (b : List Int) : ∀ (a o : List Int), ((a.zip o).map fun p => if p.1 - b[p.2.toNat]?.getD 0 < 0 then -(p.1 - b[p.2.toNat]?.getD 0) else p.1 - b[p.2.toNat]?.getD 0).sum = dist a (put b o)
  | [], _ => by simp [dist]
  | _ :: _, [] => by simp [dist, put]
  | x :: a, y :: o => by
    rw [List.zip_cons_cons, List.map_cons, List.sum_cons, put_sum b a o]
    rfl
theorem at_ints {b : List Int} {k : Int} (h0 : 0 ≤ k) (h1 : k < b.length) : atI (b.map PyData.int) k = some (.int (b[k.toNat]?.getD 0)) := by
  have hk : k.toNat < b.length := by omega
  unfold atI ixN
  rw [List.length_map, if_pos h0, if_pos h1]
  show (b.map PyData.int)[k.toNat]? = _
  rw [List.getElem?_map, List.getElem?_eq_getElem hk]; rfl
theorem rg_ok {n : Nat} (h : n ≤ 1000) : rgOk 0 (n : Int) = true := decide_eq_true (by omega)
theorem c5 {a b o : List Int} {m : Mem} : mB (mCons (mVar 2) (mNil)) (fN1 sortD) [some (.d (T a)), some (.d (T b)), some (.d (T o)), none, none] m = .ok (.n (.list ((o.mergeSort leI).map .int))) m := by
  rw [e_B, e_Cons, e_Var]
  show (Rs.ok [W.d (T o)] m).bind (fN1 sortD) = _
  rw [ev_bind, f_N1, peek_d]
  dsimp only
  rw [sort_T]
theorem c6 {a b o : List Int} {m : Mem} (h : a.length ≤ 100) : mLstRg (mRg1 (mB (mCons (mVar 0) (mNil)) (fD1 lenD))) [some (.d (T a)), some (.d (T b)), some (.d (T o)), none, none] m = .ok (.n (.list (rangeD 0 a.length))) m := by
  have c3 := rg_ok (n := a.length) (by omega)
  rw [e_LstRg, e_Rg1, e_B, e_Cons, e_Var]
  show (((Rs.ok [W.d (T a)] m).bind (fD1 lenD)).bindV _).bind _ = _
  rw [ev_bind, f_D1, peek_d]
  dsimp only
  rw [len_t]
  dsimp only
  rw [ev_bindV, val_d]
  dsimp only
  rw [ev_bind, ints_len, if_pos c3]
theorem pairing_test {a b o : List Int} {m : Mem} (h : Good a) : mBool (mOp2 (mB (mCons (mVar 2) (mNil)) (fN1 sortD)) (mLstRg (mRg1 (mB (mCons (mVar 0) (mNil)) (fD1 lenD)))) (lift2 neD)) [some (.d (T a)), some (.d (T b)), some (.d (T o)), none, none] m =
    .ok (!decide (o.mergeSort leI = (List.range a.length).map fun (k : Nat) => (k : Int))) m := by
  rw [e_Bool, e_Op2, c5, ev_bindV, c6 h.len, ev_bindV, f_lift2, val_n, val_n, peek_d, peek_d, rangeD_ints]
  dsimp only
  rw [ne_ints]
  rfl
theorem pairing_len {a b o : List Int} {m : Mem} : mBool (mOp2 (mB (mCons (mVar 0) (mNil)) (fD1 lenD)) (mB (mCons (mVar 1) (mNil)) (fD1 lenD)) (lift2 neD)) [some (.d (T a)), some (.d (T b)), some (.d (T o)), none, none] m = .ok (!((a.length : Int) == (b.length : Int))) m := by
  simp
theorem pairing_ok {a b o : List Int} {m : Mem} (h : Good a) (h2 : Good b) (hl : a.length = b.length) (ho : Ord a.length o) : F_pairing_waits [.d (T a), .d (T b), .d (T o)] m = .ok (.d (.int (dist a (put b o)))) m := by
  have c1 := mLC_all (it := mZip (mVar 0) (mVar 2)) (vs := [3, 4]) (g := gT [gN 3, gN 4]) (t := tYesT) (a := mB (mCons (mSub (mVar 3) (mIx (mVar 1) (mVar 4))) (mNil)) (fD1 absD)) (rho := [some (.d (T a)), some (.d (T b)), some (.d (T o)), none, none]) (m := m) (m0 := m) (a.zip o) pairIJ
    (fun p => .int (if p.1 - b[p.2.toNat]?.getD 0 < 0 then -(p.1 - b[p.2.toNat]?.getD 0) else p.1 - b[p.2.toNat]?.getD 0))
    (by simp [zip_ints]) (by have := h.len; rw [List.length_zip]; omega) fun p hp => ⟨[some (.d (T a)), some (.d (T b)), some (.d (T o)), some (.d (.int p.1)), some (.d (.int p.2))], by simp [pairIJ], rfl,
      .d (.int (if p.1 - b[p.2.toNat]?.getD 0 < 0 then -(p.1 - b[p.2.toNat]?.getD 0) else p.1 - b[p.2.toNat]?.getD 0)), by
        have q := ho.rng p.2 (List.of_mem_zip (a := p.1) (b := p.2) hp).2
        have e := at_ints (b := b) q.1 (by omega)
        simp [e], rfl⟩
  have c2 : sumD (.list ((a.zip o).map fun p => .int (if p.1 - b[p.2.toNat]?.getD 0 < 0 then -(p.1 - b[p.2.toNat]?.getD 0) else p.1 - b[p.2.toNat]?.getD 0))) = some (.int (dist a (put b o))) := by
    rw [← put_sum, ← sum_ints, List.map_map]; rfl
  have e1 : (!((a.length : Int) == (b.length : Int))) = false := by rw [hl]; simp
  have e2 : (!decide (o.mergeSort leI = (List.range a.length).map fun (k : Nat) => (k : Int))) = false := by rw [decide_eq_true ho.sort]; rfl
  have hc : mCall 2 F_check_streams (mCons (mVar 0) (mCons (mVar 1) (mNil))) [some (.d (T a)), some (.d (T b)), some (.d (T o)), none, none] m = .ok (.d .none) m := by simp [check_ok h h2]
  have hR : mB (mCons (mLC (mZip (mVar 0) (mVar 2)) [3, 4] (gT [gN 3, gN 4]) (tYesT) (mB (mCons (mSub (mVar 3) (mIx (mVar 1) (mVar 4))) (mNil)) (fD1 absD))) (mNil)) (fD1 sumD) [some (.d (T a)), some (.d (T b)), some (.d (T o)), none, none] m = .ok (.d (.int (dist a (put b o)))) m := by
    rw [e_B, e_Cons, c1, ev_bindV, e_Nil, ev_bind, ev_bind, val_n, f_D1, peek_d]
    dsimp only
    rw [c2]
  show (match m_pairing_waits [some (.d (T a)), some (.d (T b)), some (.d (T o)), none, none] m with | .nx _ m' => Rs.ok (W.d .none) (m'.take m.length) | .rt w m' => fin m.length m' w | .ex x _ m' => .ex x (m'.take m.length) | _ => .no) = _
  unfold m_pairing_waits
  rw [e_Seq, e_Drop, hc, ev_thenV]
  dsimp only
  rw [e_Seq, e_IfS, e_OrT, pairing_len, e1, ev_bind, if_neg Bool.false_ne_true, pairing_test h, e2, ev_thenS, if_neg Bool.false_ne_true, e_Skip]
  dsimp only
  rw [e_Seq, e_Ret, hR, ev_thenS]
  dsimp only [fin]
  rw [List.take_length]
theorem pairing_bad {a b o : List Int} {m : Mem} (h : Good a) (h2 : Good b) (hbad : a.length ≠ b.length ∨ o.mergeSort leI ≠ (List.range a.length).map fun (k : Nat) => (k : Int)) : F_pairing_waits [.d (T a), .d (T b), .d (T o)] m = .ex (.own "BadNumber") m := by
  have hc : mCall 2 F_check_streams (mCons (mVar 0) (mCons (mVar 1) (mNil))) [some (.d (T a)), some (.d (T b)), some (.d (T o)), none, none] m = .ok (.d .none) m := by simp [check_ok h h2]
  have hT : mOrT (mBool (mOp2 (mB (mCons (mVar 0) (mNil)) (fD1 lenD)) (mB (mCons (mVar 1) (mNil)) (fD1 lenD)) (lift2 neD))) (mBool (mOp2 (mB (mCons (mVar 2) (mNil)) (fN1 sortD)) (mLstRg (mRg1 (mB (mCons (mVar 0) (mNil)) (fD1 lenD)))) (lift2 neD))) [some (.d (T a)), some (.d (T b)), some (.d (T o)), none, none] m = .ok true m := by
    rw [e_OrT, pairing_len, ev_bind]
    by_cases hl : a.length = b.length
    · have e1 : (!((a.length : Int) == (b.length : Int))) = false := by rw [hl]; simp
      rw [e1, if_neg Bool.false_ne_true, pairing_test h, decide_eq_false (hbad.resolve_left fun z => z hl)]
      rfl
    · have e1 : (!((a.length : Int) == (b.length : Int))) = true := by
        rw [beq_eq_false_iff_ne.mpr (fun z => hl (by omega))]; rfl
      rw [e1, if_pos rfl]
  show (match m_pairing_waits [some (.d (T a)), some (.d (T b)), some (.d (T o)), none, none] m with | .nx _ m' => Rs.ok (W.d .none) (m'.take m.length) | .rt w m' => fin m.length m' w | .ex x _ m' => .ex x (m'.take m.length) | _ => .no) = _
  unfold m_pairing_waits
  rw [e_Seq, e_Drop, hc, ev_thenV]
  dsimp only
  rw [e_Seq, e_IfS, hT, ev_thenS, if_pos rfl, e_Seq, e_Raise]
  dsimp only
  rw [List.take_length]
theorem wait_bad {a b : List Int} {m : Mem} {t : Int} (h : Good a) (h2 : Good b) (ht : ¬ (0 ≤ t ∧ t ≤ 1000000)) : F_waiting_at [.d (T a), .d (T b), .d (.int t)] m = .ex (.own "BadNumber") m := by
  unfold F_waiting_at runF m_waiting_at startE
  by_cases t0 : 0 ≤ t
  · have t1 : ¬ t ≤ 1000000 := fun z => ht ⟨t0, z⟩
    simp [check_ok h h2, t0, t1]
  · simp [check_ok h h2, t0]
/-! ### streams that are none -/
def BadS (x : D) : Prop := ∀ m : Mem, F_are_times [.d x] m = .ok (.d (.bool false)) m
theorem check_bad1 {x y : D} {m : Mem} (h : BadS x) : F_check_streams [.d x, .d y] m = .ex (.own "NotTrace") m := by
  unfold F_check_streams runF m_check_streams startE
  simp [h m]
theorem check_bad2 {a : List Int} {y : D} {m : Mem} (h : Good a) (h2 : BadS y) : F_check_streams [.d (T a), .d y] m = .ex (.own "NotTrace") m := by
  unfold F_check_streams runF m_check_streams startE
  simp [are_ok h, h2 m]
theorem asked_bad {x y z : D} {m : Mem} (h : ∀ m, F_check_streams [.d x, .d y] m = .ex (.own "NotTrace") m) {w : Int} (h0 : 0 ≤ w) (h1 : w < 4) : F__law_asked [.d (.int w), .d x, .d y, .d z] m = .ok (.d (.str "!trace")) m := by
  have hw : w = 0 ∨ w = 1 ∨ w = 2 ∨ w = 3 := by omega
  have k : kindF = kindTab := rfl
  unfold F__law_asked runF m__law_asked startE
  rcases hw with rfl | rfl | rfl | rfl
  · have e : F_meetings [.d x, .d y] m = .ex (.own "NotTrace") m := by unfold F_meetings runF m_meetings startE; simp [h]
    simp [e, k, fin]
  · have e : F_sum_of_waits [.d x, .d y] m = .ex (.own "NotTrace") m := by unfold F_sum_of_waits runF m_sum_of_waits startE; simp [h]
    simp [e, k, fin]
  · have e : F_waiting_at [.d x, .d y, .d z] m = .ex (.own "NotTrace") m := by unfold F_waiting_at runF m_waiting_at startE; simp [h]
    simp [e, k, fin]
  · have e : F_pairing_waits [.d x, .d y, .d z] m = .ex (.own "NotTrace") m := by unfold F_pairing_waits runF m_pairing_waits startE; simp [h]
    simp [e, k, fin]
theorem asked0 {a b : List Int} {z : D} {m : Mem} (h : Good a) (h2 : Good b) : F__law_asked [.d (.int 0), .d (T a), .d (T b), .d z] m = .ok (.d (.tuple ((a.zip b).map meetD))) m := by
  unfold F__law_asked runF m__law_asked startE
  simp [meetings_ok h h2, fin]
theorem asked1 {a b : List Int} {z : D} {m : Mem} (h : Good a) (h2 : Good b) : F__law_asked [.d (.int 1), .d (T a), .d (T b), .d z] m = .ok (.d (.int (dist a b))) m := by
  unfold F__law_asked runF m__law_asked startE
  simp [sum_ok h h2, fin]
theorem asked2 {a b : List Int} {t : Int} {m : Mem} (h : Good a) (h2 : Good b) (t0 : 0 ≤ t) (t1 : t ≤ 1000000) : F__law_asked [.d (.int 2), .d (T a), .d (T b), .d (.int t)] m = .ok (.d (.int (cnt t a - cnt t b))) m := by
  unfold F__law_asked runF m__law_asked startE
  simp [wait_ok h h2 t0 t1, fin]
theorem asked2_bad {a b : List Int} {t : Int} {m : Mem} (h : Good a) (h2 : Good b) (ht : ¬ (0 ≤ t ∧ t ≤ 1000000)) : F__law_asked [.d (.int 2), .d (T a), .d (T b), .d (.int t)] m = .ok (.d (.str "!number")) m := by
  have k : kindF = kindTab := rfl
  unfold F__law_asked runF m__law_asked startE
  simp [wait_bad h h2 ht, k, fin]
theorem asked3_bad {a b o : List Int} {m : Mem} (h : Good a) (h2 : Good b) (hbad : a.length ≠ b.length ∨ o.mergeSort leI ≠ (List.range a.length).map fun (k : Nat) => (k : Int)) : F__law_asked [.d (.int 3), .d (T a), .d (T b), .d (T o)] m = .ok (.d (.str "!number")) m := by
  have k : kindF = kindTab := rfl
  unfold F__law_asked runF m__law_asked startE
  simp [pairing_bad h h2 hbad, k, fin]
/-! the four that the law tells -/
theorem bad_1 : BadS (.tuple [.int 2, .int 1]) := fun m => by
  have e : F_are_times [.d (.tuple [.int 2, .int 1])] m = .ok (.d (.bool false)) (m.take m.length) := by kernel_rfl
  rw [e, List.take_length]
theorem bad_2 : BadS (.tuple [.int (-1)]) := fun m => by
  have e : F_are_times [.d (.tuple [.int (-1)])] m = .ok (.d (.bool false)) (m.take m.length) := by kernel_rfl
  rw [e, List.take_length]
theorem bad_3 : BadS (.tuple [.int 1000001]) := fun m => by
  have e : F_are_times [.d (.tuple [.int 1000001])] m = .ok (.d (.bool false)) (m.take m.length) := by kernel_rfl
  rw [e, List.take_length]
theorem bad_4 : BadS (.tuple (List.replicate 101 (.int 0))) := fun m => by
  have e : F_are_times [.d (.tuple (List.replicate 101 (.int 0)))] m = .ok (.d (.bool false)) (m.take m.length) := by kernel_rfl
  rw [e, List.take_length]
end Law
namespace Law
open PySem PySem.Spec PyProof.Rows L2 Den Meet
theorem stream_ok {b n : Nat} {m : Mem} {k long : Int} (h : Dr b n m) (k0 : 0 ≤ k) (k1 : k ≤ 6) (hl : 0 < long) : ∃ (a : List Int) (m' : Mem), F__law_stream [.r n, .d (.int k), .d (.int long)] m = .ok (.d (T a)) m' ∧ a.Pairwise (· ≤ ·) ∧ (∀ x ∈ a, 0 ≤ x ∧ x < long) ∧ (a.length : Int) = k ∧ Dr b n m' ∧ m'.length = m.length := by
  have hr : mRange1 (mVar 1) [some (.r n), some (.d (.int k)), some (.d (.int long)), none] m = .ok (rangeD 0 k) m := range1_ok (by simp) k0 (by omega)
  obtain ⟨acc, m', e, es, rfl, e1, e2, e3, e4⟩ := mLC_inv (vs := [3]) (g := gN 3) (t := tYesT) (a := mMod (mB (mCons (mCall 1 F__law_next (mCons (mVar 0) (mNil))) (mNil)) (fD1 intD)) (mVar 2)) (rho := [some (.r n), some (.d (.int k)), some (.d (.int long)), none])
    (fun i m1 acc => ∃ es : List Int, acc = es.map .int ∧ es.length = i ∧ (∀ x ∈ es, 0 ≤ x ∧ x < long) ∧ Dr b n m1 ∧ m1.length = m.length) hr (by rw [range_len]; omega) ⟨[], rfl, rfl, by simp, h, rfl⟩ fun i hi m1 acc hI => by
      obtain ⟨es, rfl, q1, q2, q3, q4⟩ := hI
      obtain ⟨v, m2, z1, z2, z3, z4, z5, _⟩ := next_ok q3
      have r0 := Int.emod_nonneg v (Int.ne_of_gt hl)
      have r1 := Int.emod_lt_of_pos v hl
      refine ⟨_, true, m1, rfl, rfl, (fun z => by cases z), fun _ => ⟨.d (.int (v % long)), m2, .int (v % long), m2, ?_, rfl, es ++ [v % long], by simp, by simp [q1], fun x hx => ?_, z4, by omega⟩⟩
      · simp [z1, mod_pos hl]
      · rcases List.mem_append.mp hx with hx | hx
        · exact q2 x hx
        · rw [List.mem_singleton] at hx; subst hx; exact ⟨r0, r1⟩
  have hc : mLC (mRange1 (mVar 1)) [3] (gN 3) tYesT (mMod (mB (mCons (mCall 1 F__law_next (mCons (mVar 0) (mNil))) (mNil)) (fD1 intD)) (mVar 2)) [some (.r n), some (.d (.int k)), some (.d (.int long)), none] m = .ok (.n (.list (es.map .int))) m' := e
  refine ⟨es.mergeSort leI, m', ?_, sorted_le es, fun x hx => e2 x (List.mem_mergeSort.mp hx), by rw [List.length_mergeSort, e1, range_len]; omega, e3, e4⟩
  have tk : m'.take m.length = m' := List.take_of_length_le (by omega)
  show (match m__law_stream [some (.r n), some (.d (.int k)), some (.d (.int long)), none] m with | .nx _ m' => Rs.ok (W.d .none) (m'.take m.length) | .rt w m' => fin m.length m' w | .ex x _ m' => .ex x (m'.take m.length) | _ => .no) = _
  unfold m__law_stream
  rw [e_Seq, e_Ret, e_B, e_Cons, e_B, e_Cons, hc, ev_bindV, e_Nil, ev_bind, ev_bind, val_n, f_N1, peek_d]
  dsimp only
  rw [sort_L]
  dsimp only
  rw [ev_bindV, e_Nil, ev_bind, ev_bind, val_n, f_Tup, peek_d]
  dsimp only
  rw [ev_thenS]
  dsimp only [fin]
  rw [tk]
/-! ### all orders -/
def ordL (n : Nat) : List (List Int) := (List.range n).foldl (fun found _ => found.flatMap fun told => ((List.range n).filter fun (p : Nat) => !(told.any fun z => z == (p : Int))).map fun (p : Nat) => told ++ [(p : Int)]) [[]]
theorem orders_k (x y : Option D) : F__law_orders [.d (.int 0)] [x, y] = .ok (.d (.list ((ordL 0).map T))) [x, y] ∧ F__law_orders [.d (.int 1)] [x, y] = .ok (.d (.list ((ordL 1).map T))) [x, y] ∧ F__law_orders [.d (.int 2)] [x, y] = .ok (.d (.list ((ordL 2).map T))) [x, y] ∧
    F__law_orders [.d (.int 3)] [x, y] = .ok (.d (.list ((ordL 3).map T))) [x, y] ∧ F__law_orders [.d (.int 4)] [x, y] = .ok (.d (.list ((ordL 4).map T))) [x, y] ∧ F__law_orders [.d (.int 5)] [x, y] = .ok (.d (.list ((ordL 5).map T))) [x, y] :=
  ⟨by kernel_rfl, by kernel_rfl, by kernel_rfl, by kernel_rfl, by kernel_rfl, by kernel_rfl⟩
theorem orders_p : (List.range 6).all (fun n => (ordL n).all fun o => o.isPerm ((List.range n).map fun (k : Nat) => (k : Int))) = true := by decide +kernel
theorem orders_ok {n : Nat} (h : n ≤ 5) {m : Mem} (hm : m.length = 2) : F__law_orders [.d (.int (n : Nat))] m = .ok (.d (.list ((ordL n).map T))) m ∧ (∀ o ∈ ordL n, Ord n o) := by
  refine ⟨?_, fun o ho => ?_⟩
  · match m, hm with
    | [x, y], _ =>
      obtain ⟨k0, k1, k2, k3, k4, k5⟩ := orders_k x y
      have hn : n = 0 ∨ n = 1 ∨ n = 2 ∨ n = 3 ∨ n = 4 ∨ n = 5 := by omega
      rcases hn with rfl | rfl | rfl | rfl | rfl | rfl
      · exact k0
      · exact k1
      · exact k2
      · exact k3
      · exact k4
      · exact k5
  · have q := List.all_eq_true.mp orders_p n (List.mem_range.mpr (by omega))
    exact ⟨List.isPerm_iff.mp (List.all_eq_true.mp q o ho)⟩
end Law
namespace Law
open PySem PySem.Spec PyProof.Rows L2 Den Meet
def Fine (o : Out) : Prop := ∃ m, o = .rt (.d (.bool true)) m
theorem seq_step {c d : SM} {rho rho' : Den.Env} {m m' : Mem} (h : c rho m = .nx rho' m') (h2 : Fine (d rho' m')) : Fine (sSeq c d rho m) := by
  rw [e_Seq, h]; exact h2
theorem range_zip (a b : List Int) (n : Nat) (hn : n = min a.length b.length) : (List.range n).map (fun (k : Nat) => meetD (a[k]?.getD 0, b[k]?.getD 0)) = (a.zip b).map meetD := by
  apply List.ext_getElem
  · rw [List.length_map, List.length_range, List.length_map, List.length_zip, hn]
  · intro i h1 h2
    rw [List.length_map, List.length_range] at h1
    have ha : i < a.length := by omega
    have hb : i < b.length := by omega
    simp [ha, hb]
theorem due_sum : ∀ (a b : List Int), ((a.zip b).map fun p => if p.2 - p.1 < 0 then -(p.2 - p.1) else p.2 - p.1).sum = dist a b
  | [], _ => by simp [dist]
  | _ :: _, [] => by simp [dist]
  | x :: a, y :: b => by
    rw [List.zip_cons_cons, List.map_cons, List.sum_cons, due_sum a b]
    show (if y - x < 0 then -(y - x) else y - x) + dist a b = ab (x - y) + dist a b
    unfold ab; split <;> split <;> omega
theorem sumT_range (g : Int → Int) : ∀ n : Nat, ((List.range n).map fun (k : Nat) => if g k < 0 then -(g k) else g k).sum = sumT (fun t => ab (g t)) n
  | 0 => rfl
  | n + 1 => by
    rw [List.range_succ, List.map_append, List.sum_append, sumT_range g n]
    show _ + ((if g n < 0 then -(g n) else g n) + 0) = sumT (fun t => ab (g t)) n + ab (g n)
    unfold ab; omega
theorem told_sum (b : List Int) : ∀ (a o : List Int) (n : Nat), n = a.length → o.length = n → ((List.range n).map fun (k : Nat) => if a[k]?.getD 0 - b[(o[k]?.getD 0).toNat]?.getD 0 < 0 then -(a[k]?.getD 0 - b[(o[k]?.getD 0).toNat]?.getD 0) else a[k]?.getD 0 - b[(o[k]?.getD 0).toNat]?.getD 0).sum = dist a (put b o) := by
  intro a o n hn ho
  rw [← put_sum]
  congr 1
  apply List.ext_getElem
  · rw [List.length_map, List.length_range, List.length_map, List.length_zip]; omega
  · intro i h1 h2
    rw [List.length_map, List.length_range] at h1
    have ha : i < a.length := by omega
    have hb : i < o.length := by omega
    simp [ha, hb]
theorem put_perm {n : Nat} {b o : List Int} (hb : b.length = n) (h : Ord n o) : (put b o).Perm b := by
  have e : put b ((List.range n).map fun (k : Nat) => (k : Int)) = b := by
    unfold put
    apply List.ext_getElem
    · simp [hb]
    · intro i h1 h2
      simp [h2]
  have p : (put b o).Perm (put b ((List.range n).map fun (k : Nat) => (k : Int))) := h.perm.map _
  rw [e] at p
  exact p
theorem good_small {a : List Int} {long : Int} (h1 : a.Pairwise (· ≤ ·)) (h2 : ∀ x ∈ a, 0 ≤ x ∧ x < long) (h3 : a.length ≤ 100) (hl : long ≤ 30) : Good a := ⟨h3, fun x hx => ⟨(h2 x hx).1, by have := (h2 x hx).2; omega⟩, h1⟩
theorem repr_row {due : List (Int × Int)} {x y : Int} (h : due.length ≤ 100) (hd : ∀ p ∈ due, p.1.natAbs < 10 ^ 20 ∧ p.2.natAbs < 10 ^ 20) (hx : x.natAbs < 10 ^ 20) (hy : y.natAbs < 10 ^ 20) : ∃ s, reprD (.list [.tuple (due.map meetD), .int x, .int y]) = some (.str s) := by
  have tm : ∀ p ∈ due, tame (meetD p) = true := fun p hp => by
    have := hd p hp
    unfold meetD
    simp only [tame, tames, Bool.and_true, Bool.and_eq_true, decide_eq_true_eq]
    refine ⟨?_, by omega⟩
    split <;> omega
  have t1 := tames_map due meetD tm
  have d1 := depthAll_map due meetD 1 fun p _ => by simp [meetD, PyData.depth, PyData.depthAll]
  have s1 := rszs_map due meetD 100 fun p _ => by simp [meetD, rsz, rszs]
  refine ⟨_, repr_tame ?_ ?_ ?_⟩
  · simp only [tame, tames, t1, Bool.and_true, Bool.true_and, Bool.and_eq_true, decide_eq_true_eq]
    omega
  · simp only [PyData.depth, PyData.depthAll]
    omega
  · simp only [rsz, rszs]
    omega
theorem seq_stepE {c d : SM} {rho : Den.Env} {m : Mem} (P : Den.Env → Mem → Prop) (h : ∃ rho' m', c rho m = .nx rho' m' ∧ P rho' m') (h2 : ∀ rho' m', P rho' m' → Fine (d rho' m')) : Fine (sSeq c d rho m) := by
  obtain ⟨rho', m', h, hp⟩ := h
  exact seq_step h (h2 _ _ hp)
theorem at_nat {b : List Int} {k : Nat} (h : k < b.length) : atI (b.map PyData.int) (k : Int) = some (.int (b[k]?.getD 0)) := by
  have e := at_ints (b := b) (k := (k : Int)) (by omega) (by omega)
  rw [Int.toNat_natCast] at e
  exact e
theorem range_hit {a : EM W} {rho : Den.Env} {m : Mem} {n : Nat} (h : a rho m = .ok (.d (.int (n : Int))) m) (hn : n ≤ 1000) : mRange1 a rho m = .ok ((List.range n).map fun (k : Nat) => .int (k : Int)) m := by
  rw [range1_ok h (by omega) (by omega)]
  simp [rangeD]
@[simp] theorem mod_6 {i : Int} : modD i 6 = some (.int (i % 6)) := mod_pos (by decide)
@[simp] theorem mod_3 {i : Int} : modD i 3 = some (.int (i % 3)) := mod_pos (by decide)
def m_rest7 : SM := sSeq (sSet 8 (mB (mCons (mLC (mItems (mVar 6)) [9, 10] (gT [gN 9, gN 10]) (tYesT) (mB (mCons (mVar 10) (mNil)) (fD1 absD))) (mNil)) (fD1 sumD))) (sSeq (sSet 9 (mMod (mB (mCons (mCall 1 F__law_next (mCons (mVar 1) (mNil))) (mNil)) (fD1 intD)) (mAdd (mVar 2) (mC (.int 3))))) (sSeq (sSet 11 (mSub (mB (mCons (mLC (mItems (mVar 3)) [12] (gN 12) (mBool (mOp2 (mVar 12) (mVar 9) (lift2 leD))) (mVar 12)) (mNil)) (fD1 lenD)) (mB (mCons (mLC (mItems (mVar 4)) [13] (gN 13) (mBool (mOp2 (mVar 13) (mVar 9) (lift2 leD))) (mVar 13)) (mNil)) (fD1 lenD)))) (sSeq (sIf (mBool (mOp2 (mB (mCons (mLst (mCons (mCall 4 F__law_asked (mCons (mC (.int 0)) (mCons (mVar 3) (mCons (mVar 4) (mCons (mC .none) (mNil)))))) (mCons (mCall 4 F__law_asked (mCons (mC (.int 1)) (mCons (mVar 3) (mCons (mVar 4) (mCons (mC .none) (mNil)))))) (mCons (mCall 4 F__law_asked (mCons (mC (.int 2)) (mCons (mVar 3) (mCons (mVar 4) (mCons (mVar 9) (mNil)))))) (mNil))))) (mNil)) (fD1 reprD)) (mB (mCons (mLst (mCons (mVar 6) (mCons (mVar 8) (mCons (mVar 11) (mNil))))) (mNil)) (fD1 reprD)) (lift2 neD))) (sSeq (sRet (mC (.bool false))) (sSkip)) (sSkip)) (sSeq (sIf (mBool (mOp2 (mB (mCons (mVar 3) (mNil)) (fD1 lenD)) (mB (mCons (mVar 4) (mNil)) (fD1 lenD)) (lift2 eqD))) (sSeq (sIf (mBool (mOp2 (mB (mCons (mLC (mRange1 (mVar 2)) [14] (gN 14) (tYesT) (mB (mCons (mCall 3 F_waiting_at (mCons (mVar 3) (mCons (mVar 4) (mCons (mVar 14) (mNil))))) (mNil)) (fD1 absD))) (mNil)) (fD1 sumD)) (mVar 8) (lift2 neD))) (sSeq (sRet (mC (.bool false))) (sSkip)) (sSkip)) (sSeq (sFor (mItems (mCall 1 F__law_orders (mCons (mB (mCons (mVar 3) (mNil)) (fD1 lenD)) (mNil)))) (gN 15) (sSeq (sSet 16 (mB (mCons (mLC (mRange1 (mB (mCons (mVar 3) (mNil)) (fD1 lenD))) [7] (gN 7) (tYesT) (mB (mCons (mSub (mIx (mVar 3) (mVar 7)) (mIx (mVar 4) (mIx (mVar 15) (mVar 7)))) (mNil)) (fD1 absD))) (mNil)) (fD1 sumD))) (sSeq (sIf (mOrT (mBool (mOp2 (mVar 16) (mVar 8) (lift2 ltD))) (mBool (mOp2 (mCall 3 F_pairing_waits (mCons (mVar 3) (mCons (mVar 4) (mCons (mVar 15) (mNil))))) (mVar 16) (lift2 neD)))) (sSeq (sRet (mC (.bool false))) (sSkip)) (sSkip)) (sSkip)))) (sSeq (sSet 17 (mLst (mCons (mB (mCons (mLstRg (mRg2 (mC (.int 1)) (mAdd (mB (mCons (mVar 3) (mNil)) (fD1 lenD)) (mC (.int 1))))) (mNil)) fTup) (mCons (mMul (mTup (mCons (mC (.int 0)) (mNil))) (mAdd (mB (mCons (mVar 3) (mNil)) (fD1 lenD)) (mC (.int 1)))) (mCons (mB (mCons (mLstRg (mRg1 (mAdd (mB (mCons (mVar 3) (mNil)) (fD1 lenD)) (mC (.int 1))))) (mNil)) fTup) (mNil)))))) (sSeq (sIf (mBool (mOp2 (mLC (mItems (mSl (mVar 17) (oSome (mB (mCons (mOp2 (mB (mCons (mVar 3) (mNil)) (fD1 lenD)) (mC (.int 0)) (lift2 eqD)) (mNil)) (fD1 intD))) (oNone))) [15] (gN 15) (tYesT) (mCall 4 F__law_asked (mCons (mC (.int 3)) (mCons (mVar 3) (mCons (mVar 4) (mCons (mVar 15) (mNil))))))) (mMul (mLst (mCons (mC (.str "!number")) (mNil))) (mSub (mC (.int 3)) (mB (mCons (mOp2 (mB (mCons (mVar 3) (mNil)) (fD1 lenD)) (mC (.int 0)) (lift2 eqD)) (mNil)) (fD1 intD)))) (lift2 neD))) (sSeq (sRet (mC (.bool false))) (sSkip)) (sSkip)) (sSkip))))) (sSeq (sIf (mBool (mOp2 (mCall 4 F__law_asked (mCons (mC (.int 3)) (mCons (mVar 3) (mCons (mVar 4) (mCons (mB (mCons (mLstRg (mRg1 (mB (mCons (mVar 3) (mNil)) (fD1 lenD)))) (mNil)) fTup) (mNil)))))) (mC (.str "!number")) (lift2 neD))) (sSeq (sRet (mC (.bool false))) (sSkip)) (sSkip)) (sSkip))) (sSeq (sIf (mBool (mOp2 (mB (mCons (mLst (mCons (mCall 2 F_meetings (mCons (mTup (mCons (mC (.int 1)) (mCons (mC (.int 4)) (mNil)))) (mCons (mTup (mCons (mC (.int 2)) (mCons (mC (.int 3)) (mNil)))) (mNil)))) (mCons (mCall 2 F_sum_of_waits (mCons (mTup (mCons (mC (.int 1)) (mCons (mC (.int 4)) (mNil)))) (mCons (mTup (mCons (mC (.int 2)) (mCons (mC (.int 3)) (mNil)))) (mNil)))) (mCons (mCall 3 F_waiting_at (mCons (mTup (mCons (mC (.int 1)) (mCons (mC (.int 4)) (mNil)))) (mCons (mTup (mCons (mC (.int 2)) (mCons (mC (.int 3)) (mNil)))) (mCons (mC (.int 1)) (mNil))))) (mCons (mCall 3 F_waiting_at (mCons (mTup (mNil)) (mCons (mTup (mCons (mC (.int 2)) (mCons (mC (.int 3)) (mNil)))) (mCons (mC (.int 3)) (mNil))))) (mNil)))))) (mNil)) (fD1 reprD)) (mB (mCons (mLst (mCons (mTup (mCons (mTup (mCons (mC (.int 2)) (mCons (mC (.int 1)) (mNil)))) (mCons (mTup (mCons (mC (.int 4)) (mCons (mNeg (mC (.int 1))) (mNil)))) (mNil)))) (mCons (mC (.int 2)) (mCons (mC (.int 1)) (mCons (mNeg (mC (.int 2))) (mNil)))))) (mNil)) (fD1 reprD)) (lift2 neD))) (sSeq (sRet (mC (.bool false))) (sSkip)) (sSkip)) (sSeq (sSet 18 (mCall 2 F__law_pick (mCons (mVar 1) (mCons (mLst (mCons (mTup (mCons (mC (.int 2)) (mCons (mC (.int 1)) (mNil)))) (mCons (mTup (mCons (mNeg (mC (.int 1))) (mNil))) (mCons (mTup (mCons (mC (.int 1000001)) (mNil))) (mCons (mMul (mTup (mCons (mC (.int 0)) (mNil))) (mC (.int 101))) (mNil)))))) (mNil))))) (sSeq (sSet 16 (mCall 1 F__law_flat (mCons (mLC (mRange1 (mC (.int 4))) [19] (gN 19) (tYesT) (mLst (mCons (mCall 4 F__law_asked (mCons (mVar 19) (mCons (mVar 18) (mCons (mVar 3) (mCons (mIf (mBool (mOp2 (mVar 19) (mC (.int 2)) (lift2 eqD))) (mNeg (mC (.int 1))) (mTup (mCons (mC (.int 5)) (mCons (mC (.int 5)) (mNil))))) (mNil)))))) (mCons (mCall 4 F__law_asked (mCons (mVar 19) (mCons (mVar 3) (mCons (mVar 18) (mCons (mIf (mBool (mOp2 (mVar 19) (mC (.int 2)) (lift2 eqD))) (mNeg (mC (.int 1))) (mTup (mCons (mC (.int 5)) (mCons (mC (.int 5)) (mNil))))) (mNil)))))) (mNil))))) (mNil)))) (sSeq (sRet (mAndV (mOp2 (mVar 16) (mMul (mLst (mCons (mC (.str "!trace")) (mNil))) (mC (.int 8))) (lift2 eqD)) (mOp2 (mLC (mItems (mLst (mCons (mNeg (mC (.int 1))) (mCons (mC (.int 1000001)) (mNil))))) [14] (gN 14) (tYesT) (mCall 4 F__law_asked (mCons (mC (.int 2)) (mCons (mVar 3) (mCons (mVar 4) (mCons (mVar 14) (mNil))))))) (mMul (mLst (mCons (mC (.str "!number")) (mNil))) (mC (.int 2))) (lift2 eqD)))) (sSkip)))))))))
def m_rest10 : SM := sSeq (sIf (mBool (mOp2 (mB (mCons (mLst (mCons (mCall 4 F__law_asked (mCons (mC (.int 0)) (mCons (mVar 3) (mCons (mVar 4) (mCons (mC .none) (mNil)))))) (mCons (mCall 4 F__law_asked (mCons (mC (.int 1)) (mCons (mVar 3) (mCons (mVar 4) (mCons (mC .none) (mNil)))))) (mCons (mCall 4 F__law_asked (mCons (mC (.int 2)) (mCons (mVar 3) (mCons (mVar 4) (mCons (mVar 9) (mNil)))))) (mNil))))) (mNil)) (fD1 reprD)) (mB (mCons (mLst (mCons (mVar 6) (mCons (mVar 8) (mCons (mVar 11) (mNil))))) (mNil)) (fD1 reprD)) (lift2 neD))) (sSeq (sRet (mC (.bool false))) (sSkip)) (sSkip)) (sSeq (sIf (mBool (mOp2 (mB (mCons (mVar 3) (mNil)) (fD1 lenD)) (mB (mCons (mVar 4) (mNil)) (fD1 lenD)) (lift2 eqD))) (sSeq (sIf (mBool (mOp2 (mB (mCons (mLC (mRange1 (mVar 2)) [14] (gN 14) (tYesT) (mB (mCons (mCall 3 F_waiting_at (mCons (mVar 3) (mCons (mVar 4) (mCons (mVar 14) (mNil))))) (mNil)) (fD1 absD))) (mNil)) (fD1 sumD)) (mVar 8) (lift2 neD))) (sSeq (sRet (mC (.bool false))) (sSkip)) (sSkip)) (sSeq (sFor (mItems (mCall 1 F__law_orders (mCons (mB (mCons (mVar 3) (mNil)) (fD1 lenD)) (mNil)))) (gN 15) (sSeq (sSet 16 (mB (mCons (mLC (mRange1 (mB (mCons (mVar 3) (mNil)) (fD1 lenD))) [7] (gN 7) (tYesT) (mB (mCons (mSub (mIx (mVar 3) (mVar 7)) (mIx (mVar 4) (mIx (mVar 15) (mVar 7)))) (mNil)) (fD1 absD))) (mNil)) (fD1 sumD))) (sSeq (sIf (mOrT (mBool (mOp2 (mVar 16) (mVar 8) (lift2 ltD))) (mBool (mOp2 (mCall 3 F_pairing_waits (mCons (mVar 3) (mCons (mVar 4) (mCons (mVar 15) (mNil))))) (mVar 16) (lift2 neD)))) (sSeq (sRet (mC (.bool false))) (sSkip)) (sSkip)) (sSkip)))) (sSeq (sSet 17 (mLst (mCons (mB (mCons (mLstRg (mRg2 (mC (.int 1)) (mAdd (mB (mCons (mVar 3) (mNil)) (fD1 lenD)) (mC (.int 1))))) (mNil)) fTup) (mCons (mMul (mTup (mCons (mC (.int 0)) (mNil))) (mAdd (mB (mCons (mVar 3) (mNil)) (fD1 lenD)) (mC (.int 1)))) (mCons (mB (mCons (mLstRg (mRg1 (mAdd (mB (mCons (mVar 3) (mNil)) (fD1 lenD)) (mC (.int 1))))) (mNil)) fTup) (mNil)))))) (sSeq (sIf (mBool (mOp2 (mLC (mItems (mSl (mVar 17) (oSome (mB (mCons (mOp2 (mB (mCons (mVar 3) (mNil)) (fD1 lenD)) (mC (.int 0)) (lift2 eqD)) (mNil)) (fD1 intD))) (oNone))) [15] (gN 15) (tYesT) (mCall 4 F__law_asked (mCons (mC (.int 3)) (mCons (mVar 3) (mCons (mVar 4) (mCons (mVar 15) (mNil))))))) (mMul (mLst (mCons (mC (.str "!number")) (mNil))) (mSub (mC (.int 3)) (mB (mCons (mOp2 (mB (mCons (mVar 3) (mNil)) (fD1 lenD)) (mC (.int 0)) (lift2 eqD)) (mNil)) (fD1 intD)))) (lift2 neD))) (sSeq (sRet (mC (.bool false))) (sSkip)) (sSkip)) (sSkip))))) (sSeq (sIf (mBool (mOp2 (mCall 4 F__law_asked (mCons (mC (.int 3)) (mCons (mVar 3) (mCons (mVar 4) (mCons (mB (mCons (mLstRg (mRg1 (mB (mCons (mVar 3) (mNil)) (fD1 lenD)))) (mNil)) fTup) (mNil)))))) (mC (.str "!number")) (lift2 neD))) (sSeq (sRet (mC (.bool false))) (sSkip)) (sSkip)) (sSkip))) (sSeq (sIf (mBool (mOp2 (mB (mCons (mLst (mCons (mCall 2 F_meetings (mCons (mTup (mCons (mC (.int 1)) (mCons (mC (.int 4)) (mNil)))) (mCons (mTup (mCons (mC (.int 2)) (mCons (mC (.int 3)) (mNil)))) (mNil)))) (mCons (mCall 2 F_sum_of_waits (mCons (mTup (mCons (mC (.int 1)) (mCons (mC (.int 4)) (mNil)))) (mCons (mTup (mCons (mC (.int 2)) (mCons (mC (.int 3)) (mNil)))) (mNil)))) (mCons (mCall 3 F_waiting_at (mCons (mTup (mCons (mC (.int 1)) (mCons (mC (.int 4)) (mNil)))) (mCons (mTup (mCons (mC (.int 2)) (mCons (mC (.int 3)) (mNil)))) (mCons (mC (.int 1)) (mNil))))) (mCons (mCall 3 F_waiting_at (mCons (mTup (mNil)) (mCons (mTup (mCons (mC (.int 2)) (mCons (mC (.int 3)) (mNil)))) (mCons (mC (.int 3)) (mNil))))) (mNil)))))) (mNil)) (fD1 reprD)) (mB (mCons (mLst (mCons (mTup (mCons (mTup (mCons (mC (.int 2)) (mCons (mC (.int 1)) (mNil)))) (mCons (mTup (mCons (mC (.int 4)) (mCons (mNeg (mC (.int 1))) (mNil)))) (mNil)))) (mCons (mC (.int 2)) (mCons (mC (.int 1)) (mCons (mNeg (mC (.int 2))) (mNil)))))) (mNil)) (fD1 reprD)) (lift2 neD))) (sSeq (sRet (mC (.bool false))) (sSkip)) (sSkip)) (sSeq (sSet 18 (mCall 2 F__law_pick (mCons (mVar 1) (mCons (mLst (mCons (mTup (mCons (mC (.int 2)) (mCons (mC (.int 1)) (mNil)))) (mCons (mTup (mCons (mNeg (mC (.int 1))) (mNil))) (mCons (mTup (mCons (mC (.int 1000001)) (mNil))) (mCons (mMul (mTup (mCons (mC (.int 0)) (mNil))) (mC (.int 101))) (mNil)))))) (mNil))))) (sSeq (sSet 16 (mCall 1 F__law_flat (mCons (mLC (mRange1 (mC (.int 4))) [19] (gN 19) (tYesT) (mLst (mCons (mCall 4 F__law_asked (mCons (mVar 19) (mCons (mVar 18) (mCons (mVar 3) (mCons (mIf (mBool (mOp2 (mVar 19) (mC (.int 2)) (lift2 eqD))) (mNeg (mC (.int 1))) (mTup (mCons (mC (.int 5)) (mCons (mC (.int 5)) (mNil))))) (mNil)))))) (mCons (mCall 4 F__law_asked (mCons (mVar 19) (mCons (mVar 3) (mCons (mVar 18) (mCons (mIf (mBool (mOp2 (mVar 19) (mC (.int 2)) (lift2 eqD))) (mNeg (mC (.int 1))) (mTup (mCons (mC (.int 5)) (mCons (mC (.int 5)) (mNil))))) (mNil)))))) (mNil))))) (mNil)))) (sSeq (sRet (mAndV (mOp2 (mVar 16) (mMul (mLst (mCons (mC (.str "!trace")) (mNil))) (mC (.int 8))) (lift2 eqD)) (mOp2 (mLC (mItems (mLst (mCons (mNeg (mC (.int 1))) (mCons (mC (.int 1000001)) (mNil))))) [14] (gN 14) (tYesT) (mCall 4 F__law_asked (mCons (mC (.int 2)) (mCons (mVar 3) (mCons (mVar 4) (mCons (mVar 14) (mNil))))))) (mMul (mLst (mCons (mC (.str "!number")) (mNil))) (mC (.int 2))) (lift2 eqD)))) (sSkip))))))
def m_rest11 : SM := sSeq (sIf (mBool (mOp2 (mB (mCons (mVar 3) (mNil)) (fD1 lenD)) (mB (mCons (mVar 4) (mNil)) (fD1 lenD)) (lift2 eqD))) (sSeq (sIf (mBool (mOp2 (mB (mCons (mLC (mRange1 (mVar 2)) [14] (gN 14) (tYesT) (mB (mCons (mCall 3 F_waiting_at (mCons (mVar 3) (mCons (mVar 4) (mCons (mVar 14) (mNil))))) (mNil)) (fD1 absD))) (mNil)) (fD1 sumD)) (mVar 8) (lift2 neD))) (sSeq (sRet (mC (.bool false))) (sSkip)) (sSkip)) (sSeq (sFor (mItems (mCall 1 F__law_orders (mCons (mB (mCons (mVar 3) (mNil)) (fD1 lenD)) (mNil)))) (gN 15) (sSeq (sSet 16 (mB (mCons (mLC (mRange1 (mB (mCons (mVar 3) (mNil)) (fD1 lenD))) [7] (gN 7) (tYesT) (mB (mCons (mSub (mIx (mVar 3) (mVar 7)) (mIx (mVar 4) (mIx (mVar 15) (mVar 7)))) (mNil)) (fD1 absD))) (mNil)) (fD1 sumD))) (sSeq (sIf (mOrT (mBool (mOp2 (mVar 16) (mVar 8) (lift2 ltD))) (mBool (mOp2 (mCall 3 F_pairing_waits (mCons (mVar 3) (mCons (mVar 4) (mCons (mVar 15) (mNil))))) (mVar 16) (lift2 neD)))) (sSeq (sRet (mC (.bool false))) (sSkip)) (sSkip)) (sSkip)))) (sSeq (sSet 17 (mLst (mCons (mB (mCons (mLstRg (mRg2 (mC (.int 1)) (mAdd (mB (mCons (mVar 3) (mNil)) (fD1 lenD)) (mC (.int 1))))) (mNil)) fTup) (mCons (mMul (mTup (mCons (mC (.int 0)) (mNil))) (mAdd (mB (mCons (mVar 3) (mNil)) (fD1 lenD)) (mC (.int 1)))) (mCons (mB (mCons (mLstRg (mRg1 (mAdd (mB (mCons (mVar 3) (mNil)) (fD1 lenD)) (mC (.int 1))))) (mNil)) fTup) (mNil)))))) (sSeq (sIf (mBool (mOp2 (mLC (mItems (mSl (mVar 17) (oSome (mB (mCons (mOp2 (mB (mCons (mVar 3) (mNil)) (fD1 lenD)) (mC (.int 0)) (lift2 eqD)) (mNil)) (fD1 intD))) (oNone))) [15] (gN 15) (tYesT) (mCall 4 F__law_asked (mCons (mC (.int 3)) (mCons (mVar 3) (mCons (mVar 4) (mCons (mVar 15) (mNil))))))) (mMul (mLst (mCons (mC (.str "!number")) (mNil))) (mSub (mC (.int 3)) (mB (mCons (mOp2 (mB (mCons (mVar 3) (mNil)) (fD1 lenD)) (mC (.int 0)) (lift2 eqD)) (mNil)) (fD1 intD)))) (lift2 neD))) (sSeq (sRet (mC (.bool false))) (sSkip)) (sSkip)) (sSkip))))) (sSeq (sIf (mBool (mOp2 (mCall 4 F__law_asked (mCons (mC (.int 3)) (mCons (mVar 3) (mCons (mVar 4) (mCons (mB (mCons (mLstRg (mRg1 (mB (mCons (mVar 3) (mNil)) (fD1 lenD)))) (mNil)) fTup) (mNil)))))) (mC (.str "!number")) (lift2 neD))) (sSeq (sRet (mC (.bool false))) (sSkip)) (sSkip)) (sSkip))) (sSeq (sIf (mBool (mOp2 (mB (mCons (mLst (mCons (mCall 2 F_meetings (mCons (mTup (mCons (mC (.int 1)) (mCons (mC (.int 4)) (mNil)))) (mCons (mTup (mCons (mC (.int 2)) (mCons (mC (.int 3)) (mNil)))) (mNil)))) (mCons (mCall 2 F_sum_of_waits (mCons (mTup (mCons (mC (.int 1)) (mCons (mC (.int 4)) (mNil)))) (mCons (mTup (mCons (mC (.int 2)) (mCons (mC (.int 3)) (mNil)))) (mNil)))) (mCons (mCall 3 F_waiting_at (mCons (mTup (mCons (mC (.int 1)) (mCons (mC (.int 4)) (mNil)))) (mCons (mTup (mCons (mC (.int 2)) (mCons (mC (.int 3)) (mNil)))) (mCons (mC (.int 1)) (mNil))))) (mCons (mCall 3 F_waiting_at (mCons (mTup (mNil)) (mCons (mTup (mCons (mC (.int 2)) (mCons (mC (.int 3)) (mNil)))) (mCons (mC (.int 3)) (mNil))))) (mNil)))))) (mNil)) (fD1 reprD)) (mB (mCons (mLst (mCons (mTup (mCons (mTup (mCons (mC (.int 2)) (mCons (mC (.int 1)) (mNil)))) (mCons (mTup (mCons (mC (.int 4)) (mCons (mNeg (mC (.int 1))) (mNil)))) (mNil)))) (mCons (mC (.int 2)) (mCons (mC (.int 1)) (mCons (mNeg (mC (.int 2))) (mNil)))))) (mNil)) (fD1 reprD)) (lift2 neD))) (sSeq (sRet (mC (.bool false))) (sSkip)) (sSkip)) (sSeq (sSet 18 (mCall 2 F__law_pick (mCons (mVar 1) (mCons (mLst (mCons (mTup (mCons (mC (.int 2)) (mCons (mC (.int 1)) (mNil)))) (mCons (mTup (mCons (mNeg (mC (.int 1))) (mNil))) (mCons (mTup (mCons (mC (.int 1000001)) (mNil))) (mCons (mMul (mTup (mCons (mC (.int 0)) (mNil))) (mC (.int 101))) (mNil)))))) (mNil))))) (sSeq (sSet 16 (mCall 1 F__law_flat (mCons (mLC (mRange1 (mC (.int 4))) [19] (gN 19) (tYesT) (mLst (mCons (mCall 4 F__law_asked (mCons (mVar 19) (mCons (mVar 18) (mCons (mVar 3) (mCons (mIf (mBool (mOp2 (mVar 19) (mC (.int 2)) (lift2 eqD))) (mNeg (mC (.int 1))) (mTup (mCons (mC (.int 5)) (mCons (mC (.int 5)) (mNil))))) (mNil)))))) (mCons (mCall 4 F__law_asked (mCons (mVar 19) (mCons (mVar 3) (mCons (mVar 18) (mCons (mIf (mBool (mOp2 (mVar 19) (mC (.int 2)) (lift2 eqD))) (mNeg (mC (.int 1))) (mTup (mCons (mC (.int 5)) (mCons (mC (.int 5)) (mNil))))) (mNil)))))) (mNil))))) (mNil)))) (sSeq (sRet (mAndV (mOp2 (mVar 16) (mMul (mLst (mCons (mC (.str "!trace")) (mNil))) (mC (.int 8))) (lift2 eqD)) (mOp2 (mLC (mItems (mLst (mCons (mNeg (mC (.int 1))) (mCons (mC (.int 1000001)) (mNil))))) [14] (gN 14) (tYesT) (mCall 4 F__law_asked (mCons (mC (.int 2)) (mCons (mVar 3) (mCons (mVar 4) (mCons (mVar 14) (mNil))))))) (mMul (mLst (mCons (mC (.str "!number")) (mNil))) (mC (.int 2))) (lift2 eqD)))) (sSkip)))))
def m_rest12 : SM := sSeq (sIf (mBool (mOp2 (mB (mCons (mLst (mCons (mCall 2 F_meetings (mCons (mTup (mCons (mC (.int 1)) (mCons (mC (.int 4)) (mNil)))) (mCons (mTup (mCons (mC (.int 2)) (mCons (mC (.int 3)) (mNil)))) (mNil)))) (mCons (mCall 2 F_sum_of_waits (mCons (mTup (mCons (mC (.int 1)) (mCons (mC (.int 4)) (mNil)))) (mCons (mTup (mCons (mC (.int 2)) (mCons (mC (.int 3)) (mNil)))) (mNil)))) (mCons (mCall 3 F_waiting_at (mCons (mTup (mCons (mC (.int 1)) (mCons (mC (.int 4)) (mNil)))) (mCons (mTup (mCons (mC (.int 2)) (mCons (mC (.int 3)) (mNil)))) (mCons (mC (.int 1)) (mNil))))) (mCons (mCall 3 F_waiting_at (mCons (mTup (mNil)) (mCons (mTup (mCons (mC (.int 2)) (mCons (mC (.int 3)) (mNil)))) (mCons (mC (.int 3)) (mNil))))) (mNil)))))) (mNil)) (fD1 reprD)) (mB (mCons (mLst (mCons (mTup (mCons (mTup (mCons (mC (.int 2)) (mCons (mC (.int 1)) (mNil)))) (mCons (mTup (mCons (mC (.int 4)) (mCons (mNeg (mC (.int 1))) (mNil)))) (mNil)))) (mCons (mC (.int 2)) (mCons (mC (.int 1)) (mCons (mNeg (mC (.int 2))) (mNil)))))) (mNil)) (fD1 reprD)) (lift2 neD))) (sSeq (sRet (mC (.bool false))) (sSkip)) (sSkip)) (sSeq (sSet 18 (mCall 2 F__law_pick (mCons (mVar 1) (mCons (mLst (mCons (mTup (mCons (mC (.int 2)) (mCons (mC (.int 1)) (mNil)))) (mCons (mTup (mCons (mNeg (mC (.int 1))) (mNil))) (mCons (mTup (mCons (mC (.int 1000001)) (mNil))) (mCons (mMul (mTup (mCons (mC (.int 0)) (mNil))) (mC (.int 101))) (mNil)))))) (mNil))))) (sSeq (sSet 16 (mCall 1 F__law_flat (mCons (mLC (mRange1 (mC (.int 4))) [19] (gN 19) (tYesT) (mLst (mCons (mCall 4 F__law_asked (mCons (mVar 19) (mCons (mVar 18) (mCons (mVar 3) (mCons (mIf (mBool (mOp2 (mVar 19) (mC (.int 2)) (lift2 eqD))) (mNeg (mC (.int 1))) (mTup (mCons (mC (.int 5)) (mCons (mC (.int 5)) (mNil))))) (mNil)))))) (mCons (mCall 4 F__law_asked (mCons (mVar 19) (mCons (mVar 3) (mCons (mVar 18) (mCons (mIf (mBool (mOp2 (mVar 19) (mC (.int 2)) (lift2 eqD))) (mNeg (mC (.int 1))) (mTup (mCons (mC (.int 5)) (mCons (mC (.int 5)) (mNil))))) (mNil)))))) (mNil))))) (mNil)))) (sSeq (sRet (mAndV (mOp2 (mVar 16) (mMul (mLst (mCons (mC (.str "!trace")) (mNil))) (mC (.int 8))) (lift2 eqD)) (mOp2 (mLC (mItems (mLst (mCons (mNeg (mC (.int 1))) (mCons (mC (.int 1000001)) (mNil))))) [14] (gN 14) (tYesT) (mCall 4 F__law_asked (mCons (mC (.int 2)) (mCons (mVar 3) (mCons (mVar 4) (mCons (mVar 14) (mNil))))))) (mMul (mLst (mCons (mC (.str "!number")) (mNil))) (mC (.int 2))) (lift2 eqD)))) (sSkip))))
def m_rest13 : SM := sSeq (sSet 18 (mCall 2 F__law_pick (mCons (mVar 1) (mCons (mLst (mCons (mTup (mCons (mC (.int 2)) (mCons (mC (.int 1)) (mNil)))) (mCons (mTup (mCons (mNeg (mC (.int 1))) (mNil))) (mCons (mTup (mCons (mC (.int 1000001)) (mNil))) (mCons (mMul (mTup (mCons (mC (.int 0)) (mNil))) (mC (.int 101))) (mNil)))))) (mNil))))) (sSeq (sSet 16 (mCall 1 F__law_flat (mCons (mLC (mRange1 (mC (.int 4))) [19] (gN 19) (tYesT) (mLst (mCons (mCall 4 F__law_asked (mCons (mVar 19) (mCons (mVar 18) (mCons (mVar 3) (mCons (mIf (mBool (mOp2 (mVar 19) (mC (.int 2)) (lift2 eqD))) (mNeg (mC (.int 1))) (mTup (mCons (mC (.int 5)) (mCons (mC (.int 5)) (mNil))))) (mNil)))))) (mCons (mCall 4 F__law_asked (mCons (mVar 19) (mCons (mVar 3) (mCons (mVar 18) (mCons (mIf (mBool (mOp2 (mVar 19) (mC (.int 2)) (lift2 eqD))) (mNeg (mC (.int 1))) (mTup (mCons (mC (.int 5)) (mCons (mC (.int 5)) (mNil))))) (mNil)))))) (mNil))))) (mNil)))) (sSeq (sRet (mAndV (mOp2 (mVar 16) (mMul (mLst (mCons (mC (.str "!trace")) (mNil))) (mC (.int 8))) (lift2 eqD)) (mOp2 (mLC (mItems (mLst (mCons (mNeg (mC (.int 1))) (mCons (mC (.int 1000001)) (mNil))))) [14] (gN 14) (tYesT) (mCall 4 F__law_asked (mCons (mC (.int 2)) (mCons (mVar 3) (mCons (mVar 4) (mCons (mVar 14) (mNil))))))) (mMul (mLst (mCons (mC (.str "!number")) (mNil))) (mC (.int 2))) (lift2 eqD)))) (sSkip)))
def m_st11 : SM := sIf (mBool (mOp2 (mB (mCons (mVar 3) (mNil)) (fD1 lenD)) (mB (mCons (mVar 4) (mNil)) (fD1 lenD)) (lift2 eqD))) (sSeq (sIf (mBool (mOp2 (mB (mCons (mLC (mRange1 (mVar 2)) [14] (gN 14) (tYesT) (mB (mCons (mCall 3 F_waiting_at (mCons (mVar 3) (mCons (mVar 4) (mCons (mVar 14) (mNil))))) (mNil)) (fD1 absD))) (mNil)) (fD1 sumD)) (mVar 8) (lift2 neD))) (sSeq (sRet (mC (.bool false))) (sSkip)) (sSkip)) (sSeq (sFor (mItems (mCall 1 F__law_orders (mCons (mB (mCons (mVar 3) (mNil)) (fD1 lenD)) (mNil)))) (gN 15) (sSeq (sSet 16 (mB (mCons (mLC (mRange1 (mB (mCons (mVar 3) (mNil)) (fD1 lenD))) [7] (gN 7) (tYesT) (mB (mCons (mSub (mIx (mVar 3) (mVar 7)) (mIx (mVar 4) (mIx (mVar 15) (mVar 7)))) (mNil)) (fD1 absD))) (mNil)) (fD1 sumD))) (sSeq (sIf (mOrT (mBool (mOp2 (mVar 16) (mVar 8) (lift2 ltD))) (mBool (mOp2 (mCall 3 F_pairing_waits (mCons (mVar 3) (mCons (mVar 4) (mCons (mVar 15) (mNil))))) (mVar 16) (lift2 neD)))) (sSeq (sRet (mC (.bool false))) (sSkip)) (sSkip)) (sSkip)))) (sSeq (sSet 17 (mLst (mCons (mB (mCons (mLstRg (mRg2 (mC (.int 1)) (mAdd (mB (mCons (mVar 3) (mNil)) (fD1 lenD)) (mC (.int 1))))) (mNil)) fTup) (mCons (mMul (mTup (mCons (mC (.int 0)) (mNil))) (mAdd (mB (mCons (mVar 3) (mNil)) (fD1 lenD)) (mC (.int 1)))) (mCons (mB (mCons (mLstRg (mRg1 (mAdd (mB (mCons (mVar 3) (mNil)) (fD1 lenD)) (mC (.int 1))))) (mNil)) fTup) (mNil)))))) (sSeq (sIf (mBool (mOp2 (mLC (mItems (mSl (mVar 17) (oSome (mB (mCons (mOp2 (mB (mCons (mVar 3) (mNil)) (fD1 lenD)) (mC (.int 0)) (lift2 eqD)) (mNil)) (fD1 intD))) (oNone))) [15] (gN 15) (tYesT) (mCall 4 F__law_asked (mCons (mC (.int 3)) (mCons (mVar 3) (mCons (mVar 4) (mCons (mVar 15) (mNil))))))) (mMul (mLst (mCons (mC (.str "!number")) (mNil))) (mSub (mC (.int 3)) (mB (mCons (mOp2 (mB (mCons (mVar 3) (mNil)) (fD1 lenD)) (mC (.int 0)) (lift2 eqD)) (mNil)) (fD1 intD)))) (lift2 neD))) (sSeq (sRet (mC (.bool false))) (sSkip)) (sSkip)) (sSkip))))) (sSeq (sIf (mBool (mOp2 (mCall 4 F__law_asked (mCons (mC (.int 3)) (mCons (mVar 3) (mCons (mVar 4) (mCons (mB (mCons (mLstRg (mRg1 (mB (mCons (mVar 3) (mNil)) (fD1 lenD)))) (mNil)) fTup) (mNil)))))) (mC (.str "!number")) (lift2 neD))) (sSeq (sRet (mC (.bool false))) (sSkip)) (sSkip)) (sSkip))
def z101 : List D := List.replicate 101 (.int 0)
def t8 : List D := List.replicate 8 (.str "!trace")
def t4 : List D := List.replicate 4 (.list [.str "!trace", .str "!trace"])
@[simp] theorem mul_101 : mulD (.tuple [.int 0]) (.int 101) = some (.d (.tuple z101)) := by kernel_rfl
@[simp] theorem mul_8 : mulD (.list [.str "!trace"]) (.int 8) = some (.n (.list t8)) := by kernel_rfl
@[simp] theorem mul_2 : mulD (.list [.str "!number"]) (.int 2) = some (.n (.list [.str "!number", .str "!number"])) := by kernel_rfl
theorem eq_8 : eqD (.list t8) (.list t8) = some (.d (.bool true)) := by kernel_rfl
theorem eq_2 : eqD (.list [.str "!number", .str "!number"]) (.list [.str "!number", .str "!number"]) = some (.d (.bool true)) := by kernel_rfl
theorem flat_k (x y : Option D) : F__law_flat [.d (.list t4)] [x, y] = .ok (.n (.list t8)) [x, y] := by kernel_rfl
theorem flat_ok {m : Mem} (h : m.length = 2) : F__law_flat [.d (.list t4)] m = .ok (.n (.list t8)) m := by
  match m, h with
  | [x, y], _ => exact flat_k x y
theorem rest13_ok {a b : List Int} {m : Mem} {x0 x2 x5 x6 x7 x8 x9 x10 x11 x12 x13 x14 x15 x16 x17 x19 : Option W} (ga : Good a) (gb : Good b) (d : Dr 3840 1 m) (hm : m.length = 2) :
    Fine (m_rest13 [x0, some (.r 1), x2, some (.d (T a)), some (.d (T b)), x5, x6, x7, x8, x9, x10, x11, x12, x13, x14, x15, x16, x17, none, x19] m) := by
  obtain ⟨x, m2, e, hx, d2, l2⟩ := pick_ok (some_ := [.tuple [.int 2, .int 1], .tuple [.int (-1)], .tuple [.int 1000001], .tuple z101]) d (by simp)
  have bad : BadS x := by
    rcases List.mem_cons.mp hx with rfl | hx
    · exact bad_1
    rcases List.mem_cons.mp hx with rfl | hx
    · exact bad_2
    rcases List.mem_cons.mp hx with rfl | hx
    · exact bad_3
    rcases List.mem_cons.mp hx with rfl | hx
    · exact bad_4
    · cases hx
  unfold m_rest13
  refine seq_step (rho' := [x0, some (.r 1), x2, some (.d (T a)), some (.d (T b)), x5, x6, x7, x8, x9, x10, x11, x12, x13, x14, x15, x16, x17, some (.d x), x19]) (m' := m2) (by simp [e]) ?_
  have q1 : ∀ (w : Int) (z : D), 0 ≤ w → w < 4 → F__law_asked [.d (.int w), .d x, .d (T a), .d z] m2 = .ok (.d (.str "!trace")) m2 := fun w z h0 h1 => asked_bad (fun m => check_bad1 bad) h0 h1
  have q2 : ∀ (w : Int) (z : D), 0 ≤ w → w < 4 → F__law_asked [.d (.int w), .d (T a), .d x, .d z] m2 = .ok (.d (.str "!trace")) m2 := fun w z h0 h1 => asked_bad (fun m => check_bad2 ga bad) h0 h1
  refine seq_step (rho' := [x0, some (.r 1), x2, some (.d (T a)), some (.d (T b)), x5, x6, x7, x8, x9, x10, x11, x12, x13, x14, x15, some (.d (.list t8)), x17, some (.d x), x19]) (m' := m2) (by
    rw [e_Set, e_Call, e_Cons, mLC_all (m0 := m2) (List.range 4) (fun (k : Nat) => .int (k : Int)) (fun (k : Nat) => .list [.str "!trace", .str "!trace"]) (range_hit (n := 4) rfl (by decide)) (by decide) (fun k hk => by
      have hk' := List.mem_range.mp hk
      refine ⟨_, rfl, rfl, .n (.list [.str "!trace", .str "!trace"]), ?_, rfl⟩
      by_cases h2 : (k : Int) = 2
      · simp [h2, q1, q2]
      · simp [h2, q1 k _ (by omega) (by omega), q2 k _ (by omega) (by omega)])]
    have hf := flat_ok (m := m2) (by omega)
    show (F__law_flat [.d (.list t4)] m2).thenV _ _ = _
    rw [hf]; rfl) ?_
  have q3 : ∀ t : Int, ¬ (0 ≤ t ∧ t ≤ 1000000) → F__law_asked [.d (.int 2), .d (T a), .d (T b), .d (.int t)] m2 = .ok (.d (.str "!number")) m2 := fun t ht => asked2_bad ga gb ht
  have h1 : mOp2 (mVar 16) (mMul (mLst (mCons (mC (.str "!trace")) (mNil))) (mC (.int 8))) (lift2 eqD) [x0, some (.r 1), x2, some (.d (T a)), some (.d (T b)), x5, x6, x7, x8, x9, x10, x11, x12, x13, x14, x15, some (.d (.list t8)), x17, some (.d x), x19] m2 = .ok (.d (.bool true)) m2 := by
    simp [eq_8]
  have h2 : mOp2 (mLC (mItems (mLst (mCons (mNeg (mC (.int 1))) (mCons (mC (.int 1000001)) (mNil))))) [14] (gN 14) (tYesT) (mCall 4 F__law_asked (mCons (mC (.int 2)) (mCons (mVar 3) (mCons (mVar 4) (mCons (mVar 14) (mNil))))))) (mMul (mLst (mCons (mC (.str "!number")) (mNil))) (mC (.int 2))) (lift2 eqD) [x0, some (.r 1), x2, some (.d (T a)), some (.d (T b)), x5, x6, x7, x8, x9, x10, x11, x12, x13, x14, x15, some (.d (.list t8)), x17, some (.d x), x19] m2 = .ok (.d (.bool true)) m2 := by
    rw [e_Op2, mLC_all (m0 := m2) [(-1 : Int), 1000001] (fun k => .int k) (fun _ => .str "!number") (by simp) (by decide) (fun k hk => by
      have hk' : ¬ (0 ≤ k ∧ k ≤ 1000000) := by
        simp at hk; omega
      exact ⟨_, rfl, rfl, .d (.str "!number"), by simp [q3 k hk'], rfl⟩)]
    simp [eq_2]
  refine ⟨m2, ?_⟩
  rw [e_Seq, e_Ret, e_AndV, h1, ev_bindV, val_d, tru_d, tru_b]
  dsimp only
  rw [ev_bind, if_pos rfl, h2, ev_thenS]
theorem repr_k : ∃ s, reprD (.list [.tuple [.tuple [.int 2, .int 1], .tuple [.int 4, .int (-1)]], .int 2, .int 1, .int (-2)]) = some (.str s) := ⟨_, repr_tame (by decide) (by decide) (by decide)⟩
theorem good_14 : Good [1, 4] := ⟨by decide, by decide, by decide⟩
theorem good_23 : Good [2, 3] := ⟨by decide, by decide, by decide⟩
theorem good_0 : Good [] := ⟨by decide, by decide, by decide⟩
theorem rest12_ok {a b : List Int} {m : Mem} {x0 x2 x5 x6 x7 x8 x9 x10 x11 x12 x13 x14 x15 x16 x17 x19 : Option W} (ga : Good a) (gb : Good b) (d : Dr 3840 1 m) (hm : m.length = 2) :
    Fine (m_rest12 [x0, some (.r 1), x2, some (.d (T a)), some (.d (T b)), x5, x6, x7, x8, x9, x10, x11, x12, x13, x14, x15, x16, x17, none, x19] m) := by
  have q1 : F_meetings [.d (.tuple [.int 1, .int 4]), .d (.tuple [.int 2, .int 3])] m = .ok (.d (.tuple [.tuple [.int 2, .int 1], .tuple [.int 4, .int (-1)]])) m := meetings_ok good_14 good_23
  have q2 : F_sum_of_waits [.d (.tuple [.int 1, .int 4]), .d (.tuple [.int 2, .int 3])] m = .ok (.d (.int 2)) m := sum_ok good_14 good_23
  have q3 : F_waiting_at [.d (.tuple [.int 1, .int 4]), .d (.tuple [.int 2, .int 3]), .d (.int 1)] m = .ok (.d (.int 1)) m := wait_ok good_14 good_23 (by decide) (by decide)
  have q4 : F_waiting_at [.d (.tuple []), .d (.tuple [.int 2, .int 3]), .d (.int 3)] m = .ok (.d (.int (-2))) m := wait_ok good_0 good_23 (by decide) (by decide)
  obtain ⟨s, hs⟩ := repr_k
  unfold m_rest12
  exact seq_step (rho' := [x0, some (.r 1), x2, some (.d (T a)), some (.d (T b)), x5, x6, x7, x8, x9, x10, x11, x12, x13, x14, x15, x16, x17, none, x19]) (m' := m) (by simp [q1, q2, q3, q4, hs]) (rest13_ok ga gb d hm)
end Law
namespace Law
open PySem PySem.Spec PyProof.Rows L2 Den Meet
theorem seq_nx {c d : SM} {rho r1 r2 : Den.Env} {m m1 m2 : Mem} (h : c rho m = .nx r1 m1) (h2 : d r1 m1 = .nx r2 m2) : sSeq c d rho m = .nx r2 m2 := by
  rw [e_Seq, h]; exact h2
def m_body11 : SM := sSeq (sSet 16 (mB (mCons (mLC (mRange1 (mB (mCons (mVar 3) (mNil)) (fD1 lenD))) [7] (gN 7) (tYesT) (mB (mCons (mSub (mIx (mVar 3) (mVar 7)) (mIx (mVar 4) (mIx (mVar 15) (mVar 7)))) (mNil)) (fD1 absD))) (mNil)) (fD1 sumD))) (sSeq (sIf (mOrT (mBool (mOp2 (mVar 16) (mVar 8) (lift2 ltD))) (mBool (mOp2 (mCall 3 F_pairing_waits (mCons (mVar 3) (mCons (mVar 4) (mCons (mVar 15) (mNil))))) (mVar 16) (lift2 neD)))) (sSeq (sRet (mC (.bool false))) (sSkip)) (sSkip)) (sSkip))
theorem body_ok {a b o : List Int} {L : Nat} {m : Mem} {x0 x1 x2 x5 x6 x7 x9 x10 x11 x12 x13 x14 x16 x17 x18 x19 : Option W} (ga : Good a) (gb : Good b) (ra : ∀ x ∈ a, 0 ≤ x ∧ x < (L : Int)) (rb : ∀ x ∈ b, 0 ≤ x ∧ x < (L : Int)) (hl : a.length = b.length) (la : a.length ≤ 5) (ho : Ord a.length o) :
    ∃ y16, m_body11 [x0, x1, x2, some (.d (T a)), some (.d (T b)), x5, x6, x7, some (.d (.int (dist a b))), x9, x10, x11, x12, x13, x14, some (.d (T o)), x16, x17, x18, x19] m = .nx [x0, x1, x2, some (.d (T a)), some (.d (T b)), x5, x6, x7, some (.d (.int (dist a b))), x9, x10, x11, x12, x13, x14, some (.d (T o)), y16, x17, x18, x19] m := by
  have lo : o.length = a.length := by rw [ho.perm.length_eq]; simp
  have nb := no_better L hl (put_perm hl.symm ho) (fun x hx => by have := ra x hx; omega) (fun x hx => by have := rb x hx; omega) ga.srt gb.srt
  have ps : sumD (.list ((List.range a.length).map fun (k : Nat) => .int (if a[k]?.getD 0 - b[(o[k]?.getD 0).toNat]?.getD 0 < 0 then -(a[k]?.getD 0 - b[(o[k]?.getD 0).toNat]?.getD 0) else a[k]?.getD 0 - b[(o[k]?.getD 0).toNat]?.getD 0))) = some (.int (dist a (put b o))) := by
    rw [← told_sum b a o a.length rfl lo, ← sum_ints, List.map_map]; rfl
  refine ⟨some (.d (.int (dist a (put b o)))), ?_⟩
  unfold m_body11
  refine seq_nx (r1 := [x0, x1, x2, some (.d (T a)), some (.d (T b)), x5, x6, x7, some (.d (.int (dist a b))), x9, x10, x11, x12, x13, x14, some (.d (T o)), some (.d (.int (dist a (put b o)))), x17, x18, x19]) (m1 := m) (by
    rw [e_Set, e_B, e_Cons, mLC_all (m0 := m) (List.range a.length) (fun (k : Nat) => .int (k : Int)) (fun (k : Nat) => .int (if a[k]?.getD 0 - b[(o[k]?.getD 0).toNat]?.getD 0 < 0 then -(a[k]?.getD 0 - b[(o[k]?.getD 0).toNat]?.getD 0) else a[k]?.getD 0 - b[(o[k]?.getD 0).toNat]?.getD 0)) (range_hit (by simp) (by omega)) (by rw [List.length_range]; omega) (fun k hk => by
      have hk' := List.mem_range.mp hk
      have q1 := at_nat (b := a) (k := k) (by omega)
      have q2 := at_nat (b := o) (k := k) (by omega)
      have hr : 0 ≤ o[k]?.getD 0 ∧ o[k]?.getD 0 < (b.length : Int) := by
        have hm : o[k]?.getD 0 ∈ o := by
          rw [List.getElem?_eq_getElem (by omega : k < o.length)]
          exact List.getElem_mem _
        have := ho.rng _ hm
        omega
      have q3 := at_ints (b := b) hr.1 hr.2
      exact ⟨_, rfl, rfl, .d (.int (if a[k]?.getD 0 - b[(o[k]?.getD 0).toNat]?.getD 0 < 0 then -(a[k]?.getD 0 - b[(o[k]?.getD 0).toNat]?.getD 0) else a[k]?.getD 0 - b[(o[k]?.getD 0).toNat]?.getD 0)), by simp [q1, q2, q3], rfl⟩)]
    rw [ev_bindV, e_Nil, ev_bind, ev_bind, val_n, f_D1, peek_d]
    dsimp only
    rw [ps]
    rfl) ?_
  have e1 : ¬ dist a (put b o) < dist a b := by omega
  exact seq_nx (r1 := [x0, x1, x2, some (.d (T a)), some (.d (T b)), x5, x6, x7, some (.d (.int (dist a b))), x9, x10, x11, x12, x13, x14, some (.d (T o)), some (.d (.int (dist a (put b o)))), x17, x18, x19]) (m1 := m) (by simp [pairing_ok ga gb hl ho, e1]) rfl
theorem rg1 (n : Nat) : rangeD 1 ((n : Int) + 1) = ((List.range n).map fun (k : Nat) => 1 + (k : Int)).map .int := by
  unfold rangeD
  rw [show ((n : Int) + 1 - 1).toNat = n by omega, List.map_map]; rfl
theorem rg0 (n : Nat) : rangeD 0 ((n : Int) + 1) = ((List.range (n + 1)).map fun (k : Nat) => (k : Int)).map .int := by
  unfold rangeD
  rw [show ((n : Int) + 1 - 0).toNat = n + 1 by omega, List.map_map]; simp
theorem mul0 (n : Nat) (h : n ≤ 5) : mulD (.tuple [.int 0]) (.int ((n : Int) + 1)) = some (.d (T (List.replicate (n + 1) 0))) := by
  have hc : decide (-1000000 ≤ (n : Int) + 1 ∧ (n : Int) + 1 ≤ 1000 ∧ ([PyData.int 0] : List D).length ≤ 1000) = true := decide_eq_true ⟨by omega, by omega, by decide⟩
  show (if decide (-1000000 ≤ (n : Int) + 1 ∧ (n : Int) + 1 ≤ 1000 ∧ ([PyData.int 0] : List D).length ≤ 1000) = true then some (W.d (.tuple (List.replicate ((n : Int) + 1).toNat [PyData.int 0]).flatten)) else none) = _
  rw [if_pos hc, show ((n : Int) + 1).toNat = n + 1 by omega]
  simp
theorem rgk {i n : Nat} (h : n ≤ 6) (hi : i ≤ 6) : rgOk (i : Int) (n : Int) = true := decide_eq_true (by omega)
end Law
namespace Law
open PySem PySem.Spec PyProof.Rows L2 Den Meet
theorem not_1 (n : Nat) (h : 0 < n) : ((List.range n).map fun (k : Nat) => 1 + (k : Int)).mergeSort leI ≠ (List.range n).map fun (k : Nat) => (k : Int) := fun e => by
  have h0 : (0 : Int) ∈ (List.range n).map fun (k : Nat) => (k : Int) := List.mem_map.mpr ⟨0, List.mem_range.mpr h, rfl⟩
  rw [← e] at h0
  have := List.mem_mergeSort.mp h0
  obtain ⟨k, _, hk⟩ := List.mem_map.mp this
  omega
theorem not_len {o : List Int} {n : Nat} (h : o.length = n + 1) : o.mergeSort leI ≠ (List.range n).map fun (k : Nat) => (k : Int) := fun e => by
  have := congrArg List.length e
  rw [List.length_mergeSort, List.length_map, List.length_range] at this
  omega
@[simp] theorem mulN_3 : mulD (.list [.str "!number"]) (.int 3) = some (.n (.list [.str "!number", .str "!number", .str "!number"])) := by kernel_rfl
theorem ne_n2 : neD (.list [.str "!number", .str "!number"]) (.list [.str "!number", .str "!number"]) = some (.d (.bool false)) := by kernel_rfl
theorem ne_n3 : neD (.list [.str "!number", .str "!number", .str "!number"]) (.list [.str "!number", .str "!number", .str "!number"]) = some (.d (.bool false)) := by kernel_rfl
@[simp] theorem cut_0 {α : Type} {xs : List α} : Den.cutD xs (some 0) none = xs := by
  unfold Den.cutD
  have h : HT.sIx xs.length 0 (some 0) = min 0 xs.length := HT.sIx_nat xs.length 0 0
  rw [h]
  show (xs.drop (min 0 xs.length)).take (xs.length - min 0 xs.length) = xs
  rw [Nat.zero_min, List.drop_zero, Nat.sub_zero, List.take_length]
theorem lstRg1 {a : EM W} {rho : Den.Env} {m : Mem} {n : Nat} (h : a rho m = .ok (.d (.int (n : Int))) m) (hn : n ≤ 1000) : mLstRg (mRg1 a) rho m = .ok (.n (.list (rangeD 0 (n : Int)))) m := by
  rw [e_LstRg, e_Rg1, h, ev_bindV, val_d]
  dsimp only
  rw [ev_bind, if_pos (rg_ok hn)]
theorem lstRg1' {a : EM W} {rho : Den.Env} {m : Mem} {n : Nat} (h : a rho m = .ok (.d (.int ((n : Int) + 1))) m) (hn : n ≤ 100) : mLstRg (mRg1 a) rho m = .ok (.n (.list (rangeD 0 ((n : Int) + 1)))) m := lstRg1 (n := n + 1) h (by omega)
theorem lstRg2' {a : EM W} {rho : Den.Env} {m : Mem} {n : Nat} (h : a rho m = .ok (.d (.int ((n : Int) + 1))) m) (hn : n ≤ 5) : mLstRg (mRg2 (mC (.int 1)) a) rho m = .ok (.n (.list (rangeD 1 ((n : Int) + 1)))) m := by
  rw [e_LstRg, e_Rg2, e_C, ev_bindV, h, ev_bindV, val_d, val_d]
  dsimp only
  have hr : rgOk 1 ((n : Int) + 1) = true := rgk (i := 1) (n := n + 1) (by omega) (by decide)
  rw [ev_bind, if_pos hr]
abbrev RR (x0 x1 : Option W) (L : Int) (a b : List Int) (x5 x6 x7 : Option W) (w : Int) (x9 x10 x11 x12 x13 x14 x15 x16 x17 x18 x19 : Option W) : Den.Env := [x0, x1, some (.d (.int L)), some (.d (T a)), some (.d (T b)), x5, x6, x7, some (.d (.int w)), x9, x10, x11, x12, x13, x14, x15, x16, x17, x18, x19]
section
variable {a b : List Int} {L : Nat} {w : Int} {m : Mem} {x0 x1 x5 x6 x7 x9 x10 x11 x12 x13 x14 x15 x16 x17 x18 x19 : Option W}
theorem s_hT : mBool (mOp2 (mB (mCons (mVar 3) (mNil)) (fD1 lenD)) (mB (mCons (mVar 4) (mNil)) (fD1 lenD)) (lift2 eqD)) (RR x0 x1 L a b x5 x6 x7 w x9 x10 x11 x12 x13 x14 x15 x16 x17 x18 x19) m = .ok (decide (a.length = b.length)) m := by
  have e : ((a.length : Int) == (b.length : Int)) = decide (a.length = b.length) := by
    by_cases h : a.length = b.length
    · rw [h]; simp
    · rw [decide_eq_false h]; exact beq_eq_false_iff_ne.mpr (by omega)
  rw [e_Bool, e_Op2, e_B, e_Cons, e_Var]
  show (((Rs.ok [W.d (T a)] m).bind (fD1 lenD)).bindV _).bindV _ = _
  rw [ev_bind, f_D1, peek_d]
  dsimp only
  rw [len_t]
  dsimp only
  rw [ev_bindV, e_B, e_Cons, e_Var]
  show (((Rs.ok [W.d (T b)] m).bind (fD1 lenD)).bindV _).bindV _ = _
  rw [ev_bind, f_D1, peek_d]
  dsimp only
  rw [len_t]
  dsimp only
  rw [ev_bindV, f_lift2, val_d, val_d, peek_d, peek_d]
  dsimp only
  rw [ints_len, ints_len, eq_i, e]
  rfl
theorem s_rg : mB (mCons (mLstRg (mRg1 (mB (mCons (mVar 3) (mNil)) (fD1 lenD)))) (mNil)) fTup (RR x0 x1 L a b x5 x6 x7 w x9 x10 x11 x12 x13 x14 x15 x16 x17 x18 x19) m = (if a.length ≤ 1000 then .ok (.d (.tuple (rangeD 0 a.length))) m else mB (mCons (mLstRg (mRg1 (mB (mCons (mVar 3) (mNil)) (fD1 lenD)))) (mNil)) fTup (RR x0 x1 L a b x5 x6 x7 w x9 x10 x11 x12 x13 x14 x15 x16 x17 x18 x19) m) := by
  split
  · rename_i h
    rw [e_B, e_Cons, lstRg1 (n := a.length) (by simp) h, ev_bindV, e_Nil, ev_bind, ev_bind, val_n, f_Tup, peek_d]
  · rfl
theorem s_neg (ga : Good a) (gb : Good b) (hl : ¬ a.length = b.length) : mCall 4 F__law_asked (mCons (mC (.int 3)) (mCons (mVar 3) (mCons (mVar 4) (mCons (mB (mCons (mLstRg (mRg1 (mB (mCons (mVar 3) (mNil)) (fD1 lenD)))) (mNil)) fTup) (mNil))))) (RR x0 x1 L a b x5 x6 x7 w x9 x10 x11 x12 x13 x14 x15 x16 x17 x18 x19) m = .ok (.d (.str "!number")) m := by
  have e := asked3_bad (m := m) (o := (List.range a.length).map fun (k : Nat) => (k : Int)) ga gb (.inl hl)
  have e2 : F__law_asked [.d (.int 3), .d (T a), .d (T b), .d (.tuple (rangeD 0 a.length))] m = .ok (.d (.str "!number")) m := by rw [rangeD_ints]; exact e
  rw [e_Call, e_Cons, e_C, ev_bindV, e_Cons, e_Var]
  show ((((Rs.ok (W.d (T a)) m).bindV _).bind _)).bind _ = _
  rw [ev_bindV, e_Cons, e_Var]
  show (((((Rs.ok (W.d (T b)) m).bindV _).bind _)).bind _).bind _ = _
  rw [ev_bindV, e_Cons, s_rg, if_pos (by have := ga.len; omega), ev_bindV, e_Nil, ev_bind, ev_bind, ev_bind, ev_bind, ev_bind]
  exact e2
end
end Law
namespace Law
open PySem PySem.Spec PyProof.Rows L2 Den Meet
section
variable {a b : List Int} {L : Nat} {m : Mem} {x0 x1 x5 x6 x7 x9 x10 x11 x12 x13 x14 x15 x16 x17 x18 x19 : Option W}
theorem s_1 (ga : Good a) (gb : Good b) (ra : ∀ x ∈ a, 0 ≤ x ∧ x < (L : Int)) (rb : ∀ x ∈ b, 0 ≤ x ∧ x < (L : Int)) (hL : L ≤ 30) (hl : a.length = b.length) :
    mB (mCons (mLC (mRange1 (mVar 2)) [14] (gN 14) (tYesT) (mB (mCons (mCall 3 F_waiting_at (mCons (mVar 3) (mCons (mVar 4) (mCons (mVar 14) (mNil))))) (mNil)) (fD1 absD))) (mNil)) (fD1 sumD) (RR x0 x1 L a b x5 x6 x7 (dist a b) x9 x10 x11 x12 x13 x14 x15 x16 x17 x18 x19) m = .ok (.d (.int (dist a b))) m := by
  have ws : sumD (.list ((List.range L).map fun (k : Nat) => .int (if cnt k a - cnt k b < 0 then -(cnt k a - cnt k b) else cnt k a - cnt k b))) = some (.int (dist a b)) := by
    have q := sumT_range (fun t => cnt t a - cnt t b) L
    rw [by_times L hl (fun x hx => by have := ra x hx; omega) (fun x hx => by have := rb x hx; omega) ga.srt gb.srt] at q
    rw [← q, ← sum_ints, List.map_map]; rfl
  rw [e_B, e_Cons, mLC_all (m0 := m) (List.range L) (fun (k : Nat) => .int (k : Int)) (fun (k : Nat) => .int (if cnt k a - cnt k b < 0 then -(cnt k a - cnt k b) else cnt k a - cnt k b)) (range_hit (by simp) (by omega)) (by rw [List.length_range]; omega) (fun k hk => by
      have hk' := List.mem_range.mp hk
      exact ⟨_, rfl, rfl, .d (.int (if cnt k a - cnt k b < 0 then -(cnt k a - cnt k b) else cnt k a - cnt k b)), by simp [wait_ok (t := (k : Int)) ga gb (by omega) (by omega)], rfl⟩)]
  rw [ev_bindV, e_Nil, ev_bind, ev_bind, val_n, f_D1, peek_d]
  dsimp only
  rw [ws]
theorem s_2 (ga : Good a) (gb : Good b) (ra : ∀ x ∈ a, 0 ≤ x ∧ x < (L : Int)) (rb : ∀ x ∈ b, 0 ≤ x ∧ x < (L : Int)) (la : a.length ≤ 5) (hm : m.length = 2) (hl : a.length = b.length) :
    ∃ y15 y16, sFor (mItems (mCall 1 F__law_orders (mCons (mB (mCons (mVar 3) (mNil)) (fD1 lenD)) (mNil)))) (gN 15) m_body11 (RR x0 x1 L a b x5 x6 x7 (dist a b) x9 x10 x11 x12 x13 x14 x15 x16 x17 x18 x19) m = .nx (RR x0 x1 L a b x5 x6 x7 (dist a b) x9 x10 x11 x12 x13 x14 y15 y16 x17 x18 x19) m := by
  obtain ⟨ho1, ho2⟩ := orders_ok la hm
  obtain ⟨r, m', hf, y15, y16, rfl, rfl⟩ := for_inv (g := gN 15) (c := m_body11) (rho := RR x0 x1 L a b x5 x6 x7 (dist a b) x9 x10 x11 x12 x13 x14 x15 x16 x17 x18 x19) (m := m) ((ordL a.length).map T)
    (fun i rho m' => ∃ y15 y16, rho = RR x0 x1 L a b x5 x6 x7 (dist a b) x9 x10 x11 x12 x13 x14 y15 y16 x17 x18 x19 ∧ m' = m) ⟨x15, x16, rfl, rfl⟩ (fun i hi rho m' hI => by
      obtain ⟨y15, y16, rfl, rfl⟩ := hI
      have hi' : i < (ordL a.length).length := by simpa using hi
      have e0 : ((ordL a.length).map T)[i] = T (ordL a.length)[i] := by simp
      rw [e0]
      obtain ⟨z16, hb⟩ := body_ok (m := m') (x0 := x0) (x1 := x1) (x2 := some (.d (.int L))) (x5 := x5) (x6 := x6) (x7 := x7) (x9 := x9) (x10 := x10) (x11 := x11) (x12 := x12) (x13 := x13) (x14 := x14) (x16 := y16) (x17 := x17) (x18 := x18) (x19 := x19) ga gb ra rb hl la (ho2 _ (List.getElem_mem hi'))
      exact ⟨_, _, rfl, _, _, hb, _, _, rfl, rfl⟩)
  refine ⟨y15, y16, ?_⟩
  have hlen : mB (mCons (mVar 3) (mNil)) (fD1 lenD) (RR x0 x1 L a b x5 x6 x7 (dist a b) x9 x10 x11 x12 x13 x14 x15 x16 x17 x18 x19) m' = .ok (.d (.int (a.length : Nat))) m' := by simp
  have hit : mItems (mCall 1 F__law_orders (mCons (mB (mCons (mVar 3) (mNil)) (fD1 lenD)) (mNil))) (RR x0 x1 L a b x5 x6 x7 (dist a b) x9 x10 x11 x12 x13 x14 x15 x16 x17 x18 x19) m' = .ok ((ordL a.length).map T) m' := by
    rw [e_Items, e_Call, e_Cons, hlen, ev_bindV, e_Nil, ev_bind, ev_bind, val_d, if_pos (by rfl : ([W.d (PyData.int (a.length : Nat))] : List W).length = 1), ho1, ev_bindV, val_d]
    dsimp only
    rw [seqOf_l]
  rw [e_For, hit, ev_thenS]
  exact hf
theorem s_3 (la : a.length ≤ 5) : mLst (mCons (mB (mCons (mLstRg (mRg2 (mC (.int 1)) (mAdd (mB (mCons (mVar 3) (mNil)) (fD1 lenD)) (mC (.int 1))))) (mNil)) fTup) (mCons (mMul (mTup (mCons (mC (.int 0)) (mNil))) (mAdd (mB (mCons (mVar 3) (mNil)) (fD1 lenD)) (mC (.int 1)))) (mCons (mB (mCons (mLstRg (mRg1 (mAdd (mB (mCons (mVar 3) (mNil)) (fD1 lenD)) (mC (.int 1))))) (mNil)) fTup) (mNil)))) (RR x0 x1 L a b x5 x6 x7 (dist a b) x9 x10 x11 x12 x13 x14 x15 x16 x17 x18 x19) m =
    .ok (.n (.list [T ((List.range a.length).map fun (k : Nat) => 1 + (k : Int)), T (List.replicate (a.length + 1) 0), T ((List.range (a.length + 1)).map fun (k : Nat) => (k : Int))])) m := by
  have hadd : mAdd (mB (mCons (mVar 3) (mNil)) (fD1 lenD)) (mC (.int 1)) (RR x0 x1 L a b x5 x6 x7 (dist a b) x9 x10 x11 x12 x13 x14 x15 x16 x17 x18 x19) m = .ok (.d (.int ((a.length : Int) + 1))) m := by simp
  have h1 : mB (mCons (mLstRg (mRg2 (mC (.int 1)) (mAdd (mB (mCons (mVar 3) (mNil)) (fD1 lenD)) (mC (.int 1))))) (mNil)) fTup (RR x0 x1 L a b x5 x6 x7 (dist a b) x9 x10 x11 x12 x13 x14 x15 x16 x17 x18 x19) m = .ok (.d (T ((List.range a.length).map fun (k : Nat) => 1 + (k : Int)))) m := by
    rw [e_B, e_Cons, lstRg2' (n := a.length) hadd la, ev_bindV, e_Nil, ev_bind, ev_bind, val_n, f_Tup, peek_d, rg1]
  have h3 : mB (mCons (mLstRg (mRg1 (mAdd (mB (mCons (mVar 3) (mNil)) (fD1 lenD)) (mC (.int 1))))) (mNil)) fTup (RR x0 x1 L a b x5 x6 x7 (dist a b) x9 x10 x11 x12 x13 x14 x15 x16 x17 x18 x19) m = .ok (.d (T ((List.range (a.length + 1)).map fun (k : Nat) => (k : Int)))) m := by
    rw [e_B, e_Cons, lstRg1' (n := a.length) hadd (by omega), ev_bindV, e_Nil, ev_bind, ev_bind, val_n, f_Tup, peek_d, rg0]
  have h2 : mMul (mTup (mCons (mC (.int 0)) (mNil))) (mAdd (mB (mCons (mVar 3) (mNil)) (fD1 lenD)) (mC (.int 1))) (RR x0 x1 L a b x5 x6 x7 (dist a b) x9 x10 x11 x12 x13 x14 x15 x16 x17 x18 x19) m = .ok (.d (T (List.replicate (a.length + 1) 0))) m := by
    have ht : mTup (mCons (mC (.int 0)) (mNil)) (RR x0 x1 L a b x5 x6 x7 (dist a b) x9 x10 x11 x12 x13 x14 x15 x16 x17 x18 x19) m = .ok (.d (.tuple [.int 0])) m := by simp
    rw [e_Mul, ht, ev_bindV, hadd, ev_bindV, f_lift2, val_d, val_d, peek_d, peek_d]
    dsimp only
    rw [mul0 _ la]
  rw [e_Lst, e_Cons, h1, ev_bindV, e_Cons, h2, ev_bindV, e_Cons, h3, ev_bindV, e_Nil, ev_bind, ev_bind, ev_bind, ev_bind]
  rfl
theorem s_4 (ga : Good a) (gb : Good b) (hl : a.length = b.length) (x17' : Option W) (h17 : x17' = some (.d (.list [T ((List.range a.length).map fun (k : Nat) => 1 + (k : Int)), T (List.replicate (a.length + 1) 0), T ((List.range (a.length + 1)).map fun (k : Nat) => (k : Int))]))) :
    mBool (mOp2 (mLC (mItems (mSl (mVar 17) (oSome (mB (mCons (mOp2 (mB (mCons (mVar 3) (mNil)) (fD1 lenD)) (mC (.int 0)) (lift2 eqD)) (mNil)) (fD1 intD))) (oNone))) [15] (gN 15) (tYesT) (mCall 4 F__law_asked (mCons (mC (.int 3)) (mCons (mVar 3) (mCons (mVar 4) (mCons (mVar 15) (mNil))))))) (mMul (mLst (mCons (mC (.str "!number")) (mNil))) (mSub (mC (.int 3)) (mB (mCons (mOp2 (mB (mCons (mVar 3) (mNil)) (fD1 lenD)) (mC (.int 0)) (lift2 eqD)) (mNil)) (fD1 intD)))) (lift2 neD)) (RR x0 x1 L a b x5 x6 x7 (dist a b) x9 x10 x11 x12 x13 x14 x15 x16 x17' x18 x19) m = .ok false m := by
  subst h17
  have b2 := asked3_bad (m := m) ga gb (.inr (not_len (n := a.length) (o := List.replicate (a.length + 1) 0) (by simp)))
  have b3 := asked3_bad (m := m) ga gb (.inr (not_len (n := a.length) (o := (List.range (a.length + 1)).map fun (k : Nat) => (k : Int)) (by simp)))
  have lst : mLst (mCons (mC (.str "!number")) (mNil)) (RR x0 x1 L a b x5 x6 x7 (dist a b) x9 x10 x11 x12 x13 x14 x15 x16 (some (.d (.list [T ((List.range a.length).map fun (k : Nat) => 1 + (k : Int)), T (List.replicate (a.length + 1) 0), T ((List.range (a.length + 1)).map fun (k : Nat) => (k : Int))]))) x18 x19) m = .ok (.n (.list [.str "!number"])) m := by simp
  by_cases h0 : a.length = 0
  · have hz : mB (mCons (mOp2 (mB (mCons (mVar 3) (mNil)) (fD1 lenD)) (mC (.int 0)) (lift2 eqD)) (mNil)) (fD1 intD) (RR x0 x1 L a b x5 x6 x7 (dist a b) x9 x10 x11 x12 x13 x14 x15 x16 (some (.d (.list [T ((List.range a.length).map fun (k : Nat) => 1 + (k : Int)), T (List.replicate (a.length + 1) 0), T ((List.range (a.length + 1)).map fun (k : Nat) => (k : Int))]))) x18 x19) m = .ok (.d (.int 1)) m := by simp [h0]
    have hs : mSub (mC (.int 3)) (mB (mCons (mOp2 (mB (mCons (mVar 3) (mNil)) (fD1 lenD)) (mC (.int 0)) (lift2 eqD)) (mNil)) (fD1 intD)) (RR x0 x1 L a b x5 x6 x7 (dist a b) x9 x10 x11 x12 x13 x14 x15 x16 (some (.d (.list [T ((List.range a.length).map fun (k : Nat) => 1 + (k : Int)), T (List.replicate (a.length + 1) 0), T ((List.range (a.length + 1)).map fun (k : Nat) => (k : Int))]))) x18 x19) m = .ok (.d (.int 2)) m := by
      rw [e_Sub, e_C, ev_bindV, hz, ev_bindV]; rfl
    rw [e_Bool, e_Op2, mLC_all (m0 := m) [List.replicate (a.length + 1) 0, (List.range (a.length + 1)).map fun (k : Nat) => (k : Int)] T (fun _ => .str "!number") (by
      rw [e_Items, e_Sl, e_Var]
      show (((Rs.ok (W.d (.list [T ((List.range a.length).map fun (k : Nat) => 1 + (k : Int)), T (List.replicate (a.length + 1) 0), T ((List.range (a.length + 1)).map fun (k : Nat) => (k : Int))])) m).bindV _)).bindV _ = _
      rw [ev_bindV, e_oS, hz, ev_bindV, val_d]
      dsimp only
      rw [ev_bind, e_oN, ev_bind, val_d, f_Sl, peek_d]
      dsimp only
      rw [cut_1, ev_bindV]
      rfl) (by simp) (fun o ho => by
      rcases List.mem_cons.mp ho with rfl | ho
      · exact ⟨_, rfl, rfl, .d (.str "!number"), by simp [b2], rfl⟩
      · have := List.mem_singleton.mp ho
        subst this
        exact ⟨_, rfl, rfl, .d (.str "!number"), by simp [b3], rfl⟩)]
    rw [ev_bindV, e_Mul, lst, ev_bindV, hs, ev_bindV, f_lift2, val_n, val_d, peek_d, peek_d]
    dsimp only
    rw [mul_2]
    dsimp only
    rw [ev_bindV, val_n, val_n, f_lift2, peek_d, peek_d]
    dsimp only [List.map]
    rw [ne_n2]
    rfl
  · have b1 := asked3_bad (m := m) ga gb (.inr (not_1 a.length (by omega)))
    have hz : mB (mCons (mOp2 (mB (mCons (mVar 3) (mNil)) (fD1 lenD)) (mC (.int 0)) (lift2 eqD)) (mNil)) (fD1 intD) (RR x0 x1 L a b x5 x6 x7 (dist a b) x9 x10 x11 x12 x13 x14 x15 x16 (some (.d (.list [T ((List.range a.length).map fun (k : Nat) => 1 + (k : Int)), T (List.replicate (a.length + 1) 0), T ((List.range (a.length + 1)).map fun (k : Nat) => (k : Int))]))) x18 x19) m = .ok (.d (.int 0)) m := by
      have hne : a ≠ [] := fun z => h0 (by rw [z]; rfl)
      simp [hne]
    have hs : mSub (mC (.int 3)) (mB (mCons (mOp2 (mB (mCons (mVar 3) (mNil)) (fD1 lenD)) (mC (.int 0)) (lift2 eqD)) (mNil)) (fD1 intD)) (RR x0 x1 L a b x5 x6 x7 (dist a b) x9 x10 x11 x12 x13 x14 x15 x16 (some (.d (.list [T ((List.range a.length).map fun (k : Nat) => 1 + (k : Int)), T (List.replicate (a.length + 1) 0), T ((List.range (a.length + 1)).map fun (k : Nat) => (k : Int))]))) x18 x19) m = .ok (.d (.int 3)) m := by
      rw [e_Sub, e_C, ev_bindV, hz, ev_bindV]; rfl
    rw [e_Bool, e_Op2, mLC_all (m0 := m) [(List.range a.length).map fun (k : Nat) => 1 + (k : Int), List.replicate (a.length + 1) 0, (List.range (a.length + 1)).map fun (k : Nat) => (k : Int)] T (fun _ => .str "!number") (by
      rw [e_Items, e_Sl, e_Var]
      show (((Rs.ok (W.d (.list [T ((List.range a.length).map fun (k : Nat) => 1 + (k : Int)), T (List.replicate (a.length + 1) 0), T ((List.range (a.length + 1)).map fun (k : Nat) => (k : Int))])) m).bindV _)).bindV _ = _
      rw [ev_bindV, e_oS, hz, ev_bindV, val_d]
      dsimp only
      rw [ev_bind, e_oN, ev_bind, val_d, f_Sl, peek_d]
      dsimp only
      rw [cut_0, ev_bindV]
      rfl) (by simp) (fun o ho => by
      rcases List.mem_cons.mp ho with rfl | ho
      · exact ⟨_, rfl, rfl, .d (.str "!number"), by simp [b1], rfl⟩
      rcases List.mem_cons.mp ho with rfl | ho
      · exact ⟨_, rfl, rfl, .d (.str "!number"), by simp [b2], rfl⟩
      · have := List.mem_singleton.mp ho
        subst this
        exact ⟨_, rfl, rfl, .d (.str "!number"), by simp [b3], rfl⟩)]
    rw [ev_bindV, e_Mul, lst, ev_bindV, hs, ev_bindV, f_lift2, val_n, val_d, peek_d, peek_d]
    dsimp only
    rw [mulN_3]
    dsimp only
    rw [ev_bindV, val_n, val_n, f_lift2, peek_d, peek_d]
    dsimp only [List.map]
    rw [ne_n3]
    rfl
theorem st11_ok (ga : Good a) (gb : Good b) (ra : ∀ x ∈ a, 0 ≤ x ∧ x < (L : Int)) (rb : ∀ x ∈ b, 0 ≤ x ∧ x < (L : Int)) (hL : L ≤ 30) (la : a.length ≤ 5) (hm : m.length = 2) :
    ∃ y15 y16 y17, m_st11 (RR x0 x1 L a b x5 x6 x7 (dist a b) x9 x10 x11 x12 x13 x14 x15 x16 x17 x18 x19) m = .nx (RR x0 x1 L a b x5 x6 x7 (dist a b) x9 x10 x11 x12 x13 x14 y15 y16 y17 x18 x19) m := by
  unfold m_st11
  by_cases hl : a.length = b.length
  · obtain ⟨y15, y16, h2⟩ := s_2 (x0 := x0) (x1 := x1) (x5 := x5) (x6 := x6) (x7 := x7) (x9 := x9) (x10 := x10) (x11 := x11) (x12 := x12) (x13 := x13) (x14 := x14) (x15 := x15) (x16 := x16) (x17 := x17) (x18 := x18) (x19 := x19) ga gb ra rb la hm hl
    refine ⟨y15, y16, some (.d (.list [T ((List.range a.length).map fun (k : Nat) => 1 + (k : Int)), T (List.replicate (a.length + 1) 0), T ((List.range (a.length + 1)).map fun (k : Nat) => (k : Int))])), ?_⟩
    rw [e_IfS, s_hT, ev_thenS, if_pos (decide_eq_true hl)]
    refine seq_nx (r1 := RR x0 x1 L a b x5 x6 x7 (dist a b) x9 x10 x11 x12 x13 x14 x15 x16 x17 x18 x19) (m1 := m) ?_ ?_
    · rw [e_IfS, e_Bool, e_Op2, s_1 ga gb ra rb hL hl, ev_bindV]
      simp
    refine seq_nx h2 ?_
    refine seq_nx (r1 := RR x0 x1 L a b x5 x6 x7 (dist a b) x9 x10 x11 x12 x13 x14 y15 y16 (some (.d (.list [T ((List.range a.length).map fun (k : Nat) => 1 + (k : Int)), T (List.replicate (a.length + 1) 0), T ((List.range (a.length + 1)).map fun (k : Nat) => (k : Int))]))) x18 x19) (m1 := m) ?_ ?_
    · rw [e_Set, s_3 la, ev_thenV]
      rfl
    refine seq_nx (r1 := RR x0 x1 L a b x5 x6 x7 (dist a b) x9 x10 x11 x12 x13 x14 y15 y16 (some (.d (.list [T ((List.range a.length).map fun (k : Nat) => 1 + (k : Int)), T (List.replicate (a.length + 1) 0), T ((List.range (a.length + 1)).map fun (k : Nat) => (k : Int))]))) x18 x19) (m1 := m) ?_ rfl
    rw [e_IfS, s_4 ga gb hl _ rfl, ev_thenS, if_neg Bool.false_ne_true]
    rfl
  · refine ⟨x15, x16, x17, ?_⟩
    rw [e_IfS, s_hT, ev_thenS, if_neg (by rw [decide_eq_false hl]; exact Bool.false_ne_true)]
    refine seq_nx (r1 := RR x0 x1 L a b x5 x6 x7 (dist a b) x9 x10 x11 x12 x13 x14 x15 x16 x17 x18 x19) (m1 := m) ?_ rfl
    rw [e_IfS, e_Bool, e_Op2, s_neg ga gb hl, ev_bindV, e_C, ev_bindV]
    simp
end
end Law
namespace Law
open PySem PySem.Spec PyProof.Rows L2 Den Meet
theorem dist_bd : ∀ {a b : List Int}, (∀ x ∈ a, 0 ≤ x ∧ x < 30) → (∀ x ∈ b, 0 ≤ x ∧ x < 30) → 0 ≤ dist a b ∧ dist a b ≤ 30 * (a.length : Int)
  | [], _, _, _ => by simp [dist]
  | x :: a, [], _, _ => by simp [dist]; omega
  | x :: a, y :: b, h1, h2 => by
    have ih := dist_bd (a := a) (b := b) (fun z hz => h1 z (List.mem_cons_of_mem _ hz)) fun z hz => h2 z (List.mem_cons_of_mem _ hz)
    have q1 := h1 x List.mem_cons_self
    have q2 := h2 y List.mem_cons_self
    show 0 ≤ ab (x - y) + dist a b ∧ ab (x - y) + dist a b ≤ 30 * ((x :: a).length : Int)
    rw [List.length_cons]
    unfold ab
    split <;> omega
theorem cnt_bd (t : Int) (a : List Int) : 0 ≤ cnt t a ∧ cnt t a ≤ a.length := by
  refine ⟨cnt_nonneg t a, ?_⟩
  rw [← cnt_len]
  have := List.length_filter_le (fun x => decide (x ≤ t)) a
  omega
section
variable {a b : List Int} {L : Nat} {m : Mem} {x0 x1 x5 x6 x7 x9 x10 x11 x12 x13 x14 x15 x16 x17 x18 x19 : Option W}
theorem rest11_ok (ga : Good a) (gb : Good b) (ra : ∀ x ∈ a, 0 ≤ x ∧ x < (L : Int)) (rb : ∀ x ∈ b, 0 ≤ x ∧ x < (L : Int)) (hL : L ≤ 30) (la : a.length ≤ 5) (d : Dr 3840 1 m) (hm : m.length = 2) :
    Fine (m_rest11 (RR x0 (some (.r 1)) L a b x5 x6 x7 (dist a b) x9 x10 x11 x12 x13 x14 x15 x16 x17 none x19) m) := by
  obtain ⟨y15, y16, y17, h⟩ := st11_ok (x0 := x0) (x1 := some (.r 1)) (x5 := x5) (x6 := x6) (x7 := x7) (x9 := x9) (x10 := x10) (x11 := x11) (x12 := x12) (x13 := x13) (x14 := x14) (x15 := x15) (x16 := x16) (x17 := x17) (x18 := none) (x19 := x19) ga gb ra rb hL la hm
  exact seq_step (c := m_st11) (d := m_rest12) h (rest12_ok ga gb d hm)
theorem rest10_ok (ga : Good a) (gb : Good b) (ra : ∀ x ∈ a, 0 ≤ x ∧ x < (L : Int)) (rb : ∀ x ∈ b, 0 ≤ x ∧ x < (L : Int)) (hL : L ≤ 30) (la : a.length ≤ 5) (lb : b.length ≤ 5) (d : Dr 3840 1 m) (hm : m.length = 2) {t : Int} (t0 : 0 ≤ t) (t1 : t ≤ 1000) :
    Fine (m_rest10 (RR x0 (some (.r 1)) L a b x5 (some (.d (.tuple ((a.zip b).map meetD)))) x7 (dist a b) (some (.d (.int t))) x10 (some (.d (.int (cnt t a - cnt t b)))) x12 x13 x14 x15 x16 x17 none x19) m) := by
  have ba := dist_bd (a := a) (b := b) (fun x hx => by have := ra x hx; omega) fun x hx => by have := rb x hx; omega
  have ca := cnt_bd t a
  have cb := cnt_bd t b
  obtain ⟨s, hs⟩ := repr_row (due := a.zip b) (x := dist a b) (y := cnt t a - cnt t b) (by rw [List.length_zip]; omega) (fun p hp => by
    have q := List.of_mem_zip (a := p.1) (b := p.2) hp
    have := ra _ q.1
    have := rb _ q.2
    omega) (by omega) (by omega)
  have q0 := asked0 (m := m) (z := .none) ga gb
  have q1 := asked1 (m := m) (z := .none) ga gb
  have q2 := asked2 (m := m) ga gb t0 (by omega)
  unfold m_rest10
  exact seq_step (rho' := RR x0 (some (.r 1)) L a b x5 (some (.d (.tuple ((a.zip b).map meetD)))) x7 (dist a b) (some (.d (.int t))) x10 (some (.d (.int (cnt t a - cnt t b)))) x12 x13 x14 x15 x16 x17 none x19) (m' := m) (by simp [q0, q1, q2, hs]) (rest11_ok ga gb ra rb hL la d hm)
theorem rest7_ok (sa : a.Pairwise (· ≤ ·)) (ra : ∀ x ∈ a, 0 ≤ x ∧ x < (L : Int)) (la : a.length ≤ 5) (sb : b.Pairwise (· ≤ ·)) (rb : ∀ x ∈ b, 0 ≤ x ∧ x < (L : Int)) (lb : b.length ≤ 5) (hL' : L = 3 ∨ L = 8 ∨ L = 30) (d : Dr 3840 1 m) (hm : m.length = 2) :
    Fine (m_rest7 [x0, some (.r 1), some (.d (.int L)), some (.d (T a)), some (.d (T b)), x5, some (.d (.tuple ((a.zip b).map meetD))), x7, none, x9, x10, x11, x12, x13, x14, x15, x16, x17, none, x19] m) := by
  have hL : L ≤ 30 := by omega
  have ga : Good a := good_small sa ra (by omega) (by omega)
  have gb : Good b := good_small sb rb (by omega) (by omega)
  have c2 : sumD (.list ((a.zip b).map fun p => .int (if p.2 - p.1 < 0 then -(p.2 - p.1) else p.2 - p.1))) = some (.int (dist a b)) := by
    rw [← due_sum, ← sum_ints, List.map_map]; rfl
  unfold m_rest7
  refine seq_step (rho' := RR x0 (some (.r 1)) L a b x5 (some (.d (.tuple ((a.zip b).map meetD)))) x7 (dist a b) x9 x10 x11 x12 x13 x14 x15 x16 x17 none x19) (m' := m) (by
    rw [e_Set, e_B, e_Cons, mLC_all (m0 := m) (a.zip b) meetD (fun p => .int (if p.2 - p.1 < 0 then -(p.2 - p.1) else p.2 - p.1)) (by simp) (by rw [List.length_zip]; omega) (fun p hp => ⟨[x0, some (.r 1), some (.d (.int L)), some (.d (T a)), some (.d (T b)), x5, some (.d (.tuple ((a.zip b).map meetD))), x7, none, some (.d (.int (if p.2 > p.1 then p.2 else p.1))), some (.d (.int (p.2 - p.1))), x11, x12, x13, x14, x15, x16, x17, none, x19], by simp [meetD], rfl, .d (.int (if p.2 - p.1 < 0 then -(p.2 - p.1) else p.2 - p.1)), by simp, rfl⟩)]
    rw [ev_bindV, e_Nil, ev_bind, ev_bind, val_n, f_D1, peek_d]
    dsimp only
    rw [c2]
    rfl) ?_
  obtain ⟨v, m2, e, v0, v1, d2, l2, _⟩ := next_ok d
  have hp : (0 : Int) < (L : Int) + 3 := by omega
  have t0 := Int.emod_nonneg v (Int.ne_of_gt hp)
  have t1 := Int.emod_lt_of_pos v hp
  generalize ht : v % ((L : Int) + 3) = t at t0 t1
  have hmod : modD v ((L : Int) + 3) = some (.int t) := by rw [mod_pos hp, ht]
  refine seq_step (rho' := RR x0 (some (.r 1)) L a b x5 (some (.d (.tuple ((a.zip b).map meetD)))) x7 (dist a b) (some (.d (.int t))) x10 x11 x12 x13 x14 x15 x16 x17 none x19) (m' := m2) (by simp [e, hmod]) ?_
  have w1 := mLC_of (it := mItems (mVar 3)) (vs := [12]) (g := gN 12) (t := mBool (mOp2 (mVar 12) (mVar 9) (lift2 leD))) (a := mVar 12) (rho := RR x0 (some (.r 1)) L a b x5 (some (.d (.tuple ((a.zip b).map meetD)))) x7 (dist a b) (some (.d (.int t))) x10 x11 x12 x13 x14 x15 x16 x17 none x19) (m := m2) (m0 := m2) a PyData.int (fun x => decide (x ≤ t)) PyData.int
    (by simp) (by omega) fun x hx => ⟨RR x0 (some (.r 1)) L a b x5 (some (.d (.tuple ((a.zip b).map meetD)))) x7 (dist a b) (some (.d (.int t))) x10 x11 (some (.d (.int x))) x13 x14 x15 x16 x17 none x19, by simp, by simp, fun _ => ⟨.d (.int x), by simp, rfl⟩⟩
  have w2 := mLC_of (it := mItems (mVar 4)) (vs := [13]) (g := gN 13) (t := mBool (mOp2 (mVar 13) (mVar 9) (lift2 leD))) (a := mVar 13) (rho := RR x0 (some (.r 1)) L a b x5 (some (.d (.tuple ((a.zip b).map meetD)))) x7 (dist a b) (some (.d (.int t))) x10 x11 x12 x13 x14 x15 x16 x17 none x19) (m := m2) (m0 := m2) b PyData.int (fun x => decide (x ≤ t)) PyData.int
    (by simp) (by omega) fun x hx => ⟨RR x0 (some (.r 1)) L a b x5 (some (.d (.tuple ((a.zip b).map meetD)))) x7 (dist a b) (some (.d (.int t))) x10 x11 x12 (some (.d (.int x))) x14 x15 x16 x17 none x19, by simp, by simp, fun _ => ⟨.d (.int x), by simp, rfl⟩⟩
  refine seq_step (rho' := RR x0 (some (.r 1)) L a b x5 (some (.d (.tuple ((a.zip b).map meetD)))) x7 (dist a b) (some (.d (.int t))) x10 (some (.d (.int (cnt t a - cnt t b)))) x12 x13 x14 x15 x16 x17 none x19) (m' := m2) (by simp [w1, w2, cnt_len]) ?_
  exact rest10_ok ga gb ra rb hL la lb d2 (by omega) t0 (by omega)
end
end Law
namespace Law
open PySem PySem.Spec PyProof.Rows L2 Den Meet
theorem st4_ok {a : List Int} {L : Nat} {m : Mem} {x0 : Option W} (d : Dr 3840 1 m) (hL : 0 < L) (la : a.length ≤ 5) (hm : m.length = 2) :
    ∃ (b : List Int) (m' : Mem), mCall 3 F__law_stream (mCons (mVar 1) (mCons (mIf (mBool (mOp2 (mMod (mB (mCons (mCall 1 F__law_next (mCons (mVar 1) (mNil))) (mNil)) (fD1 intD)) (mC (.int 3))) (mC (.int 0)) (lift2 gtD))) (mB (mCons (mVar 3) (mNil)) (fD1 lenD)) (mMod (mB (mCons (mCall 1 F__law_next (mCons (mVar 1) (mNil))) (mNil)) (fD1 intD)) (mC (.int 6)))) (mCons (mVar 2) (mNil))))
      [x0, some (.r 1), some (.d (.int L)), some (.d (T a)), none, none, none, none, none, none, none, none, none, none, none, none, none, none, none, none] m = .ok (.d (T b)) m' ∧ b.Pairwise (· ≤ ·) ∧ (∀ x ∈ b, 0 ≤ x ∧ x < (L : Int)) ∧ b.length ≤ 5 ∧ Dr 3840 1 m' ∧ m'.length = 2 := by
  generalize hR : ([x0, some (.r 1), some (.d (.int L)), some (.d (T a)), none, none, none, none, none, none, none, none, none, none, none, none, none, none, none, none] : Den.Env) = R0
  have g1 : R0[1]? = some (some (.r 1)) := by rw [← hR]; rfl
  have g2 : R0[2]? = some (some (.d (.int L))) := by rw [← hR]; rfl
  have g3 : R0[3]? = some (some (.d (T a))) := by rw [← hR]; rfl
  have v1 : ∀ m, mVar 1 R0 m = .ok (.r 1) m := fun m => by rw [e_Var, g1]
  have v2 : ∀ m, mVar 2 R0 m = .ok (.d (.int L)) m := fun m => by rw [e_Var, g2]
  have v3 : ∀ m, mVar 3 R0 m = .ok (.d (T a)) m := fun m => by rw [e_Var, g3]
  have nx : ∀ {m m' : Mem} {v : Int}, F__law_next [.r 1] m = .ok (.d (.int v)) m' → mB (mCons (mCall 1 F__law_next (mCons (mVar 1) (mNil))) (mNil)) (fD1 intD) R0 m = .ok (.d (.int v)) m' := fun {m m' v} h => by
    rw [e_B, e_Cons, e_Call, e_Cons, v1, ev_bindV, e_Nil, ev_bind, ev_bind, val_r, if_pos (by rfl : ([W.r 1] : List W).length = 1), h, ev_bindV, e_Nil, ev_bind, ev_bind, val_d, f_D1, peek_d]
    dsimp only
    rw [int_i]
  obtain ⟨v, m1, f1, w0, w1, d1, l1, _⟩ := next_ok d
  have hc : mBool (mOp2 (mMod (mB (mCons (mCall 1 F__law_next (mCons (mVar 1) (mNil))) (mNil)) (fD1 intD)) (mC (.int 3))) (mC (.int 0)) (lift2 gtD)) R0 m = .ok (decide (0 < v % 3)) m1 := by
    rw [e_Bool, e_Op2, e_Mod, nx f1, ev_bindV, e_C, ev_bindV, f_lift2, val_d, val_d, peek_d, peek_d]
    dsimp only
    rw [on_ii, mod_3]
    dsimp only [Option.map]
    rw [ev_bindV, e_C, ev_bindV, f_lift2, val_d, val_d, peek_d, peek_d]
    dsimp only
    rw [gt_i]
    rfl
  have call : ∀ {k : Int} {m2 m3 : Mem} {b : List Int}, mIf (mBool (mOp2 (mMod (mB (mCons (mCall 1 F__law_next (mCons (mVar 1) (mNil))) (mNil)) (fD1 intD)) (mC (.int 3))) (mC (.int 0)) (lift2 gtD))) (mB (mCons (mVar 3) (mNil)) (fD1 lenD)) (mMod (mB (mCons (mCall 1 F__law_next (mCons (mVar 1) (mNil))) (mNil)) (fD1 intD)) (mC (.int 6))) R0 m = .ok (.d (.int k)) m2 →
      F__law_stream [.r 1, .d (.int k), .d (.int L)] m2 = .ok (.d (T b)) m3 → mCall 3 F__law_stream (mCons (mVar 1) (mCons (mIf (mBool (mOp2 (mMod (mB (mCons (mCall 1 F__law_next (mCons (mVar 1) (mNil))) (mNil)) (fD1 intD)) (mC (.int 3))) (mC (.int 0)) (lift2 gtD))) (mB (mCons (mVar 3) (mNil)) (fD1 lenD)) (mMod (mB (mCons (mCall 1 F__law_next (mCons (mVar 1) (mNil))) (mNil)) (fD1 intD)) (mC (.int 6)))) (mCons (mVar 2) (mNil)))) R0 m = .ok (.d (T b)) m3 := fun {k m2 m3 b} h h2 => by
    rw [e_Call, e_Cons, v1, ev_bindV, e_Cons, h, ev_bindV, e_Cons, v2, ev_bindV, e_Nil, ev_bind, ev_bind, ev_bind, ev_bind, val_r, val_d, val_d, if_pos (by rfl : ([W.r 1, W.d (.int k), W.d (.int L)] : List W).length = 3), h2]
  by_cases hv : 0 < v % 3
  · obtain ⟨b, m7, f2, sb, rb, lb, q1, q2⟩ := stream_ok (k := (a.length : Int)) (long := (L : Int)) d1 (by omega) (by omega) (by omega)
    refine ⟨b, m7, call ?_ f2, sb, rb, by omega, q1, by omega⟩
    rw [e_If, hc, ev_bind, if_pos (decide_eq_true hv), e_B, e_Cons, v3, ev_bindV, e_Nil, ev_bind, ev_bind, val_d, f_D1, peek_d]
    dsimp only
    rw [len_t, ints_len]
  · obtain ⟨v5, m8, f3, u0, u1, q3, n3, _⟩ := next_ok d1
    obtain ⟨b, m7, f2, sb, rb, lb, q1, q2⟩ := stream_ok (k := v5 % 6) (long := (L : Int)) q3 (by omega) (by omega) (by omega)
    refine ⟨b, m7, call ?_ f2, sb, rb, by omega, q1, by omega⟩
    rw [e_If, hc, ev_bind, if_neg (by rw [decide_eq_false hv]; exact Bool.false_ne_true), e_Mod, nx f3, ev_bindV, e_C, ev_bindV, f_lift2, val_d, val_d, peek_d, peek_d]
    dsimp only
    rw [on_ii, mod_6]
    rfl
theorem law_true (ns : List Int) (hl : ns.length ≤ 63) : F_law [.s (ns.map .int)] [] = .ok (.d (.bool true)) [] := by
  suffices h : Fine (m_law (startE 20 [.s (ns.map .int)]) []) by
    obtain ⟨mf, h⟩ := h
    unfold F_law runF
    rw [h]; rfl
  obtain ⟨ds, e0, r0, l0⟩ := draws_ok ns hl
  unfold m_law
  refine seq_step (rho' := [some (.s (ns.map .int)), some (.r 0), none, none, none, none, none, none, none, none, none, none, none, none, none, none, none, none, none, none]) (m' := [some (.list (ds.map .int))]) (by simp [startE, e0]) ?_
  have d0 : Dr 3780 0 [some (.list (ds.map .int))] := ⟨ds, rfl, r0, l0⟩
  obtain ⟨es, m1, e1, r1, l1, len1⟩ := more_ok (k := 60) d0 (by decide) (by decide) (by decide)
  refine seq_step (rho' := [some (.s (ns.map .int)), some (.r 1), none, none, none, none, none, none, none, none, none, none, none, none, none, none, none, none, none, none]) (m' := m1 ++ [some (.list (es.map .int))]) (by simp [e1, len1]) ?_
  have d1 : Dr 3840 1 (m1 ++ [some (.list (es.map .int))]) := ⟨es, by have := get_last m1 (some (PyData.list (es.map .int))); rw [len1] at this; exact this, r1, l1⟩
  have len2 : (m1 ++ [some (PyData.list (es.map .int))] : Mem).length = 2 := by rw [List.length_append, len1]; rfl
  generalize (m1 ++ [some (PyData.list (es.map .int))] : Mem) = m2 at d1 len2 ⊢
  obtain ⟨x, m3, e2, hx, d2, len3⟩ := pick_ok (some_ := [.int 3, .int 8, .int 30]) d1 (by simp)
  obtain ⟨L, rfl, hL⟩ : ∃ L : Nat, x = .int (L : Int) ∧ (L = 3 ∨ L = 8 ∨ L = 30) := by
    simp at hx
    rcases hx with rfl | rfl | rfl
    · exact ⟨3, rfl, by simp⟩
    · exact ⟨8, rfl, by simp⟩
    · exact ⟨30, rfl, by simp⟩
  refine seq_step (rho' := [some (.s (ns.map .int)), some (.r 1), some (.d (.int L)), none, none, none, none, none, none, none, none, none, none, none, none, none, none, none, none, none]) (m' := m3) (by simp [e2]) ?_
  obtain ⟨v1, m4, e3, v10, v11, d3, len4, _⟩ := next_ok d2
  obtain ⟨a, m5, e4, sa, ra, la, d4, len5⟩ := stream_ok (k := v1 % 6) (long := (L : Int)) d3 (by omega) (by omega) (by omega)
  refine seq_step (rho' := [some (.s (ns.map .int)), some (.r 1), some (.d (.int L)), some (.d (T a)), none, none, none, none, none, none, none, none, none, none, none, none, none, none, none, none]) (m' := m5) (by simp [e3, e4]) ?_
  have la5 : a.length ≤ 5 := by omega
  have len5' : m5.length = 2 := by omega
  obtain ⟨b, m6, e5, sb, rb, lb5, d5, len6⟩ := st4_ok (x0 := some (.s (ns.map .int))) d4 (by omega : 0 < L) la5 len5'
  refine seq_step (rho' := [some (.s (ns.map .int)), some (.r 1), some (.d (.int L)), some (.d (T a)), some (.d (T b)), none, none, none, none, none, none, none, none, none, none, none, none, none, none, none]) (m' := m6) (by rw [e_Set, e5, ev_thenV]; rfl) ?_
  have ga : Good a := good_small sa ra (by omega) (by omega)
  have gb : Good b := good_small sb rb (by omega) (by omega)
  generalize hn : min a.length b.length = n
  have hmin : (if b.length < a.length then (b.length : Int) else (a.length : Int)) = (n : Int) := by split <;> omega
  refine seq_step (rho' := [some (.s (ns.map .int)), some (.r 1), some (.d (.int L)), some (.d (T a)), some (.d (T b)), some (.d (.int n)), none, none, none, none, none, none, none, none, none, none, none, none, none, none]) (m' := m6) (by simp [hmin]) ?_
  -- due
  refine seq_step (rho' := [some (.s (ns.map .int)), some (.r 1), some (.d (.int L)), some (.d (T a)), some (.d (T b)), some (.d (.int n)), some (.d (.tuple ((a.zip b).map meetD))), none, none, none, none, none, none, none, none, none, none, none, none, none]) (m' := m6) (by
    rw [e_Set, e_B, e_Cons, mLC_all (m0 := m6) (List.range n) (fun (k : Nat) => .int (k : Int)) (fun (k : Nat) => meetD (a[k]?.getD 0, b[k]?.getD 0)) (range_hit (by simp) (by omega)) (by rw [List.length_range]; omega) (fun k hk => by
      have hk' := List.mem_range.mp hk
      have q1 := at_nat (b := a) (k := k) (by omega)
      have q2 := at_nat (b := b) (k := k) (by omega)
      exact ⟨_, rfl, rfl, .d (meetD (a[k]?.getD 0, b[k]?.getD 0)), by simp [q1, q2, meetD], rfl⟩), range_zip a b n hn.symm]
    simp) ?_
  exact rest7_ok sa ra la5 sb rb lb5 hL d5 len6
end Law
open PySem PySem.W PyProof.Rows
set_option maxHeartbeats 0 in
theorem PySem.Challenge.cw_queuenets_k37_streams_that_meet_holds : PySem.Challenge.rw_queuenets_k37_streams_that_meet.Holds := by
  w_on; o_law; k_head; (case hw => w_witness2)
  k_fill
  refine Den.walk_G (l := PySem.Challenge.rw_queuenets_k37_streams_that_meet) (n := 63) (k := 5) (x := "script") (fm := Law.F_law) rfl (by decide) rfl ⟨rfl, by decide, by decide⟩ rfl (fun w h Y => PySem.W.kIn_of Y) ?F (fun ns hl => Law.law_true ns hl)
  case F =>
    intro w mg fa h KX G hmg
    refine' Law.all_mk KX G hmg ?a_are_times ?l_are_times ?c_are_times ?k_are_times ?a_check_streams ?l_check_streams ?c_check_streams ?k_check_streams ?a_meetings ?l_meetings ?c_meetings ?k_meetings ?a_sum_of_waits ?l_sum_of_waits ?c_sum_of_waits ?k_sum_of_waits ?a_waiting_at ?l_waiting_at ?c_waiting_at ?k_waiting_at ?a_pairing_waits ?l_pairing_waits ?c_pairing_waits ?k_pairing_waits ?a__law_number ?l__law_number ?c__law_number ?k__law_number ?a__law_draws ?l__law_draws ?c__law_draws ?k__law_draws ?a__law_flat ?l__law_flat ?c__law_flat ?k__law_flat ?a__law_next ?l__law_next ?c__law_next ?k__law_next ?a__law_more ?l__law_more ?c__law_more ?k__law_more ?a__law_pick ?l__law_pick ?c__law_pick ?k__law_pick ?a__law_orders ?l__law_orders ?c__law_orders ?k__law_orders ?a__law_stream ?l__law_stream ?c__law_stream ?k__law_stream ?a__law_kind ?l__law_kind ?c__law_kind ?k__law_kind ?a__law_asked ?l__law_asked ?c__law_asked ?k__law_asked ?a_law ?l_law ?c_law ?k_law ?z_abs ?z_all ?z_int ?z_isinstance ?z_len ?z_list ?z_max ?z_min ?z_range ?z_repr ?z_sorted ?z_sum ?z_tuple ?z_zip ?v_MOST_CUSTOMERS ?v_MOST_TIME ?g_NotChain ?s_NotChain ?y_NotChain ?g_NotNet ?s_NotNet ?y_NotNet ?g_NotTrace ?s_NotTrace ?y_NotTrace ?g_NotPaper ?s_NotPaper ?y_NotPaper ?g_BadNumber ?s_BadNumber ?y_BadNumber ?g_NoAnswer ?s_NoAnswer ?y_NoAnswer ?g_TooLarge ?s_TooLarge ?y_TooLarge ?g_QueueError ?s_QueueError ?y_QueueError ?e_BadNumber ?p_BadNumber ?e_NotTrace ?p_NotTrace ?q_h ?q_n ?q_t ?u_NotChain ?n1_NotChain ?n2_NotChain ?n3_NotChain ?n4_NotChain ?n5_NotChain ?kit_NotChain_NotChain ?kit_NotChain_NotNet ?kit_NotChain_NotTrace ?kit_NotChain_NotPaper ?kit_NotChain_BadNumber ?kit_NotChain_NoAnswer ?kit_NotChain_TooLarge ?u_NotNet ?n1_NotNet ?n2_NotNet ?n3_NotNet ?n4_NotNet ?n5_NotNet ?kit_NotNet_NotChain ?kit_NotNet_NotNet ?kit_NotNet_NotTrace ?kit_NotNet_NotPaper ?kit_NotNet_BadNumber ?kit_NotNet_NoAnswer ?kit_NotNet_TooLarge ?u_NotTrace ?n1_NotTrace ?n2_NotTrace ?n3_NotTrace ?n4_NotTrace ?n5_NotTrace ?kit_NotTrace_NotChain ?kit_NotTrace_NotNet ?kit_NotTrace_NotTrace ?kit_NotTrace_NotPaper ?kit_NotTrace_BadNumber ?kit_NotTrace_NoAnswer ?kit_NotTrace_TooLarge ?u_NotPaper ?n1_NotPaper ?n2_NotPaper ?n3_NotPaper ?n4_NotPaper ?n5_NotPaper ?kit_NotPaper_NotChain ?kit_NotPaper_NotNet ?kit_NotPaper_NotTrace ?kit_NotPaper_NotPaper ?kit_NotPaper_BadNumber ?kit_NotPaper_NoAnswer ?kit_NotPaper_TooLarge ?u_BadNumber ?n1_BadNumber ?n2_BadNumber ?n3_BadNumber ?n4_BadNumber ?n5_BadNumber ?kit_BadNumber_NotChain ?kit_BadNumber_NotNet ?kit_BadNumber_NotTrace ?kit_BadNumber_NotPaper ?kit_BadNumber_BadNumber ?kit_BadNumber_NoAnswer ?kit_BadNumber_TooLarge ?u_NoAnswer ?n1_NoAnswer ?n2_NoAnswer ?n3_NoAnswer ?n4_NoAnswer ?n5_NoAnswer ?kit_NoAnswer_NotChain ?kit_NoAnswer_NotNet ?kit_NoAnswer_NotTrace ?kit_NoAnswer_NotPaper ?kit_NoAnswer_BadNumber ?kit_NoAnswer_NoAnswer ?kit_NoAnswer_TooLarge ?u_TooLarge ?n1_TooLarge ?n2_TooLarge ?n3_TooLarge ?n4_TooLarge ?n5_TooLarge ?kit_TooLarge_NotChain ?kit_TooLarge_NotNet ?kit_TooLarge_NotTrace ?kit_TooLarge_NotPaper ?kit_TooLarge_BadNumber ?kit_TooLarge_NoAnswer ?kit_TooLarge_TooLarge
    (case a_are_times => k_is)
    (case l_are_times => k_is)
    (case c_are_times => k_is)
    (case k_are_times => k_is)
    (case a_check_streams => k_is)
    (case l_check_streams => k_is)
    (case c_check_streams => k_is)
    (case k_check_streams => k_is)
    (case a_meetings => k_is)
    (case l_meetings => k_is)
    (case c_meetings => k_is)
    (case k_meetings => k_is)
    (case a_sum_of_waits => k_is)
    (case l_sum_of_waits => k_is)
    (case c_sum_of_waits => k_is)
    (case k_sum_of_waits => k_is)
    (case a_waiting_at => k_is)
    (case l_waiting_at => k_is)
    (case c_waiting_at => k_is)
    (case k_waiting_at => k_is)
    (case a_pairing_waits => k_is)
    (case l_pairing_waits => k_is)
    (case c_pairing_waits => k_is)
    (case k_pairing_waits => k_is)
    (case a__law_number => k_is)
    (case l__law_number => k_is)
    (case c__law_number => k_is)
    (case k__law_number => k_is)
    (case a__law_draws => k_is)
    (case l__law_draws => k_is)
    (case c__law_draws => k_is)
    (case k__law_draws => k_is)
    (case a__law_flat => k_is)
    (case l__law_flat => k_is)
    (case c__law_flat => k_is)
    (case k__law_flat => k_is)
    (case a__law_next => k_is)
    (case l__law_next => k_is)
    (case c__law_next => k_is)
    (case k__law_next => k_is)
    (case a__law_more => k_is)
    (case l__law_more => k_is)
    (case c__law_more => k_is)
    (case k__law_more => k_is)
    (case a__law_pick => k_is)
    (case l__law_pick => k_is)
    (case c__law_pick => k_is)
    (case k__law_pick => k_is)
    (case a__law_orders => k_is)
    (case l__law_orders => k_is)
    (case c__law_orders => k_is)
    (case k__law_orders => k_is)
    (case a__law_stream => k_is)
    (case l__law_stream => k_is)
    (case c__law_stream => k_is)
    (case k__law_stream => k_is)
    (case a__law_kind => k_is)
    (case l__law_kind => k_is)
    (case c__law_kind => k_is)
    (case k__law_kind => k_is)
    (case a__law_asked => k_is)
    (case l__law_asked => k_is)
    (case c__law_asked => k_is)
    (case k__law_asked => k_is)
    (case a_law => k_is)
    (case l_law => k_is)
    (case c_law => k_is)
    (case k_law => k_is)
    (case z_abs => k_is)
    (case z_all => k_is)
    (case z_int => k_is)
    (case z_isinstance => k_is)
    (case z_len => k_is)
    (case z_list => k_is)
    (case z_max => k_is)
    (case z_min => k_is)
    (case z_range => k_is)
    (case z_repr => k_is)
    (case z_sorted => k_is)
    (case z_sum => k_is)
    (case z_tuple => k_is)
    (case z_zip => k_is)
    (case v_MOST_CUSTOMERS => k_is)
    (case v_MOST_TIME => k_is)
    (case g_NotChain => k_is)
    (case s_NotChain => k_is)
    (case y_NotChain => k_is)
    (case g_NotNet => k_is)
    (case s_NotNet => k_is)
    (case y_NotNet => k_is)
    (case g_NotTrace => k_is)
    (case s_NotTrace => k_is)
    (case y_NotTrace => k_is)
    (case g_NotPaper => k_is)
    (case s_NotPaper => k_is)
    (case y_NotPaper => k_is)
    (case g_BadNumber => k_is)
    (case s_BadNumber => k_is)
    (case y_BadNumber => k_is)
    (case g_NoAnswer => k_is)
    (case s_NoAnswer => k_is)
    (case y_NoAnswer => k_is)
    (case g_TooLarge => k_is)
    (case s_TooLarge => k_is)
    (case y_TooLarge => k_is)
    (case g_QueueError => k_is)
    (case s_QueueError => k_is)
    (case y_QueueError => k_is)
    (case e_BadNumber => k_exc)
    (case p_BadNumber => k_is)
    (case e_NotTrace => k_exc)
    (case p_NotTrace => k_is)
    (case q_h => k_is)
    (case q_n => k_is)
    (case q_t => k_is)
    (case u_NotChain => k_is)
    (case n1_NotChain => k_is)
    (case n2_NotChain => k_is)
    (case n3_NotChain => k_is)
    (case n4_NotChain => k_is)
    (case n5_NotChain => k_is)
    (case kit_NotChain_NotChain => kit_is)
    (case kit_NotChain_NotNet => kit_is)
    (case kit_NotChain_NotTrace => kit_is)
    (case kit_NotChain_NotPaper => kit_is)
    (case kit_NotChain_BadNumber => kit_is)
    (case kit_NotChain_NoAnswer => kit_is)
    (case kit_NotChain_TooLarge => kit_is)
    (case u_NotNet => k_is)
    (case n1_NotNet => k_is)
    (case n2_NotNet => k_is)
    (case n3_NotNet => k_is)
    (case n4_NotNet => k_is)
    (case n5_NotNet => k_is)
    (case kit_NotNet_NotChain => kit_is)
    (case kit_NotNet_NotNet => kit_is)
    (case kit_NotNet_NotTrace => kit_is)
    (case kit_NotNet_NotPaper => kit_is)
    (case kit_NotNet_BadNumber => kit_is)
    (case kit_NotNet_NoAnswer => kit_is)
    (case kit_NotNet_TooLarge => kit_is)
    (case u_NotTrace => k_is)
    (case n1_NotTrace => k_is)
    (case n2_NotTrace => k_is)
    (case n3_NotTrace => k_is)
    (case n4_NotTrace => k_is)
    (case n5_NotTrace => k_is)
    (case kit_NotTrace_NotChain => kit_is)
    (case kit_NotTrace_NotNet => kit_is)
    (case kit_NotTrace_NotTrace => kit_is)
    (case kit_NotTrace_NotPaper => kit_is)
    (case kit_NotTrace_BadNumber => kit_is)
    (case kit_NotTrace_NoAnswer => kit_is)
    (case kit_NotTrace_TooLarge => kit_is)
    (case u_NotPaper => k_is)
    (case n1_NotPaper => k_is)
    (case n2_NotPaper => k_is)
    (case n3_NotPaper => k_is)
    (case n4_NotPaper => k_is)
    (case n5_NotPaper => k_is)
    (case kit_NotPaper_NotChain => kit_is)
    (case kit_NotPaper_NotNet => kit_is)
    (case kit_NotPaper_NotTrace => kit_is)
    (case kit_NotPaper_NotPaper => kit_is)
    (case kit_NotPaper_BadNumber => kit_is)
    (case kit_NotPaper_NoAnswer => kit_is)
    (case kit_NotPaper_TooLarge => kit_is)
    (case u_BadNumber => k_is)
    (case n1_BadNumber => k_is)
    (case n2_BadNumber => k_is)
    (case n3_BadNumber => k_is)
    (case n4_BadNumber => k_is)
    (case n5_BadNumber => k_is)
    (case kit_BadNumber_NotChain => kit_is)
    (case kit_BadNumber_NotNet => kit_is)
    (case kit_BadNumber_NotTrace => kit_is)
    (case kit_BadNumber_NotPaper => kit_is)
    (case kit_BadNumber_BadNumber => kit_is)
    (case kit_BadNumber_NoAnswer => kit_is)
    (case kit_BadNumber_TooLarge => kit_is)
    (case u_NoAnswer => k_is)
    (case n1_NoAnswer => k_is)
    (case n2_NoAnswer => k_is)
    (case n3_NoAnswer => k_is)
    (case n4_NoAnswer => k_is)
    (case n5_NoAnswer => k_is)
    (case kit_NoAnswer_NotChain => kit_is)
    (case kit_NoAnswer_NotNet => kit_is)
    (case kit_NoAnswer_NotTrace => kit_is)
    (case kit_NoAnswer_NotPaper => kit_is)
    (case kit_NoAnswer_BadNumber => kit_is)
    (case kit_NoAnswer_NoAnswer => kit_is)
    (case kit_NoAnswer_TooLarge => kit_is)
    (case u_TooLarge => k_is)
    (case n1_TooLarge => k_is)
    (case n2_TooLarge => k_is)
    (case n3_TooLarge => k_is)
    (case n4_TooLarge => k_is)
    (case n5_TooLarge => k_is)
    (case kit_TooLarge_NotChain => kit_is)
    (case kit_TooLarge_NotNet => kit_is)
    (case kit_TooLarge_NotTrace => kit_is)
    (case kit_TooLarge_NotPaper => kit_is)
    (case kit_TooLarge_BadNumber => kit_is)
    (case kit_TooLarge_NoAnswer => kit_is)
    (case kit_TooLarge_TooLarge => kit_is)
