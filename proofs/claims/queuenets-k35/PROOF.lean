import PyProof.Rows.All
import Wide.All
import OpenK.AllK
import Wide.FinOn
import HandS.ForMost
import HandS.Exc
import HandS.TryOnly
import HandS.ExcOwn
import HandS.CallSlots
import HandS.HotCalls
import HandS.Zip
import HandS.Wide
import HandS.Conv
import HandS.Deep
import HandS.TupMul
import HandS.TupAny
import KE.SortData
import HandS.Flow
import HandS.ExcIs
import HandS.ExcCtx
import HandS.Ends
import KE.KDictList
import HandS.Style
import HandS.IsInst
import KE.GoesEnum
import KE.GoesZip
import HandS.Star
import PySem.Challenge.RW_queuenets_k35_links_used_together
set_option maxHeartbeats 4000000
set_option Elab.async false
set_option linter.all false
set_option maxRecDepth 100000
set_option autoImplicit false
/-! Den1: pure data, a small memory of mutable containers, computations, and how they lie in HandS' abstract heap. -/
namespace Den
open PySem PySem.Spec PyProof.Rows L2

abbrev D := PyData
abbrev St := L2.St
/-- what a name holds: pure data, a handle of a mutable container, a def of the module; n: a container just made; s: the script; e: a caught error -/
inductive W where
  | d (x : D) | r (n : Nat) | n (x : D) | f (x : Str) | s (xs : List D) | e (a : Addr)
/-- what a handle names: a list or a dict; nothing any more -/
abbrev Mem := List (Option D)
abbrev Env := List (Option W)
inductive Exc where
  | own (x : Str)
  | low (x : Str) (fld : Str) (v : D)
  deriving Inhabited
inductive Rs (β : Type) where
  | ok (b : β) (m : Mem) | ex (c : Exc) (m : Mem) | no
abbrev EM (β : Type) := Env → Mem → Rs β

def val : W → W
  | .n x => .d x
  | w => w
def Rs.bind {β γ : Type} : Rs β → (β → Mem → Rs γ) → Rs γ
  | .ok b m, k => k b m
  | .ex c m, _ => .ex c m
  | .no, _ => .no
/-- the value of an operand -/
def Rs.bindV {γ : Type} : Rs W → (W → Mem → Rs γ) → Rs γ
  | .ok w m, k => k (val w) m
  | .ex c m, _ => .ex c m
  | .no, _ => .no
/-- the data that an operand is -/
def peek (m : Mem) : W → Option D
  | .d x => some x
  | .n x => some x
  | .r n => (m[n]?).join
  | .f _ => none
  | .s _ => none
  | .e _ => none

section
variable (K : PySem.W.Frag) (O : Addr → Prop) (H : Hp)
/-- a list that nobody may change: not one of the mutable ones -/
def SqF (a : Addr) (vs : List V) : Prop := H a = some (.lst vs) ∧ ¬ O a
/-- the script: a list that is locked, or of the module -/
def SqS (a : Addr) (vs : List V) : Prop :=
  (∃ o, H a = some (.frz o (.lst vs))) ∨
    ∃ (o : Obj) (its : Array Value) (n : Nat), K.lookup a = some o ∧ o.cls = .type "list" ∧ o.dict = none ∧ o.data = .seq its n ∧ its.size ≤ sizeLine ∧ Vals vs its.toList
/-- a tuple that was made in the run -/
abbrev TupA (_K : PySem.W.Frag) (H : Hp) (a : Addr) (vs : List V) : Prop := H a = some (.tup vs)
/-- a key of a dict: an int or a text -/
def keyD : Key → D
  | .inl i => .int i
  | .inr x => .str x
mutual
def RepD : D → V → Prop
  | .none, v => v = .non
  | .bool b, v => v = .bl b
  | .int i, v => v = .int i
  | .str x, v => v = .str x
  | .tuple ds, v => ∃ a vs, v = .ref a ∧ TupA K H a vs ∧ RepDs ds vs
  | .list ds, v => ∃ a vs, v = .ref a ∧ SqF O H a vs ∧ RepDs ds vs
  | .dict kvs, v => ∃ a, v = .ref a ∧ ¬ O a ∧ ((∃ kz, Rd H a (.dK kz) ∧ RepK kvs kz) ∨ (∃ kz, Rd H a (.dT kz) ∧ RepT kvs kz))
def RepDs : List D → List V → Prop
  | [], vs => vs = []
  | x :: ds, vs => ∃ v r, vs = v :: r ∧ RepD x v ∧ RepDs ds r
def RepK : List (D × D) → List (Key × V) → Prop
  | [], kz => kz = []
  | (k, x) :: kvs, kz => ∃ key v r, kz = (key, v) :: r ∧ k = keyD key ∧ RepD x v ∧ RepK kvs r
def RepT : List (D × D) → List (List Key × V) → Prop
  | [], kz => kz = []
  | (k, x) :: kvs, kz => ∃ key v r, kz = (key, v) :: r ∧ k = .tuple (key.map keyD) ∧ RepD x v ∧ RepT kvs r
end
/-- a mutable container's object -/
def ObOk : D → Addr → Prop
  | .list ds, a => ∃ vs, H a = some (.lst vs) ∧ RepDs K O H ds vs
  | .dict kvs, a => (∃ kz, H a = some (.dK kz) ∧ RepK K O H kvs kz) ∨ (∃ kz, H a = some (.dT kz) ∧ RepT K O H kvs kz)
  | _, _ => False
end

/-- a dict that is walked is locked from then on -/
inductive Lk : HO → HO → Prop where
  | refl (o : HO) : Lk o o
  | k (od : Obj) (kz : List (Key × V)) : Lk (.dK kz) (.frz od (.dK kz))
  | t (od : Obj) (kz : List (List Key × V)) : Lk (.dT kz) (.frz od (.dT kz))
/-- the mutable ones are left to whoever changes them, all else stays; a new mutable one is new -/
structure Ext (O : Addr → Prop) (H : Hp) (O' : Addr → Prop) (H' : Hp) : Prop where
  tup : ∀ a vs, H a = some (.tup vs) → H' a = some (.tup vs)
  frz : ∀ a o u, H a = some (.frz o u) → H' a = some (.frz o u)
  oth : ∀ a o, H a = some o → ¬ O a → ∃ o', H' a = some o' ∧ Lk o o'
  new : ∀ a, O' a → O a ∨ H a = none
theorem Ext.of {O O' : Addr → Prop} {H H' : Hp} (t : ∀ a vs, H a = some (.tup vs) → H' a = some (.tup vs)) (f : ∀ a o u, H a = some (.frz o u) → H' a = some (.frz o u)) (o : ∀ a o, H a = some o → ¬ O a → H' a = some o)
    (n : ∀ a, O' a → O a ∨ H a = none) : Ext O H O' H' := ⟨t, f, fun a x h q => ⟨x, o a x h q, .refl x⟩, n⟩
theorem Ext.refl {O : Addr → Prop} {H : Hp} : Ext O H O H := .of (fun _ _ h => h) (fun _ _ _ h => h) (fun _ _ h _ => h) (fun _ h => .inl h)
theorem Ext.lst {O O' : Addr → Prop} {H H' : Hp} (e : Ext O H O' H') {a : Addr} {vs : List V} (h : H a = some (.lst vs)) (n : ¬ O a) : H' a = some (.lst vs) := by
  obtain ⟨o', h1, l⟩ := e.oth a _ h n
  cases l
  exact h1
theorem Ext.rdK {O O' : Addr → Prop} {H H' : Hp} (e : Ext O H O' H') {a : Addr} {kz : List (Key × V)} (h : Rd H a (.dK kz)) (n : ¬ O a) : Rd H' a (.dK kz) := by
  rcases h with h | ⟨o, h⟩
  · obtain ⟨o', h1, l⟩ := e.oth a _ h n
    cases l with
    | refl => exact .inl h1
    | k od => exact .inr ⟨od, h1⟩
  · exact .inr ⟨o, e.frz _ _ _ h⟩
theorem Ext.rdT {O O' : Addr → Prop} {H H' : Hp} (e : Ext O H O' H') {a : Addr} {kz : List (List Key × V)} (h : Rd H a (.dT kz)) (n : ¬ O a) : Rd H' a (.dT kz) := by
  rcases h with h | ⟨o, h⟩
  · obtain ⟨o', h1, l⟩ := e.oth a _ h n
    cases l with
    | refl => exact .inl h1
    | t od => exact .inr ⟨od, h1⟩
  · exact .inr ⟨o, e.frz _ _ _ h⟩
theorem rd_some {H : Hp} {a : Addr} {u : HO} (h : Rd H a u) : ∃ o, H a = some o := by
  rcases h with h | ⟨o, h⟩ <;> exact ⟨_, h⟩
theorem Ext.trans {O O1 O2 : Addr → Prop} {H H1 H2 : Hp} (e : Ext O H O1 H1) (e2 : Ext O1 H1 O2 H2) : Ext O H O2 H2 where
  tup := fun a vs h => e2.tup a vs (e.tup a vs h)
  frz := fun a o u h => e2.frz a o u (e.frz a o u h)
  oth := fun a o h n => by
    have n1 : ¬ O1 a := fun z => (e.new a z).elim n fun q => by rw [h] at q; cases q
    obtain ⟨o1, h1, l1⟩ := e.oth a o h n
    cases l1 with
    | refl => exact e2.oth a o h1 n1
    | k od => exact ⟨_, e2.frz _ _ _ h1, .k od _⟩
    | t od => exact ⟨_, e2.frz _ _ _ h1, .t od _⟩
  new := fun a z => by
    rcases e2.new a z with q | q
    · exact e.new a q
    · cases hh : H a with
      | none => exact .inr rfl
      | some o =>
        by_cases n : O a
        · exact .inl n
        · obtain ⟨o1, h1, _⟩ := e.oth a o hh n
          rw [q] at h1; cases h1
theorem Ext.weak {O O1 O2 : Addr → Prop} {H H1 : Hp} (e : Ext O H O1 H1) (h : ∀ a, O2 a → O1 a) : Ext O H O2 H1 := ⟨e.tup, e.frz, e.oth, fun a z => e.new a (h a z)⟩

section
variable {K : PySem.W.Frag} {O O' : Addr → Prop} {H H' : Hp} {a : Addr} {vs : List V}
theorem sqT_ext (e : Ext O H O' H') (h : SqT K H a vs) : SqT K H' a vs := by
  rcases h with (h | ⟨o, h⟩) | h
  · exact .inl (.inl (e.tup _ _ h))
  · exact .inl (.inr ⟨o, e.frz _ _ _ h⟩)
  · exact .inr h
theorem sqP (h : H a = some (.tup vs)) : SqT K H a vs := .inl (.inl h)
theorem sqF_ext (e : Ext O H O' H') (h : SqF O H a vs) : SqF O' H' a vs :=
  ⟨e.lst h.1 h.2, fun z => (e.new a z).elim h.2 fun q => by rw [h.1] at q; cases q⟩
theorem sqS_ext (e : Ext O H O' H') (h : SqS K H a vs) : SqS K H' a vs := by
  rcases h with ⟨o, h⟩ | h
  · exact .inl ⟨o, e.frz _ _ _ h⟩
  · exact .inr h
theorem sqS_L (h : SqS K H a vs) : SqL K H a vs := by
  rcases h with ⟨o, h⟩ | h
  · exact .inl (.inr ⟨o, h⟩)
  · exact .inr h
mutual
theorem RepD.ext (e : Ext O H O' H') : ∀ (x : D) (v : V), RepD K O H x v → RepD K O' H' x v
  | .none, _, h => h
  | .bool _, _, h => h
  | .int _, _, h => h
  | .str _, _, h => h
  | .tuple ds, _, ⟨a, vs, h1, h2, h3⟩ => ⟨a, vs, h1, e.tup _ _ h2, RepDs.ext e ds vs h3⟩
  | .list ds, _, ⟨a, vs, h1, h2, h3⟩ => ⟨a, vs, h1, sqF_ext e h2, RepDs.ext e ds vs h3⟩
  | .dict kvs, _, ⟨a, h1, n, h2⟩ => ⟨a, h1, fun z => (e.new a z).elim n fun q => by
      rcases h2 with ⟨_, h2, _⟩ | ⟨_, h2, _⟩ <;> (obtain ⟨o, h2⟩ := rd_some h2; rw [h2] at q; cases q), by
      rcases h2 with ⟨kz, h2, h3⟩ | ⟨kz, h2, h3⟩
      · exact .inl ⟨kz, e.rdK h2 n, RepK.ext e kvs kz h3⟩
      · exact .inr ⟨kz, e.rdT h2 n, RepT.ext e kvs kz h3⟩⟩
theorem RepDs.ext (e : Ext O H O' H') : ∀ (ds : List D) (vs : List V), RepDs K O H ds vs → RepDs K O' H' ds vs
  | [], _, h => h
  | x :: ds, _, ⟨v, r, h1, h2, h3⟩ => ⟨v, r, h1, RepD.ext e x v h2, RepDs.ext e ds r h3⟩
theorem RepK.ext (e : Ext O H O' H') : ∀ (ds : List (D × D)) (vs : List (Key × V)), RepK K O H ds vs → RepK K O' H' ds vs
  | [], _, h => h
  | (k, x) :: ds, _, ⟨key, v, r, h1, h2, h3, h4⟩ => ⟨key, v, r, h1, h2, RepD.ext e x v h3, RepK.ext e ds r h4⟩
theorem RepT.ext (e : Ext O H O' H') : ∀ (ds : List (D × D)) (vs : List (List Key × V)), RepT K O H ds vs → RepT K O' H' ds vs
  | [], _, h => h
  | (k, x) :: ds, _, ⟨key, v, r, h1, h2, h3, h4⟩ => ⟨key, v, r, h1, h2, RepD.ext e x v h3, RepT.ext e ds r h4⟩
end
/-- fewer mutable ones -/
theorem Ext.less (h : ∀ a, O' a → O a) : Ext O H O' H := .of (fun _ _ h => h) (fun _ _ _ h => h) (fun _ _ h _ => h) (fun a z => .inl (h a z))
theorem RepDs.len : ∀ {ds : List D} {vs : List V}, RepDs K O H ds vs → vs.length = ds.length
  | [], _, h => by rw [show _ = [] from h]; rfl
  | x :: ds, _, ⟨v, r, h1, h2, h3⟩ => by rw [h1, List.length_cons, RepDs.len h3]; rfl
theorem RepDs.get : ∀ {ds : List D} {vs : List V} {i : Nat} {x : D}, RepDs K O H ds vs → ds[i]? = some x → ∃ v, vs[i]? = some v ∧ RepD K O H x v
  | [], _, _, _, _, e => by simp at e
  | x :: ds, _, 0, y, ⟨v, r, h1, h2, h3⟩, e => by
    simp at e; subst e; subst h1; exact ⟨v, rfl, h2⟩
  | x :: ds, _, i + 1, y, ⟨v, r, h1, h2, h3⟩, e => by
    subst h1
    obtain ⟨u, q1, q2⟩ := RepDs.get (i := i) (x := y) h3 (by simpa using e)
    exact ⟨u, by simpa using q1, q2⟩
theorem RepDs.getV : ∀ {ds : List D} {vs : List V} {i : Nat} {v : V}, RepDs K O H ds vs → vs[i]? = some v → ∃ x, ds[i]? = some x ∧ RepD K O H x v
  | [], _, _, _, h, e => by rw [show _ = [] from h] at e; simp at e
  | x :: ds, _, 0, y, ⟨v, r, h1, h2, h3⟩, e => by
    subst h1; simp at e; subst e; exact ⟨x, rfl, h2⟩
  | x :: ds, _, i + 1, y, ⟨v, r, h1, h2, h3⟩, e => by
    subst h1
    obtain ⟨u, q1, q2⟩ := RepDs.getV (i := i) (v := y) h3 (by simpa using e)
    exact ⟨u, by simpa using q1, q2⟩
theorem RepDs.append : ∀ {ds es : List D} {vs us : List V}, RepDs K O H ds vs → RepDs K O H es us → RepDs K O H (ds ++ es) (vs ++ us)
  | [], _, _, _, h, q => by rw [show _ = [] from h]; exact q
  | x :: ds, _, _, _, ⟨v, r, h1, h2, h3⟩, q => by subst h1; exact ⟨v, _, rfl, h2, RepDs.append h3 q⟩
theorem RepDs.one {x : D} {v : V} (h : RepD K O H x v) : RepDs K O H [x] [v] := ⟨v, [], rfl, h, rfl⟩
theorem RepDs.take (n : Nat) : ∀ {ds : List D} {vs : List V}, RepDs K O H ds vs → RepDs K O H (ds.take n) (vs.take n) := by
  induction n with
  | zero => intro ds vs _; rw [List.take_zero, List.take_zero]; rfl
  | succ n ih =>
    intro ds vs h
    cases ds with
    | nil => rw [show vs = [] from h]; rfl
    | cons x ds => obtain ⟨v, r, h1, h2, h3⟩ := h; subst h1; exact ⟨v, _, rfl, h2, ih h3⟩
theorem RepDs.drop (n : Nat) : ∀ {ds : List D} {vs : List V}, RepDs K O H ds vs → RepDs K O H (ds.drop n) (vs.drop n) := by
  induction n with
  | zero => intro ds vs h; exact h
  | succ n ih =>
    intro ds vs h
    cases ds with
    | nil => rw [show vs = [] from h]; rfl
    | cons x ds => obtain ⟨v, r, h1, h2, h3⟩ := h; subst h1; exact ih h3
theorem RepDs.set {x : D} {v : V} (hx : RepD K O H x v) (n : Nat) : ∀ {ds : List D} {vs : List V}, RepDs K O H ds vs → RepDs K O H (ds.set n x) (vs.set n v) := by
  induction n with
  | zero =>
    intro ds vs h
    cases ds with
    | nil => rw [show vs = [] from h]; rfl
    | cons y ds => obtain ⟨u, r, h1, h2, h3⟩ := h; subst h1; exact ⟨v, r, rfl, hx, h3⟩
  | succ n ih =>
    intro ds vs h
    cases ds with
    | nil => rw [show vs = [] from h]; rfl
    | cons y ds => obtain ⟨u, r, h1, h2, h3⟩ := h; subst h1; exact ⟨u, _, rfl, h2, ih h3⟩
theorem RepDs.reverse : ∀ {ds : List D} {vs : List V}, RepDs K O H ds vs → RepDs K O H ds.reverse vs.reverse
  | [], _, h => by rw [show _ = [] from h]; rfl
  | x :: ds, _, ⟨v, r, h1, h2, h3⟩ => by
    subst h1
    rw [List.reverse_cons, List.reverse_cons]
    exact (RepDs.reverse h3).append (.one h2)
theorem RepDs.all {P : D → V → Prop} : ∀ {ds : List D} {vs : List V}, RepDs K O H ds vs → (∀ x v, x ∈ ds → RepD K O H x v → P x v) → Paired P ds vs
  | [], _, h, _ => by rw [show _ = [] from h]; exact .nil
  | x :: ds, _, ⟨v, r, h1, h2, h3⟩, k => by subst h1; exact .cons (k x v List.mem_cons_self h2) (RepDs.all h3 fun y u m => k y u (List.mem_cons_of_mem _ m))
end
end Den
/-! Den2: the state's relation, what a computation promises (tM), operands in a row, constants, names, arithmetic. -/
namespace Den
open PySem PySem.Spec PyProof.Rows L2

def Live (m : Mem) (r : Nat) : Prop := ∃ o, m[r]? = some (some o)
/-- the mutable objects; p: one that was just made -/
def Own (Hd : Addr → Prop) (al : List Addr) (m : Mem) (p : Option Addr) (a : Addr) : Prop := (∃ r : Nat, al[r]? = some a ∧ Live m r) ∨ Hd a ∨ p = some a
def RepW (K : PySem.W.Frag) (mg : Str → Option Value) (O : Addr → Prop) (p : Option Addr) (al : List Addr) (H : Hp) : W → V → Prop
  | .d x, v => p = none ∧ RepD K O H x v
  | .r n, v => p = none ∧ ∃ a, al[n]? = some a ∧ v = .ref a
  | .n x, v => ∃ a, p = some a ∧ v = .ref a ∧ ObOk K O H x a
  | .f x, v => p = none ∧ ∃ f, mg x = some (.ref f) ∧ v = .ref f
  | .s xs, v => p = none ∧ ∃ a vs, v = .ref a ∧ SqS K H a vs ∧ RepDs K O H xs vs
  | .e a, v => p = none ∧ v = .ref a
structure Stt (K : PySem.W.Frag) (Hd : Addr → Prop) (al : List Addr) (p : Option Addr) (H : Hp) (m : Mem) : Prop where
  len : al.length = m.length
  ob : ∀ (r : Nat) a o, al[r]? = some a → m[r]? = some (some o) → ObOk K (Own Hd al m p) H o a
  inj : ∀ (r r' : Nat) a, al[r]? = some a → al[r']? = some a → Live m r → Live m r' → r = r'
  pnd : ∀ a (r : Nat), p = some a → Live m r → al[r]? ≠ some a
  hin : ∀ a, Hd a → (∃ o, H a = some o) ∧ p ≠ some a ∧ ∀ r : Nat, Live m r → al[r]? ≠ some a
structure Go (Hd : Addr → Prop) (al : List Addr) (m : Mem) (p : Option Addr) (H : Hp) (al' : List Addr) (m' : Mem) (p' : Option Addr) (H' : Hp) : Prop where
  ext : Ext (Own Hd al m p) H (Own Hd al' m' p') H'
  pre : ∀ (r : Nat) a, al[r]? = some a → al'[r]? = some a
  hid : ∀ a o, Hd a → H a = some o → H' a = some o
def EnvOk (K : PySem.W.Frag) (mg : Str → Option Value) (O : Addr → Prop) (al : List Addr) (H : Hp) (rho : Env) (σ : St) : Prop :=
  rho.length = σ.length ∧ ∀ (i : Nat) w, rho[i]? = some (some w) → ∃ v, σ[i]? = some (some v) ∧ RepW K mg O none al H w v
def ExcOk (mg : Str → Option Value) : Exc → Value → Option Addr → Hp → (Addr → Prop) → Prop
  | .own x, c, d, _, _ => d = none ∧ ∃ C, mg x = some (.ref C) ∧ c = .ref C
  | .low x fld v, c, d, H, _ => ∃ C dd, mg x = some (.ref C) ∧ c = .ref C ∧ d = some dd ∧ ∃ i, v = .int i ∧ H dd = some (.xd [(fld, .int i)])

/-- what is wanted behind a computation's outcome -/
def Post {β : Type} (K : PySem.W.Frag) (mg : Str → Option Value) (Hd : Addr → Prop) (al : List Addr) (m : Mem) (H : Hp) (E : XK) (r : Rs β) (R : β → List Addr → Option Addr → Mem → Hp → Prop) : Prop :=
  match r with
  | .ok b m' => ∀ al' p H', Go Hd al m none H al' m' p H' → Stt K Hd al' p H' m' → R b al' p m' H'
  | .ex c m' => ∀ al' H' cls dd, Go Hd al m none H al' m' none H' → Stt K Hd al' none H' m' → ExcOk mg c cls dd H' (Own Hd al' m' none) → E cls dd H'
  | .no => False
/-- the reading of an expression whose computation is c -/
def tM (K : PySem.W.Frag) (mg : Str → Option Value) (E : St → XK) (c : EM W) : TE := fun σ H Q => ∃ Hd al rho m, Stt K Hd al none H m ∧ EnvOk K mg (Own Hd al m none) al H rho σ ∧
  Post K mg Hd al m H (E σ) (c rho m) fun w al' p m' H' => ∀ v, RepW K mg (Own Hd al' m' p) p al' H' w v → Q v H'
abbrev Den (X : Cx) (E : St → XK) (e : Expr) (c : EM W) : Prop := PE X e (tM X.K X.mg E c)

theorem PE.imp {X : Cx} {e : Expr} {t t' : TE} (h : PE X e t) (k : ∀ σ H Q, t' σ H Q → t σ H Q) : PE X e t' := ⟨fun pins s σ H Q I q => h.run pins s σ H Q I (k σ H Q q)⟩

section
variable {K : PySem.W.Frag} {mg : Str → Option Value} {O O' : Addr → Prop} {Hd : Addr → Prop} {al al1 al2 : List Addr} {m m1 m2 : Mem} {p p1 p2 : Option Addr} {H H1 H2 : Hp} {E : XK} {rho : Env} {σ : St}
theorem Go.refl : Go Hd al m p H al m p H := ⟨Ext.refl, fun _ _ h => h, fun _ _ _ h => h⟩
theorem Go.trans (a : Go Hd al m p H al1 m1 p1 H1) (b : Go Hd al1 m1 p1 H1 al2 m2 p2 H2) : Go Hd al m p H al2 m2 p2 H2 := ⟨a.ext.trans b.ext, fun r x h => b.pre r x (a.pre r x h), fun x o hx h => b.hid x o hx (a.hid x o hx h)⟩
/-- nobody is just made any more: it stands fast -/
theorem Go.settle : Go Hd al m p H al m none H := ⟨Ext.less fun a h => h.elim .inl fun z => z.elim (fun y => .inr (.inl y)) fun y => (nomatch y), fun _ _ h => h, fun _ _ _ h => h⟩
theorem Stt.settle (s : Stt K Hd al p H m) : Stt K Hd al none H m where
  len := s.len
  ob := fun r a o h1 h2 => by
    have q := s.ob r a o h1 h2
    have e : Ext (Own Hd al m p) H (Own Hd al m none) H := (Go.settle (p := p)).ext
    cases o with
    | list ds => obtain ⟨vs, h3, h4⟩ := q; exact ⟨vs, h3, h4.ext e⟩
    | dict kvs =>
      rcases q with ⟨kz, h3, h4⟩ | ⟨kz, h3, h4⟩
      · exact .inl ⟨kz, h3, RepK.ext e kvs kz h4⟩
      · exact .inr ⟨kz, h3, RepT.ext e kvs kz h4⟩
    | _ => exact q.elim
  inj := s.inj
  pnd := fun _ _ h => nomatch h
  hin := fun a h => ⟨(s.hin a h).1, (fun z => nomatch z), (s.hin a h).2.2⟩
theorem val_ok {w : W} {v : V} (s : Stt K Hd al p H m) (h : RepW K mg (Own Hd al m p) p al H w v) : RepW K mg (Own Hd al m none) none al H (val w) v := by
  cases w with
  | d x => exact ⟨rfl, h.2.ext (Go.settle (p := p)).ext⟩
  | r n => exact ⟨rfl, h.2⟩
  | f x => exact ⟨rfl, h.2⟩
  | s xs => obtain ⟨a, vs, h1, h2, h3⟩ := h.2; exact ⟨rfl, a, vs, h1, h2, h3.ext (Go.settle (p := p)).ext⟩
  | e a => exact ⟨rfl, h.2⟩
  | n x =>
    obtain ⟨a, e1, e2, q⟩ := h
    have e : Ext (Own Hd al m p) H (Own Hd al m none) H := (Go.settle (p := p)).ext
    have no : ¬ Own Hd al m none a := fun z => by
      rcases z with ⟨r, h1, h2⟩ | z | z
      · exact s.pnd a r e1 h2 h1
      · exact (s.hin a z).2.1 e1
      · cases z
    refine ⟨rfl, ?_⟩
    cases x with
    | list ds => obtain ⟨vs, h3, h4⟩ := q; exact ⟨a, vs, e2, ⟨h3, no⟩, h4.ext e⟩
    | dict kvs =>
      refine ⟨a, e2, no, ?_⟩
      rcases q with ⟨kz, h3, h4⟩ | ⟨kz, h3, h4⟩
      · exact .inl ⟨kz, .inl h3, RepK.ext e kvs kz h4⟩
      · exact .inr ⟨kz, .inl h3, RepT.ext e kvs kz h4⟩
    | _ => exact q.elim
theorem RepW.go {w : W} {v : V} (g : Go Hd al m none H al1 m1 p1 H1) (h : RepW K mg (Own Hd al m none) none al H w v) : RepW K mg (Own Hd al1 m1 p1) none al1 H1 w v := by
  cases w with
  | d x => exact ⟨rfl, h.2.ext g.ext⟩
  | r n => obtain ⟨a, h1, h2⟩ := h.2; exact ⟨rfl, a, g.pre _ _ h1, h2⟩
  | f x => exact ⟨rfl, h.2⟩
  | s xs => obtain ⟨a, vs, h1, h2, h3⟩ := h.2; exact ⟨rfl, a, vs, h1, sqS_ext g.ext h2, h3.ext g.ext⟩
  | e a => exact ⟨rfl, h.2⟩
  | n x => obtain ⟨a, h1, h2⟩ := h; cases h1
theorem EnvOk.go (e : EnvOk K mg (Own Hd al m none) al H rho σ) (g : Go Hd al m none H al1 m1 p1 H1) : EnvOk K mg (Own Hd al1 m1 p1) al1 H1 rho σ :=
  ⟨e.1, fun i w h => by obtain ⟨v, h1, h2⟩ := e.2 i w h; exact ⟨v, h1, h2.go g⟩⟩
theorem Post.imp {β : Type} {r : Rs β} {R R' : β → List Addr → Option Addr → Mem → Hp → Prop} (h : Post K mg Hd al m H E r R)
    (k : ∀ b al' p m' H', Go Hd al m none H al' m' p H' → Stt K Hd al' p H' m' → R b al' p m' H' → R' b al' p m' H') : Post K mg Hd al m H E r R' := by
  cases r with
  | ok b m' => exact fun al' p H' g s => k b al' p m' H' g s (h al' p H' g s)
  | ex c m' => exact h
  | no => exact h
/-- from a later point -/
theorem Post.go {β : Type} {r : Rs β} {R : β → List Addr → Option Addr → Mem → Hp → Prop} (g : Go Hd al m none H al1 m1 none H1) (h : Post K mg Hd al m H E r R) : Post K mg Hd al1 m1 H1 E r R := by
  cases r with
  | ok b m' => exact fun al' p H' g' s => h al' p H' (g.trans g') s
  | ex c m' => exact fun al' H' cls dd g' s => h al' H' cls dd (g.trans g') s
  | no => exact h
theorem Post.bind {β γ : Type} {r : Rs β} {k : β → Mem → Rs γ} {R : γ → List Addr → Option Addr → Mem → Hp → Prop} (h : Post K mg Hd al m H E (r.bind k) R) :
    Post K mg Hd al m H E r fun b al1 p1 m1 H1 => p1 = none → Post K mg Hd al1 m1 H1 E (k b m1) R := by
  cases r with
  | ok b m' => exact fun al' p H' g s e => by subst e; exact Post.go g h
  | ex c m' => exact h
  | no => exact h
/-- an operand -/
theorem Post.bindV {γ : Type} {r : Rs W} {k : W → Mem → Rs γ} {R : γ → List Addr → Option Addr → Mem → Hp → Prop} (h : Post K mg Hd al m H E (r.bindV k) R) :
    Post K mg Hd al m H E r fun w al1 p1 m1 H1 => ∀ v, RepW K mg (Own Hd al1 m1 p1) p1 al1 H1 w v →
      Go Hd al m none H al1 m1 none H1 ∧ Stt K Hd al1 none H1 m1 ∧ RepW K mg (Own Hd al1 m1 none) none al1 H1 (val w) v ∧ Post K mg Hd al1 m1 H1 E (k (val w) m1) R := by
  cases r with
  | ok w m' => exact fun al' p H' g s v rv => ⟨g.trans Go.settle, s.settle, val_ok s rv, Post.go (g.trans Go.settle) h⟩
  | ex c m' => exact h
  | no => exact h
theorem Post.ok {β : Type} {b : β} {R : β → List Addr → Option Addr → Mem → Hp → Prop} (s : Stt K Hd al none H m) (h : Post K mg Hd al m H E (.ok b m) R) : R b al none m H := h al none H Go.refl s
end

/-! ### one operand, two operands -/
def mOp1 (a : EM W) (f : W → Mem → Rs W) : EM W := fun rho m => (a rho m).bindV f
def mOp2 (a b : EM W) (f : W → W → Mem → Rs W) : EM W := fun rho m => (a rho m).bindV fun x m1 => (b rho m1).bindV fun y m2 => f x y m2
section
variable {X : Cx} {E : St → XK} {ea eb : Expr} {a b : EM W} {pos : Pos}
/-- a rule for one operand: from what the value is to the reading -/
def Un1 (X : Cx) (r : V → Hp → VK → Prop) (f : W → Mem → Rs W) : Prop := ∀ (E : XK) Hd al m H w v (R : W → List Addr → Option Addr → Mem → Hp → Prop) (Q : VK), Stt X.K Hd al none H m → RepW X.K X.mg (Own Hd al m none) none al H w v →
  Post X.K X.mg Hd al m H E (f w m) R → (∀ w' al' p m' H' v', R w' al' p m' H' → RepW X.K X.mg (Own Hd al' m' p) p al' H' w' v' → Q v' H') → r v H Q
def Bi2 (X : Cx) (r : R2) (f : W → W → Mem → Rs W) : Prop := ∀ (E : XK) Hd al m H w v w2 v2 (R : W → List Addr → Option Addr → Mem → Hp → Prop) (Q : VK), Stt X.K Hd al none H m → RepW X.K X.mg (Own Hd al m none) none al H w v → RepW X.K X.mg (Own Hd al m none) none al H w2 v2 →
  Post X.K X.mg Hd al m H E (f w w2 m) R → (∀ w' al' p m' H' v', R w' al' p m' H' → RepW X.K X.mg (Own Hd al' m' p) p al' H' w' v' → Q v' H') → r v v2 H Q
theorem tM_un {r : V → Hp → VK → Prop} {f : W → Mem → Rs W} (h : Un1 X r f) {σ : St} {H : Hp} {Q : VK} (q : tM X.K X.mg E (mOp1 a f) σ H Q) : tUn r (tM X.K X.mg E a) σ H Q := by
  obtain ⟨Hd, al, rho, m, s, e, P⟩ := q
  refine ⟨Hd, al, rho, m, s, e, (Post.bindV P).imp fun w al1 p1 m1 H1 g s1 k v rv => ?_⟩
  obtain ⟨g1, s1', rv1, P1⟩ := k v rv
  exact h _ _ _ _ _ _ _ _ Q s1' rv1 P1 fun w' al' p m' H' v' q' => q' v'
theorem tM_op {r : R2} {f : W → W → Mem → Rs W} (h : Bi2 X r f) {σ : St} {H : Hp} {Q : VK} (q : tM X.K X.mg E (mOp2 a b f) σ H Q) : tOp r (tM X.K X.mg E a) (tM X.K X.mg E b) σ H Q := by
  obtain ⟨Hd, al, rho, m, s, e, P⟩ := q
  refine ⟨Hd, al, rho, m, s, e, (Post.bindV P).imp fun w al1 p1 m1 H1 g s1 k v rv => ?_⟩
  obtain ⟨g1, s1', rv1, P1⟩ := k v rv
  refine ⟨Hd, al1, rho, m1, s1', e.go g1, (Post.bindV P1).imp fun w2 al2 p2 m2 H2 g2 s2 k2 v2 rw2 => ?_⟩
  obtain ⟨g3, s2', rv2, P2⟩ := k2 v2 rw2
  exact h _ _ _ _ _ _ _ _ _ _ Q s2' (rv1.go g3) rv2 P2 fun w' al' p m' H' v' q' => q' v'

/-! ### constants and names -/
def mC (x : D) : EM W := fun _ m => .ok (.d x) m
def mVar (i : Nat) : EM W := fun rho m => match rho[i]? with | some (some w) => .ok w m | _ => .no
def mF (x : Str) : EM W := fun _ m => .ok (.f x) m
theorem den_const {e : Expr} {x : D} {v : V} (h : PE X e (tC v)) (r : ∀ K O H, RepD K O H x v) : Den X E e (mC x) := PE.imp h fun σ H Q q => by
  obtain ⟨Hd, al, rho, m, s, e, P⟩ := q
  exact (Post.ok s P) v ⟨rfl, r _ _ _⟩
theorem den_int {i : Int} {j pos} : Den X E (.Constant (.int i) j pos) (mC (.int i)) := den_const pe_int fun _ _ _ => rfl
theorem den_bool {b : Bool} {j pos} : Den X E (.Constant (.bool b) j pos) (mC (.bool b)) := den_const pe_bl fun _ _ _ => rfl
theorem den_none {j pos} : Den X E (.Constant .none j pos) (mC .none) := den_const pe_non fun _ _ _ => rfl
theorem den_str {x : Str} {j pos} : Den X E (.Constant (.str x) j pos) (mC (.str x)) := den_const pe_str fun _ _ _ => rfl
theorem den_var (i : Nat) {x : Str} {pos : Pos} (hN : X.N[i]? = some x := by rfl) (hv : Vis X.env.scope x := by first | exact Or.inl rfl | exact Or.inr (Or.inl rfl) | exact Or.inr (Or.inr rfl)) (hd : (x == ("__debug__" : Str)) = false := by decide)
    (hcd : (x == ("__classdict__" : Str)) = false := by decide) : Den X E (.Name x pos) (mVar i) := PE.imp (pe_var hN hv hd hcd) fun σ H Q q => by
  obtain ⟨Hd, al, rho, m, s, e, P⟩ := q
  unfold mVar at P
  split at P
  · rename_i w hw
    obtain ⟨v, h1, h2⟩ := e.2 i w hw
    exact ⟨v, h1, (Post.ok s P) v h2⟩
  · exact P.elim
theorem den_fn {x : Str} {f : Addr} {pos : Pos} (hg : Gl X x) (hm : X.mg x = some (.ref f)) (hd : (x == ("__debug__" : Str)) = false := by decide) : Den X E (.Name x pos) (mF x) := PE.imp (pe_glob (v := .ref f) hg hm rfl hd) fun σ H Q q => by
  obtain ⟨Hd, al, rho, m, s, e, P⟩ := q
  exact (Post.ok s P) _ ⟨rfl, f, hm, rfl⟩
end
end Den
/-! Den3: what an operand is, new objects, operators. -/
namespace Den
open PySem PySem.Spec PyProof.Rows L2

section
variable (K : PySem.W.Frag) (O : Addr → Prop) (H : Hp)
/-- an operand's data: a container may be one of the mutable ones -/
def RepP : D → V → Prop
  | .list ds, v => ∃ a vs, v = .ref a ∧ H a = some (.lst vs) ∧ RepDs K O H ds vs
  | .dict kvs, v => ∃ a, v = .ref a ∧ ((∃ kz, Rd H a (.dK kz) ∧ RepK K O H kvs kz) ∨ (∃ kz, Rd H a (.dT kz) ∧ RepT K O H kvs kz))
  | x, v => RepD K O H x v
end
section
variable {K : PySem.W.Frag} {mg : Str → Option Value} {O O' : Addr → Prop} {Hd : Addr → Prop} {al al1 al2 : List Addr} {m m1 m2 : Mem} {p p1 p2 : Option Addr} {H H1 H2 : Hp} {E : XK} {rho : Env} {σ : St}
theorem RepD.P : ∀ {x : D} {v : V}, RepD K O H x v → RepP K O H x v
  | .none, _, h => h
  | .bool _, _, h => h
  | .int _, _, h => h
  | .str _, _, h => h
  | .tuple _, _, h => h
  | .list _, _, ⟨a, vs, h1, h2, h3⟩ => ⟨a, vs, h1, h2.1, h3⟩
  | .dict _, _, ⟨a, h1, _, h2⟩ => ⟨a, h1, h2⟩
theorem peek_ok {w : W} {v : V} {x : D} (s : Stt K Hd al none H m) (h : RepW K mg (Own Hd al m none) none al H w v) (e : peek m w = some x) : RepP K (Own Hd al m none) H x v := by
  cases w with
  | d y => cases e; exact h.2.P
  | n y => obtain ⟨a, h1, _⟩ := h; cases h1
  | f y => cases e
  | s y => cases e
  | e y => cases e
  | r n =>
    obtain ⟨a, h1, rfl⟩ := h.2
    have e' : (m[n]?).join = some x := e
    have em : m[n]? = some (some x) := by
      cases q : m[n]? with
      | none => rw [q] at e'; cases e'
      | some o => rw [q] at e'; have z : o = some x := e'; rw [z]
    have ob := s.ob n a x h1 em
    cases x with
    | list ds => obtain ⟨vs, h2, h3⟩ := ob; exact ⟨a, vs, rfl, h2, h3⟩
    | dict kvs => exact ⟨a, rfl, ob.imp (fun ⟨kz, h, r⟩ => ⟨kz, .inl h, r⟩) fun ⟨kz, h, r⟩ => ⟨kz, .inl h, r⟩⟩
    | _ => exact ob.elim
mutual
theorem RepD.dp : ∀ (x : D) (v : V), RepD K O H x v → x.hasDict = false → Dp K H v x
  | .none, _, h, _ => by cases h; exact .non
  | .bool b, _, h, _ => by cases h; exact .bl b
  | .int i, _, h, _ => by cases h; exact .int i
  | .str x, _, h, _ => by cases h; exact .str x
  | .tuple ds, _, ⟨a, vs, h1, h2, h3⟩, n => by subst h1; exact .tup (sqP h2) (RepDs.dp ds vs h3 (by simpa only [PyData.hasDict] using n))
  | .list ds, _, ⟨a, vs, h1, h2, h3⟩, n => by subst h1; exact .lst (.inl (.inl h2.1)) (RepDs.dp ds vs h3 (by simpa only [PyData.hasDict] using n))
  | .dict kvs, _, _, n => by simp only [PyData.hasDict] at n; cases n
theorem RepDs.dp : ∀ (ds : List D) (vs : List V), RepDs K O H ds vs → PyData.hasDictAll ds = false → DpAll K H vs ds
  | [], _, h, _ => by rw [show _ = [] from h]; exact .nil
  | x :: ds, _, ⟨v, r, h1, h2, h3⟩, n => by
    subst h1
    simp only [PyData.hasDictAll, Bool.or_eq_false_iff] at n
    exact .cons (RepD.dp x v h2 n.1) (RepDs.dp ds r h3 n.2)
end
theorem RepP.dp {x : D} {v : V} (h : RepP K O H x v) (n : x.hasDict = false) : Dp K H v x := by
  cases x with
  | list ds => obtain ⟨a, vs, rfl, h2, h3⟩ := h; exact .lst (.inl (.inl h2)) (h3.dp _ _ (by simpa only [PyData.hasDict] using n))
  | dict kvs => simp only [PyData.hasDict] at n; cases n
  | none => exact RepD.dp (O := O) _ _ h n
  | bool b => exact RepD.dp (O := O) _ _ h n
  | int i => exact RepD.dp (O := O) _ _ h n
  | str z => exact RepD.dp (O := O) _ _ h n
  | tuple ds => exact RepD.dp (O := O) _ _ h n
theorem noDict_shaped {x : D} (h : SeqAt.shaped x = true) : x.hasDict = false := PyData.hasDict_of_canLay _ (SeqAt.canLay_of_shaped h)

/-! ### a new object -/
theorem ObOk.stay {x : D} {a : Addr} (e : Ext O H O' H1) (k : H1 a = H a) (h : ObOk K O H x a) : ObOk K O' H1 x a := by
  cases x with
  | list ds => obtain ⟨vs, h1, h2⟩ := h; exact ⟨vs, k.trans h1, h2.ext e⟩
  | dict kvs =>
    rcases h with ⟨kz, h2, h3⟩ | ⟨kz, h2, h3⟩
    · exact .inl ⟨kz, k.trans h2, RepK.ext e kvs kz h3⟩
    · exact .inr ⟨kz, k.trans h2, RepT.ext e kvs kz h3⟩
  | _ => exact h.elim
theorem ObOk.some {x : D} {a : Addr} (h : ObOk K O H x a) : ∃ o, H a = some o ∧ Mut (some o) := by
  cases x with
  | list ds => obtain ⟨vs, h1, _⟩ := h; exact ⟨_, h1, True.intro⟩
  | dict kvs => rcases h with ⟨kz, h2, _⟩ | ⟨kz, h2, _⟩ <;> exact ⟨_, h2, True.intro⟩
  | _ => exact h.elim
theorem Stt.own (s : Stt K Hd al p H m) {a : Addr} (h : Own Hd al m none a) : ∃ o, H a = Option.some o := by
  rcases h with ⟨r, h1, o, h2⟩ | h | h
  · obtain ⟨o, h, _⟩ := (s.ob r a o h1 h2).some
    exact ⟨o, h⟩
  · exact (s.hin a h).1
  · cases h
theorem go_new {a : Addr} {o : HO} {q : Option Addr} (hn : H a = none) (hq : q = none ∨ q = some a) : Go Hd al m none H al m q (upd H a o) where
  ext := .of (fun b vs h => by rw [upd_ne (ne_of_none h hn)]; exact h) (fun b ob u h => by rw [upd_ne (ne_of_none h hn)]; exact h) (fun b ob h _ => by rw [upd_ne (ne_of_none h hn)]; exact h)
    fun b z => by
      rcases z with z | z | z
      · exact .inl (.inl z)
      · exact .inl (.inr (.inl z))
      · rcases hq with q0 | q0
        · rw [q0] at z; cases z
        · rw [q0] at z; cases z; exact .inr hn
  pre := fun _ _ h => h
  hid := fun b ob _ h => by rw [upd_ne (ne_of_none h hn)]; exact h
theorem stt_new {a : Addr} {o : HO} {q : Option Addr} (s : Stt K Hd al none H m) (hn : H a = none) (hq : q = none ∨ q = some a) : Stt K Hd al q (upd H a o) m where
  len := s.len
  ob := fun r b x h1 h2 => by
    have h := s.ob r b x h1 h2
    obtain ⟨u, hu, _⟩ := h.some
    exact h.stay (go_new hn hq).ext (upd_ne (ne_of_none hu hn))
  inj := s.inj
  pnd := fun b r h1 h2 h3 => by
    rcases hq with q0 | q0
    · rw [q0] at h1; cases h1
    · rw [q0] at h1; cases h1
      obtain ⟨x, hx⟩ := h2
      obtain ⟨u, hu, _⟩ := (s.ob r _ x h3 hx).some
      rw [hn] at hu; cases hu
  hin := fun b hb => by
    obtain ⟨⟨u, hu⟩, h2, h3⟩ := s.hin b hb
    refine ⟨⟨u, by rw [upd_ne (ne_of_none hu hn)]; exact hu⟩, fun z => ?_, h3⟩
    rcases hq with q0 | q0
    · rw [q0] at z; cases z
    · rw [q0] at z; cases z
      rw [hn] at hu; cases hu
theorem Post.fresh {β : Type} {b : β} {R : β → List Addr → Option Addr → Mem → Hp → Prop} {a : Addr} {o : HO} (s : Stt K Hd al none H m) (hn : H a = none) (h : Post K mg Hd al m H E (.ok b m) R) : R b al none m (upd H a o) :=
  h al none _ (go_new hn (.inl rfl)) (stt_new s hn (.inl rfl))
theorem Post.made {β : Type} {b : β} {R : β → List Addr → Option Addr → Mem → Hp → Prop} {a : Addr} {o : HO} (s : Stt K Hd al none H m) (hn : H a = none) (h : Post K mg Hd al m H E (.ok b m) R) : R b al (some a) m (upd H a o) :=
  h al (some a) _ (go_new hn (.inr rfl)) (stt_new s hn (.inr rfl))
theorem RepDs.fresh {ds : List D} {vs : List V} {a : Addr} {o : HO} {q : Option Addr} (h : RepDs K (Own Hd al m none) H ds vs) (hn : H a = none) (hq : q = none ∨ q = some a) : RepDs K (Own Hd al m q) (upd H a o) ds vs := h.ext (go_new hn hq).ext
/-- a new list, a new tuple as a result -/
theorem res_list {X : Cx} {ds : List D} {vs : List V} {R : W → List Addr → Option Addr → Mem → Hp → Prop} {Q : VK} {a : Addr} (s : Stt X.K Hd al none H m) (h : RepDs X.K (Own Hd al m none) H ds vs) (hn : H a = none) (P : Post X.K X.mg Hd al m H E (.ok (.n (.list ds)) m) R)
    (k : ∀ w' al' p m' H' v', R w' al' p m' H' → RepW X.K X.mg (Own Hd al' m' p) p al' H' w' v' → Q v' H') : Q (.ref a) (upd H a (.lst vs)) :=
  k _ _ _ _ _ _ (P.made s hn) ⟨a, rfl, rfl, vs, upd_same, h.fresh hn (.inr rfl)⟩
theorem res_tup {X : Cx} {ds : List D} {vs : List V} {R : W → List Addr → Option Addr → Mem → Hp → Prop} {Q : VK} {a : Addr} (s : Stt X.K Hd al none H m) (h : RepDs X.K (Own Hd al m none) H ds vs) (hn : H a = none) (P : Post X.K X.mg Hd al m H E (.ok (.d (.tuple ds)) m) R)
    (k : ∀ w' al' p m' H' v', R w' al' p m' H' → RepW X.K X.mg (Own Hd al' m' p) p al' H' w' v' → Q v' H') : Q (.ref a) (upd H a (.tup vs)) :=
  k _ _ _ _ _ _ (P.fresh s hn) ⟨rfl, a, vs, rfl, upd_same, h.fresh hn (.inl rfl)⟩
theorem res_d {X : Cx} {x : D} {v : V} {R : W → List Addr → Option Addr → Mem → Hp → Prop} {Q : VK} (s : Stt X.K Hd al none H m) (P : Post X.K X.mg Hd al m H E (.ok (.d x) m) R) (h : RepD X.K (Own Hd al m none) H x v)
    (k : ∀ w' al' p m' H' v', R w' al' p m' H' → RepW X.K X.mg (Own Hd al' m' p) p al' H' w' v' → Q v' H') : Q v H := k _ _ _ _ _ _ (P.ok s) ⟨rfl, h⟩
end

/-! ### operators by data -/
def lift1 (g : D → Option W) : W → Mem → Rs W := fun x m => match peek m x with | some a => (match g a with | some w => .ok w m | none => .no) | none => .no
def lift2 (g : D → D → Option W) : W → W → Mem → Rs W := fun x y m => match peek m x, peek m y with | some a, some b => (match g a b with | some w => .ok w m | none => .no) | _, _ => .no
section
variable {X : Cx} {E : St → XK} {ea eb : Expr} {a b : EM W} {pos : Pos}
theorem un_lift {r : V → Hp → VK → Prop} {g : D → Option W} (h : ∀ (E : XK) Hd al m H x v w (R : W → List Addr → Option Addr → Mem → Hp → Prop) (Q : VK), Stt X.K Hd al none H m → RepP X.K (Own Hd al m none) H x v → g x = some w →
    Post X.K X.mg Hd al m H E (.ok w m) R → (∀ w' al' p m' H' v', R w' al' p m' H' → RepW X.K X.mg (Own Hd al' m' p) p al' H' w' v' → Q v' H') → r v H Q) : Un1 X r (lift1 g) := by
  intro E Hd al m H w v R Q s rv P k
  unfold lift1 at P
  split at P
  · rename_i x hx
    split at P
    · rename_i z hz
      exact h E Hd al m H x v z R Q s (peek_ok s rv hx) hz P k
    · exact P.elim
  · exact P.elim
theorem bi_lift {r : R2} {g : D → D → Option W} (h : ∀ (E : XK) Hd al m H x v y u w (R : W → List Addr → Option Addr → Mem → Hp → Prop) (Q : VK), Stt X.K Hd al none H m → RepP X.K (Own Hd al m none) H x v → RepP X.K (Own Hd al m none) H y u → g x y = some w →
    Post X.K X.mg Hd al m H E (.ok w m) R → (∀ w' al' p m' H' v', R w' al' p m' H' → RepW X.K X.mg (Own Hd al' m' p) p al' H' w' v' → Q v' H') → r v u H Q) : Bi2 X r (lift2 g) := by
  intro E Hd al m H w v w2 v2 R Q s rv rv2 P k
  unfold lift2 at P
  split at P
  · rename_i x y hx hy
    split at P
    · rename_i z hz
      exact h E Hd al m H x v y v2 z R Q s (peek_ok s rv hx) (peek_ok s rv2 hy) hz P k
    · exact P.elim
  · exact P.elim
theorem opOr {f : Value → Value → Sem Value} {r r' : R2} (h : OpR X f r) (h' : OpR X f r') : OpR X f (fun x y H Q => r x y H Q ∨ r' x y H Q) := fun pins s σ H x y v u Q I rx ry q =>
  q.elim (h pins s σ H x y v u Q I rx ry) (h' pins s σ H x y v u Q I rx ry)

/-- data of two ints -/
def onI (g : Int → Int → Option D) : D → D → Option W
  | .int i, .int j => (g i j).map .d
  | _, _ => none
theorem bi_int {C : Int → Int → Prop} {g : Int → Int → V} {f : Int → Int → Option D} (h : ∀ i j x, f i j = some x → C i j ∧ ∀ K O H, RepD K O H x (g i j)) : Bi2 X (rI C g) (lift2 (onI f)) := bi_lift fun E Hd al m H x v y u w R Q s rx ry hg P k => by
  cases x <;> cases y <;> first | (simp only [onI] at hg; cases hg; done) | skip
  rename_i i j
  have e1 : v = .int i := rx
  have e2 : u = .int j := ry
  subst e1 e2
  obtain ⟨x, hx, rfl⟩ := Option.map_eq_some_iff.mp hg
  obtain ⟨c, rp⟩ := h i j x hx
  exact ⟨i, j, rfl, rfl, c, res_d s P (rp _ _ _) k⟩
theorem rI0_of {g : Int → Int → V} {x y : V} {H : Hp} {Q : VK} (h : rI (fun _ _ => True) g x y H Q) : rI0 g x y H Q := by
  obtain ⟨i, j, h1, h2, _, h3⟩ := h
  exact ⟨i, j, h1, h2, h3⟩
theorem bi_int0 {g : Int → Int → V} {f : Int → Int → D} (h : ∀ i j K O H, RepD K O H (f i j) (g i j)) : Bi2 X (rI0 g) (lift2 (onI fun i j => some (f i j))) := fun E Hd al m H w v w2 v2 R Q s r1 r2 P k =>
  rI0_of (bi_int (C := fun _ _ => True) (fun i j x e => ⟨trivial, by cases e; exact h i j⟩) E Hd al m H w v w2 v2 R Q s r1 r2 P k)

def small (n : Nat) : Bool := decide (n ≤ 1000000)
theorem small_line {n : Nat} (h : small n = true) : n ≤ sizeLine := Nat.le_trans (of_decide_eq_true h) (by decide)
def addD : D → D → Option W
  | .int i, .int j => some (.d (.int (i + j)))
  | .str x, .str y => if small (x.length + y.length) then some (.d (.str (x ++ y))) else none
  | .list xs, .list ys => if small (xs.length + ys.length) then some (.n (.list (xs ++ ys))) else none
  | .tuple xs, .tuple ys => if small (xs.length + ys.length) then some (.d (.tuple (xs ++ ys))) else none
  | _, _ => none
theorem ite_none {α : Type} {c : Bool} {x y : α} (h : (if c = true then some x else none) = some y) : c = true ∧ x = y := by
  cases c with
  | true => exact ⟨rfl, Option.some.inj h⟩
  | false => cases h
theorem bi_add : Bi2 X (fun x y H Q => rI0 (fun i j => .int (i + j)) x y H Q ∨ (fun x y H Q => (fun x y H Q => ∃ i j, x = .str i ∧ y = .str j ∧ i.length + j.length ≤ sizeLine ∧ Q (.str (i ++ j)) H) x y H Q ∨ (fun x y H Q => rCat x y H Q ∨ rCatA X.K x y H Q) x y H Q) x y H Q) (lift2 addD) := bi_lift fun E Hd al m H x v y u w R Q s rx ry hg P k => by
  cases x <;> cases y <;> first | (simp only [addD] at hg; cases hg; done) | skip
  · rename_i i j
    have e1 : v = .int i := rx
    have e2 : u = .int j := ry
    subst e1 e2
    cases hg
    exact .inl ⟨i, j, rfl, rfl, res_d s P rfl k⟩
  · rename_i i j
    have e1 : v = .str i := rx
    have e2 : u = .str j := ry
    subst e1 e2
    obtain ⟨c, rfl⟩ := ite_none hg
    exact .inr (.inl ⟨i, j, rfl, rfl, small_line c, res_d s P rfl k⟩)
  · obtain ⟨l, xs, rfl, h1, h2⟩ := rx
    obtain ⟨b, ys, rfl, h3, h4⟩ := ry
    obtain ⟨c, rfl⟩ := ite_none hg
    exact .inr (.inr (.inl ⟨l, b, xs, ys, rfl, rfl, h1, h3, by rw [h2.len, h4.len]; exact small_line c, fun p hp => res_list s (h2.append h4) hp P k⟩))
  · obtain ⟨l, xs, rfl, h1, h2⟩ := rx
    obtain ⟨b, ys, rfl, h3, h4⟩ := ry
    obtain ⟨c, rfl⟩ := ite_none hg
    refine .inr (.inr (.inr ⟨l, b, xs, ys, rfl, rfl, sqP h1, sqP h3, by rw [h2.len, h4.len]; exact small_line c, fun e => ?_, fun e e' => ?_, fun e e' p hp => res_tup s (h2.append h4) hp P k⟩))
    · have z := h2.len
      rw [e] at z
      rename_i ds es
      have z' : ds = [] := List.eq_nil_of_length_eq_zero z.symm
      subst z'
      exact res_d s P ⟨b, ys, rfl, h3, h4⟩ k
    · have z := h4.len
      rw [e'] at z
      rename_i ds es
      have z' : es = [] := List.eq_nil_of_length_eq_zero z.symm
      subst z'
      rw [List.append_nil] at P
      exact res_d s P ⟨l, xs, rfl, h1, h2⟩ k
def mAdd (a b : EM W) : EM W := mOp2 a b (lift2 addD)
theorem den_add (ha : Den X E ea a) (hb : Den X E eb b) : Den X E (.BinOp ea .Add eb pos) (mAdd a b) := PE.imp (pe_op (opOr op_add (opOr op_add_str (opOr op_cat op_catA))) ha hb) fun _ _ _ q => tM_op bi_add q
def mSub (a b : EM W) : EM W := mOp2 a b (lift2 (onI fun i j => some (.int (i - j))))
theorem den_sub (ha : Den X E ea a) (hb : Den X E eb b) : Den X E (.BinOp ea .Sub eb pos) (mSub a b) := PE.imp (pe_op op_sub ha hb) fun _ _ _ q => tM_op (bi_int0 (f := fun i j => .int (i - j)) fun _ _ _ _ _ => rfl) q
def fdivD (i j : Int) : Option D := if decide (0 < j ∧ j.natAbs.log2 < 9000) then some (.int (i / j)) else none
def modD (i j : Int) : Option D := if decide (0 < j) then some (.int (i % j)) else none
def powD (i j : Int) : Option D := if decide (0 ≤ j ∧ j ≤ 1000000 ∧ i.natAbs < 2 ^ 64) then some (.int (i ^ j.toNat)) else none
def shlD (i j : Int) : Option D := if decide (0 ≤ j ∧ j ≤ 1000000 ∧ i.natAbs < 2 ^ 64) then some (.int (i * 2 ^ j.toNat)) else none
def shrD (i j : Int) : Option D := if decide (0 ≤ j) then some (.int (i / 2 ^ j.toNat)) else none
def mFdiv (a b : EM W) : EM W := mOp2 a b (lift2 (onI fdivD))
def mMod (a b : EM W) : EM W := mOp2 a b (lift2 (onI modD))
def mPow (a b : EM W) : EM W := mOp2 a b (lift2 (onI powD))
def mShl (a b : EM W) : EM W := mOp2 a b (lift2 (onI shlD))
def mShr (a b : EM W) : EM W := mOp2 a b (lift2 (onI shrD))
def mAnd (a b : EM W) : EM W := mOp2 a b (lift2 (onI fun i j => some (.int (Builtin.bitAnd i j))))
def mOr (a b : EM W) : EM W := mOp2 a b (lift2 (onI fun i j => some (.int (Builtin.bitOr i j))))
theorem den_fdiv (ha : Den X E ea a) (hb : Den X E eb b) : Den X E (.BinOp ea .FloorDiv eb pos) (mFdiv a b) := PE.imp (pe_op op_fdivW ha hb) fun _ _ _ q => tM_op (bi_int fun i j x e => by
  obtain ⟨c, rfl⟩ := ite_none e
  exact ⟨of_decide_eq_true (p := 0 < j ∧ j.natAbs.log2 < 9000) c, fun _ _ _ => rfl⟩) q
theorem den_mod (ha : Den X E ea a) (hb : Den X E eb b) : Den X E (.BinOp ea .Mod eb pos) (mMod a b) := PE.imp (pe_op op_mod ha hb) fun _ _ _ q => tM_op (bi_int fun i j x e => by
  obtain ⟨c, rfl⟩ := ite_none e
  exact ⟨of_decide_eq_true (p := 0 < j) c, fun _ _ _ => rfl⟩) q
theorem den_pow (ha : Den X E ea a) (hb : Den X E eb b) : Den X E (.BinOp ea .Pow eb pos) (mPow a b) := PE.imp (pe_op op_pow ha hb) fun _ _ _ q => tM_op (bi_int fun i j x e => by
  obtain ⟨c, rfl⟩ := ite_none e
  exact ⟨of_decide_eq_true (p := 0 ≤ j ∧ j ≤ 1000000 ∧ i.natAbs < 2 ^ 64) c, fun _ _ _ => rfl⟩) q
theorem den_shl (ha : Den X E ea a) (hb : Den X E eb b) : Den X E (.BinOp ea .LShift eb pos) (mShl a b) := PE.imp (pe_op op_shl ha hb) fun _ _ _ q => tM_op (bi_int fun i j x e => by
  obtain ⟨c, rfl⟩ := ite_none e
  exact ⟨of_decide_eq_true (p := 0 ≤ j ∧ j ≤ 1000000 ∧ i.natAbs < 2 ^ 64) c, fun _ _ _ => rfl⟩) q
theorem den_shr (ha : Den X E ea a) (hb : Den X E eb b) : Den X E (.BinOp ea .RShift eb pos) (mShr a b) := PE.imp (pe_op op_shr ha hb) fun _ _ _ q => tM_op (bi_int fun i j x e => by
  obtain ⟨c, rfl⟩ := ite_none e
  exact ⟨of_decide_eq_true (p := 0 ≤ j) c, fun _ _ _ => rfl⟩) q
theorem den_and (ha : Den X E ea a) (hb : Den X E eb b) : Den X E (.BinOp ea .BitAnd eb pos) (mAnd a b) := PE.imp (pe_op op_and ha hb) fun _ _ _ q => tM_op (bi_int0 (f := fun i j => .int (Builtin.bitAnd i j)) fun _ _ _ _ _ => rfl) q
theorem den_or (ha : Den X E ea a) (hb : Den X E eb b) : Den X E (.BinOp ea .BitOr eb pos) (mOr a b) := PE.imp (pe_op op_or ha hb) fun _ _ _ q => tM_op (bi_int0 (f := fun i j => .int (Builtin.bitOr i j)) fun _ _ _ _ _ => rfl) q

/-- a tuple of no item, or once: itself -/
theorem tup_once (l : Addr) (items : Array Value) (n : Nat) (dd : Option Addr) (sl : Array (Option Value)) (x : Int) (u : Tok) (b0 : (decide (x < -(2 ^ 63)) || decide (x ≥ 2 ^ 63)) = false) (b1 : (items.isEmpty || x == 1) = true) :
    Meets (Builtin.«tuple.__mul__» ⟨[.ref l, .int x u], []⟩) (fun _ R s => s.heap.get? l = some { cls := .type "tuple", dict := dd, data := .seq items n, slots := sl } ∧ R (.ok (.ret (.ref l))) s) :=
  .of_wp fun prog w A R s h => by
    obtain ⟨hp, g, d, tk, os⟩ := s
    obtain ⟨hl, h⟩ := h
    have f1 := AutoSeq1.idx_int
    wp_walk using wpAny_loadPart' hl
    repeat (first
      | (refine wpAny_ite_false (decide_eq_false (by rw [b0]; exact Bool.false_ne_true)) ?_; wp_walk using wpAny_loadPart' hl)
      | (refine wpAny_ite_true (decide_eq_true b1) ?_; wp_walk using wpAny_loadPart' hl))
    exact ⟨_, rfl, h⟩
/-- no times: the empty one, new -/
theorem tup_never (l : Addr) (items : Array Value) (n : Nat) (dd : Option Addr) (sl : Array (Option Value)) (x : Int) (u : Tok) (b0 : (decide (x < -(2 ^ 63)) || decide (x ≥ 2 ^ 63)) = false) (b1 : (items.isEmpty || x == 1) = false) (b2 : (decide (x ≤ 0) || items.isEmpty) = true) :
    Meets (Builtin.«tuple.__mul__» ⟨[.ref l, .int x u], []⟩) (fun _ R s => s.heap.get? l = some { cls := .type "tuple", dict := dd, data := .seq items n, slots := sl } ∧
      R (.ok (.ret (Value.ref s.heap.objs.size))) { s with heap := s.heap.push { cls := Value.type "tuple", data := Data.seq #[] }, toks := s.toks }) :=
  .of_wp fun prog w A R s h => by
    obtain ⟨hp, g, d, tk, os⟩ := s
    obtain ⟨hl, h⟩ := h
    have f1 := AutoSeq1.idx_int
    wp_walk using wpAny_loadPart' hl
    repeat (first
      | (refine wpAny_ite_false (decide_eq_false (by rw [b0]; exact Bool.false_ne_true)) ?_; wp_walk using wpAny_loadPart' hl)
      | (refine wpAny_ite_false (decide_eq_false (by rw [b1]; exact Bool.false_ne_true)) ?_; wp_walk using wpAny_loadPart' hl)
      | (refine wpAny_ite_true (decide_eq_true b2) ?_; wp_walk using wpAny_loadPart' hl))
    exact ⟨_, rfl, h⟩
def rRepT1 (K : PySem.W.Frag) : R2 := fun x y H Q => ∃ l k xs, x = .ref l ∧ y = .int k ∧ SqT K H l xs ∧ -1000000 ≤ k ∧ k ≤ 1000000 ∧ (if xs = [] ∨ k = 1 then Q (.ref l) H else k ≤ 0 ∧ ∀ p, H p = none → Q (.ref p) (upd H p (.tup [])))
theorem op_repT1 : OpR X (binaryOp .Mult) (rRepT1 X.K) := by
  intro pins s σ H x y v u Q I rx ry h
  obtain ⟨l, k, xs, rfl, rfl, hT, k1, k2, q⟩ := h
  cases rx
  obtain ⟨t, rfl⟩ := ry
  obtain ⟨its, r, ⟨⟨cls, dd, data, sl⟩, ho, hc, n, hd⟩, hs⟩ := I.tuple hT
  simp only at hc hd
  subst hc hd
  have hle : its.length = xs.length := r.length.symm
  have b0 : (decide (k < -(2 ^ 63)) || decide (k ≥ 2 ^ 63)) = false := by
    have e1 : decide (k < -(2 ^ 63)) = false := decide_eq_false (by omega)
    have e2 : decide (k ≥ 2 ^ 63) = false := decide_eq_false (by omega)
    rw [e1, e2]; rfl
  have emp : its.toArray.isEmpty = decide (xs = []) := by
    cases its with
    | nil => cases xs with
      | nil => rfl
      | cons a b => cases hle
    | cons a b => cases xs with
      | nil => cases hle
      | cons c d => rfl
  refine wpAny_binaryOp_repeat_ref (T := "tuple") (U := "int") (by decide) ⟨_, ho, rfl⟩ (fun s' => typeIs_int s' k t) noFill_tuple_mul F.fills_int_mul F.slot_int_rmul repeat_tuple F.slot_int_index.lookup
    (call_meets F.slot_int_rmul (typeIs_int s k t) F.entry_int_rmul (F.args_int_rmul_2 _ _) (int_rmul_tuple k t l its.toArray n dd sl) ⟨ho, rfl, ⟨_, ho, rfl⟩, ?_⟩)
  by_cases c : xs = [] ∨ k = 1
  · rw [if_pos c] at q
    have b1 : (its.toArray.isEmpty || k == 1) = true := by
      rw [emp]
      rcases c with c | c
      · rw [decide_eq_true c]; rfl
      · rw [c]; simp
    exact call_meets F.slot_tuple_mul ⟨_, ho, rfl⟩ F.entry_tuple_mul (F.args_tuple_mul_2 _ _) (tup_once l its.toArray n dd sl k t b0 b1) ⟨ho, .ref l, H, I, rfl, q⟩
  · rw [if_neg c] at q
    have c' := not_or.mp c
    have b1 : (its.toArray.isEmpty || k == 1) = false := by
      rw [emp, decide_eq_false c'.1, Bool.false_or]; exact beq_eq_false_iff_ne.mpr c'.2
    have b2 : (decide (k ≤ 0) || its.toArray.isEmpty) = true := by rw [decide_eq_true q.1]; rfl
    refine call_meets F.slot_tuple_mul ⟨_, ho, rfl⟩ F.entry_tuple_mul (F.args_tuple_mul_2 _ _) (tup_never l its.toArray n dd sl k t b0 b1 b2) ⟨ho, .ref s.heap.objs.size, _, I.laid (t' := s.toks) (o := .tup []) (fun b ob q => Heap.get?_push_of_some _ q) (Nat.le_refl _) ⟨Nat.zero_le _, [], .nil, IsTup.new _ _⟩, rfl, q.2 _ (I.hok.fresh (Nat.le_refl _))⟩
def mulOk (i j : Int) : Bool := decide (i.natAbs.log2 + j.natAbs.log2 < 1000000)
def mulD : D → D → Option W
  | .int i, .int j => if mulOk i j then some (.d (.int (i * j))) else none
  | .list xs, .int k => if decide (-1000000 ≤ k ∧ k ≤ 1000000) && small (xs.length * k.toNat) then some (.n (.list (List.replicate k.toNat xs).flatten)) else none
  | .tuple xs, .int k => if decide (-1000000 ≤ k ∧ k ≤ 1000 ∧ xs.length ≤ 1000) then some (.d (.tuple (List.replicate k.toNat xs).flatten)) else none
  | _, _ => none
theorem RepDs.rep {K : PySem.W.Frag} {O : Addr → Prop} {H : Hp} {ds : List D} {vs : List V} (h : RepDs K O H ds vs) : ∀ n : Nat, RepDs K O H (List.replicate n ds).flatten (List.replicate n vs).flatten
  | 0 => rfl
  | n + 1 => by
    rw [List.replicate_succ, List.replicate_succ, List.flatten_cons, List.flatten_cons]
    exact h.append (h.rep n)
theorem bi_mul : Bi2 X (fun x y H Q => rI CMulW (fun i j => .int (i * j)) x y H Q ∨ (fun x y H Q => rRep x y H Q ∨ (fun x y H Q => rRepT X.K x y H Q ∨ rRepT1 X.K x y H Q) x y H Q) x y H Q) (lift2 mulD) := bi_lift fun E Hd al m H x v y u w R Q s rx ry hg P k => by
  cases x <;> cases y <;> first | (simp only [mulD] at hg; cases hg; done) | skip
  · rename_i i j
    have e1 : v = .int i := rx
    have e2 : u = .int j := ry
    subst e1 e2
    obtain ⟨c, rfl⟩ := ite_none hg
    exact .inl ⟨i, j, rfl, rfl, of_decide_eq_true (p := i.natAbs.log2 + j.natAbs.log2 < 1000000) c, res_d s P rfl k⟩
  · rename_i ds j
    obtain ⟨l, xs, rfl, h1, h2⟩ := rx
    have e2 : u = .int j := ry
    subst e2
    obtain ⟨c, rfl⟩ := ite_none hg
    rw [Bool.and_eq_true] at c
    have c1 := of_decide_eq_true c.1
    refine .inr (.inl ⟨l, j, xs, rfl, rfl, h1, by omega, by omega, by rw [h2.len]; exact small_line c.2, fun p hp => res_list s (h2.rep _) hp P k⟩)
  · rename_i ds j
    obtain ⟨l, xs, rfl, h1, h2⟩ := rx
    have e2 : u = .int j := ry
    subst e2
    obtain ⟨c, rfl⟩ := ite_none hg
    have c1 := of_decide_eq_true c
    have hl := h2.len
    by_cases c0 : xs = [] ∨ j = 1
    · refine .inr (.inr (.inr ⟨l, j, xs, rfl, rfl, sqP h1, by omega, by omega, ?_⟩))
      rw [if_pos c0]
      have e : (List.replicate j.toNat ds).flatten = ds := by
        rcases c0 with z | z
        · rw [z] at hl
          have : ds = [] := List.eq_nil_of_length_eq_zero hl.symm
          rw [this]; simp
        · rw [z]; simp
      rw [e] at P
      exact res_d s P ⟨l, xs, rfl, h1, h2⟩ k
    · have c2 := not_or.mp c0
      by_cases c3 : 2 ≤ j
      · exact .inr (.inr (.inl ⟨l, j, xs, rfl, rfl, sqP h1, c2.1, c3, c1.2.1, by rw [hl]; exact c1.2.2, fun p hp => res_tup s (h2.rep _) hp P k⟩))
      · refine .inr (.inr (.inr ⟨l, j, xs, rfl, rfl, sqP h1, by omega, by omega, ?_⟩))
        rw [if_neg c0]
        have e : (List.replicate j.toNat ds).flatten = [] := by
          have : j.toNat = 0 := by omega
          rw [this]; rfl
        rw [e] at P
        exact ⟨by omega, fun p hp => res_tup (ds := []) (vs := []) s rfl hp P k⟩
def mMul (a b : EM W) : EM W := mOp2 a b (lift2 mulD)
theorem den_mul (ha : Den X E ea a) (hb : Den X E eb b) : Den X E (.BinOp ea .Mult eb pos) (mMul a b) := PE.imp (pe_op (opOr op_mulW (opOr op_rep (opOr op_repT op_repT1))) ha hb) fun _ _ _ q => tM_op bi_mul q

/-! ### one operand -/
def negD : D → Option W
  | .int i => some (.d (.int (-i)))
  | _ => none
def invD : D → Option W
  | .int i => some (.d (.int (Builtin.bitNot i)))
  | _ => none
def mNeg (a : EM W) : EM W := mOp1 a (lift1 negD)
def mInv (a : EM W) : EM W := mOp1 a (lift1 invD)
theorem den_neg (ha : Den X E ea a) : Den X E (.UnaryOp .USub ea pos) (mNeg a) := PE.imp (pe_un un_neg ha) fun _ _ _ q => tM_un (un_lift fun E Hd al m H x v w R Q s rx hg P k => by
  cases x <;> first | (simp only [negD] at hg; cases hg; done) | skip
  rename_i i
  have e1 : v = .int i := rx
  subst e1
  cases hg
  exact ⟨i, rfl, res_d s P rfl k⟩) q
theorem den_inv (ha : Den X E ea a) : Den X E (.UnaryOp .Invert ea pos) (mInv a) := PE.imp (pe_un un_inv ha) fun _ _ _ q => tM_un (un_lift fun E Hd al m H x v w R Q s rx hg P k => by
  cases x <;> first | (simp only [invD] at hg; cases hg; done) | skip
  rename_i i
  have e1 : v = .int i := rx
  subst e1
  cases hg
  exact ⟨i, rfl, res_d s P rfl k⟩) q
end
end Den
/-! Den4: tests, comparisons, and or not, displays, argument lists. -/
namespace Den
open PySem PySem.Spec PyProof.Rows L2

def tT (K : PySem.W.Frag) (mg : Str → Option Value) (E : St → XK) (c : EM Bool) : TT := fun σ H Q => ∃ Hd al rho m, Stt K Hd al none H m ∧ EnvOk K mg (Own Hd al m none) al H rho σ ∧
  Post K mg Hd al m H (E σ) (c rho m) fun b _ p _ H' => p = none → Q b H'
abbrev DenT (X : Cx) (E : St → XK) (e : Expr) (c : EM Bool) : Prop := PT X e (tT X.K X.mg E c)
abbrev DenW (X : Cx) (E : St → XK) (e : Expr) (c : EM Bool) : Prop := PW X e (tT X.K X.mg E c)
theorem PT.imp {X : Cx} {e : Expr} {t t' : TT} (h : PT X e t) (k : ∀ σ H Q, t' σ H Q → t σ H Q) : PT X e t' := ⟨fun pins s σ H Q I q => h.run pins s σ H Q I (k σ H Q q)⟩
theorem PW.imp {X : Cx} {e : Expr} {t t' : TT} (h : PW X e t) (k : ∀ σ H Q, t' σ H Q → t σ H Q) : PW X e t' := ⟨fun wh pins s σ H Q I q => h.run wh pins s σ H Q I (k σ H Q q)⟩

/-! ### truth -/
def truD : D → Option Bool
  | .none => some false
  | .bool b => some b
  | .int i => some (i != 0)
  | .str y => if small y.length then some ((y.length : Int) != 0) else none
  | .tuple ds => some (!ds.isEmpty)
  | .list ds => some (!ds.isEmpty)
  | .dict _ => none
def truW (w : W) (m : Mem) : Rs Bool := match peek m w with | some x => (match truD x with | some b => .ok b m | none => .no) | none => .no
def mTru (a : EM W) : EM Bool := fun rho m => (a rho m).bindV truW
/-- a value that is a bool -/
def mBool (a : EM W) : EM Bool := fun rho m => (a rho m).bindV fun w m1 => match w with | .d (.bool b) => .ok b m1 | _ => .no
section
variable {K : PySem.W.Frag} {mg : Str → Option Value} {O : Addr → Prop} {Hd : Addr → Prop} {al : List Addr} {m : Mem} {H : Hp} {E : XK}
theorem RepDs.isEmpty {ds : List D} {vs : List V} (h : RepDs K O H ds vs) : (!ds.isEmpty) = !vs.isEmpty := by
  cases ds with
  | nil => rw [show vs = [] from h]; rfl
  | cons x ds => obtain ⟨v, r, h1, _⟩ := h; subst h1; rfl
theorem truV_of {x : D} {v : V} {b : Bool} (h : RepP K O H x v) (e : truD x = some b) : TruV K v H b := by
  cases x with
  | none => cases h; cases e; rfl
  | bool c => cases h; cases e; rfl
  | int i => cases h; cases e; rfl
  | str y =>
    cases h
    obtain ⟨c, rfl⟩ := ite_none e
    exact ⟨small_line c, rfl⟩
  | tuple ds => obtain ⟨a, vs, rfl, h1, h2⟩ := h; cases e; exact .inr (.inl ⟨vs, sqP h1, h2.isEmpty⟩)
  | list ds => obtain ⟨a, vs, rfl, h1, h2⟩ := h; cases e; exact .inl ⟨vs, .inl (.inl h1), h2.isEmpty⟩
  | dict kvs => cases e
theorem truW_ok {w : W} {v : V} {R : Bool → List Addr → Option Addr → Mem → Hp → Prop} (s : Stt K Hd al none H m) (h : RepW K mg (Own Hd al m none) none al H w v) (P : Post K mg Hd al m H E (truW w m) R) : ∃ b, TruV K v H b ∧ R b al none m H := by
  unfold truW at P
  split at P
  · rename_i x hx
    split at P
    · rename_i b hb
      exact ⟨b, truV_of (peek_ok s h hx) hb, P.ok s⟩
    · exact P.elim
  · exact P.elim
end
section
variable {X : Cx} {E : St → XK} {ea eb ec : Expr} {a b c : EM W} {t u : EM Bool} {pos : Pos} {rest : List Expr}
theorem dt_tru (ha : Den X E ea a) (he : ∀ whole, isTrue ea X.env whole = (do let v ← whole; standAt ea.pos; holding [v] (truthy v)) := by intro _; rfl) : DenT X E ea (mTru a) := PT.imp (pt_truth ha he) fun σ H Q q => by
  obtain ⟨Hd, al, rho, m, s, e, P⟩ := q
  refine ⟨Hd, al, rho, m, s, e, (Post.bindV P).imp fun w al1 p1 m1 H1 g s1 k v rv => ?_⟩
  obtain ⟨g1, s1', rv1, P1⟩ := k v rv
  obtain ⟨b, h1, h2⟩ := truW_ok s1' rv1 P1
  exact ⟨b, h1, h2 rfl⟩
theorem tT_bool {tE : TE} (h : ∀ σ H Q, tM X.K X.mg E a σ H Q → tE σ H Q) {σ : St} {H : Hp} {Q : Bool → Hp → Prop} (q : tT X.K X.mg E (mBool a) σ H Q) : tTest tE σ H Q := by
  obtain ⟨Hd, al, rho, m, s, e, P⟩ := q
  refine h σ H _ ⟨Hd, al, rho, m, s, e, (Post.bindV P).imp fun w al1 p1 m1 H1 g s1 k v rv => ?_⟩
  obtain ⟨g1, s1', rv1, P1⟩ := k v rv
  split at P1
  · rename_i b hw
    rw [hw] at rv1
    have e : v = .bl b := rv1.2
    exact ⟨b, e, (P1.ok s1') rfl⟩
  · exact P1.elim
/-! ### and, or, not as tests -/
def mAndT (t u : EM Bool) : EM Bool := fun rho m => (t rho m).bind fun b m1 => if b = true then u rho m1 else .ok false m1
def mOrT (t u : EM Bool) : EM Bool := fun rho m => (t rho m).bind fun b m1 => if b = true then .ok true m1 else u rho m1
def mNotT (t : EM Bool) : EM Bool := fun rho m => (t rho m).bind fun b m1 => .ok (!b) m1
theorem tT_and {σ : St} {H : Hp} {Q : Bool → Hp → Prop} (q : tT X.K X.mg E (mAndT t u) σ H Q) : tAnd (tT X.K X.mg E t) (tT X.K X.mg E u) σ H Q := by
  obtain ⟨Hd, al, rho, m, s, e, P⟩ := q
  refine ⟨Hd, al, rho, m, s, e, (Post.bind P).imp fun b al1 p1 m1 H1 g s1 k hp => ?_⟩
  subst hp
  cases b with
  | true => exact ⟨Hd, al1, rho, m1, s1, e.go g, k rfl⟩
  | false => exact Post.ok s1 (k rfl) rfl
theorem tT_or {σ : St} {H : Hp} {Q : Bool → Hp → Prop} (q : tT X.K X.mg E (mOrT t u) σ H Q) : tOr (tT X.K X.mg E t) (tT X.K X.mg E u) σ H Q := by
  obtain ⟨Hd, al, rho, m, s, e, P⟩ := q
  refine ⟨Hd, al, rho, m, s, e, (Post.bind P).imp fun b al1 p1 m1 H1 g s1 k hp => ?_⟩
  subst hp
  cases b with
  | false => exact ⟨Hd, al1, rho, m1, s1, e.go g, k rfl⟩
  | true => exact Post.ok s1 (k rfl) rfl
theorem dw_and1 (h : DenT X E ea t) : DenW X E (.BoolOp .And [ea] pos) t := pw_and1 h
theorem dw_or1 (h : DenT X E ea t) : DenW X E (.BoolOp .Or [ea] pos) t := pw_or1 h
theorem dw_and (h : DenT X E ea t) (h2 : DenW X E (.BoolOp .And (eb :: rest) pos) u) : DenW X E (.BoolOp .And (ea :: eb :: rest) pos) (mAndT t u) := PW.imp (pw_and h h2) fun _ _ _ q => tT_and q
theorem dw_or (h : DenT X E ea t) (h2 : DenW X E (.BoolOp .Or (eb :: rest) pos) u) : DenW X E (.BoolOp .Or (ea :: eb :: rest) pos) (mOrT t u) := PW.imp (pw_or h h2) fun _ _ _ q => tT_or q
theorem dt_w (h : DenW X E ea t) : DenT X E ea t := h.pt
theorem dt_not (h : DenT X E ea t) : DenT X E (.UnaryOp .Not ea pos) (mNotT t) := PT.imp (pt_not h) fun σ H Q q => by
  obtain ⟨Hd, al, rho, m, s, e, P⟩ := q
  refine ⟨Hd, al, rho, m, s, e, (Post.bind P).imp fun b al1 p1 m1 H1 g s1 k hp => ?_⟩
  subst hp
  exact Post.ok s1 (k rfl) rfl
/-! ### as values, by truth -/
def mAndV (a b : EM W) : EM W := fun rho m => (a rho m).bindV fun w m1 => (truW w m1).bind fun k m2 => if k = true then b rho m2 else .ok w m2
def mOrV (a b : EM W) : EM W := fun rho m => (a rho m).bindV fun w m1 => (truW w m1).bind fun k m2 => if k = true then .ok w m2 else b rho m2
def mNotV (a : EM W) : EM W := fun rho m => (a rho m).bindV fun w m1 => (truW w m1).bind fun k m2 => .ok (.d (.bool (!k))) m2
theorem den_and1 {op} (h : Den X E ea a) : Den X E (.BoolOp op [ea] pos) a := pe_one h
theorem den_andV (h : Den X E ea a) (h2 : Den X E (.BoolOp .And (eb :: rest) pos) b) : Den X E (.BoolOp .And (ea :: eb :: rest) pos) (mAndV a b) := PE.imp (pe_andT h h2) fun σ H Q q => by
  obtain ⟨Hd, al, rho, m, s, e, P⟩ := q
  refine ⟨Hd, al, rho, m, s, e, (Post.bindV P).imp fun w al1 p1 m1 H1 g s1 k v rv => ?_⟩
  obtain ⟨g1, s1', rv1, P1⟩ := k v rv
  obtain ⟨b, h1, h2⟩ := truW_ok s1' rv1 (Post.bind P1)
  refine ⟨b, h1, ?_⟩
  cases b with
  | true => exact ⟨Hd, al1, rho, m1, s1', e.go g1, h2 rfl⟩
  | false => exact (Post.ok s1' (h2 rfl)) v rv1
theorem den_orV (h : Den X E ea a) (h2 : Den X E (.BoolOp .Or (eb :: rest) pos) b) : Den X E (.BoolOp .Or (ea :: eb :: rest) pos) (mOrV a b) := PE.imp (pe_orT h h2) fun σ H Q q => by
  obtain ⟨Hd, al, rho, m, s, e, P⟩ := q
  refine ⟨Hd, al, rho, m, s, e, (Post.bindV P).imp fun w al1 p1 m1 H1 g s1 k v rv => ?_⟩
  obtain ⟨g1, s1', rv1, P1⟩ := k v rv
  obtain ⟨b, h1, h2⟩ := truW_ok s1' rv1 (Post.bind P1)
  refine ⟨b, h1, ?_⟩
  cases b with
  | false => exact ⟨Hd, al1, rho, m1, s1', e.go g1, h2 rfl⟩
  | true => exact (Post.ok s1' (h2 rfl)) v rv1
theorem den_notV (h : Den X E ea a) : Den X E (.UnaryOp .Not ea pos) (mNotV a) := PE.imp (pe_notT h) fun σ H Q q => by
  obtain ⟨Hd, al, rho, m, s, e, P⟩ := q
  refine ⟨Hd, al, rho, m, s, e, (Post.bindV P).imp fun w al1 p1 m1 H1 g s1 k v rv => ?_⟩
  obtain ⟨g1, s1', rv1, P1⟩ := k v rv
  obtain ⟨b, h1, h2⟩ := truW_ok s1' rv1 (Post.bind P1)
  exact ⟨b, h1, (Post.ok s1' (h2 rfl)) _ ⟨rfl, rfl⟩⟩
/-- a if t else b -/
def mIf (t : EM Bool) (a b : EM W) : EM W := fun rho m => (t rho m).bind fun k m1 => if k = true then a rho m1 else b rho m1
theorem den_if (h : DenT X E ec t) (ha : Den X E ea a) (hb : Den X E eb b) : Den X E (.IfExp ec ea eb pos) (mIf t a b) := PE.imp (pe_ifExp h ha hb) fun σ H Q q => by
  obtain ⟨Hd, al, rho, m, s, e, P⟩ := q
  refine ⟨Hd, al, rho, m, s, e, (Post.bind P).imp fun b al1 p1 m1 H1 g s1 k hp => ?_⟩
  subst hp
  cases b with
  | true => exact ⟨Hd, al1, rho, m1, s1, e.go g, k rfl⟩
  | false => exact ⟨Hd, al1, rho, m1, s1, e.go g, k rfl⟩

/-! ### comparisons -/
theorem den_cmp {op : CmpOp} {r : R2} {f : W → W → Mem → Rs W} (ho : OpR X (compareOp op) r) (hf : Bi2 X r f) (ha : Den X E ea a) (hb : Den X E eb b) (hm : behindInMarks op eb = false) : Den X E (.Compare ea [op] [eb] pos) (mOp2 a b f) :=
  PE.imp (pe_cmpR ho ha hb hm) fun _ _ _ q => tM_op hf q
theorem dt_cmp {op : CmpOp} {r : R2} {f : W → W → Mem → Rs W} (ho : OpR X (compareOp op) r) (hf : Bi2 X r f) (ha : Den X E ea a) (hb : Den X E eb b) (hm : behindInMarks op eb = false) : DenT X E (.Compare ea [op] [eb] pos) (mBool (mOp2 a b f)) :=
  PT.imp (pt_cmpR ho ha hb hm) fun _ _ _ q => tT_bool (fun _ _ _ q => tM_op hf q) q
def mChain (f g : W → W → Mem → Rs W) (a b c : EM W) : EM W := fun rho m => (a rho m).bindV fun x m1 => (b rho m1).bindV fun y m2 => (f x y m2).bindV fun r m3 =>
  match r with | .d (.bool true) => (c rho m3).bindV fun z m4 => g y z m4 | .d (.bool false) => .ok (.d (.bool false)) m3 | _ => .no
theorem tM_chain {r r' : R2} {f g : W → W → Mem → Rs W} (hf : Bi2 X r f) (hg : Bi2 X r' g) {σ : St} {H : Hp} {Q : VK} (q : tM X.K X.mg E (mChain f g a b c) σ H Q) : tChain r r' (tM X.K X.mg E a) (tM X.K X.mg E b) (tM X.K X.mg E c) σ H Q := by
  obtain ⟨Hd, al, rho, m, s, e, P⟩ := q
  refine ⟨Hd, al, rho, m, s, e, (Post.bindV P).imp fun w al1 p1 m1 H1 g1 s1 k v rv => ?_⟩
  obtain ⟨g1, s1', rv1, P1⟩ := k v rv
  refine ⟨Hd, al1, rho, m1, s1', e.go g1, (Post.bindV P1).imp fun w2 al2 p2 m2 H2 g2 s2 k2 v2 rw2 => ?_⟩
  obtain ⟨g2, s2', rv2, P2⟩ := k2 v2 rw2
  refine hf _ _ _ _ _ _ _ _ _ _ _ s2' (rv1.go g2) rv2 (Post.bindV P2) fun w' al' p m' H' v' q' rw' => ?_
  obtain ⟨g3, s3, rv3, P3⟩ := q' v' rw'
  generalize val w' = wr at rv3 P3
  split at P3
  · have e3 : v' = .bl true := rv3.2
    refine ⟨true, e3, ?_⟩
    refine ⟨Hd, al', rho, m', s3, (e.go (g1.trans g2)).go g3, (Post.bindV P3).imp fun w4 al4 p4 m4 H4 g4 s4 k4 v4 rw4 => ?_⟩
    obtain ⟨g4, s4', rv4, P4⟩ := k4 v4 rw4
    exact hg _ _ _ _ _ _ _ _ _ _ Q s4' (rv2.go (g3.trans g4)) rv4 P4 fun w' al' p m' H' v' q' => q' v'
  · have e3 : v' = .bl false := rv3.2
    exact ⟨false, e3, (Post.ok s3 P3) _ ⟨rfl, rfl⟩⟩
  · exact P3.elim
theorem den_chain {op op' : CmpOp} {r r' : R2} {f g : W → W → Mem → Rs W} (ho : OpR X (compareOp op) r) (hf : Bi2 X r f) (ho' : OpR X (compareOp op') r') (hg : Bi2 X r' g) (ha : Den X E ea a) (hb : Den X E eb b) (hc : Den X E ec c)
    (hm : lastMarks [op, op'] [eb, ec] = false := by with_unfolding_all rfl) : Den X E (.Compare ea [op, op'] [eb, ec] pos) (mChain f g a b c) := PE.imp (pe_chain ho ho' ha hb hc hm) fun _ _ _ q => tM_chain hf hg q
theorem dt_chain {op op' : CmpOp} {r r' : R2} {f g : W → W → Mem → Rs W} (ho : OpR X (compareOp op) r) (hf : Bi2 X r f) (ho' : OpR X (compareOp op') r') (hg : Bi2 X r' g) (ha : Den X E ea a) (hb : Den X E eb b) (hc : Den X E ec c)
    (hm : lastMarks [op, op'] [eb, ec] = false := by with_unfolding_all rfl) : DenT X E (.Compare ea [op, op'] [eb, ec] pos) (mBool (mChain f g a b c)) := PT.imp (pt_chain ho ho' ha hb hc hm) fun _ _ _ q => tT_bool (fun _ _ _ q => tM_chain hf hg q) q

/-- the order of ints and of texts -/
def ltD : D → D → Option W
  | .int i, .int j => some (.d (.bool (decide (i < j))))
  | .str i, .str j => some (.d (.bool (decide (i.cps.toList < j.cps.toList))))
  | _, _ => none
def leD : D → D → Option W
  | .int i, .int j => some (.d (.bool (decide (i ≤ j))))
  | .str i, .str j => some (.d (.bool (!decide (j.cps.toList < i.cps.toList))))
  | _, _ => none
def gtD : D → D → Option W
  | .int i, .int j => some (.d (.bool (decide (j < i))))
  | .str i, .str j => some (.d (.bool (decide (j.cps.toList < i.cps.toList))))
  | _, _ => none
def geD : D → D → Option W
  | .int i, .int j => some (.d (.bool (decide (j ≤ i))))
  | .str i, .str j => some (.d (.bool (!decide (i.cps.toList < j.cps.toList))))
  | _, _ => none
abbrev rOr (r r' : R2) : R2 := fun x y H Q => r x y H Q ∨ r' x y H Q
theorem bi_ord {g : D → D → Option W} {f : Int → Int → Bool} {h : Str → Str → Bool} (hi : ∀ i j, g (.int i) (.int j) = some (.d (.bool (f i j)))) (hs : ∀ i j, g (.str i) (.str j) = some (.d (.bool (h i j))))
    (hn : ∀ x y w, g x y = some w → (∃ i j, x = .int i ∧ y = .int j) ∨ ∃ i j, x = .str i ∧ y = .str j) :
    Bi2 X (rOr (rI0 fun i j => .bl (f i j)) (fun x y H Q => ∃ i j, x = .str i ∧ y = .str j ∧ Q (.bl (h i j)) H)) (lift2 g) := bi_lift fun E Hd al m H x v y u w R Q s rx ry hg P k => by
  rcases hn x y w hg with ⟨i, j, rfl, rfl⟩ | ⟨i, j, rfl, rfl⟩
  · have e1 : v = .int i := rx
    have e2 : u = .int j := ry
    subst e1 e2
    rw [hi] at hg; cases hg
    exact .inl ⟨i, j, rfl, rfl, res_d s P rfl k⟩
  · have e1 : v = .str i := rx
    have e2 : u = .str j := ry
    subst e1 e2
    rw [hs] at hg; cases hg
    exact .inr ⟨i, j, rfl, rfl, res_d s P rfl k⟩
theorem ord_cases {g : D → D → Option W} (h : ∀ x y, (∃ i j, x = .int i ∧ y = .int j) ∨ (∃ i j, x = .str i ∧ y = .str j) ∨ g x y = none) : ∀ x y w, g x y = some w → (∃ i j, x = .int i ∧ y = .int j) ∨ ∃ i j, x = .str i ∧ y = .str j := fun x y w e => by
  rcases h x y with q | q | q
  · exact .inl q
  · exact .inr q
  · rw [q] at e; cases e
theorem bi_lt : Bi2 X (rOr (rI0 fun i j => .bl (decide (i < j))) (fun x y H Q => ∃ i j, x = .str i ∧ y = .str j ∧ Q (.bl (decide (i.cps.toList < j.cps.toList))) H)) (lift2 ltD) := bi_ord (fun _ _ => rfl) (fun _ _ => rfl) (ord_cases fun x y => by
  cases x <;> cases y <;> first | exact .inr (.inr rfl) | exact .inl ⟨_, _, rfl, rfl⟩ | exact .inr (.inl ⟨_, _, rfl, rfl⟩))
theorem bi_le : Bi2 X (rOr (rI0 fun i j => .bl (decide (i ≤ j))) (fun x y H Q => ∃ i j, x = .str i ∧ y = .str j ∧ Q (.bl (!decide (j.cps.toList < i.cps.toList))) H)) (lift2 leD) := bi_ord (fun _ _ => rfl) (fun _ _ => rfl) (ord_cases fun x y => by
  cases x <;> cases y <;> first | exact .inr (.inr rfl) | exact .inl ⟨_, _, rfl, rfl⟩ | exact .inr (.inl ⟨_, _, rfl, rfl⟩))
theorem bi_gt : Bi2 X (rOr (rI0 fun i j => .bl (decide (j < i))) (fun x y H Q => ∃ i j, x = .str i ∧ y = .str j ∧ Q (.bl (decide (j.cps.toList < i.cps.toList))) H)) (lift2 gtD) := bi_ord (fun _ _ => rfl) (fun _ _ => rfl) (ord_cases fun x y => by
  cases x <;> cases y <;> first | exact .inr (.inr rfl) | exact .inl ⟨_, _, rfl, rfl⟩ | exact .inr (.inl ⟨_, _, rfl, rfl⟩))
theorem bi_ge : Bi2 X (rOr (rI0 fun i j => .bl (decide (j ≤ i))) (fun x y H Q => ∃ i j, x = .str i ∧ y = .str j ∧ Q (.bl (!decide (i.cps.toList < j.cps.toList))) H)) (lift2 geD) := bi_ord (fun _ _ => rfl) (fun _ _ => rfl) (ord_cases fun x y => by
  cases x <;> cases y <;> first | exact .inr (.inr rfl) | exact .inl ⟨_, _, rfl, rfl⟩ | exact .inr (.inl ⟨_, _, rfl, rfl⟩))
theorem po_lt : OpR X (compareOp .Lt) (rOr (rI0 fun i j => .bl (decide (i < j))) (fun x y H Q => ∃ i j, x = .str i ∧ y = .str j ∧ Q (.bl (decide (i.cps.toList < j.cps.toList))) H)) := opOr op_lt op_lt_str
theorem po_le : OpR X (compareOp .LtE) (rOr (rI0 fun i j => .bl (decide (i ≤ j))) (fun x y H Q => ∃ i j, x = .str i ∧ y = .str j ∧ Q (.bl (!decide (j.cps.toList < i.cps.toList))) H)) := opOr op_le op_le_str
theorem po_gt : OpR X (compareOp .Gt) (rOr (rI0 fun i j => .bl (decide (j < i))) (fun x y H Q => ∃ i j, x = .str i ∧ y = .str j ∧ Q (.bl (decide (j.cps.toList < i.cps.toList))) H)) := opOr op_gt op_gt_str
theorem po_ge : OpR X (compareOp .GtE) (rOr (rI0 fun i j => .bl (decide (j ≤ i))) (fun x y H Q => ∃ i j, x = .str i ∧ y = .str j ∧ Q (.bl (!decide (i.cps.toList < j.cps.toList))) H)) := opOr op_ge op_ge_str

/-! ### equality of data, what is in what -/
def eqD : D → D → Option W
  | .str a, .str b => some (.d (.bool (decide (a = b))))
  | x, y => if SeqAt.shaped x && SeqAt.shaped y then some (.d (.bool (PyData.eqv x y))) else none
def neD : D → D → Option W
  | .str a, .str b => some (.d (.bool (!decide (a = b))))
  | x, y => if SeqAt.shaped x && SeqAt.shaped y then some (.d (.bool (!PyData.eqv x y))) else none
theorem dec_S {a b : Str} : decide (V.str a = V.str b) = decide (a = b) := decide_eq_decide.mpr ⟨fun h => V.str.inj h, fun h => by rw [h]⟩
theorem bi_eq : Bi2 X (rOr rEq (rEqD X.K)) (lift2 eqD) := bi_lift fun E Hd al m H x v y u w R Q s rx ry hg P k => by
  unfold eqD at hg
  split at hg
  · rename_i a b
    cases hg
    have e1 : v = .str a := rx
    have e2 : u = .str b := ry
    subst e1 e2
    exact .inl ⟨rfl, by rw [dec_S]; exact res_d s P rfl k⟩
  · obtain ⟨c, rfl⟩ := ite_none hg
    rw [Bool.and_eq_true] at c
    exact .inr ⟨x, y, rx.dp (noDict_shaped c.1), ry.dp (noDict_shaped c.2), c.1, c.2, res_d s P rfl k⟩
theorem bi_ne : Bi2 X (rOr rNe (rNeD X.K)) (lift2 neD) := bi_lift fun E Hd al m H x v y u w R Q s rx ry hg P k => by
  unfold neD at hg
  split at hg
  · rename_i a b
    cases hg
    have e1 : v = .str a := rx
    have e2 : u = .str b := ry
    subst e1 e2
    exact .inl ⟨rfl, by rw [dec_S]; exact res_d s P rfl k⟩
  · obtain ⟨c, rfl⟩ := ite_none hg
    rw [Bool.and_eq_true] at c
    exact .inr ⟨x, y, rx.dp (noDict_shaped c.1), ry.dp (noDict_shaped c.2), c.1, c.2, res_d s P rfl k⟩
theorem po_eq (hu : X.A.units + 64 < cLine) : OpR X (compareOp .Eq) (rOr rEq (rEqD X.K)) := opOr op_eq (op_eqD hu)
theorem po_ne (hu : X.A.units + 64 < cLine) : OpR X (compareOp .NotEq) (rOr rNe (rNeD X.K)) := opOr op_ne (op_neD hu)
/-- x in a list, a tuple of data; a text in a text -/
def inD : D → D → Option W
  | x, .list ys => if SeqAt.shaped x && SeqAt.shaped (.list ys) then some (.d (.bool (ys.any fun z => PyData.eqv z x))) else none
  | x, .tuple ys => if SeqAt.shaped x && SeqAt.shaped (.tuple ys) then some (.d (.bool (ys.any fun z => PyData.eqv z x))) else none
  | .str i, .str j => some (.d (.bool (!(Builtin.Str.occurrences j i 0 j.length 1).isEmpty)))
  | _, _ => none
def ninD (x y : D) : Option W := match inD x y with | some (.d (.bool b)) => some (.d (.bool (!b))) | _ => none
def rInT (K : PySem.W.Frag) (neg : Bool) : R2 := fun x y H Q => ∃ d ds, Dp K H x d ∧ Dp K H y (.tuple ds) ∧ SeqAt.shaped d = true ∧ SeqAt.shaped (.tuple ds) = true ∧ Q (.bl (if neg then !(ds.any fun z => PyData.eqv z d) else ds.any fun z => PyData.eqv z d)) H
theorem room_inT {A : Around} {d : PyData} {ds : List PyData} (sd : SeqAt.shaped d = true) (hu : A.units + 65 < cLine) : A.units + 1 + min (PyData.depthAll ds) d.depth < cLine := by
  have h1 := SeqAt.depth_of_shaped sd
  have h2 : min (PyData.depthAll ds) d.depth ≤ d.depth := Nat.min_le_right _ _
  omega
theorem lay_tuple {ds : List PyData} (h : SeqAt.shaped (.tuple ds) = true) : PyData.canLayAll0 ds = true := by
  have q := SeqAt.canLay_of_shaped h
  simpa only [PyData.canLay0] using q
theorem op_inT (hu : X.A.units + 65 < cLine) : OpR X (compareOp .In) (rInT X.K false) := by
  intro pins s σ H x y v u Q I rx ry h
  obtain ⟨d, ds, hd, he, sd, se, q⟩ := h
  obtain ⟨as, r1⟩ := Dp.reads I d x v hd rx
  obtain ⟨bs, r2⟩ := Dp.reads I (.tuple ds) y u he ry
  exact SeqAt.in_tuple_reads r2 r1 (lay_tuple se) (SeqAt.canLay_of_shaped sd) (room_inT sd hu) ⟨.bl _, H, I, rfl, q⟩
theorem op_ninT (hu : X.A.units + 65 < cLine) : OpR X (compareOp .NotIn) (rInT X.K true) := by
  intro pins s σ H x y v u Q I rx ry h
  obtain ⟨d, ds, hd, he, sd, se, q⟩ := h
  obtain ⟨as, r1⟩ := Dp.reads I d x v hd rx
  obtain ⟨bs, r2⟩ := Dp.reads I (.tuple ds) y u he ry
  exact SeqAt.notIn_tuple_reads r2 r1 (lay_tuple se) (SeqAt.canLay_of_shaped sd) (room_inT sd hu) ⟨.bl _, H, I, rfl, q⟩
abbrev rInStr (neg : Bool) : R2 := fun x y H Q => ∃ i j, x = .str i ∧ y = .str j ∧ Q (.bl (if neg then !(!(Builtin.Str.occurrences j i 0 j.length 1).isEmpty) else !(Builtin.Str.occurrences j i 0 j.length 1).isEmpty)) H
theorem po_in (hu : X.A.units + 65 < cLine) : OpR X (compareOp .In) (rOr (rInD X.K) (rOr (rInT X.K false) (rInStr false))) := opOr (op_inD hu) (opOr (op_inT hu) op_in_str)
theorem po_nin (hu : X.A.units + 65 < cLine) : OpR X (compareOp .NotIn) (rOr (rNotInD X.K) (rOr (rInT X.K true) (rInStr true))) := opOr (op_notInD hu) (opOr (op_ninT hu) op_notin_str)
theorem in_cases {x y : D} {w : W} (h : inD x y = some w) : (∃ ys, y = .list ys ∧ SeqAt.shaped x = true ∧ SeqAt.shaped (.list ys) = true ∧ w = .d (.bool (ys.any fun z => PyData.eqv z x))) ∨
    (∃ ys, y = .tuple ys ∧ SeqAt.shaped x = true ∧ SeqAt.shaped (.tuple ys) = true ∧ w = .d (.bool (ys.any fun z => PyData.eqv z x))) ∨ ∃ i j, x = .str i ∧ y = .str j ∧ w = .d (.bool (!(Builtin.Str.occurrences j i 0 j.length 1).isEmpty)) := by
  cases y with
  | list ys =>
    have h' : (if SeqAt.shaped x && SeqAt.shaped (.list ys) then some (W.d (.bool (ys.any fun z => PyData.eqv z x))) else none) = some w := by cases x <;> exact h
    obtain ⟨c, rfl⟩ := ite_none h'
    rw [Bool.and_eq_true] at c
    exact .inl ⟨ys, rfl, c.1, c.2, rfl⟩
  | tuple ys =>
    have h' : (if SeqAt.shaped x && SeqAt.shaped (.tuple ys) then some (W.d (.bool (ys.any fun z => PyData.eqv z x))) else none) = some w := by cases x <;> exact h
    obtain ⟨c, rfl⟩ := ite_none h'
    rw [Bool.and_eq_true] at c
    exact .inr (.inl ⟨ys, rfl, c.1, c.2, rfl⟩)
  | str j =>
    cases x <;> first | (simp only [inD] at h; cases h; done) | skip
    rename_i i
    cases h
    exact .inr (.inr ⟨i, j, rfl, rfl, rfl⟩)
  | _ => cases x <;> (simp only [inD] at h; cases h)
theorem bi_in : Bi2 X (rOr (rInD X.K) (rOr (rInT X.K false) (rInStr false))) (lift2 inD) := bi_lift fun E Hd al m H x v y u w R Q s rx ry hg P k => by
  rcases in_cases hg with ⟨ys, rfl, c1, c2, rfl⟩ | ⟨ys, rfl, c1, c2, rfl⟩ | ⟨i, j, rfl, rfl, rfl⟩
  · exact .inl ⟨x, ys, rx.dp (noDict_shaped c1), ry.dp (noDict_shaped c2), c1, c2, res_d s P rfl k⟩
  · exact .inr (.inl ⟨x, ys, rx.dp (noDict_shaped c1), ry.dp (noDict_shaped c2), c1, c2, res_d s P rfl k⟩)
  · have e1 : v = .str i := rx
    have e2 : u = .str j := ry
    exact .inr (.inr ⟨i, j, e1, e2, res_d s P rfl k⟩)
theorem bi_nin : Bi2 X (rOr (rNotInD X.K) (rOr (rInT X.K true) (rInStr true))) (lift2 ninD) := bi_lift fun E Hd al m H x v y u w R Q s rx ry hg P k => by
  unfold ninD at hg
  split at hg
  · rename_i b hb
    cases hg
    rcases in_cases hb with ⟨ys, rfl, c1, c2, e⟩ | ⟨ys, rfl, c1, c2, e⟩ | ⟨i, j, rfl, rfl, e⟩
    · cases e; exact .inl ⟨x, ys, rx.dp (noDict_shaped c1), ry.dp (noDict_shaped c2), c1, c2, res_d s P rfl k⟩
    · cases e; exact .inr (.inl ⟨x, ys, rx.dp (noDict_shaped c1), ry.dp (noDict_shaped c2), c1, c2, res_d s P rfl k⟩)
    · have e1 : v = .str i := rx
      have e2 : u = .str j := ry
      cases e; exact .inr (.inr ⟨i, j, e1, e2, res_d s P rfl k⟩)
  · cases hg
/-- is None -/
def isNone : D → Bool
  | .none => true
  | _ => false
def isD : D → D → Option W
  | x, .none => some (.d (.bool (isNone x)))
  | _, _ => none
def isntD : D → D → Option W
  | x, .none => some (.d (.bool (!isNone x)))
  | _, _ => none
theorem isNone_ok {K : PySem.W.Frag} {O : Addr → Prop} {H : Hp} {x : D} {v : V} (h : RepP K O H x v) : decide (v = .non) = isNone x := by
  cases x with
  | none => cases h; rfl
  | bool b => cases h; rfl
  | int i => cases h; rfl
  | str z => cases h; rfl
  | tuple ds => obtain ⟨a, vs, rfl, _⟩ := h; rfl
  | list ds => obtain ⟨a, vs, rfl, _⟩ := h; rfl
  | dict kvs => obtain ⟨a, rfl, _⟩ := h; rfl
theorem bi_is : Bi2 X (fun x y H Q => y = .non ∧ Q (.bl (decide (x = .non))) H) (lift2 isD) := bi_lift fun E Hd al m H x v y u w R Q s rx ry hg P k => by
  cases y <;> first | (cases x <;> (simp only [isD] at hg; cases hg); done) | skip
  have e2 : u = .non := ry
  subst e2
  have e : some (W.d (.bool (isNone x))) = some w := by cases x <;> exact hg
  cases e
  refine ⟨rfl, ?_⟩
  rw [isNone_ok rx]
  exact res_d s P rfl k
theorem bi_isnt : Bi2 X (fun x y H Q => y = .non ∧ Q (.bl (!decide (x = .non))) H) (lift2 isntD) := bi_lift fun E Hd al m H x v y u w R Q s rx ry hg P k => by
  cases y <;> first | (cases x <;> (simp only [isntD] at hg; cases hg); done) | skip
  have e2 : u = .non := ry
  subst e2
  have e : some (W.d (.bool (!isNone x))) = some w := by cases x <;> exact hg
  cases e
  refine ⟨rfl, ?_⟩
  rw [isNone_ok rx]
  exact res_d s P rfl k

/-! ### argument lists, displays -/
def RepWs (K : PySem.W.Frag) (mg : Str → Option Value) (O : Addr → Prop) (al : List Addr) (H : Hp) : List W → List V → Prop
  | [], vs => vs = []
  | w :: ws, vs => ∃ v r, vs = v :: r ∧ RepW K mg O none al H w v ∧ RepWs K mg O al H ws r
def tA (K : PySem.W.Frag) (mg : Str → Option Value) (E : St → XK) (c : EM (List W)) : TA := fun σ H Q => ∃ Hd al rho m, Stt K Hd al none H m ∧ EnvOk K mg (Own Hd al m none) al H rho σ ∧
  Post K mg Hd al m H (E σ) (c rho m) fun ws al' p m' H' => p = none → ∀ vs, RepWs K mg (Own Hd al' m' none) al' H' ws vs → Q vs H'
abbrev DenA (X : Cx) (E : St → XK) (es : List Expr) (c : EM (List W)) : Prop := PA X es (tA X.K X.mg E c)
theorem PA.imp {es : List Expr} {t t' : TA} (h : PA X es t) (k : ∀ σ H Q, t' σ H Q → t σ H Q) : PA X es t' := ⟨fun pos pins s σ H Q I q => h.run pos pins s σ H Q I (k σ H Q q)⟩
def mNil : EM (List W) := fun _ m => .ok [] m
def mCons (a : EM W) (r : EM (List W)) : EM (List W) := fun rho m => (a rho m).bindV fun x m1 => (r rho m1).bind fun xs m2 => .ok (x :: xs) m2
theorem da_nil : DenA X E [] mNil := PA.imp pa_nil fun σ H Q q => by
  obtain ⟨Hd, al, rho, m, s, e, P⟩ := q
  exact Post.ok s P rfl [] rfl
theorem da_cons {es : List Expr} {r : EM (List W)} (ha : Den X E ea a) (hr : DenA X E es r) (hs : starEach (ea :: es) X.env = (false, eval ea X.env) :: starEach es X.env := by rfl) : DenA X E (ea :: es) (mCons a r) := PA.imp (pa_cons ha hr hs) fun σ H Q q => by
  obtain ⟨Hd, al, rho, m, s, e, P⟩ := q
  refine ⟨Hd, al, rho, m, s, e, (Post.bindV P).imp fun w al1 p1 m1 H1 g s1 k v rv => ?_⟩
  obtain ⟨g1, s1', rv1, P1⟩ := k v rv
  refine ⟨Hd, al1, rho, m1, s1', e.go g1, (Post.bind P1).imp fun ws al2 p2 m2 H2 g2 s2 k2 hp vs rw2 => ?_⟩
  subst hp
  exact Post.ok s2 (k2 rfl) rfl _ ⟨v, vs, rfl, rv1.go g2, rw2⟩
/-- an item that is laid into a container stands fast -/
def frz (m : Mem) : W → Option (D × Mem)
  | .d x => some (x, m)
  | .n x => some (x, m)
  | .r n => match m[n]? with | some (some x) => some (x, m.set n none) | _ => none
  | .f _ => none
  | .s _ => none
  | .e _ => none
def frzAll : List W → Mem → Option (List D × Mem)
  | [], m => some ([], m)
  | w :: ws, m => match frz m w with | some (x, m1) => (match frzAll ws m1 with | some (xs, m2) => some (x :: xs, m2) | none => none) | none => none
end
section
variable {K : PySem.W.Frag} {mg : Str → Option Value} {Hd : Addr → Prop} {al : List Addr} {m m1 : Mem} {H : Hp}
theorem live_set {n r : Nat} (h : Live (m.set n none) r) : Live m r ∧ r ≠ n := by
  obtain ⟨o, h⟩ := h
  by_cases e : n = r
  · subst e
    rw [List.getElem?_set_self'] at h
    cases q : m[n]? with
    | none => rw [q] at h; cases h
    | some z => rw [q] at h; cases h
  · rw [List.getElem?_set_ne e] at h
    exact ⟨⟨o, h⟩, fun z => e z.symm⟩
theorem own_set {n : Nat} {a : Addr} (h : Own Hd al (m.set n none) none a) : Own Hd al m none a := by
  rcases h with ⟨r, h1, h2⟩ | h
  · exact .inl ⟨r, h1, (live_set h2).1⟩
  · exact .inr h
theorem ext_set {n : Nat} : Ext (Own Hd al m none) H (Own Hd al (m.set n none) none) H := Ext.less fun _ h => own_set h
theorem stt_set {n : Nat} (s : Stt K Hd al none H m) : Stt K Hd al none H (m.set n none) where
  len := by rw [List.length_set]; exact s.len
  ob := fun r a o h1 h2 => by
    have q := live_set ⟨o, h2⟩
    have e : m[r]? = some (some o) := by rw [← h2, List.getElem?_set_ne (Ne.symm q.2)]
    exact (s.ob r a o h1 e).stay ext_set rfl
  inj := fun r r' a h1 h2 h3 h4 => s.inj r r' a h1 h2 (live_set h3).1 (live_set h4).1
  pnd := fun _ _ h => nomatch h
  hin := fun a h => ⟨(s.hin a h).1, (fun z => nomatch z), fun r h1 => (s.hin a h).2.2 r (live_set h1).1⟩
theorem frz_ok {w : W} {v : V} {x : D} (s : Stt K Hd al none H m) (h : RepW K mg (Own Hd al m none) none al H w v) (e : frz m w = some (x, m1)) : Stt K Hd al none H m1 ∧ Go Hd al m none H al m1 none H ∧ RepD K (Own Hd al m1 none) H x v := by
  cases w with
  | d y => cases e; exact ⟨s, Go.refl, h.2⟩
  | n y => obtain ⟨a, h1, _⟩ := h; cases h1
  | f y => cases e
  | s y => cases e
  | e y => cases e
  | r n =>
    obtain ⟨a, h1, rfl⟩ := h.2
    have e' : (match m[n]? with | some (some x) => some (x, m.set n none) | _ => none) = some (x, m1) := e
    split at e'
    · rename_i y hy
      cases e'
      refine ⟨stt_set s, ⟨ext_set, fun _ _ h => h, fun _ _ _ h => h⟩, ?_⟩
      have ob := s.ob n a x h1 hy
      have no : ¬ Own Hd al (m.set n none) none a := fun z => by
        rcases z with ⟨r, q1, q2⟩ | z | z
        · exact (live_set q2).2 (s.inj r n a q1 h1 (live_set q2).1 ⟨x, hy⟩)
        · exact (s.hin a z).2.2 n ⟨x, hy⟩ h1
        · cases z
      cases x with
      | list ds => obtain ⟨vs, h2, h3⟩ := ob; exact ⟨a, vs, rfl, ⟨h2, no⟩, h3.ext ext_set⟩
      | dict kvs =>
        refine ⟨a, rfl, no, ?_⟩
        rcases ob with ⟨kz, h2, h3⟩ | ⟨kz, h2, h3⟩
        · exact .inl ⟨kz, .inl h2, RepK.ext ext_set kvs kz h3⟩
        · exact .inr ⟨kz, .inl h2, RepT.ext ext_set kvs kz h3⟩
      | _ => exact ob.elim
    · cases e'
theorem RepWs.go {ws : List W} {vs : List V} {al1 : List Addr} {H1 : Hp} (g : Go Hd al m none H al1 m1 none H1) (h : RepWs K mg (Own Hd al m none) al H ws vs) : RepWs K mg (Own Hd al1 m1 none) al1 H1 ws vs := by
  induction ws generalizing vs with
  | nil => exact h
  | cons w ws ih => obtain ⟨v, r, h1, h2, h3⟩ := h; exact ⟨v, r, h1, h2.go g, ih h3⟩
theorem frzAll_ok : ∀ {ws : List W} {vs : List V} {xs : List D} {m m1 : Mem}, Stt K Hd al none H m → RepWs K mg (Own Hd al m none) al H ws vs → frzAll ws m = some (xs, m1) → Stt K Hd al none H m1 ∧ Go Hd al m none H al m1 none H ∧ RepDs K (Own Hd al m1 none) H xs vs
  | [], _, _, _, _, s, h, e => by cases e; exact ⟨s, Go.refl, h⟩
  | w :: ws, _, xs, m, m1, s, ⟨v, r, h1, h2, h3⟩, e => by
    subst h1
    unfold frzAll at e
    split at e
    · rename_i x m2 hx
      split at e
      · rename_i ys m3 hys
        cases e
        obtain ⟨s2, g2, r2⟩ := frz_ok s h2 hx
        obtain ⟨s3, g3, r3⟩ := frzAll_ok s2 (h3.go g2) hys
        exact ⟨s3, g2.trans g3, v, r, rfl, r2.ext g3.ext, r3⟩
      · cases e
    · cases e
end
section
variable {X : Cx} {E : St → XK} {ea eb ec : Expr} {a b c : EM W} {t u : EM Bool} {pos : Pos} {rest es : List Expr} {r : EM (List W)}
def mTup (r : EM (List W)) : EM W := fun rho m => (r rho m).bind fun ws m1 => match frzAll ws m1 with | some (xs, m2) => if small xs.length then .ok (.d (.tuple xs)) m2 else .no | none => .no
def mLst (r : EM (List W)) : EM W := fun rho m => (r rho m).bind fun ws m1 => match frzAll ws m1 with | some (xs, m2) => if small xs.length then .ok (.n (.list xs)) m2 else .no | none => .no
theorem den_tup {k} (h : DenA X E es r) : Den X E (.Tuple es k pos) (mTup r) := PE.imp (pe_tup h) fun σ H Q q => by
  obtain ⟨Hd, al, rho, m, s, e, P⟩ := q
  refine ⟨Hd, al, rho, m, s, e, (Post.bind P).imp fun ws al1 p1 m1 H1 g s1 k hp vs rv => ?_⟩
  subst hp
  have P1 := k rfl
  split at P1
  · rename_i xs m2 hx
    obtain ⟨s2, g2, r2⟩ := frzAll_ok s1 rv hx
    split at P1
    · rename_i hz
      refine ⟨by rw [r2.len]; exact small_line hz, fun p hp => ?_⟩
      exact res_tup s2 r2 hp (Post.go g2 P1) fun w' al' p m' H' v' q' => q' v'
    · exact P1.elim
  · exact P1.elim
theorem den_lst (h : DenA X E es r) : Den X E (.List es pos) (mLst r) := PE.imp (pe_lst h) fun σ H Q q => by
  obtain ⟨Hd, al, rho, m, s, e, P⟩ := q
  refine ⟨Hd, al, rho, m, s, e, (Post.bind P).imp fun ws al1 p1 m1 H1 g s1 k hp vs rv => ?_⟩
  subst hp
  have P1 := k rfl
  split at P1
  · rename_i xs m2 hx
    obtain ⟨s2, g2, r2⟩ := frzAll_ok s1 rv hx
    split at P1
    · rename_i hz
      refine ⟨by rw [r2.len]; exact small_line hz, fun p hp => ?_⟩
      exact res_list s2 r2 hp (Post.go g2 P1) fun w' al' p m' H' v' q' => q' v'
    · exact P1.elim
  · exact P1.elim
end
end Den
/-! Den5: statements, targets. -/
namespace Den
open PySem PySem.Spec PyProof.Rows L2

inductive Out where
  | nx (rho : Env) (m : Mem) | rt (w : W) (m : Mem) | bk (rho : Env) (m : Mem) | ct (rho : Env) (m : Mem) | ex (c : Exc) (rho : Env) (m : Mem) | no
abbrev SM := Env → Mem → Out
def PostS (K : PySem.W.Frag) (mg : Str → Option Value) (Hd : Addr → Prop) (al : List Addr) (m : Mem) (H : Hp) (E : St → XK) (Dn : Ends) (o : Out) : Prop :=
  match o with
  | .nx rho' m' => ∀ al' H' σ', Go Hd al m none H al' m' none H' → Stt K Hd al' none H' m' → EnvOk K mg (Own Hd al' m' none) al' H' rho' σ' → Dn.nx σ' H'
  | .bk rho' m' => ∀ al' H' σ', Go Hd al m none H al' m' none H' → Stt K Hd al' none H' m' → EnvOk K mg (Own Hd al' m' none) al' H' rho' σ' → Dn.bk σ' H'
  | .ct rho' m' => ∀ al' H' σ', Go Hd al m none H al' m' none H' → Stt K Hd al' none H' m' → EnvOk K mg (Own Hd al' m' none) al' H' rho' σ' → Dn.ct σ' H'
  | .rt w m' => ∀ al' p H' v, Go Hd al m none H al' m' p H' → Stt K Hd al' p H' m' → RepW K mg (Own Hd al' m' p) p al' H' w v → Dn.rt v H'
  | .ex c rho' m' => ∀ al' H' σ' cls dd, Go Hd al m none H al' m' none H' → Stt K Hd al' none H' m' → EnvOk K mg (Own Hd al' m' none) al' H' rho' σ' → ExcOk mg c cls dd H' (Own Hd al' m' none) → E σ' cls dd H'
  | .no => False
def tS (K : PySem.W.Frag) (mg : Str → Option Value) (E : St → XK) (c : SM) : TS := fun Dn σ H => ∃ Hd al rho m, Stt K Hd al none H m ∧ EnvOk K mg (Own Hd al m none) al H rho σ ∧ PostS K mg Hd al m H E Dn (c rho m)
abbrev DenS (X : Cx) (E : St → XK) (st : Stmt) (c : SM) : Prop := PS X st (tS X.K X.mg E c)
abbrev DenSs (X : Cx) (E : St → XK) (st : List Stmt) (c : SM) : Prop := PSs X st (tS X.K X.mg E c)
theorem PS.imp {X : Cx} {st : Stmt} {t t' : TS} (h : PS X st t) (k : ∀ Dn σ H, t' Dn σ H → t Dn σ H) : PS X st t' := ⟨fun pins s σ H Dn I q => h.run pins s σ H Dn I (k Dn σ H q)⟩
theorem PSs.imp {X : Cx} {st : List Stmt} {t t' : TS} (h : PSs X st t) (k : ∀ Dn σ H, t' Dn σ H → t Dn σ H) : PSs X st t' := ⟨fun pins s σ H Dn I q => h.run pins s σ H Dn I (k Dn σ H q)⟩

section
variable {K : PySem.W.Frag} {mg : Str → Option Value} {Hd : Addr → Prop} {al al1 al2 : List Addr} {m m1 m2 : Mem} {p : Option Addr} {H H1 H2 : Hp} {E : St → XK} {Dn Dn' : Ends} {rho : Env} {σ : St}
theorem PostS.go {o : Out} (g : Go Hd al m none H al1 m1 none H1) (h : PostS K mg Hd al m H E Dn o) : PostS K mg Hd al1 m1 H1 E Dn o := by
  cases o with
  | nx r m' => exact fun al' H' σ' g' s e => h al' H' σ' (g.trans g') s e
  | bk r m' => exact fun al' H' σ' g' s e => h al' H' σ' (g.trans g') s e
  | ct r m' => exact fun al' H' σ' g' s e => h al' H' σ' (g.trans g') s e
  | rt w m' => exact fun al' p H' v g' s e => h al' p H' v (g.trans g') s e
  | ex c r m' => exact fun al' H' σ' cls dd g' s e => h al' H' σ' cls dd (g.trans g') s e
  | no => exact h
theorem PostS.nx {rho' : Env} (s : Stt K Hd al none H m) (e : EnvOk K mg (Own Hd al m none) al H rho' σ) (h : PostS K mg Hd al m H E Dn (.nx rho' m)) : Dn.nx σ H := h al H σ Go.refl s e
end

/-- an expression's outcome, then a statement's -/
def Rs.thenS {β : Type} (r : Rs β) (rho : Env) (k : β → Mem → Out) : Out := match r with | .ok b m => k b m | .ex c m => .ex c rho m | .no => .no
def Rs.thenV (r : Rs W) (rho : Env) (k : W → Mem → Out) : Out := match r with | .ok w m => k (val w) m | .ex c m => .ex c rho m | .no => .no
section
variable {K : PySem.W.Frag} {mg : Str → Option Value} {Hd : Addr → Prop} {al al1 al2 : List Addr} {m m1 m2 : Mem} {p : Option Addr} {H H1 H2 : Hp} {E : St → XK} {Dn Dn' : Ends} {rho : Env} {σ : St}
theorem PostS.ofE {β : Type} {r : Rs β} {k : β → Mem → Out} (e : EnvOk K mg (Own Hd al m none) al H rho σ) (h : PostS K mg Hd al m H E Dn (r.thenS rho k)) :
    Post K mg Hd al m H (E σ) r fun b al1 p1 m1 H1 => p1 = none → PostS K mg Hd al1 m1 H1 E Dn (k b m1) := by
  cases r with
  | ok b m' => exact fun al' p H' g s hp => by subst hp; exact PostS.go g h
  | ex c m' => exact fun al' H' cls dd g s x => h al' H' σ cls dd g s (e.go g) x
  | no => exact h
theorem PostS.ofV {r : Rs W} {k : W → Mem → Out} (e : EnvOk K mg (Own Hd al m none) al H rho σ) (h : PostS K mg Hd al m H E Dn (r.thenV rho k)) :
    Post K mg Hd al m H (E σ) r fun w al1 p1 m1 H1 => ∀ v, RepW K mg (Own Hd al1 m1 p1) p1 al1 H1 w v →
      Go Hd al m none H al1 m1 none H1 ∧ Stt K Hd al1 none H1 m1 ∧ RepW K mg (Own Hd al1 m1 none) none al1 H1 (val w) v ∧ PostS K mg Hd al1 m1 H1 E Dn (k (val w) m1) := by
  cases r with
  | ok w m' => exact fun al' p H' g s v rv => ⟨g.trans Go.settle, s.settle, val_ok s rv, PostS.go (g.trans Go.settle) h⟩
  | ex c m' => exact fun al' H' cls dd g s x => h al' H' σ cls dd g s (e.go g) x
  | no => exact h
theorem EnvOk.set {O : Addr → Prop} {i : Nat} {w : W} {v : V} (e : EnvOk K mg O al H rho σ) (h : RepW K mg O none al H w v) : EnvOk K mg O al H (rho.set i (some w)) (σ.set i (some v)) := by
  refine ⟨by rw [List.length_set, List.length_set, e.1], fun j u hj => ?_⟩
  by_cases q : i = j
  · subst q
    have hl : i < rho.length := by
      by_cases hl : i < rho.length
      · exact hl
      · rw [List.getElem?_eq_none (by rw [List.length_set]; omega)] at hj; cases hj
    rw [List.getElem?_set_self hl] at hj
    cases hj
    exact ⟨v, List.getElem?_set_self (by rw [← e.1]; exact hl), h⟩
  · rw [List.getElem?_set_ne q] at hj
    obtain ⟨v', h1, h2⟩ := e.2 j u hj
    exact ⟨v', by rw [List.getElem?_set_ne q]; exact h1, h2⟩
theorem EnvOk.drop {O : Addr → Prop} {i : Nat} (e : EnvOk K mg O al H rho σ) : EnvOk K mg O al H (rho.set i none) (σ.set i none) := by
  refine ⟨by rw [List.length_set, List.length_set, e.1], fun j u hj => ?_⟩
  by_cases q : i = j
  · subst q
    have hl : i < rho.length := by
      by_cases hl : i < rho.length
      · exact hl
      · rw [List.getElem?_eq_none (by rw [List.length_set]; omega)] at hj; cases hj
    rw [List.getElem?_set_self hl] at hj
    cases hj
  · rw [List.getElem?_set_ne q] at hj
    obtain ⟨v', h1, h2⟩ := e.2 j u hj
    exact ⟨v', by rw [List.getElem?_set_ne q]; exact h1, h2⟩
/-- a container just made is given a handle -/
theorem own_alloc {a b : Addr} {x : D} (hl : al.length = m.length) : Own Hd (al ++ [a]) (m ++ [some x]) none b ↔ Own Hd al m (some a) b := by
  constructor
  · rintro (⟨r, h1, o, h2⟩ | h)
    · by_cases hr : r < m.length
      · rw [List.getElem?_append_left (by omega)] at h1
        rw [List.getElem?_append_left hr] at h2
        exact .inl ⟨r, h1, o, h2⟩
      · have : r = al.length := by
          have z := List.getElem?_eq_some_iff.mp h1
          obtain ⟨z, _⟩ := z
          rw [List.length_append, List.length_singleton] at z
          omega
        subst this
        rw [List.getElem?_append_right (Nat.le_refl _), Nat.sub_self] at h1
        cases h1
        exact .inr (.inr rfl)
    · rcases h with h | h
      · exact .inr (.inl h)
      · cases h
  · rintro (⟨r, h1, o, h2⟩ | h | h)
    · obtain ⟨hr, _⟩ := List.getElem?_eq_some_iff.mp h1
      exact .inl ⟨r, by rw [List.getElem?_append_left hr]; exact h1, o, by rw [List.getElem?_append_left (by omega)]; exact h2⟩
    · exact .inr (.inl h)
    · cases h
      exact .inl ⟨al.length, by rw [List.getElem?_append_right (Nat.le_refl _), Nat.sub_self]; rfl, x, by rw [hl, List.getElem?_append_right (Nat.le_refl _), Nat.sub_self]; rfl⟩
theorem go_alloc {a : Addr} {x : D} (s : Stt K Hd al (some a) H m) : Go Hd al m (some a) H (al ++ [a]) (m ++ [some x]) none H where
  ext := Ext.less fun b h => (own_alloc s.len).mp h
  pre := fun r b h => by
    obtain ⟨hr, _⟩ := List.getElem?_eq_some_iff.mp h
    rw [List.getElem?_append_left hr]; exact h
  hid := fun _ _ _ h => h
theorem stt_alloc {a : Addr} {x : D} (s : Stt K Hd al (some a) H m) (ho : ObOk K (Own Hd al m (some a)) H x a) : Stt K Hd (al ++ [a]) none H (m ++ [some x]) where
  len := by rw [List.length_append, List.length_append, s.len]; rfl
  ob := fun r b o h1 h2 => by
    by_cases hr : r < m.length
    · rw [List.getElem?_append_left (by rw [s.len]; exact hr)] at h1
      rw [List.getElem?_append_left hr] at h2
      exact (s.ob r b o h1 h2).stay (go_alloc s).ext rfl
    · have : r = m.length := by
        obtain ⟨z, _⟩ := List.getElem?_eq_some_iff.mp h2
        rw [List.length_append, List.length_singleton] at z
        omega
      subst this
      rw [← s.len, List.getElem?_append_right (Nat.le_refl _), Nat.sub_self] at h1
      rw [List.getElem?_append_right (Nat.le_refl _), Nat.sub_self] at h2
      cases h1; cases h2
      exact ho.stay (go_alloc s).ext rfl
  inj := fun r r' b h1 h2 h3 h4 => by
    have lt : ∀ {q : Nat}, Live (m ++ [some x]) q → q < m.length ∧ Live m q ∨ q = m.length := fun {q} ⟨o, z⟩ => by
      by_cases hr : q < m.length
      · rw [List.getElem?_append_left hr] at z; exact .inl ⟨hr, o, z⟩
      · obtain ⟨z, _⟩ := List.getElem?_eq_some_iff.mp z
        rw [List.length_append, List.length_singleton] at z
        exact .inr (by omega)
    have old : ∀ {q : Nat}, q < m.length → (al ++ [a])[q]? = al[q]? := fun {q} hq => List.getElem?_append_left (by rw [s.len]; exact hq)
    have nw : (al ++ [a])[m.length]? = some a := by rw [← s.len, List.getElem?_append_right (Nat.le_refl _), Nat.sub_self]; rfl
    rcases lt h3 with ⟨l1, v1⟩ | e1
    · rcases lt h4 with ⟨l2, v2⟩ | e2
      · rw [old l1] at h1; rw [old l2] at h2
        exact s.inj r r' b h1 h2 v1 v2
      · subst e2
        rw [nw] at h2; cases h2
        rw [old l1] at h1
        exact absurd h1 (s.pnd a r rfl v1)
    · subst e1
      rcases lt h4 with ⟨l2, v2⟩ | e2
      · rw [nw] at h1; cases h1
        rw [old l2] at h2
        exact absurd h2 (s.pnd a r' rfl v2)
      · exact e2.symm
  pnd := fun _ _ h => nomatch h
  hin := fun b hb => by
    obtain ⟨h1, h2, h3⟩ := s.hin b hb
    refine ⟨h1, (fun z => nomatch z), fun r ⟨o, z⟩ h4 => ?_⟩
    by_cases hr : r < m.length
    · rw [List.getElem?_append_left hr] at z
      rw [List.getElem?_append_left (by rw [s.len]; exact hr)] at h4
      exact h3 r ⟨o, z⟩ h4
    · have : r = m.length := by
        obtain ⟨z, _⟩ := List.getElem?_eq_some_iff.mp z
        rw [List.length_append, List.length_singleton] at z
        omega
      subst this
      rw [← s.len, List.getElem?_append_right (Nat.le_refl _), Nat.sub_self] at h4
      cases h4
      exact h2 rfl
end

section
variable {X : Cx} {E : St → XK} {e ea eb : Expr} {a b : EM W} {st : Stmt} {rest sa sb : List Stmt} {c d : SM} {t : EM Bool} {pos : Pos}
def sSkip : SM := fun rho m => .nx rho m
def sSeq (c d : SM) : SM := fun rho m => match c rho m with | .nx rho' m' => d rho' m' | o => o
theorem dss_nil : DenSs X E [] sSkip := PSs.imp pss_nil fun Dn σ H q => by
  obtain ⟨Hd, al, rho, m, s, e, P⟩ := q
  exact P.nx s e
theorem dss_cons (h : DenS X E st c) (h2 : DenSs X E rest d) : DenSs X E (st :: rest) (sSeq c d) := PSs.imp (pss_cons h h2) fun Dn σ H q => by
  obtain ⟨Hd, al, rho, m, s, e, P⟩ := q
  refine ⟨Hd, al, rho, m, s, e, ?_⟩
  unfold sSeq at P
  cases ho : c rho m with
  | nx r m' => rw [ho] at P; exact fun al' H' σ' g s e => ⟨Hd, al', r, m', s, e, PostS.go g P⟩
  | bk r m' => rw [ho] at P; exact P
  | ct r m' => rw [ho] at P; exact P
  | rt w m' => rw [ho] at P; exact P
  | ex x r m' => rw [ho] at P; exact P
  | no => rw [ho] at P; exact P
theorem dss_one (h : DenS X E st c) : DenSs X E [st] c := pss_one h
def sDrop (a : EM W) : SM := fun rho m => (a rho m).thenV rho fun _ m1 => .nx rho m1
theorem ds_expr (h : Den X E e a) (hs : swapsWith e none pos.line X.env = pure false := by rfl) : DenS X E (.Expr e pos) (sDrop a) := PS.imp (ps_expr h hs) fun Dn σ H q => by
  obtain ⟨Hd, al, rho, m, s, e, P⟩ := q
  refine ⟨Hd, al, rho, m, s, e, (PostS.ofV e P).imp fun w al1 p1 m1 H1 g s1 k v rv => ?_⟩
  obtain ⟨g1, s1', rv1, P1⟩ := k v rv
  exact P1.nx s1' (e.go g1)
theorem ds_doc {x j p q} : DenS X E (.Expr (.Constant (.str x) j p) q) sSkip := PS.imp ps_doc fun Dn σ H q => by
  obtain ⟨Hd, al, rho, m, s, e, P⟩ := q
  exact P.nx s e
theorem ds_pass : DenS X E (.Pass pos) sSkip := PS.imp ps_pass fun Dn σ H q => by
  obtain ⟨Hd, al, rho, m, s, e, P⟩ := q
  exact P.nx s e
def sBreak : SM := fun rho m => .bk rho m
def sCont : SM := fun rho m => .ct rho m
theorem ds_break : DenS X E (.Break pos) sBreak := PS.imp ps_break fun Dn σ H q => by
  obtain ⟨Hd, al, rho, m, s, e, P⟩ := q
  exact P al H σ Go.refl s e
theorem ds_continue : DenS X E (.Continue pos) sCont := PS.imp ps_continue fun Dn σ H q => by
  obtain ⟨Hd, al, rho, m, s, e, P⟩ := q
  exact P al H σ Go.refl s e
def sRet (a : EM W) : SM := fun rho m => (a rho m).thenS rho fun w m1 => .rt w m1
theorem ds_ret (h : Den X E e a) : DenS X E (.Return (some e) pos) (sRet a) := PS.imp (ps_ret h) fun Dn σ H q => by
  obtain ⟨Hd, al, rho, m, s, e, P⟩ := q
  refine ⟨Hd, al, rho, m, s, e, ?_⟩
  unfold sRet at P
  cases ho : a rho m with
  | ok w m' => rw [ho] at P; exact fun al' p H' g s v rv => P al' p H' v g s rv
  | ex x m' => rw [ho] at P; exact fun al' H' cls dd g s x => P al' H' σ cls dd g s (e.go g) x
  | no => rw [ho] at P; exact P
def sRetN : SM := fun _ m => .rt (.d .none) m
theorem ds_retN : DenS X E (.Return none pos) sRetN := PS.imp ps_retN fun Dn σ H q => by
  obtain ⟨Hd, al, rho, m, s, e, P⟩ := q
  exact P al none H _ Go.refl s ⟨rfl, rfl⟩
def sIf (t : EM Bool) (c d : SM) : SM := fun rho m => (t rho m).thenS rho fun b m1 => if b = true then c rho m1 else d rho m1
theorem ds_if (h : DenT X E e t) (h1 : DenSs X E sa c) (h2 : DenSs X E sb d) : DenS X E (.If e sa sb pos) (sIf t c d) := PS.imp (ps_if h h1 h2) fun Dn σ H q => by
  obtain ⟨Hd, al, rho, m, s, e, P⟩ := q
  refine ⟨Hd, al, rho, m, s, e, (PostS.ofE e P).imp fun b al1 p1 m1 H1 g s1 k hp => ?_⟩
  subst hp
  cases b with
  | true => exact ⟨Hd, al1, rho, m1, s1, e.go g, k rfl⟩
  | false => exact ⟨Hd, al1, rho, m1, s1, e.go g, k rfl⟩

/-! ### x = e -/
def sSet (i : Nat) (a : EM W) : SM := fun rho m => (a rho m).thenV rho fun w m1 => .nx (rho.set i (some w)) m1
/-- x is changed later: a container just made gets a handle -/
def sSetR (i : Nat) (a : EM W) : SM := fun rho m => (a rho m).thenS rho fun w m1 => match w with | .n x => .nx (rho.set i (some (.r m1.length))) (m1 ++ [some x]) | _ => .no
theorem tS_set {te : TE} (hi : ∀ σ H Q, tM X.K X.mg E a σ H Q → te σ H Q) {i : Nat} {Dn : Ends} {σ : St} {H : Hp} (q : tS X.K X.mg E (sSet i a) Dn σ H) : tAsg te (gName i) Dn σ H := by
  obtain ⟨Hd, al, rho, m, s, e, P⟩ := q
  refine hi _ _ _ ⟨Hd, al, rho, m, s, e, (PostS.ofV e P).imp fun w al1 p1 m1 H1 g s1 k v rv => ?_⟩
  obtain ⟨g1, s1', rv1, P1⟩ := k v rv
  exact P1.nx s1' ((e.go g1).set rv1)
theorem tS_setR {te : TE} (hi : ∀ σ H Q, tM X.K X.mg E a σ H Q → te σ H Q) {i : Nat} {Dn : Ends} {σ : St} {H : Hp} (q : tS X.K X.mg E (sSetR i a) Dn σ H) : tAsg te (gName i) Dn σ H := by
  obtain ⟨Hd, al, rho, m, s, e, P⟩ := q
  refine hi _ _ _ ⟨Hd, al, rho, m, s, e, ?_⟩
  unfold sSetR at P
  cases ho : a rho m with
  | no => rw [ho] at P; exact P
  | ex x m' => rw [ho] at P; exact fun al' H' cls dd g s x => P al' H' σ cls dd g s (e.go g) x
  | ok w m' =>
    rw [ho] at P
    intro al' p H' g s' v rv
    cases w with
    | n x =>
      obtain ⟨a0, hp, rfl, ob⟩ := rv
      subst hp
      have g2 := go_alloc (x := x) s'
      refine P (al' ++ [a0]) H' _ (g.trans g2) (stt_alloc s' ob) ?_
      refine EnvOk.set (e.go (g.trans g2)) ⟨rfl, a0, ?_, rfl⟩
      · rw [← s'.len, List.getElem?_append_right (Nat.le_refl _), Nat.sub_self]; rfl
    | _ => exact P.elim
variable {i : Nat} {x : Str} {pos' : Pos}
theorem ds_set (i : Nat) (hN : X.N.Nodup) (he : Den X E e a) (hi : X.N[i]? = some x := by rfl) (hx : Loc X.env.scope x := by first | exact Or.inl rfl | exact Or.inr rfl) (hs : swapsWith e (some (.Name x pos')) pos.line X.env = pure false := by rfl)
    (hf : X.fn x = true ∨ X.env.scope.names.lookup x = some .local := by first | exact .inl rfl | exact .inr rfl | assumption) : DenS X E (.Assign [.Name x pos'] e pos) (sSet i a) := PS.imp (ps_set hN hi hx he hs hf) fun _ _ _ q => tS_set (fun _ _ _ h => h) q
theorem ds_setR (i : Nat) (hN : X.N.Nodup) (he : Den X E e a) (hi : X.N[i]? = some x := by rfl) (hx : Loc X.env.scope x := by first | exact Or.inl rfl | exact Or.inr rfl) (hs : swapsWith e (some (.Name x pos')) pos.line X.env = pure false := by rfl)
    (hf : X.fn x = true ∨ X.env.scope.names.lookup x = some .local := by first | exact .inl rfl | exact .inr rfl | assumption) : DenS X E (.Assign [.Name x pos'] e pos) (sSetR i a) := PS.imp (ps_set hN hi hx he hs hf) fun _ _ _ q => tS_setR (fun _ _ _ h => h) q

/-! ### targets -/
/-- a target's store: none where it raises or is none of ours -/
abbrev GM := W → Env → Mem → Option (Env × Mem)
/-- nothing but the slots sl has changed -/
def Off (sl : List Nat) (σ σ' : St) : Prop := σ'.length = σ.length ∧ ∀ j : Nat, j ∉ sl → σ'[j]? = σ[j]?
theorem Off.refl {sl : List Nat} {σ : St} : Off sl σ σ := ⟨rfl, fun _ _ => rfl⟩
theorem Off.trans {sl sl2 sl3 : List Nat} {σ σ1 σ2 : St} (a : Off sl σ σ1) (b : Off sl2 σ1 σ2) (h : ∀ j, j ∈ sl → j ∈ sl3) (h2 : ∀ j, j ∈ sl2 → j ∈ sl3) : Off sl3 σ σ2 :=
  ⟨b.1.trans a.1, fun j n => (b.2 j fun z => n (h2 j z)).trans (a.2 j fun z => n (h j z))⟩
def PostG (K : PySem.W.Frag) (mg : Str → Option Value) (Hd : Addr → Prop) (al : List Addr) (m : Mem) (H : Hp) (σ : St) (sl : List Nat) (r : Option (Env × Mem)) (Q : St → Hp → Prop) : Prop :=
  match r with
  | some (rho', m') => ∀ al' H' σ', Go Hd al m none H al' m' none H' → Stt K Hd al' none H' m' → EnvOk K mg (Own Hd al' m' none) al' H' rho' σ' → Off sl σ σ' → Q σ' H'
  | none => False
def tG (K : PySem.W.Frag) (mg : Str → Option Value) (g : GM) (sl : List Nat) : TG := fun v σ H Q => ∃ Hd al rho m w, Stt K Hd al none H m ∧ EnvOk K mg (Own Hd al m none) al H rho σ ∧ RepW K mg (Own Hd al m none) none al H w v ∧ PostG K mg Hd al m H σ sl (g w rho m) Q
abbrev DenG (X : Cx) (e : Expr) (g : GM) (sl : List Nat) : Prop := PG X e (tG X.K X.mg g sl)
theorem PG.imp {e : Expr} {t t' : TG} (h : PG X e t) (k : ∀ v σ H Q, t' v σ H Q → t v σ H Q) : PG X e t' := ⟨fun pins s σ H v u Q I r q => h.run pins s σ H v u Q I r (k v σ H Q q)⟩
theorem PG.or {e : Expr} {t t' : TG} (h : PG X e t) (h' : PG X e t') : PG X e (fun v σ H Q => t v σ H Q ∨ t' v σ H Q) := ⟨fun pins s σ H v u Q I r q => q.elim (h.run pins s σ H v u Q I r) (h'.run pins s σ H v u Q I r)⟩
theorem PGs.imp {es : List Expr} {t t' : TGs} (h : PGs X es t) (k : ∀ v σ H Q, t' v σ H Q → t v σ H Q) : PGs X es t' := ⟨fun pins s σ H v u Q I r q => h.run pins s σ H v u Q I r (k v σ H Q q)⟩
theorem PostG.go {Hd : Addr → Prop} {al al1 : List Addr} {m m1 : Mem} {H H1 : Hp} {σ : St} {sl : List Nat} {r : Option (Env × Mem)} {Q : St → Hp → Prop} (g : Go Hd al m none H al1 m1 none H1) (h : PostG X.K X.mg Hd al m H σ sl r Q) : PostG X.K X.mg Hd al1 m1 H1 σ sl r Q := by
  cases r with
  | none => exact h
  | some z => exact fun al' H' σ' g' s e => h al' H' σ' (g.trans g') s e
def gN (i : Nat) : GM := fun w rho m => some (rho.set i (some w), m)
theorem dg_name (i : Nat) (hN : X.N.Nodup) (hi : X.N[i]? = some x := by rfl) (hx : Loc X.env.scope x := by first | exact Or.inl rfl | exact Or.inr rfl) (hf : X.fn x = true ∨ X.env.scope.names.lookup x = some .local := by first | exact .inl rfl | exact .inr rfl | assumption) :
    DenG X (.Name x pos) (gN i) [i] := PG.imp (pg_name hN hi hx hf) fun v σ H Q q => by
  obtain ⟨Hd, al, rho, m, w, s, e, rv, P⟩ := q
  refine P al H _ Go.refl s (e.set rv) ⟨List.length_set, fun j hj => List.getElem?_set_ne fun z => hj (by simp [z])⟩
/-- several targets -/
def gAll : List GM → List D → Env → Mem → Option (Env × Mem)
  | [], [], rho, m => some (rho, m)
  | g :: gs, x :: xs, rho, m => match g (.d x) rho m with | some (rho', m') => gAll gs xs rho' m' | none => none
  | _, _, _, _ => none
def tGs (K : PySem.W.Frag) (mg : Str → Option Value) (gs : List GM) (sl : List Nat) : TGs := fun vs σ H Q => ∃ Hd al rho m xs, Stt K Hd al none H m ∧ EnvOk K mg (Own Hd al m none) al H rho σ ∧ RepDs K (Own Hd al m none) H xs vs ∧ PostG K mg Hd al m H σ sl (gAll gs xs rho m) Q
abbrev DenGs (X : Cx) (es : List Expr) (gs : List GM) (sl : List Nat) : Prop := PGs X es (tGs X.K X.mg gs sl)
theorem dgs_nil : DenGs X [] [] [] := PGs.imp pgs_nil fun vs σ H Q q => by
  obtain ⟨Hd, al, rho, m, xs, s, e, rv, P⟩ := q
  cases xs with
  | nil => exact ⟨rv, P al H σ Go.refl s e Off.refl⟩
  | cons y ys => exact P.elim
theorem dgs_cons {es : List Expr} {g : GM} {gs : List GM} {sl sl2 : List Nat} (h1 : DenG X e g sl) (h2 : DenGs X es gs sl2) (hs : (assignEach (e :: es) X.env).map (·.2) = assign e X.env :: (assignEach es X.env).map (·.2) := by rfl) : DenGs X (e :: es) (g :: gs) (sl ++ sl2) := PGs.imp (pgs_cons h1 h2 hs) fun vs σ H Q q => by
  obtain ⟨Hd, al, rho, m, xs, s, e, rv, P⟩ := q
  cases xs with
  | nil => exact P.elim
  | cons y ys =>
    obtain ⟨v, r, rfl, r1, r2⟩ := rv
    refine ⟨v, r, rfl, Hd, al, rho, m, .d y, s, e, ⟨rfl, r1⟩, ?_⟩
    have P' : PostG X.K X.mg Hd al m H σ (sl ++ sl2) (match g (.d y) rho m with | some (rho', m') => gAll gs ys rho' m' | none => none) Q := P
    cases hg : g (.d y) rho m with
    | none => rw [hg] at P'; exact P'
    | some z =>
      rw [hg] at P'
      intro al' H' σ' g' s' e' off
      refine ⟨Hd, al', z.1, z.2, ys, s', e', r2.ext g'.ext, ?_⟩
      have P2 := PostG.go (X := X) g' P'
      have P3 : PostG X.K X.mg Hd al' z.2 H' σ (sl ++ sl2) (gAll gs ys z.1 z.2) Q := P2
      cases hz : gAll gs ys z.1 z.2 with
      | none => rw [hz] at P3; exact P3
      | some z2 =>
        rw [hz] at P3
        exact fun al2 H2 σ2 g2 s2 e2 off2 => P3 al2 H2 σ2 g2 s2 e2 (off.trans off2 (fun j h => List.mem_append_left _ h) fun j h => List.mem_append_right _ h)
def seqOf : D → Option (List D)
  | .tuple ds => some ds
  | .list ds => some ds
  | _ => none
def gT (gs : List GM) : GM := fun w rho m => match (peek m w).bind seqOf with | some ds => if ds.length = gs.length then gAll gs ds rho m else none | none => none
theorem dg_tup {es : List Expr} {k : Nat} {gs : List GM} {sl : List Nat} (hc : X.calm = true) (h : DenGs X es gs sl) (hn : (assignEach es X.env).length = gs.length := by rfl) (hst : (assignEach es X.env).findIdx? (·.1) = none := by rfl) : DenG X (.Tuple es k pos) (gT gs) sl :=
  PG.imp (PG.or (pg_tup hc h hn hst) (pg_lst hc h hn hst)) fun v σ H Q q => by
    obtain ⟨Hd, al, rho, m, w, s, e, rv, P⟩ := q
    unfold gT at P
    cases hp : peek m w with
    | none => rw [hp] at P; exact P.elim
    | some x =>
      rw [hp] at P
      have r := peek_ok s rv hp
      cases x with
      | tuple ds =>
        obtain ⟨a, vs, rfl, h1, h2⟩ := r
        have P' : PostG X.K X.mg Hd al m H σ sl (if ds.length = gs.length then gAll gs ds rho m else none) Q := P
        split at P'
        · rename_i hl
          exact .inl ⟨a, vs, rfl, sqP h1, by rw [h2.len]; exact hl, Hd, al, rho, m, ds, s, e, h2, P'⟩
        · exact P'.elim
      | list ds =>
        obtain ⟨a, vs, rfl, h1, h2⟩ := r
        have P' : PostG X.K X.mg Hd al m H σ sl (if ds.length = gs.length then gAll gs ds rho m else none) Q := P
        split at P'
        · rename_i hl
          exact .inr ⟨a, vs, rfl, .inl (.inl h1), by rw [h2.len]; exact hl, Hd, al, rho, m, ds, s, e, h2, P'⟩
        · exact P'.elim
      | _ => exact P.elim
/-- target = e -/
def sAsg (g : GM) (a : EM W) : SM := fun rho m => (a rho m).thenV rho fun w m1 => match g w rho m1 with | some (rho', m') => .nx rho' m' | none => .no
theorem ds_asg {tg : Expr} {g : GM} {sl : List Nat} (he : Den X E e a) (hg : DenG X tg g sl) (hs : swapsWithSole [tg] e pos.line X.env = pure false := by rfl) (hw : swappedStores [tg] e X.env = pure none := by rfl)
    (h1 : (assignEach [tg] X.env).map (·.2) = [assign tg X.env] := by rfl) : DenS X E (.Assign [tg] e pos) (sAsg g a) := PS.imp (ps_asg he hg hs hw h1) fun Dn σ H q => by
  obtain ⟨Hd, al, rho, m, s, e, P⟩ := q
  refine ⟨Hd, al, rho, m, s, e, (PostS.ofV e P).imp fun w al1 p1 m1 H1 g s1 k v rv => ?_⟩
  obtain ⟨g1, s1', rv1, P1⟩ := k v rv
  refine ⟨Hd, al1, rho, m1, val w, s1', e.go g1, rv1, ?_⟩
  split at P1
  · rename_i heq
    rw [heq]; exact fun al' H' σ' g s e _ => P1 al' H' σ' g s e
  · exact P1.elim
/-- a, b = x, y: plain names, stored together -/
def sPar (i j : Nat) (a b : EM W) : SM := fun rho m => (a rho m).thenV rho fun x m1 => (b rho m1).thenV rho fun y m2 => .nx ((rho.set i (some x)).set j (some y)) m2
def mPair (a b : EM W) : EM (List W) := mCons a (mCons b mNil)
theorem ds_par {i j : Nat} {y : Str} {px py pt : Pos} {kt k2 pt2} (hc : X.calm = true) (hN : X.N.Nodup) (ha : DenA X E [ea, eb] (mPair a b)) (hi : X.N[i]? = some x := by rfl) (hj : X.N[j]? = some y := by rfl) (hij : i ≠ j := by decide)
    (hx : X.env.scope.names.lookup x = some .local := by rfl) (hy : X.env.scope.names.lookup y = some .local := by rfl)
    (hw : swappedStores [.Tuple [.Name x px, .Name y py] kt pt] (.Tuple [ea, eb] k2 pt2) X.env = pure (some [x, y]) := by rfl)
    (hs : swapsWithSole [.Tuple [.Name x px, .Name y py] kt pt] (.Tuple [ea, eb] k2 pt2) pos.line X.env = pure false := by rfl) :
    DenS X E (.Assign [.Tuple [.Name x px, .Name y py] kt pt] (.Tuple [ea, eb] k2 pt2) pos) (sPar i j a b) := PS.imp (ps_par hc hN hi hj hij hx hy ha hw hs) fun Dn σ H q => by
  obtain ⟨Hd, al, rho, m, s, e, P⟩ := q
  refine ⟨Hd, al, rho, m, s, e, ?_⟩
  unfold sPar at P
  show Post X.K X.mg Hd al m H (E σ) ((a rho m).bindV fun x m1 => (mCons b mNil rho m1).bind fun xs m2 => .ok (x :: xs) m2) _
  cases ho : a rho m with
  | no => rw [ho] at P; exact P
  | ex c m' => rw [ho] at P; exact fun al' H' cls dd g s x => P al' H' σ cls dd g s (e.go g) x
  | ok w1 m1 =>
    rw [ho] at P
    show Post X.K X.mg Hd al m H (E σ) (((b rho m1).bindV fun y m2 => (mNil rho m2).bind fun xs m3 => .ok (y :: xs) m3).bind fun xs m2 => .ok (val w1 :: xs) m2) _
    have P2 : PostS X.K X.mg Hd al m H E Dn ((b rho m1).thenV rho fun y m2 => .nx ((rho.set i (some (val w1))).set j (some y)) m2) := P
    cases ho2 : b rho m1 with
    | no => rw [ho2] at P2; exact P2
    | ex c m' => rw [ho2] at P2; exact fun al' H' cls dd g s x => P2 al' H' σ cls dd g s (e.go g) x
    | ok w2 m2 =>
      rw [ho2] at P2
      intro al' p H' g s' hp vs rv
      subst hp
      obtain ⟨v, r, rfl, r1, v2, r', rfl, r2, h3⟩ := rv
      have h3' : r' = [] := h3
      subst h3'
      exact ⟨v, v2, rfl, P2 al' H' _ g s' (((e.go g).set r1).set r2)⟩
end
end Den
/-! Den6: loops, what is walked, comprehensions. -/
namespace Den
open PySem PySem.Spec PyProof.Rows L2

/-! ### while -/
def whileN (t : EM Bool) (c : SM) : Nat → SM
  | 0 => fun _ _ => .no
  | n + 1 => fun rho m => (t rho m).thenS rho fun b m1 => if b = true then (match c rho m1 with | .nx r m' => whileN t c n r m' | .ct r m' => whileN t c n r m' | .bk r m' => .nx r m' | o => o) else .nx rho m1
def sWhile (n : Nat) (t : EM Bool) (c : SM) : SM := whileN t c n
section
variable {X : Cx} {E : St → XK} {e ea eb iter tg : Expr} {a b : EM W} {st : Stmt} {rest sa sb body : List Stmt} {c d : SM} {t : EM Bool} {pos : Pos}
theorem ds_while (n : Nat) (hp : PassesOwn (model X.prog X.w) X.A X.env X.xe) (h : DenT X E e t) (hb : DenSs X E body c) : DenS X E (.While e body [] pos) (sWhile n t c) := PS.imp (ps_while hp h hb) fun Dn σ H q => by
  refine ⟨fun k σ H => ∃ Hd al rho m, Stt X.K Hd al none H m ∧ EnvOk X.K X.mg (Own Hd al m none) al H rho σ ∧ PostS X.K X.mg Hd al m H E Dn (whileN t c k rho m), ⟨n, q⟩, fun k σ H hk => ?_⟩
  obtain ⟨Hd, al, rho, m, s, e, P⟩ := hk
  cases k with
  | zero => exact P.elim
  | succ k =>
    refine ⟨Hd, al, rho, m, s, e, (PostS.ofE e P).imp fun b al1 p1 m1 H1 g s1 kk hp => ?_⟩
    subst hp
    have P1 := kk rfl
    cases b with
    | false => exact P1 al1 H1 σ Go.refl s1 (e.go g)
    | true =>
      refine ⟨fun σ' H' => ∃ Hd al rho m, Stt X.K Hd al none H' m ∧ EnvOk X.K X.mg (Own Hd al m none) al H' rho σ' ∧ PostS X.K X.mg Hd al m H' E Dn (whileN t c k rho m), fun σ' H' hn => ⟨k, Nat.lt_succ_self _, hn⟩, ?_⟩
      refine ⟨Hd, al1, rho, m1, s1, e.go g, ?_⟩
      have P2 : PostS X.K X.mg Hd al1 m1 H1 E Dn (match c rho m1 with | .nx r m' => whileN t c k r m' | .ct r m' => whileN t c k r m' | .bk r m' => .nx r m' | o => o) := P1
      cases ho : c rho m1 with
      | nx r m' => rw [ho] at P2; exact fun al' H' σ' g s e => ⟨Hd, al', r, m', s, e, PostS.go g P2⟩
      | ct r m' => rw [ho] at P2; exact fun al' H' σ' g s e => ⟨Hd, al', r, m', s, e, PostS.go g P2⟩
      | bk r m' => rw [ho] at P2; exact P2
      | rt w m' => rw [ho] at P2; exact P2
      | ex x r m' => rw [ho] at P2; exact P2
      | no => rw [ho] at P2; exact P2

/-! ### what is walked -/
/-- H, or H with one new object -/
def Fresh (H H' : Hp) : Prop := H' = H ∨ ∃ T o, H T = none ∧ H' = upd H T o
theorem Fresh.ext {O : Addr → Prop} {H H' : Hp} (f : Fresh H H') : Ext O H O H' := by
  rcases f with rfl | ⟨T, o, hn, rfl⟩
  · exact Ext.refl
  · exact .of (fun b vs h => by rw [upd_ne (ne_of_none h hn)]; exact h) (fun b ob u h => by rw [upd_ne (ne_of_none h hn)]; exact h) (fun b ob h _ => by rw [upd_ne (ne_of_none h hn)]; exact h) fun b z => .inl z
theorem Fresh.go {Hd : Addr → Prop} {al : List Addr} {m : Mem} {H H' : Hp} (f : Fresh H H') : Go Hd al m none H al m none H' := by
  rcases f with rfl | ⟨T, o, hn, rfl⟩
  · exact Go.refl
  · exact go_new hn (.inl rfl)
theorem Fresh.stt {K : PySem.W.Frag} {Hd : Addr → Prop} {al : List Addr} {m : Mem} {H H' : Hp} (f : Fresh H H') (s : Stt K Hd al none H m) : Stt K Hd al none H' m := by
  rcases f with rfl | ⟨T, o, hn, rfl⟩
  · exact s
  · exact stt_new s hn (.inl rfl)
/-- the walk J yields the data items, from any later point -/
structure ItD (X : Cx) (O : Addr → Prop) (H : Hp) (J : It) (items : List D) : Prop where
  go : ∀ (i : Nat) O' H', Ext O H O' H' → i < items.length → J.go i H'
  yld : ∀ (i : Nat) O' H' x v H'', Ext O H O' H' → items[i]? = some x → J.yld i H' v H'' → Fresh H' H'' ∧ RepD X.K O' H'' x v
  stop : ∀ O' H', Ext O H O' H' → J.stop items.length H'
def tI (X : Cx) (E : St → XK) (c : EM (List D)) : TI := fun σ H R => ∃ Hd al rho m, Stt X.K Hd al none H m ∧ EnvOk X.K X.mg (Own Hd al m none) al H rho σ ∧
  Post X.K X.mg Hd al m H (E σ) (c rho m) fun items al' p m' H' => p = none → ∀ J, ItD X (Own Hd al' m' none) H' J items → R J H'
abbrev DenI (X : Cx) (E : St → XK) (tg iter : Expr) (c : EM (List D)) : Prop := PI X tg iter (tI X E c)
theorem PI.imp {wi wi' : TI} (h : PI X tg iter wi) (k : ∀ σ H R, wi' σ H R → wi σ H R) : PI X tg iter wi' := ⟨fun pins s σ H R I q => h.run pins s σ H R I (k σ H R q)⟩
/-! ### for -/
def forL (g : GM) (c : SM) : List D → SM
  | [] => fun rho m => .nx rho m
  | x :: xs => fun rho m => match g (.d x) rho m with
    | some (r1, m1) => (match c r1 m1 with | .nx r m' => forL g c xs r m' | .ct r m' => forL g c xs r m' | .bk r m' => .nx r m' | o => o)
    | none => .no
def sFor (it : EM (List D)) (g : GM) (c : SM) : SM := fun rho m => (it rho m).thenS rho fun items m1 => forL g c items rho m1
theorem ds_for {it : EM (List D)} {g : GM} {sl : List Nat} (hp : PassesOwn (model X.prog X.w) X.A X.env X.xe) (hc : X.calm = true) (hi : DenI X E tg iter it) (hg : DenG X tg g sl) (hb : DenSs X E body c)
    (hs : ∀ x, foldedSetIterable iter X.env x = pure x := by intro _; rfl) : DenS X E (.For tg iter body [] pos) (sFor it g c) := PS.imp (ps_for hp hc hi hg hb hs) fun Dn σ H q => by
  obtain ⟨Hd, al, rho, m, s, e, P⟩ := q
  refine ⟨Hd, al, rho, m, s, e, (PostS.ofE e P).imp fun items al1 p1 m1 H1 g1 s1 k hp J hJ => ?_⟩
  subst hp
  have P1 := k rfl
  refine ⟨fun i k σ' H' => k = items.length - i ∧ i ≤ items.length ∧ ∃ al' rho' m', Go Hd al1 m1 none H1 al' m' none H' ∧ Stt X.K Hd al' none H' m' ∧ EnvOk X.K X.mg (Own Hd al' m' none) al' H' rho' σ' ∧ PostS X.K X.mg Hd al' m' H' E Dn (forL g c (items.drop i) rho' m'),
    ⟨items.length, rfl, Nat.zero_le _, al1, rho, m1, Go.refl, s1, e.go g1, P1⟩, fun i k σ' H' hk => ?_⟩
  obtain ⟨rfl, hi, al2, rho2, m2, g2, s2, e2, P2⟩ := hk
  by_cases hlt : i < items.length
  · refine .inr ⟨hJ.go i _ H' g2.ext hlt, fun σ3 H3 => ∃ al' rho' m', Go Hd al1 m1 none H1 al' m' none H3 ∧ Stt X.K Hd al' none H3 m' ∧ EnvOk X.K X.mg (Own Hd al' m' none) al' H3 rho' σ3 ∧ PostS X.K X.mg Hd al' m' H3 E Dn (forL g c (items.drop (i + 1)) rho' m'),
      fun σ3 H3 hn => ⟨items.length - (i + 1), by omega, rfl, by omega, hn⟩, fun x H3 hy => ?_⟩
    obtain ⟨f3, r3⟩ := hJ.yld i _ H' items[i] x H3 g2.ext (List.getElem?_eq_getElem hlt) hy
    have g3 : Go Hd al2 m2 none H' al2 m2 none H3 := f3.go
    have s3 := f3.stt s2
    have P3 := PostS.go g3 P2
    have ed : items.drop i = items[i] :: items.drop (i + 1) := List.drop_eq_getElem_cons hlt
    rw [ed] at P3
    have P4 : PostS X.K X.mg Hd al2 m2 H3 E Dn (match g (.d items[i]) rho2 m2 with
      | some (r1, m1) => (match c r1 m1 with | .nx r m' => forL g c (items.drop (i + 1)) r m' | .ct r m' => forL g c (items.drop (i + 1)) r m' | .bk r m' => .nx r m' | o => o)
      | none => .no) := P3
    refine ⟨Hd, al2, rho2, m2, .d items[i], s3, e2.go g3, ⟨rfl, r3⟩, ?_⟩
    cases hg : g (.d items[i]) rho2 m2 with
    | none => rw [hg] at P4; exact P4
    | some z =>
      obtain ⟨r4, m4⟩ := z
      rw [hg] at P4
      intro al4 H4 σ4 g4 s4 e4 _
      have P5 := PostS.go g4 P4
      refine ⟨Hd, al4, r4, m4, s4, e4, ?_⟩
      have P6 : PostS X.K X.mg Hd al4 m4 H4 E Dn (match c r4 m4 with | .nx r m' => forL g c (items.drop (i + 1)) r m' | .ct r m' => forL g c (items.drop (i + 1)) r m' | .bk r m' => .nx r m' | o => o) := P5
      cases ho : c r4 m4 with
      | nx r m' => rw [ho] at P6; exact fun al' H5 σ' g5 s5 e5 => ⟨al', r, m', ((g2.trans g3).trans g4).trans g5, s5, e5, PostS.go g5 P6⟩
      | ct r m' => rw [ho] at P6; exact fun al' H5 σ' g5 s5 e5 => ⟨al', r, m', ((g2.trans g3).trans g4).trans g5, s5, e5, PostS.go g5 P6⟩
      | bk r m' => rw [ho] at P6; exact P6
      | rt w m' => rw [ho] at P6; exact P6
      | ex x r m' => rw [ho] at P6; exact P6
      | no => rw [ho] at P6; exact P6
  · have e : i = items.length := by omega
    subst e
    rw [List.drop_length] at P2
    exact .inl ⟨hJ.stop _ H' g2.ext, P2.nx s2 e2⟩

/-! ### lists, tuples, ranges, zip -/
def mItems (a : EM W) : EM (List D) := fun rho m => (a rho m).bindV fun w m1 => match w with | .d x => (match seqOf x with | some ds => .ok ds m1 | none => .no) | .s ds => .ok ds m1 | _ => .no
theorem PI.or {wi wi' : TI} (h : PI X tg iter wi) (h' : PI X tg iter wi') : PI X tg iter (fun σ H R => wi σ H R ∨ wi' σ H R) := ⟨fun pins s σ H R I q => q.elim (h.run pins s σ H R I) (h'.run pins s σ H R I)⟩
section
variable {O : Addr → Prop} {H : Hp}
/-- the two ways that a list stands fast -/
theorem itD_list {a0 : Addr} {ds : List D} {vs : List V} (hq : ∀ {O' H'}, Ext O H O' H' → SqL X.K H' a0 vs) (r : RepDs X.K O H ds vs) : ItD X O H (Itl X.K a0) ds where
  go := fun i O' H' g hi => by
    have hl := r.len
    exact ⟨vs, vs[i]'(by omega), hq g, List.getElem?_eq_getElem _⟩
  yld := fun i O' H' x v H'' g hx hy => by
    obtain ⟨e, hy⟩ := hy
    subst e
    obtain ⟨v', h1, h2⟩ := (r.ext g).get hx
    have := hy vs (hq g)
    rw [h1] at this; cases this
    exact ⟨.inl rfl, h2⟩
  stop := fun O' H' g => ⟨vs, hq g, by rw [r.len]; exact Nat.le_refl _⟩
theorem itD_tup {a0 : Addr} {ds : List D} {vs : List V} (hq : ∀ {O' H'}, Ext O H O' H' → SqT X.K H' a0 vs) (r : RepDs X.K O H ds vs) : ItD X O H (Itt X.K a0) ds where
  go := fun i O' H' g hi => by
    have hl := r.len
    exact ⟨vs, vs[i]'(by omega), hq g, List.getElem?_eq_getElem _⟩
  yld := fun i O' H' x v H'' g hx hy => by
    obtain ⟨e, hy⟩ := hy
    subst e
    obtain ⟨v', h1, h2⟩ := (r.ext g).get hx
    have := hy vs (hq g)
    rw [h1] at this; cases this
    exact ⟨.inl rfl, h2⟩
  stop := fun O' H' g => ⟨vs, hq g, by rw [r.len]; exact Nat.le_refl _⟩
end
/-- a list or a tuple -/
theorem di_seq (h : Den X E iter a) : DenI X E tg iter (mItems a) := PI.imp (PI.or (pi_list h) (pi_tup h)) fun σ H R q => by
  obtain ⟨Hd, al, rho, m, s, e, P⟩ := q
  unfold mItems at P
  cases ho : a rho m with
  | no => rw [ho] at P; exact P.elim
  | ex c m' => rw [ho] at P; exact .inl ⟨Hd, al, rho, m, s, e, by rw [ho]; exact P⟩
  | ok w m' =>
    rw [ho] at P
    have P0 : Post X.K X.mg Hd al m H (E σ) (match val w with | .d x => (match seqOf x with | some ds => .ok ds m' | none => .no) | .s ds => .ok ds m' | _ => .no) fun items al' p m' H' => p = none → ∀ J, ItD X (Own Hd al' m' none) H' J items → R J H' := P
    cases hw : val w with
    | d x =>
      rw [hw] at P0
      cases x with
      | tuple ds =>
        refine .inr ⟨Hd, al, rho, m, s, e, by
          rw [ho]
          intro al1 p1 H1 g s1 v rv
          have rv' := val_ok s1 rv
          rw [hw] at rv'
          obtain ⟨a0, vs, rfl, h1, h2⟩ := rv'.2
          exact ⟨a0, rfl, ⟨vs, sqP h1⟩, P0 al1 none H1 (g.trans Go.settle) s1.settle rfl _ (itD_tup (fun g => sqT_ext g (sqP h1)) h2)⟩⟩
      | list ds =>
        refine .inl ⟨Hd, al, rho, m, s, e, by
          rw [ho]
          intro al1 p1 H1 g s1 v rv
          have rv' := val_ok s1 rv
          rw [hw] at rv'
          obtain ⟨a0, vs, rfl, h1, h2⟩ := rv'.2
          exact ⟨a0, rfl, ⟨vs, .inl (.inl h1.1)⟩, P0 al1 none H1 (g.trans Go.settle) s1.settle rfl _ (itD_list (fun g => .inl (.inl (sqF_ext g h1).1)) h2)⟩⟩
      | _ => exact P0.elim
    | s ds =>
      rw [hw] at P0
      refine .inl ⟨Hd, al, rho, m, s, e, by
        rw [ho]
        intro al1 p1 H1 g s1 v rv
        have rv' := val_ok s1 rv
        rw [hw] at rv'
        obtain ⟨a0, vs, rfl, h1, h2⟩ := rv'.2
        exact ⟨a0, rfl, ⟨vs, sqS_L h1⟩, P0 al1 none H1 (g.trans Go.settle) s1.settle rfl _ (itD_list (fun g => sqS_L (sqS_ext g h1)) h2)⟩⟩
    | r n => rw [hw] at P0; exact P0.elim
    | n x => rw [hw] at P0; exact P0.elim
    | f x => rw [hw] at P0; exact P0.elim
    | e x => rw [hw] at P0; exact P0.elim
def intOf : W → Option Int
  | .d (.int i) => some i
  | _ => none
theorem intOf_ok {K : PySem.W.Frag} {mg : Str → Option Value} {O : Addr → Prop} {al : List Addr} {H : Hp} {w : W} {v : V} {i : Int} (h : RepW K mg O none al H w v) (e : intOf w = some i) : v = .int i := by
  cases w with
  | d x =>
    cases x <;> first | (simp only [intOf] at e; cases e; done) | skip
    rename_i j
    have e1 : j = i := Option.some.inj e
    have e2 : v = .int j := h.2
    rw [e2, e1]
  | _ => cases e
def rangeD (lo hi : Int) : List D := (List.range (hi - lo).toNat).map fun (k : Nat) => .int (lo + (k : Int))
def midI (i : Int) : Bool := decide (-(2 ^ 62) ≤ i ∧ i < 2 ^ 62)
theorem itD_range {O : Addr → Prop} {H : Hp} (lo : Int) (n : Nat) : ItD X O H (Itr lo n) ((List.range n).map fun (k : Nat) => .int (lo + (k : Int))) where
  go := fun i O' H' g hi => by
    rw [List.length_map, List.length_range] at hi
    exact hi
  yld := fun i O' H' x v H'' g hx hy => by
    obtain ⟨e, hy⟩ := hy
    subst e hy
    rw [List.getElem?_map] at hx
    cases hr : (List.range n)[i]? with
    | none => rw [hr] at hx; cases hx
    | some k =>
      rw [hr] at hx
      cases hx
      obtain ⟨hlt, e⟩ := List.getElem?_eq_some_iff.mp hr
      rw [List.getElem_range] at e
      subst e
      exact ⟨.inl rfl, rfl⟩
  stop := fun O' H' g => by
    show n ≤ _
    rw [List.length_map, List.length_range]
    exact Nat.le_refl _
def mRange1 (a : EM W) : EM (List D) := fun rho m => (mCons a mNil rho m).bind fun ws m1 => match ws with | [x] => (match intOf x with | some j => if midI j then .ok (rangeD 0 j) m1 else .no | none => .no) | _ => .no
def mRange2 (a b : EM W) : EM (List D) := fun rho m => (mCons a (mCons b mNil) rho m).bind fun ws m1 => match ws with | [x, y] => (match intOf x, intOf y with | some i, some j => if midI i && midI j then .ok (rangeD i j) m1 else .no | _, _ => .no) | _ => .no
theorem di_range1 {p : Pos} (hg : Gl X "range") (hm : X.mg "range" = none) (ha : DenA X E [ea] (mCons a mNil)) (hs : starEach [ea] X.env = [(false, eval ea X.env)] := by rfl) : DenI X E tg (.Call (.Name "range" p) [ea] [] pos) (mRange1 a) :=
  PI.imp (pi_range1 hg hm ha hs) fun σ H R q => by
    obtain ⟨Hd, al, rho, m, s, e, P⟩ := q
    refine ⟨Hd, al, rho, m, s, e, (Post.bind P).imp fun ws al1 p1 m1 H1 g s1 k hp vs rv => ?_⟩
    subst hp
    have P1 := k rfl
    split at P1
    · rename_i x
      obtain ⟨v, r, rfl, r1, r2⟩ := rv
      have r2' : r = [] := r2
      subst r2'
      split at P1
      · rename_i j hj
        split at P1
        · rename_i hb
          have hb' := of_decide_eq_true hb
          have e1 : v = .int j := intOf_ok r1 hj
          subst e1
          refine ⟨j, rfl, hb'.1, hb'.2, Post.ok s1 P1 rfl _ ?_⟩
          have z := itD_range (X := X) (O := Own Hd al1 m1 none) (H := H1) 0 j.toNat
          unfold rangeD
          rw [Int.sub_zero]
          exact z
        · exact P1.elim
      · exact P1.elim
    · exact P1.elim
theorem di_range2 {p : Pos} (hg : Gl X "range") (hm : X.mg "range" = none) (ha : DenA X E [ea, eb] (mCons a (mCons b mNil))) (hs : starEach [ea, eb] X.env = [(false, eval ea X.env), (false, eval eb X.env)] := by rfl) (hs2 : starEach [eb] X.env = [(false, eval eb X.env)] := by rfl) :
    DenI X E tg (.Call (.Name "range" p) [ea, eb] [] pos) (mRange2 a b) :=
  PI.imp (pi_range2 hg hm ha hs hs2) fun σ H R q => by
    obtain ⟨Hd, al, rho, m, s, e, P⟩ := q
    refine ⟨Hd, al, rho, m, s, e, (Post.bind P).imp fun ws al1 p1 m1 H1 g s1 k hp vs rv => ?_⟩
    subst hp
    have P1 := k rfl
    split at P1
    · rename_i x y
      obtain ⟨v, r, rfl, r1, v2, r', rfl, r2, r3⟩ := rv
      have r3' : r' = [] := r3
      subst r3'
      split at P1
      · rename_i i j hi hj
        split at P1
        · rename_i hb
          rw [Bool.and_eq_true] at hb
          have hb1 := of_decide_eq_true hb.1
          have hb2 := of_decide_eq_true hb.2
          have e1 : v = .int i := intOf_ok r1 hi
          have e2 : v2 = .int j := intOf_ok r2 hj
          subst e1 e2
          exact ⟨i, j, rfl, ⟨hb1.1, hb1.2, hb2.1, hb2.2⟩, Post.ok s1 P1 rfl _ (itD_range _ _)⟩
        · exact P1.elim
      · exact P1.elim
    · exact P1.elim

/-! ### zip -/
theorem itD_zip {O : Addr → Prop} {H : Hp} {a0 b0 : Addr} {xs ys : List D} {vs us : List V} (hq : ∀ {O' H'}, Ext O H O' H' → SqL X.K H' a0 vs) (hq2 : ∀ {O' H'}, Ext O H O' H' → SqL X.K H' b0 us)
    (r : RepDs X.K O H xs vs) (r2 : RepDs X.K O H ys us) : ItD X O H (Itz X.K a0 b0) ((xs.zip ys).map fun p => .tuple [p.1, p.2]) where
  go := fun i O' H' g hi => by
    have hl := r.len
    have hl2 := r2.len
    rw [List.length_map, List.length_zip] at hi
    exact ⟨vs, us, vs[i]'(by omega), us[i]'(by omega), hq g, hq2 g, List.getElem?_eq_getElem _, List.getElem?_eq_getElem _⟩
  yld := fun i O' H' x v H'' g hx hy => by
    obtain ⟨T, y1, y2, rfl, hn, rfl, h1, h2⟩ := hy
    rw [List.getElem?_map] at hx
    cases hz : (xs.zip ys)[i]? with
    | none => rw [hz] at hx; cases hx
    | some pr =>
      rw [hz] at hx
      cases hx
      obtain ⟨z1, z2⟩ := List.getElem?_zip_eq_some.mp hz
      obtain ⟨v1, w1, q1⟩ := (r.ext g).get z1
      obtain ⟨v2, w2, q2⟩ := (r2.ext g).get z2
      have e1 := h1 vs (hq g)
      have e2 := h2 us (hq2 g)
      rw [w1] at e1; cases e1
      rw [w2] at e2; cases e2
      have f : Fresh H' (upd H' T (.tup [y1, y2])) := .inr ⟨T, _, hn, rfl⟩
      exact ⟨f, T, [y1, y2], rfl, upd_same, y1, [y2], rfl, q1.ext f.ext, y2, [], rfl, q2.ext f.ext, rfl⟩
  stop := fun O' H' g => by
    refine ⟨vs, us, hq g, hq2 g, ?_⟩
    rw [List.length_map, List.length_zip, r.len, r2.len]
    omega
theorem itD_zipT {O : Addr → Prop} {H : Hp} {a0 b0 : Addr} {xs ys : List D} {vs us : List V} (hq : ∀ {O' H'}, Ext O H O' H' → SqT X.K H' a0 vs) (hq2 : ∀ {O' H'}, Ext O H O' H' → SqT X.K H' b0 us)
    (r : RepDs X.K O H xs vs) (r2 : RepDs X.K O H ys us) : ItD X O H (RZ.ItzT X.K a0 b0) ((xs.zip ys).map fun p => .tuple [p.1, p.2]) where
  go := fun i O' H' g hi => by
    have hl := r.len
    have hl2 := r2.len
    rw [List.length_map, List.length_zip] at hi
    exact ⟨vs, us, vs[i]'(by omega), us[i]'(by omega), hq g, hq2 g, List.getElem?_eq_getElem _, List.getElem?_eq_getElem _⟩
  yld := fun i O' H' x v H'' g hx hy => by
    obtain ⟨T, y1, y2, rfl, hn, rfl, h1, h2⟩ := hy
    rw [List.getElem?_map] at hx
    cases hz : (xs.zip ys)[i]? with
    | none => rw [hz] at hx; cases hx
    | some pr =>
      rw [hz] at hx
      cases hx
      obtain ⟨z1, z2⟩ := List.getElem?_zip_eq_some.mp hz
      obtain ⟨v1, w1, q1⟩ := (r.ext g).get z1
      obtain ⟨v2, w2, q2⟩ := (r2.ext g).get z2
      have e1 := h1 vs (hq g)
      have e2 := h2 us (hq2 g)
      rw [w1] at e1; cases e1
      rw [w2] at e2; cases e2
      have f : Fresh H' (upd H' T (.tup [y1, y2])) := .inr ⟨T, _, hn, rfl⟩
      exact ⟨f, T, [y1, y2], rfl, upd_same, y1, [y2], rfl, q1.ext f.ext, y2, [], rfl, q2.ext f.ext, rfl⟩
  stop := fun O' H' g => by
    refine ⟨vs, us, hq g, hq2 g, ?_⟩
    rw [List.length_map, List.length_zip, r.len, r2.len]
    omega
/-- two lists or two tuples -/
def zipD : D → D → Option (List D)
  | .list xs, .list ys => some ((xs.zip ys).map fun p => .tuple [p.1, p.2])
  | .tuple xs, .tuple ys => some ((xs.zip ys).map fun p => .tuple [p.1, p.2])
  | _, _ => none
def mZip (a b : EM W) : EM (List D) := fun rho m => (mCons a (mCons b mNil) rho m).bind fun ws m1 => match ws with | [.d x, .d y] => (match zipD x y with | some ds => .ok ds m1 | none => .no) | _ => .no
theorem di_zip {p pt : Pos} {elts : List Expr} {kk : Nat} (hg : Gl X "zip") (hm : X.mg "zip" = none) (ha : DenA X E [ea, eb] (mCons a (mCons b mNil)))
    (hs : starEach [ea, eb] X.env = (false, eval ea X.env) :: starEach [eb] X.env := by rfl) (hpl : (backTo pos (starEach [eb] X.env)).any (·.1) = false := by rfl) : DenI X E (.Tuple elts kk pt) (.Call (.Name "zip" p) [ea, eb] [] pos) (mZip a b) :=
  PI.imp (RZ.pi_zipA hg hm ha hs hpl) fun σ H R q => by
    obtain ⟨Hd, al, rho, m, s, e, P⟩ := q
    refine ⟨Hd, al, rho, m, s, e, (Post.bind P).imp fun ws al1 p1 m1 H1 g s1 k hp vs rv => ?_⟩
    subst hp
    have P1 := k rfl
    split at P1
    · rename_i x y
      obtain ⟨v, r, rfl, r1, v2, r', rfl, r2, r3⟩ := rv
      have r3' : r' = [] := r3
      subst r3'
      split at P1
      · rename_i ds hz
        cases x with
        | list xs =>
          cases y <;> first | (simp only [zipD] at hz; cases hz; done) | skip
          cases hz
          obtain ⟨a0, vs, rfl, h1, h2⟩ := r1.2
          obtain ⟨b0, us, rfl, h3, h4⟩ := r2.2
          exact ⟨a0, b0, vs, us, rfl, .inl ⟨.inl (.inl h1.1), .inl (.inl h3.1), Post.ok s1 P1 rfl _ (itD_zip (fun g => .inl (.inl (sqF_ext g h1).1)) (fun g => .inl (.inl (sqF_ext g h3).1)) h2 h4)⟩⟩
        | tuple xs =>
          cases y <;> first | (simp only [zipD] at hz; cases hz; done) | skip
          cases hz
          obtain ⟨a0, vs, rfl, h1, h2⟩ := r1.2
          obtain ⟨b0, us, rfl, h3, h4⟩ := r2.2
          exact ⟨a0, b0, vs, us, rfl, .inr ⟨sqP h1, sqP h3, Post.ok s1 P1 rfl _ (itD_zipT (fun g => sqT_ext g (sqP h1)) (fun g => sqT_ext g (sqP h3)) h2 h4)⟩⟩
        | _ => simp only [zipD] at hz; cases hz
      · exact P1.elim
    · exact P1.elim

/-! ### comprehensions -/
def wipeE (rho : Env) : List Nat → Env
  | [] => rho
  | v :: vs => (wipeE rho vs).set v none
theorem EnvOk.wipe {K : PySem.W.Frag} {mg : Str → Option Value} {O : Addr → Prop} {al : List Addr} {H : Hp} {rho : Env} {σ : St} (e : EnvOk K mg O al H rho σ) : ∀ vs : List Nat, EnvOk K mg O al H (wipeE rho vs) (L2.wipe σ vs)
  | [] => e
  | v :: vs => (EnvOk.wipe e vs).drop
theorem wipe_get (σ : St) (j : Nat) : ∀ vs : List Nat, (L2.wipe σ vs)[j]? = if j ∈ vs ∧ j < σ.length then some none else σ[j]?
  | [] => by rw [if_neg (by simp)]; rfl
  | v :: vs => by
    show ((L2.wipe σ vs).set v none)[j]? = _
    by_cases e : v = j
    · subst e
      by_cases hl : v < σ.length
      · rw [List.getElem?_set_self (by rw [wipe_length]; exact hl), if_pos ⟨List.mem_cons_self, hl⟩]
      · rw [if_neg (fun z => hl z.2), List.getElem?_eq_none (by rw [List.length_set, wipe_length]; omega), List.getElem?_eq_none (by omega)]
    · rw [List.getElem?_set_ne e, wipe_get σ j vs]
      by_cases q : j ∈ vs ∧ j < σ.length
      · rw [if_pos q, if_pos ⟨List.mem_cons_of_mem _ q.1, q.2⟩]
      · rw [if_neg q, if_neg fun z => q ⟨(List.mem_cons.mp z.1).resolve_left fun y => e y.symm, z.2⟩]
theorem wipe_off {sl vs : List Nat} {σ σ2 : St} (h : Off sl (L2.wipe σ vs) σ2) (hs : ∀ j ∈ sl, j ∈ vs) : L2.wipe σ2 vs = L2.wipe σ vs := by
  refine List.ext_getElem? fun j => ?_
  rw [wipe_get, wipe_get]
  have hl : σ2.length = σ.length := by rw [h.1, wipe_length]
  rw [hl]
  by_cases q : j ∈ vs ∧ j < σ.length
  · rw [if_pos q, if_pos q]
  · rw [if_neg q, if_neg q]
    by_cases hj : j ∈ sl
    · have : ¬ j < σ.length := fun z => q ⟨hs j hj, z⟩
      rw [List.getElem?_eq_none (by omega), List.getElem?_eq_none (by omega)]
    · rw [h.2 j hj, wipe_get, if_neg q]
/-- the items one after another; acc: what is made so far -/
def compL (vs : List Nat) (g : GM) (t : EM Bool) (a : EM W) : List D → List D → EM (List D)
  | [], acc => fun _ m => .ok acc m
  | x :: xs, acc => fun rho m => match g (.d x) (wipeE rho vs) m with
    | some (r1, m1) => (t r1 m1).bind fun b m2 => if b = true then
        (a r1 m2).bindV fun w m3 => match frz m3 w with | some (y, m4) => compL vs g t a xs (acc ++ [y]) rho m4 | none => .no
      else compL vs g t a xs acc rho m2
    | none => .no
def mComp (it : EM (List D)) (vs : List Nat) (g : GM) (t : EM Bool) (a : EM W) : EM W := fun rho m => (it rho m).bind fun items m1 => if small items.length then (compL vs g t a items [] rho m1).bind fun acc m2 => .ok (.n (.list acc)) m2 else .no
def tYesT : EM Bool := fun _ m => .ok true m
abbrev E0' : St → XK := fun _ _ _ _ => False
abbrev DenTs (X : Cx) (ifs : List Expr) (t : EM Bool) : Prop := PTs X ifs (tT X.K X.mg E0' t)
theorem PTs.imp {ifs : List Expr} {t t' : TT} (h : PTs X ifs t) (k : ∀ σ H Q, t' σ H Q → t σ H Q) : PTs X ifs t' := ⟨fun pins s σ H Q I q => h.run pins s σ H Q I (k σ H Q q)⟩
theorem dts_nil : DenTs X [] tYesT := PTs.imp pts_nil fun σ H Q q => by
  obtain ⟨Hd, al, rho, m, s, e, P⟩ := q
  exact Post.ok s P rfl
theorem dts_one {c : Expr} {t : EM Bool} (h : DenT X E0' c t) : DenTs X [c] t := pts_one h
/-- the outcome is none of ours where an exception would leave -/
def calmR {β : Type} : Rs β → Rs β
  | .ex _ _ => .no
  | r => r
/-- one more hidden object -/
def more (Hd : Addr → Prop) (D0 : Addr) : Addr → Prop := fun a => Hd a ∨ a = D0
theorem own_more {Hd : Addr → Prop} {D0 : Addr} {al : List Addr} {m : Mem} {p : Option Addr} {a : Addr} : Own (more Hd D0) al m p a ↔ Own Hd al m p a ∨ a = D0 := by
  constructor
  · rintro (h | (h | h) | h)
    · exact .inl (.inl h)
    · exact .inl (.inr (.inl h))
    · exact .inr h
    · exact .inl (.inr (.inr h))
  · rintro ((h | h | h) | h)
    · exact .inl h
    · exact .inr (.inl (.inl h))
    · exact .inr (.inr h)
    · exact .inr (.inl (.inr h))
theorem stt_more {K : PySem.W.Frag} {Hd : Addr → Prop} {D0 : Addr} {o : HO} {al : List Addr} {m : Mem} {H : Hp} (s : Stt K Hd al none H m) (hn : H D0 = none) : Stt K (more Hd D0) al none (upd H D0 o) m ∧ Ext (Own Hd al m none) H (Own (more Hd D0) al m none) (upd H D0 o) := by
  have ex : Ext (Own Hd al m none) H (Own (more Hd D0) al m none) (upd H D0 o) := ⟨(go_new (Hd := Hd) (al := al) (m := m) (o := o) hn (.inl rfl)).ext.tup, (go_new (Hd := Hd) (al := al) (m := m) (o := o) hn (.inl rfl)).ext.frz, (go_new (Hd := Hd) (al := al) (m := m) (o := o) hn (.inl rfl)).ext.oth, fun b z => by
    rcases own_more.mp z with z | z
    · exact .inl z
    · subst z; exact .inr hn⟩
  refine ⟨⟨s.len, fun r b x h1 h2 => ?_, s.inj, fun _ _ h => (nomatch h), fun b hb => ?_⟩, ex⟩
  · have h := s.ob r b x h1 h2
    obtain ⟨u, hu, _⟩ := h.some
    exact h.stay ex (upd_ne (ne_of_none hu hn))
  · rcases hb with hb | hb
    · obtain ⟨⟨u, hu⟩, h2, h3⟩ := s.hin b hb
      exact ⟨⟨u, by rw [upd_ne (ne_of_none hu hn)]; exact hu⟩, h2, h3⟩
    · subst hb
      refine ⟨⟨o, upd_same⟩, (fun z => nomatch z), fun r ⟨x, hx⟩ h1 => ?_⟩
      obtain ⟨u, hu, _⟩ := (s.ob r _ x h1 hx).some
      rw [hn] at hu; cases hu
/-- the hidden list grows -/
theorem stt_grow {K : PySem.W.Frag} {Hd : Addr → Prop} {D0 : Addr} {o o' : HO} {al : List Addr} {m : Mem} {H : Hp} (s : Stt K (more Hd D0) al none H m) (hD : H D0 = some o) (ht : Mut (some o)) : Stt K (more Hd D0) al none (upd H D0 o') m ∧
    ∀ ds vs, RepDs K (Own (more Hd D0) al m none) H ds vs → RepDs K (Own (more Hd D0) al m none) (upd H D0 o') ds vs := by
  have nt : ∀ b vs, H b = some (.tup vs) → b ≠ D0 := fun b vs h z => by subst z; rw [hD] at h; cases h; exact ht
  have nf : ∀ b ob u, H b = some (.frz ob u) → b ≠ D0 := fun b ob u h z => by subst z; rw [hD] at h; cases h; exact ht
  have ex : Ext (Own (more Hd D0) al m none) H (Own (more Hd D0) al m none) (upd H D0 o') := .of (fun b vs h => by rw [upd_ne (nt b vs h)]; exact h) (fun b ob u h => by rw [upd_ne (nf b ob u h)]; exact h)
    (fun b ob h n => by rw [upd_ne fun z => n (own_more.mpr (.inr z))]; exact h) fun _ z => .inl z
  refine ⟨⟨s.len, fun r b x h1 h2 => ?_, s.inj, s.pnd, fun b hb => ?_⟩, fun ds vs h => h.ext ex⟩
  · exact (s.ob r b x h1 h2).stay ex (upd_ne fun z => (s.hin D0 (.inr rfl)).2.2 r ⟨x, h2⟩ (z ▸ h1))
  · obtain ⟨⟨u, hu⟩, h2, h3⟩ := s.hin b hb
    refine ⟨?_, h2, h3⟩
    by_cases e : b = D0
    · subst e; exact ⟨o', upd_same⟩
    · exact ⟨u, by rw [upd_ne e]; exact hu⟩
theorem RepW.ext {K : PySem.W.Frag} {mg : Str → Option Value} {O O' : Addr → Prop} {al al1 : List Addr} {H H1 : Hp} {w : W} {v : V} (ex : Ext O H O' H1) (pre : ∀ (r : Nat) a, al[r]? = some a → al1[r]? = some a) (h : RepW K mg O none al H w v) : RepW K mg O' none al1 H1 w v := by
  cases w with
  | d x => exact ⟨rfl, h.2.ext ex⟩
  | r n => obtain ⟨a, h1, h2⟩ := h.2; exact ⟨rfl, a, pre _ _ h1, h2⟩
  | f x => exact ⟨rfl, h.2⟩
  | s xs => obtain ⟨a, vs, h1, h2, h3⟩ := h.2; exact ⟨rfl, a, vs, h1, sqS_ext ex h2, h3.ext ex⟩
  | e a => exact ⟨rfl, h.2⟩
  | n x => obtain ⟨a, h1, h2⟩ := h; cases h1
theorem EnvOk.ext {K : PySem.W.Frag} {mg : Str → Option Value} {O O' : Addr → Prop} {al al1 : List Addr} {H H1 : Hp} {rho : Env} {σ : St} (ex : Ext O H O' H1) (pre : ∀ (r : Nat) a, al[r]? = some a → al1[r]? = some a) (e : EnvOk K mg O al H rho σ) : EnvOk K mg O' al1 H1 rho σ :=
  ⟨e.1, fun i w h => by obtain ⟨v, h1, h2⟩ := e.2 i w h; exact ⟨v, h1, h2.ext ex pre⟩⟩
theorem own_hid {Hd : Addr → Prop} {D0 : Addr} {al : List Addr} {m : Mem} {a : Addr} : Own (more Hd D0) al m none a ↔ Own Hd al m (some D0) a := by
  constructor
  · rintro (h | (h | h) | h)
    · exact .inl h
    · exact .inr (.inl h)
    · subst h; exact .inr (.inr rfl)
    · cases h
  · rintro (h | h | h)
    · exact .inl h
    · exact .inr (.inl (.inl h))
    · cases h; exact .inr (.inl (.inr rfl))
theorem stt_show {K : PySem.W.Frag} {Hd : Addr → Prop} {D0 : Addr} {al : List Addr} {m : Mem} {H : Hp} (s : Stt K (more Hd D0) al none H m) (nh : ¬ Hd D0) : Stt K Hd al (some D0) H m where
  len := s.len
  ob := fun r a o h1 h2 => (s.ob r a o h1 h2).stay (Ext.less fun b h => own_hid.mpr h) rfl
  inj := s.inj
  pnd := fun a r h1 h2 => by cases h1; exact (s.hin D0 (.inr rfl)).2.2 r h2
  hin := fun a h => ⟨(s.hin a (.inl h)).1, fun z => by cases z; exact nh h, (s.hin a (.inl h)).2.2⟩
theorem tM_comp {it : EM (List D)} {g : GM} {sl vs : List Nat} {t : EM Bool} {a : EM W} (hs : ∀ j ∈ sl, j ∈ vs) {σ : St} {H : Hp} {Q : VK} (q : tM X.K X.mg E (mComp it vs g (fun r m => calmR (t r m)) (fun r m => calmR (a r m))) σ H Q) :
    tLc (tI X E it) (tG X.K X.mg g sl) (tT X.K X.mg E0' t) (tM X.K X.mg E0' a) vs σ H Q := by
  obtain ⟨Hd, al, rho, m, s, e, P⟩ := q
  refine ⟨Hd, al, rho, m, s, e, (Post.bind P).imp fun items al1 p1 m1 H1 g1 s1 k hp J hJ D0 hD => ?_⟩
  subst hp
  have P0 := k rfl
  by_cases hsm : small items.length = true
  case neg => rw [if_neg hsm] at P0; exact P0.elim
  rw [if_pos hsm] at P0
  have e1 := e.go g1
  have nh : ¬ Hd D0 := fun z => by obtain ⟨⟨o, ho⟩, _⟩ := s1.hin D0 z; rw [hD] at ho; cases ho
  obtain ⟨sD, exD⟩ := stt_more (o := .lst []) s1 hD
  refine ⟨fun i k H' => k = items.length - i ∧ i ≤ items.length ∧ ∃ al' m' acc vsA, Ext (Own Hd al1 m1 none) H1 (Own (more Hd D0) al' m' none) H' ∧ (∀ (r : Nat) a, al1[r]? = some a → al'[r]? = some a) ∧ (∀ a o, Hd a → H1 a = some o → H' a = some o) ∧
      Stt X.K (more Hd D0) al' none H' m' ∧ H' D0 = some (.lst vsA) ∧ RepDs X.K (Own (more Hd D0) al' m' none) H' acc vsA ∧ acc.length ≤ i ∧
      Post X.K X.mg Hd al1 m1 H1 (E σ) ((compL vs g (fun r m => calmR (t r m)) (fun r m => calmR (a r m)) (items.drop i) acc rho m').bind fun acc m2 => Rs.ok (W.n (PyData.list acc)) m2) fun w al' p m' H' => ∀ v, RepW X.K X.mg (Own Hd al' m' p) p al' H' w v → Q v H',
    ⟨items.length, rfl, Nat.zero_le _, al1, m1, [], [], exD, fun _ _ h => h, fun b o hb h => by rw [upd_ne fun z => nh (by rw [← z]; exact hb)]; exact h, sD, upd_same, rfl, Nat.le_refl _, P0⟩, fun i k H' hk => ?_⟩
  obtain ⟨rfl, hi, al2, m2, acc, vsA, ex2, pre2, hid2, s2, hA, rA, hacc, P2⟩ := hk
  by_cases hlt : i < items.length
  · refine .inr ⟨hJ.go i _ H' ex2 hlt, fun H3 => ∃ al' m' acc vsA, Ext (Own Hd al1 m1 none) H1 (Own (more Hd D0) al' m' none) H3 ∧ (∀ (r : Nat) a, al1[r]? = some a → al'[r]? = some a) ∧ (∀ a o, Hd a → H1 a = some o → H3 a = some o) ∧
      Stt X.K (more Hd D0) al' none H3 m' ∧ H3 D0 = some (.lst vsA) ∧ RepDs X.K (Own (more Hd D0) al' m' none) H3 acc vsA ∧ acc.length ≤ i + 1 ∧
      Post X.K X.mg Hd al1 m1 H1 (E σ) ((compL vs g (fun r m => calmR (t r m)) (fun r m => calmR (a r m)) (items.drop (i + 1)) acc rho m').bind fun acc m2 => Rs.ok (W.n (PyData.list acc)) m2) fun w al' p m' H' => ∀ v, RepW X.K X.mg (Own Hd al' m' p) p al' H' w v → Q v H',
      fun H3 hn => ⟨items.length - (i + 1), by omega, rfl, by omega, hn⟩, fun x H3 hy => ?_⟩
    obtain ⟨f3, r3⟩ := hJ.yld i _ H' items[i] x H3 ex2 (List.getElem?_eq_getElem hlt) hy
    have g3 : Go (more Hd D0) al2 m2 none H' al2 m2 none H3 := f3.go
    have s3 := f3.stt s2
    rw [List.drop_eq_getElem_cons hlt] at P2
    have P4 : Post X.K X.mg Hd al1 m1 H1 (E σ) ((match g (.d items[i]) (wipeE rho vs) m2 with
      | some (r1, m1) => (calmR (t r1 m1)).bind fun b m2 => if b = true then
          (calmR (a r1 m2)).bindV fun w m3 => match frz m3 w with | some (y, m4) => compL vs g (fun r m => calmR (t r m)) (fun r m => calmR (a r m)) (items.drop (i + 1)) (acc ++ [y]) rho m4 | none => .no
        else compL vs g (fun r m => calmR (t r m)) (fun r m => calmR (a r m)) (items.drop (i + 1)) acc rho m2
      | none => .no).bind fun acc m2 => Rs.ok (W.n (PyData.list acc)) m2) fun w al' p m' H' => ∀ v, RepW X.K X.mg (Own Hd al' m' p) p al' H' w v → Q v H' := P2
    refine ⟨more Hd D0, al2, wipeE rho vs, m2, .d items[i], s3, ((e1.ext ex2 pre2).go g3).wipe vs, ⟨rfl, r3⟩, ?_⟩
    cases hg : g (.d items[i]) (wipeE rho vs) m2 with
    | none => rw [hg] at P4; exact P4
    | some z =>
      obtain ⟨r4, m4⟩ := z
      rw [hg] at P4
      dsimp only at P4
      intro al4 H4 σ4 g4 s4 e4 off
      refine ⟨wipe_off off hs, more Hd D0, al4, r4, m4, s4, e4, ?_⟩
      cases ht : t r4 m4 with
      | no => rw [ht] at P4; exact P4.elim
      | ex c m' => rw [ht] at P4; exact P4.elim
      | ok b m5 =>
        rw [ht] at P4
        intro al5 p5 H5 g5 s5 hp5
        subst hp5
        have g35 := (g3.trans g4).trans g5
        have stay : ∀ {al' m' p' H''}, Go (more Hd D0) al2 m2 none H' al' m' p' H'' → H'' D0 = some (.lst vsA) ∧ Ext (Own Hd al1 m1 none) H1 (Own (more Hd D0) al' m' p') H'' ∧ (∀ (r : Nat) a, al1[r]? = some a → al'[r]? = some a) ∧ (∀ a o, Hd a → H1 a = some o → H'' a = some o) :=
          fun g => ⟨g.hid D0 _ (.inr rfl) hA, ex2.trans g.ext, fun r a h => g.pre r a (pre2 r a h), fun a o ha h => g.hid a o (.inl ha) (hid2 a o ha h)⟩
        cases b with
        | false =>
          obtain ⟨z1, z2, z3, z4⟩ := stay g35
          exact ⟨al5, m5, acc, vsA, z2, z3, z4, s5, z1, rA.ext g35.ext, by omega, P4⟩
        | true =>
          refine ⟨more Hd D0, al5, r4, m5, s5, e4.go g5, ?_⟩
          have P7 : Post X.K X.mg Hd al1 m1 H1 (E σ) (((calmR (a r4 m5)).bindV fun w m3 => match frz m3 w with | some (y, m4) => compL vs g (fun r m => calmR (t r m)) (fun r m => calmR (a r m)) (items.drop (i + 1)) (acc ++ [y]) rho m4 | none => .no).bind fun acc m2 => Rs.ok (W.n (PyData.list acc)) m2) fun w al' p m' H' => ∀ v, RepW X.K X.mg (Own Hd al' m' p) p al' H' w v → Q v H' := P4
          cases ha : a r4 m5 with
          | no => rw [ha] at P7; exact P7.elim
          | ex c m' => rw [ha] at P7; exact P7.elim
          | ok w m6 =>
            rw [ha] at P7
            intro al6 p6 H6 g6 s6 v6 rv6
            have s6' := s6.settle
            have g6' := g6.trans (Go.settle (p := p6))
            have rv6' := val_ok s6 rv6
            have P9 : Post X.K X.mg Hd al1 m1 H1 (E σ) ((match frz m6 (val w) with | some (y, m4) => compL vs g (fun r m => calmR (t r m)) (fun r m => calmR (a r m)) (items.drop (i + 1)) (acc ++ [y]) rho m4 | none => .no).bind fun acc m2 => Rs.ok (W.n (PyData.list acc)) m2) fun w al' p m' H' => ∀ v, RepW X.K X.mg (Own Hd al' m' p) p al' H' w v → Q v H' := P7
            cases hf : frz m6 (val w) with
            | none => rw [hf] at P9; exact P9.elim
            | some yz =>
              obtain ⟨y, m7⟩ := yz
              rw [hf] at P9
              obtain ⟨s7, g7, r7⟩ := frz_ok s6' rv6' hf
              have g27 := (g35.trans g6').trans g7
              obtain ⟨z1, z2, z3, z4⟩ := stay g27
              have rA7 := rA.ext g27.ext
              refine ⟨vsA, z1, ?_, ?_⟩
              · rw [rA.len]
                exact Nat.lt_of_lt_of_le (show acc.length < 1000001 by have := of_decide_eq_true hsm; omega) (by decide)
              · obtain ⟨s8, k8⟩ := stt_grow (o' := .lst (vsA ++ [v6])) s7 z1 True.intro
                refine ⟨al6, m7, acc ++ [y], vsA ++ [v6], ⟨fun b us h => ?_, fun b ob u h => ?_, fun b ob h n => ?_, z2.new⟩, z3, fun b o hb h => ?_, s8, upd_same, k8 _ _ (rA7.append (.one r7)), ?_, P9⟩
                · rw [upd_ne fun z => by rw [z, hD] at h; cases h]; exact z2.tup b us h
                · rw [upd_ne fun z => by rw [z, hD] at h; cases h]; exact z2.frz b ob u h
                · rw [upd_ne fun z => by rw [z, hD] at h; cases h]; exact z2.oth b ob h n
                · rw [upd_ne fun z => nh (by rw [← z]; exact hb)]; exact z4 b o hb h
                · rw [List.length_append, List.length_singleton]; omega
  · have e0 : i = items.length := by omega
    subst e0
    rw [List.drop_length] at P2
    refine .inl ⟨hJ.stop _ H' ex2, ?_⟩
    have P3 : Post X.K X.mg Hd al1 m1 H1 (E σ) (Rs.ok (W.n (PyData.list acc)) m2) fun w al' p m' H' => ∀ v, RepW X.K X.mg (Own Hd al' m' p) p al' H' w v → Q v H' := P2
    have exE : Ext (Own Hd al1 m1 none) H1 (Own Hd al2 m2 (some D0)) H' := ex2.weak fun b h => own_hid.mpr h
    exact P3 al2 (some D0) H' ⟨exE, pre2, hid2⟩ (stt_show s2 nh) _ ⟨D0, rfl, rfl, vsA, hA, rA.ext (Ext.less fun b h => own_hid.mpr h)⟩
def mLC (it : EM (List D)) (vs : List Nat) (g : GM) (t : EM Bool) (a : EM W) : EM W := mComp it vs g (fun r m => calmR (t r m)) (fun r m => calmR (a r m))
variable {scope : Scope} {elt tg' : Expr} {ifs : List Expr} {own : List (Str × Nat)} {it : EM (List D)} {g : GM} {sl : List Nat} {t' : EM Bool}
theorem den_lc (own : List (Str × Nat)) (hc : X.calm = true) (hN : X.N.Nodup) (hi : DenI X E tg iter it) (ok : BlkOk X.N X.env.scope scope own)
    (hg : ∀ (s : Shared) (H : Hp) (C : Addr) (cl : List (Str × Addr)) (fp : List Addr), DenG (X.blk s H scope (compEnvC scope cl C X.env) fp) tg g sl) (ht : ∀ (s : Shared) (H : Hp) (C : Addr) (cl : List (Str × Addr)) (fp : List Addr), DenTs (X.blk s H scope (compEnvC scope cl C X.env) fp) ifs t')
    (he : ∀ (s : Shared) (H : Hp) (C : Addr) (cl : List (Str × Addr)) (fp : List Addr), Den (X.blk s H scope (compEnvC scope cl C X.env) fp) E0' elt a) (hsl : ∀ j ∈ sl, j ∈ own.map (·.2) := by decide) (hs : ∀ x, foldedSetIterable iter X.env x = pure x := by intro _; rfl) :
    Den X E (.ListComp elt [⟨tg, iter, ifs, 0⟩] scope pos) (mLC it (own.map (·.2)) g t' a) := PE.imp (pe_lc hc hN hi ok hg ht he hs) fun _ _ _ q => tM_comp hsl q
section
variable {i : Nat} {y : Str} {py spos : Pos}
theorem ds_setLc (i : Nat) (own : List (Str × Nat)) (hc : X.calm = true) (hN : X.N.Nodup) (hi : DenI X E tg iter it) (ok : BlkOk X.N X.env.scope scope own)
    (hg : ∀ (s : Shared) (H : Hp) (C : Addr) (cl : List (Str × Addr)) (fp : List Addr), DenG (X.blk s H scope (compEnvC scope cl C X.env) fp) tg g sl) (ht : ∀ (s : Shared) (H : Hp) (C : Addr) (cl : List (Str × Addr)) (fp : List Addr), DenTs (X.blk s H scope (compEnvC scope cl C X.env) fp) ifs t')
    (he : ∀ (s : Shared) (H : Hp) (C : Addr) (cl : List (Str × Addr)) (fp : List Addr), Den (X.blk s H scope (compEnvC scope cl C X.env) fp) E0' elt a) (hsl : ∀ j ∈ sl, j ∈ own.map (·.2) := by decide)
    (hsw : swapsWith (.ListComp elt [⟨tg, iter, ifs, 0⟩] scope pos) (some (.Name y py)) spos.line X.env = pure true) (hy : X.N[i]? = some y := by rfl) (hyl : X.env.scope.names.lookup y = some .local := by rfl) (hs : ∀ x, foldedSetIterable iter X.env x = pure x := by intro _; rfl) :
    DenS X E (.Assign [.Name y py] (.ListComp elt [⟨tg, iter, ifs, 0⟩] scope pos) spos) (sSet i (mLC it (own.map (·.2)) g t' a)) := PS.imp (ps_setLc hc hN hy hyl hsw hi ok hg ht he hs) fun _ _ _ q => tS_set (fun _ _ _ h => tM_comp hsl h) q
theorem ds_setLcR (i : Nat) (own : List (Str × Nat)) (hc : X.calm = true) (hN : X.N.Nodup) (hi : DenI X E tg iter it) (ok : BlkOk X.N X.env.scope scope own)
    (hg : ∀ (s : Shared) (H : Hp) (C : Addr) (cl : List (Str × Addr)) (fp : List Addr), DenG (X.blk s H scope (compEnvC scope cl C X.env) fp) tg g sl) (ht : ∀ (s : Shared) (H : Hp) (C : Addr) (cl : List (Str × Addr)) (fp : List Addr), DenTs (X.blk s H scope (compEnvC scope cl C X.env) fp) ifs t')
    (he : ∀ (s : Shared) (H : Hp) (C : Addr) (cl : List (Str × Addr)) (fp : List Addr), Den (X.blk s H scope (compEnvC scope cl C X.env) fp) E0' elt a) (hsl : ∀ j ∈ sl, j ∈ own.map (·.2) := by decide)
    (hsw : swapsWith (.ListComp elt [⟨tg, iter, ifs, 0⟩] scope pos) (some (.Name y py)) spos.line X.env = pure true) (hy : X.N[i]? = some y := by rfl) (hyl : X.env.scope.names.lookup y = some .local := by rfl) (hs : ∀ x, foldedSetIterable iter X.env x = pure x := by intro _; rfl) :
    DenS X E (.Assign [.Name y py] (.ListComp elt [⟨tg, iter, ifs, 0⟩] scope pos) spos) (sSetR i (mLC it (own.map (·.2)) g t' a)) := PS.imp (ps_setLc hc hN hy hyl hsw hi ok hg ht he hs) fun _ _ _ q => tS_setR (fun _ _ _ h => tM_comp hsl h) q
end
end
end Den
/-! Den7: defs and their calls, raise, the law's end. -/
namespace Den
open PySem PySem.Spec PyProof.Rows L2

/-! ### what a def promises, where nothing is being shown (no repr around) -/
structure FnG (P : Program) (w : World) (K : PySem.W.Frag) (mg : Str → Option Value) (base : Heap) (k : Nat) (f : Addr) (fd : FuncData) (ps : List Str) (sp : Sp) : Prop where
  len : ∀ vs H Q E, sp vs H Q E → vs.length = ps.length
  run : ∀ (A : Around) (outer : List PySem.Env) (s : Shared) (H : Hp) (args : Args) (us : List Value) (vs : List V) (Q : VK) (E : XK), Room k A → A.guards = some [] → Env0 P w K mg base A outer s H → BindsTo s fd args (ps.zip us) → Vals vs us → sp vs H Q E →
    codeAny (model P w) A (.call (.ref f) args) (CR (L2N.CX P w) outer P w H s Q E) s
theorem FnG.mono {P : Program} {w : World} {K : PySem.W.Frag} {mg : Str → Option Value} {base : Heap} {j k : Nat} {f : Addr} {fd : FuncData} {ps : List Str} {sp : Sp} (F : FnG P w K mg base j f fd ps sp) (h : j ≤ k) : FnG P w K mg base k f fd ps sp :=
  ⟨F.len, fun A outer s H args us vs Q E hr => F.run A outer s H args us vs Q E (hr.mono h)⟩
section
variable {P : Program} {w : World} {K : PySem.W.Frag} {mg : Str → Option Value} {base : Heap} {k : Nat} {f : Addr} {x : Str} {st : Stmt} {fd : FuncData} {N ps : List Str} {sp : Sp}
theorem fn_G (F : Fun K x x st f fd) (S : FnScope N ps (defScope st)) (len : ∀ vs H Q E, sp vs H Q E → vs.length = ps.length)
    (hbody : ∀ (cdv : Value) (A : Around) (outer : List PySem.Env) (s : Shared) (H : Hp) (vs : List V) (Q : VK) (E : XK), Room k (A.deeper (envOfC x (defScope st) s.heap.objs.size f cdv)) → (A.deeper (envOfC x (defScope st) s.heap.objs.size f cdv)).guards = some [] → sp vs H Q E →
      ∃ t, PSs (cxOf (L2N.CX P w) P w K mg base N x (defScope st) f cdv A outer s H E) (defBody st) t ∧ t { nx := fun _ H' => Q .non H', rt := Q } (L2.start N vs) H) : FnG P w K mg base (k + 1) f fd ps sp := by
  obtain ⟨oc, od, kV, doc, pm, an, cdv, ct, osl, rfl, lk, hcd⟩ := F.ex
  refine ⟨len, fun A outer s H args us vs Q E hr hgu e0 hb r hsp => ?_⟩
  have hl := len _ _ _ _ hsp
  have hus : us.length = ps.length := r.length.symm.trans hl
  obtain ⟨t, ht, hq⟩ := hbody cdv A outer s H vs Q E (hr.deeper _) hgu hsp
  refine Att.call_fn (e0.mod.kin.keeps fun b o e => (e0.bs b o e).1) (e0.mod.nolimit.keeps fun b o e => (e0.bs b o e).1) lk hcd hr.depth hb ?_ (fun s1 ic => ?_) S.co S.gen S.kind
  · refine List.all_eq_true.mpr fun y hy => ?_
    rcases S.par y.1 (List.of_mem_zip (a := y.1) (b := y.2) hy).1 with q | q
    · rw [q]; rfl
    · rw [q]; rfl
  · refine wpAny_mono (ht.run [] s1 _ H _ (inv_start (CX := L2N.CX P w) (E := E) (N := N) S hr.hd e0 hl r ic) hq) (fun fl s' h => ?_) fun e s' h => h
    cases fl with
    | ret u => obtain ⟨v, σ', H', J, rv, q⟩ := h; exact ⟨v, H', J.os, J.bare, J.base, J.hok, rv, q⟩
    | next => obtain ⟨σ', H', J, q⟩ := h; exact ⟨.non, H', J.os, J.bare, J.base, J.hok, rfl, q⟩
    | brk => obtain ⟨_, _, _, q⟩ := h; exact q.elim
    | cont => obtain ⟨_, _, _, q⟩ := h; exact q.elim
end

/-! ### a def's computation -/
def fin (n : Nat) (m : Mem) : W → Rs W
  | .d x => .ok (.d x) (m.take n)
  | .n x => .ok (.n x) (m.take n)
  | .r k => if n ≤ k then (match m[k]? with | some (some x) => .ok (.n x) (m.take n) | _ => .no) else .no
  | .f x => .ok (.f x) (m.take n)
  | .s _ => .no
  | .e _ => .no
def startE (N : Nat) (ws : List W) : Env := ws.map some ++ List.replicate (N - ws.length) none
/-- the def with N names and the body c -/
def runF (N : Nat) (c : SM) : List W → Mem → Rs W := fun ws m => match c (startE N ws) m with
  | .nx _ m' => .ok (.d .none) (m'.take m.length)
  | .rt w m' => fin m.length m' w
  | .ex x _ m' => .ex x (m'.take m.length)
  | _ => .no
def spM (K : PySem.W.Frag) (mg : Str → Option Value) (n : Nat) (fm : List W → Mem → Rs W) : Sp := fun vs H Q E => ∃ Hd al ws m, ws.length = n ∧ Stt K Hd al none H m ∧ RepWs K mg (Own Hd al m none) al H ws vs ∧
  Post K mg Hd al m H E (fm ws m) fun w al' p m' H' => ∀ v, RepW K mg (Own Hd al' m' p) p al' H' w v → Q v H'
section
variable {K : PySem.W.Frag} {mg : Str → Option Value} {Hd : Addr → Prop} {al al1 : List Addr} {m m1 : Mem} {p q : Option Addr} {H H1 : Hp} {n : Nat}
theorem RepWs.len {O : Addr → Prop} : ∀ {ws : List W} {vs : List V}, RepWs K mg O al H ws vs → vs.length = ws.length
  | [], _, h => by rw [show _ = [] from h]; rfl
  | w :: ws, _, ⟨v, r, h1, h2, h3⟩ => by rw [h1, List.length_cons, List.length_cons, RepWs.len h3]
theorem live_take {r : Nat} (h : Live (m1.take n) r) : r < n ∧ Live m1 r := by
  obtain ⟨o, h⟩ := h
  obtain ⟨hl, _⟩ := List.getElem?_eq_some_iff.mp h
  rw [List.length_take] at hl
  have hr : r < n := by omega
  exact ⟨hr, o, by rw [List.getElem?_take_of_lt hr] at h; exact h⟩
theorem own_take (hq : ∀ a, q = some a → Own Hd al1 m1 p a) {a : Addr} (h : Own Hd (al1.take n) (m1.take n) q a) : Own Hd al1 m1 p a := by
  rcases h with ⟨r, h1, h2⟩ | h | h
  · obtain ⟨hr, hl⟩ := live_take h2
    exact .inl ⟨r, by rw [List.getElem?_take_of_lt hr] at h1; exact h1, hl⟩
  · exact .inr (.inl h)
  · exact hq a h
theorem stt_take (s : Stt K Hd al1 p H1 m1) (n : Nat) (hq : ∀ a, q = some a → Own Hd al1 m1 p a ∧ ¬ Hd a ∧ ∀ r : Nat, r < n → Live m1 r → al1[r]? ≠ some a) : Stt K Hd (al1.take n) q H1 (m1.take n) where
  len := by rw [List.length_take, List.length_take, s.len]
  ob := fun r a o h1 h2 => by
    obtain ⟨hr, _⟩ := live_take (n := n) ⟨o, h2⟩
    rw [List.getElem?_take_of_lt hr] at h1 h2
    exact (s.ob r a o h1 h2).stay (Ext.less fun b h => own_take (fun a h => (hq a h).1) h) rfl
  inj := fun r r' a h1 h2 h3 h4 => by
    obtain ⟨q1, l1⟩ := live_take h3
    obtain ⟨q2, l2⟩ := live_take h4
    rw [List.getElem?_take_of_lt q1] at h1
    rw [List.getElem?_take_of_lt q2] at h2
    exact s.inj r r' a h1 h2 l1 l2
  pnd := fun a r h1 h2 h3 => by
    obtain ⟨q1, l1⟩ := live_take h2
    rw [List.getElem?_take_of_lt q1] at h3
    exact (hq a h1).2.2 r q1 l1 h3
  hin := fun a h => ⟨(s.hin a h).1, fun z => (hq a z).2.1 h, fun r h1 h2 => by
    obtain ⟨q1, l1⟩ := live_take h1
    rw [List.getElem?_take_of_lt q1] at h2
    exact (s.hin a h).2.2 r l1 h2⟩
theorem go_take (g : Go Hd al m none H al1 m1 p H1) (hl : al.length = n) (hq : ∀ a, q = some a → Own Hd al1 m1 p a) : Go Hd al m none H (al1.take n) (m1.take n) q H1 where
  ext := g.ext.weak fun a h => own_take hq h
  pre := fun r a h => by
    obtain ⟨hr, _⟩ := List.getElem?_eq_some_iff.mp h
    rw [List.getElem?_take_of_lt (by omega)]
    exact g.pre r a h
  hid := g.hid
theorem own_pnd (s : Stt K Hd al1 p H1 m1) : ∀ a, p = some a → Own Hd al1 m1 p a ∧ ¬ Hd a ∧ ∀ r : Nat, r < n → Live m1 r → al1[r]? ≠ some a := fun a h => ⟨.inr (.inr h), fun z => (s.hin a z).2.1 h, fun r _ h1 h2 => s.pnd a r h h1 h2⟩
/-- what a def hands back -/
theorem post_fin {E : XK} {w : W} {R : W → List Addr → Option Addr → Mem → Hp → Prop} (hl : al.length = n) (g : Go Hd al m none H al1 m1 p H1) (s : Stt K Hd al1 p H1 m1) {v : V} (rv : RepW K mg (Own Hd al1 m1 p) p al1 H1 w v) (P : Post K mg Hd al m H E (fin n m1 w) R) :
    ∃ w' al' q m', R w' al' q m' H1 ∧ RepW K mg (Own Hd al' m' q) q al' H1 w' v := by
  cases w with
  | d x =>
    obtain ⟨rfl, r⟩ := rv
    have h0 : ∀ a, (none : Option Addr) = some a → Own Hd al1 m1 none a := fun a h => nomatch h
    exact ⟨_, _, _, _, P (al1.take n) none H1 (go_take g hl h0) (stt_take s n (own_pnd s)), rfl, r.ext (Ext.less fun a h => own_take h0 h)⟩
  | f x =>
    obtain ⟨rfl, r⟩ := rv
    have h0 : ∀ a, (none : Option Addr) = some a → Own Hd al1 m1 none a := fun a h => nomatch h
    exact ⟨_, _, _, _, P (al1.take n) none H1 (go_take g hl h0) (stt_take s n (own_pnd s)), rfl, r⟩
  | n x =>
    obtain ⟨a, rfl, rfl, r⟩ := rv
    have h0 : ∀ b, some a = some b → Own Hd al1 m1 (some a) b := fun b h => .inr (.inr h)
    exact ⟨_, _, _, _, P (al1.take n) (some a) H1 (go_take g hl h0) (stt_take s n (own_pnd s)), a, rfl, rfl, r.stay (Ext.less fun a h => own_take h0 h) rfl⟩
  | s xs => exact P.elim
  | e a => exact P.elim
  | r k =>
    obtain ⟨rfl, a, h1, rfl⟩ := rv
    unfold fin at P
    dsimp only at P
    split at P
    · rename_i hk
      split at P
      · rename_i x hx
        have hq : ∀ b, some a = some b → Own Hd al1 m1 none b ∧ ¬ Hd b ∧ ∀ r : Nat, r < n → Live m1 r → al1[r]? ≠ some b := fun b h => by
          cases h
          refine ⟨.inl ⟨k, h1, x, hx⟩, fun z => (s.hin a z).2.2 k ⟨x, hx⟩ h1, fun r hr l1 h2 => ?_⟩
          have := s.inj r k a h2 h1 l1 ⟨x, hx⟩
          omega
        exact ⟨_, _, _, _, P (al1.take n) (some a) H1 (go_take g hl fun b h => (hq b h).1) (stt_take s n hq), a, rfl, rfl, (s.ob k a x h1 hx).stay (Ext.less fun b h => own_take (fun b h => (hq b h).1) h) rfl⟩
      · exact P.elim
    · exact P.elim
theorem envOk_start {O : Addr → Prop} {N : List Str} : ∀ {ws : List W} {vs : List V}, RepWs K mg O al H ws vs → EnvOk K mg O al H (startE N.length ws) (L2.start N vs) := fun {ws vs} h => by
  have hl := h.len
  refine ⟨by unfold startE L2.start; rw [List.length_append, List.length_append, List.length_map, List.length_map, List.length_replicate, List.length_replicate, hl], fun i w hi => ?_⟩
  unfold startE at hi
  by_cases hw : i < ws.length
  · rw [List.getElem?_append_left (by rw [List.length_map]; exact hw), List.getElem?_map, List.getElem?_eq_getElem hw] at hi
    cases hi
    have q : ∀ {ws : List W} {vs : List V} {i : Nat} (hw : i < ws.length), RepWs K mg O al H ws vs → ∃ v, vs[i]? = some v ∧ RepW K mg O none al H ws[i] v := by
      intro ws
      induction ws with
      | nil => intro vs i hw; exact absurd hw (Nat.not_lt_zero _)
      | cons w ws ih =>
        intro vs i hw ⟨v, r, h1, h2, h3⟩
        subst h1
        cases i with
        | zero => exact ⟨v, rfl, h2⟩
        | succ i => exact ih (Nat.lt_of_succ_lt_succ hw) h3
    obtain ⟨v, h1, h2⟩ := q hw h
    refine ⟨v, ?_, h2⟩
    unfold L2.start
    rw [List.getElem?_append_left (by rw [List.length_map, hl]; exact hw), List.getElem?_map, h1]
    rfl
  · rw [List.getElem?_append_right (by rw [List.length_map]; omega), List.getElem?_replicate] at hi
    split at hi <;> cases hi
end
section
variable {P : Program} {w : World} {K : PySem.W.Frag} {mg : Str → Option Value} {base : Heap} {k : Nat} {f : Addr} {x : Str} {st : Stmt} {fd : FuncData} {N ps : List Str} {c : SM}
/-- the wish about exceptions in a def's body -/
abbrev EK (E : XK) : St → XK := fun _ cls d H => E cls d H
/-- a def keeps the promise of its computation -/
theorem def_ok (F : Fun K x x st f fd) (S : FnScope N ps (defScope st))
    (hbody : ∀ (cdv : Value) (A : Around) (outer : List PySem.Env) (s : Shared) (H : Hp) (E : XK), Room k (A.deeper (envOfC x (defScope st) s.heap.objs.size f cdv)) → (A.deeper (envOfC x (defScope st) s.heap.objs.size f cdv)).guards = some [] →
      DenSs (cxOf (L2N.CX P w) P w K mg base N x (defScope st) f cdv A outer s H E) (EK E) (defBody st) c) : FnG P w K mg base (k + 1) f fd ps (spM K mg ps.length (runF N.length c)) := by
  refine fn_G F S (fun vs H Q E h => ?_) fun cdv A outer s H vs Q E hr hg h => ⟨_, hbody cdv A outer s H E hr hg, ?_⟩
  · obtain ⟨Hd, al, ws, m, hl, _, h, _⟩ := h
    exact h.len.trans hl
  · obtain ⟨Hd, al, ws, m, hl, s, h, P⟩ := h
    refine ⟨Hd, al, startE N.length ws, m, s, envOk_start h, ?_⟩
    unfold runF at P
    cases ho : c (startE N.length ws) m with
    | nx r m' =>
      rw [ho] at P
      intro al' H' σ' g s' e
      obtain ⟨w', al2, q, m2, q1, q2⟩ := post_fin (w := .d .none) (v := .non) s.len g s' ⟨rfl, rfl⟩ P
      exact q1 _ q2
    | rt w m' =>
      rw [ho] at P
      intro al' p H' v g s' rv
      obtain ⟨w', al2, q, m2, q1, q2⟩ := post_fin s.len g s' rv P
      exact q1 _ q2
    | ex y r m' =>
      rw [ho] at P
      intro al' H' σ' cls dd g s' e xo
      have h0 : ∀ a, (none : Option Addr) = some a → Own Hd al' m' none a := fun a h => nomatch h
      exact P (al'.take m.length) H' cls dd (go_take g s.len h0) (stt_take s' m.length (own_pnd s')) (by cases y <;> exact xo)
    | bk r m' => rw [ho] at P; exact P.elim
    | ct r m' => rw [ho] at P; exact P.elim
    | no => rw [ho] at P; exact P.elim

/-! ### calls -/
structure CalG (P : Program) (w : World) (K : PySem.W.Frag) (mg : Str → Option Value) (base : Heap) (k : Nat) (x : Str) (n : Nat) (fm : List W → Mem → Rs W) : Prop where
  ex : ∃ (f : Addr) (fd : FuncData) (ps : List Str), FnG P w K mg base k f fd ps (spM K mg n fm) ∧ mg x = some (.ref f) ∧ PySem.W.keepIn K (.ref f) = true ∧ Binds K fd ps [] ∧ ps.length = n
def mCall (n : Nat) (fm : List W → Mem → Rs W) (c : EM (List W)) : EM W := fun rho m => (c rho m).bind fun ws m1 => if ws.length = n then fm ws m1 else .no
end
section
variable {X : Cx} {E : St → XK} {k j n : Nat} {x : Str} {fm : List W → Mem → Rs W} {p pos : Pos} {e : Expr} {es : List Expr} {c : EM (List W)}
theorem run_G {f : Addr} {fd : FuncData} {ps : List Str} {sp : Sp} {pins : List (Addr × Obj)} {σ : St} {H : Hp} {s : Shared} {Q : VK} {us : List Value} {vs : List V} {E0 : XK} (F : FnG X.prog X.w X.K X.mg X.base k f fd ps sp) (hr : Room k X.A) (hgu : X.A.guards = some []) (hb : Binds X.K fd ps []) (hx : PassesAt (L2N.CX X.prog X.w) X σ E0)
    (I : Inv X pins σ H s) (r : Vals vs us) (h : sp vs H Q E0) : wpAny (model X.prog X.w) X.A (call (.ref f) us) (EP X pins σ Q) X.xe s := by
  have hl : us.length = ps.length := r.length.symm.trans (F.len _ _ _ _ h)
  have b := hb s us I.kIn (by rw [List.append_nil, hl])
  rw [List.append_nil] at b
  refine wpAny_call (codeAny_mono (F.run X.A X.stack s H _ us vs Q E0 hr hgu I.env0 b r h) fun res s' hq => ?_)
  match res, hq with
  | .error e, hq => exact hx pins H s e s' I hq
  | .ok (.ret u), hq => exact I.after hq
/-- f(..) where f keeps the promise sp -/
theorem pe_G {f : Addr} {fd : FuncData} {ps : List Str} {sp : Sp} {t : TA} (F : FnG X.prog X.w X.K X.mg X.base k f fd ps sp) (hm : X.mg x = some (.ref f)) (kp : PySem.W.keepIn X.K (.ref f) = true) (hb : Binds X.K fd ps []) (hr : Room k X.A) (hgu : X.A.guards = some [])
    (hx : ∀ σ, PassesAt (L2N.CX X.prog X.w) X σ (E σ)) (ha : PA X (e :: es) t) (hg : Gl X x)
    (hdb : (x == ("__debug__" : Str)) = false) (he : starEach (e :: es) X.env = (false, eval e X.env) :: starEach es X.env) (hpl : (backTo pos (starEach es X.env)).any (·.1) = false) : PE X (.Call (.Name x p) (e :: es) [] pos) (fun σ H Q => t σ H fun vs H1 => sp vs H1 Q (E σ)) := by
  refine ⟨fun pins s σ H Q I h => wpAny_Call_Name_kw (ld_glob I hg hm ?_ hdb)⟩
  refine PySem.W.callWith_K (h₀ := X.base) I.ok.mod.kin kp (thn (ha.run pos pins s σ H _ I h) fun us s1 hh => ?_) he hpl
  obtain ⟨vs, H1, I1, r, q⟩ := hh
  exact ⟨I1.kIn, run_G F hr hgu hb (hx σ) I1 r q⟩
theorem tM_call {σ : St} {H : Hp} {Q : VK} (q : tM X.K X.mg E (mCall n fm c) σ H Q) : tA X.K X.mg E c σ H fun vs H1 => spM X.K X.mg n fm vs H1 Q (E σ) := by
  obtain ⟨Hd, al, rho, m, s, e, P⟩ := q
  refine ⟨Hd, al, rho, m, s, e, (Post.bind P).imp fun ws al1 p1 m1 H1 g s1 k hp vs rv => ?_⟩
  subst hp
  have P1 := k rfl
  split at P1
  · rename_i hl
    exact ⟨Hd, al1, ws, m1, hl, s1, rv, P1⟩
  · exact P1.elim
theorem den_call (C : CalG X.prog X.w X.K X.mg X.base k x n fm) (hr : Room j X.A) (hgu : X.A.guards = some []) (hx : ∀ σ, PassesAt (L2N.CX X.prog X.w) X σ (E σ)) (ha : DenA X E (e :: es) c) (hk : k ≤ j := by decide) (hg : Gl X x := by rfl)
    (hdb : (x == ("__debug__" : Str)) = false := by decide) (he : starEach (e :: es) X.env = (false, eval e X.env) :: starEach es X.env := by rfl) (hpl : (backTo pos (starEach es X.env)).any (·.1) = false := by rfl) : Den X E (.Call (.Name x p) (e :: es) [] pos) (mCall n fm c) := by
  obtain ⟨f, fd, ps, F, hm, kp, hb, hn⟩ := C.ex
  exact PE.imp (pe_G F hm kp hb (hr.mono hk) hgu hx ha hg hdb he hpl) fun _ _ _ q => tM_call q

/-! ### [f, g, ..][i](..) -/
/-- the callee is picked from written names -/
def mSel (n : Nat) (fs : List (List W → Mem → Rs W)) (i : EM W) (c : EM (List W)) : EM W := fun rho m => (i rho m).bindV fun w m1 => match intOf w with
  | some j => if 0 ≤ j then (match fs[j.toNat]? with | some fm => (c rho m1).bind fun ws m2 => if ws.length = n then fm ws m2 else .no | none => .no) else .no
  | none => .no

/-! ### raise -/
/-- what the written part says of an own exception class without __init__ -/
structure ExcT (K : PySem.W.Frag) (mg : Str → Option Value) (x : Str) : Prop where
  ex : ∃ C, mg x = some (.ref C) ∧ PySem.W.excIn K C [.type "ValueError", .type "Exception", .type "BaseException", .type "object"] "ValueError.__new__" = true ∧ PySem.W.keepIn K (.ref C) = true ∧
    PySem.W.subIn K (.ref C) (.type "BaseException") = some true ∧ PySem.W.typeIn K (.ref C) = some (.type "type")
def sRaise (x : Str) : SM := fun rho m => .ex (.own x) rho m
theorem ds_raise {W0 : WX} {msg : Str} {jk : Nat} {p2 pos2 : Pos} (T : ExcT X.K X.mg x) (hc : X.calm = true) (tk : L2N.Takes X W0) (hE : ∀ σ cls d H, E σ cls d H → W0 cls d σ H) (hg : Gl X x := by rfl) (hdb : (x == ("__debug__" : Str)) = false := by decide) :
    DenS X E (.Raise (some (.Call (.Name x p) [.Constant (.str msg) jk p2] [] pos)) none pos2) (sRaise x) := by
  obtain ⟨C, hm, h1, h2, h3, h4⟩ := T.ex
  refine PS.imp (L2N.ps_raise hc tk (L2N.pmk_own PySem.F.excBase_ValueError h1 hm h2 (raises_own h3 h4) hg hdb)) fun Dn σ H q => ?_
  obtain ⟨Hd, al, rho, m, s, e, P⟩ := q
  exact hE _ _ _ _ (P al H σ _ _ Go.refl s e ⟨rfl, C, hm, rfl⟩)
end
end Den
/-! Den8: calls of built-ins, subscripts, slices, methods of lists. -/
namespace Den
open PySem PySem.Spec PyProof.Rows L2

/-! ### calls of built-ins -/
/-- a rule for a call by values: from what the arguments are to the reading -/
def Ca (X : Cx) (r : List V → Hp → VK → Prop) (f : List W → Mem → Rs W) : Prop := ∀ (E : XK) Hd al m H ws vs (R : W → List Addr → Option Addr → Mem → Hp → Prop) (Q : VK), Stt X.K Hd al none H m → RepWs X.K X.mg (Own Hd al m none) al H ws vs →
  Post X.K X.mg Hd al m H E (f ws m) R → (∀ w' al' p m' H' v', R w' al' p m' H' → RepW X.K X.mg (Own Hd al' m' p) p al' H' w' v' → Q v' H') → r vs H Q
def mB (c : EM (List W)) (f : List W → Mem → Rs W) : EM W := fun rho m => (c rho m).bind f
section
variable {X : Cx} {E : St → XK} {r : List V → Hp → VK → Prop} {f : List W → Mem → Rs W} {id T : String} {x : Str} {p pos : Pos} {e : Expr} {es : List Expr} {c : EM (List W)}
theorem tM_cb (h : Ca X r f) {σ : St} {H : Hp} {Q : VK} (q : tM X.K X.mg E (mB c f) σ H Q) : tCB r (tA X.K X.mg E c) σ H Q := by
  obtain ⟨Hd, al, rho, m, s, e, P⟩ := q
  refine ⟨Hd, al, rho, m, s, e, (Post.bind P).imp fun ws al1 p1 m1 H1 g s1 k hp vs rv => ?_⟩
  subst hp
  exact h _ _ _ _ _ _ _ _ Q s1 rv (k rfl) fun w' al' p m' H' v' q' => q' v'
theorem den_B (h : Ca X r f) (hc : CallR X (.builtin id) r) (hg : Gl X x) (hm : X.mg x = none) (hv : bootBuiltins x = some (.builtin id)) (ha : DenA X E (e :: es) c) (hn : x ≠ "__name__" := by decide) (hdb : (x == ("__debug__" : Str)) = false := by decide)
    (he : starEach (e :: es) X.env = (false, eval e X.env) :: starEach es X.env := by rfl) (hpl : (backTo pos (starEach es X.env)).any (·.1) = false := by rfl) : Den X E (.Call (.Name x p) (e :: es) [] pos) (mB c f) :=
  PE.imp (pe_callB hc hg hm hv ha hn hdb he hpl) fun _ _ _ q => tM_cb h q
theorem den_Ty (h : Ca X r f) (hc : CallR X (.type T) r) (hg : Gl X x) (hm : X.mg x = none) (hv : bootBuiltins x = some (.type T)) (ha : DenA X E (e :: es) c) (hn : x ≠ "__name__" := by decide) (hdb : (x == ("__debug__" : Str)) = false := by decide)
    (he : starEach (e :: es) X.env = (false, eval e X.env) :: starEach es X.env := by rfl) (hpl : (backTo pos (starEach es X.env)).any (·.1) = false := by rfl) : Den X E (.Call (.Name x p) (e :: es) [] pos) (mB c f) :=
  PE.imp (pe_callTy hc hg hm hv ha hn hdb he hpl) fun _ _ _ q => tM_cb h q
end
/-- one argument, data in, data out -/
def fD1 (g : D → Option D) : List W → Mem → Rs W
  | [w], m => (match peek m w with | some x => (match g x with | some y => .ok (.d y) m | none => .no) | none => .no)
  | _, _ => .no
def fD2 (g : D → D → Option D) : List W → Mem → Rs W
  | [w, w2], m => (match peek m w, peek m w2 with | some x, some y => (match g x y with | some z => .ok (.d z) m | none => .no) | _, _ => .no)
  | _, _ => .no
/-- one argument, a new list out -/
def fN1 (g : D → Option (List D)) : List W → Mem → Rs W
  | [w], m => (match peek m w with | some x => (match g x with | some ys => .ok (.n (.list ys)) m | none => .no) | none => .no)
  | _, _ => .no
section
variable {X : Cx} {r : List V → Hp → VK → Prop}
theorem ca_D1 {g : D → Option D} (h : ∀ (O : Addr → Prop) (H : Hp) x v y (Q : VK), RepP X.K O H x v → g x = some y → (∀ v', RepD X.K O H y v' → Q v' H) → r [v] H Q) : Ca X r (fD1 g) := by
  intro E Hd al m H ws vs R Q s rv P k
  match ws, rv with
  | [w], ⟨v, _, h1, h2, h3⟩ =>
    subst h1
    rw [show _ = [] from h3]
    unfold fD1 at P
    dsimp only at P
    split at P
    · rename_i x hx
      split at P
      · rename_i y hy
        exact h _ H x v y Q (peek_ok s h2 hx) hy fun v' rv' => k _ _ _ _ _ _ (P.ok s) ⟨rfl, rv'⟩
      · exact P.elim
    · exact P.elim
  | [], _ => exact P.elim
  | _ :: _ :: _, _ => exact P.elim
theorem ca_D2 {g : D → D → Option D} (h : ∀ (O : Addr → Prop) (H : Hp) x y v v2 z (Q : VK), RepP X.K O H x v → RepP X.K O H y v2 → g x y = some z → (∀ v', RepD X.K O H z v' → Q v' H) → r [v, v2] H Q) : Ca X r (fD2 g) := by
  intro E Hd al m H ws vs R Q s rv P k
  match ws, rv with
  | [w, w2], ⟨v, _, h1, h2, v2, _, h3, h4, h5⟩ =>
    subst h1 h3
    rw [show _ = [] from h5]
    unfold fD2 at P
    dsimp only at P
    split at P
    · rename_i x y hx hy
      split at P
      · rename_i z hz
        exact h _ H x y v v2 z Q (peek_ok s h2 hx) (peek_ok s h4 hy) hz fun v' rv' => k _ _ _ _ _ _ (P.ok s) ⟨rfl, rv'⟩
      · exact P.elim
    · exact P.elim
  | [], _ => exact P.elim
  | [_], _ => exact P.elim
  | _ :: _ :: _ :: _, _ => exact P.elim
theorem ca_N1 {g : D → Option (List D)} (h : ∀ (O : Addr → Prop) (H : Hp) x v ys (Q : VK), RepP X.K O H x v → g x = some ys → (∀ p vs, H p = none → RepDs X.K O H ys vs → Q (.ref p) (upd H p (.lst vs))) → r [v] H Q) : Ca X r (fN1 g) := by
  intro E Hd al m H ws vs R Q s rv P k
  match ws, rv with
  | [w], ⟨v, _, h1, h2, h3⟩ =>
    subst h1
    rw [show _ = [] from h3]
    unfold fN1 at P
    dsimp only at P
    split at P
    · rename_i x hx
      split at P
      · rename_i ys hy
        exact h _ H x v ys Q (peek_ok s h2 hx) hy fun p vs hp rv' => res_list s rv' hp P k
      · exact P.elim
    · exact P.elim
  | [], _ => exact P.elim
  | _ :: _ :: _, _ => exact P.elim
end

def lenD : D → Option D
  | .str y => if small y.length then some (.int (y.length : Nat)) else none
  | .list ds => some (.int (ds.length : Nat))
  | .tuple ds => some (.int (ds.length : Nat))
  | _ => none
theorem ca_len {X : Cx} : Ca X (fun xs H Q => ∃ x n, xs = [x] ∧ LenV X.K x H n ∧ Q (.int n) H) (fD1 lenD) := ca_D1 fun O H x v y Q rv e k => by
  cases x with
  | str z =>
    obtain ⟨c, e⟩ := ite_none e
    cases e; cases rv
    exact ⟨_, _, rfl, ⟨small_line c, rfl⟩, k _ rfl⟩
  | list ds => obtain ⟨a, vs, rfl, h1, h2⟩ := rv; cases e; exact ⟨_, _, rfl, .inl ⟨vs, .inl (.inl h1), rfl⟩, k _ (by rw [h2.len]; rfl)⟩
  | tuple ds => obtain ⟨a, vs, rfl, h1, h2⟩ := rv; cases e; exact ⟨_, _, rfl, .inr ⟨vs, sqP h1, rfl⟩, k _ (by rw [h2.len]; rfl)⟩
  | _ => cases e
def absD : D → Option D
  | .int i => some (.int (if i < 0 then -i else i))
  | _ => none
theorem ca_abs {X : Cx} : Ca X (fun xs H Q => ∃ i, xs = [.int i] ∧ Q (.int (if i < 0 then -i else i)) H) (fD1 absD) := ca_D1 fun O H x v y Q rv e k => by
  cases x with
  | int i => cases e; cases rv; exact ⟨i, rfl, k _ rfl⟩
  | _ => cases e
def intD : D → Option D
  | .int i => some (.int i)
  | .bool b => some (.int (if b then 1 else 0))
  | _ => none
theorem ca_int {X : Cx} : Ca X (fun xs H Q => (∃ i, xs = [.int i] ∧ Q (.int i) H) ∨ ∃ k, xs = [.bl k] ∧ Q (.int (if k then 1 else 0)) H) (fD1 intD) := ca_D1 fun O H x v y Q rv e k => by
  cases x with
  | int i => cases e; cases rv; exact .inl ⟨i, rfl, k _ rfl⟩
  | bool b => cases e; cases rv; exact .inr ⟨b, rfl, k _ rfl⟩
  | _ => cases e
def boolD : D → Option D
  | .int i => some (.bool (i != 0))
  | .bool b => some (.bool b)
  | _ => none
theorem ca_bool {X : Cx} : Ca X (fun xs H Q => (∃ i, xs = [.int i] ∧ Q (.bl (i != 0)) H) ∨ ∃ k, xs = [.bl k] ∧ Q (.bl k) H) (fD1 boolD) := ca_D1 fun O H x v y Q rv e k => by
  cases x with
  | int i => cases e; cases rv; exact .inl ⟨i, rfl, k _ rfl⟩
  | bool b => cases e; cases rv; exact .inr ⟨b, rfl, k _ rfl⟩
  | _ => cases e
def maxD : D → D → Option D
  | .int i, .int j => some (.int (if j > i then j else i))
  | _, _ => none
def minD : D → D → Option D
  | .int i, .int j => some (.int (if j < i then j else i))
  | _, _ => none
theorem ca_max2 {X : Cx} : Ca X (fun xs H Q => ∃ i j, xs = [.int i, .int j] ∧ Q (.int (if j > i then j else i)) H) (fD2 maxD) := ca_D2 fun O H x y v v2 z Q rv rv2 e k => by
  cases x with
  | int i => cases y with
    | int j => cases e; cases rv; cases rv2; exact ⟨i, j, rfl, k _ rfl⟩
    | _ => cases e
  | _ => cases e
theorem ca_min2 {X : Cx} : Ca X (fun xs H Q => ∃ i j, xs = [.int i, .int j] ∧ Q (.int (if j < i then j else i)) H) (fD2 minD) := ca_D2 fun O H x y v v2 z Q rv rv2 e k => by
  cases x with
  | int i => cases y with
    | int j => cases e; cases rv; cases rv2; exact ⟨i, j, rfl, k _ rfl⟩
    | _ => cases e
  | _ => cases e
/-! lists of ints, of bools -/
def intsOf : List D → Option (List Int)
  | [] => some []
  | .int i :: ds => (match intsOf ds with | some ns => some (i :: ns) | none => none)
  | _ :: _ => none
def boolsOf : List D → Option (List Bool)
  | [] => some []
  | .bool i :: ds => (match boolsOf ds with | some ns => some (i :: ns) | none => none)
  | _ :: _ => none
theorem intsOf_eq : ∀ {ds : List D} {ns : List Int}, intsOf ds = some ns → ds = ns.map .int
  | [], _, h => by cases h; rfl
  | .int i :: ds, ns, h => by
    unfold intsOf at h
    split at h
    · rename_i ms hm; cases h; rw [intsOf_eq hm]; rfl
    · cases h
  | .none :: _, _, h => by cases h
  | .bool _ :: _, _, h => by cases h
  | .str _ :: _, _, h => by cases h
  | .list _ :: _, _, h => by cases h
  | .tuple _ :: _, _, h => by cases h
  | .dict _ :: _, _, h => by cases h
theorem intsOf_map : ∀ ns : List Int, intsOf (ns.map .int) = some ns
  | [] => rfl
  | n :: ns => by rw [List.map_cons]; unfold intsOf; rw [intsOf_map ns]
theorem boolsOf_eq : ∀ {ds : List D} {ns : List Bool}, boolsOf ds = some ns → ds = ns.map .bool
  | [], _, h => by cases h; rfl
  | .bool i :: ds, ns, h => by
    unfold boolsOf at h
    split at h
    · rename_i ms hm; cases h; rw [boolsOf_eq hm]; rfl
    · cases h
  | .none :: _, _, h => by cases h
  | .int _ :: _, _, h => by cases h
  | .str _ :: _, _, h => by cases h
  | .list _ :: _, _, h => by cases h
  | .tuple _ :: _, _, h => by cases h
  | .dict _ :: _, _, h => by cases h
theorem boolsOf_map : ∀ ns : List Bool, boolsOf (ns.map .bool) = some ns
  | [] => rfl
  | n :: ns => by rw [List.map_cons]; unfold boolsOf; rw [boolsOf_map ns]
theorem repDs_ints {K : PySem.W.Frag} {O : Addr → Prop} {H : Hp} : ∀ {ns : List Int} {vs : List V}, RepDs K O H (ns.map .int) vs → vs = ns.map V.int
  | [], _, h => h
  | n :: ns, _, ⟨v, r, h1, h2, h3⟩ => by rw [h1, repDs_ints h3, show v = _ from h2]; rfl
theorem repDs_bools {K : PySem.W.Frag} {O : Addr → Prop} {H : Hp} : ∀ {ns : List Bool} {vs : List V}, RepDs K O H (ns.map .bool) vs → vs = ns.map V.bl
  | [], _, h => h
  | n :: ns, _, ⟨v, r, h1, h2, h3⟩ => by rw [h1, repDs_bools h3, show v = _ from h2]; rfl
theorem ints_repDs {K : PySem.W.Frag} {O : Addr → Prop} {H : Hp} : ∀ (ns : List Int), RepDs K O H (ns.map .int) (ns.map V.int)
  | [] => rfl
  | n :: ns => ⟨_, _, rfl, rfl, ints_repDs ns⟩
def sumD : D → Option D
  | .list ds => (match intsOf ds with | some ns => some (.int ns.sum) | none => none)
  | _ => none
def allD : D → Option D
  | .list ds => (match boolsOf ds with | some ns => some (.bool (ns.all id)) | none => none)
  | _ => none
def anyD : D → Option D
  | .list ds => (match boolsOf ds with | some ns => some (.bool (ns.any id)) | none => none)
  | _ => none
theorem ca_sum {X : Cx} : Ca X (rSum X.K) (fD1 sumD) := ca_D1 fun O H x v y Q rv e k => by
  cases x with
  | list ds =>
    obtain ⟨a, vs, rfl, h1, h2⟩ := rv
    unfold sumD at e
    dsimp only at e
    split at e
    · rename_i ns hn
      cases e
      rw [intsOf_eq hn] at h2
      rw [repDs_ints h2] at h1
      exact ⟨a, ns, rfl, .inl (.inl h1), k _ rfl⟩
    · cases e
  | _ => cases e
theorem ca_all {X : Cx} : Ca X (rAll X.K) (fD1 allD) := ca_D1 fun O H x v y Q rv e k => by
  cases x with
  | list ds =>
    obtain ⟨a, vs, rfl, h1, h2⟩ := rv
    unfold allD at e
    dsimp only at e
    split at e
    · rename_i ns hn
      cases e
      rw [boolsOf_eq hn] at h2
      rw [repDs_bools h2] at h1
      exact ⟨a, ns, rfl, .inl (.inl h1), k _ rfl⟩
    · cases e
  | _ => cases e
theorem ca_any {X : Cx} : Ca X (rAny X.K) (fD1 anyD) := ca_D1 fun O H x v y Q rv e k => by
  cases x with
  | list ds =>
    obtain ⟨a, vs, rfl, h1, h2⟩ := rv
    unfold anyD at e
    dsimp only at e
    split at e
    · rename_i ns hn
      cases e
      rw [boolsOf_eq hn] at h2
      rw [repDs_bools h2] at h1
      exact ⟨a, ns, rfl, .inl (.inl h1), k _ rfl⟩
    · cases e
  | _ => cases e
/-! max, min of a list of ints -/
def maxI : List Int → Int
  | [] => 0
  | [x] => x
  | x :: xs => max x (maxI xs)
def minI : List Int → Int
  | [] => 0
  | [x] => x
  | x :: xs => min x (minI xs)
theorem maxI_ok : ∀ {xs : List Int}, xs ≠ [] → maxI xs ∈ xs ∧ ∀ y ∈ xs, y ≤ maxI xs
  | [], h => absurd rfl h
  | [x], _ => ⟨by simp [maxI], by intro y hy; simp at hy; simp [maxI, hy]⟩
  | x :: z :: xs, _ => by
    obtain ⟨h1, h2⟩ := maxI_ok (xs := z :: xs) (by simp)
    refine ⟨?_, fun y hy => ?_⟩
    · show max x (maxI (z :: xs)) ∈ x :: z :: xs
      rcases Int.le_total x (maxI (z :: xs)) with q | q
      · rw [Int.max_eq_right q]; exact List.mem_cons_of_mem _ h1
      · rw [Int.max_eq_left q]; exact List.mem_cons_self
    · show y ≤ max x (maxI (z :: xs))
      rcases List.mem_cons.mp hy with rfl | hy
      · omega
      · have := h2 y hy; omega
theorem minI_ok : ∀ {xs : List Int}, xs ≠ [] → minI xs ∈ xs ∧ ∀ y ∈ xs, minI xs ≤ y
  | [], h => absurd rfl h
  | [x], _ => ⟨by simp [minI], by intro y hy; simp at hy; simp [minI, hy]⟩
  | x :: z :: xs, _ => by
    obtain ⟨h1, h2⟩ := minI_ok (xs := z :: xs) (by simp)
    refine ⟨?_, fun y hy => ?_⟩
    · show min x (minI (z :: xs)) ∈ x :: z :: xs
      rcases Int.le_total x (minI (z :: xs)) with q | q
      · rw [Int.min_eq_left q]; exact List.mem_cons_self
      · rw [Int.min_eq_right q]; exact List.mem_cons_of_mem _ h1
    · show min x (minI (z :: xs)) ≤ y
      rcases List.mem_cons.mp hy with rfl | hy
      · omega
      · have := h2 y hy; omega
def maxLD : D → Option D
  | .list ds => (match intsOf ds with | some (n :: ns) => some (.int (maxI (n :: ns))) | _ => none)
  | _ => none
def minLD : D → Option D
  | .list ds => (match intsOf ds with | some (n :: ns) => some (.int (minI (n :: ns))) | _ => none)
  | _ => none
theorem ca_maxL {X : Cx} : Ca X (rMax X.K) (fD1 maxLD) := ca_D1 fun O H x v y Q rv e k => by
  cases x with
  | list ds =>
    obtain ⟨a, vs, rfl, h1, h2⟩ := rv
    unfold maxLD at e
    dsimp only at e
    split at e
    · rename_i n ns hn
      cases e
      rw [intsOf_eq hn] at h2
      rw [repDs_ints h2] at h1
      refine ⟨a, n :: ns, rfl, .inl (.inl h1), by simp, fun m hm hle => ?_⟩
      obtain ⟨g1, g2⟩ := maxI_ok (xs := n :: ns) (by simp)
      have e1 : m = maxI (n :: ns) := Int.le_antisymm (g2 m hm) (hle _ g1)
      rw [e1]
      exact k _ rfl
    · cases e
  | _ => cases e
theorem ca_minL {X : Cx} : Ca X (rMin X.K) (fD1 minLD) := ca_D1 fun O H x v y Q rv e k => by
  cases x with
  | list ds =>
    obtain ⟨a, vs, rfl, h1, h2⟩ := rv
    unfold minLD at e
    dsimp only at e
    split at e
    · rename_i n ns hn
      cases e
      rw [intsOf_eq hn] at h2
      rw [repDs_ints h2] at h1
      refine ⟨a, n :: ns, rfl, .inl (.inl h1), by simp, fun m hm hle => ?_⟩
      obtain ⟨g1, g2⟩ := minI_ok (xs := n :: ns) (by simp)
      have e1 : m = minI (n :: ns) := Int.le_antisymm (hle _ g1) (g2 m hm)
      rw [e1]
      exact k _ rfl
    · cases e
  | _ => cases e
/-! tuple(x), list(x) -/
/-- tuple(x): a new tuple, or x -/
def fTup : List W → Mem → Rs W
  | [w], m => (match peek m w with | some (.list ds) => .ok (.d (.tuple ds)) m | some (.tuple ds) => .ok (.d (.tuple ds)) m | _ => .no)
  | _, _ => .no
theorem ca_tup {X : Cx} : Ca X (fun xs H Q => ∃ p ys, xs = [.ref p] ∧ ((SqL X.K H p ys ∧ ∀ l, H l = none → Q (.ref l) (upd H l (.tup ys))) ∨ (SqT X.K H p ys ∧ Q (.ref p) H))) fTup := by
  intro E Hd al m H ws vs R Q s rv P k
  match ws, rv with
  | [w], ⟨v, _, h1, h2, h3⟩ =>
    subst h1
    rw [show _ = [] from h3]
    unfold fTup at P
    dsimp only at P
    split at P
    · rename_i ds hx
      obtain ⟨a, vs, rfl, g1, g2⟩ := peek_ok s h2 hx
      exact ⟨a, vs, rfl, .inl ⟨.inl (.inl g1), fun l hl => res_tup s g2 hl P k⟩⟩
    · rename_i ds hx
      obtain ⟨a, vs, rfl, g1, g2⟩ := peek_ok s h2 hx
      exact ⟨a, vs, rfl, .inr ⟨sqP g1, res_d s P ⟨a, vs, rfl, g1, g2⟩ k⟩⟩
    · exact P.elim
  | [], _ => exact P.elim
  | _ :: _ :: _, _ => exact P.elim
def listD : D → Option (List D)
  | .list ds => some ds
  | .tuple ds => some ds
  | _ => none
theorem ca_list {X : Cx} : Ca X (fun xs H Q => ∃ p ys, xs = [.ref p] ∧ (SqL X.K H p ys ∨ SqT X.K H p ys) ∧ ∀ l, H l = none → Q (.ref l) (upd H l (.lst ys))) (fN1 listD) := ca_N1 fun O H x v ys Q rv e k => by
  cases x with
  | list ds => cases e; obtain ⟨a, vs, rfl, g1, g2⟩ := rv; exact ⟨a, vs, rfl, .inl (.inl (.inl g1)), fun l hl => k l vs hl g2⟩
  | tuple ds => cases e; obtain ⟨a, vs, rfl, g1, g2⟩ := rv; exact ⟨a, vs, rfl, .inr (sqP g1), fun l hl => k l vs hl g2⟩
  | _ => cases e
end Den
/-! Den9: subscripts, slices, methods of lists, stores in lists. -/
namespace Den
open PySem PySem.Spec PyProof.Rows L2

/-! ### a[b] -/
def ixD : D → D → Option D
  | .list ds, .int i => atI ds i
  | .tuple ds, .int i => atI ds i
  | .str z, .int i => if small z.length then (match atI z.cps.toList i with | some c => some (.str ⟨#[c]⟩) | none => none) else none
  | _, _ => none
def fIx (w w2 : W) (m : Mem) : Rs W := match peek m w, peek m w2 with | some x, some y => (match ixD x y with | some z => .ok (.d z) m | none => .no) | _, _ => .no
def mIx (a b : EM W) : EM W := mOp2 a b fIx
theorem atI_rep {K : PySem.W.Frag} {O : Addr → Prop} {H : Hp} {ds : List D} {vs : List V} {i : Int} {z : D} (h : RepDs K O H ds vs) (e : atI ds i = some z) : ∃ v, atI vs i = some v ∧ RepD K O H z v := by
  unfold atI at e ⊢
  rw [h.len]
  cases hj : ixN ds.length i with
  | none => rw [hj] at e; cases e
  | some j =>
    rw [hj] at e
    obtain ⟨v, h1, h2⟩ := h.get e
    exact ⟨v, h1, h2⟩
theorem bi_ix {X : Cx} : Bi2 X (rIx X.K) fIx := by
  intro E Hd al m H w v w2 v2 R Q s r1 r2 P k
  unfold fIx at P
  split at P
  · rename_i x y hx hy
    have rx := peek_ok s r1 hx
    have ry := peek_ok s r2 hy
    split at P
    · rename_i z hz
      cases y with
      | int i =>
        cases ry
        cases x with
        | list ds =>
          obtain ⟨a, vs, rfl, g1, g2⟩ := rx
          obtain ⟨u, h1, h2⟩ := atI_rep g2 hz
          exact .inl ⟨a, vs, i, u, rfl, rfl, .inl (.inl g1), h1, res_d s P h2 k⟩
        | tuple ds =>
          obtain ⟨a, vs, rfl, g1, g2⟩ := rx
          obtain ⟨u, h1, h2⟩ := atI_rep g2 hz
          exact .inr (.inl ⟨a, vs, i, u, rfl, rfl, sqP g1, h1, res_d s P h2 k⟩)
        | str t =>
          cases rx
          unfold ixD at hz
          dsimp only at hz
          split at hz
          · rename_i c
            split at hz
            · rename_i u hu
              cases hz
              exact .inr (.inr ⟨t, i, u, rfl, rfl, small_line c, hu, res_d s P rfl k⟩)
            · cases hz
          · cases hz
        | _ => cases hz
      | _ => cases x <;> cases hz
    · exact P.elim
  · exact P.elim
section
variable {X : Cx} {E : St → XK} {ea eb : Expr} {a b : EM W} {pos : Pos}
theorem den_ix (ha : Den X E ea a) (hb : Den X E eb b) (hs : PlainIx eb := by exact fun _ _ => rfl) : Den X E (.Subscript ea eb pos) (mIx a b) := PE.imp (pe_ix ix_seq ha hb hs) fun _ _ _ q => tM_op bi_ix q
end

/-! ### a[lo:hi] -/
def tO (K : PySem.W.Frag) (mg : Str → Option Value) (E : St → XK) (c : EM (Option Int)) : TO := fun σ H Q => ∃ Hd al rho m, Stt K Hd al none H m ∧ EnvOk K mg (Own Hd al m none) al H rho σ ∧
  Post K mg Hd al m H (E σ) (c rho m) fun o al' p m' H' => p = none → Q o H'
abbrev DenO (X : Cx) (E : St → XK) (e : Option Expr) (c : EM (Option Int)) : Prop := PO X e (tO X.K X.mg E c)
def oNone : EM (Option Int) := fun _ m => .ok none m
def oSome (a : EM W) : EM (Option Int) := fun rho m => (a rho m).bindV fun w m1 => match w with | .d (.int i) => .ok (some i) m1 | _ => .no
theorem PO.imp {X : Cx} {e : Option Expr} {t t' : TO} (h : PO X e t) (k : ∀ σ H Q, t' σ H Q → t σ H Q) : PO X e t' := ⟨fun pins s σ H Q I q => h.run pins s σ H Q I (k σ H Q q)⟩
def cutD {α : Type} (xs : List α) (lo hi : Option Int) : List α := (xs.drop (HT.sIx xs.length 0 lo)).take (HT.sIx xs.length xs.length hi - HT.sIx xs.length 0 lo)
def fSl (w : W) (lo hi : Option Int) (m : Mem) : Rs W := match peek m w with
  | some (.list ds) => .ok (.n (.list (cutD ds lo hi))) m
  | some (.tuple ds) => .ok (.d (.tuple (cutD ds lo hi))) m
  | some (.str z) => if small z.length then .ok (.d (.str ⟨(cutD z.cps.toList lo hi).toArray⟩)) m else .no
  | _ => .no
def mSl (a : EM W) (lo hi : EM (Option Int)) : EM W := fun rho m => (a rho m).bindV fun w m1 => (lo rho m1).bind fun l m2 => (hi rho m2).bind fun h m3 => fSl w l h m3
theorem RepDs.cut {K : PySem.W.Frag} {O : Addr → Prop} {H : Hp} {ds : List D} {vs : List V} (h : RepDs K O H ds vs) (lo hi : Option Int) : RepDs K O H (cutD ds lo hi) (cutV vs lo hi) := by
  unfold cutD cutV
  rw [h.len]
  exact (h.drop _).take _
section
variable {X : Cx} {E : St → XK} {ea eb : Expr} {a b : EM W} {pos : Pos} {lo hi : Option Expr} {l h : EM (Option Int)}
theorem do_none : DenO X E none oNone := PO.imp po_none fun σ H Q q => by
  obtain ⟨Hd, al, rho, m, s, e, P⟩ := q
  exact Post.ok s P rfl
theorem do_some (ha : Den X E ea a) : DenO X E (some ea) (oSome a) := PO.imp (po_some ha) fun σ H Q q => by
  obtain ⟨Hd, al, rho, m, s, e, P⟩ := q
  refine ⟨Hd, al, rho, m, s, e, (Post.bindV P).imp fun w al1 p1 m1 H1 g s1 k v rv => ?_⟩
  obtain ⟨g1, s1', rv1, P1⟩ := k v rv
  split at P1
  · rename_i i hw
    rw [hw] at rv1
    exact ⟨i, rv1.2, (P1.ok s1') rfl⟩
  · exact P1.elim
theorem den_sl {p2 : Pos} (ha : Den X E ea a) (hl : DenO X E lo l) (hh : DenO X E hi h) : Den X E (.Subscript ea (.Slice lo hi none p2) pos) (mSl a l h) := PE.imp (pe_slice (sl_list.or (sl_tupA.or sl_str)) ha hl hh) fun σ H Q q => by
  obtain ⟨Hd, al, rho, m, s, e, P⟩ := q
  refine ⟨Hd, al, rho, m, s, e, (Post.bindV P).imp fun w al1 p1 m1 H1 g s1 k v rv => ?_⟩
  obtain ⟨g1, s1', rv1, P1⟩ := k v rv
  refine ⟨Hd, al1, rho, m1, s1', e.go g1, (Post.bind P1).imp fun l al2 p2 m2 H2 g2 s2 k2 hp2 => ?_⟩
  subst hp2
  have P2 := k2 rfl
  refine ⟨Hd, al2, rho, m2, s2, (e.go g1).go g2, (Post.bind P2).imp fun h al3 p3 m3 H3 g3 s3 k3 hp3 => ?_⟩
  subst hp3
  have P3 := k3 rfl
  have rv3 := (rv1.go g2).go g3
  unfold fSl at P3
  split at P3
  · rename_i ds hx
    obtain ⟨a, vs, rfl, q1, q2⟩ := peek_ok s3 rv3 hx
    exact .inl ⟨a, vs, rfl, .inl (.inl q1), fun p hp => res_list s3 (q2.cut l h) hp P3 fun w' al' p m' H' v' q' => q' v'⟩
  · rename_i ds hx
    obtain ⟨a, vs, rfl, q1, q2⟩ := peek_ok s3 rv3 hx
    refine .inr (.inl ⟨a, vs, rfl, sqP q1, fun hw => ?_, fun _ p hp => res_tup s3 (q2.cut l h) hp P3 fun w' al' p m' H' v' q' => q' v'⟩)
    have e1 : cutD ds l h = ds := by
      unfold cutD
      rw [q2.len] at hw
      rw [hw.1, hw.2, List.drop_zero, Nat.sub_zero, List.take_length]
    rw [e1] at P3
    exact (P3.ok s3) _ ⟨rfl, a, vs, rfl, q1, q2⟩
  · rename_i z hx
    have := peek_ok s3 rv3 hx
    cases this
    split at P3
    · rename_i hz
      refine .inr (.inr ⟨z, rfl, small_line hz, ?_⟩)
      have e1 : (⟨(cutD z.cps.toList l h).toArray⟩ : Str) = cutS z l h := by
        unfold cutD cutS
        have : z.cps.toList.length = z.length := by simp [Str.length]
        rw [this]
      rw [← e1]
      exact (P3.ok s3) _ ⟨rfl, rfl⟩
    · exact P3.elim
  · exact P3.elim
end

/-! ### a mutable list is written -/
section
variable {K : PySem.W.Frag} {mg : Str → Option Value} {Hd : Addr → Prop} {al : List Addr} {m : Mem} {H : Hp} {E : XK} {n : Nat} {a : Addr} {x y : D} {o : HO}
theorem live_put (hx : m[n]? = some (some x)) {r : Nat} : Live (m.set n (some y)) r ↔ Live m r := by
  obtain ⟨hn, _⟩ := List.getElem?_eq_some_iff.mp hx
  by_cases e : n = r
  · subst e
    exact ⟨fun _ => ⟨x, hx⟩, fun _ => ⟨y, by rw [List.getElem?_set_self hn]⟩⟩
  · unfold Live
    rw [List.getElem?_set_ne e]
theorem own_put (hx : m[n]? = some (some x)) {b : Addr} : Own Hd al (m.set n (some y)) none b ↔ Own Hd al m none b := by
  unfold Own
  exact ⟨fun h => h.imp (fun ⟨r, h1, h2⟩ => ⟨r, h1, (live_put hx).mp h2⟩) id, fun h => h.imp (fun ⟨r, h1, h2⟩ => ⟨r, h1, (live_put hx).mpr h2⟩) id⟩
theorem go_put (s : Stt K Hd al none H m) (ha : al[n]? = some a) (hx : m[n]? = some (some x)) : Go Hd al m none H al (m.set n (some y)) none (upd H a o) where
  ext := by
    obtain ⟨u, hu, hm⟩ := (s.ob n a x ha hx).some
    refine .of (fun b vs h => ?_) (fun b ob u h => ?_) (fun b ob h nb => ?_) (fun b z => .inl ((own_put hx).mp z))
    · by_cases e : b = a
      · subst e; rw [hu] at h; cases h; exact hm.elim
      · rw [upd_ne e]; exact h
    · by_cases e : b = a
      · subst e; rw [hu] at h; cases h; exact hm.elim
      · rw [upd_ne e]; exact h
    · by_cases e : b = a
      · subst e; exact (nb (.inl ⟨n, ha, x, hx⟩)).elim
      · rw [upd_ne e]; exact h
  pre := fun _ _ h => h
  hid := fun b ob hb h => by
    have : b ≠ a := fun e => by subst e; exact (s.hin b hb).2.2 n ⟨x, hx⟩ ha
    rw [upd_ne this]; exact h
theorem stt_put (s : Stt K Hd al none H m) (ha : al[n]? = some a) (hx : m[n]? = some (some x)) (hy : ObOk K (Own Hd al (m.set n (some y)) none) (upd H a o) y a) : Stt K Hd al none (upd H a o) (m.set n (some y)) where
  len := by rw [List.length_set]; exact s.len
  ob := fun r b z h1 h2 => by
    obtain ⟨hn, _⟩ := List.getElem?_eq_some_iff.mp hx
    by_cases e : n = r
    · subst e
      rw [List.getElem?_set_self hn] at h2
      rw [ha] at h1
      cases h1; cases h2
      exact hy
    · rw [List.getElem?_set_ne e] at h2
      have : b ≠ a := fun eb => by subst eb; exact e (s.inj n r b ha h1 ⟨x, hx⟩ ⟨z, h2⟩)
      exact (s.ob r b z h1 h2).stay (go_put s ha hx).ext (upd_ne this)
  inj := fun r r' b h1 h2 h3 h4 => s.inj r r' b h1 h2 ((live_put hx).mp h3) ((live_put hx).mp h4)
  pnd := fun _ _ h => nomatch h
  hin := fun b hb => by
    obtain ⟨⟨u, hu⟩, h2, h3⟩ := s.hin b hb
    exact ⟨⟨u, (go_put (y := y) (o := o) s ha hx).hid b u hb hu⟩, h2, fun r h => h3 r ((live_put hx).mp h)⟩
/-- a list is written with other items -/
theorem put_list {ds : List D} {vs : List V} (s : Stt K Hd al none H m) (ha : al[n]? = some a) (hx : m[n]? = some (some x)) (h : RepDs K (Own Hd al m none) H ds vs) :
    Go Hd al m none H al (m.set n (some (.list ds))) none (upd H a (.lst vs)) ∧ Stt K Hd al none (upd H a (.lst vs)) (m.set n (some (.list ds))) :=
  have g := go_put (y := .list ds) (o := .lst vs) s ha hx
  ⟨g, stt_put s ha hx ⟨vs, upd_same, h.ext g.ext⟩⟩
end

/-! ### methods -/
/-- a rule for a method by values -/
def Cm (X : Cx) (r : V → List V → Hp → VK → Prop) (f : W → List W → Mem → Rs W) : Prop := ∀ (E : XK) Hd al m H w v ws vs (R : W → List Addr → Option Addr → Mem → Hp → Prop) (Q : VK), Stt X.K Hd al none H m → RepW X.K X.mg (Own Hd al m none) none al H w v → RepWs X.K X.mg (Own Hd al m none) al H ws vs →
  Post X.K X.mg Hd al m H E (f w ws m) R → (∀ w' al' p m' H' v', R w' al' p m' H' → RepW X.K X.mg (Own Hd al' m' p) p al' H' w' v' → Q v' H') → r v vs H Q
/-- the type of what a method is called on -/
inductive Kd where
  | lst | str | dct | int
def Kd.nm : Kd → String
  | .lst => "list" | .str => "str" | .dct => "dict" | .int => "int"
def Kd.ok : Kd → D → Bool
  | .lst, .list _ => true
  | .str, .str _ => true
  | .int, .int _ => true
  | _, _ => false
theorem Kd.ty {K : PySem.W.Frag} {O : Addr → Prop} {H : Hp} {T : Kd} {x : D} {v : V} (h : RepP K O H x v) (e : T.ok x = true) : tyV K T.nm v H := by
  cases T <;> cases x <;> first | (cases e; done) | skip
  · obtain ⟨a, vs, rfl, h1, _⟩ := h; exact .inl ⟨rfl, vs, .inl (.inl h1)⟩
  · cases h; exact rfl
  · cases h; exact rfl
def mM (T : Kd) (o : EM W) (c : EM (List W)) (f : W → List W → Mem → Rs W) : EM W := fun rho m => (o rho m).bindV fun w m1 => match peek m1 w with
  | some x => if T.ok x then (c rho m1).bind fun ws m2 => f w ws m2 else .no
  | none => .no
section
variable {X : Cx} {E : St → XK} {r : V → List V → Hp → VK → Prop} {f : W → List W → Mem → Rs W} {T : Kd} {id : String} {name : Str} {apos cpos : Pos} {o e : Expr} {es : List Expr} {a : EM W} {c : EM (List W)}
theorem tM_m (h : Cm X r f) {σ : St} {H : Hp} {Q : VK} (q : tM X.K X.mg E (mM T a c f) σ H Q) : tBM X.K T.nm r (tM X.K X.mg E a) (tA X.K X.mg E c) σ H Q := by
  obtain ⟨Hd, al, rho, m, s, e, P⟩ := q
  refine ⟨Hd, al, rho, m, s, e, (Post.bindV P).imp fun w al1 p1 m1 H1 g s1 k v rv => ?_⟩
  obtain ⟨g1, s1', rv1, P1⟩ := k v rv
  split at P1
  · rename_i x hx
    split at P1
    · rename_i hT
      refine ⟨Kd.ty (peek_ok s1' rv1 hx) hT, Hd, al1, rho, m1, s1', e.go g1, (Post.bind P1).imp fun ws al2 p2 m2 H2 g2 s2 k2 hp2 vs rvs => ?_⟩
      subst hp2
      exact h _ _ _ _ _ _ _ _ _ _ Q s2 (rv1.go g2) rvs (k2 rfl) fun w' al' p m' H' v' q' => q' v'
    · exact P1.elim
  · exact P1.elim
theorem tM_m0 (h : Cm X r f) {σ : St} {H : Hp} {Q : VK} (q : tM X.K X.mg E (mM T a mNil f) σ H Q) : tBM0 X.K T.nm r (tM X.K X.mg E a) σ H Q := by
  obtain ⟨Hd, al, rho, m, s, e, P⟩ := q
  refine ⟨Hd, al, rho, m, s, e, (Post.bindV P).imp fun w al1 p1 m1 H1 g s1 k v rv => ?_⟩
  obtain ⟨g1, s1', rv1, P1⟩ := k v rv
  split at P1
  · rename_i x hx
    split at P1
    · rename_i hT
      exact ⟨Kd.ty (peek_ok s1' rv1 hx) hT, h _ _ _ _ _ _ _ [] [] _ Q s1' rv1 rfl P1 fun w' al' p m' H' v' q' => q' v'⟩
    · exact P1.elim
  · exact P1.elim
theorem den_m (h : Cm X r f) (pa : PlainAttrs T.nm) (slot : Slot T.nm name id) (hty : typeOf (.builtin id) = pure (.type "method_descriptor")) (hm : MtR X id r) (ho : Den X E o a) (ha : DenA X E (e :: es) c)
    (hbase : attributeBase o name X.env (eval o X.env) = eval o X.env := by rfl)
    (hfew : ((backTo cpos (starEach (e :: es) X.env)).all (fun x => !x.1) && (backToKw cpos (keywordEach [] X.env)).all (fun x => x.1.isSome)
      && decide ((e :: es).length + ([] : List Keyword).length + (if ([] : List Keyword).isEmpty then 0 else 1) < 30)) = true := by rfl)
    (hline : (apos.endLine == cpos.line) = true := by rfl) (hs : starEach (e :: es) X.env = (false, eval e X.env) :: starEach es X.env := by rfl) (hplain : (backTo cpos (starEach es X.env)).any (·.1) = false := by rfl) :
    Den X E (.Call (.Attribute o name apos) (e :: es) [] cpos) (mM T a c f) := PE.imp (pe_bm pa slot hty hm ho ha hbase hfew hline hs hplain) fun _ _ _ q => tM_m h q
theorem den_m0 (h : Cm X r f) (pa : PlainAttrs T.nm) (slot : Slot T.nm name id) (hty : typeOf (.builtin id) = pure (.type "method_descriptor")) (hm : MtR X id r) (ho : Den X E o a)
    (hbase : attributeBase o name X.env (eval o X.env) = eval o X.env := by rfl) (hline : (apos.endLine == cpos.line) = true := by rfl) :
    Den X E (.Call (.Attribute o name apos) [] [] cpos) (mM T a mNil f) := PE.imp (pe_bm0 pa slot hty hm ho hbase hline) fun _ _ _ q => tM_m0 h q
end
def fAppend : W → List W → Mem → Rs W
  | .r n, [w], m => (match frz m w with
    | some (x, m1) => (match m1[n]? with | some (some (.list ds)) => if small (ds.length + 1) then .ok (.d .none) (m1.set n (some (.list (ds ++ [x])))) else .no | _ => .no)
    | none => .no)
  | _, _, _ => .no
theorem repWs1 {K : PySem.W.Frag} {mg : Str → Option Value} {O : Addr → Prop} {al : List Addr} {H : Hp} {w : W} {vs : List V} (h : RepWs K mg O al H [w] vs) : ∃ v, vs = [v] ∧ RepW K mg O none al H w v := by
  obtain ⟨v, r, h1, h2, h3⟩ := h
  rw [show r = [] from h3] at h1
  exact ⟨v, h1, h2⟩
theorem cm_append {X : Cx} : Cm X rAppend fAppend := by
  intro E Hd al m H w v ws vs R Q s r1 r2 P k
  unfold fAppend at P
  split at P
  · rename_i n w1 
    obtain ⟨u, rfl, ru⟩ := repWs1 r2
    split at P
    · rename_i x m1 hx
      obtain ⟨s1, g1, rx⟩ := frz_ok s ru hx
      split at P
      · rename_i ds hd
        split at P
        · rename_i hz
          obtain ⟨a, ha, rfl⟩ := r1.2
          obtain ⟨us, h2, h3⟩ := s1.ob n a _ ha hd
          obtain ⟨g2, s2⟩ := put_list s1 ha hd (h3.append (show RepDs X.K _ H [x] [u] from ⟨u, [], rfl, rx, rfl⟩))
          refine ⟨a, us, u, rfl, rfl, h2, by have := small_line hz; rw [h3.len]; omega, k _ _ _ _ _ _ (P al none _ (g1.trans g2) s2) ⟨rfl, rfl⟩⟩
        · exact P.elim
      · exact P.elim
    · exact P.elim
  · exact P.elim
def fExtend : W → List W → Mem → Rs W
  | .r n, [w], m => (match peek m w with
    | some (.list xs) => (match frz m w with
      | some (_, m1) => (match m1[n]? with | some (some (.list ds)) => if small (ds.length + xs.length) then .ok (.d .none) (m1.set n (some (.list (ds ++ xs)))) else .no | _ => .no)
      | none => .no)
    | _ => .no)
  | _, _, _ => .no
theorem frz_peek {m m1 : Mem} {w : W} {x y : D} (h : frz m w = some (x, m1)) (h2 : peek m w = some y) : x = y := by
  cases w with
  | d z => cases h; cases h2; rfl
  | n z => cases h; cases h2; rfl
  | f z => cases h
  | s z => cases h
  | e z => cases h
  | r n =>
    unfold frz at h
    dsimp only at h
    split at h
    · rename_i z hz
      cases h
      unfold peek at h2
      dsimp only at h2
      rw [hz] at h2
      cases h2; rfl
    · cases h
theorem cm_extend {X : Cx} : Cm X rExtend fExtend := by
  intro E Hd al m H w v ws vs R Q s r1 r2 P k
  unfold fExtend at P
  split at P
  · rename_i n w1 
    obtain ⟨u, rfl, ru⟩ := repWs1 r2
    split at P
    · rename_i xs hp
      split at P
      · rename_i x m1 hx
        obtain ⟨s1, g1, rx⟩ := frz_ok s ru hx
        have e0 := frz_peek hx hp
        subst e0
        obtain ⟨b, zs, rfl, hb, hzs⟩ := rx
        split at P
        · rename_i ds hd
          split at P
          · rename_i hz
            obtain ⟨a, ha, rfl⟩ := r1.2
            obtain ⟨us, h2, h3⟩ := s1.ob n a _ ha hd
            obtain ⟨g2, s2⟩ := put_list s1 ha hd (h3.append hzs)
            exact ⟨a, b, us, zs, rfl, rfl, h2, hb.1, by have := small_line hz; rw [h3.len, hzs.len]; omega, k _ _ _ _ _ _ (P al none _ (g1.trans g2) s2) ⟨rfl, rfl⟩⟩
          · exact P.elim
        · exact P.elim
      · exact P.elim
    · exact P.elim
  · exact P.elim
def fPop : W → List W → Mem → Rs W
  | .r n, [], m => (match m[n]? with | some (some (.list ds)) => (match ds[ds.length - 1]? with | some x => .ok (.d x) (m.set n (some (.list ds.dropLast))) | none => .no) | _ => .no)
  | _, _, _ => .no
theorem RepDs.dropLast {K : PySem.W.Frag} {O : Addr → Prop} {H : Hp} {ds : List D} {vs : List V} (h : RepDs K O H ds vs) : RepDs K O H ds.dropLast vs.dropLast := by
  rw [List.dropLast_eq_take, List.dropLast_eq_take, h.len]
  exact h.take _
theorem cm_pop {X : Cx} : Cm X rPop fPop := by
  intro E Hd al m H w v ws vs R Q s r1 r2 P k
  unfold fPop at P
  split at P
  · rename_i n
    have e0 : vs = [] := r2
    subst e0
    split at P
    · rename_i ds hd
      split at P
      · rename_i x hx
        obtain ⟨a, ha, rfl⟩ := r1.2
        obtain ⟨us, h2, h3⟩ := s.ob n a _ ha hd
        obtain ⟨u, hu, ru⟩ := h3.get hx
        obtain ⟨g2, s2⟩ := put_list s ha hd h3.dropLast
        exact ⟨a, us, u, rfl, rfl, h2, by rw [h3.len]; exact hu, k _ _ _ _ _ _ (P al none _ g2 s2) ⟨rfl, ru.ext g2.ext⟩⟩
      · exact P.elim
    · exact P.elim
  · exact P.elim
def fPopAt : W → List W → Mem → Rs W
  | .r n, [.d (.int i)], m => (match m[n]? with | some (some (.list ds)) => (match ixN ds.length i with
      | some j => (match ds[j]? with | some x => if small ds.length then .ok (.d x) (m.set n (some (.list (ds.eraseIdx j)))) else .no | none => .no) | none => .no) | _ => .no)
  | _, _, _ => .no
theorem RepDs.erase {K : PySem.W.Frag} {O : Addr → Prop} {H : Hp} : ∀ {ds : List D} {vs : List V} (j : Nat), RepDs K O H ds vs → RepDs K O H (ds.eraseIdx j) (vs.eraseIdx j)
  | [], _, _, h => by rw [show _ = [] from h]; exact rfl
  | x :: ds, _, 0, ⟨v, r, h1, h2, h3⟩ => by subst h1; exact h3
  | x :: ds, _, j + 1, ⟨v, r, h1, h2, h3⟩ => by subst h1; exact ⟨v, _, rfl, h2, RepDs.erase j h3⟩
theorem cm_popAt {X : Cx} : Cm X rPopAt fPopAt := by
  intro E Hd al m H w v ws vs R Q s r1 r2 P k
  unfold fPopAt at P
  split at P
  · rename_i n i
    obtain ⟨u0, rfl, ru0⟩ := repWs1 r2
    split at P
    · rename_i ds hd
      split at P
      · rename_i j hj
        split at P
        · rename_i x hx
          split at P
          · rename_i hz
            obtain ⟨a, ha, rfl⟩ := r1.2
            obtain ⟨us, h2, h3⟩ := s.ob n a _ ha hd
            obtain ⟨u, hu, ru⟩ := h3.get hx
            obtain ⟨g2, s2⟩ := put_list s ha hd (h3.erase j)
            obtain ⟨q1, q2, q3, q4⟩ := ixN_seq hj
            have hzz := small_line hz
            have hsl := sizeLine_eq
            have e1 : u0 = .int i := ru0.2
            subst e1
            refine ⟨a, us, i, j, u, rfl, rfl, h2, by omega, by omega, by rw [h3.len]; exact q1, hu, k _ _ _ _ _ _ (P al none _ g2 s2) ⟨rfl, ru.ext g2.ext⟩⟩
          · exact P.elim
        · exact P.elim
      · exact P.elim
    · exact P.elim
  · exact P.elim
def fReverse : W → List W → Mem → Rs W
  | .r n, [], m => (match m[n]? with | some (some (.list ds)) => .ok (.d .none) (m.set n (some (.list ds.reverse))) | _ => .no)
  | _, _, _ => .no
theorem cm_reverse {X : Cx} : Cm X rReverse fReverse := by
  intro E Hd al m H w v ws vs R Q s r1 r2 P k
  unfold fReverse at P
  split at P
  · rename_i n
    have e0 : vs = [] := r2
    subst e0
    split at P
    · rename_i ds hd
      obtain ⟨a, ha, rfl⟩ := r1.2
      obtain ⟨us, h2, h3⟩ := s.ob n a _ ha hd
      obtain ⟨g2, s2⟩ := put_list s ha hd h3.reverse
      exact ⟨a, us, rfl, rfl, h2, k _ _ _ _ _ _ (P al none _ g2 s2) ⟨rfl, rfl⟩⟩
    · exact P.elim
  · exact P.elim
end Den
/-! Den10: sorted of lists and tuples, index, count, stores in lists, name op= e, list(range(..)). -/
namespace Den
open PySem PySem.Spec PyProof.Rows L2

/-! ### sorted -/
section
variable {prog : Program} {w : World} {A : Around} {E : Value → Shared → Prop} {s : Shared}
theorem sorted_seq {T : String} {l : Addr} {o : Obj} {its : List Value} {n : Nat} {Q : Value → Shared → Prop} (hT : T = "list" ∨ T = "tuple") (ho : s.heap.get? l = some o) (hc : o.cls = .type T) (hd : o.data = .seq its.toArray n) (hz : its.length ≤ sizeLine)
    (body : ∀ (h' : Heap) (E' : Value → Shared → Prop), (∀ b u, s.heap.get? b = some u → h'.get? b = some u) → wpAny (model prog w) A.in1.in1 (Builtin.«list.sort» ⟨[.ref h'.objs.size], []⟩) (fun f s' => f = .done (.ret .none) ∧ Q (.ref h'.objs.size) s') E' { s with heap := h'.push (seqObj "list" its.toArray 0) }) :
    wpAny (model prog w) A (call (.builtin "sorted") [.ref l]) Q E s := by
  refine call_function_entry_kw kind_sorted plain_sorted entry_sorted (args_sorted1 _) (show wpAny _ _ (Builtin.«sorted» ⟨[.ref l], []⟩) _ _ _ from ?_)
  unfold Builtin.«sorted»
  refine wpAny_bind (m := checkCount "sorted" 1 1 _) (wpAny_pure (wpAny_bind (wpAny_collect_seq l hT ho hc hd (fun h' hk => ?_) (by rw [List.size_toArray]; exact hz))))
  refine wpAny_bind (wpAny_newList (s := { s with heap := h' }) ?_ (by simpa using hz))
  refine wpAny_bind (wpAny_holding (wpAny_call_entry_kw slot_list_sort ⟨_, Heap.get?_push_size _ rfl, rfl⟩ entry_list_sort (wpAny_mono (body h' _ hk) (fun f s' hf => ⟨.none, hf.1, wpAny_pure ⟨_, rfl, hf.2⟩⟩) fun _ _ e => e) (args_list_sort _)))
end
/-- sorted(xs), xs a list or a tuple of alike data -/
def rSortD (K : PySem.W.Frag) : List V → Hp → VK → Prop := fun xs H Q => ∃ (a : Addr) (bs : List (V × D)), xs = [.ref a] ∧ (SqL K H a (bs.map (·.1)) ∨ SqT K H a (bs.map (·.1))) ∧ (∀ b ∈ bs, Dp K H b.1 b.2) ∧ PySem.W.AllAlike (bs.map (·.2)) ∧ PySem.W.Sortable (bs.map (·.2)) ∧
  (∀ b ∈ bs, b.2.depth ≤ 60) ∧ ∀ p, H p = none → Q (.ref p) (upd H p (.lst ((bs.mergeSort (PySem.W.dataLe false (·.2))).map (·.1))))
section
variable {X : Cx}
theorem each_of {pins : List (Addr × Obj)} {σ : St} {H : Hp} {s : Shared} (I : Inv X pins σ H s) : ∀ {bs : List (V × D)} {us : List Value}, (∀ b ∈ bs, Dp X.K H b.1 b.2) → Vals (bs.map (·.1)) us → PySem.W.EachIs (fun u (b : V × D) => RelV b.1 u ∧ ∃ as, Reads s.heap u b.2 as) us bs
  | [], _, _, .nil => .nil
  | b :: bs, _, h, .cons r t => .cons ⟨r, Dp.reads I _ _ _ (h b (List.mem_cons_self)) r⟩ (each_of I (fun c hc => h c (List.mem_cons_of_mem _ hc)) t)
theorem vals_each : ∀ {us : List Value} {bs : List (V × D)}, PySem.W.EachIs (fun u (b : V × D) => RelV b.1 u) us bs → Vals (bs.map (·.1)) us
  | _, _, .nil => .nil
  | _, _, .cons h t => .cons h (vals_each t)
theorem sort_seq {pins : List (Addr × Obj)} {σ : St} {H : Hp} {s : Shared} {Q : VK} {T : String} {l : Addr} {o : Obj} {its : List Value} {n : Nat} {bs : List (V × D)} (hu : X.A.units + 65 < cLine) (hT : T = "list" ∨ T = "tuple") (ho : s.heap.get? l = some o) (hc : o.cls = .type T)
    (hd : o.data = .seq its.toArray n) (hz : (bs.map (·.1)).length ≤ sizeLine) (I : Inv X pins σ H s) (rv : Vals (bs.map (·.1)) its) (hdp : ∀ b ∈ bs, Dp X.K H b.1 b.2) (hal : PySem.W.AllAlike (bs.map (·.2))) (hk : PySem.W.Sortable (bs.map (·.2))) (hdd : ∀ b ∈ bs, b.2.depth ≤ 60)
    (q : ∀ p, H p = none → Q (.ref p) (upd H p (.lst ((bs.mergeSort (PySem.W.dataLe false (·.2))).map (·.1))))) : wpAny (model X.prog X.w) X.A (call (.builtin "sorted") [.ref l]) (EP X pins σ Q) X.xe s := by
  have hzi : its.length ≤ sizeLine := by rw [← rv.length]; exact hz
  refine sorted_seq hT ho hc hd hzi fun h' E' keep => ?_
  have I1 : Inv X pins σ H { s with heap := h' } := I.kept (t' := s.toks) keep
  have ee := each_of I1 hdp rv
  have atL : (h'.push (seqObj "list" its.toArray 0)).get? h'.objs.size = some (seqObj "list" its.toArray 0) := Heap.get?_push_size _ rfl
  have old : ∀ b u, h'.get? b = some u → (PySem.W.sortingHeap (h'.push (seqObj "list" its.toArray 0)) h'.objs.size its).get? b = some u := fun b u e => PySem.W.sortingHeap_old (Nat.ne_of_lt (Heap.lt_size e)) (Heap.get?_push_of_some _ e)
  have er : PySem.W.EachIs (fun u (b : V × D) => ∃ as, Reads (PySem.W.sortingHeap (h'.push (seqObj "list" its.toArray 0)) h'.objs.size its) u b.2 as) its bs := ee.mono fun u b ⟨_, as, r⟩ => ⟨as, PyProof.Rows.Reads.keeps old r⟩
  have el : its.length = bs.length := by rw [← rv.length, List.length_map]
  refine PySem.W.list_sort_vals (s := { s with heap := h'.push (seqObj "list" its.toArray 0) }) atL (PySem.W.SortsAt.data (s := { s with heap := PySem.W.sortingHeap (h'.push (seqObj "list" its.toArray 0)) h'.objs.size its }) (PySem.W.each_map (R := fun v d => ∃ as, Reads (PySem.W.sortingHeap (h'.push (seqObj "list" its.toArray 0)) h'.objs.size its) v d as) (fun b : V × D => b.2) er) hal hk (fun d hd => ?_)) hzi ⟨rfl, ?_⟩
  · obtain ⟨b, hb, rfl⟩ := List.mem_map.mp hd
    have := hdd b hb
    show X.A.units + 1 + 1 + b.2.depth < cLine
    omega
  · have out := PySem.W.sortVals_data (R := fun u (b : V × D) => RelV b.1 u) false (ee.mono fun _ _ z => z.1) er hal
    have rvo := vals_each out
    obtain ⟨ep, he⟩ := sortedHeap_at (out := (PySem.W.sortVals (PySem.W.dataKind (PySem.W.sortingHeap (h'.push (seqObj "list" its.toArray 0)) h'.objs.size its) (bs.map (·.2))) false its its).toArray) atL
    have hzo : ((bs.mergeSort (PySem.W.dataLe false fun b : V × D => b.2)).map (·.1)).length ≤ sizeLine := by rw [List.length_map, List.length_mergeSort, ← el]; exact hzi
    refine ⟨.ref h'.objs.size, _, I1.laid (t' := s.toks) (a := h'.objs.size) (o := .lst ((bs.mergeSort (PySem.W.dataLe false fun b : V × D => b.2)).map (·.1))) (fun b u e => ?_) (Nat.le_refl _) (show _ ∧ _ from ⟨hzo, _, ep, rvo, he⟩), rfl, q _ (I1.hok.fresh (Nat.le_refl _))⟩
    have hlt : b < h'.objs.size := Heap.lt_size e
    have e2 := Heap.get?_push_of_some (seqObj "list" its.toArray 0) e
    rw [sortedHeap_old (Nat.ne_of_lt hlt) (Heap.lt_size e2)]
    exact e2
theorem cr_sortD (hu : X.A.units + 65 < cLine) : CallR X (.builtin "sorted") (rSortD X.K) := by
  intro pins s σ H vs us Q I r h
  obtain ⟨a, bs, rfl, hs, hdp, hal, hk, hdd, q⟩ := h
  rw [Vals.ref1 r]
  rcases hs with hs | hs
  · obtain ⟨its, rv, ⟨o, n, ho, hc, hdn, hd⟩, hz⟩ := I.list hs
    exact sort_seq hu (.inl rfl) ho hc hd hz I rv hdp hal hk hdd q
  · obtain ⟨its, rv, ⟨o, ho, hc, n, hd⟩, hz⟩ := I.tuple hs
    exact sort_seq hu (.inr rfl) ho hc hd hz I rv hdp hal hk hdd q
end
def alikeAllB (ds : List D) : Bool := ds.all fun d => ds.all fun d' => PySem.W.alike d d'
def tupConsB : D → Bool
  | .tuple (_ :: _) => true
  | _ => false
def plainB : D → Bool
  | .none => false
  | .tuple _ => false
  | _ => true
def sortD : D → Option (List D)
  | .list ds => if alikeAllB ds && (ds.all tupConsB || ds.all plainB) && ds.all (fun d => decide (d.depth ≤ 60) && !d.hasDict) then some (ds.mergeSort (PySem.W.dataLe false id)) else none
  | .tuple ds => if alikeAllB ds && (ds.all tupConsB || ds.all plainB) && ds.all (fun d => decide (d.depth ≤ 60) && !d.hasDict) then some (ds.mergeSort (PySem.W.dataLe false id)) else none
  | _ => none
section
variable {K : PySem.W.Frag} {O : Addr → Prop} {H : Hp}
theorem alikeAllB_ok {ds : List D} (h : alikeAllB ds = true) : PySem.W.AllAlike ds := fun d hd d' hd' => List.all_eq_true.mp (List.all_eq_true.mp h d hd) d' hd'
theorem sortableB_ok {ds : List D} (h : (ds.all tupConsB || ds.all plainB) = true) : PySem.W.Sortable ds := by
  rcases Bool.or_eq_true_iff.mp h with h | h
  · refine .inl fun d hd => ?_
    have := List.all_eq_true.mp h d hd
    cases d with
    | tuple xs => cases xs with
      | nil => cases this
      | cons x r => exact ⟨x, r, rfl⟩
    | _ => cases this
  · refine .inr fun d hd => ?_
    have := List.all_eq_true.mp h d hd
    cases d with
    | none => cases this
    | tuple xs => cases this
    | _ => exact ⟨fun e => (nomatch e), fun xs e => (nomatch e)⟩
theorem repDs_zip : ∀ {ds : List D} {vs : List V}, RepDs K O H ds vs → (vs.zip ds).map (·.1) = vs ∧ (vs.zip ds).map (·.2) = ds ∧ ∀ b ∈ vs.zip ds, RepD K O H b.2 b.1
  | [], _, h => by rw [show _ = [] from h]; exact ⟨rfl, rfl, fun b hb => (nomatch hb)⟩
  | x :: ds, _, ⟨v, r, h1, h2, h3⟩ => by
    subst h1
    obtain ⟨q1, q2, q3⟩ := repDs_zip h3
    refine ⟨by rw [List.zip_cons_cons, List.map_cons, q1], by rw [List.zip_cons_cons, List.map_cons, q2], fun b hb => ?_⟩
    rw [List.zip_cons_cons] at hb
    rcases List.mem_cons.mp hb with rfl | hb
    · exact h2
    · exact q3 b hb
theorem zip_repDs : ∀ {bs : List (V × D)}, (∀ b ∈ bs, RepD K O H b.2 b.1) → RepDs K O H (bs.map (·.2)) (bs.map (·.1))
  | [], _ => rfl
  | b :: bs, h => ⟨_, _, rfl, h b List.mem_cons_self, zip_repDs fun c hc => h c (List.mem_cons_of_mem _ hc)⟩
theorem sort_rep {ds : List D} {vs : List V} (h : RepDs K O H ds vs) : RepDs K O H (ds.mergeSort (PySem.W.dataLe false id)) (((vs.zip ds).mergeSort (PySem.W.dataLe false (·.2))).map (·.1)) := by
  obtain ⟨q1, q2, q3⟩ := repDs_zip h
  have e : ds.mergeSort (PySem.W.dataLe false id) = ((vs.zip ds).mergeSort (PySem.W.dataLe false (·.2))).map (·.2) := by
    have e1 := List.map_mergeSort (r := PySem.W.dataLe false fun b : V × D => b.2) (s := PySem.W.dataLe false id) (f := fun b : V × D => b.2) (l := vs.zip ds) fun a _ b _ => rfl
    rw [e1, q2]
  rw [e]
  exact zip_repDs fun b hb => q3 b (List.mem_mergeSort.mp hb)
theorem ca_sort {X : Cx} : Ca X (rSortD X.K) (fN1 sortD) := ca_N1 fun O H x v ys Q rv e k => by
  have go : ∀ (ds : List D) (vs : List V), RepDs X.K O H ds vs → (if alikeAllB ds && (ds.all tupConsB || ds.all plainB) && ds.all (fun d => decide (d.depth ≤ 60) && !d.hasDict) then some (ds.mergeSort (PySem.W.dataLe false id)) else none) = some ys → ∀ a, (SqL X.K H a vs ∨ SqT X.K H a vs) → rSortD X.K [.ref a] H Q := by
    intro ds vs h2 e a h1
    obtain ⟨c, e⟩ := ite_none e
    cases e
    obtain ⟨q1, q2, q3⟩ := repDs_zip h2
    simp only [Bool.and_eq_true] at c
    obtain ⟨⟨c1, c2⟩, c3⟩ := c
    have c4 := List.all_eq_true.mp c3
    have mem2 : ∀ b ∈ vs.zip ds, b.2 ∈ ds := fun b hb => by rw [← q2]; exact List.mem_map_of_mem hb
    refine ⟨a, vs.zip ds, rfl, by rw [q1]; exact h1, fun b hb => ?_, by rw [q2]; exact alikeAllB_ok c1, by rw [q2]; exact sortableB_ok c2, fun b hb => ?_, fun p hp => k p _ hp (sort_rep h2)⟩
    · have := c4 _ (mem2 b hb)
      simp only [Bool.and_eq_true, Bool.not_eq_true'] at this
      exact RepD.dp _ _ (q3 b hb) this.2
    · have := c4 _ (mem2 b hb)
      simp only [Bool.and_eq_true, decide_eq_true_eq] at this
      exact this.1
  cases x with
  | list ds => obtain ⟨a, vs, rfl, h1, h2⟩ := rv; exact go ds vs h2 e a (.inl (.inl (.inl h1)))
  | tuple ds => obtain ⟨a, vs, rfl, h1, h2⟩ := rv; exact go ds vs h2 e a (.inr (sqP h1))
  | _ => cases e
end

/-! ### l.index(x), l.count(x) -/
def rCntD (K : PySem.W.Frag) : V → List V → Hp → VK → Prop := fun x xs H Q => ∃ (a : Addr) (y : V) (d : D) (ds : List D), x = V.ref a ∧ xs = [y] ∧ Dp K H (V.ref a) (.list ds) ∧ Dp K H y d ∧
  SeqAt.shaped (.list ds) = true ∧ SeqAt.shaped d = true ∧ Q (.int (ds.countP fun z => PyData.eqv z d : Nat)) H
theorem mt_countD {X : Cx} (hu : X.A.units + 65 < cLine) : MtR X "list.count" (rCntD X.K) := by
  intro pins s σ H x xs v us Q I rx rxs h
  obtain ⟨a, y, d, ds, rfl, rfl, hl, hy, sl, sd, q⟩ := h
  cases rx
  obtain ⟨uy, rfl, ry⟩ := rxs.one
  obtain ⟨bs, rd1⟩ := Dp.reads I d y uy hy ry
  cases hl with
  | lst hs ha =>
    obtain ⟨its, rv, ⟨⟨cls, dd, data, sls⟩, n, ho, hc, hdn, hdt⟩, hlen⟩ := I.list hs
    simp only at hc hdt
    subst hc hdt
    obtain ⟨as, rd2⟩ := Dp.readsAll I ds _ its ha rv
    have cl : PyData.canLayAll0 ds = true := SeqAt.canLay_of_shaped sl
    have hm : its.map (SeqAt.readOf s.heap) = ds := SeqAt.readsAll_map ds its as cl rd2
    have ec : its.toArray.toList.countP (fun u => PyData.eqv (SeqAt.readOf s.heap u) d) = ds.countP fun z => PyData.eqv z d := by
      rw [← hm, List.countP_map]; rfl
    refine call_meets PySem.F.slot_list_count ⟨_, ho, rfl⟩ PySem.F.entry_list_count (PySem.F.args_list_count_2 _ _) (SeqAt.list_countAt a its.toArray n dd sls uy fun u => PyData.eqv (SeqAt.readOf s.heap u) d)
      ⟨ho, SeqAt.items_eqAt (vs := its.toArray) (show ReadsAll s.heap its.toArray.toList ds as from rd2) rd1 cl (SeqAt.canLay_of_shaped sd) (room_in_shaped sd hu), .int _, H, I.tok _, ⟨s.toks, ?_⟩, q⟩
    show Value.int ((its.toArray.toList.countP (fun u => PyData.eqv (SeqAt.readOf s.heap u) d) : Nat) : Int) s.toks = Value.int ((ds.countP fun z => PyData.eqv z d : Nat) : Int) s.toks
    rw [ec]
/-- one argument, data: a method that changes nothing -/
def fMD (g : D → D → Option D) : W → List W → Mem → Rs W
  | w, [w2], m => (match peek m w, peek m w2 with | some x, some y => (match g x y with | some z => .ok (.d z) m | none => .no) | _, _ => .no)
  | _, _, _ => .no
theorem cm_D {X : Cx} {r : V → List V → Hp → VK → Prop} {g : D → D → Option D} (h : ∀ (O : Addr → Prop) (H : Hp) x y v v2 z (Q : VK), RepP X.K O H x v → RepP X.K O H y v2 → g x y = some z → (∀ v', RepD X.K O H z v' → Q v' H) → r v [v2] H Q) : Cm X r (fMD g) := by
  intro E Hd al m H w v ws vs R Q s r1 r2 P k
  match ws, r2 with
  | [w2], r2 =>
    obtain ⟨v2, rfl, h2⟩ := repWs1 r2
    unfold fMD at P
    dsimp only at P
    split at P
    · rename_i x y hx hy
      split at P
      · rename_i z hz
        exact h _ H x y v v2 z Q (peek_ok s r1 hx) (peek_ok s h2 hy) hz fun v' rv' => k _ _ _ _ _ _ (P.ok s) ⟨rfl, rv'⟩
      · exact P.elim
    · exact P.elim
  | [], _ => exact P.elim
  | _ :: _ :: _, _ => exact P.elim
def cntD : D → D → Option D
  | .list ds, d => if SeqAt.shaped (.list ds) && SeqAt.shaped d then some (.int (ds.countP fun z => PyData.eqv z d : Nat)) else none
  | _, _ => none
theorem cm_count {X : Cx} : Cm X (rCntD X.K) (fMD cntD) := cm_D fun O H x y v v2 z Q r1 r2 e k => by
  cases x with
  | list ds =>
    obtain ⟨c, e⟩ := ite_none e
    cases e
    simp only [Bool.and_eq_true] at c
    have dl := r1.dp (noDict_shaped c.1)
    obtain ⟨a, vs, rfl, h1, h2⟩ := r1
    exact ⟨a, v2, y, ds, rfl, rfl, dl, r2.dp (noDict_shaped c.2), c.1, c.2, k _ rfl⟩
  | _ => cases e
/-- the first place of an equal one -/
def firstEq (d : D) : List D → Nat → Option Nat
  | [], _ => none
  | z :: ds, j => if PyData.eqv z d = true then some j else firstEq d ds (j + 1)
theorem firstEq_ok {d : D} : ∀ {ds : List D} {k j : Nat}, firstEq d ds k = some j → k ≤ j ∧ ∃ z, ds[j - k]? = some z ∧ PyData.eqv z d = true ∧ ∀ (m : Nat) z', m < j - k → ds[m]? = some z' → PyData.eqv z' d = false
  | [], _, _, h => by cases h
  | z :: ds, k, j, h => by
    unfold firstEq at h
    split at h
    · rename_i hz
      cases h
      exact ⟨Nat.le_refl _, z, by rw [Nat.sub_self]; rfl, hz, fun m z' hm => absurd hm (by omega)⟩
    · rename_i hz
      obtain ⟨q1, z2, q2, q3, q4⟩ := firstEq_ok h
      have ej : j - k = (j - (k + 1)) + 1 := by omega
      refine ⟨by omega, z2, by rw [ej]; exact q2, q3, fun m z' hm hmz => ?_⟩
      cases m with
      | zero => cases hmz; exact Bool.eq_false_iff.mpr hz
      | succ m => exact q4 m z' (by omega) hmz
def indD : D → D → Option D
  | .list ds, d => if SeqAt.shaped (.list ds) && SeqAt.shaped d then (match firstEq d ds 0 with | some j => some (.int (j : Nat)) | none => none) else none
  | _, _ => none
theorem cm_index {X : Cx} : Cm X (rIndexD X.K) (fMD indD) := cm_D fun O H x y v v2 z Q r1 r2 e k => by
  cases x with
  | list ds =>
    unfold indD at e
    dsimp only at e
    split at e
    · rename_i c
      split at e
      · rename_i j hj
        cases e
        simp only [Bool.and_eq_true] at c
        have dl := r1.dp (noDict_shaped c.1)
        obtain ⟨a, vs, rfl, h1, h2⟩ := r1
        obtain ⟨_, z2, q2, q3, q4⟩ := firstEq_ok hj
        rw [Nat.sub_zero] at q2 q4
        exact ⟨a, v2, y, ds, j, z2, rfl, rfl, dl, r2.dp (noDict_shaped c.2), c.1, c.2, q2, q3, q4, k _ rfl⟩
      · cases e
    · cases e
  | _ => cases e

/-! ### list(range(..)) -/
def tRgM (K : PySem.W.Frag) (mg : Str → Option Value) (E : St → XK) (c : EM (Int × Int)) : St → Hp → (Int → Int → Hp → Prop) → Prop := fun σ H Q => ∃ Hd al rho m, Stt K Hd al none H m ∧ EnvOk K mg (Own Hd al m none) al H rho σ ∧
  Post K mg Hd al m H (E σ) (c rho m) fun b al' p m' H' => p = none → Q b.1 b.2 H'
abbrev DenRg (X : Cx) (E : St → XK) (e : Expr) (c : EM (Int × Int)) : Prop := PRg X e (tRgM X.K X.mg E c)
def mRg1 (a : EM W) : EM (Int × Int) := fun rho m => (a rho m).bindV fun w m1 => match w with | .d (.int i) => .ok (0, i) m1 | _ => .no
def mRg2 (a b : EM W) : EM (Int × Int) := fun rho m => (a rho m).bindV fun w m1 => (b rho m1).bindV fun w2 m2 => match w, w2 with | .d (.int i), .d (.int j) => .ok (i, j) m2 | _, _ => .no
def rgOk (i j : Int) : Bool := decide (-(2 ^ 62) ≤ i ∧ i < 2 ^ 62 ∧ -(2 ^ 62) ≤ j ∧ j < 2 ^ 62 ∧ (j - i).toNat ≤ 2 ^ 20)
def mLstRg (c : EM (Int × Int)) : EM W := fun rho m => (c rho m).bind fun b m1 => if rgOk b.1 b.2 then .ok (.n (.list (rangeD b.1 b.2))) m1 else .no
theorem rep_rg {K : PySem.W.Frag} {O : Addr → Prop} {H : Hp} (i j : Int) : RepDs K O H (rangeD i j) (rgV i j) := by
  unfold rangeD rgV
  have : ∀ (l : List Nat) (f : Nat → Int), RepDs K O H (l.map fun k => .int (f k)) (l.map fun k => V.int (f k)) := by
    intro l f
    induction l with
    | nil => exact rfl
    | cons x l ih => exact ⟨_, _, rfl, rfl, ih⟩
  exact this _ fun k => i + (k : Int)
section
variable {X : Cx} {E : St → XK} {ea eb : Expr} {a b : EM W} {c : EM (Int × Int)} {p pos : Pos}
theorem drg_1 (hg : Gl X "range") (hm : X.mg "range" = none) (ha : Den X E ea a) (na : starEach [ea] X.env = (false, eval ea X.env) :: starEach [] X.env := by rfl) : DenRg X E (.Call (.Name "range" p) [ea] [] pos) (mRg1 a) := fun pins s σ H Q I q => by
  refine prg_1 hg hm ha na pins s σ H Q I ?_
  obtain ⟨Hd, al, rho, m, s, e, P⟩ := q
  refine ⟨Hd, al, rho, m, s, e, (Post.bindV P).imp fun w al1 p1 m1 H1 g s1 k v rv => ?_⟩
  obtain ⟨g1, s1', rv1, P1⟩ := k v rv
  split at P1
  · rename_i i hw
    rw [hw] at rv1
    exact ⟨i, rv1.2, (P1.ok s1') rfl⟩
  · exact P1.elim
theorem drg_2 (hg : Gl X "range") (hm : X.mg "range" = none) (ha : Den X E ea a) (hb : Den X E eb b) (na : starEach [ea, eb] X.env = (false, eval ea X.env) :: starEach [eb] X.env := by rfl)
    (nb : starEach [eb] X.env = (false, eval eb X.env) :: starEach [] X.env := by rfl) (hp : (backTo pos (starEach [eb] X.env)).any (·.1) = false := by rfl) : DenRg X E (.Call (.Name "range" p) [ea, eb] [] pos) (mRg2 a b) := fun pins s σ H Q I q => by
  refine prg_2 hg hm ha hb na nb hp pins s σ H Q I ?_
  obtain ⟨Hd, al, rho, m, s, e, P⟩ := q
  refine ⟨Hd, al, rho, m, s, e, (Post.bindV P).imp fun w al1 p1 m1 H1 g s1 k v rv => ?_⟩
  obtain ⟨g1, s1', rv1, P1⟩ := k v rv
  refine ⟨Hd, al1, rho, m1, s1', e.go g1, (Post.bindV P1).imp fun w2 al2 p2 m2 H2 g2 s2 k2 v2 rw2 => ?_⟩
  obtain ⟨g3, s2', rv2, P2⟩ := k2 v2 rw2
  split at P2
  · rename_i i j hw hw2
    rw [hw] at rv1
    rw [hw2] at rv2
    exact ⟨i, j, rv1.2, rv2.2, (P2.ok s2') rfl⟩
  · exact P2.elim
theorem den_lstRg {p2 : Pos} (hc : X.calm = true) (hg : Gl X "list") (hm : X.mg "list" = none) (he : DenRg X E ea c) (na : starEach [ea] X.env = (false, eval ea X.env) :: starEach [] X.env := by rfl) : Den X E (.Call (.Name "list" p2) [ea] [] pos) (mLstRg c) := PE.imp (pe_listRg hc hg hm he na) fun σ H Q q => by
  obtain ⟨Hd, al, rho, m, s, e, P⟩ := q
  refine ⟨Hd, al, rho, m, s, e, (Post.bind P).imp fun b al1 p1 m1 H1 g s1 k hp => ?_⟩
  subst hp
  have P1 := k rfl
  split at P1
  · rename_i hz
    have hz' := of_decide_eq_true hz
    exact ⟨⟨hz'.1, hz'.2.1, hz'.2.2.1, hz'.2.2.2.1, Nat.le_trans hz'.2.2.2.2 (by decide)⟩, fun q hq => res_list s1 (rep_rg _ _) hq P1 fun w' al' p m' H' v' q' => q' v'⟩
  · exact P1.elim
end

/-! ### o[i] = e, name op= e -/
def putD : D → W → D → Option D
  | .list ds, .d (.int k), x => (match ixN ds.length k with | some j => some (.list (ds.set j x)) | none => none)
  | _, _, _ => none
def gSubM (a b : EM W) : GM := fun w rho m => match a rho m with
  | .ok (.r n) m1 => (match b rho m1 with
    | .ok i m2 => (match frz m2 w with
      | some (x, m3) => (match m3[n]? with
        | some (some o) => (match putD o (val i) x with | some o' => some (rho, m3.set n (some o')) | none => none)
        | _ => none)
      | none => none)
    | _ => none)
  | _ => none
theorem RepDs.put {K : PySem.W.Frag} {O : Addr → Prop} {H : Hp} : ∀ {ds : List D} {vs : List V} (j : Nat) {x : D} {v : V}, RepDs K O H ds vs → RepD K O H x v → RepDs K O H (ds.set j x) (vs.set j v)
  | [], _, _, _, _, h, _ => by rw [show _ = [] from h]; exact rfl
  | y :: ds, _, 0, x, v, ⟨u, r, h1, h2, h3⟩, hx => by subst h1; exact ⟨v, r, rfl, hx, h3⟩
  | y :: ds, _, j + 1, x, v, ⟨u, r, h1, h2, h3⟩, hx => by subst h1; exact ⟨u, _, rfl, h2, RepDs.put j h3 hx⟩
section
variable {X : Cx} {E : St → XK} {ea eb : Expr} {a b : EM W} {p pos : Pos}
theorem dg_sub (ha : Den X E ea a) (hb : Den X E eb b) (hs : ∀ v, assign (.Subscript ea eb pos) X.env v = (do
      let ov ← holding [v] (eval ea X.env); let iv ← holding [v, ov] (eval eb X.env)
      standAt pos; holding [v, ov, iv] (setItem ov iv v); release [v, ov, iv] []) := by intro _; rfl) : DenG X (.Subscript ea eb pos) (gSubM a b) [] := PG.imp (pg_sub ha hb set_list hs) fun v σ H Q q => by
  obtain ⟨Hd, al, rho, m, w, s, e, rv, P⟩ := q
  unfold gSubM at P
  split at P
  · rename_i n m1 ho
    split at P
    · rename_i i m2 hi
      split at P
      · rename_i x m3 hx
        split at P
        · rename_i o hn
          split at P
          · rename_i o' hp
            refine ⟨Hd, al, rho, m, s, e, ?_⟩
            rw [ho]
            intro al1 p1 H1 g1 s1 vo ro
            obtain ⟨e1, aa, ha1, rfl⟩ := ro
            subst e1
            refine ⟨Hd, al1, rho, m1, s1, e.go g1, ?_⟩
            rw [hi]
            intro al2 p2 H2 g2 s2 vi ri
            have g2' := g2.trans Go.settle
            have ri' := val_ok s2 ri
            have s2' := s2.settle
            obtain ⟨s3, g3, rx⟩ := frz_ok s2' ((rv.go g1).go g2') hx
            have ha3 : al2[n]? = some aa := g2'.pre _ _ ha1
            cases o with
            | list ds =>
              cases hvi : val i with
              | d y =>
                rw [hvi] at ri' hp
                cases y with
                | int k =>
                  have ev : vi = .int k := ri'.2
                  subst ev
                  unfold putD at hp
                  dsimp only at hp
                  split at hp
                  · rename_i j hj
                    cases hp
                    obtain ⟨us, h2, h3⟩ := s3.ob n aa _ ha3 hn
                    obtain ⟨g4, s4⟩ := put_list s3 ha3 hn (h3.put j rx)
                    exact ⟨aa, us, k, j, rfl, rfl, h2, by rw [h3.len]; exact hj, P _ _ _ (((g1.trans g2').trans g3).trans g4) s4 ((((e.go g1).go g2').go g3).go g4) Off.refl⟩
                  · cases hp
                | _ => cases hp
              | _ => rw [hvi] at hp; cases hp
            | _ => cases hp
          · exact P.elim
        · exact P.elim
      · exact P.elim
    · exact P.elim
  · exact P.elim
/-- name += e, name -= e -/
def sAugI (i : Nat) (f : Int → Int → Int) (a : EM W) : SM := fun rho m => match rho[i]? with
  | some (some (.d (.int x))) => (a rho m).thenV rho fun w m1 => match w with | .d (.int y) => .nx (rho.set i (some (.d (.int (f x y))))) m1 | _ => .no
  | _ => .no
theorem ds_augI {i : Nat} {x : Str} {e : Expr} {op : Operator} {f : Int → Int → Int} {pos' : Pos} (hN : X.N.Nodup) (ho : PIp X op (ipI f)) (he : Den X E e a) (hi : X.N[i]? = some x := by rfl) (hx : Loc X.env.scope x := by first | exact Or.inl rfl | exact Or.inr rfl)
    (hf : X.fn x = true ∨ X.env.scope.names.lookup x = some .local := by first | exact .inl rfl | exact .inr rfl | assumption) : DenS X E (.AugAssign (.Name x pos') op e pos) (sAugI i f a) := PS.imp (ps_aug hN hi hx he ho hf) fun Dn σ H q => by
  obtain ⟨Hd, al, rho, m, s, e, P⟩ := q
  unfold sAugI at P
  split at P
  · rename_i z hz
    obtain ⟨v, h1, h2⟩ := e.2 i _ hz
    have ev : v = .int z := h2.2
    subst ev
    refine ⟨_, h1, Hd, al, rho, m, s, e, (PostS.ofV e P).imp fun w al1 p1 m1 H1 g s1 k v rv => ?_⟩
    obtain ⟨g1, s1', rv1, P1⟩ := k v rv
    split at P1
    · rename_i y hw
      rw [hw] at rv1
      exact ⟨z, y, rfl, rv1.2, P1 al1 H1 _ Go.refl s1' ((e.go g1).set ⟨rfl, rfl⟩)⟩
    · exact P1.elim
  · exact P.elim
end
end Den
/-! Den11: caught errors and their kinds, a callee picked from a list, ghosts. -/
namespace Den
open PySem PySem.Spec PyProof.Rows L2

/-! ### a def called within an except suite, of the caught error -/
abbrev cxE (P : Program) (w : World) (K : PySem.W.Frag) (mg : Str → Option Value) (base : Heap) (N : List Str) (qual : Str) (scope : Scope) (f : Addr) (cd : Value) (A : Around) (outer : List PySem.Env) (s : Shared) (H : Hp) (p : Addr × Obj) : Cx :=
  (cxOf (L2N.CX P w) P w K mg base N qual scope f cd A outer s H fun _ _ _ => False).suite p.1 [p]
section
variable {P : Program} {w : World} {K : PySem.W.Frag} {mg : Str → Option Value} {base : Heap} {k : Nat} {f : Addr} {x : Str} {st : Stmt} {fd : FuncData} {N ps : List Str}
theorem fn_E (F : Fun K x x st f fd) (S : FnScope N ps (defScope st)) {p : Addr × Obj} {A : Around} {outer : List PySem.Env} {s : Shared} {H : Hp} {args : Args} {us : List Value} {vs : List V} {Q : VK} {E : XK}
    (hr : L2H.RoomH (k + 1) A) (hh : A.handled = some (.ref p.1)) (hpin : L2H.PinOk outer H s p) (e0 : Env0 P w K mg base A outer s H) (hb : BindsTo s fd args (ps.zip us)) (r : Vals vs us) (hl : vs.length = ps.length)
    (hbody : ∀ cdv : Value, L2H.RoomH k (A.deeper (envOfC x (defScope st) s.heap.objs.size f cdv)) → ∃ t, PSs (cxE P w K mg base N x (defScope st) f cdv A outer s H p) (defBody st) t ∧ t { nx := fun _ H' => Q .non H', rt := Q } (L2.start N vs) H) :
    codeAny (model P w) A (.call (.ref f) args) (CR (L2N.CX P w) outer P w H s Q E) s := by
  obtain ⟨oc, od, kV, doc, pm, an, cdv, ct, osl, rfl, lk, hcd⟩ := F.ex
  obtain ⟨t, ht, hq⟩ := hbody cdv (hr.deeper _)
  refine Att.call_fn (e0.mod.kin.keeps fun b o e => (e0.bs b o e).1) (e0.mod.nolimit.keeps fun b o e => (e0.bs b o e).1) lk hcd hr.depth hb ?_ (fun s1 ic => ?_) S.co S.gen S.kind
  · refine List.all_eq_true.mpr fun y hy => ?_
    rcases S.par y.1 (List.of_mem_zip (a := y.1) (b := y.2) hy).1 with q | q
    · rw [q]; rfl
    · rw [q]; rfl
  · have I0 := L2H.inv_startH (CX := L2N.CX P w) (E := fun _ _ _ => False) S hpin e0 hl r ic
    have eA : (A.deeper (envOfC x (defScope st) s.heap.objs.size f cdv)).mark (some (.ref p.1)) = A.deeper (envOfC x (defScope st) s.heap.objs.size f cdv) := by
      unfold Around.mark Around.deeper
      rw [Option.some_or, ← hh]
    have eX : cxE P w K mg base N x (defScope st) f cdv A outer s H p = (L2H.cxH (L2N.CX P w) P w K mg base N x (defScope st) f cdv A outer s H (fun _ _ _ => False) p).wish fun _ _ => False := by
      unfold cxE L2H.cxH Cx.suite Cx.wish
      unfold cxOf
      dsimp only
      rw [eA]
    have I1 : L2.Inv (cxE P w K mg base N x (defScope st) f cdv A outer s H p) [] (L2.start N vs) H s1 := by
      rw [eX]; exact I0.wish _
    have run := ht.run [] s1 _ H _ I1 hq
    rw [show (cxE P w K mg base N x (defScope st) f cdv A outer s H p).A = A.deeper (envOfC x (defScope st) s.heap.objs.size f cdv) from eA] at run
    refine wpAny_mono run (fun fl s' h => ?_) fun e s' z => z.elim
    cases fl with
    | ret u => obtain ⟨v, σ', H', J, rv, q⟩ := h; exact ⟨v, H', J.os, J.bare, J.base, J.hok, rv, q⟩
    | next => obtain ⟨σ', H', J, q⟩ := h; exact ⟨.non, H', J.os, J.bare, J.base, J.hok, rfl, q⟩
    | brk => obtain ⟨_, _, _, q⟩ := h; exact q.elim
    | cont => obtain ⟨_, _, _, q⟩ := h; exact q.elim
end
/-- isinstance(error, C) of the error at a, which slot i holds -/
def mIsE (a : Addr) (i : Nat) (b : Bool) : EM W := fun rho m => match rho[i]? with
  | some (some (.e a')) => if a' = a then .ok (.d (.bool b)) m else .no
  | _ => .no
section
variable {X : Cx} {E : St → XK} {a C D : Addr} {oe : Obj} {pn : List (Addr × Obj)} {b : Bool} {x y : Str} {p q q2 pos : Pos}
theorem den_isE (i : Nat) (EC : ExcC X.K C) (hz : Zc (.ref C) none oe) (hf : ∃ vs, oe.data = .fields vs) (hk : PySem.W.kitOne X.K (.ref C) (.ref D) = some b) (gD : X.mg y = some (.ref D)) (hm : X.mg "isinstance" = none) (hgy : Gl (X.suite a ((a, oe) :: pn)) y) (hg : Gl (X.suite a ((a, oe) :: pn)) "isinstance" := by rfl)
    (hN : X.N[i]? = some x := by rfl) (hv : Vis X.env.scope x := by first | exact Or.inl rfl | exact Or.inr (Or.inl rfl) | exact Or.inr (Or.inr rfl)) (hd : (x == ("__debug__" : Str)) = false := by decide) (hd2 : (y == ("__debug__" : Str)) = false := by decide)
    (hcd : (x == ("__classdict__" : Str)) = false := by decide) (he : starEach [.Name x q, .Name y q2] X.env = (false, eval (.Name x q) X.env) :: starEach [.Name y q2] X.env := by rfl) (he2 : starEach [.Name y q2] X.env = [(false, eval (.Name y q2) X.env)] := by rfl)
    (hpl : (backTo pos (starEach [.Name y q2] X.env)).any (·.1) = false := by rfl) : Den (X.suite a ((a, oe) :: pn)) E (.Call (.Name "isinstance" p) [.Name x q, .Name y q2] [] pos) (mIsE a i b) :=
  PE.imp (pe_callB (call_isE EC hz hf) hg hm boot_isinstance (pa_cons (pe_var hN hv hd hcd) (pa_cons (pe_glob (v := .ref D) hgy gD rfl hd2) pa_nil he2) he) (by decide) (by decide) he hpl) fun σ H Q q => by
    obtain ⟨Hd, al, rho, m, s, e, P⟩ := q
    unfold mIsE at P
    split at P
    · rename_i a' ha
      split at P
      · rename_i ea
        subst ea
        obtain ⟨v, h1, h2⟩ := e.2 i _ ha
        have ev : v = .ref a' := h2.2
        subst ev
        exact ⟨_, h1, .ref D, .ref D, b, rfl, fun u hu => hu, hk, (P.ok s) _ ⟨rfl, rfl⟩⟩
      · exact P.elim
    · exact P.elim
end

/-! ### try: .., except QueueError as error: return _law_kind(error) -/
/-- what the def says of an error of each class: kf -/
structure KindOk (P : Program) (w : World) (K : PySem.W.Frag) (mg : Str → Option Value) (base : Heap) (k : Nat) (x : Str) (kf : Str → Option Str) : Prop where
  ex : ∃ (f : Addr) (fd : FuncData), mg x = some (.ref f) ∧ PySem.W.keepIn K (.ref f) = true ∧ Binds K fd ["error"] [] ∧ ∀ (y z : Str) (C : Addr), kf y = some z → mg y = some (.ref C) →
    ∀ (A : Around) (outer : List PySem.Env) (s : Shared) (H : Hp) (args : Args) (Q : VK) (E : XK) (p : Addr × Obj), L2H.RoomH k A → A.handled = some (.ref p.1) → L2H.PinOk outer H s p → Zc (.ref C) none p.2 → (∃ vs, p.2.data = .fields vs) → Env0 P w K mg base A outer s H →
      BindsTo s fd args ([("error" : Str)].zip [Value.ref p.1]) → (∃ Hd al m, Stt K Hd al none H m ∧ ∀ al' H', Go Hd al m none H al' m none H' → Stt K Hd al' none H' m → Q (.str z) H') → codeAny (model P w) A (.call (.ref f) args) (CR (L2N.CX P w) outer P w H s Q E) s
structure CatchOk (K : PySem.W.Frag) (mg : Str → Option Value) (q : Str) (kf : Str → Option Str) : Prop where
  ex : ∃ B : Addr, mg q = some (.ref B) ∧ ∀ y z, kf y = some z → ∃ C, mg y = some (.ref C) ∧ PySem.W.exmOne K (.ref C) (.ref B) = some true
def sTryK (i : Nat) (cb : SM) (kf : Str → Option Str) : SM := fun rho m => match cb rho m with
  | .ex (.own x) rho' m' => (match kf x with | some y => if i < rho'.length then .rt (.d (.str y)) m' else .no | none => .no)
  | .ex (.low _ _ _) _ _ => .no
  | r => r
section
variable {X : Cx} {E : St → XK} {kf : Str → Option Str} {cb : SM} {body : List Stmt} {x n q0 : Str} {k j : Nat} {p q np pos pos' pos2 pos3 : Pos}
/-- the call in the suite -/
def tKindE (K : PySem.W.Frag) (mg : Str → Option Value) (kf : Str → Option Str) (i : Nat) (a : Addr) (cls : Value) (d : Option Addr) : TE := fun σ H Q => ∃ (y z : Str) (C : Addr), kf y = some z ∧ mg y = some (.ref C) ∧ cls = .ref C ∧ d = none ∧ σ[i]? = some (some (.ref a)) ∧
  ∃ Hd al m, Stt K Hd al none H m ∧ ∀ al' H', Go Hd al m none H al' m none H' → Stt K Hd al' none H' m → Q (.str z) H'
theorem pe_kind {i : Nat} {a : Addr} {oe : Obj} {cls : Value} {d : Option Addr} {pn : List (Addr × Obj)} (KO : KindOk X.prog X.w X.K X.mg X.base k x kf) (hr : Room j X.A) (hz : Zc cls d oe) (hf : ∃ vs, oe.data = .fields vs) (hk : k ≤ j) (hg : Gl X x) (hN : X.N[i]? = some n)
    (hln : X.env.kindOf n = some .local) (hd : (n == ("__debug__" : Str)) = false) (hcd : (n == ("__classdict__" : Str)) = false) (hdb : (x == ("__debug__" : Str)) = false) (he : starEach [.Name n q] X.env = [(false, eval (.Name n q) X.env)]) :
    PE (X.suite a ((a, oe) :: pn)) (.Call (.Name x p) [.Name n q] [] pos) (tKindE X.K X.mg kf i a cls d) := by
  obtain ⟨f, fd, hm, kp, hb, run⟩ := KO.ex
  refine ⟨fun pins s σ H Q I h => wpAny_Call_Name_kw (ld_glob I (show Gl (X.suite a ((a, oe) :: pn)) x from hg) hm ?_ hdb)⟩
  obtain ⟨y, z, C, h1, h2, rfl, rfl, h5, h6⟩ := h
  have ha : PA (X.suite a ((a, oe) :: pn)) [.Name n q] (tCons (tVar i) tNil) := pa_cons (pe_var hN (.inl hln) hd hcd) pa_nil he
  refine PySem.W.callWith_K (h₀ := X.base) I.ok.mod.kin kp (thn (ha.run pos pins s σ H (fun vs H1 => vs = [V.ref a] ∧ H1 = H) I ⟨.ref a, h5, rfl, rfl⟩) fun us s1 hh => ?_) he rfl
  obtain ⟨vs, H1, I1, r, rfl, rfl⟩ := hh
  cases r with
  | cons ru rn =>
    cases rn
    cases ru
    have P1 := I1.pin (a, oe) (List.mem_append_left _ List.mem_cons_self)
    have hpin : L2H.PinOk (X.suite a ((a, oe) :: pn)).stack H1 s1 (a, oe) := ⟨P1.1, P1.2.1, fun hm => (List.mem_cons.mp (I1.stkSub a hm)).elim P1.2.2.1 P1.2.2.2.1, P1.2.2.2.2⟩
    have b := hb s1 [.ref a] I1.kIn rfl
    rw [List.append_nil] at b
    have hrr := hr.mono hk
    refine ⟨I1.kIn, wpAny_call (codeAny_mono (run y z C h1 h2 (X.suite a ((a, oe) :: pn)).A _ s1 H1 _ Q (fun _ _ _ => False) (a, oe) ⟨hrr.dp, hrr.un⟩ rfl hpin hz hf I1.env0 b h6) fun res s' hq => ?_)⟩
    match res, hq with
    | .error e, hq => obtain ⟨_, _, _, _, _, _, _, _, _, _, _, _, ⟨⟩⟩ := hq
    | .ok (.ret u), hq => exact I1.after hq
theorem ds_tryK {i : Nat} (KO : KindOk X.prog X.w X.K X.mg X.base k x kf) (CO : CatchOk X.K X.mg q0 kf) (hr : Room j X.A) (hk : k ≤ j) (hs : X.stack = X.env :: X.outer) (hf : X.env.frame = some X.env.locals) (hN : X.N.Nodup) (tk : L2N.Takes X fun cls d σ H => E σ cls d H)
    (hb : ∀ (E' : St → XK) (pn : List (Addr × Obj)) (xe : Value → Shared → Prop), L2N.Takes (X.tr pn xe) (fun cls d σ H => E' σ cls d H) → PassesOwn (model X.prog X.w) X.A X.env xe → DenSs (X.tr pn xe) E' body cb)
    (hi : X.N[i]? = some n := by rfl) (hln : X.env.kindOf n = some .local := by rfl) (hgq : Gl X q0 := by rfl) (hgx : Gl X x := by rfl) (hdq : (q0 == ("__debug__" : Str)) = false := by decide) (hd : (n == ("__debug__" : Str)) = false := by decide) (hcd : (n == ("__classdict__" : Str)) = false := by decide)
    (hdb : (x == ("__debug__" : Str)) = false := by decide) (he : starEach [.Name n q] X.env = [(false, eval (.Name n q) X.env)] := by rfl) :
    DenS X E (.Try body [.ExceptHandler (some (.Name q0 np)) (some n) [.Return (some (.Call (.Name x p) [.Name n q] [] pos)) pos2] pos'] [] [] pos3) (sTryK i cb kf) := by
  obtain ⟨B, hB, hC⟩ := CO.ex
  refine PS.imp (L2N.ps_try_as hs hf hN hi hln ⟨hgq, hdq, .inl hB⟩ tk (tb := fun W => tS X.K X.mg (fun σ cls d H => W cls d σ H) cb) (ts := fun a cls d => tRet (tKindE X.K X.mg kf i a cls d)) (fun W pn xe t hp => hb _ pn xe t hp)
    (fun a oe cls d pn hz hf => pss_one (ps_ret (pe_kind KO hr hz.zc hf hk hgx hi hln hd hcd hdb he)))) fun Dn σ H q => ?_
  obtain ⟨Hd, al, rho, m, s, e, P⟩ := q
  refine ⟨Hd, al, rho, m, s, e, ?_⟩
  unfold sTryK at P
  cases hc : cb rho m with
  | ex c rho' m' =>
    rw [hc] at P
    cases c with
    | low _ _ _ => exact P.elim
    | own y =>
      dsimp only at P
      split at P
      · rename_i z hkz
        split at P
        · rename_i hl
          intro al' H' σ' cls dd g s' e' xo
          obtain ⟨rfl, C, h1, rfl⟩ := xo
          obtain ⟨C', h1', h2⟩ := hC y z hkz
          have eC : C' = C := by rw [h1] at h1'; cases h1'; rfl
          subst eC
          refine ⟨true, h2, fun _ a na => ?_, fun h => (nomatch h)⟩
          exact ⟨y, z, C', hkz, h1, rfl, rfl, List.getElem?_set_self (by rw [← e'.1]; exact hl), Hd, al', m', s', fun al2 H2 g2 s2 => P al2 none H2 _ (g.trans g2) s2 ⟨rfl, rfl⟩⟩
        · exact P.elim
      · exact P.elim
  | nx r m' => rw [hc] at P; exact P
  | rt w m' => rw [hc] at P; exact P
  | bk r m' => rw [hc] at P; exact P
  | ct r m' => rw [hc] at P; exact P
  | no => rw [hc] at P; exact P
end
end Den
/-! Den12: a callee picked from a list of defs; ghosts; repr, str; isinstance of data. -/
namespace Den
open PySem PySem.Spec PyProof.Rows L2

/-! ### [f, g, ..][i](..) -/
abbrev FnM := Str × Nat × (List W → Mem → Rs W)
def mPick (fs : List FnM) (i : EM W) (c : EM (List W)) : EM W := fun rho m => (i rho m).bindV fun w m1 => match intOf w with
  | some j => if 0 ≤ j then (match fs[j.toNat]? with | some t => (c rho m1).bind fun ws m2 => if ws.length = t.2.1 then t.2.2 ws m2 else .no | none => .no) else .no
  | none => .no
def tK (vs : List V) : TA := fun _ H Q => Q vs H
section
variable {X : Cx} {E : St → XK} {k j : Nat} {ei e : Expr} {es : List Expr} {i : EM W} {c : EM (List W)} {p pos lp sp : Pos}
/-- names of defs, in a row -/
structure DefsAt (X : Cx) (ns : List Expr) (fs : List FnM) : Prop where
  ex : ∃ as : List Addr, PA X ns (tK (as.map V.ref)) ∧ as.length = fs.length ∧ ∀ (j : Nat) (t : FnM) (a : Addr), fs[j]? = some t → as[j]? = some a → X.mg t.1 = some (.ref a)
theorem defs_nil : DefsAt X [] [] := ⟨[], pa_nil, rfl, fun j t a h => by cases h⟩
theorem defs_cons {x : Str} {q : Pos} {ns : List Expr} {fs : List FnM} {n : Nat} {fm : List W → Mem → Rs W} (h : DefsAt X ns fs) (C : ∃ f, X.mg x = some (.ref f)) (hg : Gl X x := by rfl) (hd : (x == ("__debug__" : Str)) = false := by decide)
    (hs : starEach (.Name x q :: ns) X.env = (false, eval (.Name x q) X.env) :: starEach ns X.env := by rfl) : DefsAt X (.Name x q :: ns) ((x, n, fm) :: fs) := by
  obtain ⟨as, h1, h2, h3⟩ := h
  obtain ⟨f, hm⟩ := C
  refine ⟨f :: as, PA.imp (pa_cons (pe_glob (v := .ref f) hg hm rfl hd) h1 hs) fun _ _ _ q => q, by rw [List.length_cons, List.length_cons, h2], fun j t a e1 e2 => ?_⟩
  cases j with
  | zero => cases e1; cases e2; exact hm
  | succ j => exact h3 j t a e1 e2
theorem den_pick {ns : List Expr} {fs : List FnM} (Ds : DefsAt X ns fs) (Cs : ∀ t ∈ fs, CalG X.prog X.w X.K X.mg X.base k t.1 t.2.1 t.2.2) (hz : fs.length ≤ 1000) (hi : Den X E ei i) (hr : Room j X.A) (hgu : X.A.guards = some []) (hx : ∀ σ, PassesAt (L2N.CX X.prog X.w) X σ (E σ)) (ha : DenA X E (e :: es) c)
    (hk : k ≤ j := by decide) (hpi : PlainIx ei := by exact fun _ _ => rfl) (he : starEach (e :: es) X.env = (false, eval e X.env) :: starEach es X.env := by rfl) (hpl : (backTo pos (starEach es X.env)).any (·.1) = false := by rfl) :
    Den X E (.Call (.Subscript (.List ns lp) ei sp) (e :: es) [] pos) (mPick fs i c) := by
  obtain ⟨as, h1, h2, h3⟩ := Ds.ex
  refine ⟨fun pins s σ H Q I q => ?_⟩
  show wpAny _ _ (do callWith pos (← eval (.Subscript (.List ns lp) ei sp) X.env) [] (backTo pos (starEach (e :: es) X.env)) (backToKw pos (keywordEach [] X.env))) _ _ _
  obtain ⟨Hd, al, rho, m, st, en, P⟩ := q
  have callee : PE X (.Subscript (.List ns lp) ei sp) _ := pe_ix ix_list (pe_lst h1) hi hpi
  refine wpAny_bind (thn (callee.run pins s σ H (fun v H1 => ∃ (t : FnM) (f : Addr), t ∈ fs ∧ X.mg t.1 = some (.ref f) ∧ v = .ref f ∧ ∃ Hd al rho m, Stt X.K Hd al none H1 m ∧ EnvOk X.K X.mg (Own Hd al m none) al H1 rho σ ∧
    Post X.K X.mg Hd al m H1 (E σ) ((c rho m).bind fun ws m2 => if ws.length = t.2.1 then t.2.2 ws m2 else .no) fun w al' p m' H' => ∀ v, RepW X.K X.mg (Own Hd al' m' p) p al' H' w v → Q v H') I ?_) fun u s1 hh => ?_)
  · refine ⟨by rw [List.length_map, h2]; have := sizeLine_eq; omega, fun b hb => ?_⟩
    have g0 : Go Hd al m none H al m none (upd H b (.lst (as.map V.ref))) := go_new hb (.inl rfl)
    refine ⟨Hd, al, rho, m, stt_new st hb (.inl rfl), en.go g0, (Post.bindV (Post.go g0 P)).imp fun w al1 p1 m1 H1 g s1 k v rv => ?_⟩
    obtain ⟨g1, s1', rv1, P1⟩ := k v rv
    split at P1
    · rename_i jj hj
      have ev := intOf_ok rv1 hj
      subst ev
      split at P1
      · rename_i h0
        split at P1
        · rename_i t ht
          obtain ⟨hl, _⟩ := List.getElem?_eq_some_iff.mp ht
          have hla : jj.toNat < as.length := by rw [h2]; exact hl
          have ga : as[jj.toNat]? = some as[jj.toNat] := List.getElem?_eq_getElem hla
          have hb1 : H1 b = some (.lst (as.map V.ref)) := g.ext.lst upd_same fun z => by
            obtain ⟨o, ho⟩ := st.own z
            rw [hb] at ho; cases ho
          refine ⟨b, as.map V.ref, jj, .ref as[jj.toNat], rfl, rfl, .inl (.inl hb1), ?_, t, as[jj.toNat], List.mem_of_getElem? ht, h3 _ t _ ht ga, rfl, Hd, al1, rho, m1, s1', (en.go g0).go g1, P1⟩
          unfold atI ixN
          rw [if_pos h0, if_pos (by rw [List.length_map]; omega)]
          show (as.map V.ref)[jj.toNat]? = _
          rw [List.getElem?_map, ga]; rfl
        · exact P1.elim
      · exact P1.elim
    · exact P1.elim
  · obtain ⟨v, H1, I1, r1, t, f, tm, hm, rfl, q1⟩ := hh
    cases r1
    obtain ⟨f', fd, ps, F, hm', kp, hb, hn⟩ := (Cs t tm).ex
    have ef : f' = f := by rw [hm] at hm'; cases hm'; rfl
    subst ef
    refine PySem.W.callWith_K (h₀ := X.base) I.ok.mod.kin kp (thn (ha.run pos pins s1 σ H1 (fun vs H2 => spM X.K X.mg t.2.1 t.2.2 vs H2 Q (E σ)) I1 ?_) fun us s2 hh => ?_) he hpl
    · obtain ⟨Hd, al, rho, m, st, en, P⟩ := q1
      refine ⟨Hd, al, rho, m, st, en, (Post.bind P).imp fun ws al1 p1 m1 H1 g s1 k hp vs rv => ?_⟩
      subst hp
      have P1 := k rfl
      split at P1
      · rename_i hl
        exact ⟨Hd, al1, ws, m1, hl, s1, rv, P1⟩
      · exact P1.elim
    · obtain ⟨vs, H2, I2, r, q2⟩ := hh
      exact ⟨I2.kIn, run_G F (hr.mono hk) hgu hb (hx σ) I2 r q2⟩
end

/-! ### a ghost: the list that slot i holds is written no more -/
def frzW (n : Nat) (x : D) : Option W → Option W
  | some (.r k) => if k = n then some (.d x) else some (.r k)
  | w => w
def sFrz (i : Nat) (c : SM) : SM := fun rho m => match rho[i]? with
  | some (some (.r n)) => (match m[n]? with | some (some x) => c (rho.map (frzW n x)) (m.set n none) | _ => .no)
  | _ => c rho m
section
variable {X : Cx} {E : St → XK} {sts : List Stmt} {c : SM}
theorem tS_frz {i : Nat} {Dn : Ends} {σ : St} {H : Hp} (q : tS X.K X.mg E (sFrz i c) Dn σ H) : tS X.K X.mg E c Dn σ H := by
  obtain ⟨Hd, al, rho, m, s, e, P⟩ := q
  unfold sFrz at P
  split at P
  · rename_i n hi
    split at P
    · rename_i x hx
      obtain ⟨v0, h1, h2⟩ := e.2 i _ hi
      have hf : frz m (.r n) = some (x, m.set n none) := by unfold frz; dsimp only; rw [hx]
      obtain ⟨s1, g1, rx⟩ := frz_ok s h2 hf
      refine ⟨Hd, al, rho.map (frzW n x), m.set n none, s1, ⟨by rw [List.length_map]; exact e.1, fun k w hk => ?_⟩, ?_⟩
      · rw [List.getElem?_map] at hk
        cases hr : rho[k]? with
        | none => rw [hr] at hk; cases hk
        | some ow =>
          rw [hr] at hk
          have hk' : frzW n x ow = some w := Option.some.inj hk
          cases ow with
          | none => exact absurd (show (none : Option W) = some w from hk') (fun z => nomatch z)
          | some w0 =>
            obtain ⟨v, q1, q2⟩ := e.2 k w0 hr
            cases w0 with
            | r k2 =>
              unfold frzW at hk'
              dsimp only at hk'
              split at hk'
              · rename_i ek
                subst ek
                cases hk'
                refine ⟨v, q1, rfl, ?_⟩
                obtain ⟨_, a, ha, rfl⟩ := h2
                obtain ⟨_, a', ha', rfl⟩ := q2
                have ea : a' = a := by rw [ha] at ha'; cases ha'; rfl
                rw [ea]; exact rx
              · cases hk'; exact ⟨v, q1, q2.go g1⟩
            | d y => cases (show some (W.d y) = some w from hk'); exact ⟨v, q1, q2.go g1⟩
            | n y => cases (show some (W.n y) = some w from hk'); exact ⟨v, q1, q2.go g1⟩
            | f y => cases (show some (W.f y) = some w from hk'); exact ⟨v, q1, q2.go g1⟩
            | s y => cases (show some (W.s y) = some w from hk'); exact ⟨v, q1, q2.go g1⟩
            | e y => cases (show some (W.e y) = some w from hk'); exact ⟨v, q1, q2.go g1⟩
      · exact PostS.go g1 P
    · exact P.elim
  · exact ⟨Hd, al, rho, m, s, e, P⟩
theorem dss_frz {i : Nat} (h : DenSs X E sts c) : DenSs X E sts (sFrz i c) := PSs.imp h fun _ _ _ q => tS_frz q
end

/-! ### repr of data -/
def rReprD (K : PySem.W.Frag) : List V → Hp → VK → Prop := fun xs H Q => ∃ (y : V) (d : D), xs = [y] ∧ Dp K H y d ∧ d.showable = true ∧ d.hasDict = false ∧ d.depth ≤ 60 ∧ d.shown.length ≤ sizeLine ∧ Q (.str d.shown) H
theorem cr_repr {X : Cx} (hg : X.A.guards = some []) (hu : X.A.units + 65 < cLine) : CallR X (.builtin "repr") (rReprD X.K) := by
  intro pins s σ H vs us Q I r h
  obtain ⟨y, d, rfl, hd, h1, h2, h3, h4, q⟩ := h
  obtain ⟨u, rfl, ru⟩ := r.one
  obtain ⟨as, rd⟩ := Dp.reads I d y u hd ru
  have big : ∀ a, Reads s.heap (.ref a) d as → wpAny (model X.prog X.w) X.A (call (.builtin "repr") [.ref a]) (EP X pins σ Q) X.xe s := fun a rd => repr_of_reads' rd h1 (fun z => by rw [h2] at z; cases z) hg (by omega) (fun _ _ z => z)
    (fun h' u tk keep => ⟨.str d.shown, H, I.kept (t' := tk) keep, ⟨u, rfl⟩, q⟩) h4
  cases rd with
  | none => exact PySem.P.repr_of_none ⟨.str _, H, I.tok _, ⟨_, rfl⟩, q⟩
  | bool b => exact PySem.P.repr_of_bool ⟨.str _, H, I.tok _, ⟨_, rfl⟩, q⟩
  | int i t => exact PySem.P.repr_of_int (of_decide_eq_true h1) ⟨.str _, H, I.tok _, ⟨_, rfl⟩, q⟩
  | str x t => exact PySem.P.repr_of_str ⟨.str _, H, I.tok _, ⟨_, rfl⟩, q⟩ h4
  | list a b c e => exact big _ (.list a b c e)
  | tuple a b c e => exact big _ (.tuple a b c e)
  | dict _ _ _ _ => exact absurd h2 (by simp [PyData.hasDict])
def reprOk (d : D) : Bool := d.showable && !d.hasDict && decide (d.depth ≤ 60) && small d.shown.length
def reprD (d : D) : Option D := if reprOk d then some (.str d.shown) else none
theorem ca_repr {X : Cx} : Ca X (rReprD X.K) (fD1 reprD) := ca_D1 fun O H x v y Q rv e k => by
  obtain ⟨c, e⟩ := ite_none e
  cases e
  unfold reprOk at c
  simp only [Bool.and_eq_true, Bool.not_eq_true', decide_eq_true_eq] at c
  obtain ⟨⟨⟨c1, c2⟩, c3⟩, c4⟩ := c
  exact ⟨v, x, rfl, rv.dp c2, c1, c2, c3, small_line c4, k _ rfl⟩
end Den
/-! Den13: the law's end. -/
namespace Den
open PySem PySem.Spec PyProof.Rows L2
section
variable {P : Program} {w : World} {K : PySem.W.Frag} {mg mb : Str → Option Value} {k : Nat} {fa a : Addr} {fd : FuncData} {x : Str} {s₁ : Shared} {vs : List Value} {ns : List Int} {fm : List W → Mem → Rs W}
/-- what is tracked at the law's call: the script, where it is no object of the module -/
noncomputable def scrH (K : PySem.W.Frag) (a : Addr) (vs : List Value) (ns : List Int) : Hp := fun b => if b = a ∧ K.lookup a = none then some (.frz { cls := .type "list", data := .seq vs.toArray } (.lst (ns.map V.int))) else none
theorem scrH_some {b : Addr} {u : HO} (h : scrH K a vs ns b = some u) : b = a ∧ K.lookup a = none ∧ u = .frz { cls := .type "list", data := .seq vs.toArray } (.lst (ns.map V.int)) := by
  unfold scrH at h
  by_cases c : b = a ∧ K.lookup a = none
  · rw [if_pos c] at h; cases h; exact ⟨c.1, c.2, rfl⟩
  · rw [if_neg c] at h; cases h
theorem law_G (KX : K.In s₁.heap) (hns : s₁.heap.Ns mainGlobals mg) (hb : s₁.heap.Ns builtinsNs mb) (hbb : ∀ x : Str, x ≠ "__name__" → mb x = bootBuiltins x) (hlim : s₁.heap.NoLimit) (hg : s₁.gens = #[])
    (ha : s₁.heap.get? a = some { cls := .type "list", data := .seq vs.toArray }) (hi : IntsAre vs ns) (hl : ns.length ≤ sizeLine) (hr : Room k callerA) (hgu : callerA.guards = some [])
    (F : ∀ base : Heap, K.In base → base.Ns mainGlobals mg → FnG P w K mg base k fa fd [x] (spM K mg 1 fm)) (hbind : ∀ (s : Shared) (u : Value), BindsTo s fd ⟨[u], []⟩ [(x, u)])
    (law : fm [.s (ns.map .int)] [] = .ok (.d (.bool true)) []) :
    codeAny (model P w) callerA (.call (.ref fa) ⟨[.ref a], []⟩) (fun r s' => r = .ok (.ret (.bool true)) ∧ OldK s₁.heap s'.heap ∧ s'.os = s₁.os ∧ AllBare s'.gens) s₁ := by
  have rv := vals_ints hi
  generalize hHp : scrH K a vs ns = H
  have only : ∀ b u, H b = some u → b = a ∧ K.lookup a = none ∧ u = .frz { cls := .type "list", data := .seq vs.toArray } (.lst (ns.map V.int)) := fun b u h => scrH_some (by rw [hHp]; exact h)
  have dictFree : ∀ {b : Addr} {o : Obj} {es : Array DictEntry} {ep : Nat}, s₁.heap.get? b = some o → o.data = .dict es ep → H b = none := fun {b o es ep} e d => by
    cases q : H b with
    | none => rfl
    | some u =>
      have z := only b u q
      rw [z.1, ha] at e
      cases e
      cases (show Data.seq vs.toArray _ = Data.dict es ep from d)
  have keepNs : ∀ {b : Addr} {m : Str → Option Value}, s₁.heap.Ns b m → (hidT s₁.heap H).Ns b m := fun ⟨o, es, ep, e, d, r⟩ => ⟨o, es, ep, hidT_get e (dictFree e d), d, r⟩
  have keepK : K.In (hidT s₁.heap H) := fun b o e => hidT_get (KX b o e) (by
    cases q : H b with
    | none => rfl
    | some u =>
      have z := only b u q
      rw [z.1, z.2.1] at e
      cases e)
  obtain ⟨mc, c1, c2⟩ := id hlim
  have hok : HOk P w H s₁.heap := fun b u e => by
    obtain ⟨rfl, _, rfl⟩ := only b u e
    exact ⟨ha, by rw [List.length_map]; exact hl, vs, _, rv, ha⟩
  have env : Env0 P w K mg (hidT s₁.heap H) callerA [] s₁ H := ⟨rfl, ⟨keepK, keepNs hns, ⟨mb, keepNs hb, hbb⟩, mc, keepNs c1, c2⟩, fun b o e => of_hidT e, Nat.le_of_eq (hidT_size _ _), trivial, fun b z => absurd (show b ∈ ([] : List Addr) from z) (by simp), hok, .of_eq hg⟩
  have script : SqS K H a (ns.map V.int) := by
    cases q : K.lookup a with
    | none => exact .inl ⟨_, by rw [← hHp]; exact if_pos ⟨rfl, q⟩⟩
    | some o =>
      have e := KX a o q
      rw [ha] at e
      cases e
      exact .inr ⟨_, vs.toArray, _, q, rfl, rfl, rfl, by rw [List.size_toArray, hi.length]; exact hl, by simpa using rv⟩
  have st0 : Stt K (fun _ => False) [] none H [] := ⟨rfl, fun r a o h => by simp at h, fun r r' a h => by simp at h, fun a r h => (nomatch h), fun a h => h.elim⟩
  have sp0 : spM K mg 1 fm [.ref a] H (fun v _ => v = .bl true) fun _ _ _ => False := by
    refine ⟨fun _ => False, [], [.s (ns.map .int)], [], rfl, st0, ⟨_, _, rfl, ⟨rfl, a, _, rfl, script, ints_repDs ns⟩, rfl⟩, ?_⟩
    rw [law]
    exact fun al' p H' g s v r => r.2
  refine codeAny_mono ((F _ keepK (keepNs hns)).run callerA [] s₁ H ⟨[.ref a], []⟩ [.ref a] [.ref a] _ _ hr hgu env (hbind s₁ (.ref a)) (.cons rfl .nil) sp0) fun r s' h => ?_
  match r, h with
  | .error e, h => obtain ⟨_, _, _, _, _, _, _, _, _, _, _, _, ⟨⟩⟩ := h
  | .ok (.ret u), ⟨v, H', os, bare, un, hok', r', q⟩ =>
    cases (show v = .bl true from q)
    cases (show u = Value.bool true from r')
    refine ⟨rfl, OldK.of_keep fun b o e => ?_, os, bare⟩
    cases q : H b with
    | none => exact un.keep b o e q (fun z => absurd (show b ∈ ([] : List Addr) from z) (by simp)) (by simp)
    | some u =>
      obtain ⟨rfl, _, rfl⟩ := only b u q
      obtain ⟨z2, _⟩ := hok' b _ (un.frzs b _ _ q)
      rw [ha] at e
      cases e
      exact z2
theorem walk_G {l : PySem.W.OpenLaw} {n k : Nat} {q : Program} {loose : List Str} {XP : (Str → Option Value) → Heap → Prop} {YP : World → Heap → Prop} {d : DefRec} {K : Params → PySem.W.Frag} {x : Str} {fm : List W → Mem → Rs W}
    (hn : l.most = some n) (hn2 : n ≤ sizeLine) (hdf : d.params.defaults = []) (hr : Room k callerA) (hgu : callerA.guards = some []) (hY : ∀ (w : World) (h : Heap), YP w h → (K w.params).In h)
    (F : ∀ (w : World) (mg : Str → Option Value) (fa : Addr) (h : Heap), (K w.params).In h → h.Ns mainGlobals mg → mg d.name = some (.ref fa) →
      ∃ fd : FuncData, (∀ (s : Shared) (u : Value), BindsTo s fd ⟨[u], []⟩ [(x, u)]) ∧ ∀ base : Heap, (K w.params).In base → base.Ns mainGlobals mg → FnG l.prog w (K w.params) mg base k fa fd [x] (spM (K w.params) mg 1 fm))
    (law : ∀ ns : List Int, ns.length ≤ n → fm [.s (ns.map .int)] [] = .ok (.d (.bool true)) []) : PySem.W.WalkO q loose XP YP l.row.toRowW d [] (fun f vs => PySem.call f vs) := by
  refine Att.attach_call hn hdf fun w s₀ s₁ mg mb fa o pm cd doc a vs ns G Y ho hd hcd hmg hobj hints hlen hg => ?_
  obtain ⟨fd, hb, hF⟩ := F w mg fa _ (hY w _ Y) G.T.g hmg
  exact law_G (hY w _ Y) G.T.g G.T.b G.T.builtins G.T.nolimit hg hobj hints (Nat.le_trans hlen hn2) hr hgu hF hb (law ns hlen)
end
end Den
/-! Den14: what the printed texts lean on. -/
namespace Den
open PySem PySem.Spec PyProof.Rows L2
theorem u65 {A : Around} {k : Nat} (hr : Room k A) : A.units + 65 < cLine := by have := hr.un; omega
theorem u64 {A : Around} {k : Nat} (hr : Room k A) : A.units + 64 < cLine := by have := hr.un; omega
theorem passNo {X : Cx} : ∀ σ : St, PassesAt (L2N.CX X.prog X.w) X σ (E0' σ) := fun _ _ _ _ _ _ _ c => by
  obtain ⟨_, _, _, _, _, _, _, _, _, _, _, _, ⟨⟩⟩ := c
section
variable {X : Cx} {E : St → XK} {x : Str} {pos : Pos}
theorem den_gi {i : Int} (hg : Gl X x) (hm : ∃ t, X.mg x = some (.int i t)) (hd : (x == ("__debug__" : Str)) = false := by decide) : Den X E (.Name x pos) (mC (.int i)) := by
  obtain ⟨t, hm⟩ := hm
  exact den_const (pe_glob (v := .int i) hg hm ⟨t, rfl⟩ hd) fun _ _ _ => rfl
theorem den_gs {y : Str} (hg : Gl X x) (hm : ∃ t, X.mg x = some (.str y t)) (hd : (x == ("__debug__" : Str)) = false := by decide) : Den X E (.Name x pos) (mC (.str y)) := by
  obtain ⟨t, hm⟩ := hm
  exact den_const (pe_glob (v := .str y) hg hm ⟨t, rfl⟩ hd) fun _ _ _ => rfl
end
section
variable {P : Program} {w : World} {K : PySem.W.Frag} {mg : Str → Option Value} {base : Heap} {k j n : Nat} {f : Addr} {x : Str} {st : Stmt} {fd : FuncData} {N ps : List Str} {c : SM} {fm : List W → Mem → Rs W}
theorem def_go (F : Fun K x x st f fd) (S : FnScope N ps (defScope st))
    (hbody : ∀ (cdv : Value) (A : Around) (outer : List PySem.Env) (s : Shared) (H : Hp) (E : XK), Room k (A.deeper (envOfC x (defScope st) s.heap.objs.size f cdv)) → (A.deeper (envOfC x (defScope st) s.heap.objs.size f cdv)).guards = some [] →
      L2N.Takes (cxOf (L2N.CX P w) P w K mg base N x (defScope st) f cdv A outer s H E) (fun cls d σ H => EK E σ cls d H) →
      (∀ σ, PassesAt (L2N.CX P w) (cxOf (L2N.CX P w) P w K mg base N x (defScope st) f cdv A outer s H E) σ (EK E σ)) →
      PassesOwn (model P w) (A.deeper (envOfC x (defScope st) s.heap.objs.size f cdv)) (envOfC x (defScope st) s.heap.objs.size f cdv) (cxOf (L2N.CX P w) P w K mg base N x (defScope st) f cdv A outer s H E).xe →
      DenSs (cxOf (L2N.CX P w) P w K mg base N x (defScope st) f cdv A outer s H E) (EK E) (defBody st) c) : FnG P w K mg base (k + 1) f fd ps (spM K mg ps.length (runF N.length c)) :=
  def_ok F S fun cdv A outer s H E hr hgu =>
    have tk : L2N.Takes (cxOf (L2N.CX P w) P w K mg base N x (defScope st) f cdv A outer s H E) (fun cls d σ H => EK E σ cls d H) := L2N.takes_of rfl rfl rfl rfl
    hbody cdv A outer s H E hr hgu tk (fun σ => L2N.passAt tk σ) (passes_of (X := cxOf (L2N.CX P w) P w K mg base N x (defScope st) f cdv A outer s H E) rfl)
theorem CalG.mono (C : CalG P w K mg base j x n fm) (h : j ≤ k) : CalG P w K mg base k x n fm := by
  obtain ⟨f, fd, ps, F, h1, h2, h3, h4⟩ := C.ex
  exact ⟨f, fd, ps, F.mono h, h1, h2, h3, h4⟩
theorem all_nil : ∀ t ∈ ([] : List FnM), CalG P w K mg base k t.1 t.2.1 t.2.2 := fun t h => nomatch h
theorem all_cons {fs : List FnM} (h : CalG P w K mg base k x n fm) (h2 : ∀ t ∈ fs, CalG P w K mg base k t.1 t.2.1 t.2.2) : ∀ t ∈ (x, n, fm) :: fs, CalG P w K mg base k t.1 t.2.1 t.2.2 := fun t ht => by
  rcases List.mem_cons.mp ht with rfl | ht
  · exact h
  · exact h2 t ht
/-- a def as it is called -/
theorem cal_mk (G : FnG P w K mg base k f fd ps (spM K mg n fm)) (F : Fun K x x st f fd) (hm : mg x = some (.ref f)) (hb : Binds K fd ps []) (hn : ps.length = n) : CalG P w K mg base k x n fm := ⟨f, fd, ps, G, hm, F.kp, hb, hn⟩
end
/-- the kinds of errors that the laws' helper tells -/
def kindTab : Str → Option Str := fun x =>
  if x = "NotChain" then some "!chain" else if x = "NotNet" then some "!net" else if x = "NotTrace" then some "!trace" else if x = "NotPaper" then some "!paper" else
  if x = "BadNumber" then some "!number" else if x = "NoAnswer" then some "!none" else if x = "TooLarge" then some "!large" else none
end Den
/-! Den15: the def that tells a caught error's kind. -/
namespace Den
open PySem PySem.Spec PyProof.Rows L2
theorem uH {A : Around} {k : Nat} (hr : L2H.RoomH k A) : A.units + 65 < cLine := by have := hr.un; omega
theorem uH4 {A : Around} {k : Nat} (hr : L2H.RoomH k A) : A.units + 64 < cLine := by have := hr.un; omega
section
variable {P : Program} {w : World} {K : PySem.W.Frag} {mg : Str → Option Value} {base : Heap} {k : Nat} {f : Addr} {x : Str} {st : Stmt} {fd : FuncData} {N : List Str} {kf : Str → Option Str}
theorem kind_mk (F : Fun K x x st f fd) (S : FnScope N ["error"] (defScope st)) (hb : Binds K fd ["error"] []) (hm : mg x = some (.ref f)) (c : Addr → Str → SM)
    (hbody : ∀ (y z : Str) (C : Addr), kf y = some z → mg y = some (.ref C) → ∀ (cdv : Value) (A : Around) (outer : List PySem.Env) (s : Shared) (H : Hp) (a : Addr) (oe : Obj), L2H.RoomH k (A.deeper (envOfC x (defScope st) s.heap.objs.size f cdv)) → Zc (.ref C) none oe → (∃ vs, oe.data = .fields vs) →
      DenSs (cxE P w K mg base N x (defScope st) f cdv A outer s H (a, oe)) E0' (defBody st) (c a y))
    (hval : ∀ y z : Str, kf y = some z → ∀ (a : Addr) (m : Mem), c a y (startE N.length [.e a]) m = .rt (.d (.str z)) m) : KindOk P w K mg base (k + 1) x kf := by
  refine ⟨f, fd, hm, F.kp, hb, fun y z C h1 h2 A outer s H args Q E p hr hh hpin hz hf e0 hbt q => ?_⟩
  obtain ⟨a, oe⟩ := p
  refine fn_E F S (p := (a, oe)) (vs := [V.ref a]) (us := [Value.ref a]) hr hh hpin e0 hbt (.cons rfl .nil) rfl fun cdv hr2 => ⟨_, hbody y z C h1 h2 cdv A outer s H a oe hr2 hz hf, ?_⟩
  obtain ⟨Hd, al, m, st0, q⟩ := q
  have rv : RepWs K mg (Own Hd al m none) al H [.e a] [.ref a] := ⟨_, _, rfl, ⟨rfl, rfl⟩, rfl⟩
  refine ⟨Hd, al, startE N.length [.e a], m, st0, envOk_start rv, ?_⟩
  rw [hval y z h1]
  intro al' p' H' v g s' rv'
  obtain ⟨rfl, e⟩ := rv'
  have e' : v = .str z := e
  subst e'
  exact q al' H' g s'
end
theorem kindTab_cases {y z : Str} (h : kindTab y = some z) : (y = "NotChain" ∧ z = "!chain") ∨ (y = "NotNet" ∧ z = "!net") ∨ (y = "NotTrace" ∧ z = "!trace") ∨ (y = "NotPaper" ∧ z = "!paper") ∨
    (y = "BadNumber" ∧ z = "!number") ∨ (y = "NoAnswer" ∧ z = "!none") ∨ (y = "TooLarge" ∧ z = "!large") := by
  unfold kindTab at h
  repeat' (split at h)
  · rename_i e; cases h; exact .inl ⟨e, rfl⟩
  · rename_i e; cases h; exact .inr (.inl ⟨e, rfl⟩)
  · rename_i e; cases h; exact .inr (.inr (.inl ⟨e, rfl⟩))
  · rename_i e; cases h; exact .inr (.inr (.inr (.inl ⟨e, rfl⟩)))
  · rename_i e; cases h; exact .inr (.inr (.inr (.inr (.inl ⟨e, rfl⟩))))
  · rename_i e; cases h; exact .inr (.inr (.inr (.inr (.inr (.inl ⟨e, rfl⟩)))))
  · rename_i e; cases h; exact .inr (.inr (.inr (.inr (.inr (.inr ⟨e, rfl⟩)))))
  · cases h
/-- what the written part says of the classes of errors -/
structure KindT (K : PySem.W.Frag) (mg : Str → Option Value) : Prop where
  cls : ∀ y z : Str, kindTab y = some z → ∃ C, mg y = some (.ref C) ∧ ExcC K C ∧ ∀ y2 z2 : Str, kindTab y2 = some z2 → ∃ D, mg y2 = some (.ref D) ∧ PySem.W.kitOne K (.ref C) (.ref D) = some (decide (y2 = y))
end Den
/-! Den16: the mirrors evaluated (simp), comprehensions and loops by invariants. -/
namespace Den
open PySem PySem.Spec PyProof.Rows L2
section
variable {β γ : Type} {b : β} {m m1 : Mem} {w w2 : W} {c : Exc} {rho : Env}
@[simp] theorem ev_bind {k : β → Mem → Rs γ} : (Rs.ok b m).bind k = k b m := rfl
@[simp] theorem ev_bindX {k : β → Mem → Rs γ} : (Rs.ex c m : Rs β).bind k = .ex c m := rfl
@[simp] theorem ev_bindN {k : β → Mem → Rs γ} : (Rs.no : Rs β).bind k = .no := rfl
@[simp] theorem ev_bindV {k : W → Mem → Rs γ} : (Rs.ok w m).bindV k = k (val w) m := rfl
@[simp] theorem ev_bindVX {k : W → Mem → Rs γ} : (Rs.ex c m : Rs W).bindV k = .ex c m := rfl
@[simp] theorem ev_thenS {k : β → Mem → Out} : (Rs.ok b m).thenS rho k = k b m := rfl
@[simp] theorem ev_thenSX {k : β → Mem → Out} : (Rs.ex c m : Rs β).thenS rho k = .ex c rho m := rfl
@[simp] theorem ev_thenV {k : W → Mem → Out} : (Rs.ok w m).thenV rho k = k (val w) m := rfl
@[simp] theorem ev_thenVX {k : W → Mem → Out} : (Rs.ex c m : Rs W).thenV rho k = .ex c rho m := rfl
@[simp] theorem val_d {x : D} : val (.d x) = .d x := rfl
@[simp] theorem val_n {x : D} : val (.n x) = .d x := rfl
@[simp] theorem val_r {n : Nat} : val (.r n) = .r n := rfl
@[simp] theorem val_s {xs : List D} : val (.s xs) = .s xs := rfl
@[simp] theorem val_f {x : Str} : val (.f x) = .f x := rfl
@[simp] theorem peek_d {x : D} : peek m (.d x) = some x := rfl
@[simp] theorem peek_n {x : D} : peek m (.n x) = some x := rfl
@[simp] theorem peek_r {n : Nat} : peek m (.r n) = (m[n]?).join := rfl
@[simp] theorem frz_d {x : D} : frz m (.d x) = some (x, m) := rfl
@[simp] theorem frz_n {x : D} : frz m (.n x) = some (x, m) := rfl
@[simp] theorem frzAll_nil : frzAll [] m = some ([], m) := rfl
@[simp] theorem frzAll_d {x : D} {ws : List W} : frzAll (.d x :: ws) m = match frzAll ws m with | some (xs, m2) => some (x :: xs, m2) | none => none := rfl
@[simp] theorem frzAll_n {x : D} {ws : List W} : frzAll (.n x :: ws) m = match frzAll ws m with | some (xs, m2) => some (x :: xs, m2) | none => none := rfl
end
section
variable {rho : Env} {m : Mem} {a b c : EM W} {r : EM (List W)} {t u : EM Bool} {s d : SM} {i n : Nat}
@[simp] theorem e_C {x : D} : mC x rho m = .ok (.d x) m := rfl
@[simp] theorem e_Var : mVar i rho m = match rho[i]? with | some (some w) => .ok w m | _ => .no := rfl
@[simp] theorem e_F {x : Str} : mF x rho m = .ok (.f x) m := rfl
@[simp] theorem e_Nil : mNil rho m = .ok [] m := rfl
@[simp] theorem e_Cons : mCons a r rho m = (a rho m).bindV fun x m1 => (r rho m1).bind fun xs m2 => .ok (x :: xs) m2 := rfl
@[simp] theorem e_Op1 {f : W → Mem → Rs W} : mOp1 a f rho m = (a rho m).bindV f := rfl
@[simp] theorem e_Op2 {f : W → W → Mem → Rs W} : mOp2 a b f rho m = (a rho m).bindV fun x m1 => (b rho m1).bindV fun y m2 => f x y m2 := rfl
@[simp] theorem e_Tup : mTup r rho m = (r rho m).bind fun ws m1 => match frzAll ws m1 with | some (xs, m2) => if small xs.length then .ok (.d (.tuple xs)) m2 else .no | none => .no := rfl
@[simp] theorem e_Lst : mLst r rho m = (r rho m).bind fun ws m1 => match frzAll ws m1 with | some (xs, m2) => if small xs.length then .ok (.n (.list xs)) m2 else .no | none => .no := rfl
@[simp] theorem e_Tru : mTru a rho m = (a rho m).bindV truW := rfl
@[simp] theorem e_Bool : mBool a rho m = (a rho m).bindV fun w m1 => match w with | .d (.bool b) => .ok b m1 | _ => .no := rfl
@[simp] theorem e_AndT : mAndT t u rho m = (t rho m).bind fun b m1 => if b = true then u rho m1 else .ok false m1 := rfl
@[simp] theorem e_OrT : mOrT t u rho m = (t rho m).bind fun b m1 => if b = true then .ok true m1 else u rho m1 := rfl
@[simp] theorem e_NotT : mNotT t rho m = (t rho m).bind fun b m1 => .ok (!b) m1 := rfl
@[simp] theorem e_AndV : mAndV a b rho m = (a rho m).bindV fun w m1 => (truW w m1).bind fun k m2 => if k = true then b rho m2 else .ok w m2 := rfl
@[simp] theorem e_OrV : mOrV a b rho m = (a rho m).bindV fun w m1 => (truW w m1).bind fun k m2 => if k = true then .ok w m2 else b rho m2 := rfl
@[simp] theorem e_NotV : mNotV a rho m = (a rho m).bindV fun w m1 => (truW w m1).bind fun k m2 => .ok (.d (.bool (!k))) m2 := rfl
@[simp] theorem e_If : mIf t a b rho m = (t rho m).bind fun k m1 => if k = true then a rho m1 else b rho m1 := rfl
@[simp] theorem e_Add : mAdd a b rho m = (a rho m).bindV fun x m1 => (b rho m1).bindV fun y m2 => lift2 addD x y m2 := rfl
@[simp] theorem e_Sub : mSub a b rho m = (a rho m).bindV fun x m1 => (b rho m1).bindV fun y m2 => lift2 (onI fun i j => some (.int (i - j))) x y m2 := rfl
@[simp] theorem e_Mul : mMul a b rho m = (a rho m).bindV fun x m1 => (b rho m1).bindV fun y m2 => lift2 mulD x y m2 := rfl
@[simp] theorem e_Fdiv : mFdiv a b rho m = (a rho m).bindV fun x m1 => (b rho m1).bindV fun y m2 => lift2 (onI fdivD) x y m2 := rfl
@[simp] theorem e_Mod : mMod a b rho m = (a rho m).bindV fun x m1 => (b rho m1).bindV fun y m2 => lift2 (onI modD) x y m2 := rfl
@[simp] theorem e_Neg : mNeg a rho m = (a rho m).bindV (lift1 negD) := rfl
@[simp] theorem e_Ix : mIx a b rho m = (a rho m).bindV fun x m1 => (b rho m1).bindV fun y m2 => fIx x y m2 := rfl
@[simp] theorem e_B {f : List W → Mem → Rs W} : mB r f rho m = (r rho m).bind f := rfl
@[simp] theorem e_Call {fm : List W → Mem → Rs W} : mCall n fm r rho m = (r rho m).bind fun ws m1 => if ws.length = n then fm ws m1 else .no := rfl
@[simp] theorem e_M {T : Kd} {f : W → List W → Mem → Rs W} : mM T a r f rho m = (a rho m).bindV fun w m1 => match peek m1 w with | some x => if T.ok x then (r rho m1).bind fun ws m2 => f w ws m2 else .no | none => .no := rfl
@[simp] theorem e_oN : oNone rho m = .ok none m := rfl
@[simp] theorem e_oS : oSome a rho m = (a rho m).bindV fun w m1 => match w with | .d (.int i) => .ok (some i) m1 | _ => .no := rfl
@[simp] theorem e_Sl {l h : EM (Option Int)} : mSl a l h rho m = (a rho m).bindV fun w m1 => (l rho m1).bind fun l m2 => (h rho m2).bind fun h m3 => fSl w l h m3 := rfl
@[simp] theorem e_Chain {f g : W → W → Mem → Rs W} : mChain f g a b c rho m = (a rho m).bindV fun x m1 => (b rho m1).bindV fun y m2 => (f x y m2).bindV fun r m3 =>
  match r with | .d (.bool true) => (c rho m3).bindV fun z m4 => g y z m4 | .d (.bool false) => .ok (.d (.bool false)) m3 | _ => .no := rfl
@[simp] theorem e_Rg1 : mRg1 a rho m = (a rho m).bindV fun w m1 => match w with | .d (.int i) => .ok ((0 : Int), i) m1 | _ => .no := rfl
@[simp] theorem e_Rg2 : mRg2 a b rho m = (a rho m).bindV fun w m1 => (b rho m1).bindV fun w2 m2 => match w, w2 with | .d (.int i), .d (.int j) => .ok (i, j) m2 | _, _ => .no := rfl
@[simp] theorem e_LstRg {q : EM (Int × Int)} : mLstRg q rho m = (q rho m).bind fun b m1 => if rgOk b.1 b.2 then .ok (.n (.list (rangeD b.1 b.2))) m1 else .no := rfl
@[simp] theorem e_tYes : tYesT rho m = .ok true m := rfl
-- statements
@[simp] theorem e_Seq : sSeq s d rho m = match s rho m with | .nx rho' m' => d rho' m' | o => o := rfl
@[simp] theorem e_Skip : sSkip rho m = .nx rho m := rfl
@[simp] theorem e_Set : sSet i a rho m = (a rho m).thenV rho fun w m1 => .nx (rho.set i (some w)) m1 := rfl
@[simp] theorem e_SetR : sSetR i a rho m = (a rho m).thenS rho fun w m1 => match w with | .n x => .nx (rho.set i (some (.r m1.length))) (m1 ++ [some x]) | _ => .no := rfl
@[simp] theorem e_Drop : sDrop a rho m = (a rho m).thenV rho fun _ m1 => .nx rho m1 := rfl
@[simp] theorem e_Ret : sRet a rho m = (a rho m).thenS rho fun w m1 => .rt w m1 := rfl
@[simp] theorem e_IfS : sIf t s d rho m = (t rho m).thenS rho fun b m1 => if b = true then s rho m1 else d rho m1 := rfl
@[simp] theorem e_Raise {x : Str} : sRaise x rho m = .ex (.own x) rho m := rfl
@[simp] theorem e_Break : sBreak rho m = .bk rho m := rfl
@[simp] theorem e_Cont : sCont rho m = .ct rho m := rfl
@[simp] theorem e_For {it : EM (List D)} {g : GM} : sFor it g s rho m = (it rho m).thenS rho fun items m1 => forL g s items rho m1 := rfl
@[simp] theorem e_gN {w : W} : gN i w rho m = some (rho.set i (some w), m) := rfl
@[simp] theorem e_Items : mItems a rho m = (a rho m).bindV fun w m1 => match w with | .d x => (match seqOf x with | some ds => .ok ds m1 | none => .no) | .s ds => .ok ds m1 | _ => .no := rfl
@[simp] theorem seqOf_t {ds : List D} : seqOf (.tuple ds) = some ds := rfl
@[simp] theorem seqOf_l {ds : List D} : seqOf (.list ds) = some ds := rfl
end
section
variable {m : Mem} {w w2 : W} {x y : D} {i j : Int} {ds es : List D} {z : Str}
@[simp] theorem f_lift2 {g : D → D → Option W} : lift2 g w w2 m = match peek m w, peek m w2 with | some a, some b => (match g a b with | some w => .ok w m | none => .no) | _, _ => .no := rfl
@[simp] theorem f_D1 {g : D → Option D} : fD1 g [w] m = match peek m w with | some x => (match g x with | some y => .ok (.d y) m | none => .no) | none => .no := rfl
@[simp] theorem f_D2 {g : D → D → Option D} : fD2 g [w, w2] m = match peek m w, peek m w2 with | some x, some y => (match g x y with | some z => .ok (.d z) m | none => .no) | _, _ => .no := rfl
@[simp] theorem f_N1 {g : D → Option (List D)} : fN1 g [w] m = match peek m w with | some x => (match g x with | some ys => .ok (.n (.list ys)) m | none => .no) | none => .no := rfl
@[simp] theorem f_Tup : fTup [w] m = match peek m w with | some (.list ds) => .ok (.d (.tuple ds)) m | some (.tuple ds) => .ok (.d (.tuple ds)) m | _ => .no := rfl
@[simp] theorem f_MD {g : D → D → Option D} : fMD g w [w2] m = match peek m w, peek m w2 with | some x, some y => (match g x y with | some z => .ok (.d z) m | none => .no) | _, _ => .no := rfl
@[simp] theorem f_Ix : fIx w w2 m = match peek m w, peek m w2 with | some x, some y => (match ixD x y with | some z => .ok (.d z) m | none => .no) | _, _ => .no := rfl
@[simp] theorem f_Sl {lo hi : Option Int} : fSl w lo hi m = match peek m w with
  | some (.list ds) => .ok (.n (.list (cutD ds lo hi))) m | some (.tuple ds) => .ok (.d (.tuple (cutD ds lo hi))) m | some (.str z) => if small z.length then .ok (.d (.str ⟨(cutD z.cps.toList lo hi).toArray⟩)) m else .no | _ => .no := rfl
@[simp] theorem f_pop {n : Nat} : fPop (.r n) [] m = match m[n]? with | some (some (.list ds)) => (match ds[ds.length - 1]? with | some x => .ok (.d x) (m.set n (some (.list ds.dropLast))) | none => .no) | _ => .no := rfl
@[simp] theorem f_rev {n : Nat} : fReverse (.r n) [] m = match m[n]? with | some (some (.list ds)) => .ok (.d .none) (m.set n (some (.list ds.reverse))) | _ => .no := rfl
@[simp] theorem f_app {n : Nat} : fAppend (.r n) [.d x] m = match m[n]? with | some (some (.list ds)) => if small (ds.length + 1) then .ok (.d .none) (m.set n (some (.list (ds ++ [x])))) else .no | _ => .no := rfl
@[simp] theorem f_ext {n : Nat} : fExtend (.r n) [.d (.list es)] m = match m[n]? with | some (some (.list ds)) => if small (ds.length + es.length) then .ok (.d .none) (m.set n (some (.list (ds ++ es)))) else .no | _ => .no := rfl
@[simp] theorem on_ii {f : Int → Int → Option D} : onI f (.int i) (.int j) = (f i j).map W.d := rfl
@[simp] theorem add_i : addD (.int i) (.int j) = some (.d (.int (i + j))) := rfl
@[simp] theorem add_l : addD (.list ds) (.list es) = if small (ds.length + es.length) then some (.n (.list (ds ++ es))) else none := rfl
@[simp] theorem add_t : addD (.tuple ds) (.tuple es) = if small (ds.length + es.length) then some (.d (.tuple (ds ++ es))) else none := rfl
@[simp] theorem neg_i : lift1 negD (.d (.int i)) m = .ok (.d (.int (-i))) m := rfl
@[simp] theorem lt_i : ltD (.int i) (.int j) = some (.d (.bool (decide (i < j)))) := rfl
@[simp] theorem le_i : leD (.int i) (.int j) = some (.d (.bool (decide (i ≤ j)))) := rfl
@[simp] theorem gt_i : gtD (.int i) (.int j) = some (.d (.bool (decide (j < i)))) := rfl
@[simp] theorem ge_i : geD (.int i) (.int j) = some (.d (.bool (decide (j ≤ i)))) := rfl
@[simp] theorem len_l : lenD (.list ds) = some (.int (ds.length : Nat)) := rfl
@[simp] theorem len_t : lenD (.tuple ds) = some (.int (ds.length : Nat)) := rfl
@[simp] theorem abs_i : absD (.int i) = some (.int (if i < 0 then -i else i)) := rfl
@[simp] theorem int_i : intD (.int i) = some (.int i) := rfl
@[simp] theorem int_b {b : Bool} : intD (.bool b) = some (.int (if b then 1 else 0)) := rfl
@[simp] theorem max_i : maxD (.int i) (.int j) = some (.int (if j > i then j else i)) := rfl
@[simp] theorem min_i : minD (.int i) (.int j) = some (.int (if j < i then j else i)) := rfl
@[simp] theorem list_l : listD (.list ds) = some ds := rfl
@[simp] theorem list_t : listD (.tuple ds) = some ds := rfl
@[simp] theorem ix_l : ixD (.list ds) (.int i) = atI ds i := rfl
@[simp] theorem ix_t : ixD (.tuple ds) (.int i) = atI ds i := rfl
@[simp] theorem tru_d : truW (.d x) m = match truD x with | some b => .ok b m | none => .no := rfl
@[simp] theorem tru_b {b : Bool} : truD (.bool b) = some b := rfl
@[simp] theorem tru_l : truD (.list ds) = some (!ds.isEmpty) := rfl
@[simp] theorem tru_t : truD (.tuple ds) = some (!ds.isEmpty) := rfl
@[simp] theorem tru_i : truD (.int i) = some (i != 0) := rfl
@[simp] theorem tru_r {n : Nat} : truW (.r n) m = match (m[n]?).join with | some x => (match truD x with | some b => .ok b m | none => .no) | none => .no := rfl
@[simp] theorem kd_l : Kd.ok .lst (.list ds) = true := rfl
@[simp] theorem kd_s : Kd.ok .str (.str z) = true := rfl
theorem small_le {n : Nat} (h : n ≤ 1000000) : small n = true := decide_eq_true h
theorem sum_ints (ns : List Int) : sumD (.list (ns.map .int)) = some (.int ns.sum) := by unfold sumD; dsimp only; rw [intsOf_map]
theorem all_bools (bs : List Bool) : allD (.list (bs.map .bool)) = some (.bool (bs.all id)) := by unfold allD; dsimp only; rw [boolsOf_map]
theorem any_bools (bs : List Bool) : anyD (.list (bs.map .bool)) = some (.bool (bs.any id)) := by unfold anyD; dsimp only; rw [boolsOf_map]
end
/-! ### comprehensions, loops -/
theorem compL_inv {vs : List Nat} {g : GM} {t : EM Bool} {a : EM W} {rho : Env} (I : Nat → Mem → List D → Prop) : ∀ (items : List D) (k : Nat) (m : Mem) (acc : List D), I k m acc →
    (∀ (i : Nat) (h : i < items.length) m1 acc, I (k + i) m1 acc → ∃ r1 b m2, g (.d items[i]) (wipeE rho vs) m1 = some (r1, m1) ∧ t r1 m1 = .ok b m2 ∧ (b = false → I (k + i + 1) m2 acc) ∧
      (b = true → ∃ w m3 y m4, a r1 m2 = .ok w m3 ∧ frz m3 (val w) = some (y, m4) ∧ I (k + i + 1) m4 (acc ++ [y]))) → ∃ acc' m', compL vs g t a items acc rho m = .ok acc' m' ∧ I (k + items.length) m' acc'
  | [], k, m, acc, h0, _ => ⟨acc, m, rfl, h0⟩
  | x :: items, k, m, acc, h0, H => by
    obtain ⟨r1, b, m2, h1, h2, h3, h4⟩ := H 0 (by simp) m acc h0
    have e : k + (x :: items).length = k + 1 + items.length := by rw [List.length_cons]; omega
    rw [e]
    have H' : ∀ (i : Nat) (h : i < items.length) m1 acc, I (k + 1 + i) m1 acc → ∃ r1 b m2, g (.d items[i]) (wipeE rho vs) m1 = some (r1, m1) ∧ t r1 m1 = .ok b m2 ∧ (b = false → I (k + 1 + i + 1) m2 acc) ∧
        (b = true → ∃ w m3 y m4, a r1 m2 = .ok w m3 ∧ frz m3 (val w) = some (y, m4) ∧ I (k + 1 + i + 1) m4 (acc ++ [y])) := fun i h m1 acc hI => by
      have := H (i + 1) (by simp; omega) m1 acc (by rw [show k + (i + 1) = k + 1 + i by omega]; exact hI)
      rw [show k + (i + 1) = k + 1 + i by omega] at this
      exact this
    unfold compL
    dsimp only [List.getElem_cons_zero] at h1
    rw [h1]
    dsimp only
    rw [h2]
    cases b with
    | false =>
      rw [ev_bind, if_neg Bool.false_ne_true]
      exact compL_inv I items (k + 1) m2 acc (h3 rfl) H'
    | true =>
      obtain ⟨w, m3, y, m4, q1, q2, q3⟩ := h4 rfl
      rw [ev_bind, if_pos rfl, q1, ev_bindV, q2]
      exact compL_inv I items (k + 1) m4 (acc ++ [y]) q3 H'
theorem mLC_inv {it : EM (List D)} {vs : List Nat} {g : GM} {t : EM Bool} {a : EM W} {rho : Env} {m m0 : Mem} {items : List D} (I : Nat → Mem → List D → Prop) (hit : it rho m = .ok items m0) (hs : items.length ≤ 1000000) (h0 : I 0 m0 [])
    (H : ∀ (i : Nat) (h : i < items.length) m1 acc, I i m1 acc → ∃ r1 b m2, g (.d items[i]) (wipeE rho vs) m1 = some (r1, m1) ∧ t r1 m1 = .ok b m2 ∧ (b = false → I (i + 1) m2 acc) ∧
      (b = true → ∃ w m3 y m4, a r1 m2 = .ok w m3 ∧ frz m3 (val w) = some (y, m4) ∧ I (i + 1) m4 (acc ++ [y]))) : ∃ acc m', mLC it vs g t a rho m = .ok (.n (.list acc)) m' ∧ I items.length m' acc := by
  unfold mLC mComp
  rw [hit, ev_bind, if_pos (small_le hs)]
  obtain ⟨acc, m', h1, h2⟩ := compL_inv (vs := vs) (g := g) (t := fun r m => calmR (t r m)) (a := fun r m => calmR (a r m)) (rho := rho) I items 0 m0 [] h0 fun i h m1 acc hI => by
    rw [Nat.zero_add] at hI ⊢
    obtain ⟨r1, b, m2, q1, q2, q3, q4⟩ := H i h m1 acc hI
    refine ⟨r1, b, m2, q1, by rw [q2]; rfl, q3, fun hb => ?_⟩
    obtain ⟨w, m3, y, m4, z1, z2, z3⟩ := q4 hb
    exact ⟨w, m3, y, m4, by rw [z1]; rfl, z2, z3⟩
  rw [Nat.zero_add] at h2
  exact ⟨acc, m', by rw [h1]; rfl, h2⟩
/-- nothing is changed: a filter and a map -/
theorem mLC_map {it : EM (List D)} {vs : List Nat} {g : GM} {t : EM Bool} {a : EM W} {rho : Env} {m m0 : Mem} {items : List D} (p : D → Bool) (f : D → D) (hit : it rho m = .ok items m0) (hs : items.length ≤ 1000000)
    (H : ∀ x ∈ items, ∃ r1, g (.d x) (wipeE rho vs) m0 = some (r1, m0) ∧ t r1 m0 = .ok (p x) m0 ∧ (p x = true → ∃ w, a r1 m0 = .ok w m0 ∧ frz m0 (val w) = some (f x, m0))) : mLC it vs g t a rho m = .ok (.n (.list ((items.filter p).map f))) m0 := by
  obtain ⟨acc, m', h1, rfl, rfl⟩ := mLC_inv (vs := vs) (g := g) (t := t) (a := a) (fun i m1 acc => m1 = m0 ∧ acc = ((items.take i).filter p).map f) hit hs ⟨rfl, rfl⟩ fun i h m1 acc hI => by
    obtain ⟨rfl, rfl⟩ := hI
    obtain ⟨r1, q1, q2, q3⟩ := H items[i] (List.getElem_mem h)
    refine ⟨r1, p items[i], m1, q1, q2, fun hp => ⟨rfl, ?_⟩, fun hp => ?_⟩
    · rw [List.take_succ_eq_append_getElem h, List.filter_append, List.filter_cons_of_neg (by rw [hp]; simp)]; simp
    · obtain ⟨w, z1, z2⟩ := q3 hp
      refine ⟨w, m1, f items[i], m1, z1, z2, rfl, ?_⟩
      rw [List.take_succ_eq_append_getElem h, List.filter_append, List.filter_cons_of_pos hp]; simp
  rw [h1, List.take_length]
theorem forL_inv {g : GM} {c : SM} (I : Nat → Env → Mem → Prop) (J : Env → Mem → Prop) : ∀ (items : List D) (k : Nat) (rho : Env) (m : Mem), I k rho m →
    (∀ (i : Nat) (h : i < items.length) rho m, I (k + i) rho m → ∃ r1 m1, g (.d items[i]) rho m = some (r1, m1) ∧ ((∃ r m', c r1 m1 = .nx r m' ∧ I (k + i + 1) r m') ∨ (∃ r m', c r1 m1 = .ct r m' ∧ I (k + i + 1) r m') ∨ ∃ r m', c r1 m1 = .bk r m' ∧ J r m')) →
    ∃ r m', forL g c items rho m = .nx r m' ∧ (I (k + items.length) r m' ∨ J r m')
  | [], k, rho, m, h0, _ => ⟨rho, m, rfl, .inl h0⟩
  | x :: items, k, rho, m, h0, H => by
    obtain ⟨r1, m1, h1, h2⟩ := H 0 (by simp) rho m h0
    have e : k + (x :: items).length = k + 1 + items.length := by rw [List.length_cons]; omega
    rw [e]
    have H' : ∀ (i : Nat) (h : i < items.length) rho m, I (k + 1 + i) rho m → ∃ r1 m1, g (.d items[i]) rho m = some (r1, m1) ∧ ((∃ r m', c r1 m1 = .nx r m' ∧ I (k + 1 + i + 1) r m') ∨ (∃ r m', c r1 m1 = .ct r m' ∧ I (k + 1 + i + 1) r m') ∨ ∃ r m', c r1 m1 = .bk r m' ∧ J r m') := fun i h rho m hI => by
      have := H (i + 1) (by simp; omega) rho m (by rw [show k + (i + 1) = k + 1 + i by omega]; exact hI)
      rw [show k + (i + 1) = k + 1 + i by omega] at this
      exact this
    unfold forL
    dsimp only [List.getElem_cons_zero] at h1
    rw [h1]
    dsimp only
    rcases h2 with ⟨r, m', q1, q2⟩ | ⟨r, m', q1, q2⟩ | ⟨r, m', q1, q2⟩
    · rw [q1]; exact forL_inv I J items (k + 1) r m' q2 H'
    · rw [q1]; exact forL_inv I J items (k + 1) r m' q2 H'
    · rw [q1]; exact ⟨r, m', rfl, .inr q2⟩
theorem for_inv {g : GM} {c : SM} {rho : Env} {m : Mem} (items : List D) (I : Nat → Env → Mem → Prop) (h0 : I 0 rho m)
    (H : ∀ (i : Nat) (h : i < items.length) rho m, I i rho m → ∃ r1 m1, g (.d items[i]) rho m = some (r1, m1) ∧ ∃ r m', c r1 m1 = .nx r m' ∧ I (i + 1) r m') : ∃ r m', forL g c items rho m = .nx r m' ∧ I items.length r m' := by
  obtain ⟨r, m', h1, h2⟩ := forL_inv (g := g) (c := c) I (fun _ _ => False) items 0 rho m h0 fun i h rho m hI => by
    rw [Nat.zero_add] at hI ⊢
    obtain ⟨r1, m1, q1, q2⟩ := H i h rho m hI
    exact ⟨r1, m1, q1, .inl q2⟩
  rw [Nat.zero_add] at h2
  exact ⟨r, m', h1, h2.resolve_right id⟩
end Den
/-! Den17: arithmetic and comparisons of the mirrors at ints. -/
namespace Den
open PySem PySem.Spec PyProof.Rows L2
@[simp] theorem shaped_i {i : Int} : SeqAt.shaped (.int i) = true := by unfold SeqAt.shaped; simp [PyData.canLay0, PyData.depth]
@[simp] theorem shaped_b {b : Bool} : SeqAt.shaped (.bool b) = true := by unfold SeqAt.shaped; simp [PyData.canLay0, PyData.depth]
@[simp] theorem eq_s {x y : Str} : eqD (.str x) (.str y) = some (.d (.bool (decide (x = y)))) := rfl
@[simp] theorem ne_s {x y : Str} : neD (.str x) (.str y) = some (.d (.bool (!decide (x = y)))) := rfl
@[simp] theorem eq_i {i j : Int} : eqD (.int i) (.int j) = some (.d (.bool (i == j))) := by unfold eqD; simp [PyData.eqv]
@[simp] theorem ne_i {i j : Int} : neD (.int i) (.int j) = some (.d (.bool (!(i == j)))) := by unfold neD; simp [PyData.eqv]
theorem mod_pos {i j : Int} (h : 0 < j) : modD i j = some (.int (i % j)) := by unfold modD; rw [if_pos (decide_eq_true h)]
theorem fdiv_ok {i j : Int} (h : decide (0 < j ∧ j.natAbs.log2 < 9000) = true) : fdivD i j = some (.int (i / j)) := by unfold fdivD; rw [if_pos h]
@[simp] theorem fdiv_1000 {i : Int} : fdivD i 1000 = some (.int (i / 1000)) := fdiv_ok (by decide)
@[simp] theorem fdiv_7 {i : Int} : fdivD i 7 = some (.int (i / 7)) := fdiv_ok (by decide)
@[simp] theorem mod_1000 {i : Int} : modD i 1000 = some (.int (i % 1000)) := mod_pos (by decide)
@[simp] theorem mod_a {i : Int} : modD i 2147483647 = some (.int (i % 2147483647)) := mod_pos (by decide)
@[simp] theorem mod_b {i : Int} : modD i 2147483629 = some (.int (i % 2147483629)) := mod_pos (by decide)
theorem log2_small {n : Nat} (h : n < 2 ^ 100) : n.log2 < 100 := by
  by_cases h0 : n = 0
  · subst h0; decide
  · exact (Nat.log2_lt h0).mpr h
theorem mul_small {i j : Int} (h : i.natAbs < 2 ^ 100) (h2 : j.natAbs < 2 ^ 100) : mulD (.int i) (.int j) = some (.d (.int (i * j))) := by
  have e : mulOk i j = true := by
    unfold mulOk
    have := log2_small h
    have := log2_small h2
    exact decide_eq_true (by omega)
  show (if mulOk i j = true then _ else _) = _
  rw [if_pos e]
theorem range_get {lo hi : Int} {i : Nat} (h : i < (rangeD lo hi).length) : (rangeD lo hi)[i] = .int (lo + (i : Int)) := by
  have e : (rangeD lo hi)[i]? = some (.int (lo + (i : Int))) := by
    have h' : i < (hi - lo).toNat := by unfold rangeD at h; simpa using h
    unfold rangeD
    rw [List.getElem?_map, List.getElem?_range h']; rfl
  exact Option.some.inj ((List.getElem?_eq_getElem h).symm.trans e)
@[simp] theorem range_len {lo hi : Int} : (rangeD lo hi).length = (hi - lo).toNat := by unfold rangeD; rw [List.length_map, List.length_range]
theorem range1_ok {a : EM W} {rho : Env} {m : Mem} {n : Int} (h : a rho m = .ok (.d (.int n)) m) (h0 : 0 ≤ n) (h1 : n ≤ 1000000) : mRange1 a rho m = .ok (rangeD 0 n) m := by
  have hm : midI n = true := decide_eq_true (by omega)
  unfold mRange1
  show (mCons a mNil rho m).bind _ = _
  rw [e_Cons, h]
  simp [intOf, hm]
@[simp] theorem ints_len {ns : List Int} : (ns.map PyData.int).length = ns.length := by simp
@[simp] theorem small_0 : small 0 = true := rfl
@[simp] theorem small_1 : small 1 = true := rfl
@[simp] theorem small_2 : small 2 = true := rfl
@[simp] theorem small_3 : small 3 = true := rfl
@[simp] theorem small_4 : small 4 = true := rfl
@[simp] theorem small_5 : small 5 = true := rfl
@[simp] theorem small_6 : small 6 = true := rfl
@[simp] theorem small_7 : small 7 = true := rfl
@[simp] theorem small_8 : small 8 = true := rfl
@[simp] theorem small_9 : small 9 = true := rfl
@[simp] theorem small_10 : small 10 = true := rfl
@[simp] theorem small_11 : small 11 = true := rfl
@[simp] theorem small_12 : small 12 = true := rfl
@[simp] theorem small_13 : small 13 = true := rfl
@[simp] theorem small_14 : small 14 = true := rfl
@[simp] theorem small_15 : small 15 = true := rfl
@[simp] theorem small_16 : small 16 = true := rfl
@[simp] theorem small_17 : small 17 = true := rfl
@[simp] theorem small_18 : small 18 = true := rfl
@[simp] theorem small_19 : small 19 = true := rfl
@[simp] theorem small_20 : small 20 = true := rfl
@[simp] theorem small_21 : small 21 = true := rfl
@[simp] theorem small_22 : small 22 = true := rfl
@[simp] theorem small_23 : small 23 = true := rfl
@[simp] theorem small_24 : small 24 = true := rfl
end Den
/-! Den18: data that can be shown: a bound of what repr writes. -/
namespace Den
open PySem PySem.Spec PyProof.Rows L2
mutual
/-- ints below 10^30, texts of small signs, lists and tuples of these -/
def tame : D → Bool
  | .none => true
  | .bool _ => true
  | .int i => decide (i.natAbs < 10 ^ 30)
  | .str x => x.cps.toList.all fun c => decide (c < 16 ^ 8)
  | .list xs => tames xs
  | .tuple xs => tames xs
  | .dict _ => false
def tames : List D → Bool
  | [] => true
  | x :: xs => tame x && tames xs
end
mutual
/-- at most so many signs -/
def rsz : D → Nat
  | .none => 4
  | .bool _ => 5
  | .int _ => 31
  | .str x => 10 * x.length + 2
  | .list xs => rszs xs + 3
  | .tuple xs => rszs xs + 3
  | .dict _ => 0
def rszs : List D → Nat
  | [] => 0
  | x :: xs => rsz x + 2 + rszs xs
end
theorem shown_n (xs : List D) : (PyData.shownAll xs).length = xs.length := by
  induction xs with
  | nil => rfl
  | cons x xs ih => simp only [PyData.shownAll, List.length_cons, ih]
mutual
theorem tame_ok : ∀ d : D, tame d = true → d.showable = true ∧ d.hasDict = false ∧ d.shown.length ≤ rsz d
  | .none, _ => ⟨by simp only [PyData.showable], by simp only [PyData.hasDict], by decide⟩
  | .bool b, _ => ⟨by simp only [PyData.showable], by simp only [PyData.hasDict], by cases b <;> decide⟩
  | .int i, h => by
    have hi : i.natAbs < 10 ^ 30 := by unfold tame at h; exact of_decide_eq_true h
    refine ⟨?_, by simp only [PyData.hasDict], ?_⟩
    · simp only [PyData.showable]
      have : i.natAbs.log2 < 100 := log2_small (Nat.lt_trans hi (by decide))
      exact decide_eq_true (by omega)
    · have e := int_text_length_le10 (a := i) (k := 30) (by decide) hi
      simp only [PyData.shown, rsz]
      rw [PySem.ofString_length]
      exact e
  | .str x, h => by
    refine ⟨by simp only [PyData.showable], by simp only [PyData.hasDict], ?_⟩
    have hx : ∀ c ∈ x.cps.toList, c < 16 ^ 8 := by unfold tame at h; exact fun c hc => of_decide_eq_true (List.all_eq_true.mp h c hc)
    simp only [PyData.shown, rsz]
    exact StrLaws.reprText_len x hx
  | .list xs, h => by
    obtain ⟨h1, h2, h3⟩ := tames_ok xs (by unfold tame at h; exact h)
    refine ⟨by simp only [PyData.showable]; exact h1, by simp only [PyData.hasDict]; exact h2, ?_⟩
    have q := listText_len_le (PyData.shownAll xs)
    rw [shown_n] at q
    simp only [PyData.shown, rsz]
    omega
  | .tuple xs, h => by
    obtain ⟨h1, h2, h3⟩ := tames_ok xs (by unfold tame at h; exact h)
    refine ⟨by simp only [PyData.showable]; exact h1, by simp only [PyData.hasDict]; exact h2, ?_⟩
    have q := tupleText_len_le (PyData.shownAll xs)
    rw [shown_n] at q
    simp only [PyData.shown, rsz]
    omega
  | .dict _, h => by unfold tame at h; cases h
theorem tames_ok : ∀ xs : List D, tames xs = true → PyData.showableAll xs = true ∧ PyData.hasDictAll xs = false ∧ ((PyData.shownAll xs).map (·.length)).sum + 2 * xs.length ≤ rszs xs
  | [], _ => ⟨by simp only [PyData.showableAll], by simp only [PyData.hasDictAll], by simp [PyData.shownAll, rszs]⟩
  | x :: xs, h => by
    unfold tames at h
    rw [Bool.and_eq_true] at h
    obtain ⟨a1, a2, a3⟩ := tame_ok x h.1
    obtain ⟨b1, b2, b3⟩ := tames_ok xs h.2
    refine ⟨by simp only [PyData.showableAll]; rw [a1, b1]; rfl, by simp only [PyData.hasDictAll]; rw [a2, b2]; rfl, ?_⟩
    simp only [PyData.shownAll, List.map_cons, List.sum_cons, List.length_cons, rszs]
    omega
end
theorem repr_tame {d : D} (h : tame d = true) (h2 : d.depth ≤ 60) (h3 : rsz d ≤ 1000000) : reprD d = some (.str d.shown) := by
  obtain ⟨a, b, c⟩ := tame_ok d h
  unfold reprD reprOk
  rw [a, b, decide_eq_true h2, small_le (by omega)]
  rfl
theorem tames_map {α : Type} (l : List α) (f : α → D) (h : ∀ x ∈ l, tame (f x) = true) : tames (l.map f) = true := by
  induction l with
  | nil => rfl
  | cons x l ih =>
    rw [List.map_cons]
    unfold tames
    rw [h x List.mem_cons_self, ih fun y hy => h y (List.mem_cons_of_mem _ hy)]
    rfl
theorem rszs_map {α : Type} (l : List α) (f : α → D) (c : Nat) (h : ∀ x ∈ l, rsz (f x) + 2 ≤ c) : rszs (l.map f) ≤ l.length * c := by
  induction l with
  | nil => exact Nat.zero_le _
  | cons x l ih =>
    rw [List.map_cons, List.length_cons]
    unfold rszs
    have := h x List.mem_cons_self
    have := ih fun y hy => h y (List.mem_cons_of_mem _ hy)
    rw [Nat.add_mul, Nat.one_mul]
    omega
theorem depthAll_map {α : Type} (l : List α) (f : α → D) (c : Nat) (h : ∀ x ∈ l, (f x).depth ≤ c) : PyData.depthAll (l.map f) ≤ c := by
  induction l with
  | nil => simp [PyData.depthAll]
  | cons x l ih =>
    rw [List.map_cons]
    simp only [PyData.depthAll]
    exact Nat.max_le.mpr ⟨h x List.mem_cons_self, ih fun y hy => h y (List.mem_cons_of_mem _ hy)⟩
/-- shaped: lists and tuples of ints -/
theorem canLay_map {α : Type} (l : List α) (f : α → D) (h : ∀ x ∈ l, (f x).canLay0 = true) : PyData.canLayAll0 (l.map f) = true := by
  induction l with
  | nil => simp [PyData.canLayAll0]
  | cons x l ih =>
    rw [List.map_cons]
    simp only [PyData.canLayAll0]
    rw [h x List.mem_cons_self, ih fun y hy => h y (List.mem_cons_of_mem _ hy)]
    rfl
theorem shaped_ints (l : List Int) : SeqAt.shaped (.list (l.map .int)) = true := by
  unfold SeqAt.shaped
  have h1 := canLay_map l PyData.int fun x _ => by simp [PyData.canLay0]
  have h2 := depthAll_map l PyData.int 1 fun x _ => by simp [PyData.depth]
  have e1 : (PyData.list (l.map PyData.int)).canLay0 = true := by simp only [PyData.canLay0]; exact h1
  have e2 : (PyData.list (l.map PyData.int)).depth ≤ 64 := by simp only [PyData.depth]; omega
  rw [e1, decide_eq_true e2]
  rfl
theorem shaped_intsT (l : List Int) : SeqAt.shaped (.tuple (l.map .int)) = true := by
  unfold SeqAt.shaped
  have h1 := canLay_map l PyData.int fun x _ => by simp [PyData.canLay0]
  have h2 := depthAll_map l PyData.int 1 fun x _ => by simp [PyData.depth]
  have e1 : (PyData.tuple (l.map PyData.int)).canLay0 = true := by simp only [PyData.canLay0]; exact h1
  have e2 : (PyData.tuple (l.map PyData.int)).depth ≤ 64 := by simp only [PyData.depth]; omega
  rw [e1, decide_eq_true e2]
  rfl
theorem eqvAll_ints (l k : List Int) : PyData.eqvAll (l.map .int) (k.map .int) = decide (l = k) := by
  induction l generalizing k with
  | nil => cases k <;> simp [PyData.eqvAll]
  | cons x l ih =>
    cases k with
    | nil => simp [PyData.eqvAll]
    | cons y k =>
      rw [List.map_cons, List.map_cons]
      simp only [PyData.eqvAll, PyData.eqv]
      rw [ih]
      by_cases h : x = y
      · subst h; simp
      · have : (x == y) = false := beq_eq_false_iff_ne.mpr h
        rw [this]; simp [h]
theorem ne_ints (l k : List Int) : neD (.list (l.map .int)) (.list (k.map .int)) = some (.d (.bool (!decide (l = k)))) := by
  show (if SeqAt.shaped (.list (l.map .int)) && SeqAt.shaped (.list (k.map .int)) then some (W.d (.bool (!PyData.eqv (.list (l.map .int)) (.list (k.map .int))))) else none) = _
  rw [shaped_ints, shaped_ints]
  simp [PyData.eqv, eqvAll_ints]
/-! sorted lists of ints -/
def leI (a b : Int) : Bool := decide (a ≤ b)
theorem sort_ints (l : List Int) : (l.map PyData.int).mergeSort (PySem.W.dataLe false id) = (l.mergeSort leI).map .int := by
  refine (List.map_mergeSort (r := leI) (s := PySem.W.dataLe false id) (f := PyData.int) (l := l) fun a _ b _ => ?_).symm
  show decide (a ≤ b) = (!(decide (b < a) || (!decide (a < b) && false)))
  by_cases h : a ≤ b
  · have h2 : ¬ b < a := by omega
    simp [h, h2]
  · have h2 : b < a := by omega
    simp [h, h2]
theorem leI_tot (a b : Int) : (leI a b || leI b a) = true := by
  unfold leI
  by_cases h : a ≤ b
  · simp [h]
  · have : b ≤ a := by omega
    simp [this]
theorem leI_trans (a b c : Int) (h : leI a b = true) (h2 : leI b c = true) : leI a c = true := by
  unfold leI at *
  have := of_decide_eq_true h
  have := of_decide_eq_true h2
  exact decide_eq_true (by omega)
theorem sorted_le (l : List Int) : (l.mergeSort leI).Pairwise (· ≤ ·) := by
  have h := List.pairwise_mergeSort (le := leI) leI_trans leI_tot l
  exact h.imp fun {a b} q => of_decide_eq_true q
/-- two sorted lists of the same are the same -/
theorem sorted_eq : ∀ {l k : List Int}, l.Pairwise (· ≤ ·) → k.Pairwise (· ≤ ·) → l.Perm k → l = k := fun {l k} h1 h2 p =>
  p.eq_of_pairwise (le := (· ≤ ·)) (fun a b _ _ x y => Int.le_antisymm x y) h1 h2
end Den
/-! Den19: comprehensions over mapped lists, more evaluation. -/
namespace Den
open PySem PySem.Spec PyProof.Rows L2
section
variable {it : EM (List D)} {vs : List Nat} {g : GM} {t : EM Bool} {a : EM W} {rho : Env} {m m0 : Mem}
theorem mLC_of {α : Type} (l : List α) (F : α → D) (p : α → Bool) (f : α → D) (hit : it rho m = .ok (l.map F) m0) (hs : l.length ≤ 1000000)
    (H : ∀ x ∈ l, ∃ r1, g (.d (F x)) (wipeE rho vs) m0 = some (r1, m0) ∧ t r1 m0 = .ok (p x) m0 ∧ (p x = true → ∃ w, a r1 m0 = .ok w m0 ∧ frz m0 (val w) = some (f x, m0))) : mLC it vs g t a rho m = .ok (.n (.list ((l.filter p).map f))) m0 := by
  obtain ⟨acc, m', h1, rfl, rfl⟩ := mLC_inv (vs := vs) (g := g) (t := t) (a := a) (fun i m1 acc => m1 = m0 ∧ acc = ((l.take i).filter p).map f) hit (by rw [List.length_map]; exact hs) ⟨rfl, rfl⟩ fun i h m1 acc hI => by
    obtain ⟨rfl, rfl⟩ := hI
    have h' : i < l.length := by rw [List.length_map] at h; exact h
    have e0 : (l.map F)[i] = F l[i] := by simp
    rw [e0]
    obtain ⟨r1, q1, q2, q3⟩ := H l[i] (List.getElem_mem h')
    refine ⟨r1, p l[i], m1, q1, q2, fun hp => ⟨rfl, ?_⟩, fun hp => ?_⟩
    · rw [List.take_succ_eq_append_getElem h', List.filter_append, List.filter_cons_of_neg (by rw [hp]; simp)]; simp
    · obtain ⟨w, z1, z2⟩ := q3 hp
      refine ⟨w, m1, f l[i], m1, z1, z2, rfl, ?_⟩
      rw [List.take_succ_eq_append_getElem h', List.filter_append, List.filter_cons_of_pos hp]; simp
  rw [h1, List.length_map, List.take_length]
theorem mLC_all {α : Type} (l : List α) (F : α → D) (f : α → D) (hit : it rho m = .ok (l.map F) m0) (hs : l.length ≤ 1000000)
    (H : ∀ x ∈ l, ∃ r1, g (.d (F x)) (wipeE rho vs) m0 = some (r1, m0) ∧ t r1 m0 = .ok true m0 ∧ ∃ w, a r1 m0 = .ok w m0 ∧ frz m0 (val w) = some (f x, m0)) : mLC it vs g t a rho m = .ok (.n (.list (l.map f))) m0 := by
  have h := mLC_of l F (fun _ => true) f hit hs fun x hx => by
    obtain ⟨r1, q1, q2, q3⟩ := H x hx
    exact ⟨r1, q1, q2, fun _ => q3⟩
  rw [h, show l.filter (fun _ => true) = l from List.filter_eq_self.mpr fun _ _ => rfl]
end
def pairIJ (p : Int × Int) : D := .tuple [.int p.1, .int p.2]
theorem zip_ints (a b : List Int) : ((a.map PyData.int).zip (b.map PyData.int)).map (fun p => PyData.tuple [p.1, p.2]) = (a.zip b).map pairIJ := by
  induction a generalizing b with
  | nil => rfl
  | cons x a ih => cases b with
    | nil => rfl
    | cons y b => simp only [List.map_cons, List.zip_cons_cons, ih]; rfl
section
variable {rho : Env} {m : Mem} {a b c : EM W} {r : EM (List W)} {i n : Nat}
@[simp] theorem e_Zip : mZip a b rho m = (mCons a (mCons b mNil) rho m).bind fun ws m1 => match ws with | [.d x, .d y] => (match zipD x y with | some ds => .ok ds m1 | none => .no) | _ => .no := rfl
@[simp] theorem zip_t {xs ys : List D} : zipD (.tuple xs) (.tuple ys) = some ((xs.zip ys).map fun p => .tuple [p.1, p.2]) := rfl
@[simp] theorem zip_l {xs ys : List D} : zipD (.list xs) (.list ys) = some ((xs.zip ys).map fun p => .tuple [p.1, p.2]) := rfl
@[simp] theorem intOf_i {i : Int} : intOf (.d (.int i)) = some i := rfl
@[simp] theorem e_Pick {fs : List FnM} {i : EM W} : mPick fs i r rho m = (i rho m).bindV fun w m1 => match intOf w with
  | some j => if 0 ≤ j then (match fs[j.toNat]? with | some t => (r rho m1).bind fun ws m2 => if ws.length = t.2.1 then t.2.2 ws m2 else .no | none => .no) else .no
  | none => .no := rfl
@[simp] theorem e_TryK {cb : SM} {kf : Str → Option Str} : sTryK i cb kf rho m = match cb rho m with
  | .ex (.own x) rho' m' => (match kf x with | some y => if i < rho'.length then .rt (.d (.str y)) m' else .no | none => .no)
  | .ex (.low _ _ _) _ _ => .no
  | r => r := rfl
@[simp] theorem e_gT {gs : List GM} {w : W} : gT gs w rho m = match (peek m w).bind seqOf with | some ds => if ds.length = gs.length then gAll gs ds rho m else none | none => none := rfl
@[simp] theorem gAll_nil : gAll [] [] rho m = some (rho, m) := rfl
@[simp] theorem gAll_cons {g : GM} {gs : List GM} {x : D} {xs : List D} : gAll (g :: gs) (x :: xs) rho m = match g (.d x) rho m with | some (rho', m') => gAll gs xs rho' m' | none => none := rfl
@[simp] theorem wipe_nil : wipeE rho [] = rho := rfl
@[simp] theorem wipe_cons {v : Nat} {vs : List Nat} : wipeE rho (v :: vs) = (wipeE rho vs).set v none := rfl
@[simp] theorem cut_1 {α : Type} {xs : List α} : cutD xs (some 1) none = xs.drop 1 := by
  unfold cutD
  have h : HT.sIx xs.length 0 (some 1) = min 1 xs.length := HT.sIx_nat xs.length 0 1
  rw [h]
  show (xs.drop (min 1 xs.length)).take (xs.length - min 1 xs.length) = xs.drop 1
  cases xs with
  | nil => rfl
  | cons x xs =>
    rw [show min 1 (x :: xs).length = 1 by rw [List.length_cons]; omega]
    exact List.take_of_length_le (by simp)
@[simp] theorem kind_chain : kindTab "NotChain" = some "!chain" := by decide
@[simp] theorem kind_net : kindTab "NotNet" = some "!net" := by decide
@[simp] theorem kind_trace : kindTab "NotTrace" = some "!trace" := by decide
@[simp] theorem kind_paper : kindTab "NotPaper" = some "!paper" := by decide
@[simp] theorem kind_number : kindTab "BadNumber" = some "!number" := by decide
@[simp] theorem kind_none : kindTab "NoAnswer" = some "!none" := by decide
@[simp] theorem kind_large : kindTab "TooLarge" = some "!large" := by decide
end
theorem all_true {α : Type} (l : List α) : allD (.list (l.map fun _ => .bool true)) = some (.bool true) := by
  have e : l.map (fun _ => PyData.bool true) = (l.map fun _ => true).map PyData.bool := by simp
  rw [e, all_bools]
  simp
end Den
/-! Den20: dicts: keys, tables of data, what stands at a dict's address. -/
namespace Den
open PySem PySem.Spec PyProof.Rows L2

/-! ### keys -/
abbrev K2 := Key ⊕ List Key
def keyK : D → Option Key
  | .int i => some (.inl i)
  | .str x => some (.inr x)
  | _ => none
def keysK : List D → Option (List Key)
  | [] => some []
  | x :: xs => (keyK x).bind fun k => (keysK xs).map (k :: ·)
def keyOf : D → Option K2
  | .tuple ds => (keysK ds).map .inr
  | x => (keyK x).map .inl
theorem keyK_keyD (k : Key) : keyK (keyD k) = some k := by cases k <;> rfl
theorem keyK_inv {x : D} {k : Key} (h : keyK x = some k) : x = keyD k := by cases x <;> cases h <;> rfl
theorem keysK_keyD : ∀ ks : List Key, keysK (ks.map keyD) = some ks
  | [] => rfl
  | k :: ks => by rw [List.map_cons, keysK, keyK_keyD, keysK_keyD ks]; rfl
theorem keysK_inv : ∀ {ds : List D} {ks : List Key}, keysK ds = some ks → ds = ks.map keyD
  | [], _, h => by cases h; rfl
  | x :: xs, ks, h => by
    unfold keysK at h
    cases h1 : keyK x with
    | none => rw [h1] at h; cases h
    | some k =>
      rw [h1] at h
      cases h2 : keysK xs with
      | none => rw [h2] at h; cases h
      | some r =>
        rw [h2] at h
        have e : k :: r = ks := Option.some.inj h
        rw [← e, List.map_cons, ← keyK_inv h1, ← keysK_inv h2]
theorem keyOf_keyD (k : Key) : keyOf (keyD k) = some (.inl k) := by cases k <;> rfl
theorem keyOf_tup (ks : List Key) : keyOf (.tuple (ks.map keyD)) = some (.inr ks) := by
  show (keysK _).map _ = _
  rw [keysK_keyD]; rfl
theorem keyOf_l {x : D} {k : Key} (h : keyOf x = some (.inl k)) : x = keyD k := by
  cases x with
  | tuple ds =>
    have h' : (keysK ds).map Sum.inr = some (Sum.inl k : K2) := h
    cases q : keysK ds with
    | none => rw [q] at h'; cases h'
    | some z => rw [q] at h'; cases h'
  | int i => cases h; rfl
  | str i => cases h; rfl
  | _ => cases h
theorem keyOf_r {x : D} {ks : List Key} (h : keyOf x = some (.inr ks)) : x = .tuple (ks.map keyD) := by
  cases x with
  | tuple ds =>
    have h' : (keysK ds).map Sum.inr = some (Sum.inr ks : K2) := h
    cases q : keysK ds with
    | none => rw [q] at h'; cases h'
    | some z =>
      rw [q] at h'
      have e : z = ks := by cases h'; rfl
      rw [← e, keysK_inv q]
  | _ => cases h

/-! ### tables of data -/
def hasK (k : K2) (p : D × D) : Bool := decide (keyOf p.1 = some k)
def valD (kvs : List (D × D)) (k : K2) : Option D := (kvs.find? (hasK k)).map (·.2)
def putDt (kvs : List (D × D)) (k : K2) (kd v : D) : List (D × D) := if kvs.any (hasK k) = true then kvs.map fun p => if hasK k p = true then (p.1, v) else p else kvs ++ [(kd, v)]
/-- the keys are of the kind of k -/
def okKey : List (D × D) → K2 → Bool
  | [], _ => true
  | p :: _, .inl _ => match keyOf p.1 with | some (.inl _) => true | _ => false
  | p :: _, .inr _ => match keyOf p.1 with | some (.inr _) => true | _ => false
theorem valD_pos {k : K2} {p : D × D} {r : List (D × D)} (h : hasK k p = true) : valD (p :: r) k = some p.2 := by unfold valD; rw [List.find?_cons, h]; rfl
theorem valD_neg {k : K2} {p : D × D} {r : List (D × D)} (h : hasK k p = false) : valD (p :: r) k = valD r k := by unfold valD; rw [List.find?_cons, h]
theorem hasK_l {k key : Key} {x : D} : hasK (.inl k) (keyD key, x) = decide (key = k) := by
  unfold hasK
  rw [keyOf_keyD]
  by_cases e : key = k
  · rw [e, decide_eq_true rfl, decide_eq_true rfl]
  · rw [decide_eq_false e, decide_eq_false fun z => e (by cases z; rfl)]
theorem hasK_r {k key : List Key} {x : D} : hasK (.inr k) (.tuple (key.map keyD), x) = decide (key = k) := by
  unfold hasK
  rw [keyOf_tup]
  by_cases e : key = k
  · rw [e, decide_eq_true rfl, decide_eq_true rfl]
  · rw [decide_eq_false e, decide_eq_false fun z => e (by cases z; rfl)]

section
variable {K : PySem.W.Frag} {O : Addr → Prop} {H : Hp}
theorem RepK.len : ∀ {kvs : List (D × D)} {kz : List (Key × V)}, RepK K O H kvs kz → kz.length = kvs.length
  | [], _, h => by rw [show _ = [] from h]; rfl
  | (a, b) :: kvs, _, ⟨key, v, r, h1, _, _, h4⟩ => by rw [h1, List.length_cons, List.length_cons, RepK.len h4]
theorem RepT.len : ∀ {kvs : List (D × D)} {kz : List (List Key × V)}, RepT K O H kvs kz → kz.length = kvs.length
  | [], _, h => by rw [show _ = [] from h]; rfl
  | (a, b) :: kvs, _, ⟨key, v, r, h1, _, _, h4⟩ => by rw [h1, List.length_cons, List.length_cons, RepT.len h4]
theorem RepK.val (k : Key) : ∀ {kvs : List (D × D)} {kz : List (Key × V)}, RepK K O H kvs kz → match valD kvs (.inl k) with | some x => ∃ v, valV kz k = some v ∧ RepD K O H x v | none => valV kz k = none
  | [], _, h => by rw [show _ = [] from h]; exact rfl
  | (a, b) :: kvs, _, ⟨key, v, r, h1, h2, h3, h4⟩ => by
    subst h1 h2
    by_cases e : key = k
    · rw [valD_pos (by rw [hasK_l, decide_eq_true e])]
      exact ⟨v, valV_pos (p := (key, v)) e, h3⟩
    · rw [valD_neg (by rw [hasK_l, decide_eq_false e]), valV_neg (p := (key, v)) e]
      exact RepK.val k h4
theorem RepT.val (k : List Key) : ∀ {kvs : List (D × D)} {kz : List (List Key × V)}, RepT K O H kvs kz → match valD kvs (.inr k) with | some x => ∃ v, valV kz k = some v ∧ RepD K O H x v | none => valV kz k = none
  | [], _, h => by rw [show _ = [] from h]; exact rfl
  | (a, b) :: kvs, _, ⟨key, v, r, h1, h2, h3, h4⟩ => by
    subst h1 h2
    by_cases e : key = k
    · rw [valD_pos (by rw [hasK_r, decide_eq_true e])]
      exact ⟨v, valV_pos (p := (key, v)) e, h3⟩
    · rw [valD_neg (by rw [hasK_r, decide_eq_false e]), valV_neg (p := (key, v)) e]
      exact RepT.val k h4
theorem RepK.any (k : Key) : ∀ {kvs : List (D × D)} {kz : List (Key × V)}, RepK K O H kvs kz → (kz.any fun kv => decide (kv.1 = k)) = kvs.any (hasK (.inl k))
  | [], _, h => by rw [show _ = [] from h]; rfl
  | (a, b) :: kvs, _, ⟨key, v, r, h1, h2, _, h4⟩ => by subst h1 h2; rw [List.any_cons, List.any_cons, RepK.any k h4, hasK_l]
theorem RepT.any (k : List Key) : ∀ {kvs : List (D × D)} {kz : List (List Key × V)}, RepT K O H kvs kz → (kz.any fun kv => decide (kv.1 = k)) = kvs.any (hasK (.inr k))
  | [], _, h => by rw [show _ = [] from h]; rfl
  | (a, b) :: kvs, _, ⟨key, v, r, h1, h2, _, h4⟩ => by subst h1 h2; rw [List.any_cons, List.any_cons, RepT.any k h4, hasK_r]
theorem RepK.snoc {k : Key} {x : D} {v : V} (hx : RepD K O H x v) : ∀ {kvs : List (D × D)} {kz : List (Key × V)}, RepK K O H kvs kz → RepK K O H (kvs ++ [(keyD k, x)]) (kz ++ [(k, v)])
  | [], _, h => by rw [show _ = [] from h]; exact ⟨k, v, [], rfl, rfl, hx, rfl⟩
  | (a, b) :: kvs, _, ⟨key, u, r, h1, h2, h3, h4⟩ => by subst h1; exact ⟨key, u, _, rfl, h2, h3, RepK.snoc hx h4⟩
theorem RepT.snoc {k : List Key} {x : D} {v : V} (hx : RepD K O H x v) : ∀ {kvs : List (D × D)} {kz : List (List Key × V)}, RepT K O H kvs kz → RepT K O H (kvs ++ [(.tuple (k.map keyD), x)]) (kz ++ [(k, v)])
  | [], _, h => by rw [show _ = [] from h]; exact ⟨k, v, [], rfl, rfl, hx, rfl⟩
  | (a, b) :: kvs, _, ⟨key, u, r, h1, h2, h3, h4⟩ => by subst h1; exact ⟨key, u, _, rfl, h2, h3, RepT.snoc hx h4⟩
theorem RepK.repl {k : Key} {x : D} {v : V} (hx : RepD K O H x v) : ∀ {kvs : List (D × D)} {kz : List (Key × V)}, RepK K O H kvs kz →
    RepK K O H (kvs.map fun p => if hasK (.inl k) p = true then (p.1, x) else p) (kz.map fun kv => if kv.1 = k then (kv.1, v) else kv)
  | [], _, h => by rw [show _ = [] from h]; exact rfl
  | (a, b) :: kvs, _, ⟨key, u, r, h1, h2, h3, h4⟩ => by
    subst h1 h2
    rw [List.map_cons, List.map_cons, hasK_l]
    by_cases e : key = k
    · rw [if_pos (decide_eq_true e), if_pos e]; exact ⟨key, v, _, rfl, rfl, hx, RepK.repl hx h4⟩
    · rw [if_neg (by rw [decide_eq_false e]; decide), if_neg e]; exact ⟨key, u, _, rfl, rfl, h3, RepK.repl hx h4⟩
theorem RepT.repl {k : List Key} {x : D} {v : V} (hx : RepD K O H x v) : ∀ {kvs : List (D × D)} {kz : List (List Key × V)}, RepT K O H kvs kz →
    RepT K O H (kvs.map fun p => if hasK (.inr k) p = true then (p.1, x) else p) (kz.map fun kv => if kv.1 = k then (kv.1, v) else kv)
  | [], _, h => by rw [show _ = [] from h]; exact rfl
  | (a, b) :: kvs, _, ⟨key, u, r, h1, h2, h3, h4⟩ => by
    subst h1 h2
    rw [List.map_cons, List.map_cons, hasK_r]
    by_cases e : key = k
    · rw [if_pos (decide_eq_true e), if_pos e]; exact ⟨key, v, _, rfl, rfl, hx, RepT.repl hx h4⟩
    · rw [if_neg (by rw [decide_eq_false e]; decide), if_neg e]; exact ⟨key, u, _, rfl, rfl, h3, RepT.repl hx h4⟩
theorem RepK.put {k : Key} {kvs : List (D × D)} {kz : List (Key × V)} {x : D} {v : V} (h : RepK K O H kvs kz) (hx : RepD K O H x v) : RepK K O H (putDt kvs (.inl k) (keyD k) x) (putK kz k v) := by
  unfold putDt putK
  rw [h.any k]
  by_cases e : kvs.any (hasK (.inl k)) = true
  · rw [if_pos e, if_pos e]; exact h.repl hx
  · rw [if_neg e, if_neg e]; exact h.snoc hx
theorem RepT.put {k : List Key} {kvs : List (D × D)} {kz : List (List Key × V)} {x : D} {v : V} (h : RepT K O H kvs kz) (hx : RepD K O H x v) : RepT K O H (putDt kvs (.inr k) (.tuple (k.map keyD)) x) (putK kz k v) := by
  unfold putDt putK
  rw [h.any k]
  by_cases e : kvs.any (hasK (.inr k)) = true
  · rw [if_pos e, if_pos e]; exact h.repl hx
  · rw [if_neg e, if_neg e]; exact h.snoc hx
theorem RepK.kind {kvs : List (D × D)} {kz : List (Key × V)} {k : List Key} (h : RepK K O H kvs kz) (ok : okKey kvs (.inr k) = true) : kvs = [] ∧ kz = [] := by
  cases kvs with
  | nil => exact ⟨rfl, h⟩
  | cons p r =>
    obtain ⟨a, b⟩ := p
    obtain ⟨key, v, q, _, h2, _⟩ := h
    subst h2
    unfold okKey at ok
    dsimp only at ok
    rw [keyOf_keyD] at ok
    cases ok
theorem RepT.kind {kvs : List (D × D)} {kz : List (List Key × V)} {k : Key} (h : RepT K O H kvs kz) (ok : okKey kvs (.inl k) = true) : kvs = [] ∧ kz = [] := by
  cases kvs with
  | nil => exact ⟨rfl, h⟩
  | cons p r =>
    obtain ⟨a, b⟩ := p
    obtain ⟨key, v, q, _, h2, _⟩ := h
    subst h2
    unfold okKey at ok
    dsimp only at ok
    rw [keyOf_tup] at ok
    cases ok
end

/-! ### an empty dict is of any kind -/
inductive Conv (a : Addr) : Hp → Hp → Prop where
  | refl (H : Hp) : Conv a H H
  | t (H : Hp) (h : H a = some (.dK [])) : Conv a H (upd H a (.dT []))
  | k (H : Hp) (h : H a = some (.dT [])) : Conv a H (upd H a (.dK []))
section
variable {X : Cx} {pins : List (Addr × Obj)} {σ : St} {H H' : Hp} {s : Shared} {a : Addr}
theorem inv_conv (I : Inv X pins σ H s) (c : Conv a H H') : Inv X pins σ H' s := by
  cases c with
  | refl => exact I
  | t h =>
    obtain ⟨z, hd, vs, rel, o, es, ep, ho, hx, hdt, hk, hp, hn⟩ := dk_of I.hok h
    cases rel
    have he : es.toList = [] := by cases q : es.toList with
      | nil => rfl
      | cons x r => rw [q] at hp; cases hp
    exact I.write (x := a) (e := a) (t' := s.toks) (h' := s.heap) (by rw [h]; exact True.intro) (.inl rfl) (fun b v _ q => q) ⟨o, ho⟩
      (show ObjOk X.prog X.w _ _ a (.dT []) from ⟨Nat.zero_le _, hd, [], .nil, o, es, ep, ho, hx, hdt, he, List.nodup_nil⟩)
  | k h =>
    obtain ⟨z, hd, xs, rel, o, es, ep, ho, hx, hdt, he, _⟩ := (show ObjOk X.prog X.w H s.heap a (.dT []) from I.hok a _ h)
    cases rel
    have he2 : es = #[] := by rw [← Array.toList_eq_nil_iff]; exact he
    subst he2
    refine I.write (x := a) (e := a) (t' := s.toks) (h' := s.heap) (by rw [h]; exact True.intro) (.inl rfl) (fun b v _ q => q) ⟨o, ho⟩
      (show ObjOk X.prog X.w _ _ a (.dK []) from ⟨Nat.zero_le _, hd, [], .nil, o, #[], ep, ho, hx, hdt, ?_, .nil, List.nodup_nil⟩)
    intro e hm
    simp at hm
end
section
variable {X : Cx} {e : Expr} {t : TE}
def tConv (t : TE) : TE := fun σ H Q => t σ H fun v H1 => ∃ a H2, Conv a H1 H2 ∧ Q v H2
theorem pe_conv (h : PE X e t) : PE X e (tConv t) := ⟨fun pins s σ H Q I q => thn (h.run pins s σ H _ I q) fun u s1 hh => by
  obtain ⟨x, H1, I1, r, a, H2, c, q2⟩ := hh
  exact ⟨x, H2, inv_conv I1 c, r, q2⟩⟩
end

/-! ### what stands at a dict's address -/
def dictAt (m : Mem) (w : W) : Option (List (D × D)) := match peek m w with
  | some (.dict kvs) => some kvs
  | _ => none
def isR : W → Bool
  | .r _ => true
  | _ => false
def keyFor (w : W) (kvs : List (D × D)) (k : K2) : Bool := okKey kvs k && (isR w || !kvs.isEmpty)
/-- the table at a, with keys of the kind of k -/
def TabK (K : PySem.W.Frag) (O : Addr → Prop) (H : Hp) (a : Addr) (kvs : List (D × D)) : K2 → Prop
  | .inl _ => ∃ kz, Rd H a (.dK kz) ∧ RepK K O H kvs kz
  | .inr _ => ∃ kz, Rd H a (.dT kz) ∧ RepT K O H kvs kz
section
variable {K : PySem.W.Frag} {mg : Str → Option Value} {Hd : Addr → Prop} {al : List Addr} {m : Mem} {H : Hp}
theorem set_self {n : Nat} {x : D} (h : m[n]? = some (some x)) : m.set n (some x) = m := by
  apply List.ext_getElem?
  intro i
  by_cases e : n = i
  · subst e
    obtain ⟨hl, _⟩ := List.getElem?_eq_some_iff.mp h
    rw [List.getElem?_set_self hl, h]
  · rw [List.getElem?_set_ne e]
theorem handle_conv {n : Nat} {a : Addr} {u : HO} (s : Stt K Hd al none H m) (ha : al[n]? = some a) (hm : m[n]? = some (some (.dict []))) (hu : (∃ kz, u = .dK kz ∧ kz = []) ∨ ∃ kz, u = .dT kz ∧ kz = []) :
    Go Hd al m none H al m none (upd H a u) ∧ Stt K Hd al none (upd H a u) m := by
  have g := go_put (y := .dict []) (o := u) s ha hm
  have st := stt_put (y := .dict []) (o := u) s ha hm (by
    rcases hu with ⟨kz, rfl, rfl⟩ | ⟨kz, rfl, rfl⟩
    · exact .inl ⟨[], upd_same, rfl⟩
    · exact .inr ⟨[], upd_same, rfl⟩)
  rw [set_self hm] at g st
  exact ⟨g, st⟩
theorem peekR {n : Nat} {x : D} (h : peek m (.r n) = some x) : m[n]? = some (some x) := by
  have e' : (m[n]?).join = some x := h
  cases q : m[n]? with
  | none => rw [q] at e'; cases e'
  | some o => rw [q] at e'; have z : o = some x := e'; rw [z]
theorem dictAt_peek {w : W} {kvs : List (D × D)} (h : dictAt m w = some kvs) : peek m w = some (.dict kvs) := by
  unfold dictAt at h
  split at h
  · rename_i z hz; cases h; exact hz
  · cases h
theorem tab_at {w : W} {v : V} {kvs : List (D × D)} {k : K2} (s : Stt K Hd al none H m) (rw' : RepW K mg (Own Hd al m none) none al H w v) (h : dictAt m w = some kvs) (ok : keyFor w kvs k = true) :
    ∃ a H', v = .ref a ∧ Conv a H H' ∧ Go Hd al m none H al m none H' ∧ Stt K Hd al none H' m ∧ TabK K (Own Hd al m none) H' a kvs k := by
  unfold keyFor at ok
  rw [Bool.and_eq_true] at ok
  obtain ⟨ok1, ok2⟩ := ok
  have hp := dictAt_peek h
  obtain ⟨a, rfl, q⟩ := peek_ok s rw' hp
  by_cases e0 : kvs = []
  · subst e0
    cases w with
    | r n =>
      have hm := peekR hp
      obtain ⟨_, a', ha, e⟩ := rw'
      cases e
      have ob := s.ob n a _ ha hm
      cases k with
      | inl k =>
        rcases ob with ⟨kz, hk, r⟩ | ⟨kz, hk, r⟩
        · exact ⟨a, H, rfl, .refl H, Go.refl, s, kz, .inl hk, r⟩
        · have r' : kz = [] := r
          subst r'
          obtain ⟨g, st⟩ := handle_conv (u := .dK []) s ha hm (.inl ⟨[], rfl, rfl⟩)
          exact ⟨a, _, rfl, .k H hk, g, st, [], .inl upd_same, rfl⟩
      | inr k =>
        rcases ob with ⟨kz, hk, r⟩ | ⟨kz, hk, r⟩
        · have r' : kz = [] := r
          subst r'
          obtain ⟨g, st⟩ := handle_conv (u := .dT []) s ha hm (.inr ⟨[], rfl, rfl⟩)
          exact ⟨a, _, rfl, .t H hk, g, st, [], .inl upd_same, rfl⟩
        · exact ⟨a, H, rfl, .refl H, Go.refl, s, kz, .inl hk, r⟩
    | _ => cases ok2
  · refine ⟨a, H, rfl, .refl H, Go.refl, s, ?_⟩
    cases k with
    | inl k =>
      rcases q with ⟨kz, hk, r⟩ | ⟨kz, hk, r⟩
      · exact ⟨kz, hk, r⟩
      · exact (e0 (r.kind ok1).1).elim
    | inr k =>
      rcases q with ⟨kz, hk, r⟩ | ⟨kz, hk, r⟩
      · exact (e0 (r.kind ok1).1).elim
      · exact ⟨kz, hk, r⟩
/-- a key's value -/
theorem key_kV {O : Addr → Prop} {k : Key} {v : V} (h : RepD K O H (keyD k) v) : v = kV k := by cases k <;> exact h
theorem keys_kV {O : Addr → Prop} : ∀ {ks : List Key} {vs : List V}, RepDs K O H (ks.map keyD) vs → vs = ks.map kV
  | [], _, h => h
  | k :: ks, _, ⟨v, r, h1, h2, h3⟩ => by rw [h1, List.map_cons, key_kV h2, keys_kV h3]
theorem kV_rep {O : Addr → Prop} (k : Key) : RepD K O H (keyD k) (kV k) := by cases k <;> rfl
theorem kVs_rep {O : Addr → Prop} : ∀ (ks : List Key), RepDs K O H (ks.map keyD) (ks.map kV)
  | [] => rfl
  | k :: ks => ⟨kV k, _, rfl, kV_rep k, kVs_rep ks⟩
/-- a lookup -/
theorem tab_get {O : Addr → Prop} {a : Addr} {kvs : List (D × D)} {k : K2} {xk : D} {y : V} (t : TabK K O H a kvs k) (hk : keyOf xk = some k) (hy : RepD K O H xk y) :
    match valD kvs k with | some x => ∃ v, DGet H a y (some v) ∧ RepD K O H x v | none => DGet H a y none := by
  cases k with
  | inl k =>
    obtain ⟨kz, h1, h2⟩ := t
    rw [keyOf_l hk] at hy
    have q := h2.val k
    cases e : valD kvs (.inl k) with
    | none => rw [e] at q; exact .inl ⟨kz, k, h1, key_kV hy, q.symm⟩
    | some x => rw [e] at q; obtain ⟨v, q1, q2⟩ := q; exact ⟨v, .inl ⟨kz, k, h1, key_kV hy, q1.symm⟩, q2⟩
  | inr k =>
    obtain ⟨kz, h1, h2⟩ := t
    rw [keyOf_r hk] at hy
    obtain ⟨b, vs, rfl, g1, g2⟩ := hy
    rw [keys_kV g2] at g1
    have q := h2.val k
    cases e : valD kvs (.inr k) with
    | none => rw [e] at q; exact .inr ⟨kz, k, b, h1, rfl, g1, q.symm⟩
    | some x => rw [e] at q; obtain ⟨v, q1, q2⟩ := q; exact ⟨v, .inr ⟨kz, k, b, h1, rfl, g1, q1.symm⟩, q2⟩
theorem tab_isD {O : Addr → Prop} {a : Addr} {kvs : List (D × D)} {w : W} {v : V} (s : Stt K Hd al none H m) (rw' : RepW K mg (Own Hd al m none) none al H w v) (h : dictAt m w = some kvs) : ∃ a, v = .ref a ∧ IsD H a := by
  obtain ⟨a, rfl, q⟩ := peek_ok s rw' (dictAt_peek h)
  refine ⟨a, rfl, ?_⟩
  rcases q with ⟨kz, hk, _⟩ | ⟨kz, hk, _⟩
  · exact .inl ⟨kz, hk⟩
  · exact .inr ⟨kz, hk⟩
end
end Den
/-! Den21: dicts: {}, d[k], d.get(k, x), d[k] = v, for k in d, list(d), sorted(d), dict(pairs); calls without arguments. -/
namespace Den
open PySem PySem.Spec PyProof.Rows L2

/-! ### {} -/
def mDNew : EM W := fun _ m => .ok (.n (.dict [])) m
theorem den_dnew {X : Cx} {E : St → XK} {pos : Pos} : Den X E (.Dict [] [] pos) mDNew := PE.imp pe_dnewK fun σ H Q q => by
  obtain ⟨Hd, al, rho, m, s, e, P⟩ := q
  intro p hp
  exact (Post.made s hp P) _ ⟨p, rfl, rfl, .inl ⟨[], upd_same, rfl⟩⟩

/-! ### d[k] -/
def fDGet (w y : W) (m : Mem) : Rs W := match dictAt m w, y with
  | some kvs, .d xk => (match keyOf xk with
    | some k => if keyFor w kvs k = true then (match valD kvs k with | some v => .ok (.d v) m | none => .no) else .no
    | none => .no)
  | _, _ => .no
def mDGet (a b : EM W) : EM W := mOp2 a b fDGet
def rDGetC : R2 := fun x y H Q => ∃ a0 H3, Conv a0 H H3 ∧ ∃ a v, x = .ref a ∧ DGet H3 a y (some v) ∧ Q v H3
theorem bi_dget {X : Cx} : Bi2 X rDGetC fDGet := by
  intro E Hd al m H w v w2 v2 R Q s r1 r2 P k'
  unfold fDGet at P
  split at P
  · rename_i kvs xk hd
    split at P
    · rename_i k hk
      split at P
      · rename_i ok
        obtain ⟨a, H3, rfl, c, g, st, t⟩ := tab_at s r1 hd ok
        have q := tab_get t hk (r2.2.ext g.ext)
        split at P
        · rename_i x hx
          rw [hx] at q
          obtain ⟨u, q1, q2⟩ := q
          exact ⟨a, H3, c, a, u, rfl, q1, k' _ _ _ _ _ _ (P al none H3 g st) ⟨rfl, q2⟩⟩
        · exact P.elim
      · exact P.elim
    · exact P.elim
  · exact P.elim
section
variable {X : Cx} {E : St → XK} {ea eb ec : Expr} {a b c : EM W} {pos apos cpos : Pos}
theorem den_dget (hu : X.A.units + 65 < cLine) (ha : Den X E ea a) (hb : Den X E eb b) (hs : NoSl eb := by exact fun _ _ => rfl) : Den X E (.Subscript ea eb pos) (mDGet a b) := PE.imp (pe_dget (by omega) ha (pe_conv hb) hs) fun σ H Q q => by
  have z : tOp rDGetC (tM X.K X.mg E a) (tM X.K X.mg E b) σ H Q := tM_op bi_dget q
  obtain ⟨Hd, al, rho, m, s, e, P⟩ := z
  refine ⟨Hd, al, rho, m, s, e, P.imp fun w al1 p1 m1 H1 g s1 k v rv => ?_⟩
  obtain ⟨Hd, al, rho, m, s, e, P⟩ := k v rv
  exact ⟨Hd, al, rho, m, s, e, P.imp fun w2 al2 p2 m2 H2 g2 s2 k2 v2 rv2 => k2 v2 rv2⟩

/-! ### d.get(k, x) -/
def fDGet2 (w y z : W) (m : Mem) : Rs W := match dictAt m w, y with
  | some kvs, .d xk => (match keyOf xk with
    | some k => if keyFor w kvs k = true then (match valD kvs k with | some v => .ok (.d v) m | none => .ok z m) else .no
    | none => .no)
  | _, _ => .no
def mDGet2 (a b c : EM W) : EM W := fun rho m => (a rho m).bindV fun w m1 => match dictAt m1 w with
  | some _ => (b rho m1).bindV fun y m2 => (c rho m2).bindV fun z m3 => fDGet2 w y z m3
  | none => .no
theorem dget2_core {E : XK} {Hd : Addr → Prop} {al : List Addr} {m : Mem} {H : Hp} {w y z : W} {v2 v3 : V} {a : Addr} {Q : VK} (s : Stt X.K Hd al none H m) (r1 : RepW X.K X.mg (Own Hd al m none) none al H w (.ref a)) (r2 : RepW X.K X.mg (Own Hd al m none) none al H y v2)
    (r3 : RepW X.K X.mg (Own Hd al m none) none al H z v3) (P : Post X.K X.mg Hd al m H E (fDGet2 w y z m) fun w al' p m' H' => ∀ v, RepW X.K X.mg (Own Hd al' m' p) p al' H' w v → Q v H') : ∃ a0 H3, Conv a0 H H3 ∧ ∃ o, DGet H3 a v2 o ∧ Q (o.getD v3) H3 := by
  unfold fDGet2 at P
  split at P
  · rename_i kvs xk hd
    split at P
    · rename_i k hk
      split at P
      · rename_i ok
        obtain ⟨a', H3, e, c, g, st, t⟩ := tab_at s r1 hd ok
        cases e
        have q := tab_get t hk (r2.2.ext g.ext)
        split at P
        · rename_i x hx
          rw [hx] at q
          obtain ⟨u, q1, q2⟩ := q
          exact ⟨a, H3, c, some u, q1, P al none H3 g st _ ⟨rfl, q2⟩⟩
        · rename_i hx
          rw [hx] at q
          exact ⟨a, H3, c, none, q, P al none H3 g st _ (r3.go g)⟩
      · exact P.elim
    · exact P.elim
  · exact P.elim
theorem den_dget2 (hu : X.A.units + 65 < cLine) (ha : Den X E ea a) (hb : Den X E eb b) (hc : Den X E ec c) (mm : M2 X ea "get" apos eb ec cpos := by exact ⟨rfl, rfl, rfl, rfl⟩) : Den X E (.Call (.Attribute ea "get" apos) [eb, ec] [] cpos) (mDGet2 a b c) :=
  PE.imp (pe_dget2 (by omega) ha hb (pe_conv hc) mm) fun σ H Q q => by
    obtain ⟨Hd, al, rho, m, s, e, P⟩ := q
    refine ⟨Hd, al, rho, m, s, e, (Post.bindV P).imp fun w al1 p1 m1 H1 g s1 k v rv => ?_⟩
    obtain ⟨g1, s1', rv1, P1⟩ := k v rv
    split at P1
    · rename_i kvs hd
      obtain ⟨a0, e0, hD⟩ := tab_isD (O := fun _ => True) (a := 0) (kvs := kvs) s1' rv1 hd
      subst e0
      refine ⟨a0, rfl, hD, Hd, al1, rho, m1, s1', e.go g1, (Post.bindV P1).imp fun w2 al2 p2 m2 H2 g2 s2 k2 v2 rw2 => ?_⟩
      obtain ⟨g3, s2', rv2, P2⟩ := k2 v2 rw2
      refine ⟨Hd, al2, rho, m2, s2', (e.go g1).go g3, (Post.bindV P2).imp fun w3 al3 p3 m3 H3 g4 s3 k3 v3 rw3 => ?_⟩
      obtain ⟨g5, s3', rv3, P3⟩ := k3 v3 rw3
      obtain ⟨b0, H4, cv, o, z1, z2⟩ := dget2_core s3' ((rv1.go g3).go g5) (rv2.go g5) rv3 P3
      exact ⟨b0, H4, cv, o, z1, z2⟩
    · exact P1.elim

/-! ### d[k] = v -/
def fDPut (w y v : W) (m : Mem) (rho : Env) : Out := match w, y, frz m v with
  | .r n, .d xk, some (x, m1) => (match m1[n]?, keyOf xk with
    | some (some (.dict kvs)), some k => if okKey kvs k && small (kvs.length + 1) then .nx rho (m1.set n (some (.dict (putDt kvs k xk x)))) else .no
    | _, _ => .no)
  | _, _, _ => .no
def sDPutM (a b c : EM W) : SM := fun rho m => (c rho m).thenV rho fun v m1 => (a rho m1).thenV rho fun w m2 => (b rho m2).thenV rho fun y m3 => fDPut w y v m3 rho
theorem put_dict {K : PySem.W.Frag} {Hd : Addr → Prop} {al : List Addr} {m : Mem} {H : Hp} {n : Nat} {a : Addr} {x : D} {u : HO} {kvs : List (D × D)} (s : Stt K Hd al none H m) (ha : al[n]? = some a) (hx : m[n]? = some (some x))
    (h : (∃ kz, u = .dK kz ∧ RepK K (Own Hd al m none) H kvs kz) ∨ ∃ kz, u = .dT kz ∧ RepT K (Own Hd al m none) H kvs kz) :
    Go Hd al m none H al (m.set n (some (.dict kvs))) none (upd H a u) ∧ Stt K Hd al none (upd H a u) (m.set n (some (.dict kvs))) := by
  have g := go_put (y := .dict kvs) (o := u) s ha hx
  refine ⟨g, stt_put s ha hx ?_⟩
  rcases h with ⟨kz, rfl, r⟩ | ⟨kz, rfl, r⟩
  · exact .inl ⟨kz, upd_same, RepK.ext g.ext _ _ r⟩
  · exact .inr ⟨kz, upd_same, RepT.ext g.ext _ _ r⟩
theorem dput_core {E : St → XK} {Dn : Ends} {σ : St} {Hd : Addr → Prop} {al : List Addr} {m : Mem} {H : Hp} {rho : Env} {w y z : W} {v1 v2 v3 : V} (s : Stt X.K Hd al none H m) (e : EnvOk X.K X.mg (Own Hd al m none) al H rho σ) (r1 : RepW X.K X.mg (Own Hd al m none) none al H w v1)
    (r2 : RepW X.K X.mg (Own Hd al m none) none al H y v2) (r3 : RepW X.K X.mg (Own Hd al m none) none al H z v3) (P : PostS X.K X.mg Hd al m H E Dn (fDPut w y z m rho)) :
    ∃ a0 H3, Conv a0 H H3 ∧ ∃ a H4, v1 = .ref a ∧ DPut H3 a v2 v3 H4 ∧ Dn.nx σ H4 := by
  unfold fDPut at P
  split at P
  · rename_i n xk x m1 hf
    split at P
    · rename_i kvs k hm hk
      split at P
      · rename_i ok
        rw [Bool.and_eq_true] at ok
        obtain ⟨s1, g1, rx⟩ := frz_ok s r3 hf
        obtain ⟨a, ha, rfl⟩ := r1.2
        have hd : dictAt m1 (.r n) = some kvs := by unfold dictAt peek; dsimp only; rw [hm]; rfl
        obtain ⟨a', H3, e0, c, g2, s2, t⟩ := tab_at (mg := X.mg) s1 (w := .r n) (v := .ref a) ⟨rfl, a, ha, rfl⟩ hd (by unfold keyFor; rw [ok.1]; rfl)
        cases e0
        have rx2 := rx.ext g2.ext
        have hy := (r2.2.ext g1.ext).ext g2.ext
        have hsz := small_line ok.2
        have ob := s2.ob n a _ ha hm
        have ee := (e.go g1).go g2
        cases k with
        | inl k =>
          obtain ⟨kz, h1, h2⟩ := t
          have h1' : H3 a = some (.dK kz) := by
            rcases h1 with h1 | ⟨o, h1⟩
            · exact h1
            · rcases ob with ⟨kz', q, _⟩ | ⟨kz', q, _⟩ <;> (rw [h1] at q; cases q)
          obtain ⟨g3, s3⟩ := put_dict (u := .dK (putK kz k v3)) s2 ha hm (.inl ⟨_, rfl, h2.put rx2⟩)
          rw [keyOf_l hk] at P hy
          refine ⟨a, H3, c, a, _, rfl, .inl ⟨kz, k, h1', key_kV hy, by rw [h2.len]; omega, rfl⟩, P al _ σ ((g1.trans g2).trans g3) s3 (ee.go g3)⟩
        | inr k =>
          obtain ⟨kz, h1, h2⟩ := t
          have h1' : H3 a = some (.dT kz) := by
            rcases h1 with h1 | ⟨o, h1⟩
            · exact h1
            · rcases ob with ⟨kz', q, _⟩ | ⟨kz', q, _⟩ <;> (rw [h1] at q; cases q)
          obtain ⟨g3, s3⟩ := put_dict (u := .dT (putK kz k v3)) s2 ha hm (.inr ⟨_, rfl, h2.put rx2⟩)
          rw [keyOf_r hk] at P hy
          obtain ⟨b, vs, rfl, q1, q2⟩ := hy
          rw [keys_kV q2] at q1
          refine ⟨a, H3, c, a, _, rfl, .inr ⟨kz, k, b, h1', rfl, q1, by rw [h2.len]; omega, rfl⟩, P al _ σ ((g1.trans g2).trans g3) s3 (ee.go g3)⟩
      · exact P.elim
    · exact P.elim
  · exact P.elim
theorem ds_dput {p2 : Pos} (hu : X.A.units + 65 < cLine) (ha : Den X E ea a) (hb : Den X E eb b) (hc : Den X E ec c) (hs : swapsWith ec (some (.Subscript ea eb p2)) pos.line X.env = pure false := by rfl) : DenS X E (.Assign [.Subscript ea eb p2] ec pos) (sDPutM a b c) :=
  PS.imp (ps_dput (by omega) ha (pe_conv hb) hc hs) fun Dn σ H q => by
    obtain ⟨Hd, al, rho, m, s, e, P⟩ := q
    refine ⟨Hd, al, rho, m, s, e, (PostS.ofV e P).imp fun z al1 p1 m1 H1 g s1 k v3 rv => ?_⟩
    obtain ⟨g1, s1', rv1, P1⟩ := k v3 rv
    refine ⟨Hd, al1, rho, m1, s1', e.go g1, (PostS.ofV (e.go g1) P1).imp fun w al2 p2 m2 H2 g2 s2 k2 v1 rw2 => ?_⟩
    obtain ⟨g3, s2', rv2, P2⟩ := k2 v1 rw2
    refine ⟨Hd, al2, rho, m2, s2', (e.go g1).go g3, (PostS.ofV ((e.go g1).go g3) P2).imp fun y al3 p3 m3 H3 g4 s3 k3 v2 rw3 => ?_⟩
    obtain ⟨g5, s3', rv3, P3⟩ := k3 v2 rw3
    obtain ⟨a0, H4, cv, d, H5, z1, z2, z3⟩ := dput_core s3' (((e.go g1).go g3).go g5) (rv2.go g5) rv3 ((rv1.go g3).go g5) P3
    exact ⟨a0, H4, cv, d, H5, z1, z2, z3⟩
end

/-! ### for k in d: the dict is locked from then on -/
def LockTo (d : Addr) (u : HO) (H H2 : Hp) (o : Obj) : Prop := H2 d = some (.frz o u) ∧ (H2 = H ∨ (H d = some u ∧ H2 = upd H d (.frz o u)))
def tGLock (t : TE) : TE := fun σ H Q => t σ H fun v H1 => ∃ d u, v = .ref d ∧ Rd H1 d u ∧ Mut (some u) ∧ ∀ o H2, LockTo d u H1 H2 o → Q v H2
theorem pe_glock {X : Cx} {e : Expr} {t : TE} (h : PE X e t) : PE X e (tGLock t) := ⟨fun pins s σ H Q I q => thn (h.run pins s σ H _ I q) fun u s1 hh => by
  obtain ⟨x, H1, I1, r, d, ob, rfl, hd, mu, q2⟩ := hh
  rcases hd with hd | ⟨o, hd⟩
  · obtain ⟨od, I2⟩ := I1.lock hd mu
    exact ⟨.ref d, _, I2, r, q2 od _ ⟨upd_same, .inr ⟨hd, rfl⟩⟩⟩
  · exact ⟨.ref d, H1, I1, r, q2 o H1 ⟨hd, .inl rfl⟩⟩⟩
section
variable {K : PySem.W.Frag} {Hd : Addr → Prop} {al : List Addr} {m : Mem} {H H2 : Hp} {d : Addr} {o : Obj} {u : HO}
theorem lock_ok (s : Stt K Hd al none H m) (nd : ¬ Own Hd al m none d) (l : LockTo d u H H2 o) (lk : Lk u (.frz o u)) (nt : ∀ vs, u ≠ .tup vs) (nf : ∀ o' u', u ≠ .frz o' u') : Go Hd al m none H al m none H2 ∧ Stt K Hd al none H2 m := by
  obtain ⟨_, rfl | ⟨h, rfl⟩⟩ := l
  · exact ⟨Go.refl, s⟩
  · have ex : Ext (Own Hd al m none) H (Own Hd al m none) (upd H d (.frz o u)) := by
      refine ⟨fun b vs hb => ?_, fun b ob w hb => ?_, fun b ob hb nb => ?_, fun b z => .inl z⟩
      · by_cases e : b = d
        · subst e; rw [h] at hb; cases hb; exact (nt _ rfl).elim
        · rw [upd_ne e]; exact hb
      · by_cases e : b = d
        · subst e; rw [h] at hb; cases hb; exact (nf _ _ rfl).elim
        · rw [upd_ne e]; exact hb
      · by_cases e : b = d
        · subst e; rw [h] at hb; cases hb; exact ⟨_, upd_same, lk⟩
        · exact ⟨ob, by rw [upd_ne e]; exact hb, .refl ob⟩
    have ne : ∀ {b : Addr}, Own Hd al m none b → b ≠ d := fun hb e => nd (e ▸ hb)
    refine ⟨⟨ex, fun _ _ h => h, fun b ob hb hh => by rw [upd_ne (ne (.inr (.inl hb)))]; exact hh⟩, ⟨s.len, fun r b x h1 h2 => ?_, s.inj, s.pnd, fun b hb => ?_⟩⟩
    · exact (s.ob r b x h1 h2).stay ex (upd_ne (ne (.inl ⟨r, h1, x, h2⟩)))
    · obtain ⟨⟨w, hw⟩, q2, q3⟩ := s.hin b hb
      exact ⟨⟨w, by rw [upd_ne (ne (.inr (.inl hb)))]; exact hw⟩, q2, q3⟩
theorem RepK.keyAt {O : Addr → Prop} : ∀ {kvs : List (D × D)} {kz : List (Key × V)} {i : Nat} {k : Key} {v : V}, RepK K O H kvs kz → kz[i]? = some (k, v) → (kvs.map (·.1))[i]? = some (keyD k)
  | [], _, _, _, _, h, e => by rw [show _ = [] from h] at e; simp at e
  | (a, b) :: kvs, _, 0, k, v, ⟨key, u, r, h1, h2, _, _⟩, e => by
    subst h1 h2; simp at e; obtain ⟨rfl, rfl⟩ := e; rfl
  | (a, b) :: kvs, _, i + 1, k, v, ⟨key, u, r, h1, _, _, h4⟩, e => by
    subst h1
    rw [List.map_cons, List.getElem?_cons_succ]
    exact RepK.keyAt h4 (by simpa using e)
theorem RepT.keyAt {O : Addr → Prop} : ∀ {kvs : List (D × D)} {kz : List (List Key × V)} {i : Nat} {k : List Key} {v : V}, RepT K O H kvs kz → kz[i]? = some (k, v) → (kvs.map (·.1))[i]? = some (.tuple (k.map keyD))
  | [], _, _, _, _, h, e => by rw [show _ = [] from h] at e; simp at e
  | (a, b) :: kvs, _, 0, k, v, ⟨key, u, r, h1, h2, _, _⟩, e => by
    subst h1 h2; simp at e; obtain ⟨rfl, rfl⟩ := e; rfl
  | (a, b) :: kvs, _, i + 1, k, v, ⟨key, u, r, h1, _, _, h4⟩, e => by
    subst h1
    rw [List.map_cons, List.getElem?_cons_succ]
    exact RepT.keyAt h4 (by simpa using e)
end
theorem itD_keysK {X : Cx} {O : Addr → Prop} {H : Hp} {d : Addr} {o : Obj} {kvs : List (D × D)} {kz : List (Key × V)} (hf : H d = some (.frz o (.dK kz))) (r : RepK X.K O H kvs kz) : ItD X O H (Itk d o kz) (kvs.map (·.1)) where
  go := fun i O' H' e hi => ⟨e.frz _ _ _ hf, by rw [r.len]; rwa [List.length_map] at hi⟩
  yld := fun i O' H' x v H'' e hx hy => by
    obtain ⟨e1, k, u, h1, h2⟩ := hy
    subst e1 h2
    rw [r.keyAt h1] at hx
    cases hx
    exact ⟨.inl rfl, kV_rep k⟩
  stop := fun O' H' e => ⟨e.frz _ _ _ hf, by rw [r.len, List.length_map]; exact Nat.le_refl _⟩
theorem itD_keysT {X : Cx} {O : Addr → Prop} {H : Hp} {d : Addr} {o : Obj} {kvs : List (D × D)} {kz : List (List Key × V)} (hf : H d = some (.frz o (.dT kz))) (r : RepT X.K O H kvs kz) : ItD X O H (Itkt d o kz) (kvs.map (·.1)) where
  go := fun i O' H' e hi => ⟨e.frz _ _ _ hf, by rw [r.len]; rwa [List.length_map] at hi⟩
  yld := fun i O' H' x v H'' e hx hy => by
    obtain ⟨e1, k, u, q, h1, h2, h3⟩ := hy
    subst e1 h2
    rw [r.keyAt h1] at hx
    cases hx
    exact ⟨.inl rfl, q, _, rfl, h3, kVs_rep k⟩
  stop := fun O' H' e => ⟨e.frz _ _ _ hf, by rw [r.len, List.length_map]; exact Nat.le_refl _⟩
def mKeys (a : EM W) : EM (List D) := fun rho m => (a rho m).bindV fun w m1 => match w with | .d (.dict kvs) => .ok (kvs.map (·.1)) m1 | _ => .no
theorem di_keys {X : Cx} {E : St → XK} {tg iter : Expr} {a : EM W} (h : Den X E iter a) : DenI X E tg iter (mKeys a) := PI.imp (pi_keys (pe_glock h)) fun σ H R q => by
  obtain ⟨Hd, al, rho, m, s, e, P⟩ := q
  refine ⟨Hd, al, rho, m, s, e, (Post.bindV P).imp fun w al1 p1 m1 H1 g s1 k v rv => ?_⟩
  obtain ⟨g1, s1', rv1, P1⟩ := k v rv
  split at P1
  · rename_i kvs hw
    rw [hw] at rv1
    obtain ⟨_, d, rfl, nd, q⟩ := rv1
    rcases q with ⟨kz, hk, r⟩ | ⟨kz, hk, r⟩
    · refine ⟨d, .dK kz, rfl, hk, True.intro, fun o H2 l => ?_⟩
      obtain ⟨g2, s2⟩ := lock_ok s1' nd l (.k o kz) (fun _ z => nomatch z) (fun _ _ z => nomatch z)
      exact ⟨d, o, rfl, .inl ⟨kz, l.1, P1 al1 none H2 g2 s2 rfl _ (itD_keysK l.1 (RepK.ext g2.ext _ _ r))⟩⟩
    · refine ⟨d, .dT kz, rfl, hk, True.intro, fun o H2 l => ?_⟩
      obtain ⟨g2, s2⟩ := lock_ok s1' nd l (.t o kz) (fun _ z => nomatch z) (fun _ _ z => nomatch z)
      exact ⟨d, o, rfl, .inr ⟨kz, l.1, P1 al1 none H2 g2 s2 rfl _ (itD_keysT l.1 (RepT.ext g2.ext _ _ r))⟩⟩
  · exact P1.elim

/-! ### dict(pairs), keys ints and texts -/
def pairsK : List D → Option (List (Key × D))
  | [] => some []
  | .tuple [a, b] :: ds => (match keyK a, pairsK ds with | some k, some r => some ((k, b) :: r) | _, _ => none)
  | _ => none
def mergeD (acc : List (D × D)) (kds : List (Key × D)) : List (D × D) := kds.foldl (fun acc kd => putDt acc (.inl kd.1) (keyD kd.1) kd.2) acc
def fDictP : List W → Mem → Rs W
  | [w], m => (match peek m w with | some (.list ds) => (match pairsK ds with | some kds => .ok (.n (.dict (mergeD [] kds))) m | none => .no) | _ => .no)
  | _, _ => .no
section
variable {K : PySem.W.Frag} {O : Addr → Prop} {H : Hp}
theorem pairs_rep : ∀ {ds : List D} {vs : List V} {kds : List (Key × D)}, RepDs K O H ds vs → pairsK ds = some kds →
    ∃ (ps : List Addr) (kvs : List (Key × V)), vs = ps.map V.ref ∧ Paired (fun p (kv : Key × V) => SqT K H p [kV kv.1, kv.2]) ps kvs ∧ Paired (fun (kd : Key × D) (kv : Key × V) => kd.1 = kv.1 ∧ RepD K O H kd.2 kv.2) kds kvs
  | [], _, _, h, e => by cases e; rw [show _ = [] from h]; exact ⟨[], [], rfl, .nil, .nil⟩
  | x :: ds, _, kds, ⟨v, r, h1, h2, h3⟩, e => by
    unfold pairsK at e
    split at e
    · cases ‹x :: ds = []›
    · rename_i a b ds' ex
      cases ex
      split at e
      · rename_i k r' hk hr
        cases e
        obtain ⟨t, us, rfl, q1, u1, _, rfl, w1, u2, _, rfl, w2, q2⟩ := h2
        rw [show _ = [] from q2] at q1
        rw [keyK_inv hk] at w1
        rw [key_kV w1] at q1
        obtain ⟨ps, kvs, e1, e2, e3⟩ := pairs_rep h3 hr
        exact ⟨t :: ps, (k, u2) :: kvs, by rw [h1, e1]; rfl, .cons (sqP q1) e2, .cons ⟨rfl, w2⟩ e3⟩
      · cases e
    · cases e
theorem merge_rep : ∀ {kds : List (Key × D)} {kvs : List (Key × V)} {acc : List (D × D)} {kz : List (Key × V)}, Paired (fun (kd : Key × D) (kv : Key × V) => kd.1 = kv.1 ∧ RepD K O H kd.2 kv.2) kds kvs → RepK K O H acc kz → RepK K O H (mergeD acc kds) (mergeK kz kvs)
  | _, _, _, _, .nil, h => h
  | (k, x) :: kds, (k', v) :: kvs, acc, kz, .cons ⟨e, hx⟩ t, h => by
    cases (show k = k' from e)
    exact merge_rep (kds := kds) (kvs := kvs) t (h.put hx)
end
theorem ca_dictP {X : Cx} : Ca X (fun xs H Q => ∃ (a : Addr) (ps : List Addr) (kvs : List (Key × V)), xs = [.ref a] ∧ SqL X.K H a (ps.map V.ref) ∧ Paired (fun p kv => SqT X.K H p [kV kv.1, kv.2]) ps kvs ∧
    ∀ p, H p = none → Q (.ref p) (upd H p (.dK (mergeK [] kvs)))) fDictP := by
  intro E Hd al m H ws vs R Q s rv P k
  match ws, rv with
  | [w], ⟨v, _, h1, h2, h3⟩ =>
    subst h1
    rw [show _ = [] from h3]
    unfold fDictP at P
    dsimp only at P
    split at P
    · rename_i ds hx
      split at P
      · rename_i kds hk
        obtain ⟨a, us, rfl, q1, q2⟩ := peek_ok s h2 hx
        obtain ⟨ps, kvs, e1, e2, e3⟩ := pairs_rep q2 hk
        subst e1
        refine ⟨a, ps, kvs, rfl, .inl (.inl q1), e2, fun p hp => k _ _ _ _ _ _ (P.made s hp) ⟨p, rfl, rfl, .inl ⟨_, upd_same, RepK.ext (go_new hp (.inr rfl)).ext _ _ (merge_rep e3 (show RepK X.K _ H [] [] from rfl))⟩⟩⟩
      · exact P.elim
    · exact P.elim
  | [], _ => exact P.elim
  | _ :: _ :: _, _ => exact P.elim

/-! ### a call without arguments -/
section
variable {X : Cx} {E : St → XK} {k j : Nat} {x : Str} {fm : List W → Mem → Rs W} {p pos : Pos}
theorem den_call0 (C : CalG X.prog X.w X.K X.mg X.base k x 0 fm) (hr : Room j X.A) (hgu : X.A.guards = some []) (hx : ∀ σ, PassesAt (L2N.CX X.prog X.w) X σ (E σ)) (hk : k ≤ j := by decide) (hg : Gl X x := by rfl)
    (hdb : (x == ("__debug__" : Str)) = false := by decide) : Den X E (.Call (.Name x p) [] [] pos) (mCall 0 fm mNil) := by
  obtain ⟨f, fd, ps, F, hm, kp, hb, hn⟩ := C.ex
  refine ⟨fun pins s σ H Q I q => wpAny_Call_Name_kw (ld_glob I hg hm ?_ hdb)⟩
  refine PySem.W.callWith_K0 I.kIn kp ?_
  obtain ⟨Hd, al, rho, m, st, e, P⟩ := q
  exact run_G (vs := []) F (hr.mono hk) hgu hb (hx σ) I .nil ⟨Hd, al, [], m, rfl, st, rfl, P⟩
end
end Den
/-! Den22: list(d), sorted(d). -/
namespace Den
open PySem PySem.Spec PyProof.Rows L2

section
variable {prog : Program} {w : World} {A : Around} {d : Addr} {od : Obj} {es : Array DictEntry} {ep : Nat}
/-- a dict's entries as they lie, walked -/
theorem walks_raw {it : Addr} (hh : A.handled = none) (ne : d ≠ it) (hdt : od.data = .dict es ep) :
    Walks prog w A it [it, d] [it] es.size (fun i v => ∃ en, es[i]? = some en ∧ en.key = v) (fun i h => h.IsKeyIter it d i es.size ep ∧ h.get? d = some od) where
  sub := fun b hb => by rw [List.mem_singleton] at hb; rw [hb]; exact List.mem_cons_self
  frame := fun i h h' st k => ⟨st.1.at fun o e => k it List.mem_cons_self o e, k d (List.mem_cons_of_mem _ List.mem_cons_self) od st.2⟩
  item := fun i s Q E hi st hQ => by
    refine next_key_item st.1 st.2 hdt rfl (Array.getElem?_eq_getElem hi) fun h' st' sb => ?_
    have keep : ∀ b o, b ∉ [it] → s.heap.get? b = some o → h'.get? b = some o := fun b o hb e => (sb.2 b (fun z => hb (by rw [z]; exact List.mem_cons_self))).trans e
    exact hQ _ h' s.toks ⟨es[i], Array.getElem?_eq_getElem hi, rfl⟩ ⟨st', keep d od (fun z => ne (List.mem_singleton.mp z)) st.2⟩ keep
  done := fun s Q E st hQ => next_key_end hh st.1 st.2 hdt rfl (Nat.le_refl _) fun h' eb => hQ h' s.toks fun b o hb e => eb b o (fun z => hb (by rw [z]; exact List.mem_cons_self)) e
  self := fun i s Q E st hQ => wpAny_pyIter_keyiter st.1 hQ
theorem src_raw (lo : (d == sysModules) = false) (hx : od.ExactDict) (hdt : od.data = .dict es ep) :
    PySem.W.KdlSrc prog w "dict" d d es.size (fun i v => ∃ en, es[i]? = some en ∧ en.key = v) (fun h => h.get? d = some od) where
  type := fun s e => ⟨od, e, hx.1⟩
  there := fun h e => ⟨Heap.lt_size e, Heap.lt_size e⟩
  keep := fun h h' e k => k d (.inl rfl) od e
  notList := by decide
  notTuple := by decide
  hint := fun A E s Q e hq => PySem.W.kdl_hint_dict ⟨od, e, hx.1⟩ hq
  iter := fun A s hh e => ⟨_, _, fun E Q hq => iter_keys lo e hx hdt hq, walks_raw hh (Nat.ne_of_lt (Heap.lt_size e)) hdt, ⟨⟨_, Heap.get?_push_size _ rfl, rfl, rfl⟩, Heap.get?_push_of_some _ e⟩⟩
end

/-! ### what the entries are -/
theorem paired_of {α β : Type} {G : α → β → Prop} : ∀ {xs : List α} {ys : List β}, xs.length = ys.length → (∀ (i : Nat) a b, xs[i]? = some a → ys[i]? = some b → G a b) → Paired G xs ys
  | [], [], _, _ => .nil
  | x :: xs, y :: ys, hl, h => .cons (h 0 x y rfl rfl) (paired_of (by simpa using hl) fun i a b e1 e2 => h (i + 1) a b (by simpa using e1) (by simpa using e2))
  | [], _ :: _, hl, _ => by simp at hl
  | _ :: _, [], hl, _ => by simp at hl
/-- the keys of the dict at d as values -/
def KeysV (H : Hp) (d : Addr) (ys : List V) : Prop :=
  (∃ kz : List (Key × V), Rd H d (.dK kz) ∧ ys = kz.map fun p => kV p.1) ∨ ∃ kz : List (List Key × V), Rd H d (.dT kz) ∧ Paired (fun (p : List Key × V) y => ∃ q, y = .ref q ∧ H q = some (.tup (p.1.map kV))) kz ys
section
variable {X : Cx} {pins : List (Addr × Obj)} {σ : St} {H : Hp} {s : Shared} {d : Addr}
theorem keys_raw (I : Inv X pins σ H s) (h : IsD H d) : (d == sysModules) = false ∧ ∃ (od : Obj) (es : Array DictEntry) (ep : Nat), s.heap.get? d = some od ∧ od.ExactDict ∧ od.data = .dict es ep ∧ es.size ≤ sizeLine ∧
    ∀ its : List Value, its.length = es.size → (∀ (j : Nat) v, its[j]? = some v → ∃ en, es[j]? = some en ∧ en.key = v) → ∃ ys, KeysV H d ys ∧ Vals ys its := by
  rcases h with ⟨kz, h⟩ | ⟨kz, h⟩
  · obtain ⟨z, hd, vs, kv, od, es, ep, ho, hx, hdt, hk, hp, hn⟩ := dk_rd I.hok h
    have l1 : es.toList.length = vs.length := hp.length
    have l2 : kz.length = vs.length := Paired.length kv
    rw [Array.length_toList] at l1
    refine ⟨hd, od, es, ep, ho, hx, hdt, by omega, fun its hl hi => ⟨kz.map fun p => kV p.1, .inl ⟨kz, h, rfl⟩, paired_of (by rw [List.length_map]; omega) fun i a b e1 e2 => ?_⟩⟩
    obtain ⟨en, q1, q2⟩ := hi i b e2
    rw [List.getElem?_map] at e1
    cases e3 : kz[i]? with
    | none => rw [e3] at e1; cases e1
    | some p =>
      obtain ⟨k, v⟩ := p
      rw [e3] at e1
      cases e1
      obtain ⟨u, hu, ru⟩ := kv_get kv e3
      have key : ∀ {l : List DictEntry} {m : List (Key × Value)}, Pairs (mixKind X.prog X.w) l m → ∀ {i : Nat} {en : DictEntry} {k : Key} {u : Value}, l[i]? = some en → m[i]? = some (k, u) → keyIs k en.key = true := by
        intro l m hp
        induction hp with
        | nil => intro i en k u e; simp at e
        | cons h1 h2 h3 ih =>
          intro i en k u e e'
          cases i with
          | zero => simp at e e'; subst e e'; exact h1
          | succ i => exact ih (by simpa using e) (by simpa using e')
      rw [← q2]
      exact relV_key (key hp (by rw [Array.getElem?_toList]; exact q1) hu)
  · obtain ⟨z, hd, xs, pr, od, es, ep, ho, hx, hdt, he, hn⟩ := (show ObjOk X.prog X.w H s.heap d (.dT kz) from rd_of I.hok h)
    have l1 : es.size = xs.length := size_of_entries he
    have l2 : kz.length = xs.length := Paired.length pr
    refine ⟨hd, od, es, ep, ho, hx, hdt, by omega, fun its hl hi => ⟨xs.map fun p => V.ref p.2.1, .inr ⟨kz, h, paired_of (by rw [List.length_map]; omega) fun i a b e1 e2 => ?_⟩, paired_of (by rw [List.length_map]; omega) fun i a b e1 e2 => ?_⟩⟩
    · obtain ⟨q, hq, _, g2, _⟩ := paired_get pr e1
      rw [List.getElem?_map, hq] at e2
      cases e2
      exact ⟨q.2.1, rfl, g2⟩
    · obtain ⟨en, q1, q2⟩ := hi i b e2
      rw [List.getElem?_map] at e1
      cases e3 : xs[i]? with
      | none => rw [e3] at e1; cases e1
      | some p =>
        rw [e3] at e1
        cases e1
        have q := entry_at he i
        rw [e3, q1] at q
        have q' : en = entryOfKey (tupleKind (mixKind X.prog X.w)) p := Option.some.inj q
        rw [← q2, q']
        exact rfl
end

/-! ### list(d) -/
def rListK : List V → Hp → VK → Prop := fun xs H Q => ∃ d, xs = [.ref d] ∧ IsD H d ∧ ∀ ys, KeysV H d ys → ∀ p, H p = none → Q (.ref p) (upd H p (.lst ys))
theorem cr_listK {X : Cx} (hc : X.calm = true) : CallR X (.type "list") rListK := by
  intro pins s σ H xs us Q I r q
  obtain ⟨d, rfl, hD, q⟩ := q
  rw [Vals.ref1 r]
  obtain ⟨lo, od, es, ep, ho, hx, hdt, hz, hk⟩ := keys_raw I hD
  refine PySem.W.kdl_call (src_raw lo hx hdt) (I.ok.hd hc) ho hz fun h' tk acc c' keep hL hi => ?_
  obtain ⟨ys, ky, rv⟩ := hk acc.toList (by rw [Array.length_toList]; exact hi.1) fun j v e => hi.2 j v (by rw [← Array.getElem?_toList]; exact e)
  have hl : ys.length = acc.toList.length := rv.length
  have i1 := hi.1
  exact ⟨.ref s.heap.objs.size, _, I.laid (t' := tk) (a := s.heap.objs.size) (o := .lst ys) keep (Nat.le_refl _) (show _ ∧ _ from ⟨by rw [hl, Array.length_toList]; omega, acc.toList, c', rv, by rw [Array.toArray_toList]; exact hL⟩), rfl, q ys ky _ (I.hok.fresh (Nat.le_refl _))⟩
section
variable {K : PySem.W.Frag} {O : Addr → Prop} {H : Hp}
theorem keysV_repK : ∀ {kvs : List (D × D)} {kz : List (Key × V)}, RepK K O H kvs kz → RepDs K O H (kvs.map (·.1)) (kz.map fun p => kV p.1)
  | [], _, h => by rw [show _ = [] from h]; exact rfl
  | (a, b) :: kvs, _, ⟨key, v, r, h1, h2, _, h4⟩ => by subst h1 h2; exact ⟨_, _, rfl, kV_rep key, keysV_repK h4⟩
theorem keysV_repT : ∀ {kvs : List (D × D)} {kz : List (List Key × V)} {ys : List V}, RepT K O H kvs kz → Paired (fun (p : List Key × V) y => ∃ q, y = .ref q ∧ H q = some (.tup (p.1.map kV))) kz ys → RepDs K O H (kvs.map (·.1)) ys
  | [], _, _, h, p => by rw [show _ = [] from h] at p; cases p; exact rfl
  | (a, b) :: kvs, _, _, ⟨key, v, r, h1, h2, _, h4⟩, p => by
    subst h1 h2
    cases p with
    | cons g t =>
      obtain ⟨q, rfl, g⟩ := g
      exact ⟨_, _, rfl, ⟨q, _, rfl, g, kVs_rep key⟩, keysV_repT h4 t⟩
theorem rd_one {d : Addr} {u u' : HO} (h : Rd H d u) (h' : Rd H d u') (n : ∀ o v, u ≠ .frz o v) (n' : ∀ o v, u' ≠ .frz o v) : u = u' := by
  rcases h with h | ⟨o, h⟩ <;> rcases h' with h' | ⟨o', h'⟩ <;> rw [h] at h' <;> cases h'
  · rfl
  · exact (n _ _ rfl).elim
  · exact (n' _ _ rfl).elim
  · rfl
theorem keysV_rep {d : Addr} {kvs : List (D × D)} {ys : List V} (h : (∃ kz, Rd H d (.dK kz) ∧ RepK K O H kvs kz) ∨ ∃ kz, Rd H d (.dT kz) ∧ RepT K O H kvs kz) (k : KeysV H d ys) : RepDs K O H (kvs.map (·.1)) ys := by
  rcases h with ⟨kz, h1, h2⟩ | ⟨kz, h1, h2⟩ <;> rcases k with ⟨kz', k1, k2⟩ | ⟨kz', k1, k2⟩
  · cases rd_one h1 k1 (fun _ _ z => nomatch z) (fun _ _ z => nomatch z)
    rw [k2]; exact keysV_repK h2
  · cases rd_one h1 k1 (fun _ _ z => nomatch z) (fun _ _ z => nomatch z)
  · cases rd_one h1 k1 (fun _ _ z => nomatch z) (fun _ _ z => nomatch z)
  · cases rd_one h1 k1 (fun _ _ z => nomatch z) (fun _ _ z => nomatch z)
    exact keysV_repT h2 k2
end
def keysD : D → Option (List D)
  | .dict kvs => some (kvs.map (·.1))
  | _ => none
theorem ca_listK {X : Cx} : Ca X rListK (fN1 keysD) := ca_N1 fun O H x v ys Q rv e k => by
  cases x with
  | dict kvs =>
    cases e
    obtain ⟨d, rfl, h⟩ := rv
    exact ⟨d, rfl, h.imp (fun ⟨kz, h, _⟩ => ⟨kz, h⟩) fun ⟨kz, h, _⟩ => ⟨kz, h⟩, fun us ku p hp => k p us hp (keysV_rep h ku)⟩
  | _ => cases e

/-! ### sorted(d) -/
section
variable {prog : Program} {w : World} {A : Around} {E : Value → Shared → Prop} {s : Shared}
theorem collect_src {T : String} {r d : Addr} {n : Nat} {P : Nat → Value → Prop} {OK : Heap → Prop} {Q : List Value → Shared → Prop} (S : PySem.W.KdlSrc prog w T r d n P OK) (hh : A.handled = none) (ok : OK s.heap) (hn : n ≤ sizeLine)
    (hQ : ∀ h' tk (its : List Value), (∀ b o, s.heap.get? b = some o → h'.get? b = some o) → its.length = n → (∀ (j : Nat) v, its[j]? = some v → P j v) → Q its { s with heap := h', toks := tk }) : wpAny (model prog w) A (collect (.ref r)) Q E s := by
  unfold collect
  refine wpAny_bind (wpAny_runValue (codeAny_builtin PySem.F.entry_proto_collect ?_))
  rw [Around.under_plainId PySem.F.plain_proto_collect _]
  show wpAny _ A.in1 (newList [] >>= fun fresh => again (.builtin "list.__iadd__" ⟨[fresh, .ref r], []⟩)) _ _ s
  refine wpAny_bind (wpAny_newObj_type (wpAny_pure ⟨plainId_quiet PySem.F.plain_list_iadd _, codeAny_builtin PySem.F.entry_list_iadd ?_⟩))
  rw [Around.under_plainId PySem.F.plain_list_iadd _]
  have lt := S.there _ ok
  have at0 : (s.heap.push { cls := .type "list", data := .seq ([] : List Value).toArray }).get? s.heap.objs.size = some { cls := .type "list", data := .seq #[] 0 } := Heap.get?_push_size _ rfl
  have end' : ∀ h' tk acc c', (∀ b o, s.heap.get? b = some o → h'.get? b = some o) → h'.get? s.heap.objs.size = some { cls := .type "list", dict := none, data := .seq acc c', slots := #[] } → ItemsOf P acc n →
      wpAny (model prog w) A (match Value.ref s.heap.objs.size with
        | Value.ref b => do
          match (← load b).data with
            | Data.seq us _ => pure us.toList
            | _ => unsupported "internal:collect"
        | _ => unsupported "internal:collect") Q E { s with heap := h', toks := tk } := by
    intro h' tk acc c' keep hL hi
    show wpAny _ A (load s.heap.objs.size >>= _) _ _ _
    refine wpAny_bind (wpAny_load hL (wpAny_pure (hQ h' tk acc.toList keep (by rw [Array.length_toList]; exact hi.1) fun j v e => hi.2 j v (by rw [← Array.getElem?_toList]; exact e))))
  show wpAny _ A.in1 (Builtin.List.listExtendWith (.ref s.heap.objs.size) (.ref r) (.ref s.heap.objs.size)) _ _ _
  refine wpAny_mono (PySem.W.kdl_extend (A := A) (s := { s with heap := s.heap.push { cls := .type "list", data := .seq ([] : List Value).toArray } })
    (R := fun res s' => ∃ h' tk acc c', res = .ok (.ret (.ref s.heap.objs.size)) ∧ s' = { s with heap := h', toks := tk } ∧ (∀ b o, s.heap.get? b = some o → h'.get? b = some o) ∧ h'.get? s.heap.objs.size = some { cls := .type "list", dict := none, data := .seq acc c', slots := #[] } ∧ ItemsOf P acc n)
    S hh (S.keep _ _ ok fun b _ o e => Heap.get?_push_of_some _ e) s.heap.objs.size (Nat.ne_of_gt lt.1) (Nat.ne_of_gt lt.2) (.ref s.heap.objs.size) 0 at0
    (fun h' tk acc c' keep hL hi => ⟨h', tk, acc, c', rfl, rfl, fun b o e => keep b o (Nat.ne_of_lt (Heap.lt_size e)) (Heap.get?_push_of_some _ e), hL, hi⟩) hn) (fun fin s' h => ?_) fun e s' h => ?_
  · cases fin with
    | done f =>
      obtain ⟨h', tk, acc, c', e, rfl, q1, q2, q3⟩ := h
      cases e
      exact end' h' tk acc c' q1 q2 q3
    | again code => exact ⟨h.1, codeAny_mono h.2 fun res s'' hr => by
        obtain ⟨h', tk, acc, c', rfl, rfl, q1, q2, q3⟩ := hr
        exact end' h' tk acc c' q1 q2 q3⟩
  · obtain ⟨_, _, _, _, e, _⟩ := h
    cases e
theorem sorted_src {T : String} {r d : Addr} {n : Nat} {P : Nat → Value → Prop} {OK : Heap → Prop} {Q : Value → Shared → Prop} (S : PySem.W.KdlSrc prog w T r d n P OK) (hh : A.in1.handled = none) (ok : OK s.heap) (hn : n ≤ sizeLine)
    (body : ∀ (h' : Heap) tk (its : List Value) (E' : Value → Shared → Prop), (∀ b o, s.heap.get? b = some o → h'.get? b = some o) → its.length = n → (∀ (j : Nat) v, its[j]? = some v → P j v) →
      wpAny (model prog w) A.in1.in1 (Builtin.«list.sort» ⟨[.ref h'.objs.size], []⟩) (fun f s' => f = .done (.ret .none) ∧ Q (.ref h'.objs.size) s') E' { s with heap := h'.push (seqObj "list" its.toArray 0), toks := tk }) :
    wpAny (model prog w) A (call (.builtin "sorted") [.ref r]) Q E s := by
  refine call_function_entry_kw kind_sorted plain_sorted entry_sorted (args_sorted1 _) (show wpAny _ _ (Builtin.«sorted» ⟨[.ref r], []⟩) _ _ _ from ?_)
  unfold Builtin.«sorted»
  refine wpAny_bind (m := checkCount "sorted" 1 1 _) (wpAny_pure (wpAny_bind (collect_src S hh ok hn fun h' tk its keep hl hi => ?_)))
  refine wpAny_bind (wpAny_newList (s := { s with heap := h', toks := tk }) ?_ (by rw [hl]; exact hn))
  exact wpAny_bind (wpAny_holding (wpAny_call_entry_kw slot_list_sort ⟨_, Heap.get?_push_size _ rfl, rfl⟩ entry_list_sort (wpAny_mono (body h' tk its _ keep hl hi) (fun f s' hf => ⟨.none, hf.1, wpAny_pure ⟨_, rfl, hf.2⟩⟩) fun _ _ e => e) (args_list_sort _)))
end
def rSortK (K : PySem.W.Frag) : List V → Hp → VK → Prop := fun xs H Q => ∃ d, xs = [.ref d] ∧ IsD H d ∧ ∀ ys, KeysV H d ys → ∃ bs : List (V × D), bs.map (·.1) = ys ∧ (∀ b ∈ bs, Dp K H b.1 b.2) ∧ PySem.W.AllAlike (bs.map (·.2)) ∧ PySem.W.Sortable (bs.map (·.2)) ∧
  (∀ b ∈ bs, b.2.depth ≤ 60) ∧ ∀ p, H p = none → Q (.ref p) (upd H p (.lst ((bs.mergeSort (PySem.W.dataLe false (·.2))).map (·.1))))
theorem cr_sortK {X : Cx} (hu : X.A.units + 65 < cLine) (hc : X.calm = true) : CallR X (.builtin "sorted") (rSortK X.K) := by
  intro pins s σ H vs us Q I r q
  obtain ⟨d, rfl, hD, q⟩ := q
  rw [Vals.ref1 r]
  obtain ⟨lo, od, es, ep, ho, hx, hdt, hz, hk⟩ := keys_raw I hD
  refine sorted_src (src_raw lo hx hdt) (I.ok.hd hc) ho hz fun h' tk its E' keep hl hi => ?_
  obtain ⟨ys, ky, rv⟩ := hk its hl hi
  obtain ⟨bs, rfl, hdp, hal, hsb, hdd, q⟩ := q ys ky
  have hzi : its.length ≤ sizeLine := by rw [hl]; exact hz
  have I1 : Inv X pins σ H { s with heap := h', toks := tk } := I.kept (t' := tk) keep
  have ee := each_of I1 hdp rv
  have atL : (h'.push (seqObj "list" its.toArray 0)).get? h'.objs.size = some (seqObj "list" its.toArray 0) := Heap.get?_push_size _ rfl
  have old : ∀ b u, h'.get? b = some u → (PySem.W.sortingHeap (h'.push (seqObj "list" its.toArray 0)) h'.objs.size its).get? b = some u := fun b u e => PySem.W.sortingHeap_old (Nat.ne_of_lt (Heap.lt_size e)) (Heap.get?_push_of_some _ e)
  have er : PySem.W.EachIs (fun u (b : V × D) => ∃ as, Reads (PySem.W.sortingHeap (h'.push (seqObj "list" its.toArray 0)) h'.objs.size its) u b.2 as) its bs := ee.mono fun u b ⟨_, as, r⟩ => ⟨as, PyProof.Rows.Reads.keeps old r⟩
  have el : its.length = bs.length := by rw [← rv.length, List.length_map]
  refine PySem.W.list_sort_vals (s := { s with heap := h'.push (seqObj "list" its.toArray 0), toks := tk }) atL (PySem.W.SortsAt.data (s := { s with heap := PySem.W.sortingHeap (h'.push (seqObj "list" its.toArray 0)) h'.objs.size its, toks := tk }) (PySem.W.each_map (R := fun v d => ∃ as, Reads (PySem.W.sortingHeap (h'.push (seqObj "list" its.toArray 0)) h'.objs.size its) v d as) (fun b : V × D => b.2) er) hal hsb (fun d hd => ?_)) hzi ⟨rfl, ?_⟩
  · obtain ⟨b, hb, rfl⟩ := List.mem_map.mp hd
    have := hdd b hb
    show X.A.units + 1 + 1 + b.2.depth < cLine
    omega
  · have out := PySem.W.sortVals_data (R := fun u (b : V × D) => RelV b.1 u) false (ee.mono fun _ _ z => z.1) er hal
    have rvo := vals_each out
    obtain ⟨ep, he⟩ := sortedHeap_at (out := (PySem.W.sortVals (PySem.W.dataKind (PySem.W.sortingHeap (h'.push (seqObj "list" its.toArray 0)) h'.objs.size its) (bs.map (·.2))) false its its).toArray) atL
    have hzo : ((bs.mergeSort (PySem.W.dataLe false fun b : V × D => b.2)).map (·.1)).length ≤ sizeLine := by rw [List.length_map, List.length_mergeSort, ← el]; exact hzi
    refine ⟨.ref h'.objs.size, _, I1.laid (t' := tk) (a := h'.objs.size) (o := .lst ((bs.mergeSort (PySem.W.dataLe false fun b : V × D => b.2)).map (·.1))) (fun b u e => ?_) (Nat.le_refl _) (show _ ∧ _ from ⟨hzo, _, ep, rvo, he⟩), rfl, q _ (I1.hok.fresh (Nat.le_refl _))⟩
    have hlt : b < h'.objs.size := Heap.lt_size e
    have e2 := Heap.get?_push_of_some (seqObj "list" its.toArray 0) e
    rw [sortedHeap_old (Nat.ne_of_lt hlt) (Heap.lt_size e2)]
    exact e2
def sortKD : D → Option (List D)
  | .dict kvs => sortD (.list (kvs.map (·.1)))
  | _ => none
theorem ca_sortK {X : Cx} : Ca X (rSortK X.K) (fN1 sortKD) := ca_N1 fun O H x v ys Q rv e k => by
  cases x with
  | dict kvs =>
    obtain ⟨d, rfl, h⟩ := rv
    obtain ⟨c, e⟩ := ite_none (show (if alikeAllB (kvs.map (·.1)) && ((kvs.map (·.1)).all tupConsB || (kvs.map (·.1)).all plainB) && (kvs.map (·.1)).all (fun d => decide (d.depth ≤ 60) && !d.hasDict) then some ((kvs.map (·.1)).mergeSort (PySem.W.dataLe false id)) else none) = some ys from e)
    cases e
    refine ⟨d, rfl, h.imp (fun ⟨kz, h, _⟩ => ⟨kz, h⟩) fun ⟨kz, h, _⟩ => ⟨kz, h⟩, fun us ku => ?_⟩
    have h2 := keysV_rep h ku
    obtain ⟨q1, q2, q3⟩ := repDs_zip h2
    simp only [Bool.and_eq_true] at c
    obtain ⟨⟨c1, c2⟩, c3⟩ := c
    have c4 := List.all_eq_true.mp c3
    have mem2 : ∀ b ∈ us.zip (kvs.map (·.1)), b.2 ∈ kvs.map (·.1) := fun b hb => by
      have := List.mem_map_of_mem (f := fun z : V × D => z.2) hb
      rw [q2] at this
      exact this
    refine ⟨us.zip (kvs.map (·.1)), q1, fun b hb => ?_, by rw [q2]; exact alikeAllB_ok c1, by rw [q2]; exact sortableB_ok c2, fun b hb => ?_, fun p hp => k p _ hp (sort_rep h2)⟩
    · have := c4 _ (mem2 b hb)
      simp only [Bool.and_eq_true, Bool.not_eq_true'] at this
      exact RepD.dp _ _ (q3 b hb) this.2
    · have := c4 _ (mem2 b hb)
      simp only [Bool.and_eq_true, decide_eq_true_eq] at this
      exact this.1
  | _ => cases e
/-! ### is True, is False, of bools -/
def isBD : D → D → Option W
  | .bool a, .bool b => some (.d (.bool (decide (a = b))))
  | _, _ => none
def isntBD : D → D → Option W
  | .bool a, .bool b => some (.d (.bool (!decide (a = b))))
  | _, _ => none
theorem bi_isB {X : Cx} : Bi2 X rIsB (lift2 isBD) := bi_lift fun E Hd al m H x v y u w R Q s rx ry hg P k => by
  unfold isBD at hg
  split at hg
  · cases hg
    exact ⟨_, _, rx, ry, res_d s P rfl k⟩
  · cases hg
theorem bi_isntB {X : Cx} : Bi2 X rNotB (lift2 isntBD) := bi_lift fun E Hd al m H x v y u w R Q s rx ry hg P k => by
  unfold isntBD at hg
  split at hg
  · cases hg
    exact ⟨_, _, rx, ry, res_d s P rfl k⟩
  · cases hg
@[simp] theorem is_bb {a b : Bool} : isBD (.bool a) (.bool b) = some (.d (.bool (decide (a = b)))) := rfl
@[simp] theorem isnt_bb {a b : Bool} : isntBD (.bool a) (.bool b) = some (.d (.bool (!decide (a = b)))) := rfl
end Den
/-! Den23: isinstance(x, tuple) of data. -/
namespace Den
open PySem PySem.Spec PyProof.Rows L2

def isTupD : D → Option Bool
  | .tuple _ => some true
  | .list _ => some false
  | .int _ => some false
  | .str _ => some false
  | .bool _ => some false
  | .none => some false
  | .dict _ => none
def mIsTup (a : EM W) : EM W := fun rho m => (a rho m).bindV fun w m1 => match peek m1 w with
  | some x => (match isTupD x with | some b => .ok (.d (.bool b)) m1 | none => .no)
  | none => .no
theorem isTup_ty {K : PySem.W.Frag} {O : Addr → Prop} {H : Hp} {x : D} {v : V} {b : Bool} (h : RepP K O H x v) (hb : isTupD x = some b) : ∃ t, TyX K H v t ∧ PySem.W.kitOne K t (.type "tuple") = some b := by
  cases x with
  | tuple ds => cases hb; obtain ⟨a, vs, rfl, h1, _⟩ := h; exact ⟨_, .base (.tup h1), kit_ty (by decide +kernel)⟩
  | list ds => cases hb; obtain ⟨a, vs, rfl, h1, _⟩ := h; exact ⟨_, .base (.lst h1), kit_ty (by decide +kernel)⟩
  | int i => cases hb; cases h; exact ⟨_, .base (.int _), kit_ty (by decide +kernel)⟩
  | str i => cases hb; cases h; exact ⟨_, .base (.str _), kit_ty (by decide +kernel)⟩
  | bool i => cases hb; cases h; exact ⟨_, .base (.bl _), kit_ty (by decide +kernel)⟩
  | none => cases hb; cases h; exact ⟨_, .base .non, kit_ty (by decide +kernel)⟩
  | dict _ => cases hb
section
variable {X : Cx} {E : St → XK} {ea : Expr} {a : EM W} {p q pos : Pos}
theorem den_isTup (h : Den X E ea a) (hg : Gl X "isinstance") (hm : X.mg "isinstance" = none) (hgt : Gl X "tuple") (hmt : X.mg "tuple" = none)
    (he : starEach [ea, .Name "tuple" q] X.env = (false, eval ea X.env) :: starEach [.Name "tuple" q] X.env := by rfl) (he2 : starEach [.Name "tuple" q] X.env = [(false, eval (.Name "tuple" q) X.env)] := by rfl)
    (hpl : (backTo pos (starEach [.Name "tuple" q] X.env)).any (·.1) = false := by rfl) : Den X E (.Call (.Name "isinstance" p) [ea, .Name "tuple" q] [] pos) (mIsTup a) :=
  PE.imp (pe_callB call_isi hg hm boot_isinstance (pa_cons h (pa_cons (pe_bltn (v := .ty "tuple") (u := .type "tuple") hgt hmt (by decide +kernel) rfl) pa_nil he2) he) (by decide) (by decide) he hpl) fun σ H Q q => by
    obtain ⟨Hd, al, rho, m, s, e, P⟩ := q
    refine ⟨Hd, al, rho, m, s, e, (Post.bindV P).imp fun w al1 p1 m1 H1 g s1 k v rv => ?_⟩
    obtain ⟨g1, s1', rv1, P1⟩ := k v rv
    split at P1
    · rename_i x hx
      split at P1
      · rename_i b hb
        obtain ⟨t, h1, h2⟩ := isTup_ty (peek_ok s1' rv1 hx) hb
        exact ⟨v, .ty "tuple", t, .type "tuple", b, rfl, .ty _, h1, h2, (P1.ok s1') _ ⟨rfl, rfl⟩⟩
      · exact P1.elim
    · exact P1.elim
end
@[simp] theorem e_IsTup {a : EM W} {rho : Env} {m : Mem} : mIsTup a rho m = (a rho m).bindV fun w m1 => match peek m1 w with
  | some x => (match isTupD x with | some b => .ok (.d (.bool b)) m1 | none => .no)
  | none => .no := rfl
end Den
/-! Den24: enumerate of lists and tuples, zip of any two of them, starred items. -/
namespace Den
open PySem PySem.Spec PyProof.Rows L2

/-! ### what is walked: a list (true) or a tuple (false) -/
def SqB (K : PySem.W.Frag) (k : Bool) (H : Hp) (a : Addr) (xs : List V) : Prop := match k with
  | true => SqL K H a xs
  | false => SqT K H a xs
def IterB (k : Bool) (h : Heap) (it a : Addr) (i : Nat) : Prop := match k with
  | true => h.IsListIter it a i
  | false => h.IsTupleIter it a i
def SeqB (k : Bool) (h : Heap) (a : Addr) (its : Array Value) : Prop := match k with
  | true => h.IsList a its
  | false => h.IsTuple a its
theorem drawsB {prog : Program} {w : World} {A : Around} (hh : A.handled = none) (k : Bool) {it a : Addr} (hne : a ≠ it) (items : Array Value) :
    Draws prog w A it [it, a] items.size (fun i v => items[i]? = some v) (fun i h => IterB k h it a i ∧ SeqB k h a items) := by
  cases k
  · exact Draws.tuple hh it a hne items
  · exact Draws.list hh it a hne items
theorem beginsB (k : Bool) (a : Addr) (items : Array Value) : ∃ o : Obj, Begins (.ref a) o (fun h => SeqB k h a items) ∧ ∀ (h : Heap) (it : Addr), h.get? it = some o → IterB k h it a 0 := by
  cases k
  · exact ⟨_, begins_tuple a items, fun h it e => ⟨_, e, rfl, rfl⟩⟩
  · exact ⟨_, begins_list a items, fun h it e => ⟨_, e, rfl, rfl⟩⟩
theorem IterB.at {k : Bool} {h h' : Heap} {it a : Addr} {i : Nat} (st : IterB k h it a i) (e : ∀ o, h.get? it = some o → h'.get? it = some o) : IterB k h' it a i := by
  cases k
  · exact Heap.IsTupleIter.at st e
  · exact Heap.IsListIter.at st e
theorem IterB.obj {k : Bool} {h : Heap} {it a : Addr} {i : Nat} (st : IterB k h it a i) : ∃ o, h.get? it = some o ∧ ∀ v, o.data ≠ .cell v := by
  cases k
  · obtain ⟨o, e, c, d⟩ := st; exact ⟨o, e, fun v q => by rw [d] at q; cases q⟩
  · obtain ⟨o, e, c, d⟩ := st; exact ⟨o, e, fun v q => by rw [d] at q; cases q⟩
section
variable {X : Cx} {pins : List (Addr × Obj)} {σ : L2.St} {H : Hp} {s : Shared} {a : Addr} {xs : List V} {k : Bool}
theorem inv_B (I : Inv X pins σ H s) (h : SqB X.K k H a xs) : ∃ its : List Value, Vals xs its ∧ SeqB k s.heap a its.toArray := by
  cases k
  · obtain ⟨its, rv, p, hz⟩ := I.tuple h
    exact ⟨its, rv, (show s.heap.IsTuple a its.toArray from p)⟩
  · obtain ⟨its, rv, p, hz⟩ := I.list h
    exact ⟨its, rv, (show s.heap.IsList a its.toArray from p.isList)⟩
theorem inv_inj {ys : List V} (I : Inv X pins σ H s) (h : SqB X.K k H a xs) (h2 : SqB X.K k H a ys) : xs = ys := by
  cases k
  · exact I.tuple_inj h h2
  · exact I.list_inj h h2
theorem seqB_lt {its : Array Value} {h : Heap} (p : SeqB k h a its) : a < h.objs.size := by
  cases k
  · obtain ⟨o, e, _⟩ := p; exact Heap.lt_size e
  · obtain ⟨o, e, _⟩ := p; exact Heap.lt_size e
end
/-! ### enumerate -/
def IteB (K : PySem.W.Frag) (k : Bool) (a : Addr) : It :=
  ⟨fun i H => ∃ (xs : List V) (x : V), SqB K k H a xs ∧ xs[i]? = some x, fun i H v H' => ∃ T x, v = .ref T ∧ H T = none ∧ H' = upd H T (.tup [.int (i : Nat), x]) ∧ ∀ xs, SqB K k H a xs → xs[i]? = some x, fun i H => ∃ xs : List V, SqB K k H a xs ∧ xs.length = i⟩
theorem turn_enumB {P : Program} {w : World} {K : PySem.W.Frag} {elts : List Expr} {kk : Nat} {tpos : Pos} (k : Bool) (a e it : Addr) :
    Turn P w K (.Tuple elts kk tpos) (IteB K k a) [e, it] e (fun i h => (∃ old, IsEnum h e it ((i : Nat) : Int) old) ∧ IterB k h it a i ∧ e ≠ it ∧ a ≠ it ∧ a ≠ e) where
  mem := by simp
  obj := fun i h st b hb => by
    obtain ⟨⟨old, he⟩, hi, _⟩ := st
    have e' : b = e ∨ b = it := by simpa using hb
    rcases e' with z | z
    · rw [z]; exact ⟨_, he, fun v q => nomatch q⟩
    · rw [z]; exact hi.obj
  keep := fun i h h' st k' => let ⟨⟨old, he⟩, hi, hne⟩ := st; ⟨⟨old, k' e (by simp) _ he⟩, hi.at fun o q => k' it (by simp) o q, hne⟩
  item := by
    intro X hP hw hK hc i pins s σ H E I hf st hg
    subst hP hw hK
    obtain ⟨⟨old, he⟩, hit, hne, hai, hae⟩ := st
    obtain ⟨xs, x, hq, hx⟩ := hg
    obtain ⟨its, rv, p⟩ := inv_B I hq
    obtain ⟨u, hu, ru⟩ := rv.get hx
    have hel : e < s.heap.objs.size := Heap.lt_size he
    have hil : it < s.heap.objs.size := by obtain ⟨_, q, _⟩ := hit.obj; exact Heap.lt_size q
    have hlt : i < its.toArray.size := by
      rw [List.size_toArray]
      exact (List.getElem?_eq_some_iff.mp hu).1
    refine wpAny_pyNext_enum_itemD (drawsB (A := X.A.in1) (I.ok.hd hc) k hai its.toArray) he ⟨hit, p⟩ hlt hne (by simp [hne, Ne.symm hae]) fun y h' tk hy ho st' hT hsz hk => ?_
    have ey : y = u := by
      have hy' : its[i]? = some y := by simpa using hy
      rw [hu] at hy'
      exact (Option.some.inj hy').symm
    subst ey
    refine ⟨_, rfl, wpAny_letOwnedTupleGo_enum (s := { s with heap := h', toks := tk + 1 }) ho fun h'' he' sb => ?_⟩
    have hT2 : h''.get? s.heap.objs.size = some { cls := .type "tuple", data := .seq #[.int i tk, y] } := (sb.2 _ (Nat.ne_of_gt hel)).trans hT
    have new : ObjOk X.prog X.w (upd H s.heap.objs.size (.tup [.int (i : Nat), x])) h'' s.heap.objs.size (.tup [.int (i : Nat), x]) :=
      ⟨by show 2 ≤ sizeLine; decide, [.int i tk, y], .cons ⟨_, rfl⟩ (.cons ru .nil), ⟨_, hT2, rfl, _, rfl⟩⟩
    have I1 : Inv X pins σ (upd H s.heap.objs.size (.tup [.int (i : Nat), x])) { s with heap := h'', toks := tk + 1 } :=
      I.turnedNew (ch := [e, it]) (fun b ob hb q => (sb.2 b (fun z => hb (by simp [z]))).trans (hk b ob (fun z => hb (by simp [z])) (fun z => hb (by simp [z])) q)) hf (Nat.le_refl _) new
    refine ⟨.ref s.heap.objs.size, _, I1, rfl, ⟨_, x, rfl, I.hok.fresh (Nat.le_refl _), rfl, fun ys hy => by rw [inv_inj I hy hq]; exact hx⟩, ⟨⟨y, ?_⟩, st'.1.at fun o q => (sb.2 it (Ne.symm hne)).trans q, hne, hai, hae⟩, fun b hb => ?_⟩
    · have e1 : ((i + 1 : Nat) : Int) = (i : Int) + 1 := by omega
      rw [e1]; exact he'
    · have hb' : b < s.heap.objs.size := by
        have e' : b = e ∨ b = it := by simpa using hb
        rcases e' with z | z
        · rw [z]; exact hel
        · rw [z]; exact hil
      rw [upd_ne (Nat.ne_of_lt hb')]
      exact (hf b hb).1
  done := by
    intro X hP hw hK hc i pins s σ H E I hf st hg
    subst hP hw hK
    obtain ⟨⟨old, he⟩, hit, hne, hai, hae⟩ := st
    obtain ⟨xs, hq, hx⟩ := hg
    obtain ⟨its, rv, p⟩ := inv_B I hq
    obtain ⟨f0, f1, f2, f3, f4, f5⟩ := hf it (by simp)
    have hl := rv.length
    have hi : IterB k s.heap it a its.toArray.size := by
      rw [List.size_toArray, ← hl, hx]; exact hit
    exact wpAny_pyNext_enum_endD (drawsB (A := X.A.in1) (I.ok.hd hc) k hai its.toArray) he ⟨hi, p⟩ fun h' eb => ⟨rfl, I.turned (t' := s.toks) (fun b o hb q => eb b o hb q) f0 f1 f3 f4 f5⟩
  self := fun A i s Q E st h => let ⟨⟨_, he⟩, _⟩ := st; wpAny_pyIter_enum he h
open PySem in
set_option maxHeartbeats 1000000 in
theorem meets_enum_new1 {v : Value} {o : Obj} {H : Heap → Prop} (B : Begins v o H) :
    Meets (Builtin.«enumerate.__new__» ⟨[.type "enumerate", v], []⟩) (fun _ R s => H s.heap ∧
      R (.ok (.ret (.ref (s.heap.push o).objs.size))) { s with heap := (s.heap.push o).push { cls := .type "enumerate", data := .fields #[.none, .bool false, .ref s.heap.objs.size, rawInt 0, .none, .none] } }) :=
  .of_wp fun prog w A R s h => by
    obtain ⟨hp, g, d, tk, os⟩ := s; obtain ⟨h1, h⟩ := h
    have hsub := sub_enumerate
    have q1 : ∀ {A' : Around} {E : Value → Shared → Prop} {Q : Value → Shared → Prop}, Q (.ref hp.objs.size) ⟨hp.push o, g, d, tk, os⟩ → wpAny (model prog w) A' (pyIter v) Q E ⟨hp, g, d, tk, os⟩ :=
      fun q => B.iter prog w _ _ ⟨hp, g, d, tk, os⟩ _ h1 q
    wp_walk using q1
    refine wpAny_stack_any fun st => wpAny_pure ?_
    split
    · rename_i c _ _ _ _ _
      cases (c == Value.type "enumerate")
      · wp_walk using q1
        exact ⟨_, rfl, h⟩
      · wp_walk using q1
        exact ⟨_, rfl, h⟩
    · wp_walk using q1
      exact ⟨_, rfl, h⟩
section
variable {prog : Program} {w : World} {A : Around} {E : Value → Shared → Prop} {s : Shared}
theorem enum_begins1 {v : Value} {o : Obj} {H : Heap → Prop} {Q : Value → Shared → Prop} (B : Begins v o H) (h1 : H s.heap)
    (h : ∀ h', IsEnum h' (s.heap.objs.size + 1) s.heap.objs.size 0 .none → h'.get? s.heap.objs.size = some o → h'.objs.size = s.heap.objs.size + 2 →
      (∀ b o, s.heap.get? b = some o → h'.get? b = some o) → Q (.ref (s.heap.objs.size + 1)) { s with heap := h' }) :
    wpAny (model prog w) A (call (.type "enumerate") [v]) Q E s := by
  refine callType_new F.called_enumerate (by decide) (F.typeCall_enumerate_1 _) (F.newCall_enumerate_1 _) (fun obj => F.args_object_init_2 obj _) F.entry_enumerate_new
    (meets_enum_new1 B) ⟨h1, ?_⟩
  have hz : (s.heap.push o).objs.size = s.heap.objs.size + 1 := Heap.size_push ..
  show _ ∧ _
  rw [hz]
  have he : IsEnum ((s.heap.push o).push { cls := .type "enumerate", data := .fields #[.none, .bool false, .ref s.heap.objs.size, rawInt 0, .none, .none] }) (s.heap.objs.size + 1) s.heap.objs.size 0 .none := by
    have := Heap.get?_push_size (s.heap.push o) (o := { cls := .type "enumerate", data := .fields #[.none, .bool false, .ref s.heap.objs.size, rawInt 0, .none, .none] }) rfl
    rw [hz] at this; exact this
  refine ⟨⟨_, he, rfl⟩, h _ he (Heap.get?_push_of_some _ (Heap.get?_push_size _ B.free)) (by rw [Heap.size_push, hz]) fun b o x => Heap.get?_push_of_some _ (Heap.get?_push_of_some _ x)⟩
end
def iEnumB (K : PySem.W.Frag) (ta : TA) : TI := fun σ H R => ta σ H fun vs H1 => ∃ a xs k, vs = [.ref a] ∧ SqB K k H1 a xs ∧ R (IteB K k a) H1
theorem pi_enumB {X : Cx} {e : Expr} {ta : TA} {p pos tpos : Pos} {elts : List Expr} {kk : Nat} (hg : Gl X "enumerate") (hm : X.mg "enumerate" = none) (ha : PA X [e] ta) (hs : starEach [e] X.env = [(false, eval e X.env)] := by rfl) :
    PI X (.Tuple elts kk tpos) (.Call (.Name "enumerate" p) [e] [] pos) (iEnumB X.K ta) := by
  refine ⟨fun pins s σ H R I h => ?_⟩
  refine Call_ (ld_blt I hg hm boot_enumerate (PyProof.Rows.callWith_type1 (thn (ha.run pos pins s σ H _ I h) fun us s1 ⟨vs, H1, I1, r1, q1⟩ => ?_) hs rfl))
  obtain ⟨a, xs, k, ex, hq, q⟩ := q1
  subst ex
  cases r1 with
  | cons r rr =>
    cases rr
    cases r
    obtain ⟨its, rv, p'⟩ := inv_B I1 hq
    obtain ⟨o, B, hB⟩ := beginsB k a its.toArray
    refine enum_begins1 B p' fun h' he hit hsz hk => wpAny_pyIter_enum he ?_
    have I2 : Inv X pins σ H1 { s1 with heap := h' } := I1.kept (t' := s1.toks) hk
    have hal := seqB_lt p'
    refine ⟨s1.heap.objs.size + 1, [s1.heap.objs.size + 1, s1.heap.objs.size], _, _, H1, rfl, I2, turn_enumB k a (s1.heap.objs.size + 1) s1.heap.objs.size, ⟨⟨.none, he⟩, hB _ _ hit, Nat.succ_ne_self _, Nat.ne_of_lt hal, Nat.ne_of_lt (Nat.lt_succ_of_lt hal)⟩, fun b hb => ?_, q⟩
    have e' : b = s1.heap.objs.size + 1 ∨ b = s1.heap.objs.size := by simpa using hb
    have hle : s1.heap.objs.size ≤ b := by
      rcases e' with z | z
      · rw [z]; exact Nat.le_add_right _ _
      · rw [z]; exact Nat.le_refl _
    exact I1.fpOk hle (I1.hok.fresh hle)
end Den
/-! Den25: zip of any two, enumerate, starred items: the mirrors. -/
namespace Den
open PySem PySem.Spec PyProof.Rows L2

/-! ### zip of a list or a tuple with a list or a tuple -/
def ItzB (K : PySem.W.Frag) (k1 k2 : Bool) (a b : Addr) : It :=
  ⟨fun i H => ∃ (xs ys : List V) (x y : V), SqB K k1 H a xs ∧ SqB K k2 H b ys ∧ xs[i]? = some x ∧ ys[i]? = some y,
    fun i H v H' => ∃ T x y, v = .ref T ∧ H T = none ∧ H' = upd H T (.tup [x, y]) ∧ (∀ xs, SqB K k1 H a xs → xs[i]? = some x) ∧ ∀ ys, SqB K k2 H b ys → ys[i]? = some y,
    fun i H => ∃ xs ys : List V, SqB K k1 H a xs ∧ SqB K k2 H b ys ∧ i = min xs.length ys.length⟩
theorem turn_zipB {P : Program} {w : World} {K : PySem.W.Frag} {elts : List Expr} {kk : Nat} {tpos : Pos} (k1 k2 : Bool) {a b z TI TO i1 i2 : Addr} (S : ZipSep2 z TI TO i1 i2 [i1, a] [i2, b]) (hai : a ≠ i1) (hbi : b ≠ i2) :
    Turn P w K (.Tuple elts kk tpos) (ItzB K k1 k2 a b) [z, TI, TO, i1, i2] z (fun i h => IsZip h z TI TO .none ∧ IsTupOf2 h TI (.ref i1) (.ref i2) ∧ (∃ x y, IsTupOf2 h TO x y) ∧ IterB k1 h i1 a i ∧ IterB k2 h i2 b i) where
  mem := by simp
  obj := fun i h st c hc => by
    obtain ⟨hz, hTI, ⟨x, y, hTO⟩, h1, h2⟩ := st
    have e' : c = z ∨ c = TI ∨ c = TO ∨ c = i1 ∨ c = i2 := by simpa using hc
    rcases e' with q | q | q | q | q
    · rw [q]; exact ⟨_, hz, fun v q => nomatch q⟩
    · rw [q]; exact ⟨_, hTI, fun v q => nomatch q⟩
    · rw [q]; exact ⟨_, hTO, fun v q => nomatch q⟩
    · rw [q]; exact h1.obj
    · rw [q]; exact h2.obj
  keep := fun i h h' st k => by
    obtain ⟨hz, hTI, ⟨x, y, hTO⟩, h1, h2⟩ := st
    exact ⟨k z (by simp) _ hz, k TI (by simp) _ hTI, ⟨x, y, k TO (by simp) _ hTO⟩, h1.at fun o q => k i1 (by simp) o q, h2.at fun o q => k i2 (by simp) o q⟩
  item := by
    intro X hP hw hK hc i pins s σ H E I hf st hg
    subst hP hw hK
    obtain ⟨hz, hTI, ⟨x0, y0, hTO⟩, h1, h2⟩ := st
    obtain ⟨xs, ys, x, y, hqx, hqy, hx, hy⟩ := hg
    obtain ⟨its, rv, p⟩ := inv_B I hqx
    obtain ⟨its2, rv2, p2⟩ := inv_B I hqy
    obtain ⟨u, hu, ru⟩ := rv.get hx
    obtain ⟨u2, hu2, ru2⟩ := rv2.get hy
    have hzl : z < s.heap.objs.size := Heap.lt_size hz
    have hl1 : i < its.toArray.size := by rw [List.size_toArray]; exact (List.getElem?_eq_some_iff.mp hu).1
    have hl2 : i < its2.toArray.size := by rw [List.size_toArray]; exact (List.getElem?_eq_some_iff.mp hu2).1
    refine wpAny_pyNext_zipD2_item S (drawsB (A := X.A.in1) (I.ok.hd hc) k1 hai its.toArray) (drawsB (A := X.A.in1) (I.ok.hd hc) k2 hbi its2.toArray) hz hTI hTO ⟨h1, p⟩ ⟨h2, p2⟩ hl1 hl2 fun v1 v2 h' tk q1 q2 z' TO' st1 st2 hT hsz hk => ?_
    have e1 : v1 = u := by
      have h : its[i]? = some v1 := by simpa using q1
      rw [hu] at h; exact (Option.some.inj h).symm
    have e2 : v2 = u2 := by
      have h : its2[i]? = some v2 := by simpa using q2
      rw [hu2] at h; exact (Option.some.inj h).symm
    subst e1 e2
    refine ⟨_, rfl, wpAny_letOwnedTupleGo_zip (s := { s with heap := h', toks := tk }) z' fun h'' z'' sb => ?_⟩
    have hT2 : h''.get? s.heap.objs.size = some { cls := .type "tuple", data := .seq #[v1, v2] } := (sb.2 _ (Nat.ne_of_gt hzl)).trans hT
    have new : ObjOk X.prog X.w (upd H s.heap.objs.size (.tup [x, y])) h'' s.heap.objs.size (.tup [x, y]) :=
      ⟨by show 2 ≤ sizeLine; decide, [v1, v2], .cons ru (.cons ru2 .nil), ⟨_, hT2, rfl, _, rfl⟩⟩
    have I1 : Inv X pins σ (upd H s.heap.objs.size (.tup [x, y])) { s with heap := h'', toks := tk } :=
      I.turnedNew (t' := tk) (ch := [z, TI, TO, i1, i2]) (fun c o hb q => (sb.2 c (fun q' => hb (by simp [q']))).trans (hk c o (fun q' => hb (by simp [q'])) (fun q' => hb (by simp [q'])) (fun q' => hb (by simp [q'])) (fun q' => hb (by simp [q'])) q)) hf (Nat.le_refl _) new
    refine ⟨.ref s.heap.objs.size, _, I1, rfl, ⟨_, x, y, rfl, I.hok.fresh (Nat.le_refl _), rfl, fun l hl => by rw [inv_inj I hl hqx]; exact hx, fun l hl => by rw [inv_inj I hl hqy]; exact hy⟩, ⟨z'', ?_, ⟨v1, v2, ?_⟩, ?_, ?_⟩, fun c hcm => ?_⟩
    · exact (sb.2 _ S.TIz).trans (hk _ _ S.TIz S.TITO S.TIi1 S.TIi2 hTI)
    · exact (sb.2 _ S.TOz).trans TO'
    · exact st1.1.at fun o q => (sb.2 _ (Ne.symm S.zi1)).trans q
    · exact st2.1.at fun o q => (sb.2 _ (Ne.symm S.zi2)).trans q
    · have hlt : c < s.heap.objs.size := by
        have e' : c = z ∨ c = TI ∨ c = TO ∨ c = i1 ∨ c = i2 := by simpa using hcm
        rcases e' with q | q | q | q | q
        · rw [q]; exact hzl
        · rw [q]; exact Heap.lt_size hTI
        · rw [q]; exact Heap.lt_size hTO
        · rw [q]; obtain ⟨_, e1, _⟩ := h1.obj; exact Heap.lt_size e1
        · rw [q]; obtain ⟨_, e2, _⟩ := h2.obj; exact Heap.lt_size e2
      rw [upd_ne (Nat.ne_of_lt hlt)]
      exact (hf c hcm).1
  done := by
    intro X hP hw hK hc i pins s σ H E I hf st hg
    subst hP hw hK
    obtain ⟨hz, hTI, ⟨x0, y0, hTO⟩, h1, h2⟩ := st
    obtain ⟨xs, ys, hqx, hqy, hend⟩ := hg
    obtain ⟨its, rv, p⟩ := inv_B I hqx
    obtain ⟨its2, rv2, p2⟩ := inv_B I hqy
    have l1 := rv.length
    have l2 := rv2.length
    have s1 : its.toArray.size = xs.length := by rw [List.size_toArray]; exact l1.symm
    have s2 : its2.toArray.size = ys.length := by rw [List.size_toArray]; exact l2.symm
    exact wpAny_pyNext_zipD2_end S (drawsB (A := X.A.in1) (I.ok.hd hc) k1 hai its.toArray) (drawsB (A := X.A.in1) (I.ok.hd hc) k2 hbi its2.toArray) hz hTI hTO ⟨h1, p⟩ ⟨h2, p2⟩ (by omega) (by omega) (by omega) fun h' tk hk => ⟨rfl, I.turnedL (t' := tk) (ch := [z, TI, TO, i1, i2]) (fun c o hb q =>
      hk c o (fun q' => hb (by simp [q'])) (fun q' => hb (by simp [q'])) (fun q' => hb (by simp [q'])) (fun q' => hb (by simp [q'])) q) hf⟩
  self := fun A i s Q E st h => wpAny_pyIter_zip st.1 h
theorem zip_sep {N a b : Nat} (ha : a < N) (hb : b < N) : ZipSep2 (N + 4) (N + 2) (N + 3) N (N + 1) [N, a] [N + 1, b] where
  TIz := show (N + 2 : Nat) ≠ N + 4 by omega
  TOz := show (N + 3 : Nat) ≠ N + 4 by omega
  TITO := show (N + 2 : Nat) ≠ N + 3 by omega
  TIi1 := show (N + 2 : Nat) ≠ N by omega
  mem1 := by simp
  zf1 := fun h => by
    have h' : (N + 4 : Nat) = N ∨ (N + 4 : Nat) = a := by simpa using h
    omega
  Tf1 := fun h => by
    have h' : (N + 3 : Nat) = N ∨ (N + 3 : Nat) = a := by simpa using h
    omega
  TIi2 := show (N + 2 : Nat) ≠ N + 1 by omega
  mem2 := by simp
  zf2 := fun h => by
    have h' : (N + 4 : Nat) = N + 1 ∨ (N + 4 : Nat) = b := by simpa using h
    omega
  Tf2 := fun h => by
    have h' : (N + 3 : Nat) = N + 1 ∨ (N + 3 : Nat) = b := by simpa using h
    omega
  sep1_2 := fun h => by
    have h' : (N : Nat) = N + 1 ∨ (N : Nat) = b := by simpa using h
    omega
  sep2_1 := fun h => by
    have h' : (N + 1 : Nat) = N ∨ (N + 1 : Nat) = a := by simpa using h
    omega
def iZipB (K : PySem.W.Frag) (ta : TA) : TI := fun σ H R => ta σ H fun vs H1 => ∃ a b xs ys k1 k2, vs = [.ref a, .ref b] ∧ SqB K k1 H1 a xs ∧ SqB K k2 H1 b ys ∧ R (ItzB K k1 k2 a b) H1
theorem pi_zipB {X : Cx} {e e2 : Expr} {ta : TA} {p pos tpos : Pos} {elts : List Expr} {kk : Nat} (hg : Gl X "zip") (hm : X.mg "zip" = none) (ha : PA X [e, e2] ta)
    (hs : starEach [e, e2] X.env = (false, eval e X.env) :: starEach [e2] X.env := by rfl) (hpl : (backTo pos (starEach [e2] X.env)).any (·.1) = false := by rfl) :
    PI X (.Tuple elts kk tpos) (.Call (.Name "zip" p) [e, e2] [] pos) (iZipB X.K ta) := by
  refine ⟨fun pins s σ H R I h => ?_⟩
  refine Call_ (ld_blt I hg hm PyProof.Rows.boot_zip (PyProof.Rows.callWith_type1 (thn (ha.run pos pins s σ H _ I h) fun us s1 ⟨vs, H1, I1, r1, q1⟩ => ?_) hs hpl))
  obtain ⟨a, b, xs, ys, k1, k2, ex, hqx, hqy, q⟩ := q1
  subst ex
  cases r1 with
  | cons r rr =>
    cases rr with
    | cons r' rr =>
      cases rr
      cases r
      cases r'
      have fresh5 : ∀ c, c ∈ [s1.heap.objs.size + 4, s1.heap.objs.size + 2, s1.heap.objs.size + 3, s1.heap.objs.size, s1.heap.objs.size + 1] → FpOk X pins H1 c := fun c hcm => by
        have e' : c = s1.heap.objs.size + 4 ∨ c = s1.heap.objs.size + 2 ∨ c = s1.heap.objs.size + 3 ∨ c = s1.heap.objs.size ∨ c = s1.heap.objs.size + 1 := by simpa using hcm
        have hle : s1.heap.objs.size ≤ c := by
          rcases e' with z | z | z | z | z
          · rw [z]; exact Nat.le_add_right _ _
          · rw [z]; exact Nat.le_add_right _ _
          · rw [z]; exact Nat.le_add_right _ _
          · rw [z]; exact Nat.le_refl _
          · rw [z]; exact Nat.le_add_right _ _
        exact I1.fpOk hle (I1.hok.fresh hle)
      obtain ⟨its, rv, p1⟩ := inv_B I1 hqx
      obtain ⟨its2, rv2, p2⟩ := inv_B I1 hqy
      obtain ⟨o1, B1, hB1⟩ := beginsB k1 a its.toArray
      obtain ⟨o2, B2, hB2⟩ := beginsB k2 b its2.toArray
      have ha1 := seqB_lt p1
      have hb1 := seqB_lt p2
      refine zip_begins2 B1 B2 p1 p2 fun h' hz hTI hTO h1 h2 hsz hk => wpAny_pyIter_zip hz ?_
      have I2 : Inv X pins σ H1 { s1 with heap := h' } := I1.kept (t' := s1.toks) hk
      exact ⟨s1.heap.objs.size + 4, [s1.heap.objs.size + 4, s1.heap.objs.size + 2, s1.heap.objs.size + 3, s1.heap.objs.size, s1.heap.objs.size + 1], _, _, H1, rfl, I2, turn_zipB k1 k2 (zip_sep ha1 hb1) (Nat.ne_of_lt ha1) (Nat.ne_of_lt (Nat.lt_succ_of_lt hb1)), ⟨hz, hTI, ⟨_, _, hTO⟩, hB1 _ _ h1, hB2 _ _ h2⟩, fresh5, q⟩

/-! ### the mirrors -/
section
variable {X : Cx} {E : St → XK} {ea eb tg : Expr} {a b : EM W} {pos : Pos}
theorem itD_zipB {O : Addr → Prop} {H : Hp} {a0 b0 : Addr} {k1 k2 : Bool} {xs ys : List D} {vs us : List V} (hq : ∀ {O' H'}, Ext O H O' H' → SqB X.K k1 H' a0 vs) (hq2 : ∀ {O' H'}, Ext O H O' H' → SqB X.K k2 H' b0 us)
    (r : RepDs X.K O H xs vs) (r2 : RepDs X.K O H ys us) : ItD X O H (ItzB X.K k1 k2 a0 b0) ((xs.zip ys).map fun p => .tuple [p.1, p.2]) where
  go := fun i O' H' g hi => by
    have hl := r.len
    have hl2 := r2.len
    rw [List.length_map, List.length_zip] at hi
    exact ⟨vs, us, vs[i]'(by omega), us[i]'(by omega), hq g, hq2 g, List.getElem?_eq_getElem _, List.getElem?_eq_getElem _⟩
  yld := fun i O' H' x v H'' g hx hy => by
    obtain ⟨T, y1, y2, rfl, hn, rfl, h1, h2⟩ := hy
    rw [List.getElem?_map] at hx
    cases hz : (xs.zip ys)[i]? with
    | none => rw [hz] at hx; cases hx
    | some pr =>
      rw [hz] at hx
      cases hx
      obtain ⟨z1, z2⟩ := List.getElem?_zip_eq_some.mp hz
      obtain ⟨v1, w1, q1⟩ := (r.ext g).get z1
      obtain ⟨v2, w2, q2⟩ := (r2.ext g).get z2
      have e1 := h1 vs (hq g)
      have e2 := h2 us (hq2 g)
      rw [w1] at e1; cases e1
      rw [w2] at e2; cases e2
      have f : Fresh H' (upd H' T (.tup [y1, y2])) := .inr ⟨T, _, hn, rfl⟩
      exact ⟨f, T, [y1, y2], rfl, upd_same, y1, [y2], rfl, q1.ext f.ext, y2, [], rfl, q2.ext f.ext, rfl⟩
  stop := fun O' H' g => by
    refine ⟨vs, us, hq g, hq2 g, ?_⟩
    rw [List.length_map, List.length_zip, r.len, r2.len]
def enumL (xs : List D) : List D := xs.zipIdx.map fun p => .tuple [.int (p.2 : Nat), p.1]
theorem itD_enumB {O : Addr → Prop} {H : Hp} {a0 : Addr} {k : Bool} {xs : List D} {vs : List V} (hq : ∀ {O' H'}, Ext O H O' H' → SqB X.K k H' a0 vs) (r : RepDs X.K O H xs vs) : ItD X O H (IteB X.K k a0) (enumL xs) where
  go := fun i O' H' g hi => by
    have hl := r.len
    unfold enumL at hi
    rw [List.length_map, List.length_zipIdx] at hi
    exact ⟨vs, vs[i]'(by omega), hq g, List.getElem?_eq_getElem _⟩
  yld := fun i O' H' x v H'' g hx hy => by
    obtain ⟨T, y, rfl, hn, rfl, h1⟩ := hy
    unfold enumL at hx
    rw [List.getElem?_map, List.getElem?_zipIdx] at hx
    cases hz : xs[i]? with
    | none => rw [hz] at hx; cases hx
    | some u =>
      rw [hz] at hx
      cases hx
      obtain ⟨v1, w1, q1⟩ := (r.ext g).get hz
      have e1 := h1 vs (hq g)
      rw [w1] at e1; cases e1
      have f : Fresh H' (upd H' T (.tup [.int (i : Nat), y])) := .inr ⟨T, _, hn, rfl⟩
      refine ⟨f, T, [.int (i : Nat), y], rfl, upd_same, .int (i : Nat), [y], rfl, ?_, y, [], rfl, q1.ext f.ext, rfl⟩
      show V.int _ = V.int _
      rw [Nat.zero_add]
  stop := fun O' H' g => by
    refine ⟨vs, hq g, ?_⟩
    unfold enumL
    rw [List.length_map, List.length_zipIdx, r.len]
theorem sqB_of {O : Addr → Prop} {H : Hp} {x : D} {v : V} {ds : List D} (r : RepD X.K O H x v) (h : seqOf x = some ds) : ∃ a0 k vs, v = .ref a0 ∧ (∀ {O' H'}, Ext O H O' H' → SqB X.K k H' a0 vs) ∧ RepDs X.K O H ds vs := by
  cases x with
  | list xs =>
    cases h
    obtain ⟨a0, vs, rfl, h1, h2⟩ := r
    exact ⟨a0, true, vs, rfl, fun g => (.inl (.inl (sqF_ext g h1).1) : SqL X.K _ a0 vs), h2⟩
  | tuple xs =>
    cases h
    obtain ⟨a0, vs, rfl, h1, h2⟩ := r
    exact ⟨a0, false, vs, rfl, fun g => (sqT_ext g (sqP h1) : SqT X.K _ a0 vs), h2⟩
  | _ => cases h
def mZipB (a b : EM W) : EM (List D) := fun rho m => (mCons a (mCons b mNil) rho m).bind fun ws m1 => match ws with
  | [.d x, .d y] => (match seqOf x, seqOf y with | some xs, some ys => .ok ((xs.zip ys).map fun p => .tuple [p.1, p.2]) m1 | _, _ => .no)
  | _ => .no
theorem di_zipB {p pt : Pos} {elts : List Expr} {kk : Nat} (hg : Gl X "zip") (hm : X.mg "zip" = none) (ha : DenA X E [ea, eb] (mCons a (mCons b mNil)))
    (hs : starEach [ea, eb] X.env = (false, eval ea X.env) :: starEach [eb] X.env := by rfl) (hpl : (backTo pos (starEach [eb] X.env)).any (·.1) = false := by rfl) : DenI X E (.Tuple elts kk pt) (.Call (.Name "zip" p) [ea, eb] [] pos) (mZipB a b) :=
  PI.imp (pi_zipB hg hm ha hs hpl) fun σ H R q => by
    obtain ⟨Hd, al, rho, m, s, e, P⟩ := q
    refine ⟨Hd, al, rho, m, s, e, (Post.bind P).imp fun ws al1 p1 m1 H1 g s1 k hp vs rv => ?_⟩
    subst hp
    have P1 := k rfl
    split at P1
    · rename_i x y
      obtain ⟨v, r, rfl, r1, v2, r', rfl, r2, r3⟩ := rv
      have r3' : r' = [] := r3
      subst r3'
      split at P1
      · rename_i xs ys hx hy
        obtain ⟨a0, k1, vs, rfl, h1, h2⟩ := sqB_of r1.2 hx
        obtain ⟨b0, k2, us, rfl, h3, h4⟩ := sqB_of r2.2 hy
        exact ⟨a0, b0, vs, us, k1, k2, rfl, h1 Ext.refl, h3 Ext.refl, Post.ok s1 P1 rfl _ (itD_zipB h1 h3 h2 h4)⟩
      · exact P1.elim
    · exact P1.elim
def mEnum (a : EM W) : EM (List D) := fun rho m => (mCons a mNil rho m).bind fun ws m1 => match ws with
  | [.d x] => (match seqOf x with | some xs => .ok (enumL xs) m1 | none => .no)
  | _ => .no
theorem di_enum {p pt : Pos} {elts : List Expr} {kk : Nat} (hg : Gl X "enumerate") (hm : X.mg "enumerate" = none) (ha : DenA X E [ea] (mCons a mNil)) (hs : starEach [ea] X.env = [(false, eval ea X.env)] := by rfl) :
    DenI X E (.Tuple elts kk pt) (.Call (.Name "enumerate" p) [ea] [] pos) (mEnum a) :=
  PI.imp (pi_enumB hg hm ha hs) fun σ H R q => by
    obtain ⟨Hd, al, rho, m, s, e, P⟩ := q
    refine ⟨Hd, al, rho, m, s, e, (Post.bind P).imp fun ws al1 p1 m1 H1 g s1 k hp vs rv => ?_⟩
    subst hp
    have P1 := k rfl
    split at P1
    · rename_i x
      obtain ⟨v, r, rfl, r1, r3⟩ := rv
      have r3' : r = [] := r3
      subst r3'
      split at P1
      · rename_i xs hx
        obtain ⟨a0, k1, vs, rfl, h1, h2⟩ := sqB_of r1.2 hx
        exact ⟨a0, vs, k1, rfl, h1 Ext.refl, Post.ok s1 P1 rfl _ (itD_enumB h1 h2)⟩
      · exact P1.elim
    · exact P1.elim
/-- *a, .. in a display -/
def mStar (a : EM W) (r : EM (List W)) : EM (List W) := fun rho m => (a rho m).bindV fun w m1 => match w with
  | .d x => (match seqOf x with | some xs => (r rho m1).bind fun ws m2 => .ok (xs.map W.d ++ ws) m2 | none => .no)
  | _ => .no
theorem repWs_app {K : PySem.W.Frag} {mg : Str → Option Value} {O : Addr → Prop} {al : List Addr} {H : Hp} : ∀ {xs : List D} {vs : List V} {ws : List W} {us : List V}, RepDs K O H xs vs → RepWs K mg O al H ws us → RepWs K mg O al H (xs.map W.d ++ ws) (vs ++ us)
  | [], _, _, _, h, h2 => by rw [show _ = [] from h]; exact h2
  | x :: xs, _, _, _, ⟨v, r, h1, h3, h4⟩, h2 => by subst h1; exact ⟨v, _, rfl, ⟨rfl, h3⟩, repWs_app h4 h2⟩
theorem da_star {es : List Expr} {r : EM (List W)} {p : Pos} (ha : Den X E ea a) (hr : DenA X E es r) (hs : starEach (.Starred ea p :: es) X.env = (true, eval ea X.env) :: starEach es X.env := by rfl) : DenA X E (.Starred ea p :: es) (mStar a r) := PA.imp (StX.pa_star ha hr hs) fun σ H Q q => by
  obtain ⟨Hd, al, rho, m, s, e, P⟩ := q
  refine ⟨Hd, al, rho, m, s, e, (Post.bindV P).imp fun w al1 p1 m1 H1 g s1 k v rv => ?_⟩
  obtain ⟨g1, s1', rv1, P1⟩ := k v rv
  generalize val w = y at rv1 P1
  split at P1
  · rename_i x
    split at P1
    · rename_i xs hx
      obtain ⟨a0, k1, vs, rfl, h1, h2⟩ := sqB_of rv1.2 hx
      refine ⟨a0, vs, rfl, ?_, Hd, al1, rho, m1, s1', e.go g1, (Post.bind P1).imp fun ws al2 p2 m2 H2 g2 s2 k2 hp us rw2 => ?_⟩
      · have hq := h1 Ext.refl
        cases k1
        · exact .inl hq
        · exact .inr hq
      · subst hp
        exact Post.ok s2 (k2 rfl) rfl _ (repWs_app (h2.ext g2.ext) rw2)
    · exact P1.elim
  · exact P1.elim
end
end Den
/-! Den26: k in d, k not in d; evaluation of the new mirrors. -/
namespace Den
open PySem PySem.Spec PyProof.Rows L2
def fDIn (neg : Bool) (y w : W) (m : Mem) : Rs W := match dictAt m w, y with
  | some kvs, .d xk => (match keyOf xk with
    | some k => if keyFor w kvs k = true then .ok (.d (.bool (if neg = true then !(valD kvs k).isSome else (valD kvs k).isSome))) m else .no
    | none => .no)
  | _, _ => .no
def rDInC (neg : Bool) : R2 := fun y x H Q => ∃ a0 H3, Conv a0 H H3 ∧ ∃ a o, x = .ref a ∧ DGet H3 a y o ∧ Q (.bl (if neg = true then !o.isSome else o.isSome)) H3
theorem bi_din {X : Cx} (neg : Bool) : Bi2 X (rDInC neg) (fDIn neg) := by
  intro E Hd al m H w v w2 v2 R Q s r1 r2 P k'
  unfold fDIn at P
  split at P
  · rename_i kvs xk hd
    split at P
    · rename_i k hk
      split at P
      · rename_i ok
        obtain ⟨a, H3, rfl, c, g, st, t⟩ := tab_at s r2 hd ok
        have q := tab_get t hk (r1.2.ext g.ext)
        cases hx : valD kvs k with
        | none =>
          rw [hx] at q P
          exact ⟨a, H3, c, a, none, rfl, q, k' _ _ _ _ _ _ (P al none H3 g st) ⟨rfl, rfl⟩⟩
        | some x =>
          rw [hx] at q P
          obtain ⟨u, q1, q2⟩ := q
          exact ⟨a, H3, c, a, some u, rfl, q1, k' _ _ _ _ _ _ (P al none H3 g st) ⟨rfl, rfl⟩⟩
      · exact P.elim
    · exact P.elim
  · exact P.elim
section
variable {X : Cx} {E : St → XK} {ea eb : Expr} {a b : EM W} {pos : Pos}
theorem tm_din {neg : Bool} {σ : L2.St} {H : Hp} {Q : VK} (q : tM X.K X.mg E (mOp2 a b (fDIn neg)) σ H Q) : (if neg = true then tDNotIn (tM X.K X.mg E a) (tConv (tM X.K X.mg E b)) else tDIn (tM X.K X.mg E a) (tConv (tM X.K X.mg E b))) σ H Q := by
  have z : tOp (rDInC neg) (tM X.K X.mg E a) (tM X.K X.mg E b) σ H Q := tM_op (bi_din neg) q
  obtain ⟨Hd, al, rho, m, s, e, P⟩ := z
  cases neg with
  | true =>
    refine ⟨Hd, al, rho, m, s, e, P.imp fun w al1 p1 m1 H1 g s1 k v rv => ?_⟩
    obtain ⟨Hd, al, rho, m, s, e, P⟩ := k v rv
    exact ⟨Hd, al, rho, m, s, e, P.imp fun w2 al2 p2 m2 H2 g2 s2 k2 v2 rv2 => k2 v2 rv2⟩
  | false =>
    refine ⟨Hd, al, rho, m, s, e, P.imp fun w al1 p1 m1 H1 g s1 k v rv => ?_⟩
    obtain ⟨Hd, al, rho, m, s, e, P⟩ := k v rv
    exact ⟨Hd, al, rho, m, s, e, P.imp fun w2 al2 p2 m2 H2 g2 s2 k2 v2 rv2 => k2 v2 rv2⟩
theorem den_din (hu : X.A.units + 65 < cLine) (ha : Den X E ea a) (hb : Den X E eb b) (hm : behindInMarks .In eb = false) : Den X E (.Compare ea [.In] [eb] pos) (mOp2 a b (fDIn false)) :=
  PE.imp (pe_cmp (pc_din (by omega) ha (pe_conv hb)) hm) fun _ _ _ q => tm_din q
theorem den_dnin (hu : X.A.units + 65 < cLine) (ha : Den X E ea a) (hb : Den X E eb b) (hm : behindInMarks .NotIn eb = false) : Den X E (.Compare ea [.NotIn] [eb] pos) (mOp2 a b (fDIn true)) :=
  PE.imp (pe_cmp (pc_dnotin (by omega) ha (pe_conv hb)) hm) fun _ _ _ q => tm_din q
theorem dt_din (hu : X.A.units + 65 < cLine) (ha : Den X E ea a) (hb : Den X E eb b) (hm : behindInMarks .In eb = false) : DenT X E (.Compare ea [.In] [eb] pos) (mBool (mOp2 a b (fDIn false))) :=
  PT.imp (pt_cmp (pc_din (by omega) ha (pe_conv hb)) hm) fun _ _ _ q => tT_bool (fun _ _ _ q => tm_din q) q
theorem dt_dnin (hu : X.A.units + 65 < cLine) (ha : Den X E ea a) (hb : Den X E eb b) (hm : behindInMarks .NotIn eb = false) : DenT X E (.Compare ea [.NotIn] [eb] pos) (mBool (mOp2 a b (fDIn true))) :=
  PT.imp (pt_cmp (pc_dnotin (by omega) ha (pe_conv hb)) hm) fun _ _ _ q => tT_bool (fun _ _ _ q => tm_din q) q
end
section
variable {rho : Env} {m : Mem} {a b : EM W} {r : EM (List W)}
@[simp] theorem e_Enum : mEnum a rho m = (mCons a mNil rho m).bind fun ws m1 => match ws with
  | [.d x] => (match seqOf x with | some xs => .ok (enumL xs) m1 | none => .no)
  | _ => .no := rfl
@[simp] theorem e_ZipB : mZipB a b rho m = (mCons a (mCons b mNil) rho m).bind fun ws m1 => match ws with
  | [.d x, .d y] => (match seqOf x, seqOf y with | some xs, some ys => .ok ((xs.zip ys).map fun p => .tuple [p.1, p.2]) m1 | _, _ => .no)
  | _ => .no := rfl
@[simp] theorem e_Star : mStar a r rho m = (a rho m).bindV fun w m1 => match w with
  | .d x => (match seqOf x with | some xs => (r rho m1).bind fun ws m2 => .ok (xs.map W.d ++ ws) m2 | none => .no)
  | _ => .no := rfl
end
end Den
/-! Den27: max of a tuple of ints. -/
namespace Den
open PySem PySem.Spec PyProof.Rows L2
section
variable {prog : Program} {w : World} {A : Around} {E : Value → Shared → Prop} {s : Shared} {l : Addr}
theorem max_intTuple {xs : Array (Int × Tok)} {Q : Value → Shared → Prop} (hh : A.handled = none) (hl : s.heap.IsTuple l (intItems xs)) (hne : 0 < xs.size)
    (h : ∀ v h' tk, (intItems xs)[argBest (fun i j => decide (numAt xs i > numAt xs j)) (xs.size - 1)]? = some v → (∀ b o, s.heap.get? b = some o → h'.get? b = some o) → Q v { s with heap := h', toks := tk }) :
    wpAny (model prog w) A (call (.builtin "max") [.ref l]) Q E s := by
  have hlt : l < s.heap.objs.size := by obtain ⟨_, e, _⟩ := hl; exact Heap.lt_size e
  refine call_max_walk (wpAny_pyIter_tuple hl ?_)
  refine ⟨s.heap.objs.size, _, _, _, _, _, _, rfl, Walks.tuple (A := A.in1) hh _ l (Nat.ne_of_lt hlt) (intItems xs), ⟨⟨_, Heap.get?_push_size _ rfl, rfl, rfl⟩, hl.push _⟩, fun b hb => ?_, by simpa [intItems] using hne, CmpOf.ints_gt (numAt xs) (fun _ _ => intItems_at), fun v h' tk hP hk => ?_⟩
  · show b < (s.heap.push _).objs.size
    rw [Heap.size_push]
    rcases List.mem_cons.mp hb with rfl | hb
    · exact Nat.lt_succ_self _
    · rcases List.mem_cons.mp hb with rfl | hb
      · exact Nat.lt_succ_of_lt hlt
      · cases hb
  · refine h v h' tk (by simpa [intItems] using hP) fun b o e => hk b o (fun hb => ?_) (Heap.get?_push_of_some _ e)
    exact absurd (Heap.lt_size e) ((List.mem_singleton.mp hb) ▸ Nat.lt_irrefl _)
theorem max_rawT {its : List Value} {ns : List Int} {Q : Value → Shared → Prop} (hh : A.handled = none) (hl : s.heap.IsTuple l its.toArray) (hi : IntsAre its ns) (hne : 0 < ns.length)
    (h : ∀ h' tk M t', (∀ b o, s.heap.get? b = some o → h'.get? b = some o) → M ∈ ns → (∀ a, a ∈ ns → a ≤ M) → Q (.int M t') { s with heap := h', toks := tk }) : wpAny (model prog w) A (call (.builtin "max") [.ref l]) Q E s := by
  obtain ⟨xs, e⟩ := hi.allInts.items
  have hn : numsOf (intItems xs).toList = ns := by rw [← e]; exact hi.numsOf
  rw [nums_intItems] at hn
  subst hn
  rw [e] at hl
  have hsz : 0 < xs.size := by simpa using hne
  refine max_intTuple hh hl hsz fun v h' tk hv hk => ?_
  obtain ⟨t, rfl⟩ := intItems_at hv
  obtain ⟨h1, h2⟩ := argBest_gt (numAt xs) (xs.size - 1)
  refine h h' tk _ t hk ?_ fun a ha => ?_
  · rw [numAt_eq]; exact PySem.getD_mem (by rw [List.length_map, Array.length_toList]; omega)
  · obtain ⟨j, hj, rfl⟩ := mem_getD ha
    rw [List.length_map, Array.length_toList] at hj
    rw [← numAt_eq]; exact h2 j (by omega)
end
def rMaxB (K : PySem.W.Frag) : List V → Hp → VK → Prop := fun vs H Q => ∃ (a : Addr) (ns : List Int) (k : Bool), vs = [V.ref a] ∧ SqB K k H a (ns.map V.int) ∧ 0 < ns.length ∧ ∀ m, m ∈ ns → (∀ y, y ∈ ns → y ≤ m) → Q (.int m) H
theorem cr_maxB {X : Cx} (hc : X.calm = true) : CallR X (.builtin "max") (rMaxB X.K) := by
  intro pins s σ H vs us Q I r h
  obtain ⟨a, ns, k, rfl, hs, hne, q⟩ := h
  rw [Vals.ref1 r]
  cases k with
  | true =>
    obtain ⟨its, rv, hl, _⟩ := I.list hs
    exact max_raw (I.ok.hd hc) hl.isList rv.ints hne fun h' tk m t' hk h1 h2 => ⟨.int _, H, I.kept hk, ⟨_, rfl⟩, q m h1 h2⟩
  | false =>
    obtain ⟨its, rv, hl, _⟩ := I.tuple hs
    exact max_rawT (I.ok.hd hc) (show s.heap.IsTuple a its.toArray from hl) rv.ints hne fun h' tk m t' hk h1 h2 => ⟨.int _, H, I.kept hk, ⟨_, rfl⟩, q m h1 h2⟩
def maxBD (x : D) : Option D := match seqOf x with
  | some ds => (match intsOf ds with | some (n :: ns) => some (.int (maxI (n :: ns))) | _ => none)
  | none => none
theorem sqB_P {X : Cx} {O : Addr → Prop} {H : Hp} {x : D} {v : V} {ds : List D} (r : RepP X.K O H x v) (h : seqOf x = some ds) : ∃ a0 k vs, v = .ref a0 ∧ SqB X.K k H a0 vs ∧ RepDs X.K O H ds vs := by
  cases x with
  | list xs =>
    cases h
    obtain ⟨a0, vs, rfl, h1, h2⟩ := r
    exact ⟨a0, true, vs, rfl, (.inl (.inl h1) : SqL X.K _ a0 vs), h2⟩
  | tuple xs =>
    cases h
    obtain ⟨a0, vs, rfl, h1, h2⟩ := r
    exact ⟨a0, false, vs, rfl, (sqP h1 : SqT X.K _ a0 vs), h2⟩
  | _ => cases h
theorem ca_maxB {X : Cx} : Ca X (rMaxB X.K) (fD1 maxBD) := ca_D1 fun O H x v y Q rv e k => by
  unfold maxBD at e
  split at e
  · rename_i ds hx
    split at e
    · rename_i n ns hn
      cases e
      obtain ⟨a0, kk, vs, rfl, h1, h2⟩ := sqB_P rv hx
      rw [intsOf_eq hn] at h2
      rw [repDs_ints h2] at h1
      refine ⟨a0, n :: ns, kk, rfl, h1, by simp, fun m hm hle => ?_⟩
      obtain ⟨g1, g2⟩ := maxI_ok (xs := n :: ns) (by simp)
      have e1 : m = maxI (n :: ns) := Int.le_antisymm (g2 m hm) (hle _ g1)
      rw [e1]
      exact k _ rfl
    · cases e
  · cases e
end Den
/-! Den28: data that can be shown, with a bound of the length of the text, put together item by item. -/
namespace Den
open PySem PySem.Spec PyProof.Rows L2
structure Shv (d r : Nat) (x : D) : Prop where
  s : x.showable = true
  h : x.hasDict = false
  dp : x.depth ≤ d
  l : x.shown.length ≤ r
theorem Shv.up {d r d2 r2 : Nat} {x : D} (h : Shv d r x) (h1 : d ≤ d2) (h2 : r ≤ r2) : Shv d2 r2 x := ⟨h.s, h.h, Nat.le_trans h.dp h1, Nat.le_trans h.l h2⟩
theorem shv_none {d : Nat} : Shv d 4 .none := ⟨by simp only [PyData.showable], by simp only [PyData.hasDict], by simp [PyData.depth], by decide⟩
theorem shv_bool {d : Nat} {b : Bool} : Shv d 5 (.bool b) := ⟨by simp only [PyData.showable], by simp only [PyData.hasDict], by simp [PyData.depth], by cases b <;> decide⟩
theorem shv_int {d k : Nat} {i : Int} (h : i.natAbs < 10 ^ k) (h0 : 0 < k) (hk : k ≤ 480) : Shv d (k + 1) (.int i) := by
  refine ⟨?_, by simp only [PyData.hasDict], by simp [PyData.depth], ?_⟩
  · simp only [PyData.showable]
    have h1 : i.natAbs < 2 ^ (4 * k) := by
      rw [Nat.pow_mul]
      exact Nat.lt_of_lt_of_le h (Nat.pow_le_pow_left (by decide) k)
    have : i.natAbs.log2 < 4 * k := by
      by_cases h0 : i.natAbs = 0
      · rw [h0]; simp; omega
      · exact (Nat.log2_lt h0).mpr h1
    exact decide_eq_true (by omega)
  · have e := int_text_length_le10 (a := i) (k := k) h0 h
    simp only [PyData.shown]
    rw [PySem.ofString_length]
    exact e
theorem shv_str {d : Nat} {x : Str} (h : (x.cps.toList.all fun c => decide (c < 16 ^ 8)) = true) : Shv d (10 * x.length + 2) (.str x) := by
  refine ⟨by simp only [PyData.showable], by simp only [PyData.hasDict], by simp [PyData.depth], ?_⟩
  simp only [PyData.shown]
  exact StrLaws.reprText_len x fun c hc => of_decide_eq_true (List.all_eq_true.mp h c hc)
theorem shv_all {d r : Nat} : ∀ {xs : List D}, (∀ x ∈ xs, Shv d r x) → PyData.showableAll xs = true ∧ PyData.hasDictAll xs = false ∧ PyData.depthAll xs ≤ d ∧ ((PyData.shownAll xs).map (·.length)).sum + 2 * xs.length ≤ xs.length * (r + 2)
  | [], _ => ⟨by simp only [PyData.showableAll], by simp only [PyData.hasDictAll], by simp [PyData.depthAll], by simp [PyData.shownAll]⟩
  | x :: xs, h => by
    obtain ⟨a1, a2, a3, a4⟩ := h x List.mem_cons_self
    obtain ⟨b1, b2, b3, b4⟩ := shv_all fun y hy => h y (List.mem_cons_of_mem _ hy)
    refine ⟨by simp only [PyData.showableAll]; rw [a1, b1]; rfl, by simp only [PyData.hasDictAll]; rw [a2, b2]; rfl, ?_, ?_⟩
    · simp only [PyData.depthAll]; exact Nat.max_le.mpr ⟨a3, b3⟩
    · simp only [PyData.shownAll, List.map_cons, List.sum_cons, List.length_cons]
      rw [Nat.add_mul, Nat.one_mul]; omega
theorem shv_list {d r : Nat} {xs : List D} (h : ∀ x ∈ xs, Shv d r x) : Shv (d + 1) (xs.length * (r + 2) + 3) (.list xs) := by
  obtain ⟨h1, h2, h3, h4⟩ := shv_all h
  have q := listText_len_le (PyData.shownAll xs)
  rw [shown_n] at q
  refine ⟨by simp only [PyData.showable]; exact h1, by simp only [PyData.hasDict]; exact h2, by simp only [PyData.depth]; omega, ?_⟩
  simp only [PyData.shown]; omega
theorem shv_tuple {d r : Nat} {xs : List D} (h : ∀ x ∈ xs, Shv d r x) : Shv (d + 1) (xs.length * (r + 2) + 3) (.tuple xs) := by
  obtain ⟨h1, h2, h3, h4⟩ := shv_all h
  have q := tupleText_len_le (PyData.shownAll xs)
  rw [shown_n] at q
  refine ⟨by simp only [PyData.showable]; exact h1, by simp only [PyData.hasDict]; exact h2, by simp only [PyData.depth]; omega, ?_⟩
  simp only [PyData.shown]; omega
theorem shv_two {d r : Nat} {x y : D} (h : Shv d r x) (h2 : Shv d r y) : Shv (d + 1) (2 * (r + 2) + 3) (.tuple [x, y]) := shv_tuple (xs := [x, y]) fun z hz => by
  rcases List.mem_cons.mp hz with rfl | hz
  · exact h
  · rw [List.mem_singleton] at hz; subst hz; exact h2
theorem repr_shv {d r : Nat} {x : D} (h : Shv d r x) (h2 : d ≤ 60) (h3 : r ≤ 1000000) : reprD x = some (.str x.shown) := by
  unfold reprD reprOk
  rw [h.s, h.h, decide_eq_true (Nat.le_trans h.dp h2), small_le (Nat.le_trans h.l h3)]
  rfl
/-- texts of two data: the tests == and != of them -/
theorem eq_texts {x y : D} {b : Bool} (h : b = decide (x.shown = y.shown)) : eqD (.str x.shown) (.str y.shown) = some (.d (.bool b)) := by rw [eq_s, h]
end Den
set_option exponentiation.threshold 5000
namespace Law
open PySem PySem.Spec PyProof.Rows L2 Den
def topS (i : Nat) : Stmt := PySem.Challenge.pw_queuenets_k35_links_used_together.main.body.getD i (.Pass ⟨0, 0, 0, 0⟩)
def kindF : Str → Option Str := kindTab
def m_common : SM := sSeq (sWhile 1000000 (mTru (mVar 1)) (sSeq (sPar 0 1 (mVar 1) (mMod (mVar 0) (mVar 1))) (sSkip))) (sSeq (sRet (mVar 0)) (sSkip))
def F_common : List W → Mem → Rs W := runF 2 m_common
def m_least_terms : SM := sSeq (sSet 2 (mCall 2 F_common (mCons (mB (mCons (mVar 0) (mNil)) (fD1 absD)) (mCons (mVar 1) (mNil))))) (sSeq (sRet (mTup (mCons (mFdiv (mVar 0) (mVar 2)) (mCons (mFdiv (mVar 1) (mVar 2)) (mNil))))) (sSkip))
def F_least_terms : List W → Mem → Rs W := runF 3 m_least_terms
def m_add : SM := sSeq (sRet (mCall 2 F_least_terms (mCons (mAdd (mMul (mIx (mVar 0) (mC (.int 0))) (mIx (mVar 1) (mC (.int 1)))) (mMul (mIx (mVar 1) (mC (.int 0))) (mIx (mVar 0) (mC (.int 1))))) (mCons (mMul (mIx (mVar 0) (mC (.int 1))) (mIx (mVar 1) (mC (.int 1)))) (mNil))))) (sSkip)
def F_add : List W → Mem → Rs W := runF 2 m_add
def m_total : SM := sSeq (sSet 1 (mTup (mCons (mC (.int 0)) (mCons (mC (.int 1)) (mNil))))) (sSeq (sFor (mItems (mVar 0)) (gN 2) (sSeq (sSet 1 (mCall 2 F_add (mCons (mVar 1) (mCons (mVar 2) (mNil))))) (sSkip))) (sSeq (sRet (mVar 1)) (sSkip)))
def F_total : List W → Mem → Rs W := runF 3 m_total
def m_fits : SM := sSeq (sFor (mEnum (mVar 0)) (gT [gN 3, gN 4]) (sSeq (sIf (mBool (mOp2 (mB (mCons (mLC (mZipB (mVar 2) (mVar 1)) [5, 6, 7] (gT [gN 5, gT [gN 6, gN 7]]) (mBool (mOp2 (mMod (mShr (mVar 6) (mVar 3)) (mC (.int 2))) (mC (.int 1)) (lift2 eqD))) (mVar 5)) (mNil)) (fD1 sumD)) (mVar 4) (lift2 gtD))) (sSeq (sRet (mC (.bool false))) (sSkip)) (sSkip)) (sSkip))) (sSeq (sRet (mC (.bool true))) (sSkip))
def F_fits : List W → Mem → Rs W := runF 8 m_fits
def m_is_fraction : SM := sSeq (sRet (mAndV (mOp2 (mB (mCons (mVar 0) (mNil)) (fD1 lenD)) (mC (.int 2)) (lift2 eqD)) (mAndV (mOp2 (mIx (mVar 0) (mC (.int 1))) (mC (.int 0)) (lift2 gtD)) (mOp2 (mCall 2 F_common (mCons (mB (mCons (mIx (mVar 0) (mC (.int 0))) (mNil)) (fD1 absD)) (mCons (mIx (mVar 0) (mC (.int 1))) (mNil)))) (mC (.int 1)) (lift2 eqD))))) (sSkip)
def F_is_fraction : List W → Mem → Rs W := runF 1 m_is_fraction
def m_is_rate : SM := sSeq (sRet (mAndV (mCall 1 F_is_fraction (mCons (mVar 0) (mNil))) (mAndV (mChain (lift2 ltD) (lift2 leD) (mC (.int 0)) (mIx (mVar 0) (mC (.int 0))) (mC (.int 1000))) (mOp2 (mIx (mVar 0) (mC (.int 1))) (mC (.int 1000)) (lift2 leD))))) (sSkip)
def F_is_rate : List W → Mem → Rs W := runF 1 m_is_rate
def m_are_links : SM := sSeq (sIf (mOrT (mNotT (mBool (mChain (lift2 leD) (lift2 leD) (mC (.int 1)) (mB (mCons (mVar 0) (mNil)) (fD1 lenD)) (mC (.int 4))))) (mNotT (mTru (mB (mCons (mLC (mItems (mVar 0)) [2] (gN 2) (tYesT) (mChain (lift2 leD) (lift2 leD) (mC (.int 1)) (mVar 2) (mC (.int 20)))) (mNil)) (fD1 allD))))) (sSeq (sRet (mC (.bool false))) (sSkip)) (sSkip)) (sSeq (sIf (mNotT (mBool (mChain (lift2 leD) (lift2 leD) (mC (.int 1)) (mB (mCons (mVar 1) (mNil)) (fD1 lenD)) (mC (.int 6))))) (sSeq (sRet (mC (.bool false))) (sSkip)) (sSkip)) (sSeq (sRet (mB (mCons (mLC (mItems (mVar 1)) [3, 4] (gT [gN 3, gN 4]) (tYesT) (mAndV (mChain (lift2 ltD) (lift2 ltD) (mC (.int 0)) (mVar 3) (mShl (mC (.int 1)) (mB (mCons (mVar 0) (mNil)) (fD1 lenD)))) (mCall 1 F_is_rate (mCons (mVar 4) (mNil))))) (mNil)) (fD1 allD))) (sSkip)))
def F_are_links : List W → Mem → Rs W := runF 5 m_are_links
def m_check_links : SM := sSeq (sIf (mNotT (mTru (mCall 2 F_are_links (mCons (mVar 0) (mCons (mVar 1) (mNil)))))) (sSeq (sRaise "NotNet") (sSkip)) (sSkip)) (sSkip)
def F_check_links : List W → Mem → Rs W := runF 2 m_check_links
def m_by : SM := sSeq (sSet 2 (mIf (mBool (mOp2 (mIx (mVar 1) (mC (.int 0))) (mC (.int 0)) (lift2 gtD))) (mC (.int 1)) (mNeg (mC (.int 1))))) (sSeq (sRet (mCall 2 F_least_terms (mCons (mMul (mMul (mVar 2) (mIx (mVar 0) (mC (.int 0)))) (mIx (mVar 1) (mC (.int 1)))) (mCons (mMul (mIx (mVar 0) (mC (.int 1))) (mB (mCons (mIx (mVar 1) (mC (.int 0))) (mNil)) (fD1 absD))) (mNil))))) (sSkip))
def F_by : List W → Mem → Rs W := runF 3 m_by
def m_times : SM := sSeq (sRet (mCall 2 F_least_terms (mCons (mMul (mIx (mVar 0) (mC (.int 0))) (mIx (mVar 1) (mC (.int 0)))) (mCons (mMul (mIx (mVar 0) (mC (.int 1))) (mIx (mVar 1) (mC (.int 1)))) (mNil))))) (sSkip)
def F_times : List W → Mem → Rs W := runF 2 m_times
def m_weight_by : SM := sSeq (sSet 2 (mTup (mCons (mC (.int 1)) (mCons (mC (.int 1)) (mNil))))) (sSeq (sFor (mZipB (mVar 0) (mVar 1)) (gT [gN 3, gN 4]) (sSeq (sFor (mRange1 (mVar 4)) (gN 5) (sSeq (sSet 2 (mCall 2 F_times (mCons (mVar 2) (mCons (mCall 2 F_by (mCons (mVar 3) (mCons (mTup (mCons (mAdd (mVar 5) (mC (.int 1))) (mCons (mC (.int 1)) (mNil)))) (mNil)))) (mNil))))) (sSkip))) (sSkip))) (sSeq (sRet (mVar 2)) (sSkip)))
def F_weight_by : List W → Mem → Rs W := runF 6 m_weight_by
def m_link_states_of : SM := sSeq (sSet 2 (mLst (mCons (mTup (mNil)) (mNil)))) (sSeq (sFor (mRange1 (mB (mCons (mVar 1) (mNil)) (fD1 lenD))) (gN 3) (sSeq (sSetR 4 (mLst (mNil))) (sSeq (sFor (mItems (mVar 2)) (gN 5) (sSeq (sSet 6 (mC (.int 0))) (sSeq (sWhile 1000000 (mTru (mCall 3 F_fits (mCons (mVar 0) (mCons (mSl (mVar 1) (oNone) (oSome (mAdd (mVar 3) (mC (.int 1))))) (mCons (mTup (mStar (mVar 5) (mCons (mVar 6) (mNil)))) (mNil)))))) (sSeq (sDrop (mM .lst (mVar 4) (mCons (mTup (mStar (mVar 5) (mCons (mVar 6) (mNil)))) (mNil)) fAppend)) (sSeq (sAugI 6 (fun i j => i + j) (mC (.int 1))) (sSeq (sIf (mBool (mOp2 (mB (mCons (mVar 4) (mNil)) (fD1 lenD)) (mC (.int 2000)) (lift2 gtD))) (sSeq (sRaise "TooLarge") (sSkip)) (sSkip)) (sSkip))))) (sSkip)))) (sSeq (sSet 2 (mVar 4)) (sFrz 2 (sSkip)))))) (sSeq (sRet (mVar 2)) (sSkip)))
def F_link_states_of : List W → Mem → Rs W := runF 7 m_link_states_of
def m_link_shares_of : SM := sSeq (sSet 2 (mLC (mItems (mVar 1)) [3, 4] (gT [gN 3, gN 4]) (tYesT) (mVar 4))) (sSeq (sSet 5 (mLC (mItems (mCall 2 F_link_states_of (mCons (mVar 0) (mCons (mVar 1) (mNil))))) [6] (gN 6) (tYesT) (mTup (mCons (mVar 6) (mCons (mCall 2 F_weight_by (mCons (mVar 2) (mCons (mVar 6) (mNil)))) (mNil)))))) (sSeq (sSet 7 (mCall 1 F_total (mCons (mLC (mItems (mVar 5)) [3, 8] (gT [gN 3, gN 8]) (tYesT) (mVar 8)) (mNil)))) (sSeq (sRet (mLC (mItems (mVar 5)) [6, 8] (gT [gN 6, gN 8]) (tYesT) (mTup (mCons (mVar 6) (mCons (mCall 2 F_by (mCons (mVar 8) (mCons (mVar 7) (mNil)))) (mNil)))))) (sSkip))))
def F_link_shares_of : List W → Mem → Rs W := runF 9 m_link_shares_of
def m_link_losses : SM := sSeq (sDrop (mCall 2 F_check_links (mCons (mVar 0) (mCons (mVar 1) (mNil))))) (sSeq (sSet 2 (mCall 2 F_link_shares_of (mCons (mVar 0) (mCons (mVar 1) (mNil))))) (sSeq (sSetR 3 (mLst (mNil))) (sSeq (sFor (mRange1 (mB (mCons (mVar 1) (mNil)) (fD1 lenD))) (gN 4) (sSeq (sSetR 5 (mLst (mNil))) (sSeq (sFor (mItems (mVar 2)) (gT [gN 6, gN 7]) (sSeq (sSet 8 (mTup (mStar (mSl (mVar 6) (oNone) (oSome (mVar 4))) (mCons (mAdd (mIx (mVar 6) (mVar 4)) (mC (.int 1))) (mStar (mSl (mVar 6) (oSome (mAdd (mVar 4) (mC (.int 1)))) (oNone)) (mNil)))))) (sSeq (sIf (mNotT (mTru (mCall 3 F_fits (mCons (mVar 0) (mCons (mVar 1) (mCons (mVar 8) (mNil))))))) (sSeq (sDrop (mM .lst (mVar 5) (mCons (mVar 7) (mNil)) fAppend)) (sSkip)) (sSkip)) (sSkip)))) (sFrz 5 (sSeq (sDrop (mM .lst (mVar 3) (mCons (mCall 1 F_total (mCons (mVar 5) (mNil))) (mNil)) fAppend)) (sSkip)))))) (sSeq (sRet (mB (mCons (mVar 3) (mNil)) fTup)) (sSkip)))))
def F_link_losses : List W → Mem → Rs W := runF 9 m_link_losses
def m__law_number : SM := sSeq (sIf (mBool (mOp2 (mVar 0) (mC (.int 0)) (lift2 ltD))) (sSeq (sRet (mSub (mC (.int 0)) (mVar 0))) (sSkip)) (sSkip)) (sSeq (sRet (mVar 0)) (sSkip))
def F__law_number : List W → Mem → Rs W := runF 1 m__law_number
def m__law_draws : SM := sSeq (sSetR 1 (mLst (mNil))) (sSeq (sFor (mItems (mVar 0)) (gN 2) (sSeq (sSet 3 (mCall 1 F__law_number (mCons (mVar 2) (mNil)))) (sSeq (sIf (mBool (mOp2 (mVar 3) (mC (.int 1000000000000000000)) (lift2 geD))) (sSeq (sFor (mRange1 (mC (.int 60))) (gN 4) (sSeq (sIf (mBool (mOp2 (mVar 3) (mC (.int 0)) (lift2 eqD))) (sSeq (sBreak) (sSkip)) (sSkip)) (sSeq (sDrop (mM .lst (mVar 1) (mCons (mMod (mB (mCons (mVar 3) (mNil)) (fD1 intD)) (mC (.int 1000))) (mNil)) fAppend)) (sSeq (sSet 3 (mFdiv (mVar 3) (mC (.int 1000)))) (sSkip))))) (sSkip)) (sSeq (sSet 5 (mMod (mB (mCons (mAdd (mMul (mVar 3) (mC (.int 48271))) (mC (.int 11))) (mNil)) (fD1 intD)) (mC (.int 2147483647)))) (sSeq (sSet 6 (mMod (mB (mCons (mAdd (mMul (mVar 5) (mC (.int 69621))) (mVar 3)) (mNil)) (fD1 intD)) (mC (.int 2147483629)))) (sSeq (sDrop (mM .lst (mVar 1) (mCons (mLst (mCons (mMod (mB (mCons (mVar 3) (mNil)) (fD1 intD)) (mC (.int 1000))) (mCons (mMod (mB (mCons (mVar 5) (mNil)) (fD1 intD)) (mC (.int 1000))) (mCons (mMod (mB (mCons (mVar 6) (mNil)) (fD1 intD)) (mC (.int 1000))) (mNil))))) (mNil)) fExtend)) (sSkip))))) (sSkip)))) (sSeq (sDrop (mM .lst (mVar 1) mNil fReverse)) (sSeq (sRet (mVar 1)) (sSkip))))
def F__law_draws : List W → Mem → Rs W := runF 7 m__law_draws
def m__law_next : SM := sSeq (sIf (mTru (mVar 0)) (sSeq (sRet (mM .lst (mVar 0) mNil fPop)) (sSkip)) (sSkip)) (sSeq (sRet (mC (.int 0))) (sSkip))
def F__law_next : List W → Mem → Rs W := runF 1 m__law_next
def m__law_more : SM := sSeq (sSet 2 (mAdd (mAdd (mMul (mC (.int 1000)) (mCall 1 F__law_next (mCons (mVar 0) (mNil)))) (mCall 1 F__law_next (mCons (mVar 0) (mNil)))) (mC (.int 1)))) (sSeq (sSetR 3 (mLst (mNil))) (sSeq (sFor (mRange1 (mVar 1)) (gN 4) (sSeq (sSet 2 (mMod (mB (mCons (mAdd (mMul (mVar 2) (mC (.int 48271))) (mC (.int 12345))) (mNil)) (fD1 intD)) (mC (.int 2147483647)))) (sSeq (sDrop (mM .lst (mVar 3) (mCons (mMod (mB (mCons (mFdiv (mVar 2) (mC (.int 7))) (mNil)) (fD1 intD)) (mC (.int 1000))) (mNil)) fAppend)) (sSkip)))) (sSeq (sRet (mAdd (mVar 3) (mVar 0))) (sSkip))))
def F__law_more : List W → Mem → Rs W := runF 5 m__law_more
def m__law_pick : SM := sSeq (sRet (mIx (mVar 1) (mMod (mB (mCons (mCall 1 F__law_next (mCons (mVar 0) (mNil))) (mNil)) (fD1 intD)) (mB (mCons (mVar 1) (mNil)) (fD1 lenD))))) (sSkip)
def F__law_pick : List W → Mem → Rs W := runF 2 m__law_pick
def m__law_power : SM := sSeq (sSet 1 (mC (.int 1))) (sSeq (sFor (mRange1 (mVar 0)) (gN 2) (sSeq (sSet 1 (mMul (mC (.int 2)) (mVar 1))) (sSkip))) (sSeq (sRet (mVar 1)) (sSkip)))
def F__law_power : List W → Mem → Rs W := runF 3 m__law_power
def m__law_common : SM := sSeq (sFor (mRange1 (mC (.int 9000))) (gN 2) (sSeq (sIf (mBool (mOp2 (mVar 1) (mC (.int 0)) (lift2 eqD))) (sSeq (sRet (mVar 0)) (sSkip)) (sSkip)) (sSeq (sPar 0 1 (mVar 1) (mMod (mB (mCons (mVar 0) (mNil)) (fD1 intD)) (mB (mCons (mVar 1) (mNil)) (fD1 intD)))) (sSkip)))) (sSeq (sRet (mC (.int 1))) (sSkip))
def F__law_common : List W → Mem → Rs W := runF 3 m__law_common
def m__law_lowest : SM := sSeq (sSet 2 (mCall 2 F__law_common (mCons (mB (mCons (mVar 0) (mNil)) (fD1 absD)) (mCons (mVar 1) (mNil))))) (sSeq (sRet (mTup (mCons (mFdiv (mVar 0) (mVar 2)) (mCons (mFdiv (mVar 1) (mVar 2)) (mNil))))) (sSkip))
def F__law_lowest : List W → Mem → Rs W := runF 3 m__law_lowest
def m__law_add : SM := sSeq (sRet (mCall 2 F__law_lowest (mCons (mAdd (mMul (mIx (mVar 0) (mC (.int 0))) (mIx (mVar 1) (mC (.int 1)))) (mMul (mIx (mVar 1) (mC (.int 0))) (mIx (mVar 0) (mC (.int 1))))) (mCons (mMul (mIx (mVar 0) (mC (.int 1))) (mIx (mVar 1) (mC (.int 1)))) (mNil))))) (sSkip)
def F__law_add : List W → Mem → Rs W := runF 2 m__law_add
def m__law_times : SM := sSeq (sRet (mCall 2 F__law_lowest (mCons (mMul (mIx (mVar 0) (mC (.int 0))) (mIx (mVar 1) (mC (.int 0)))) (mCons (mMul (mIx (mVar 0) (mC (.int 1))) (mIx (mVar 1) (mC (.int 1)))) (mNil))))) (sSkip)
def F__law_times : List W → Mem → Rs W := runF 2 m__law_times
def m__law_by : SM := sSeq (sSet 2 (mIf (mBool (mOp2 (mIx (mVar 1) (mC (.int 0))) (mC (.int 0)) (lift2 gtD))) (mC (.int 1)) (mNeg (mC (.int 1))))) (sSeq (sRet (mCall 2 F__law_lowest (mCons (mMul (mMul (mVar 2) (mIx (mVar 0) (mC (.int 0)))) (mIx (mVar 1) (mC (.int 1)))) (mCons (mMul (mMul (mIx (mVar 0) (mC (.int 1))) (mVar 2)) (mIx (mVar 1) (mC (.int 0)))) (mNil))))) (sSkip))
def F__law_by : List W → Mem → Rs W := runF 3 m__law_by
def m__law_total : SM := sSeq (sSet 1 (mTup (mCons (mC (.int 0)) (mCons (mC (.int 1)) (mNil))))) (sSeq (sFor (mItems (mVar 0)) (gN 2) (sSeq (sSet 1 (mCall 2 F__law_add (mCons (mVar 1) (mCons (mVar 2) (mNil))))) (sSkip))) (sSeq (sRet (mVar 1)) (sSkip)))
def F__law_total : List W → Mem → Rs W := runF 3 m__law_total
def m__law_rate : SM := sSeq (sRet (mCall 2 F__law_lowest (mCons (mAdd (mC (.int 1)) (mMod (mB (mCons (mCall 1 F__law_next (mCons (mVar 0) (mNil))) (mNil)) (fD1 intD)) (mVar 1))) (mCons (mAdd (mC (.int 1)) (mMod (mB (mCons (mCall 1 F__law_next (mCons (mVar 0) (mNil))) (mNil)) (fD1 intD)) (mVar 1))) (mNil))))) (sSkip)
def F__law_rate : List W → Mem → Rs W := runF 2 m__law_rate
def m__law_on : SM := sSeq (sRet (mMod (mB (mCons (mFdiv (mVar 0) (mCall 1 F__law_power (mCons (mVar 1) (mNil)))) (mNil)) (fD1 intD)) (mC (.int 2)))) (sSkip)
def F__law_on : List W → Mem → Rs W := runF 2 m__law_on
def m__law_fits : SM := sSeq (sFor (mRange1 (mB (mCons (mVar 0) (mNil)) (fD1 lenD))) (gN 3) (sSeq (sIf (mBool (mOp2 (mB (mCons (mLC (mRange1 (mB (mCons (mVar 2) (mNil)) (fD1 lenD))) [4] (gN 4) (mBool (mOp2 (mCall 2 F__law_on (mCons (mIx (mIx (mVar 1) (mVar 4)) (mC (.int 0))) (mCons (mVar 3) (mNil)))) (mC (.int 1)) (lift2 eqD))) (mIx (mVar 2) (mVar 4))) (mNil)) (fD1 sumD)) (mIx (mVar 0) (mVar 3)) (lift2 gtD))) (sSeq (sRet (mC (.bool false))) (sSkip)) (sSkip)) (sSkip))) (sSeq (sRet (mC (.bool true))) (sSkip))
def F__law_fits : List W → Mem → Rs W := runF 5 m__law_fits
def m__law_states : SM := sSeq (sSet 2 (mLst (mCons (mTup (mNil)) (mNil)))) (sSeq (sFor (mRange1 (mB (mCons (mVar 1) (mNil)) (fD1 lenD))) (gN 3) (sSeq (sSetR 4 (mLst (mNil))) (sSeq (sFor (mItems (mVar 2)) (gN 5) (sSeq (sDrop (mM .lst (mVar 4) (mCons (mLC (mRange1 (mAdd (mB (mCons (mVar 0) (mNil)) (fD1 maxBD)) (mC (.int 1)))) [6] (gN 6) (tYesT) (mAdd (mVar 5) (mTup (mCons (mVar 6) (mNil))))) (mNil)) fExtend)) (sSkip))) (sFrz 4 (sSeq (sSet 2 (mLC (mItems (mVar 4)) [5] (gN 5) (mTru (mCall 3 F__law_fits (mCons (mVar 0) (mCons (mVar 1) (mCons (mVar 5) (mNil)))))) (mVar 5))) (sSkip)))))) (sSeq (sRet (mVar 2)) (sSkip)))
def F__law_states : List W → Mem → Rs W := runF 7 m__law_states
def m_link_shares : SM := sSeq (sDrop (mCall 2 F_check_links (mCons (mVar 0) (mCons (mVar 1) (mNil))))) (sSeq (sRet (mCall 2 F_link_shares_of (mCons (mVar 0) (mCons (mVar 1) (mNil))))) (sSkip))
def F_link_shares : List W → Mem → Rs W := runF 2 m_link_shares
def m__law_kind (a : Addr) (y : Str) : SM := sSeq (sSet 1 (mLst (mCons (mC (.str "chain")) (mCons (mC (.str "net")) (mCons (mC (.str "trace")) (mCons (mC (.str "paper")) (mCons (mC (.str "number")) (mCons (mC (.str "none")) (mCons (mC (.str "large")) (mNil)))))))))) (sSeq (sSet 2 (mLst (mCons (mIsE a 0 (decide (("NotChain" : Str) = y))) (mCons (mIsE a 0 (decide (("NotNet" : Str) = y))) (mCons (mIsE a 0 (decide (("NotTrace" : Str) = y))) (mCons (mIsE a 0 (decide (("NotPaper" : Str) = y))) (mNil))))))) (sSeq (sSet 2 (mAdd (mVar 2) (mLst (mCons (mIsE a 0 (decide (("BadNumber" : Str) = y))) (mCons (mIsE a 0 (decide (("NoAnswer" : Str) = y))) (mCons (mIsE a 0 (decide (("TooLarge" : Str) = y))) (mNil))))))) (sSeq (sRet (mIf (mBool (mOp2 (mM .lst (mVar 2) (mCons (mC (.bool true)) (mNil)) (fMD cntD)) (mC (.int 1)) (lift2 eqD))) (mAdd (mC (.str "!")) (mIx (mVar 1) (mM .lst (mVar 2) (mCons (mC (.bool true)) (mNil)) (fMD indD)))) (mC (.str "!other")))) (sSkip))))
def m__law_asked : SM := sSeq (sTryK 3 (sSeq (sRet (mPick [("link_shares", 2, F_link_shares), ("link_losses", 2, F_link_losses)] (mVar 0) (mCons (mVar 1) (mCons (mVar 2) (mNil))))) (sSkip)) kindF) (sSkip)
def F__law_asked : List W → Mem → Rs W := runF 4 m__law_asked
def m_law : SM := sSeq (sSetR 1 (mCall 1 F__law_draws (mCons (mVar 0) (mNil)))) (sSeq (sSetR 1 (mCall 2 F__law_more (mCons (mVar 1) (mCons (mC (.int 60)) (mNil))))) (sSeq (sSet 2 (mAdd (mC (.int 1)) (mMod (mB (mCons (mCall 1 F__law_next (mCons (mVar 1) (mNil))) (mNil)) (fD1 intD)) (mC (.int 3))))) (sSeq (sSet 3 (mB (mCons (mLC (mRange1 (mVar 2)) [4] (gN 4) (tYesT) (mAdd (mC (.int 1)) (mMod (mB (mCons (mCall 1 F__law_next (mCons (mVar 1) (mNil))) (mNil)) (fD1 intD)) (mIx (mLst (mCons (mC (.int 6)) (mCons (mC (.int 4)) (mCons (mC (.int 3)) (mNil))))) (mSub (mVar 2) (mC (.int 1))))))) (mNil)) fTup)) (sSeq (sSet 5 (mB (mCons (mLC (mRange1 (mAdd (mC (.int 1)) (mMod (mB (mCons (mCall 1 F__law_next (mCons (mVar 1) (mNil))) (mNil)) (fD1 intD)) (mC (.int 3))))) [6] (gN 6) (tYesT) (mTup (mCons (mAdd (mC (.int 1)) (mMod (mB (mCons (mCall 1 F__law_next (mCons (mVar 1) (mNil))) (mNil)) (fD1 intD)) (mSub (mCall 1 F__law_power (mCons (mVar 2) (mNil))) (mC (.int 1))))) (mCons (mCall 2 F__law_rate (mCons (mVar 1) (mCons (mC (.int 4)) (mNil)))) (mNil))))) (mNil)) fTup)) (sSeq (sSet 7 (mCall 2 F__law_states (mCons (mVar 3) (mCons (mVar 5) (mNil))))) (sSeq (sSetR 8 (mDNew)) (sSeq (sFor (mItems (mVar 7)) (gN 9) (sSeq (sSet 10 (mTup (mCons (mC (.int 1)) (mCons (mC (.int 1)) (mNil))))) (sSeq (sFor (mRange1 (mB (mCons (mVar 5) (mNil)) (fD1 lenD))) (gN 6) (sSeq (sFor (mRange1 (mIx (mVar 9) (mVar 6))) (gN 11) (sSeq (sSet 10 (mCall 2 F__law_times (mCons (mVar 10) (mCons (mCall 2 F__law_by (mCons (mIx (mIx (mVar 5) (mVar 6)) (mC (.int 1))) (mCons (mTup (mCons (mAdd (mVar 11) (mC (.int 1))) (mCons (mC (.int 1)) (mNil)))) (mNil)))) (mNil))))) (sSkip))) (sSkip))) (sSeq (sDPutM (mVar 8) (mVar 9) (mVar 10)) (sSkip))))) (sFrz 8 (sSeq (sSet 12 (mCall 1 F__law_total (mCons (mLC (mKeys (mVar 8)) [9] (gN 9) (tYesT) (mDGet (mVar 8) (mVar 9))) (mNil)))) (sSeq (sSetR 13 (mLst (mNil))) (sSeq (sFor (mRange1 (mB (mCons (mVar 5) (mNil)) (fD1 lenD))) (gN 6) (sSeq (sSet 14 (mLC (mItems (mVar 7)) [9] (gN 9) (mBool (mOp2 (mAdd (mAdd (mSl (mVar 9) (oNone) (oSome (mVar 6))) (mTup (mCons (mAdd (mIx (mVar 9) (mVar 6)) (mC (.int 1))) (mNil)))) (mSl (mVar 9) (oSome (mAdd (mVar 6) (mC (.int 1)))) (oNone))) (mVar 8) (fDIn true))) (mVar 9))) (sSeq (sDrop (mM .lst (mVar 13) (mCons (mCall 2 F__law_by (mCons (mCall 1 F__law_total (mCons (mLC (mItems (mVar 14)) [9] (gN 9) (tYesT) (mDGet (mVar 8) (mVar 9))) (mNil))) (mCons (mVar 12) (mNil)))) (mNil)) fAppend)) (sSkip)))) (sSeq (sSet 15 (mLst (mCons (mLC (mItems (mB (mCons (mVar 7) (mNil)) (fN1 sortD))) [9] (gN 9) (tYesT) (mTup (mCons (mVar 9) (mCons (mCall 2 F__law_by (mCons (mDGet (mVar 8) (mVar 9)) (mCons (mVar 12) (mNil)))) (mNil))))) (mCons (mB (mCons (mVar 13) (mNil)) fTup) (mNil))))) (sSeq (sIf (mBool (mOp2 (mB (mCons (mLC (mRange1 (mC (.int 2))) [16] (gN 16) (tYesT) (mCall 3 F__law_asked (mCons (mVar 16) (mCons (mVar 3) (mCons (mVar 5) (mNil)))))) (mNil)) (fD1 reprD)) (mB (mCons (mVar 15) (mNil)) (fD1 reprD)) (lift2 neD))) (sSeq (sRet (mC (.bool false))) (sSkip)) (sSkip)) (sSeq (sPar 17 18 (mAdd (mC (.int 1)) (mMod (mB (mCons (mCall 1 F__law_next (mCons (mVar 1) (mNil))) (mNil)) (fD1 intD)) (mC (.int 6)))) (mLC (mRange1 (mC (.int 2))) [6] (gN 6) (tYesT) (mCall 2 F__law_rate (mCons (mVar 1) (mCons (mC (.int 4)) (mNil)))))) (sSeq (sSet 19 (mCall 2 F_link_losses (mCons (mTup (mCons (mVar 17) (mNil))) (mCons (mTup (mCons (mTup (mCons (mC (.int 1)) (mCons (mCall 2 F__law_add (mCons (mIx (mVar 18) (mC (.int 0))) (mCons (mIx (mVar 18) (mC (.int 1))) (mNil)))) (mNil)))) (mNil))) (mNil))))) (sSeq (sIf (mBool (mOp2 (mCall 2 F_link_losses (mCons (mTup (mCons (mVar 17) (mNil))) (mCons (mTup (mCons (mTup (mCons (mC (.int 1)) (mCons (mIx (mVar 18) (mC (.int 0))) (mNil)))) (mCons (mTup (mCons (mC (.int 1)) (mCons (mIx (mVar 18) (mC (.int 1))) (mNil)))) (mNil)))) (mNil)))) (mMul (mVar 19) (mC (.int 2))) (lift2 neD))) (sSeq (sRet (mC (.bool false))) (sSkip)) (sSkip)) (sSeq (sSet 20 (mB (mCons (mLC (mItems (mSl (mVar 5) (oNone) (oSome (mC (.int 2))))) [21, 22] (gT [gN 21, gN 22]) (tYesT) (mTup (mCons (mMul (mC (.int 2)) (mVar 21)) (mCons (mVar 22) (mNil))))) (mNil)) fTup)) (sSeq (sIf (mAndT (mBool (mOp2 (mVar 2) (mC (.int 3)) (lift2 ltD))) (mBool (mOp2 (mCall 2 F_link_losses (mCons (mAdd (mTup (mCons (mVar 17) (mNil))) (mVar 3)) (mCons (mAdd (mTup (mCons (mTup (mCons (mC (.int 1)) (mCons (mIx (mVar 18) (mC (.int 0))) (mNil)))) (mNil))) (mVar 20)) (mNil)))) (mAdd (mCall 2 F_link_losses (mCons (mTup (mCons (mVar 17) (mNil))) (mCons (mTup (mCons (mTup (mCons (mC (.int 1)) (mCons (mIx (mVar 18) (mC (.int 0))) (mNil)))) (mNil))) (mNil)))) (mCall 2 F_link_losses (mCons (mVar 3) (mCons (mSl (mVar 5) (oNone) (oSome (mC (.int 2)))) (mNil))))) (lift2 neD)))) (sSeq (sRet (mC (.bool false))) (sSkip)) (sSkip)) (sSeq (sIf (mBool (mOp2 (mCall 2 F_link_losses (mCons (mTup (mCons (mC (.int 2)) (mNil))) (mCons (mTup (mCons (mTup (mCons (mC (.int 1)) (mCons (mTup (mCons (mC (.int 2)) (mCons (mC (.int 1)) (mNil)))) (mNil)))) (mNil))) (mNil)))) (mTup (mCons (mTup (mCons (mC (.int 2)) (mCons (mC (.int 5)) (mNil)))) (mNil))) (lift2 neD))) (sSeq (sRet (mC (.bool false))) (sSkip)) (sSkip)) (sSeq (sSet 23 (mLst (mCons (mTup (mCons (mTup (mNil)) (mCons (mTup (mCons (mTup (mCons (mC (.int 1)) (mCons (mTup (mCons (mC (.int 1)) (mCons (mC (.int 1)) (mNil)))) (mNil)))) (mNil))) (mNil)))) (mCons (mTup (mCons (mTup (mCons (mC (.int 0)) (mNil))) (mCons (mTup (mCons (mTup (mCons (mC (.int 1)) (mCons (mTup (mCons (mC (.int 1)) (mCons (mC (.int 1)) (mNil)))) (mNil)))) (mNil))) (mNil)))) (mCons (mTup (mCons (mTup (mCons (mC (.int 21)) (mNil))) (mCons (mTup (mCons (mTup (mCons (mC (.int 1)) (mCons (mTup (mCons (mC (.int 1)) (mCons (mC (.int 1)) (mNil)))) (mNil)))) (mNil))) (mNil)))) (mCons (mTup (mCons (mTup (mCons (mC (.int 1)) (mNil))) (mCons (mTup (mNil)) (mNil)))) (mCons (mTup (mCons (mTup (mCons (mC (.int 1)) (mNil))) (mCons (mTup (mCons (mTup (mCons (mC (.int 0)) (mCons (mTup (mCons (mC (.int 1)) (mCons (mC (.int 1)) (mNil)))) (mNil)))) (mNil))) (mNil)))) (mCons (mTup (mCons (mTup (mCons (mC (.int 1)) (mNil))) (mCons (mTup (mCons (mTup (mCons (mC (.int 2)) (mCons (mTup (mCons (mC (.int 1)) (mCons (mC (.int 1)) (mNil)))) (mNil)))) (mNil))) (mNil)))) (mCons (mTup (mCons (mTup (mCons (mC (.int 1)) (mNil))) (mCons (mTup (mCons (mTup (mCons (mC (.int 1)) (mCons (mTup (mCons (mC (.int 0)) (mCons (mC (.int 1)) (mNil)))) (mNil)))) (mNil))) (mNil)))) (mCons (mTup (mCons (mMul (mTup (mCons (mC (.int 1)) (mNil))) (mC (.int 5))) (mCons (mTup (mCons (mTup (mCons (mC (.int 1)) (mCons (mTup (mCons (mC (.int 1)) (mCons (mC (.int 1)) (mNil)))) (mNil)))) (mNil))) (mNil)))) (mNil))))))))))) (sSeq (sSet 23 (mAdd (mVar 23) (mLst (mCons (mTup (mCons (mTup (mCons (mC (.int 1)) (mNil))) (mCons (mMul (mTup (mCons (mTup (mCons (mC (.int 1)) (mCons (mTup (mCons (mC (.int 1)) (mCons (mC (.int 1)) (mNil)))) (mNil)))) (mNil))) (mC (.int 7))) (mNil)))) (mCons (mTup (mCons (mTup (mCons (mC (.int 1)) (mNil))) (mCons (mTup (mCons (mTup (mCons (mNeg (mC (.int 1))) (mCons (mTup (mCons (mC (.int 1)) (mCons (mC (.int 1)) (mNil)))) (mNil)))) (mNil))) (mNil)))) (mNil)))))) (sSeq (sSet 24 (mCall 2 F__law_pick (mCons (mVar 1) (mCons (mVar 23) (mNil))))) (sSeq (sSet 25 (mTup (mCons (mTup (mCons (mC (.int 20)) (mCons (mC (.int 20)) (mCons (mC (.int 20)) (mCons (mC (.int 20)) (mNil)))))) (mCons (mTup (mCons (mTup (mCons (mC (.int 1)) (mCons (mTup (mCons (mC (.int 1)) (mCons (mC (.int 1)) (mNil)))) (mNil)))) (mCons (mTup (mCons (mC (.int 2)) (mCons (mTup (mCons (mC (.int 1)) (mCons (mC (.int 1)) (mNil)))) (mNil)))) (mCons (mTup (mCons (mC (.int 4)) (mCons (mTup (mCons (mC (.int 1)) (mCons (mC (.int 1)) (mNil)))) (mNil)))) (mNil))))) (mNil))))) (sSeq (sRet (mAndV (mOp2 (mLC (mRange1 (mC (.int 2))) [16] (gN 16) (tYesT) (mCall 3 F__law_asked (mCons (mVar 16) (mCons (mIx (mVar 24) (mC (.int 0))) (mCons (mIx (mVar 24) (mC (.int 1))) (mNil)))))) (mMul (mLst (mCons (mC (.str "!net")) (mNil))) (mC (.int 2))) (lift2 eqD)) (mOp2 (mLC (mRange1 (mC (.int 2))) [16] (gN 16) (tYesT) (mCall 3 F__law_asked (mCons (mVar 16) (mCons (mIx (mVar 25) (mC (.int 0))) (mCons (mIx (mVar 25) (mC (.int 1))) (mNil)))))) (mMul (mLst (mCons (mC (.str "!large")) (mNil))) (mC (.int 2))) (lift2 eqD)))) (sSkip)))))))))))))))))))))))))
def F_law : List W → Mem → Rs W := runF 26 m_law
/-- what the module's names are -/
structure MG (K : PySem.W.Frag) (mg : Str → Option Value) : Prop where
  b_abs : mg "abs" = none
  b_all : mg "all" = none
  b_enumerate : mg "enumerate" = none
  b_int : mg "int" = none
  b_isinstance : mg "isinstance" = none
  b_len : mg "len" = none
  b_max : mg "max" = none
  b_range : mg "range" = none
  b_repr : mg "repr" = none
  b_sorted : mg "sorted" = none
  b_sum : mg "sum" = none
  b_tuple : mg "tuple" = none
  b_zip : mg "zip" = none
  v_MOST_KINDS : ∃ t, mg "MOST_KINDS" = some (.int 6 t)
  v_MOST_LINKS : ∃ t, mg "MOST_LINKS" = some (.int 4 t)
  v_MOST_ON_LINK : ∃ t, mg "MOST_ON_LINK" = some (.int 20 t)
  v_MOST_RATE : ∃ t, mg "MOST_RATE" = some (.int 1000 t)
  v_MOST_STATES : ∃ t, mg "MOST_STATES" = some (.int 2000 t)
  x_NotNet : ExcT K mg "NotNet"
  x_TooLarge : ExcT K mg "TooLarge"
  catch_ : CatchOk K mg "QueueError" kindF
  d_common : ∃ f, mg "common" = some (.ref f)
  d_least_terms : ∃ f, mg "least_terms" = some (.ref f)
  d_add : ∃ f, mg "add" = some (.ref f)
  d_total : ∃ f, mg "total" = some (.ref f)
  d_fits : ∃ f, mg "fits" = some (.ref f)
  d_is_fraction : ∃ f, mg "is_fraction" = some (.ref f)
  d_is_rate : ∃ f, mg "is_rate" = some (.ref f)
  d_are_links : ∃ f, mg "are_links" = some (.ref f)
  d_check_links : ∃ f, mg "check_links" = some (.ref f)
  d_by : ∃ f, mg "by" = some (.ref f)
  d_times : ∃ f, mg "times" = some (.ref f)
  d_weight_by : ∃ f, mg "weight_by" = some (.ref f)
  d_link_states_of : ∃ f, mg "link_states_of" = some (.ref f)
  d_link_shares_of : ∃ f, mg "link_shares_of" = some (.ref f)
  d_link_losses : ∃ f, mg "link_losses" = some (.ref f)
  d__law_number : ∃ f, mg "_law_number" = some (.ref f)
  d__law_draws : ∃ f, mg "_law_draws" = some (.ref f)
  d__law_next : ∃ f, mg "_law_next" = some (.ref f)
  d__law_more : ∃ f, mg "_law_more" = some (.ref f)
  d__law_pick : ∃ f, mg "_law_pick" = some (.ref f)
  d__law_power : ∃ f, mg "_law_power" = some (.ref f)
  d__law_common : ∃ f, mg "_law_common" = some (.ref f)
  d__law_lowest : ∃ f, mg "_law_lowest" = some (.ref f)
  d__law_add : ∃ f, mg "_law_add" = some (.ref f)
  d__law_times : ∃ f, mg "_law_times" = some (.ref f)
  d__law_by : ∃ f, mg "_law_by" = some (.ref f)
  d__law_total : ∃ f, mg "_law_total" = some (.ref f)
  d__law_rate : ∃ f, mg "_law_rate" = some (.ref f)
  d__law_on : ∃ f, mg "_law_on" = some (.ref f)
  d__law_fits : ∃ f, mg "_law_fits" = some (.ref f)
  d__law_states : ∃ f, mg "_law_states" = some (.ref f)
  d_link_shares : ∃ f, mg "link_shares" = some (.ref f)
  d__law_kind : ∃ f, mg "_law_kind" = some (.ref f)
  d__law_asked : ∃ f, mg "_law_asked" = some (.ref f)
  d_law : ∃ f, mg "law" = some (.ref f)
section
variable {P : Program} {w : World} {K : PySem.W.Frag} {mg : Str → Option Value} {base : Heap} {f : Addr} {fd : FuncData}
def sc_common : FnScope ["one", "other"] ["one", "other"] (defScope (topS 10)) := ⟨rfl, rfl, rfl, by decide +kernel, rfl, by decide +kernel, by decide +kernel⟩
theorem ok_common (F : Fun K "common" "common" (topS 10) f fd) (M : MG K mg)  : FnG P w K mg base 1 f fd ["one", "other"] (spM K mg 2 F_common) := def_go F sc_common fun cdv A outer s H E hr hgu tk hx hp => have hN := (sc_common).nd; dss_cons (ds_while 1000000 hp (dt_tru (den_var 1)) (dss_cons (ds_par (i := 0) (j := 1) rfl hN (da_cons (den_var 1) (da_cons (den_mod (den_var 0) (den_var 1)) (da_nil)))) (dss_nil))) (dss_cons (ds_ret (den_var 0)) (dss_nil))
def sc_least_terms : FnScope ["top", "low", "part"] ["top", "low"] (defScope (topS 11)) := ⟨rfl, rfl, rfl, by decide +kernel, rfl, by decide +kernel, by decide +kernel⟩
theorem ok_least_terms (F : Fun K "least_terms" "least_terms" (topS 11) f fd) (M : MG K mg) (c_common : CalG P w K mg base 1 "common" 2 F_common) : FnG P w K mg base 2 f fd ["top", "low"] (spM K mg 2 F_least_terms) := def_go F sc_least_terms fun cdv A outer s H E hr hgu tk hx hp => have hN := (sc_least_terms).nd; dss_cons (ds_set 2 hN (den_call c_common hr hgu hx (da_cons (den_B ca_abs call_abs (by rfl) M.b_abs (by decide +kernel) (da_cons (den_var 0) (da_nil))) (da_cons (den_var 1) (da_nil))))) (dss_cons (ds_ret (den_tup (da_cons (den_fdiv (den_var 0) (den_var 2)) (da_cons (den_fdiv (den_var 1) (den_var 2)) (da_nil))))) (dss_nil))
def sc_add : FnScope ["one", "other"] ["one", "other"] (defScope (topS 12)) := ⟨rfl, rfl, rfl, by decide +kernel, rfl, by decide +kernel, by decide +kernel⟩
theorem ok_add (F : Fun K "add" "add" (topS 12) f fd) (M : MG K mg) (c_least_terms : CalG P w K mg base 2 "least_terms" 2 F_least_terms) : FnG P w K mg base 3 f fd ["one", "other"] (spM K mg 2 F_add) := def_go F sc_add fun cdv A outer s H E hr hgu tk hx hp => have hN := (sc_add).nd; dss_cons (ds_ret (den_call c_least_terms hr hgu hx (da_cons (den_add (den_mul (den_ix (den_var 0) (den_int)) (den_ix (den_var 1) (den_int))) (den_mul (den_ix (den_var 1) (den_int)) (den_ix (den_var 0) (den_int)))) (da_cons (den_mul (den_ix (den_var 0) (den_int)) (den_ix (den_var 1) (den_int))) (da_nil))))) (dss_nil)
def sc_total : FnScope ["fractions", "found", "fraction"] ["fractions"] (defScope (topS 15)) := ⟨rfl, rfl, rfl, by decide +kernel, rfl, by decide +kernel, by decide +kernel⟩
theorem ok_total (F : Fun K "total" "total" (topS 15) f fd) (M : MG K mg) (c_add : CalG P w K mg base 3 "add" 2 F_add) : FnG P w K mg base 4 f fd ["fractions"] (spM K mg 1 F_total) := def_go F sc_total fun cdv A outer s H E hr hgu tk hx hp => have hN := (sc_total).nd; dss_cons (ds_set 1 hN (den_tup (da_cons (den_int) (da_cons (den_int) (da_nil))))) (dss_cons (ds_for hp rfl (di_seq (den_var 0)) (dg_name 2 hN) (dss_cons (ds_set 1 hN (den_call c_add hr hgu hx (da_cons (den_var 1) (da_cons (den_var 2) (da_nil))))) (dss_nil))) (dss_cons (ds_ret (den_var 1)) (dss_nil)))
def sc_fits : FnScope ["caps", "routes", "numbers", "link", "cap", "many", "some", "_"] ["caps", "routes", "numbers"] (defScope (topS 27)) := ⟨rfl, rfl, rfl, by decide +kernel, rfl, by decide +kernel, by decide +kernel⟩
theorem ok_fits (F : Fun K "fits" "fits" (topS 27) f fd) (M : MG K mg)  : FnG P w K mg base 1 f fd ["caps", "routes", "numbers"] (spM K mg 3 F_fits) := def_go F sc_fits fun cdv A outer s H E hr hgu tk hx hp => have hN := (sc_fits).nd; dss_cons (ds_for hp rfl (di_enum (by rfl) M.b_enumerate (da_cons (den_var 0) (da_nil))) (dg_tup rfl (dgs_cons (dg_name 3 hN) (dgs_cons (dg_name 4 hN) (dgs_nil)))) (dss_cons (ds_if (dt_cmp po_gt bi_gt (den_B ca_sum (cr_sum rfl) (by rfl) M.b_sum (by decide +kernel) (da_cons (den_lc [("many", 5), ("some", 6), ("_", 7)] rfl hN (di_zipB (by rfl) M.b_zip (da_cons (den_var 2) (da_cons (den_var 1) (da_nil)))) (blkOk_by (by kernel_rfl)) (fun s H C cl fp => dg_tup rfl (dgs_cons (dg_name 5 hN) (dgs_cons (dg_tup rfl (dgs_cons (dg_name 6 hN) (dgs_cons (dg_name 7 hN) (dgs_nil)))) (dgs_nil)))) (fun s H C cl fp => dts_one (dt_cmp (po_eq (u64 hr)) bi_eq (den_mod (den_shr (den_var 6) (den_var 3)) (den_int)) (den_int) (by with_unfolding_all rfl))) (fun s H C cl fp => den_var 5)) (da_nil))) (den_var 4) (by with_unfolding_all rfl)) (dss_cons (ds_ret (den_bool)) (dss_nil)) (dss_nil)) (dss_nil))) (dss_cons (ds_ret (den_bool)) (dss_nil))
def sc_is_fraction : FnScope ["pair"] ["pair"] (defScope (topS 16)) := ⟨rfl, rfl, rfl, by decide +kernel, rfl, by decide +kernel, by decide +kernel⟩
theorem ok_is_fraction (F : Fun K "is_fraction" "is_fraction" (topS 16) f fd) (M : MG K mg) (c_common : CalG P w K mg base 1 "common" 2 F_common) : FnG P w K mg base 2 f fd ["pair"] (spM K mg 1 F_is_fraction) := def_go F sc_is_fraction fun cdv A outer s H E hr hgu tk hx hp => have hN := (sc_is_fraction).nd; dss_cons (ds_ret (den_andV (den_cmp (po_eq (u64 hr)) bi_eq (den_B ca_len call_len (by rfl) M.b_len (by decide +kernel) (da_cons (den_var 0) (da_nil))) (den_int) (by with_unfolding_all rfl)) (den_andV (den_cmp po_gt bi_gt (den_ix (den_var 0) (den_int)) (den_int) (by with_unfolding_all rfl)) (den_and1 (den_cmp (po_eq (u64 hr)) bi_eq (den_call c_common hr hgu hx (da_cons (den_B ca_abs call_abs (by rfl) M.b_abs (by decide +kernel) (da_cons (den_ix (den_var 0) (den_int)) (da_nil))) (da_cons (den_ix (den_var 0) (den_int)) (da_nil)))) (den_int) (by with_unfolding_all rfl)))))) (dss_nil)
def sc_is_rate : FnScope ["pair"] ["pair"] (defScope (topS 19)) := ⟨rfl, rfl, rfl, by decide +kernel, rfl, by decide +kernel, by decide +kernel⟩
theorem ok_is_rate (F : Fun K "is_rate" "is_rate" (topS 19) f fd) (M : MG K mg) (c_is_fraction : CalG P w K mg base 2 "is_fraction" 1 F_is_fraction) : FnG P w K mg base 3 f fd ["pair"] (spM K mg 1 F_is_rate) := def_go F sc_is_rate fun cdv A outer s H E hr hgu tk hx hp => have hN := (sc_is_rate).nd; dss_cons (ds_ret (den_andV (den_call c_is_fraction hr hgu hx (da_cons (den_var 0) (da_nil))) (den_andV (den_chain po_lt bi_lt po_le bi_le (den_int) (den_ix (den_var 0) (den_int)) (den_gi (by rfl) M.v_MOST_RATE)) (den_and1 (den_cmp po_le bi_le (den_ix (den_var 0) (den_int)) (den_gi (by rfl) M.v_MOST_RATE) (by with_unfolding_all rfl)))))) (dss_nil)
def sc_are_links : FnScope ["caps", "routes", "cap", "some", "load"] ["caps", "routes"] (defScope (topS 26)) := ⟨rfl, rfl, rfl, by decide +kernel, rfl, by decide +kernel, by decide +kernel⟩
theorem ok_are_links (F : Fun K "are_links" "are_links" (topS 26) f fd) (M : MG K mg) (c_is_rate : CalG P w K mg base 3 "is_rate" 1 F_is_rate) : FnG P w K mg base 4 f fd ["caps", "routes"] (spM K mg 2 F_are_links) := def_go F sc_are_links fun cdv A outer s H E hr hgu tk hx hp => have hN := (sc_are_links).nd; dss_cons (ds_if (dt_w (dw_or (dt_not (dt_chain po_le bi_le po_le bi_le (den_int) (den_B ca_len call_len (by rfl) M.b_len (by decide +kernel) (da_cons (den_var 0) (da_nil))) (den_gi (by rfl) M.v_MOST_LINKS))) (dw_or1 (dt_not (dt_tru (den_B ca_all (cr_all rfl) (by rfl) M.b_all (by decide +kernel) (da_cons (den_lc [("cap", 2)] rfl hN (di_seq (den_var 0)) (blkOk_by (by kernel_rfl)) (fun s H C cl fp => dg_name 2 hN) (fun s H C cl fp => dts_nil) (fun s H C cl fp => den_chain po_le bi_le po_le bi_le (den_int) (den_var 2) (den_gi (by rfl) M.v_MOST_ON_LINK))) (da_nil)))))))) (dss_cons (ds_ret (den_bool)) (dss_nil)) (dss_nil)) (dss_cons (ds_if (dt_not (dt_chain po_le bi_le po_le bi_le (den_int) (den_B ca_len call_len (by rfl) M.b_len (by decide +kernel) (da_cons (den_var 1) (da_nil))) (den_gi (by rfl) M.v_MOST_KINDS))) (dss_cons (ds_ret (den_bool)) (dss_nil)) (dss_nil)) (dss_cons (ds_ret (den_B ca_all (cr_all rfl) (by rfl) M.b_all (by decide +kernel) (da_cons (den_lc [("some", 3), ("load", 4)] rfl hN (di_seq (den_var 1)) (blkOk_by (by kernel_rfl)) (fun s H C cl fp => dg_tup rfl (dgs_cons (dg_name 3 hN) (dgs_cons (dg_name 4 hN) (dgs_nil)))) (fun s H C cl fp => dts_nil) (fun s H C cl fp => den_andV (den_chain po_lt bi_lt po_lt bi_lt (den_int) (den_var 3) (den_shl (den_int) (den_B ca_len call_len (by rfl) M.b_len (by decide +kernel) (da_cons (den_var 0) (da_nil))))) (den_and1 (den_call c_is_rate hr hgu passNo (da_cons (den_var 4) (da_nil)))))) (da_nil)))) (dss_nil)))
def sc_check_links : FnScope ["caps", "routes"] ["caps", "routes"] (defScope (topS 29)) := ⟨rfl, rfl, rfl, by decide +kernel, rfl, by decide +kernel, by decide +kernel⟩
theorem ok_check_links (F : Fun K "check_links" "check_links" (topS 29) f fd) (M : MG K mg) (c_are_links : CalG P w K mg base 4 "are_links" 2 F_are_links) : FnG P w K mg base 5 f fd ["caps", "routes"] (spM K mg 2 F_check_links) := def_go F sc_check_links fun cdv A outer s H E hr hgu tk hx hp => have hN := (sc_check_links).nd; dss_cons (ds_if (dt_not (dt_tru (den_call c_are_links hr hgu hx (da_cons (den_var 0) (da_cons (den_var 1) (da_nil)))))) (dss_cons (ds_raise M.x_NotNet rfl tk (fun _ _ _ _ h => h)) (dss_nil)) (dss_nil)) (dss_nil)
def sc_by : FnScope ["one", "other", "sign"] ["one", "other"] (defScope (topS 14)) := ⟨rfl, rfl, rfl, by decide +kernel, rfl, by decide +kernel, by decide +kernel⟩
theorem ok_by (F : Fun K "by" "by" (topS 14) f fd) (M : MG K mg) (c_least_terms : CalG P w K mg base 2 "least_terms" 2 F_least_terms) : FnG P w K mg base 3 f fd ["one", "other"] (spM K mg 2 F_by) := def_go F sc_by fun cdv A outer s H E hr hgu tk hx hp => have hN := (sc_by).nd; dss_cons (ds_set 2 hN (den_if (dt_cmp po_gt bi_gt (den_ix (den_var 1) (den_int)) (den_int) (by with_unfolding_all rfl)) (den_int) (den_neg (den_int)))) (dss_cons (ds_ret (den_call c_least_terms hr hgu hx (da_cons (den_mul (den_mul (den_var 2) (den_ix (den_var 0) (den_int))) (den_ix (den_var 1) (den_int))) (da_cons (den_mul (den_ix (den_var 0) (den_int)) (den_B ca_abs call_abs (by rfl) M.b_abs (by decide +kernel) (da_cons (den_ix (den_var 1) (den_int)) (da_nil)))) (da_nil))))) (dss_nil))
def sc_times : FnScope ["one", "other"] ["one", "other"] (defScope (topS 13)) := ⟨rfl, rfl, rfl, by decide +kernel, rfl, by decide +kernel, by decide +kernel⟩
theorem ok_times (F : Fun K "times" "times" (topS 13) f fd) (M : MG K mg) (c_least_terms : CalG P w K mg base 2 "least_terms" 2 F_least_terms) : FnG P w K mg base 3 f fd ["one", "other"] (spM K mg 2 F_times) := def_go F sc_times fun cdv A outer s H E hr hgu tk hx hp => have hN := (sc_times).nd; dss_cons (ds_ret (den_call c_least_terms hr hgu hx (da_cons (den_mul (den_ix (den_var 0) (den_int)) (den_ix (den_var 1) (den_int))) (da_cons (den_mul (den_ix (den_var 0) (den_int)) (den_ix (den_var 1) (den_int))) (da_nil))))) (dss_nil)
def sc_weight_by : FnScope ["loads", "numbers", "found", "load", "many", "at"] ["loads", "numbers"] (defScope (topS 25)) := ⟨rfl, rfl, rfl, by decide +kernel, rfl, by decide +kernel, by decide +kernel⟩
theorem ok_weight_by (F : Fun K "weight_by" "weight_by" (topS 25) f fd) (M : MG K mg) (c_times : CalG P w K mg base 3 "times" 2 F_times) (c_by : CalG P w K mg base 3 "by" 2 F_by) : FnG P w K mg base 4 f fd ["loads", "numbers"] (spM K mg 2 F_weight_by) := def_go F sc_weight_by fun cdv A outer s H E hr hgu tk hx hp => have hN := (sc_weight_by).nd; dss_cons (ds_set 2 hN (den_tup (da_cons (den_int) (da_cons (den_int) (da_nil))))) (dss_cons (ds_for hp rfl (di_zipB (by rfl) M.b_zip (da_cons (den_var 0) (da_cons (den_var 1) (da_nil)))) (dg_tup rfl (dgs_cons (dg_name 3 hN) (dgs_cons (dg_name 4 hN) (dgs_nil)))) (dss_cons (ds_for hp rfl (di_range1 (by rfl) M.b_range (da_cons (den_var 4) (da_nil))) (dg_name 5 hN) (dss_cons (ds_set 2 hN (den_call c_times hr hgu hx (da_cons (den_var 2) (da_cons (den_call c_by hr hgu hx (da_cons (den_var 3) (da_cons (den_tup (da_cons (den_add (den_var 5) (den_int)) (da_cons (den_int) (da_nil)))) (da_nil)))) (da_nil))))) (dss_nil))) (dss_nil))) (dss_cons (ds_ret (den_var 2)) (dss_nil)))
def sc_link_states_of : FnScope ["caps", "routes", "found", "at", "longer", "state", "many"] ["caps", "routes"] (defScope (topS 28)) := ⟨rfl, rfl, rfl, by decide +kernel, rfl, by decide +kernel, by decide +kernel⟩
theorem ok_link_states_of (F : Fun K "link_states_of" "link_states_of" (topS 28) f fd) (M : MG K mg) (c_fits : CalG P w K mg base 1 "fits" 3 F_fits) : FnG P w K mg base 2 f fd ["caps", "routes"] (spM K mg 2 F_link_states_of) := def_go F sc_link_states_of fun cdv A outer s H E hr hgu tk hx hp => have hN := (sc_link_states_of).nd; dss_cons (ds_set 2 hN (den_lst (da_cons (den_tup (da_nil)) (da_nil)))) (dss_cons (ds_for hp rfl (di_range1 (by rfl) M.b_range (da_cons (den_B ca_len call_len (by rfl) M.b_len (by decide +kernel) (da_cons (den_var 1) (da_nil))) (da_nil))) (dg_name 3 hN) (dss_cons (ds_setR 4 hN (den_lst (da_nil))) (dss_cons (ds_for hp rfl (di_seq (den_var 2)) (dg_name 5 hN) (dss_cons (ds_set 6 hN (den_int)) (dss_cons (ds_while 1000000 hp (dt_tru (den_call c_fits hr hgu hx (da_cons (den_var 0) (da_cons (den_sl (den_var 1) (do_none) (do_some (den_add (den_var 3) (den_int)))) (da_cons (den_tup (da_star (den_var 5) (da_cons (den_var 6) (da_nil)))) (da_nil)))))) (dss_cons (ds_expr (den_m (T := .lst) cm_append PySem.F.plainAttrs_list PySem.F.slot_list_append PySem.F.type_list_append mt_append (den_var 4) (da_cons (den_tup (da_star (den_var 5) (da_cons (den_var 6) (da_nil)))) (da_nil)))) (dss_cons (ds_augI (i := 6) hN ip_add (den_int)) (dss_cons (ds_if (dt_cmp po_gt bi_gt (den_B ca_len call_len (by rfl) M.b_len (by decide +kernel) (da_cons (den_var 4) (da_nil))) (den_gi (by rfl) M.v_MOST_STATES) (by with_unfolding_all rfl)) (dss_cons (ds_raise M.x_TooLarge rfl tk (fun _ _ _ _ h => h)) (dss_nil)) (dss_nil)) (dss_nil))))) (dss_nil)))) (dss_cons (ds_set 2 hN (den_var 4)) (dss_frz (i := 2) (dss_nil)))))) (dss_cons (ds_ret (den_var 2)) (dss_nil)))
def sc_link_shares_of : FnScope ["caps", "routes", "loads", "_", "load", "weights", "state", "whole", "weight"] ["caps", "routes"] (defScope (topS 30)) := ⟨rfl, rfl, rfl, by decide +kernel, rfl, by decide +kernel, by decide +kernel⟩
theorem ok_link_shares_of (F : Fun K "link_shares_of" "link_shares_of" (topS 30) f fd) (M : MG K mg) (c_by : CalG P w K mg base 3 "by" 2 F_by) (c_total : CalG P w K mg base 4 "total" 1 F_total) (c_weight_by : CalG P w K mg base 4 "weight_by" 2 F_weight_by) (c_link_states_of : CalG P w K mg base 2 "link_states_of" 2 F_link_states_of) : FnG P w K mg base 5 f fd ["caps", "routes"] (spM K mg 2 F_link_shares_of) := def_go F sc_link_shares_of fun cdv A outer s H E hr hgu tk hx hp => have hN := (sc_link_shares_of).nd; dss_cons (ds_set 2 hN (den_lc [("_", 3), ("load", 4)] rfl hN (di_seq (den_var 1)) (blkOk_by (by kernel_rfl)) (fun s H C cl fp => dg_tup rfl (dgs_cons (dg_name 3 hN) (dgs_cons (dg_name 4 hN) (dgs_nil)))) (fun s H C cl fp => dts_nil) (fun s H C cl fp => den_var 4))) (dss_cons (ds_setLc 5 [("state", 6)] rfl hN (di_seq (den_call c_link_states_of hr hgu hx (da_cons (den_var 0) (da_cons (den_var 1) (da_nil))))) (blkOk_by (by kernel_rfl)) (fun s H C cl fp => dg_name 6 hN) (fun s H C cl fp => dts_nil) (fun s H C cl fp => den_tup (da_cons (den_var 6) (da_cons (den_call c_weight_by hr hgu passNo (da_cons (den_var 2) (da_cons (den_var 6) (da_nil)))) (da_nil)))) (hsw := by rfl)) (dss_cons (ds_set 7 hN (den_call c_total hr hgu hx (da_cons (den_lc [("_", 3), ("weight", 8)] rfl hN (di_seq (den_var 5)) (blkOk_by (by kernel_rfl)) (fun s H C cl fp => dg_tup rfl (dgs_cons (dg_name 3 hN) (dgs_cons (dg_name 8 hN) (dgs_nil)))) (fun s H C cl fp => dts_nil) (fun s H C cl fp => den_var 8)) (da_nil)))) (dss_cons (ds_ret (den_lc [("state", 6), ("weight", 8)] rfl hN (di_seq (den_var 5)) (blkOk_by (by kernel_rfl)) (fun s H C cl fp => dg_tup rfl (dgs_cons (dg_name 6 hN) (dgs_cons (dg_name 8 hN) (dgs_nil)))) (fun s H C cl fp => dts_nil) (fun s H C cl fp => den_tup (da_cons (den_var 6) (da_cons (den_call c_by hr hgu passNo (da_cons (den_var 8) (da_cons (den_var 7) (da_nil)))) (da_nil)))))) (dss_nil))))
def sc_link_losses : FnScope ["caps", "routes", "shares", "found", "at", "lost", "state", "share", "more"] ["caps", "routes"] (defScope (topS 32)) := ⟨rfl, rfl, rfl, by decide +kernel, rfl, by decide +kernel, by decide +kernel⟩
theorem ok_link_losses (F : Fun K "link_losses" "link_losses" (topS 32) f fd) (M : MG K mg) (c_total : CalG P w K mg base 4 "total" 1 F_total) (c_fits : CalG P w K mg base 1 "fits" 3 F_fits) (c_check_links : CalG P w K mg base 5 "check_links" 2 F_check_links) (c_link_shares_of : CalG P w K mg base 5 "link_shares_of" 2 F_link_shares_of) : FnG P w K mg base 6 f fd ["caps", "routes"] (spM K mg 2 F_link_losses) := def_go F sc_link_losses fun cdv A outer s H E hr hgu tk hx hp => have hN := (sc_link_losses).nd; dss_cons (ds_expr (den_call c_check_links hr hgu hx (da_cons (den_var 0) (da_cons (den_var 1) (da_nil))))) (dss_cons (ds_set 2 hN (den_call c_link_shares_of hr hgu hx (da_cons (den_var 0) (da_cons (den_var 1) (da_nil))))) (dss_cons (ds_setR 3 hN (den_lst (da_nil))) (dss_cons (ds_for hp rfl (di_range1 (by rfl) M.b_range (da_cons (den_B ca_len call_len (by rfl) M.b_len (by decide +kernel) (da_cons (den_var 1) (da_nil))) (da_nil))) (dg_name 4 hN) (dss_cons (ds_setR 5 hN (den_lst (da_nil))) (dss_cons (ds_for hp rfl (di_seq (den_var 2)) (dg_tup rfl (dgs_cons (dg_name 6 hN) (dgs_cons (dg_name 7 hN) (dgs_nil)))) (dss_cons (ds_set 8 hN (den_tup (da_star (den_sl (den_var 6) (do_none) (do_some (den_var 4))) (da_cons (den_add (den_ix (den_var 6) (den_var 4)) (den_int)) (da_star (den_sl (den_var 6) (do_some (den_add (den_var 4) (den_int))) (do_none)) (da_nil)))))) (dss_cons (ds_if (dt_not (dt_tru (den_call c_fits hr hgu hx (da_cons (den_var 0) (da_cons (den_var 1) (da_cons (den_var 8) (da_nil))))))) (dss_cons (ds_expr (den_m (T := .lst) cm_append PySem.F.plainAttrs_list PySem.F.slot_list_append PySem.F.type_list_append mt_append (den_var 5) (da_cons (den_var 7) (da_nil)))) (dss_nil)) (dss_nil)) (dss_nil)))) (dss_frz (i := 5) (dss_cons (ds_expr (den_m (T := .lst) cm_append PySem.F.plainAttrs_list PySem.F.slot_list_append PySem.F.type_list_append mt_append (den_var 3) (da_cons (den_call c_total hr hgu hx (da_cons (den_var 5) (da_nil))) (da_nil)))) (dss_nil)))))) (dss_cons (ds_ret (den_Ty ca_tup call_tuple_of (by rfl) M.b_tuple (by decide +kernel) (da_cons (den_var 3) (da_nil)))) (dss_nil)))))
def sc__law_number : FnScope ["cell"] ["cell"] (defScope (topS 34)) := ⟨rfl, rfl, rfl, by decide +kernel, rfl, by decide +kernel, by decide +kernel⟩
theorem ok__law_number (F : Fun K "_law_number" "_law_number" (topS 34) f fd) (M : MG K mg)  : FnG P w K mg base 1 f fd ["cell"] (spM K mg 1 F__law_number) := def_go F sc__law_number fun cdv A outer s H E hr hgu tk hx hp => have hN := (sc__law_number).nd; dss_cons (ds_if (dt_cmp po_lt bi_lt (den_var 0) (den_int) (by with_unfolding_all rfl)) (dss_cons (ds_ret (den_sub (den_int) (den_var 0))) (dss_nil)) (dss_nil)) (dss_cons (ds_ret (den_var 0)) (dss_nil))
def sc__law_draws : FnScope ["script", "draws", "cell", "rest", "k", "once", "twice"] ["script"] (defScope (topS 35)) := ⟨rfl, rfl, rfl, by decide +kernel, rfl, by decide +kernel, by decide +kernel⟩
theorem ok__law_draws (F : Fun K "_law_draws" "_law_draws" (topS 35) f fd) (M : MG K mg) (c__law_number : CalG P w K mg base 1 "_law_number" 1 F__law_number) : FnG P w K mg base 2 f fd ["script"] (spM K mg 1 F__law_draws) := def_go F sc__law_draws fun cdv A outer s H E hr hgu tk hx hp => have hN := (sc__law_draws).nd; dss_cons (ds_setR 1 hN (den_lst (da_nil))) (dss_cons (ds_for hp rfl (di_seq (den_var 0)) (dg_name 2 hN) (dss_cons (ds_set 3 hN (den_call c__law_number hr hgu hx (da_cons (den_var 2) (da_nil)))) (dss_cons (ds_if (dt_cmp po_ge bi_ge (den_var 3) (den_int) (by with_unfolding_all rfl)) (dss_cons (ds_for hp rfl (di_range1 (by rfl) M.b_range (da_cons (den_int) (da_nil))) (dg_name 4 hN) (dss_cons (ds_if (dt_cmp (po_eq (u64 hr)) bi_eq (den_var 3) (den_int) (by with_unfolding_all rfl)) (dss_cons (ds_break) (dss_nil)) (dss_nil)) (dss_cons (ds_expr (den_m (T := .lst) cm_append PySem.F.plainAttrs_list PySem.F.slot_list_append PySem.F.type_list_append mt_append (den_var 1) (da_cons (den_mod (den_Ty ca_int call_int1 (by rfl) M.b_int (by decide +kernel) (da_cons (den_var 3) (da_nil))) (den_int)) (da_nil)))) (dss_cons (ds_set 3 hN (den_fdiv (den_var 3) (den_int))) (dss_nil))))) (dss_nil)) (dss_cons (ds_set 5 hN (den_mod (den_Ty ca_int call_int1 (by rfl) M.b_int (by decide +kernel) (da_cons (den_add (den_mul (den_var 3) (den_int)) (den_int)) (da_nil))) (den_int))) (dss_cons (ds_set 6 hN (den_mod (den_Ty ca_int call_int1 (by rfl) M.b_int (by decide +kernel) (da_cons (den_add (den_mul (den_var 5) (den_int)) (den_var 3)) (da_nil))) (den_int))) (dss_cons (ds_expr (den_m (T := .lst) cm_extend PySem.F.plainAttrs_list PySem.F.slot_list_extend PySem.F.type_list_extend mt_extend (den_var 1) (da_cons (den_lst (da_cons (den_mod (den_Ty ca_int call_int1 (by rfl) M.b_int (by decide +kernel) (da_cons (den_var 3) (da_nil))) (den_int)) (da_cons (den_mod (den_Ty ca_int call_int1 (by rfl) M.b_int (by decide +kernel) (da_cons (den_var 5) (da_nil))) (den_int)) (da_cons (den_mod (den_Ty ca_int call_int1 (by rfl) M.b_int (by decide +kernel) (da_cons (den_var 6) (da_nil))) (den_int)) (da_nil))))) (da_nil)))) (dss_nil))))) (dss_nil)))) (dss_cons (ds_expr (den_m0 (T := .lst) cm_reverse PySem.F.plainAttrs_list PySem.F.slot_list_reverse PySem.F.type_list_reverse mt_reverse (den_var 1))) (dss_cons (ds_ret (den_var 1)) (dss_nil))))
def sc__law_next : FnScope ["draws"] ["draws"] (defScope (topS 36)) := ⟨rfl, rfl, rfl, by decide +kernel, rfl, by decide +kernel, by decide +kernel⟩
theorem ok__law_next (F : Fun K "_law_next" "_law_next" (topS 36) f fd) (M : MG K mg)  : FnG P w K mg base 1 f fd ["draws"] (spM K mg 1 F__law_next) := def_go F sc__law_next fun cdv A outer s H E hr hgu tk hx hp => have hN := (sc__law_next).nd; dss_cons (ds_if (dt_tru (den_var 0)) (dss_cons (ds_ret (den_m0 (T := .lst) cm_pop PySem.F.plainAttrs_list PySem.F.slot_list_pop PySem.F.type_list_pop mt_pop (den_var 0))) (dss_nil)) (dss_nil)) (dss_cons (ds_ret (den_int)) (dss_nil))
def sc__law_more : FnScope ["draws", "many", "seed", "more", "k"] ["draws", "many"] (defScope (topS 37)) := ⟨rfl, rfl, rfl, by decide +kernel, rfl, by decide +kernel, by decide +kernel⟩
theorem ok__law_more (F : Fun K "_law_more" "_law_more" (topS 37) f fd) (M : MG K mg) (c__law_next : CalG P w K mg base 1 "_law_next" 1 F__law_next) : FnG P w K mg base 2 f fd ["draws", "many"] (spM K mg 2 F__law_more) := def_go F sc__law_more fun cdv A outer s H E hr hgu tk hx hp => have hN := (sc__law_more).nd; dss_cons (ds_set 2 hN (den_add (den_add (den_mul (den_int) (den_call c__law_next hr hgu hx (da_cons (den_var 0) (da_nil)))) (den_call c__law_next hr hgu hx (da_cons (den_var 0) (da_nil)))) (den_int))) (dss_cons (ds_setR 3 hN (den_lst (da_nil))) (dss_cons (ds_for hp rfl (di_range1 (by rfl) M.b_range (da_cons (den_var 1) (da_nil))) (dg_name 4 hN) (dss_cons (ds_set 2 hN (den_mod (den_Ty ca_int call_int1 (by rfl) M.b_int (by decide +kernel) (da_cons (den_add (den_mul (den_var 2) (den_int)) (den_int)) (da_nil))) (den_int))) (dss_cons (ds_expr (den_m (T := .lst) cm_append PySem.F.plainAttrs_list PySem.F.slot_list_append PySem.F.type_list_append mt_append (den_var 3) (da_cons (den_mod (den_Ty ca_int call_int1 (by rfl) M.b_int (by decide +kernel) (da_cons (den_fdiv (den_var 2) (den_int)) (da_nil))) (den_int)) (da_nil)))) (dss_nil)))) (dss_cons (ds_ret (den_add (den_var 3) (den_var 0))) (dss_nil))))
def sc__law_pick : FnScope ["draws", "some"] ["draws", "some"] (defScope (topS 38)) := ⟨rfl, rfl, rfl, by decide +kernel, rfl, by decide +kernel, by decide +kernel⟩
theorem ok__law_pick (F : Fun K "_law_pick" "_law_pick" (topS 38) f fd) (M : MG K mg) (c__law_next : CalG P w K mg base 1 "_law_next" 1 F__law_next) : FnG P w K mg base 2 f fd ["draws", "some"] (spM K mg 2 F__law_pick) := def_go F sc__law_pick fun cdv A outer s H E hr hgu tk hx hp => have hN := (sc__law_pick).nd; dss_cons (ds_ret (den_ix (den_var 1) (den_mod (den_Ty ca_int call_int1 (by rfl) M.b_int (by decide +kernel) (da_cons (den_call c__law_next hr hgu hx (da_cons (den_var 0) (da_nil))) (da_nil))) (den_B ca_len call_len (by rfl) M.b_len (by decide +kernel) (da_cons (den_var 1) (da_nil)))))) (dss_nil)
def sc__law_power : FnScope ["at", "found", "turn"] ["at"] (defScope (topS 40)) := ⟨rfl, rfl, rfl, by decide +kernel, rfl, by decide +kernel, by decide +kernel⟩
theorem ok__law_power (F : Fun K "_law_power" "_law_power" (topS 40) f fd) (M : MG K mg)  : FnG P w K mg base 1 f fd ["at"] (spM K mg 1 F__law_power) := def_go F sc__law_power fun cdv A outer s H E hr hgu tk hx hp => have hN := (sc__law_power).nd; dss_cons (ds_set 1 hN (den_int)) (dss_cons (ds_for hp rfl (di_range1 (by rfl) M.b_range (da_cons (den_var 0) (da_nil))) (dg_name 2 hN) (dss_cons (ds_set 1 hN (den_mul (den_int) (den_var 1))) (dss_nil))) (dss_cons (ds_ret (den_var 1)) (dss_nil)))
def sc__law_common : FnScope ["one", "other", "turn"] ["one", "other"] (defScope (topS 42)) := ⟨rfl, rfl, rfl, by decide +kernel, rfl, by decide +kernel, by decide +kernel⟩
theorem ok__law_common (F : Fun K "_law_common" "_law_common" (topS 42) f fd) (M : MG K mg)  : FnG P w K mg base 1 f fd ["one", "other"] (spM K mg 2 F__law_common) := def_go F sc__law_common fun cdv A outer s H E hr hgu tk hx hp => have hN := (sc__law_common).nd; dss_cons (ds_for hp rfl (di_range1 (by rfl) M.b_range (da_cons (den_int) (da_nil))) (dg_name 2 hN) (dss_cons (ds_if (dt_cmp (po_eq (u64 hr)) bi_eq (den_var 1) (den_int) (by with_unfolding_all rfl)) (dss_cons (ds_ret (den_var 0)) (dss_nil)) (dss_nil)) (dss_cons (ds_par (i := 0) (j := 1) rfl hN (da_cons (den_var 1) (da_cons (den_mod (den_Ty ca_int call_int1 (by rfl) M.b_int (by decide +kernel) (da_cons (den_var 0) (da_nil))) (den_Ty ca_int call_int1 (by rfl) M.b_int (by decide +kernel) (da_cons (den_var 1) (da_nil)))) (da_nil)))) (dss_nil)))) (dss_cons (ds_ret (den_int)) (dss_nil))
def sc__law_lowest : FnScope ["top", "low", "part"] ["top", "low"] (defScope (topS 43)) := ⟨rfl, rfl, rfl, by decide +kernel, rfl, by decide +kernel, by decide +kernel⟩
theorem ok__law_lowest (F : Fun K "_law_lowest" "_law_lowest" (topS 43) f fd) (M : MG K mg) (c__law_common : CalG P w K mg base 1 "_law_common" 2 F__law_common) : FnG P w K mg base 2 f fd ["top", "low"] (spM K mg 2 F__law_lowest) := def_go F sc__law_lowest fun cdv A outer s H E hr hgu tk hx hp => have hN := (sc__law_lowest).nd; dss_cons (ds_set 2 hN (den_call c__law_common hr hgu hx (da_cons (den_B ca_abs call_abs (by rfl) M.b_abs (by decide +kernel) (da_cons (den_var 0) (da_nil))) (da_cons (den_var 1) (da_nil))))) (dss_cons (ds_ret (den_tup (da_cons (den_fdiv (den_var 0) (den_var 2)) (da_cons (den_fdiv (den_var 1) (den_var 2)) (da_nil))))) (dss_nil))
def sc__law_add : FnScope ["one", "other"] ["one", "other"] (defScope (topS 44)) := ⟨rfl, rfl, rfl, by decide +kernel, rfl, by decide +kernel, by decide +kernel⟩
theorem ok__law_add (F : Fun K "_law_add" "_law_add" (topS 44) f fd) (M : MG K mg) (c__law_lowest : CalG P w K mg base 2 "_law_lowest" 2 F__law_lowest) : FnG P w K mg base 3 f fd ["one", "other"] (spM K mg 2 F__law_add) := def_go F sc__law_add fun cdv A outer s H E hr hgu tk hx hp => have hN := (sc__law_add).nd; dss_cons (ds_ret (den_call c__law_lowest hr hgu hx (da_cons (den_add (den_mul (den_ix (den_var 0) (den_int)) (den_ix (den_var 1) (den_int))) (den_mul (den_ix (den_var 1) (den_int)) (den_ix (den_var 0) (den_int)))) (da_cons (den_mul (den_ix (den_var 0) (den_int)) (den_ix (den_var 1) (den_int))) (da_nil))))) (dss_nil)
def sc__law_times : FnScope ["one", "other"] ["one", "other"] (defScope (topS 45)) := ⟨rfl, rfl, rfl, by decide +kernel, rfl, by decide +kernel, by decide +kernel⟩
theorem ok__law_times (F : Fun K "_law_times" "_law_times" (topS 45) f fd) (M : MG K mg) (c__law_lowest : CalG P w K mg base 2 "_law_lowest" 2 F__law_lowest) : FnG P w K mg base 3 f fd ["one", "other"] (spM K mg 2 F__law_times) := def_go F sc__law_times fun cdv A outer s H E hr hgu tk hx hp => have hN := (sc__law_times).nd; dss_cons (ds_ret (den_call c__law_lowest hr hgu hx (da_cons (den_mul (den_ix (den_var 0) (den_int)) (den_ix (den_var 1) (den_int))) (da_cons (den_mul (den_ix (den_var 0) (den_int)) (den_ix (den_var 1) (den_int))) (da_nil))))) (dss_nil)
def sc__law_by : FnScope ["one", "other", "sign"] ["one", "other"] (defScope (topS 46)) := ⟨rfl, rfl, rfl, by decide +kernel, rfl, by decide +kernel, by decide +kernel⟩
theorem ok__law_by (F : Fun K "_law_by" "_law_by" (topS 46) f fd) (M : MG K mg) (c__law_lowest : CalG P w K mg base 2 "_law_lowest" 2 F__law_lowest) : FnG P w K mg base 3 f fd ["one", "other"] (spM K mg 2 F__law_by) := def_go F sc__law_by fun cdv A outer s H E hr hgu tk hx hp => have hN := (sc__law_by).nd; dss_cons (ds_set 2 hN (den_if (dt_cmp po_gt bi_gt (den_ix (den_var 1) (den_int)) (den_int) (by with_unfolding_all rfl)) (den_int) (den_neg (den_int)))) (dss_cons (ds_ret (den_call c__law_lowest hr hgu hx (da_cons (den_mul (den_mul (den_var 2) (den_ix (den_var 0) (den_int))) (den_ix (den_var 1) (den_int))) (da_cons (den_mul (den_mul (den_ix (den_var 0) (den_int)) (den_var 2)) (den_ix (den_var 1) (den_int))) (da_nil))))) (dss_nil))
def sc__law_total : FnScope ["told", "found", "one"] ["told"] (defScope (topS 47)) := ⟨rfl, rfl, rfl, by decide +kernel, rfl, by decide +kernel, by decide +kernel⟩
theorem ok__law_total (F : Fun K "_law_total" "_law_total" (topS 47) f fd) (M : MG K mg) (c__law_add : CalG P w K mg base 3 "_law_add" 2 F__law_add) : FnG P w K mg base 4 f fd ["told"] (spM K mg 1 F__law_total) := def_go F sc__law_total fun cdv A outer s H E hr hgu tk hx hp => have hN := (sc__law_total).nd; dss_cons (ds_set 1 hN (den_tup (da_cons (den_int) (da_cons (den_int) (da_nil))))) (dss_cons (ds_for hp rfl (di_seq (den_var 0)) (dg_name 2 hN) (dss_cons (ds_set 1 hN (den_call c__law_add hr hgu hx (da_cons (den_var 1) (da_cons (den_var 2) (da_nil))))) (dss_nil))) (dss_cons (ds_ret (den_var 1)) (dss_nil)))
def sc__law_rate : FnScope ["draws", "most"] ["draws", "most"] (defScope (topS 48)) := ⟨rfl, rfl, rfl, by decide +kernel, rfl, by decide +kernel, by decide +kernel⟩
theorem ok__law_rate (F : Fun K "_law_rate" "_law_rate" (topS 48) f fd) (M : MG K mg) (c__law_next : CalG P w K mg base 1 "_law_next" 1 F__law_next) (c__law_lowest : CalG P w K mg base 2 "_law_lowest" 2 F__law_lowest) : FnG P w K mg base 3 f fd ["draws", "most"] (spM K mg 2 F__law_rate) := def_go F sc__law_rate fun cdv A outer s H E hr hgu tk hx hp => have hN := (sc__law_rate).nd; dss_cons (ds_ret (den_call c__law_lowest hr hgu hx (da_cons (den_add (den_int) (den_mod (den_Ty ca_int call_int1 (by rfl) M.b_int (by decide +kernel) (da_cons (den_call c__law_next hr hgu hx (da_cons (den_var 0) (da_nil))) (da_nil))) (den_var 1))) (da_cons (den_add (den_int) (den_mod (den_Ty ca_int call_int1 (by rfl) M.b_int (by decide +kernel) (da_cons (den_call c__law_next hr hgu hx (da_cons (den_var 0) (da_nil))) (da_nil))) (den_var 1))) (da_nil))))) (dss_nil)
def sc__law_on : FnScope ["some", "at"] ["some", "at"] (defScope (topS 41)) := ⟨rfl, rfl, rfl, by decide +kernel, rfl, by decide +kernel, by decide +kernel⟩
theorem ok__law_on (F : Fun K "_law_on" "_law_on" (topS 41) f fd) (M : MG K mg) (c__law_power : CalG P w K mg base 1 "_law_power" 1 F__law_power) : FnG P w K mg base 2 f fd ["some", "at"] (spM K mg 2 F__law_on) := def_go F sc__law_on fun cdv A outer s H E hr hgu tk hx hp => have hN := (sc__law_on).nd; dss_cons (ds_ret (den_mod (den_Ty ca_int call_int1 (by rfl) M.b_int (by decide +kernel) (da_cons (den_fdiv (den_var 0) (den_call c__law_power hr hgu hx (da_cons (den_var 1) (da_nil)))) (da_nil))) (den_int))) (dss_nil)
def sc__law_fits : FnScope ["caps", "routes", "state", "link", "at"] ["caps", "routes", "state"] (defScope (topS 49)) := ⟨rfl, rfl, rfl, by decide +kernel, rfl, by decide +kernel, by decide +kernel⟩
theorem ok__law_fits (F : Fun K "_law_fits" "_law_fits" (topS 49) f fd) (M : MG K mg) (c__law_on : CalG P w K mg base 2 "_law_on" 2 F__law_on) : FnG P w K mg base 3 f fd ["caps", "routes", "state"] (spM K mg 3 F__law_fits) := def_go F sc__law_fits fun cdv A outer s H E hr hgu tk hx hp => have hN := (sc__law_fits).nd; dss_cons (ds_for hp rfl (di_range1 (by rfl) M.b_range (da_cons (den_B ca_len call_len (by rfl) M.b_len (by decide +kernel) (da_cons (den_var 0) (da_nil))) (da_nil))) (dg_name 3 hN) (dss_cons (ds_if (dt_cmp po_gt bi_gt (den_B ca_sum (cr_sum rfl) (by rfl) M.b_sum (by decide +kernel) (da_cons (den_lc [("at", 4)] rfl hN (di_range1 (by rfl) M.b_range (da_cons (den_B ca_len call_len (by rfl) M.b_len (by decide +kernel) (da_cons (den_var 2) (da_nil))) (da_nil))) (blkOk_by (by kernel_rfl)) (fun s H C cl fp => dg_name 4 hN) (fun s H C cl fp => dts_one (dt_cmp (po_eq (u64 hr)) bi_eq (den_call c__law_on hr hgu passNo (da_cons (den_ix (den_ix (den_var 1) (den_var 4)) (den_int)) (da_cons (den_var 3) (da_nil)))) (den_int) (by with_unfolding_all rfl))) (fun s H C cl fp => den_ix (den_var 2) (den_var 4))) (da_nil))) (den_ix (den_var 0) (den_var 3)) (by with_unfolding_all rfl)) (dss_cons (ds_ret (den_bool)) (dss_nil)) (dss_nil)) (dss_nil))) (dss_cons (ds_ret (den_bool)) (dss_nil))
def sc__law_states : FnScope ["caps", "routes", "found", "at", "longer", "state", "many"] ["caps", "routes"] (defScope (topS 50)) := ⟨rfl, rfl, rfl, by decide +kernel, rfl, by decide +kernel, by decide +kernel⟩
theorem ok__law_states (F : Fun K "_law_states" "_law_states" (topS 50) f fd) (M : MG K mg) (c__law_fits : CalG P w K mg base 3 "_law_fits" 3 F__law_fits) : FnG P w K mg base 4 f fd ["caps", "routes"] (spM K mg 2 F__law_states) := def_go F sc__law_states fun cdv A outer s H E hr hgu tk hx hp => have hN := (sc__law_states).nd; dss_cons (ds_set 2 hN (den_lst (da_cons (den_tup (da_nil)) (da_nil)))) (dss_cons (ds_for hp rfl (di_range1 (by rfl) M.b_range (da_cons (den_B ca_len call_len (by rfl) M.b_len (by decide +kernel) (da_cons (den_var 1) (da_nil))) (da_nil))) (dg_name 3 hN) (dss_cons (ds_setR 4 hN (den_lst (da_nil))) (dss_cons (ds_for hp rfl (di_seq (den_var 2)) (dg_name 5 hN) (dss_cons (ds_expr (den_m (T := .lst) cm_extend PySem.F.plainAttrs_list PySem.F.slot_list_extend PySem.F.type_list_extend mt_extend (den_var 4) (da_cons (den_lc [("many", 6)] rfl hN (di_range1 (by rfl) M.b_range (da_cons (den_add (den_B ca_maxB (cr_maxB rfl) (by rfl) M.b_max (by decide +kernel) (da_cons (den_var 0) (da_nil))) (den_int)) (da_nil))) (blkOk_by (by kernel_rfl)) (fun s H C cl fp => dg_name 6 hN) (fun s H C cl fp => dts_nil) (fun s H C cl fp => den_add (den_var 5) (den_tup (da_cons (den_var 6) (da_nil))))) (da_nil)))) (dss_nil))) (dss_frz (i := 4) (dss_cons (ds_setLc 2 [("state", 5)] rfl hN (di_seq (den_var 4)) (blkOk_by (by kernel_rfl)) (fun s H C cl fp => dg_name 5 hN) (fun s H C cl fp => dts_one (dt_tru (den_call c__law_fits hr hgu passNo (da_cons (den_var 0) (da_cons (den_var 1) (da_cons (den_var 5) (da_nil))))))) (fun s H C cl fp => den_var 5) (hsw := by rfl)) (dss_nil)))))) (dss_cons (ds_ret (den_var 2)) (dss_nil)))
def sc_link_shares : FnScope ["caps", "routes"] ["caps", "routes"] (defScope (topS 31)) := ⟨rfl, rfl, rfl, by decide +kernel, rfl, by decide +kernel, by decide +kernel⟩
theorem ok_link_shares (F : Fun K "link_shares" "link_shares" (topS 31) f fd) (M : MG K mg) (c_check_links : CalG P w K mg base 5 "check_links" 2 F_check_links) (c_link_shares_of : CalG P w K mg base 5 "link_shares_of" 2 F_link_shares_of) : FnG P w K mg base 6 f fd ["caps", "routes"] (spM K mg 2 F_link_shares) := def_go F sc_link_shares fun cdv A outer s H E hr hgu tk hx hp => have hN := (sc_link_shares).nd; dss_cons (ds_expr (den_call c_check_links hr hgu hx (da_cons (den_var 0) (da_cons (den_var 1) (da_nil))))) (dss_cons (ds_ret (den_call c_link_shares_of hr hgu hx (da_cons (den_var 0) (da_cons (den_var 1) (da_nil))))) (dss_nil))
def sc__law_kind : FnScope ["error", "names", "found"] ["error"] (defScope (topS 39)) := ⟨rfl, rfl, rfl, by decide +kernel, rfl, by decide +kernel, by decide +kernel⟩
theorem kind_val (y z : Str) (h : kindTab y = some z) (a : Addr) (m : Mem) : m__law_kind a y (startE 3 [.e a]) m = .rt (.d (.str z)) m := by
  rcases kindTab_cases h with ⟨rfl, rfl⟩ | ⟨rfl, rfl⟩ | ⟨rfl, rfl⟩ | ⟨rfl, rfl⟩ | ⟨rfl, rfl⟩ | ⟨rfl, rfl⟩ | ⟨rfl, rfl⟩
  · simp [m__law_kind, sSeq, sSet, sRet, mLst, mCons, mNil, mC, mIsE, startE, Rs.bind, Rs.bindV, val, frzAll, frz, mVar, mAdd, mOp2, lift2, Rs.thenV, small, addD, peek]
    kernel_rfl
  · simp [m__law_kind, sSeq, sSet, sRet, mLst, mCons, mNil, mC, mIsE, startE, Rs.bind, Rs.bindV, val, frzAll, frz, mVar, mAdd, mOp2, lift2, Rs.thenV, small, addD, peek]
    kernel_rfl
  · simp [m__law_kind, sSeq, sSet, sRet, mLst, mCons, mNil, mC, mIsE, startE, Rs.bind, Rs.bindV, val, frzAll, frz, mVar, mAdd, mOp2, lift2, Rs.thenV, small, addD, peek]
    kernel_rfl
  · simp [m__law_kind, sSeq, sSet, sRet, mLst, mCons, mNil, mC, mIsE, startE, Rs.bind, Rs.bindV, val, frzAll, frz, mVar, mAdd, mOp2, lift2, Rs.thenV, small, addD, peek]
    kernel_rfl
  · simp [m__law_kind, sSeq, sSet, sRet, mLst, mCons, mNil, mC, mIsE, startE, Rs.bind, Rs.bindV, val, frzAll, frz, mVar, mAdd, mOp2, lift2, Rs.thenV, small, addD, peek]
    kernel_rfl
  · simp [m__law_kind, sSeq, sSet, sRet, mLst, mCons, mNil, mC, mIsE, startE, Rs.bind, Rs.bindV, val, frzAll, frz, mVar, mAdd, mOp2, lift2, Rs.thenV, small, addD, peek]
    kernel_rfl
  · simp [m__law_kind, sSeq, sSet, sRet, mLst, mCons, mNil, mC, mIsE, startE, Rs.bind, Rs.bindV, val, frzAll, frz, mVar, mAdd, mOp2, lift2, Rs.thenV, small, addD, peek]
    kernel_rfl
theorem kind_body (y z : Str) (C : Addr) (h : kindTab y = some z) (hC : mg y = some (.ref C)) (T : KindT K mg) (bi : mg "isinstance" = none) (cdv : Value) (A : Around) (outer : List PySem.Env) (s : Shared) (H : Hp) (a : Addr) (oe : Obj) (hr : L2H.RoomH 1 (A.deeper (envOfC "_law_kind" (defScope (topS 39)) s.heap.objs.size f cdv)))
    (hz : Zc (.ref C) none oe) (hf : ∃ vs, oe.data = .fields vs) : DenSs (cxE P w K mg base ["error", "names", "found"] "_law_kind" (defScope (topS 39)) f cdv A outer s H (a, oe)) E0' (defBody (topS 39)) (m__law_kind a y) := by
  obtain ⟨C2, hC2, EC, ks⟩ := T.cls y z h
  have eC : C2 = C := by rw [hC] at hC2; cases hC2; rfl
  subst eC
  obtain ⟨D_NotChain, g_NotChain, k_NotChain⟩ := ks "NotChain" "!chain" (by decide)
  obtain ⟨D_NotNet, g_NotNet, k_NotNet⟩ := ks "NotNet" "!net" (by decide)
  obtain ⟨D_NotTrace, g_NotTrace, k_NotTrace⟩ := ks "NotTrace" "!trace" (by decide)
  obtain ⟨D_NotPaper, g_NotPaper, k_NotPaper⟩ := ks "NotPaper" "!paper" (by decide)
  obtain ⟨D_BadNumber, g_BadNumber, k_BadNumber⟩ := ks "BadNumber" "!number" (by decide)
  obtain ⟨D_NoAnswer, g_NoAnswer, k_NoAnswer⟩ := ks "NoAnswer" "!none" (by decide)
  obtain ⟨D_TooLarge, g_TooLarge, k_TooLarge⟩ := ks "TooLarge" "!large" (by decide)
  have hN := (sc__law_kind).nd
  have hr : L2H.RoomH 1 ((A.deeper (envOfC "_law_kind" (defScope (topS 39)) s.heap.objs.size f cdv)).mark (some (.ref a))) := ⟨hr.dp, hr.un⟩
  exact dss_cons (ds_set 1 hN (den_lst (da_cons (den_str) (da_cons (den_str) (da_cons (den_str) (da_cons (den_str) (da_cons (den_str) (da_cons (den_str) (da_cons (den_str) (da_nil)))))))))) (dss_cons (ds_set 2 hN (den_lst (da_cons (den_isE 0 EC hz hf k_NotChain g_NotChain bi (by rfl)) (da_cons (den_isE 0 EC hz hf k_NotNet g_NotNet bi (by rfl)) (da_cons (den_isE 0 EC hz hf k_NotTrace g_NotTrace bi (by rfl)) (da_cons (den_isE 0 EC hz hf k_NotPaper g_NotPaper bi (by rfl)) (da_nil))))))) (dss_cons (ds_set 2 hN (den_add (den_var 2) (den_lst (da_cons (den_isE 0 EC hz hf k_BadNumber g_BadNumber bi (by rfl)) (da_cons (den_isE 0 EC hz hf k_NoAnswer g_NoAnswer bi (by rfl)) (da_cons (den_isE 0 EC hz hf k_TooLarge g_TooLarge bi (by rfl)) (da_nil))))))) (dss_cons (ds_ret (den_if (dt_cmp (po_eq (uH4 hr)) bi_eq (den_m (T := .lst) cm_count PySem.F.plainAttrs_list PySem.F.slot_list_count PySem.F.type_list_count (mt_countD (uH hr)) (den_var 2) (da_cons (den_bool) (da_nil))) (den_int) (by with_unfolding_all rfl)) (den_add (den_str) (den_ix (den_var 1) (den_m (T := .lst) cm_index PySem.F.plainAttrs_list PySem.F.slot_list_index PySem.F.type_list_index (mt_indexD (uH hr)) (den_var 2) (da_cons (den_bool) (da_nil))))) (den_str))) (dss_nil))))
theorem ok__law_kind (F : Fun K "_law_kind" "_law_kind" (topS 39) f fd) (hb : Binds K fd ["error"] []) (hm : mg "_law_kind" = some (.ref f)) (M : MG K mg) (T : KindT K mg) : KindOk P w K mg base 2 "_law_kind" kindF :=
  kind_mk F sc__law_kind hb hm m__law_kind (fun y z C h1 h2 cdv A outer s H a oe hr hz hf => kind_body y z C h1 h2 T M.b_isinstance cdv A outer s H a oe hr hz hf) kind_val
def sc__law_asked : FnScope ["way", "caps", "routes", "error"] ["way", "caps", "routes"] (defScope (topS 51)) := ⟨rfl, rfl, rfl, by decide +kernel, rfl, by decide +kernel, by decide +kernel⟩
theorem ok__law_asked (F : Fun K "_law_asked" "_law_asked" (topS 51) f fd) (M : MG K mg) (c_link_shares : CalG P w K mg base 6 "link_shares" 2 F_link_shares) (c_link_losses : CalG P w K mg base 6 "link_losses" 2 F_link_losses) (c__law_kind : KindOk P w K mg base 2 "_law_kind" kindF) : FnG P w K mg base 7 f fd ["way", "caps", "routes"] (spM K mg 3 F__law_asked) := def_go F sc__law_asked fun cdv A outer s H E hr hgu tk hx hp => have hN := (sc__law_asked).nd; dss_cons (ds_tryK (i := 3) c__law_kind M.catch_ hr (by decide) rfl rfl hN tk (fun E1 pn xe tk hp => have hx := fun σ => L2N.passAt tk σ; dss_cons (ds_ret (den_pick (k := 6) (defs_cons (defs_cons (defs_nil) M.d_link_losses) M.d_link_shares) (all_cons (c_link_shares.mono (by decide)) (all_cons (c_link_losses.mono (by decide)) (all_nil))) (by decide) (den_var 0) hr hgu hx (da_cons (den_var 1) (da_cons (den_var 2) (da_nil))))) (dss_nil))) (dss_nil)
def sc_law : FnScope ["script", "draws", "many", "caps", "link", "routes", "at", "states", "weights", "state", "weight", "step", "whole", "lost", "full", "due", "way", "cap", "loads", "alone", "joined", "some", "load", "wrong", "bad", "wide"] ["script"] (defScope (topS 52)) := ⟨rfl, rfl, rfl, by decide +kernel, rfl, by decide +kernel, by decide +kernel⟩
theorem ok_law (F : Fun K "law" "law" (topS 52) f fd) (M : MG K mg) (c_link_losses : CalG P w K mg base 6 "link_losses" 2 F_link_losses) (c__law_draws : CalG P w K mg base 2 "_law_draws" 1 F__law_draws) (c__law_next : CalG P w K mg base 1 "_law_next" 1 F__law_next) (c__law_more : CalG P w K mg base 2 "_law_more" 2 F__law_more) (c__law_pick : CalG P w K mg base 2 "_law_pick" 2 F__law_pick) (c__law_power : CalG P w K mg base 1 "_law_power" 1 F__law_power) (c__law_add : CalG P w K mg base 3 "_law_add" 2 F__law_add) (c__law_times : CalG P w K mg base 3 "_law_times" 2 F__law_times) (c__law_by : CalG P w K mg base 3 "_law_by" 2 F__law_by) (c__law_total : CalG P w K mg base 4 "_law_total" 1 F__law_total) (c__law_rate : CalG P w K mg base 3 "_law_rate" 2 F__law_rate) (c__law_states : CalG P w K mg base 4 "_law_states" 2 F__law_states) (c__law_asked : CalG P w K mg base 7 "_law_asked" 3 F__law_asked) : FnG P w K mg base 8 f fd ["script"] (spM K mg 1 F_law) := def_go F sc_law fun cdv A outer s H E hr hgu tk hx hp => have hN := (sc_law).nd; dss_cons (ds_setR 1 hN (den_call c__law_draws hr hgu hx (da_cons (den_var 0) (da_nil)))) (dss_cons (ds_setR 1 hN (den_call c__law_more hr hgu hx (da_cons (den_var 1) (da_cons (den_int) (da_nil))))) (dss_cons (ds_set 2 hN (den_add (den_int) (den_mod (den_Ty ca_int call_int1 (by rfl) M.b_int (by decide +kernel) (da_cons (den_call c__law_next hr hgu hx (da_cons (den_var 1) (da_nil))) (da_nil))) (den_int)))) (dss_cons (ds_set 3 hN (den_Ty ca_tup call_tuple_of (by rfl) M.b_tuple (by decide +kernel) (da_cons (den_lc [("link", 4)] rfl hN (di_range1 (by rfl) M.b_range (da_cons (den_var 2) (da_nil))) (blkOk_by (by kernel_rfl)) (fun s H C cl fp => dg_name 4 hN) (fun s H C cl fp => dts_nil) (fun s H C cl fp => den_add (den_int) (den_mod (den_Ty ca_int call_int1 (by rfl) M.b_int (by decide +kernel) (da_cons (den_call c__law_next hr hgu passNo (da_cons (den_var 1) (da_nil))) (da_nil))) (den_ix (den_lst (da_cons (den_int) (da_cons (den_int) (da_cons (den_int) (da_nil))))) (den_sub (den_var 2) (den_int)))))) (da_nil)))) (dss_cons (ds_set 5 hN (den_Ty ca_tup call_tuple_of (by rfl) M.b_tuple (by decide +kernel) (da_cons (den_lc [("at", 6)] rfl hN (di_range1 (by rfl) M.b_range (da_cons (den_add (den_int) (den_mod (den_Ty ca_int call_int1 (by rfl) M.b_int (by decide +kernel) (da_cons (den_call c__law_next hr hgu hx (da_cons (den_var 1) (da_nil))) (da_nil))) (den_int))) (da_nil))) (blkOk_by (by kernel_rfl)) (fun s H C cl fp => dg_name 6 hN) (fun s H C cl fp => dts_nil) (fun s H C cl fp => den_tup (da_cons (den_add (den_int) (den_mod (den_Ty ca_int call_int1 (by rfl) M.b_int (by decide +kernel) (da_cons (den_call c__law_next hr hgu passNo (da_cons (den_var 1) (da_nil))) (da_nil))) (den_sub (den_call c__law_power hr hgu passNo (da_cons (den_var 2) (da_nil))) (den_int)))) (da_cons (den_call c__law_rate hr hgu passNo (da_cons (den_var 1) (da_cons (den_int) (da_nil)))) (da_nil))))) (da_nil)))) (dss_cons (ds_set 7 hN (den_call c__law_states hr hgu hx (da_cons (den_var 3) (da_cons (den_var 5) (da_nil))))) (dss_cons (ds_setR 8 hN (den_dnew)) (dss_cons (ds_for hp rfl (di_seq (den_var 7)) (dg_name 9 hN) (dss_cons (ds_set 10 hN (den_tup (da_cons (den_int) (da_cons (den_int) (da_nil))))) (dss_cons (ds_for hp rfl (di_range1 (by rfl) M.b_range (da_cons (den_B ca_len call_len (by rfl) M.b_len (by decide +kernel) (da_cons (den_var 5) (da_nil))) (da_nil))) (dg_name 6 hN) (dss_cons (ds_for hp rfl (di_range1 (by rfl) M.b_range (da_cons (den_ix (den_var 9) (den_var 6)) (da_nil))) (dg_name 11 hN) (dss_cons (ds_set 10 hN (den_call c__law_times hr hgu hx (da_cons (den_var 10) (da_cons (den_call c__law_by hr hgu hx (da_cons (den_ix (den_ix (den_var 5) (den_var 6)) (den_int)) (da_cons (den_tup (da_cons (den_add (den_var 11) (den_int)) (da_cons (den_int) (da_nil)))) (da_nil)))) (da_nil))))) (dss_nil))) (dss_nil))) (dss_cons (ds_dput (u65 hr) (den_var 8) (den_var 9) (den_var 10)) (dss_nil))))) (dss_frz (i := 8) (dss_cons (ds_set 12 hN (den_call c__law_total hr hgu hx (da_cons (den_lc [("state", 9)] rfl hN (di_keys (den_var 8)) (blkOk_by (by kernel_rfl)) (fun s H C cl fp => dg_name 9 hN) (fun s H C cl fp => dts_nil) (fun s H C cl fp => den_dget (u65 hr) (den_var 8) (den_var 9))) (da_nil)))) (dss_cons (ds_setR 13 hN (den_lst (da_nil))) (dss_cons (ds_for hp rfl (di_range1 (by rfl) M.b_range (da_cons (den_B ca_len call_len (by rfl) M.b_len (by decide +kernel) (da_cons (den_var 5) (da_nil))) (da_nil))) (dg_name 6 hN) (dss_cons (ds_setLc 14 [("state", 9)] rfl hN (di_seq (den_var 7)) (blkOk_by (by kernel_rfl)) (fun s H C cl fp => dg_name 9 hN) (fun s H C cl fp => dts_one (dt_dnin (u65 hr) (den_add (den_add (den_sl (den_var 9) (do_none) (do_some (den_var 6))) (den_tup (da_cons (den_add (den_ix (den_var 9) (den_var 6)) (den_int)) (da_nil)))) (den_sl (den_var 9) (do_some (den_add (den_var 6) (den_int))) (do_none))) (den_var 8) (by with_unfolding_all rfl))) (fun s H C cl fp => den_var 9) (hsw := by rfl)) (dss_cons (ds_expr (den_m (T := .lst) cm_append PySem.F.plainAttrs_list PySem.F.slot_list_append PySem.F.type_list_append mt_append (den_var 13) (da_cons (den_call c__law_by hr hgu hx (da_cons (den_call c__law_total hr hgu hx (da_cons (den_lc [("state", 9)] rfl hN (di_seq (den_var 14)) (blkOk_by (by kernel_rfl)) (fun s H C cl fp => dg_name 9 hN) (fun s H C cl fp => dts_nil) (fun s H C cl fp => den_dget (u65 hr) (den_var 8) (den_var 9))) (da_nil))) (da_cons (den_var 12) (da_nil)))) (da_nil)))) (dss_nil)))) (dss_cons (ds_set 15 hN (den_lst (da_cons (den_lc [("state", 9)] rfl hN (di_seq (den_B ca_sort (cr_sortD (u65 hr)) (by rfl) M.b_sorted (by decide +kernel) (da_cons (den_var 7) (da_nil)))) (blkOk_by (by kernel_rfl)) (fun s H C cl fp => dg_name 9 hN) (fun s H C cl fp => dts_nil) (fun s H C cl fp => den_tup (da_cons (den_var 9) (da_cons (den_call c__law_by hr hgu passNo (da_cons (den_dget (u65 hr) (den_var 8) (den_var 9)) (da_cons (den_var 12) (da_nil)))) (da_nil))))) (da_cons (den_Ty ca_tup call_tuple_of (by rfl) M.b_tuple (by decide +kernel) (da_cons (den_var 13) (da_nil))) (da_nil))))) (dss_cons (ds_if (dt_cmp (po_ne (u64 hr)) bi_ne (den_B ca_repr (cr_repr hgu (u65 hr)) (by rfl) M.b_repr (by decide +kernel) (da_cons (den_lc [("way", 16)] rfl hN (di_range1 (by rfl) M.b_range (da_cons (den_int) (da_nil))) (blkOk_by (by kernel_rfl)) (fun s H C cl fp => dg_name 16 hN) (fun s H C cl fp => dts_nil) (fun s H C cl fp => den_call c__law_asked hr hgu passNo (da_cons (den_var 16) (da_cons (den_var 3) (da_cons (den_var 5) (da_nil)))))) (da_nil))) (den_B ca_repr (cr_repr hgu (u65 hr)) (by rfl) M.b_repr (by decide +kernel) (da_cons (den_var 15) (da_nil))) (by with_unfolding_all rfl)) (dss_cons (ds_ret (den_bool)) (dss_nil)) (dss_nil)) (dss_cons (ds_par (i := 17) (j := 18) rfl hN (da_cons (den_add (den_int) (den_mod (den_Ty ca_int call_int1 (by rfl) M.b_int (by decide +kernel) (da_cons (den_call c__law_next hr hgu hx (da_cons (den_var 1) (da_nil))) (da_nil))) (den_int))) (da_cons (den_lc [("at", 6)] rfl hN (di_range1 (by rfl) M.b_range (da_cons (den_int) (da_nil))) (blkOk_by (by kernel_rfl)) (fun s H C cl fp => dg_name 6 hN) (fun s H C cl fp => dts_nil) (fun s H C cl fp => den_call c__law_rate hr hgu passNo (da_cons (den_var 1) (da_cons (den_int) (da_nil))))) (da_nil)))) (dss_cons (ds_set 19 hN (den_call c_link_losses hr hgu hx (da_cons (den_tup (da_cons (den_var 17) (da_nil))) (da_cons (den_tup (da_cons (den_tup (da_cons (den_int) (da_cons (den_call c__law_add hr hgu hx (da_cons (den_ix (den_var 18) (den_int)) (da_cons (den_ix (den_var 18) (den_int)) (da_nil)))) (da_nil)))) (da_nil))) (da_nil))))) (dss_cons (ds_if (dt_cmp (po_ne (u64 hr)) bi_ne (den_call c_link_losses hr hgu hx (da_cons (den_tup (da_cons (den_var 17) (da_nil))) (da_cons (den_tup (da_cons (den_tup (da_cons (den_int) (da_cons (den_ix (den_var 18) (den_int)) (da_nil)))) (da_cons (den_tup (da_cons (den_int) (da_cons (den_ix (den_var 18) (den_int)) (da_nil)))) (da_nil)))) (da_nil)))) (den_mul (den_var 19) (den_int)) (by with_unfolding_all rfl)) (dss_cons (ds_ret (den_bool)) (dss_nil)) (dss_nil)) (dss_cons (ds_set 20 hN (den_Ty ca_tup call_tuple_of (by rfl) M.b_tuple (by decide +kernel) (da_cons (den_lc [("some", 21), ("load", 22)] rfl hN (di_seq (den_sl (den_var 5) (do_none) (do_some (den_int)))) (blkOk_by (by kernel_rfl)) (fun s H C cl fp => dg_tup rfl (dgs_cons (dg_name 21 hN) (dgs_cons (dg_name 22 hN) (dgs_nil)))) (fun s H C cl fp => dts_nil) (fun s H C cl fp => den_tup (da_cons (den_mul (den_int) (den_var 21)) (da_cons (den_var 22) (da_nil))))) (da_nil)))) (dss_cons (ds_if (dt_w (dw_and (dt_cmp po_lt bi_lt (den_var 2) (den_int) (by with_unfolding_all rfl)) (dw_and1 (dt_cmp (po_ne (u64 hr)) bi_ne (den_call c_link_losses hr hgu hx (da_cons (den_add (den_tup (da_cons (den_var 17) (da_nil))) (den_var 3)) (da_cons (den_add (den_tup (da_cons (den_tup (da_cons (den_int) (da_cons (den_ix (den_var 18) (den_int)) (da_nil)))) (da_nil))) (den_var 20)) (da_nil)))) (den_add (den_call c_link_losses hr hgu hx (da_cons (den_tup (da_cons (den_var 17) (da_nil))) (da_cons (den_tup (da_cons (den_tup (da_cons (den_int) (da_cons (den_ix (den_var 18) (den_int)) (da_nil)))) (da_nil))) (da_nil)))) (den_call c_link_losses hr hgu hx (da_cons (den_var 3) (da_cons (den_sl (den_var 5) (do_none) (do_some (den_int))) (da_nil))))) (by with_unfolding_all rfl))))) (dss_cons (ds_ret (den_bool)) (dss_nil)) (dss_nil)) (dss_cons (ds_if (dt_cmp (po_ne (u64 hr)) bi_ne (den_call c_link_losses hr hgu hx (da_cons (den_tup (da_cons (den_int) (da_nil))) (da_cons (den_tup (da_cons (den_tup (da_cons (den_int) (da_cons (den_tup (da_cons (den_int) (da_cons (den_int) (da_nil)))) (da_nil)))) (da_nil))) (da_nil)))) (den_tup (da_cons (den_tup (da_cons (den_int) (da_cons (den_int) (da_nil)))) (da_nil))) (by with_unfolding_all rfl)) (dss_cons (ds_ret (den_bool)) (dss_nil)) (dss_nil)) (dss_cons (ds_set 23 hN (den_lst (da_cons (den_tup (da_cons (den_tup (da_nil)) (da_cons (den_tup (da_cons (den_tup (da_cons (den_int) (da_cons (den_tup (da_cons (den_int) (da_cons (den_int) (da_nil)))) (da_nil)))) (da_nil))) (da_nil)))) (da_cons (den_tup (da_cons (den_tup (da_cons (den_int) (da_nil))) (da_cons (den_tup (da_cons (den_tup (da_cons (den_int) (da_cons (den_tup (da_cons (den_int) (da_cons (den_int) (da_nil)))) (da_nil)))) (da_nil))) (da_nil)))) (da_cons (den_tup (da_cons (den_tup (da_cons (den_int) (da_nil))) (da_cons (den_tup (da_cons (den_tup (da_cons (den_int) (da_cons (den_tup (da_cons (den_int) (da_cons (den_int) (da_nil)))) (da_nil)))) (da_nil))) (da_nil)))) (da_cons (den_tup (da_cons (den_tup (da_cons (den_int) (da_nil))) (da_cons (den_tup (da_nil)) (da_nil)))) (da_cons (den_tup (da_cons (den_tup (da_cons (den_int) (da_nil))) (da_cons (den_tup (da_cons (den_tup (da_cons (den_int) (da_cons (den_tup (da_cons (den_int) (da_cons (den_int) (da_nil)))) (da_nil)))) (da_nil))) (da_nil)))) (da_cons (den_tup (da_cons (den_tup (da_cons (den_int) (da_nil))) (da_cons (den_tup (da_cons (den_tup (da_cons (den_int) (da_cons (den_tup (da_cons (den_int) (da_cons (den_int) (da_nil)))) (da_nil)))) (da_nil))) (da_nil)))) (da_cons (den_tup (da_cons (den_tup (da_cons (den_int) (da_nil))) (da_cons (den_tup (da_cons (den_tup (da_cons (den_int) (da_cons (den_tup (da_cons (den_int) (da_cons (den_int) (da_nil)))) (da_nil)))) (da_nil))) (da_nil)))) (da_cons (den_tup (da_cons (den_mul (den_tup (da_cons (den_int) (da_nil))) (den_int)) (da_cons (den_tup (da_cons (den_tup (da_cons (den_int) (da_cons (den_tup (da_cons (den_int) (da_cons (den_int) (da_nil)))) (da_nil)))) (da_nil))) (da_nil)))) (da_nil))))))))))) (dss_cons (ds_set 23 hN (den_add (den_var 23) (den_lst (da_cons (den_tup (da_cons (den_tup (da_cons (den_int) (da_nil))) (da_cons (den_mul (den_tup (da_cons (den_tup (da_cons (den_int) (da_cons (den_tup (da_cons (den_int) (da_cons (den_int) (da_nil)))) (da_nil)))) (da_nil))) (den_int)) (da_nil)))) (da_cons (den_tup (da_cons (den_tup (da_cons (den_int) (da_nil))) (da_cons (den_tup (da_cons (den_tup (da_cons (den_neg (den_int)) (da_cons (den_tup (da_cons (den_int) (da_cons (den_int) (da_nil)))) (da_nil)))) (da_nil))) (da_nil)))) (da_nil)))))) (dss_cons (ds_set 24 hN (den_call c__law_pick hr hgu hx (da_cons (den_var 1) (da_cons (den_var 23) (da_nil))))) (dss_cons (ds_set 25 hN (den_tup (da_cons (den_tup (da_cons (den_int) (da_cons (den_int) (da_cons (den_int) (da_cons (den_int) (da_nil)))))) (da_cons (den_tup (da_cons (den_tup (da_cons (den_int) (da_cons (den_tup (da_cons (den_int) (da_cons (den_int) (da_nil)))) (da_nil)))) (da_cons (den_tup (da_cons (den_int) (da_cons (den_tup (da_cons (den_int) (da_cons (den_int) (da_nil)))) (da_nil)))) (da_cons (den_tup (da_cons (den_int) (da_cons (den_tup (da_cons (den_int) (da_cons (den_int) (da_nil)))) (da_nil)))) (da_nil))))) (da_nil))))) (dss_cons (ds_ret (den_andV (den_cmp (po_eq (u64 hr)) bi_eq (den_lc [("way", 16)] rfl hN (di_range1 (by rfl) M.b_range (da_cons (den_int) (da_nil))) (blkOk_by (by kernel_rfl)) (fun s H C cl fp => dg_name 16 hN) (fun s H C cl fp => dts_nil) (fun s H C cl fp => den_call c__law_asked hr hgu passNo (da_cons (den_var 16) (da_cons (den_ix (den_var 24) (den_int)) (da_cons (den_ix (den_var 24) (den_int)) (da_nil)))))) (den_mul (den_lst (da_cons (den_str) (da_nil))) (den_int)) (by with_unfolding_all rfl)) (den_and1 (den_cmp (po_eq (u64 hr)) bi_eq (den_lc [("way", 16)] rfl hN (di_range1 (by rfl) M.b_range (da_cons (den_int) (da_nil))) (blkOk_by (by kernel_rfl)) (fun s H C cl fp => dg_name 16 hN) (fun s H C cl fp => dts_nil) (fun s H C cl fp => den_call c__law_asked hr hgu passNo (da_cons (den_var 16) (da_cons (den_ix (den_var 25) (den_int)) (da_cons (den_ix (den_var 25) (den_int)) (da_nil)))))) (den_mul (den_lst (da_cons (den_str) (da_nil))) (den_int)) (by with_unfolding_all rfl))))) (dss_nil)))))))))))))))))))))))))
theorem catch_mk {h : Heap} {A_NotChain A_NotNet A_NotTrace A_NotPaper A_BadNumber A_NoAnswer A_TooLarge A_QueueError : Addr} (X : K.In h) (G : h.Ns mainGlobals mg) (g_NotChain : PySem.W.nsIn K mainGlobals "NotChain" = some (some (.ref A_NotChain))) (g_NotNet : PySem.W.nsIn K mainGlobals "NotNet" = some (some (.ref A_NotNet))) (g_NotTrace : PySem.W.nsIn K mainGlobals "NotTrace" = some (some (.ref A_NotTrace))) (g_NotPaper : PySem.W.nsIn K mainGlobals "NotPaper" = some (some (.ref A_NotPaper))) (g_BadNumber : PySem.W.nsIn K mainGlobals "BadNumber" = some (some (.ref A_BadNumber))) (g_NoAnswer : PySem.W.nsIn K mainGlobals "NoAnswer" = some (some (.ref A_NoAnswer))) (g_TooLarge : PySem.W.nsIn K mainGlobals "TooLarge" = some (some (.ref A_TooLarge))) (g_QueueError : PySem.W.nsIn K mainGlobals "QueueError" = some (some (.ref A_QueueError))) (s_QueueError : PySem.W.subIn K (.ref A_QueueError) (.type "BaseException") = some true) (y_QueueError : PySem.W.typeIn K (.ref A_QueueError) = some (.type "type")) (q_h : PySem.W.hasDictIn K A_QueueError = true) (u_NotChain : PySem.W.subIn K (.ref A_NotChain) (.ref A_QueueError) = some true) (u_NotNet : PySem.W.subIn K (.ref A_NotNet) (.ref A_QueueError) = some true) (u_NotTrace : PySem.W.subIn K (.ref A_NotTrace) (.ref A_QueueError) = some true) (u_NotPaper : PySem.W.subIn K (.ref A_NotPaper) (.ref A_QueueError) = some true) (u_BadNumber : PySem.W.subIn K (.ref A_BadNumber) (.ref A_QueueError) = some true) (u_NoAnswer : PySem.W.subIn K (.ref A_NoAnswer) (.ref A_QueueError) = some true) (u_TooLarge : PySem.W.subIn K (.ref A_TooLarge) (.ref A_QueueError) = some true) : CatchOk K mg "QueueError" kindF := by
  refine ⟨A_QueueError, PySem.W.mg_of X G g_QueueError, fun y z h => ?_⟩
  rcases kindTab_cases h with ⟨rfl, rfl⟩ | ⟨rfl, rfl⟩ | ⟨rfl, rfl⟩ | ⟨rfl, rfl⟩ | ⟨rfl, rfl⟩ | ⟨rfl, rfl⟩ | ⟨rfl, rfl⟩
  · exact ⟨A_NotChain, PySem.W.mg_of X G g_NotChain, PySem.W.exm_ref s_QueueError q_h y_QueueError u_NotChain⟩
  · exact ⟨A_NotNet, PySem.W.mg_of X G g_NotNet, PySem.W.exm_ref s_QueueError q_h y_QueueError u_NotNet⟩
  · exact ⟨A_NotTrace, PySem.W.mg_of X G g_NotTrace, PySem.W.exm_ref s_QueueError q_h y_QueueError u_NotTrace⟩
  · exact ⟨A_NotPaper, PySem.W.mg_of X G g_NotPaper, PySem.W.exm_ref s_QueueError q_h y_QueueError u_NotPaper⟩
  · exact ⟨A_BadNumber, PySem.W.mg_of X G g_BadNumber, PySem.W.exm_ref s_QueueError q_h y_QueueError u_BadNumber⟩
  · exact ⟨A_NoAnswer, PySem.W.mg_of X G g_NoAnswer, PySem.W.exm_ref s_QueueError q_h y_QueueError u_NoAnswer⟩
  · exact ⟨A_TooLarge, PySem.W.mg_of X G g_TooLarge, PySem.W.exm_ref s_QueueError q_h y_QueueError u_TooLarge⟩
theorem kindt_mk {h : Heap} {A_NotChain A_NotNet A_NotTrace A_NotPaper A_BadNumber A_NoAnswer A_TooLarge : Addr} (X : K.In h) (G : h.Ns mainGlobals mg) (g_NotChain : PySem.W.nsIn K mainGlobals "NotChain" = some (some (.ref A_NotChain))) (g_NotNet : PySem.W.nsIn K mainGlobals "NotNet" = some (some (.ref A_NotNet))) (g_NotTrace : PySem.W.nsIn K mainGlobals "NotTrace" = some (some (.ref A_NotTrace))) (g_NotPaper : PySem.W.nsIn K mainGlobals "NotPaper" = some (some (.ref A_NotPaper))) (g_BadNumber : PySem.W.nsIn K mainGlobals "BadNumber" = some (some (.ref A_BadNumber))) (g_NoAnswer : PySem.W.nsIn K mainGlobals "NoAnswer" = some (some (.ref A_NoAnswer))) (g_TooLarge : PySem.W.nsIn K mainGlobals "TooLarge" = some (some (.ref A_TooLarge))) (q_n : PySem.W.specialIn K (.builtin "object.__class__") "__get__" = some (some (.builtin "getset_descriptor.__get__"))) (q_t : PySem.W.takesIn K (.builtin "object.__class__") = some true) (s_NotChain : PySem.W.subIn K (.ref A_NotChain) (.type "BaseException") = some true) (n1_NotChain : PySem.W.findIn K (.ref A_NotChain) "__getattribute__" = some (some (.builtin "BaseException.__getattribute__"))) (n2_NotChain : PySem.W.findIn K (.ref A_NotChain) "__getattr__" = some none) (n3_NotChain : PySem.W.hasDictIn K A_NotChain = true) (n4_NotChain : PySem.W.findIn K (.ref A_NotChain) "__class__" = some (some (.builtin "object.__class__"))) (n5_NotChain : PySem.W.mroIn K A_NotChain (.type "object") = some true) (kit_NotChain_NotChain : PySem.W.kitOne K (.ref A_NotChain) (.ref A_NotChain) = some true) (kit_NotChain_NotNet : PySem.W.kitOne K (.ref A_NotChain) (.ref A_NotNet) = some false) (kit_NotChain_NotTrace : PySem.W.kitOne K (.ref A_NotChain) (.ref A_NotTrace) = some false) (kit_NotChain_NotPaper : PySem.W.kitOne K (.ref A_NotChain) (.ref A_NotPaper) = some false) (kit_NotChain_BadNumber : PySem.W.kitOne K (.ref A_NotChain) (.ref A_BadNumber) = some false) (kit_NotChain_NoAnswer : PySem.W.kitOne K (.ref A_NotChain) (.ref A_NoAnswer) = some false) (kit_NotChain_TooLarge : PySem.W.kitOne K (.ref A_NotChain) (.ref A_TooLarge) = some false) (s_NotNet : PySem.W.subIn K (.ref A_NotNet) (.type "BaseException") = some true) (n1_NotNet : PySem.W.findIn K (.ref A_NotNet) "__getattribute__" = some (some (.builtin "BaseException.__getattribute__"))) (n2_NotNet : PySem.W.findIn K (.ref A_NotNet) "__getattr__" = some none) (n3_NotNet : PySem.W.hasDictIn K A_NotNet = true) (n4_NotNet : PySem.W.findIn K (.ref A_NotNet) "__class__" = some (some (.builtin "object.__class__"))) (n5_NotNet : PySem.W.mroIn K A_NotNet (.type "object") = some true) (kit_NotNet_NotChain : PySem.W.kitOne K (.ref A_NotNet) (.ref A_NotChain) = some false) (kit_NotNet_NotNet : PySem.W.kitOne K (.ref A_NotNet) (.ref A_NotNet) = some true) (kit_NotNet_NotTrace : PySem.W.kitOne K (.ref A_NotNet) (.ref A_NotTrace) = some false) (kit_NotNet_NotPaper : PySem.W.kitOne K (.ref A_NotNet) (.ref A_NotPaper) = some false) (kit_NotNet_BadNumber : PySem.W.kitOne K (.ref A_NotNet) (.ref A_BadNumber) = some false) (kit_NotNet_NoAnswer : PySem.W.kitOne K (.ref A_NotNet) (.ref A_NoAnswer) = some false) (kit_NotNet_TooLarge : PySem.W.kitOne K (.ref A_NotNet) (.ref A_TooLarge) = some false) (s_NotTrace : PySem.W.subIn K (.ref A_NotTrace) (.type "BaseException") = some true) (n1_NotTrace : PySem.W.findIn K (.ref A_NotTrace) "__getattribute__" = some (some (.builtin "BaseException.__getattribute__"))) (n2_NotTrace : PySem.W.findIn K (.ref A_NotTrace) "__getattr__" = some none) (n3_NotTrace : PySem.W.hasDictIn K A_NotTrace = true) (n4_NotTrace : PySem.W.findIn K (.ref A_NotTrace) "__class__" = some (some (.builtin "object.__class__"))) (n5_NotTrace : PySem.W.mroIn K A_NotTrace (.type "object") = some true) (kit_NotTrace_NotChain : PySem.W.kitOne K (.ref A_NotTrace) (.ref A_NotChain) = some false) (kit_NotTrace_NotNet : PySem.W.kitOne K (.ref A_NotTrace) (.ref A_NotNet) = some false) (kit_NotTrace_NotTrace : PySem.W.kitOne K (.ref A_NotTrace) (.ref A_NotTrace) = some true) (kit_NotTrace_NotPaper : PySem.W.kitOne K (.ref A_NotTrace) (.ref A_NotPaper) = some false) (kit_NotTrace_BadNumber : PySem.W.kitOne K (.ref A_NotTrace) (.ref A_BadNumber) = some false) (kit_NotTrace_NoAnswer : PySem.W.kitOne K (.ref A_NotTrace) (.ref A_NoAnswer) = some false) (kit_NotTrace_TooLarge : PySem.W.kitOne K (.ref A_NotTrace) (.ref A_TooLarge) = some false) (s_NotPaper : PySem.W.subIn K (.ref A_NotPaper) (.type "BaseException") = some true) (n1_NotPaper : PySem.W.findIn K (.ref A_NotPaper) "__getattribute__" = some (some (.builtin "BaseException.__getattribute__"))) (n2_NotPaper : PySem.W.findIn K (.ref A_NotPaper) "__getattr__" = some none) (n3_NotPaper : PySem.W.hasDictIn K A_NotPaper = true) (n4_NotPaper : PySem.W.findIn K (.ref A_NotPaper) "__class__" = some (some (.builtin "object.__class__"))) (n5_NotPaper : PySem.W.mroIn K A_NotPaper (.type "object") = some true) (kit_NotPaper_NotChain : PySem.W.kitOne K (.ref A_NotPaper) (.ref A_NotChain) = some false) (kit_NotPaper_NotNet : PySem.W.kitOne K (.ref A_NotPaper) (.ref A_NotNet) = some false) (kit_NotPaper_NotTrace : PySem.W.kitOne K (.ref A_NotPaper) (.ref A_NotTrace) = some false) (kit_NotPaper_NotPaper : PySem.W.kitOne K (.ref A_NotPaper) (.ref A_NotPaper) = some true) (kit_NotPaper_BadNumber : PySem.W.kitOne K (.ref A_NotPaper) (.ref A_BadNumber) = some false) (kit_NotPaper_NoAnswer : PySem.W.kitOne K (.ref A_NotPaper) (.ref A_NoAnswer) = some false) (kit_NotPaper_TooLarge : PySem.W.kitOne K (.ref A_NotPaper) (.ref A_TooLarge) = some false) (s_BadNumber : PySem.W.subIn K (.ref A_BadNumber) (.type "BaseException") = some true) (n1_BadNumber : PySem.W.findIn K (.ref A_BadNumber) "__getattribute__" = some (some (.builtin "BaseException.__getattribute__"))) (n2_BadNumber : PySem.W.findIn K (.ref A_BadNumber) "__getattr__" = some none) (n3_BadNumber : PySem.W.hasDictIn K A_BadNumber = true) (n4_BadNumber : PySem.W.findIn K (.ref A_BadNumber) "__class__" = some (some (.builtin "object.__class__"))) (n5_BadNumber : PySem.W.mroIn K A_BadNumber (.type "object") = some true) (kit_BadNumber_NotChain : PySem.W.kitOne K (.ref A_BadNumber) (.ref A_NotChain) = some false) (kit_BadNumber_NotNet : PySem.W.kitOne K (.ref A_BadNumber) (.ref A_NotNet) = some false) (kit_BadNumber_NotTrace : PySem.W.kitOne K (.ref A_BadNumber) (.ref A_NotTrace) = some false) (kit_BadNumber_NotPaper : PySem.W.kitOne K (.ref A_BadNumber) (.ref A_NotPaper) = some false) (kit_BadNumber_BadNumber : PySem.W.kitOne K (.ref A_BadNumber) (.ref A_BadNumber) = some true) (kit_BadNumber_NoAnswer : PySem.W.kitOne K (.ref A_BadNumber) (.ref A_NoAnswer) = some false) (kit_BadNumber_TooLarge : PySem.W.kitOne K (.ref A_BadNumber) (.ref A_TooLarge) = some false) (s_NoAnswer : PySem.W.subIn K (.ref A_NoAnswer) (.type "BaseException") = some true) (n1_NoAnswer : PySem.W.findIn K (.ref A_NoAnswer) "__getattribute__" = some (some (.builtin "BaseException.__getattribute__"))) (n2_NoAnswer : PySem.W.findIn K (.ref A_NoAnswer) "__getattr__" = some none) (n3_NoAnswer : PySem.W.hasDictIn K A_NoAnswer = true) (n4_NoAnswer : PySem.W.findIn K (.ref A_NoAnswer) "__class__" = some (some (.builtin "object.__class__"))) (n5_NoAnswer : PySem.W.mroIn K A_NoAnswer (.type "object") = some true) (kit_NoAnswer_NotChain : PySem.W.kitOne K (.ref A_NoAnswer) (.ref A_NotChain) = some false) (kit_NoAnswer_NotNet : PySem.W.kitOne K (.ref A_NoAnswer) (.ref A_NotNet) = some false) (kit_NoAnswer_NotTrace : PySem.W.kitOne K (.ref A_NoAnswer) (.ref A_NotTrace) = some false) (kit_NoAnswer_NotPaper : PySem.W.kitOne K (.ref A_NoAnswer) (.ref A_NotPaper) = some false) (kit_NoAnswer_BadNumber : PySem.W.kitOne K (.ref A_NoAnswer) (.ref A_BadNumber) = some false) (kit_NoAnswer_NoAnswer : PySem.W.kitOne K (.ref A_NoAnswer) (.ref A_NoAnswer) = some true) (kit_NoAnswer_TooLarge : PySem.W.kitOne K (.ref A_NoAnswer) (.ref A_TooLarge) = some false) (s_TooLarge : PySem.W.subIn K (.ref A_TooLarge) (.type "BaseException") = some true) (n1_TooLarge : PySem.W.findIn K (.ref A_TooLarge) "__getattribute__" = some (some (.builtin "BaseException.__getattribute__"))) (n2_TooLarge : PySem.W.findIn K (.ref A_TooLarge) "__getattr__" = some none) (n3_TooLarge : PySem.W.hasDictIn K A_TooLarge = true) (n4_TooLarge : PySem.W.findIn K (.ref A_TooLarge) "__class__" = some (some (.builtin "object.__class__"))) (n5_TooLarge : PySem.W.mroIn K A_TooLarge (.type "object") = some true) (kit_TooLarge_NotChain : PySem.W.kitOne K (.ref A_TooLarge) (.ref A_NotChain) = some false) (kit_TooLarge_NotNet : PySem.W.kitOne K (.ref A_TooLarge) (.ref A_NotNet) = some false) (kit_TooLarge_NotTrace : PySem.W.kitOne K (.ref A_TooLarge) (.ref A_NotTrace) = some false) (kit_TooLarge_NotPaper : PySem.W.kitOne K (.ref A_TooLarge) (.ref A_NotPaper) = some false) (kit_TooLarge_BadNumber : PySem.W.kitOne K (.ref A_TooLarge) (.ref A_BadNumber) = some false) (kit_TooLarge_NoAnswer : PySem.W.kitOne K (.ref A_TooLarge) (.ref A_NoAnswer) = some false) (kit_TooLarge_TooLarge : PySem.W.kitOne K (.ref A_TooLarge) (.ref A_TooLarge) = some true) : KindT K mg := by
  refine ⟨fun y z h => ?_⟩
  rcases kindTab_cases h with ⟨rfl, rfl⟩ | ⟨rfl, rfl⟩ | ⟨rfl, rfl⟩ | ⟨rfl, rfl⟩ | ⟨rfl, rfl⟩ | ⟨rfl, rfl⟩ | ⟨rfl, rfl⟩
  · refine ⟨A_NotChain, PySem.W.mg_of X G g_NotChain, ⟨n1_NotChain, n2_NotChain, s_NotChain, n3_NotChain, n4_NotChain, q_n, q_t, n5_NotChain⟩, fun y2 z2 h2 => ?_⟩
    rcases kindTab_cases h2 with ⟨rfl, rfl⟩ | ⟨rfl, rfl⟩ | ⟨rfl, rfl⟩ | ⟨rfl, rfl⟩ | ⟨rfl, rfl⟩ | ⟨rfl, rfl⟩ | ⟨rfl, rfl⟩
    · exact ⟨A_NotChain, PySem.W.mg_of X G g_NotChain, kit_NotChain_NotChain.trans (by decide)⟩
    · exact ⟨A_NotNet, PySem.W.mg_of X G g_NotNet, kit_NotChain_NotNet.trans (by decide)⟩
    · exact ⟨A_NotTrace, PySem.W.mg_of X G g_NotTrace, kit_NotChain_NotTrace.trans (by decide)⟩
    · exact ⟨A_NotPaper, PySem.W.mg_of X G g_NotPaper, kit_NotChain_NotPaper.trans (by decide)⟩
    · exact ⟨A_BadNumber, PySem.W.mg_of X G g_BadNumber, kit_NotChain_BadNumber.trans (by decide)⟩
    · exact ⟨A_NoAnswer, PySem.W.mg_of X G g_NoAnswer, kit_NotChain_NoAnswer.trans (by decide)⟩
    · exact ⟨A_TooLarge, PySem.W.mg_of X G g_TooLarge, kit_NotChain_TooLarge.trans (by decide)⟩
  · refine ⟨A_NotNet, PySem.W.mg_of X G g_NotNet, ⟨n1_NotNet, n2_NotNet, s_NotNet, n3_NotNet, n4_NotNet, q_n, q_t, n5_NotNet⟩, fun y2 z2 h2 => ?_⟩
    rcases kindTab_cases h2 with ⟨rfl, rfl⟩ | ⟨rfl, rfl⟩ | ⟨rfl, rfl⟩ | ⟨rfl, rfl⟩ | ⟨rfl, rfl⟩ | ⟨rfl, rfl⟩ | ⟨rfl, rfl⟩
    · exact ⟨A_NotChain, PySem.W.mg_of X G g_NotChain, kit_NotNet_NotChain.trans (by decide)⟩
    · exact ⟨A_NotNet, PySem.W.mg_of X G g_NotNet, kit_NotNet_NotNet.trans (by decide)⟩
    · exact ⟨A_NotTrace, PySem.W.mg_of X G g_NotTrace, kit_NotNet_NotTrace.trans (by decide)⟩
    · exact ⟨A_NotPaper, PySem.W.mg_of X G g_NotPaper, kit_NotNet_NotPaper.trans (by decide)⟩
    · exact ⟨A_BadNumber, PySem.W.mg_of X G g_BadNumber, kit_NotNet_BadNumber.trans (by decide)⟩
    · exact ⟨A_NoAnswer, PySem.W.mg_of X G g_NoAnswer, kit_NotNet_NoAnswer.trans (by decide)⟩
    · exact ⟨A_TooLarge, PySem.W.mg_of X G g_TooLarge, kit_NotNet_TooLarge.trans (by decide)⟩
  · refine ⟨A_NotTrace, PySem.W.mg_of X G g_NotTrace, ⟨n1_NotTrace, n2_NotTrace, s_NotTrace, n3_NotTrace, n4_NotTrace, q_n, q_t, n5_NotTrace⟩, fun y2 z2 h2 => ?_⟩
    rcases kindTab_cases h2 with ⟨rfl, rfl⟩ | ⟨rfl, rfl⟩ | ⟨rfl, rfl⟩ | ⟨rfl, rfl⟩ | ⟨rfl, rfl⟩ | ⟨rfl, rfl⟩ | ⟨rfl, rfl⟩
    · exact ⟨A_NotChain, PySem.W.mg_of X G g_NotChain, kit_NotTrace_NotChain.trans (by decide)⟩
    · exact ⟨A_NotNet, PySem.W.mg_of X G g_NotNet, kit_NotTrace_NotNet.trans (by decide)⟩
    · exact ⟨A_NotTrace, PySem.W.mg_of X G g_NotTrace, kit_NotTrace_NotTrace.trans (by decide)⟩
    · exact ⟨A_NotPaper, PySem.W.mg_of X G g_NotPaper, kit_NotTrace_NotPaper.trans (by decide)⟩
    · exact ⟨A_BadNumber, PySem.W.mg_of X G g_BadNumber, kit_NotTrace_BadNumber.trans (by decide)⟩
    · exact ⟨A_NoAnswer, PySem.W.mg_of X G g_NoAnswer, kit_NotTrace_NoAnswer.trans (by decide)⟩
    · exact ⟨A_TooLarge, PySem.W.mg_of X G g_TooLarge, kit_NotTrace_TooLarge.trans (by decide)⟩
  · refine ⟨A_NotPaper, PySem.W.mg_of X G g_NotPaper, ⟨n1_NotPaper, n2_NotPaper, s_NotPaper, n3_NotPaper, n4_NotPaper, q_n, q_t, n5_NotPaper⟩, fun y2 z2 h2 => ?_⟩
    rcases kindTab_cases h2 with ⟨rfl, rfl⟩ | ⟨rfl, rfl⟩ | ⟨rfl, rfl⟩ | ⟨rfl, rfl⟩ | ⟨rfl, rfl⟩ | ⟨rfl, rfl⟩ | ⟨rfl, rfl⟩
    · exact ⟨A_NotChain, PySem.W.mg_of X G g_NotChain, kit_NotPaper_NotChain.trans (by decide)⟩
    · exact ⟨A_NotNet, PySem.W.mg_of X G g_NotNet, kit_NotPaper_NotNet.trans (by decide)⟩
    · exact ⟨A_NotTrace, PySem.W.mg_of X G g_NotTrace, kit_NotPaper_NotTrace.trans (by decide)⟩
    · exact ⟨A_NotPaper, PySem.W.mg_of X G g_NotPaper, kit_NotPaper_NotPaper.trans (by decide)⟩
    · exact ⟨A_BadNumber, PySem.W.mg_of X G g_BadNumber, kit_NotPaper_BadNumber.trans (by decide)⟩
    · exact ⟨A_NoAnswer, PySem.W.mg_of X G g_NoAnswer, kit_NotPaper_NoAnswer.trans (by decide)⟩
    · exact ⟨A_TooLarge, PySem.W.mg_of X G g_TooLarge, kit_NotPaper_TooLarge.trans (by decide)⟩
  · refine ⟨A_BadNumber, PySem.W.mg_of X G g_BadNumber, ⟨n1_BadNumber, n2_BadNumber, s_BadNumber, n3_BadNumber, n4_BadNumber, q_n, q_t, n5_BadNumber⟩, fun y2 z2 h2 => ?_⟩
    rcases kindTab_cases h2 with ⟨rfl, rfl⟩ | ⟨rfl, rfl⟩ | ⟨rfl, rfl⟩ | ⟨rfl, rfl⟩ | ⟨rfl, rfl⟩ | ⟨rfl, rfl⟩ | ⟨rfl, rfl⟩
    · exact ⟨A_NotChain, PySem.W.mg_of X G g_NotChain, kit_BadNumber_NotChain.trans (by decide)⟩
    · exact ⟨A_NotNet, PySem.W.mg_of X G g_NotNet, kit_BadNumber_NotNet.trans (by decide)⟩
    · exact ⟨A_NotTrace, PySem.W.mg_of X G g_NotTrace, kit_BadNumber_NotTrace.trans (by decide)⟩
    · exact ⟨A_NotPaper, PySem.W.mg_of X G g_NotPaper, kit_BadNumber_NotPaper.trans (by decide)⟩
    · exact ⟨A_BadNumber, PySem.W.mg_of X G g_BadNumber, kit_BadNumber_BadNumber.trans (by decide)⟩
    · exact ⟨A_NoAnswer, PySem.W.mg_of X G g_NoAnswer, kit_BadNumber_NoAnswer.trans (by decide)⟩
    · exact ⟨A_TooLarge, PySem.W.mg_of X G g_TooLarge, kit_BadNumber_TooLarge.trans (by decide)⟩
  · refine ⟨A_NoAnswer, PySem.W.mg_of X G g_NoAnswer, ⟨n1_NoAnswer, n2_NoAnswer, s_NoAnswer, n3_NoAnswer, n4_NoAnswer, q_n, q_t, n5_NoAnswer⟩, fun y2 z2 h2 => ?_⟩
    rcases kindTab_cases h2 with ⟨rfl, rfl⟩ | ⟨rfl, rfl⟩ | ⟨rfl, rfl⟩ | ⟨rfl, rfl⟩ | ⟨rfl, rfl⟩ | ⟨rfl, rfl⟩ | ⟨rfl, rfl⟩
    · exact ⟨A_NotChain, PySem.W.mg_of X G g_NotChain, kit_NoAnswer_NotChain.trans (by decide)⟩
    · exact ⟨A_NotNet, PySem.W.mg_of X G g_NotNet, kit_NoAnswer_NotNet.trans (by decide)⟩
    · exact ⟨A_NotTrace, PySem.W.mg_of X G g_NotTrace, kit_NoAnswer_NotTrace.trans (by decide)⟩
    · exact ⟨A_NotPaper, PySem.W.mg_of X G g_NotPaper, kit_NoAnswer_NotPaper.trans (by decide)⟩
    · exact ⟨A_BadNumber, PySem.W.mg_of X G g_BadNumber, kit_NoAnswer_BadNumber.trans (by decide)⟩
    · exact ⟨A_NoAnswer, PySem.W.mg_of X G g_NoAnswer, kit_NoAnswer_NoAnswer.trans (by decide)⟩
    · exact ⟨A_TooLarge, PySem.W.mg_of X G g_TooLarge, kit_NoAnswer_TooLarge.trans (by decide)⟩
  · refine ⟨A_TooLarge, PySem.W.mg_of X G g_TooLarge, ⟨n1_TooLarge, n2_TooLarge, s_TooLarge, n3_TooLarge, n4_TooLarge, q_n, q_t, n5_TooLarge⟩, fun y2 z2 h2 => ?_⟩
    rcases kindTab_cases h2 with ⟨rfl, rfl⟩ | ⟨rfl, rfl⟩ | ⟨rfl, rfl⟩ | ⟨rfl, rfl⟩ | ⟨rfl, rfl⟩ | ⟨rfl, rfl⟩ | ⟨rfl, rfl⟩
    · exact ⟨A_NotChain, PySem.W.mg_of X G g_NotChain, kit_TooLarge_NotChain.trans (by decide)⟩
    · exact ⟨A_NotNet, PySem.W.mg_of X G g_NotNet, kit_TooLarge_NotNet.trans (by decide)⟩
    · exact ⟨A_NotTrace, PySem.W.mg_of X G g_NotTrace, kit_TooLarge_NotTrace.trans (by decide)⟩
    · exact ⟨A_NotPaper, PySem.W.mg_of X G g_NotPaper, kit_TooLarge_NotPaper.trans (by decide)⟩
    · exact ⟨A_BadNumber, PySem.W.mg_of X G g_BadNumber, kit_TooLarge_BadNumber.trans (by decide)⟩
    · exact ⟨A_NoAnswer, PySem.W.mg_of X G g_NoAnswer, kit_TooLarge_NoAnswer.trans (by decide)⟩
    · exact ⟨A_TooLarge, PySem.W.mg_of X G g_TooLarge, kit_TooLarge_TooLarge.trans (by decide)⟩
theorem all_mk {l : PySem.W.OpenLaw} {h : Heap} {fa : Addr} {f_common : Addr} {od_common an_common : Option Addr} {sl_common : Array (Option Value)} {oc_common kV_common dc_common pm_common cd_common ct_common : Value} {f_least_terms : Addr} {od_least_terms an_least_terms : Option Addr} {sl_least_terms : Array (Option Value)} {oc_least_terms kV_least_terms dc_least_terms pm_least_terms cd_least_terms ct_least_terms : Value} {f_add : Addr} {od_add an_add : Option Addr} {sl_add : Array (Option Value)} {oc_add kV_add dc_add pm_add cd_add ct_add : Value} {f_total : Addr} {od_total an_total : Option Addr} {sl_total : Array (Option Value)} {oc_total kV_total dc_total pm_total cd_total ct_total : Value} {f_fits : Addr} {od_fits an_fits : Option Addr} {sl_fits : Array (Option Value)} {oc_fits kV_fits dc_fits pm_fits cd_fits ct_fits : Value} {f_is_fraction : Addr} {od_is_fraction an_is_fraction : Option Addr} {sl_is_fraction : Array (Option Value)} {oc_is_fraction kV_is_fraction dc_is_fraction pm_is_fraction cd_is_fraction ct_is_fraction : Value} {f_is_rate : Addr} {od_is_rate an_is_rate : Option Addr} {sl_is_rate : Array (Option Value)} {oc_is_rate kV_is_rate dc_is_rate pm_is_rate cd_is_rate ct_is_rate : Value} {f_are_links : Addr} {od_are_links an_are_links : Option Addr} {sl_are_links : Array (Option Value)} {oc_are_links kV_are_links dc_are_links pm_are_links cd_are_links ct_are_links : Value} {f_check_links : Addr} {od_check_links an_check_links : Option Addr} {sl_check_links : Array (Option Value)} {oc_check_links kV_check_links dc_check_links pm_check_links cd_check_links ct_check_links : Value} {f_by : Addr} {od_by an_by : Option Addr} {sl_by : Array (Option Value)} {oc_by kV_by dc_by pm_by cd_by ct_by : Value} {f_times : Addr} {od_times an_times : Option Addr} {sl_times : Array (Option Value)} {oc_times kV_times dc_times pm_times cd_times ct_times : Value} {f_weight_by : Addr} {od_weight_by an_weight_by : Option Addr} {sl_weight_by : Array (Option Value)} {oc_weight_by kV_weight_by dc_weight_by pm_weight_by cd_weight_by ct_weight_by : Value} {f_link_states_of : Addr} {od_link_states_of an_link_states_of : Option Addr} {sl_link_states_of : Array (Option Value)} {oc_link_states_of kV_link_states_of dc_link_states_of pm_link_states_of cd_link_states_of ct_link_states_of : Value} {f_link_shares_of : Addr} {od_link_shares_of an_link_shares_of : Option Addr} {sl_link_shares_of : Array (Option Value)} {oc_link_shares_of kV_link_shares_of dc_link_shares_of pm_link_shares_of cd_link_shares_of ct_link_shares_of : Value} {f_link_losses : Addr} {od_link_losses an_link_losses : Option Addr} {sl_link_losses : Array (Option Value)} {oc_link_losses kV_link_losses dc_link_losses pm_link_losses cd_link_losses ct_link_losses : Value} {f__law_number : Addr} {od__law_number an__law_number : Option Addr} {sl__law_number : Array (Option Value)} {oc__law_number kV__law_number dc__law_number pm__law_number cd__law_number ct__law_number : Value} {f__law_draws : Addr} {od__law_draws an__law_draws : Option Addr} {sl__law_draws : Array (Option Value)} {oc__law_draws kV__law_draws dc__law_draws pm__law_draws cd__law_draws ct__law_draws : Value} {f__law_next : Addr} {od__law_next an__law_next : Option Addr} {sl__law_next : Array (Option Value)} {oc__law_next kV__law_next dc__law_next pm__law_next cd__law_next ct__law_next : Value} {f__law_more : Addr} {od__law_more an__law_more : Option Addr} {sl__law_more : Array (Option Value)} {oc__law_more kV__law_more dc__law_more pm__law_more cd__law_more ct__law_more : Value} {f__law_pick : Addr} {od__law_pick an__law_pick : Option Addr} {sl__law_pick : Array (Option Value)} {oc__law_pick kV__law_pick dc__law_pick pm__law_pick cd__law_pick ct__law_pick : Value} {f__law_power : Addr} {od__law_power an__law_power : Option Addr} {sl__law_power : Array (Option Value)} {oc__law_power kV__law_power dc__law_power pm__law_power cd__law_power ct__law_power : Value} {f__law_common : Addr} {od__law_common an__law_common : Option Addr} {sl__law_common : Array (Option Value)} {oc__law_common kV__law_common dc__law_common pm__law_common cd__law_common ct__law_common : Value} {f__law_lowest : Addr} {od__law_lowest an__law_lowest : Option Addr} {sl__law_lowest : Array (Option Value)} {oc__law_lowest kV__law_lowest dc__law_lowest pm__law_lowest cd__law_lowest ct__law_lowest : Value} {f__law_add : Addr} {od__law_add an__law_add : Option Addr} {sl__law_add : Array (Option Value)} {oc__law_add kV__law_add dc__law_add pm__law_add cd__law_add ct__law_add : Value} {f__law_times : Addr} {od__law_times an__law_times : Option Addr} {sl__law_times : Array (Option Value)} {oc__law_times kV__law_times dc__law_times pm__law_times cd__law_times ct__law_times : Value} {f__law_by : Addr} {od__law_by an__law_by : Option Addr} {sl__law_by : Array (Option Value)} {oc__law_by kV__law_by dc__law_by pm__law_by cd__law_by ct__law_by : Value} {f__law_total : Addr} {od__law_total an__law_total : Option Addr} {sl__law_total : Array (Option Value)} {oc__law_total kV__law_total dc__law_total pm__law_total cd__law_total ct__law_total : Value} {f__law_rate : Addr} {od__law_rate an__law_rate : Option Addr} {sl__law_rate : Array (Option Value)} {oc__law_rate kV__law_rate dc__law_rate pm__law_rate cd__law_rate ct__law_rate : Value} {f__law_on : Addr} {od__law_on an__law_on : Option Addr} {sl__law_on : Array (Option Value)} {oc__law_on kV__law_on dc__law_on pm__law_on cd__law_on ct__law_on : Value} {f__law_fits : Addr} {od__law_fits an__law_fits : Option Addr} {sl__law_fits : Array (Option Value)} {oc__law_fits kV__law_fits dc__law_fits pm__law_fits cd__law_fits ct__law_fits : Value} {f__law_states : Addr} {od__law_states an__law_states : Option Addr} {sl__law_states : Array (Option Value)} {oc__law_states kV__law_states dc__law_states pm__law_states cd__law_states ct__law_states : Value} {f_link_shares : Addr} {od_link_shares an_link_shares : Option Addr} {sl_link_shares : Array (Option Value)} {oc_link_shares kV_link_shares dc_link_shares pm_link_shares cd_link_shares ct_link_shares : Value} {f__law_kind : Addr} {od__law_kind an__law_kind : Option Addr} {sl__law_kind : Array (Option Value)} {oc__law_kind kV__law_kind dc__law_kind pm__law_kind cd__law_kind ct__law_kind : Value} {f__law_asked : Addr} {od__law_asked an__law_asked : Option Addr} {sl__law_asked : Array (Option Value)} {oc__law_asked kV__law_asked dc__law_asked pm__law_asked cd__law_asked ct__law_asked : Value} {f_law : Addr} {od_law an_law : Option Addr} {sl_law : Array (Option Value)} {oc_law kV_law dc_law pm_law cd_law ct_law : Value} {A_NotChain : Addr} {A_NotNet : Addr} {A_NotTrace : Addr} {A_NotPaper : Addr} {A_BadNumber : Addr} {A_NoAnswer : Addr} {A_TooLarge : Addr} {A_QueueError : Addr} {t_MOST_KINDS : Tok} {t_MOST_LINKS : Tok} {t_MOST_ON_LINK : Tok} {t_MOST_RATE : Tok} {t_MOST_STATES : Tok} (X : K.In h) (G : h.Ns mainGlobals mg) (hfa : mg "law" = some (.ref fa))
    (a_common : PySem.W.nsIn K mainGlobals "common" = some (some (.ref f_common)))
    (l_common : K.lookup f_common = some ⟨oc_common, od_common, .func (PySem.W.fnOf "common" "common" (defArgs (topS 10)) (defBody (topS 10)) (defScope (topS 10)) .none kV_common dc_common pm_common an_common cd_common ct_common), sl_common⟩)
    (c_common : PySem.W.codeIn K cd_common "common" = true)
    (k_common : PySem.W.keepIn K (.ref f_common) = true)
    (a_least_terms : PySem.W.nsIn K mainGlobals "least_terms" = some (some (.ref f_least_terms)))
    (l_least_terms : K.lookup f_least_terms = some ⟨oc_least_terms, od_least_terms, .func (PySem.W.fnOf "least_terms" "least_terms" (defArgs (topS 11)) (defBody (topS 11)) (defScope (topS 11)) .none kV_least_terms dc_least_terms pm_least_terms an_least_terms cd_least_terms ct_least_terms), sl_least_terms⟩)
    (c_least_terms : PySem.W.codeIn K cd_least_terms "least_terms" = true)
    (k_least_terms : PySem.W.keepIn K (.ref f_least_terms) = true)
    (a_add : PySem.W.nsIn K mainGlobals "add" = some (some (.ref f_add)))
    (l_add : K.lookup f_add = some ⟨oc_add, od_add, .func (PySem.W.fnOf "add" "add" (defArgs (topS 12)) (defBody (topS 12)) (defScope (topS 12)) .none kV_add dc_add pm_add an_add cd_add ct_add), sl_add⟩)
    (c_add : PySem.W.codeIn K cd_add "add" = true)
    (k_add : PySem.W.keepIn K (.ref f_add) = true)
    (a_total : PySem.W.nsIn K mainGlobals "total" = some (some (.ref f_total)))
    (l_total : K.lookup f_total = some ⟨oc_total, od_total, .func (PySem.W.fnOf "total" "total" (defArgs (topS 15)) (defBody (topS 15)) (defScope (topS 15)) .none kV_total dc_total pm_total an_total cd_total ct_total), sl_total⟩)
    (c_total : PySem.W.codeIn K cd_total "total" = true)
    (k_total : PySem.W.keepIn K (.ref f_total) = true)
    (a_fits : PySem.W.nsIn K mainGlobals "fits" = some (some (.ref f_fits)))
    (l_fits : K.lookup f_fits = some ⟨oc_fits, od_fits, .func (PySem.W.fnOf "fits" "fits" (defArgs (topS 27)) (defBody (topS 27)) (defScope (topS 27)) .none kV_fits dc_fits pm_fits an_fits cd_fits ct_fits), sl_fits⟩)
    (c_fits : PySem.W.codeIn K cd_fits "fits" = true)
    (k_fits : PySem.W.keepIn K (.ref f_fits) = true)
    (a_is_fraction : PySem.W.nsIn K mainGlobals "is_fraction" = some (some (.ref f_is_fraction)))
    (l_is_fraction : K.lookup f_is_fraction = some ⟨oc_is_fraction, od_is_fraction, .func (PySem.W.fnOf "is_fraction" "is_fraction" (defArgs (topS 16)) (defBody (topS 16)) (defScope (topS 16)) .none kV_is_fraction dc_is_fraction pm_is_fraction an_is_fraction cd_is_fraction ct_is_fraction), sl_is_fraction⟩)
    (c_is_fraction : PySem.W.codeIn K cd_is_fraction "is_fraction" = true)
    (k_is_fraction : PySem.W.keepIn K (.ref f_is_fraction) = true)
    (a_is_rate : PySem.W.nsIn K mainGlobals "is_rate" = some (some (.ref f_is_rate)))
    (l_is_rate : K.lookup f_is_rate = some ⟨oc_is_rate, od_is_rate, .func (PySem.W.fnOf "is_rate" "is_rate" (defArgs (topS 19)) (defBody (topS 19)) (defScope (topS 19)) .none kV_is_rate dc_is_rate pm_is_rate an_is_rate cd_is_rate ct_is_rate), sl_is_rate⟩)
    (c_is_rate : PySem.W.codeIn K cd_is_rate "is_rate" = true)
    (k_is_rate : PySem.W.keepIn K (.ref f_is_rate) = true)
    (a_are_links : PySem.W.nsIn K mainGlobals "are_links" = some (some (.ref f_are_links)))
    (l_are_links : K.lookup f_are_links = some ⟨oc_are_links, od_are_links, .func (PySem.W.fnOf "are_links" "are_links" (defArgs (topS 26)) (defBody (topS 26)) (defScope (topS 26)) .none kV_are_links dc_are_links pm_are_links an_are_links cd_are_links ct_are_links), sl_are_links⟩)
    (c_are_links : PySem.W.codeIn K cd_are_links "are_links" = true)
    (k_are_links : PySem.W.keepIn K (.ref f_are_links) = true)
    (a_check_links : PySem.W.nsIn K mainGlobals "check_links" = some (some (.ref f_check_links)))
    (l_check_links : K.lookup f_check_links = some ⟨oc_check_links, od_check_links, .func (PySem.W.fnOf "check_links" "check_links" (defArgs (topS 29)) (defBody (topS 29)) (defScope (topS 29)) .none kV_check_links dc_check_links pm_check_links an_check_links cd_check_links ct_check_links), sl_check_links⟩)
    (c_check_links : PySem.W.codeIn K cd_check_links "check_links" = true)
    (k_check_links : PySem.W.keepIn K (.ref f_check_links) = true)
    (a_by : PySem.W.nsIn K mainGlobals "by" = some (some (.ref f_by)))
    (l_by : K.lookup f_by = some ⟨oc_by, od_by, .func (PySem.W.fnOf "by" "by" (defArgs (topS 14)) (defBody (topS 14)) (defScope (topS 14)) .none kV_by dc_by pm_by an_by cd_by ct_by), sl_by⟩)
    (c_by : PySem.W.codeIn K cd_by "by" = true)
    (k_by : PySem.W.keepIn K (.ref f_by) = true)
    (a_times : PySem.W.nsIn K mainGlobals "times" = some (some (.ref f_times)))
    (l_times : K.lookup f_times = some ⟨oc_times, od_times, .func (PySem.W.fnOf "times" "times" (defArgs (topS 13)) (defBody (topS 13)) (defScope (topS 13)) .none kV_times dc_times pm_times an_times cd_times ct_times), sl_times⟩)
    (c_times : PySem.W.codeIn K cd_times "times" = true)
    (k_times : PySem.W.keepIn K (.ref f_times) = true)
    (a_weight_by : PySem.W.nsIn K mainGlobals "weight_by" = some (some (.ref f_weight_by)))
    (l_weight_by : K.lookup f_weight_by = some ⟨oc_weight_by, od_weight_by, .func (PySem.W.fnOf "weight_by" "weight_by" (defArgs (topS 25)) (defBody (topS 25)) (defScope (topS 25)) .none kV_weight_by dc_weight_by pm_weight_by an_weight_by cd_weight_by ct_weight_by), sl_weight_by⟩)
    (c_weight_by : PySem.W.codeIn K cd_weight_by "weight_by" = true)
    (k_weight_by : PySem.W.keepIn K (.ref f_weight_by) = true)
    (a_link_states_of : PySem.W.nsIn K mainGlobals "link_states_of" = some (some (.ref f_link_states_of)))
    (l_link_states_of : K.lookup f_link_states_of = some ⟨oc_link_states_of, od_link_states_of, .func (PySem.W.fnOf "link_states_of" "link_states_of" (defArgs (topS 28)) (defBody (topS 28)) (defScope (topS 28)) .none kV_link_states_of dc_link_states_of pm_link_states_of an_link_states_of cd_link_states_of ct_link_states_of), sl_link_states_of⟩)
    (c_link_states_of : PySem.W.codeIn K cd_link_states_of "link_states_of" = true)
    (k_link_states_of : PySem.W.keepIn K (.ref f_link_states_of) = true)
    (a_link_shares_of : PySem.W.nsIn K mainGlobals "link_shares_of" = some (some (.ref f_link_shares_of)))
    (l_link_shares_of : K.lookup f_link_shares_of = some ⟨oc_link_shares_of, od_link_shares_of, .func (PySem.W.fnOf "link_shares_of" "link_shares_of" (defArgs (topS 30)) (defBody (topS 30)) (defScope (topS 30)) .none kV_link_shares_of dc_link_shares_of pm_link_shares_of an_link_shares_of cd_link_shares_of ct_link_shares_of), sl_link_shares_of⟩)
    (c_link_shares_of : PySem.W.codeIn K cd_link_shares_of "link_shares_of" = true)
    (k_link_shares_of : PySem.W.keepIn K (.ref f_link_shares_of) = true)
    (a_link_losses : PySem.W.nsIn K mainGlobals "link_losses" = some (some (.ref f_link_losses)))
    (l_link_losses : K.lookup f_link_losses = some ⟨oc_link_losses, od_link_losses, .func (PySem.W.fnOf "link_losses" "link_losses" (defArgs (topS 32)) (defBody (topS 32)) (defScope (topS 32)) .none kV_link_losses dc_link_losses pm_link_losses an_link_losses cd_link_losses ct_link_losses), sl_link_losses⟩)
    (c_link_losses : PySem.W.codeIn K cd_link_losses "link_losses" = true)
    (k_link_losses : PySem.W.keepIn K (.ref f_link_losses) = true)
    (a__law_number : PySem.W.nsIn K mainGlobals "_law_number" = some (some (.ref f__law_number)))
    (l__law_number : K.lookup f__law_number = some ⟨oc__law_number, od__law_number, .func (PySem.W.fnOf "_law_number" "_law_number" (defArgs (topS 34)) (defBody (topS 34)) (defScope (topS 34)) .none kV__law_number dc__law_number pm__law_number an__law_number cd__law_number ct__law_number), sl__law_number⟩)
    (c__law_number : PySem.W.codeIn K cd__law_number "_law_number" = true)
    (k__law_number : PySem.W.keepIn K (.ref f__law_number) = true)
    (a__law_draws : PySem.W.nsIn K mainGlobals "_law_draws" = some (some (.ref f__law_draws)))
    (l__law_draws : K.lookup f__law_draws = some ⟨oc__law_draws, od__law_draws, .func (PySem.W.fnOf "_law_draws" "_law_draws" (defArgs (topS 35)) (defBody (topS 35)) (defScope (topS 35)) .none kV__law_draws dc__law_draws pm__law_draws an__law_draws cd__law_draws ct__law_draws), sl__law_draws⟩)
    (c__law_draws : PySem.W.codeIn K cd__law_draws "_law_draws" = true)
    (k__law_draws : PySem.W.keepIn K (.ref f__law_draws) = true)
    (a__law_next : PySem.W.nsIn K mainGlobals "_law_next" = some (some (.ref f__law_next)))
    (l__law_next : K.lookup f__law_next = some ⟨oc__law_next, od__law_next, .func (PySem.W.fnOf "_law_next" "_law_next" (defArgs (topS 36)) (defBody (topS 36)) (defScope (topS 36)) .none kV__law_next dc__law_next pm__law_next an__law_next cd__law_next ct__law_next), sl__law_next⟩)
    (c__law_next : PySem.W.codeIn K cd__law_next "_law_next" = true)
    (k__law_next : PySem.W.keepIn K (.ref f__law_next) = true)
    (a__law_more : PySem.W.nsIn K mainGlobals "_law_more" = some (some (.ref f__law_more)))
    (l__law_more : K.lookup f__law_more = some ⟨oc__law_more, od__law_more, .func (PySem.W.fnOf "_law_more" "_law_more" (defArgs (topS 37)) (defBody (topS 37)) (defScope (topS 37)) .none kV__law_more dc__law_more pm__law_more an__law_more cd__law_more ct__law_more), sl__law_more⟩)
    (c__law_more : PySem.W.codeIn K cd__law_more "_law_more" = true)
    (k__law_more : PySem.W.keepIn K (.ref f__law_more) = true)
    (a__law_pick : PySem.W.nsIn K mainGlobals "_law_pick" = some (some (.ref f__law_pick)))
    (l__law_pick : K.lookup f__law_pick = some ⟨oc__law_pick, od__law_pick, .func (PySem.W.fnOf "_law_pick" "_law_pick" (defArgs (topS 38)) (defBody (topS 38)) (defScope (topS 38)) .none kV__law_pick dc__law_pick pm__law_pick an__law_pick cd__law_pick ct__law_pick), sl__law_pick⟩)
    (c__law_pick : PySem.W.codeIn K cd__law_pick "_law_pick" = true)
    (k__law_pick : PySem.W.keepIn K (.ref f__law_pick) = true)
    (a__law_power : PySem.W.nsIn K mainGlobals "_law_power" = some (some (.ref f__law_power)))
    (l__law_power : K.lookup f__law_power = some ⟨oc__law_power, od__law_power, .func (PySem.W.fnOf "_law_power" "_law_power" (defArgs (topS 40)) (defBody (topS 40)) (defScope (topS 40)) .none kV__law_power dc__law_power pm__law_power an__law_power cd__law_power ct__law_power), sl__law_power⟩)
    (c__law_power : PySem.W.codeIn K cd__law_power "_law_power" = true)
    (k__law_power : PySem.W.keepIn K (.ref f__law_power) = true)
    (a__law_common : PySem.W.nsIn K mainGlobals "_law_common" = some (some (.ref f__law_common)))
    (l__law_common : K.lookup f__law_common = some ⟨oc__law_common, od__law_common, .func (PySem.W.fnOf "_law_common" "_law_common" (defArgs (topS 42)) (defBody (topS 42)) (defScope (topS 42)) .none kV__law_common dc__law_common pm__law_common an__law_common cd__law_common ct__law_common), sl__law_common⟩)
    (c__law_common : PySem.W.codeIn K cd__law_common "_law_common" = true)
    (k__law_common : PySem.W.keepIn K (.ref f__law_common) = true)
    (a__law_lowest : PySem.W.nsIn K mainGlobals "_law_lowest" = some (some (.ref f__law_lowest)))
    (l__law_lowest : K.lookup f__law_lowest = some ⟨oc__law_lowest, od__law_lowest, .func (PySem.W.fnOf "_law_lowest" "_law_lowest" (defArgs (topS 43)) (defBody (topS 43)) (defScope (topS 43)) .none kV__law_lowest dc__law_lowest pm__law_lowest an__law_lowest cd__law_lowest ct__law_lowest), sl__law_lowest⟩)
    (c__law_lowest : PySem.W.codeIn K cd__law_lowest "_law_lowest" = true)
    (k__law_lowest : PySem.W.keepIn K (.ref f__law_lowest) = true)
    (a__law_add : PySem.W.nsIn K mainGlobals "_law_add" = some (some (.ref f__law_add)))
    (l__law_add : K.lookup f__law_add = some ⟨oc__law_add, od__law_add, .func (PySem.W.fnOf "_law_add" "_law_add" (defArgs (topS 44)) (defBody (topS 44)) (defScope (topS 44)) .none kV__law_add dc__law_add pm__law_add an__law_add cd__law_add ct__law_add), sl__law_add⟩)
    (c__law_add : PySem.W.codeIn K cd__law_add "_law_add" = true)
    (k__law_add : PySem.W.keepIn K (.ref f__law_add) = true)
    (a__law_times : PySem.W.nsIn K mainGlobals "_law_times" = some (some (.ref f__law_times)))
    (l__law_times : K.lookup f__law_times = some ⟨oc__law_times, od__law_times, .func (PySem.W.fnOf "_law_times" "_law_times" (defArgs (topS 45)) (defBody (topS 45)) (defScope (topS 45)) .none kV__law_times dc__law_times pm__law_times an__law_times cd__law_times ct__law_times), sl__law_times⟩)
    (c__law_times : PySem.W.codeIn K cd__law_times "_law_times" = true)
    (k__law_times : PySem.W.keepIn K (.ref f__law_times) = true)
    (a__law_by : PySem.W.nsIn K mainGlobals "_law_by" = some (some (.ref f__law_by)))
    (l__law_by : K.lookup f__law_by = some ⟨oc__law_by, od__law_by, .func (PySem.W.fnOf "_law_by" "_law_by" (defArgs (topS 46)) (defBody (topS 46)) (defScope (topS 46)) .none kV__law_by dc__law_by pm__law_by an__law_by cd__law_by ct__law_by), sl__law_by⟩)
    (c__law_by : PySem.W.codeIn K cd__law_by "_law_by" = true)
    (k__law_by : PySem.W.keepIn K (.ref f__law_by) = true)
    (a__law_total : PySem.W.nsIn K mainGlobals "_law_total" = some (some (.ref f__law_total)))
    (l__law_total : K.lookup f__law_total = some ⟨oc__law_total, od__law_total, .func (PySem.W.fnOf "_law_total" "_law_total" (defArgs (topS 47)) (defBody (topS 47)) (defScope (topS 47)) .none kV__law_total dc__law_total pm__law_total an__law_total cd__law_total ct__law_total), sl__law_total⟩)
    (c__law_total : PySem.W.codeIn K cd__law_total "_law_total" = true)
    (k__law_total : PySem.W.keepIn K (.ref f__law_total) = true)
    (a__law_rate : PySem.W.nsIn K mainGlobals "_law_rate" = some (some (.ref f__law_rate)))
    (l__law_rate : K.lookup f__law_rate = some ⟨oc__law_rate, od__law_rate, .func (PySem.W.fnOf "_law_rate" "_law_rate" (defArgs (topS 48)) (defBody (topS 48)) (defScope (topS 48)) .none kV__law_rate dc__law_rate pm__law_rate an__law_rate cd__law_rate ct__law_rate), sl__law_rate⟩)
    (c__law_rate : PySem.W.codeIn K cd__law_rate "_law_rate" = true)
    (k__law_rate : PySem.W.keepIn K (.ref f__law_rate) = true)
    (a__law_on : PySem.W.nsIn K mainGlobals "_law_on" = some (some (.ref f__law_on)))
    (l__law_on : K.lookup f__law_on = some ⟨oc__law_on, od__law_on, .func (PySem.W.fnOf "_law_on" "_law_on" (defArgs (topS 41)) (defBody (topS 41)) (defScope (topS 41)) .none kV__law_on dc__law_on pm__law_on an__law_on cd__law_on ct__law_on), sl__law_on⟩)
    (c__law_on : PySem.W.codeIn K cd__law_on "_law_on" = true)
    (k__law_on : PySem.W.keepIn K (.ref f__law_on) = true)
    (a__law_fits : PySem.W.nsIn K mainGlobals "_law_fits" = some (some (.ref f__law_fits)))
    (l__law_fits : K.lookup f__law_fits = some ⟨oc__law_fits, od__law_fits, .func (PySem.W.fnOf "_law_fits" "_law_fits" (defArgs (topS 49)) (defBody (topS 49)) (defScope (topS 49)) .none kV__law_fits dc__law_fits pm__law_fits an__law_fits cd__law_fits ct__law_fits), sl__law_fits⟩)
    (c__law_fits : PySem.W.codeIn K cd__law_fits "_law_fits" = true)
    (k__law_fits : PySem.W.keepIn K (.ref f__law_fits) = true)
    (a__law_states : PySem.W.nsIn K mainGlobals "_law_states" = some (some (.ref f__law_states)))
    (l__law_states : K.lookup f__law_states = some ⟨oc__law_states, od__law_states, .func (PySem.W.fnOf "_law_states" "_law_states" (defArgs (topS 50)) (defBody (topS 50)) (defScope (topS 50)) .none kV__law_states dc__law_states pm__law_states an__law_states cd__law_states ct__law_states), sl__law_states⟩)
    (c__law_states : PySem.W.codeIn K cd__law_states "_law_states" = true)
    (k__law_states : PySem.W.keepIn K (.ref f__law_states) = true)
    (a_link_shares : PySem.W.nsIn K mainGlobals "link_shares" = some (some (.ref f_link_shares)))
    (l_link_shares : K.lookup f_link_shares = some ⟨oc_link_shares, od_link_shares, .func (PySem.W.fnOf "link_shares" "link_shares" (defArgs (topS 31)) (defBody (topS 31)) (defScope (topS 31)) .none kV_link_shares dc_link_shares pm_link_shares an_link_shares cd_link_shares ct_link_shares), sl_link_shares⟩)
    (c_link_shares : PySem.W.codeIn K cd_link_shares "link_shares" = true)
    (k_link_shares : PySem.W.keepIn K (.ref f_link_shares) = true)
    (a__law_kind : PySem.W.nsIn K mainGlobals "_law_kind" = some (some (.ref f__law_kind)))
    (l__law_kind : K.lookup f__law_kind = some ⟨oc__law_kind, od__law_kind, .func (PySem.W.fnOf "_law_kind" "_law_kind" (defArgs (topS 39)) (defBody (topS 39)) (defScope (topS 39)) .none kV__law_kind dc__law_kind pm__law_kind an__law_kind cd__law_kind ct__law_kind), sl__law_kind⟩)
    (c__law_kind : PySem.W.codeIn K cd__law_kind "_law_kind" = true)
    (k__law_kind : PySem.W.keepIn K (.ref f__law_kind) = true)
    (a__law_asked : PySem.W.nsIn K mainGlobals "_law_asked" = some (some (.ref f__law_asked)))
    (l__law_asked : K.lookup f__law_asked = some ⟨oc__law_asked, od__law_asked, .func (PySem.W.fnOf "_law_asked" "_law_asked" (defArgs (topS 51)) (defBody (topS 51)) (defScope (topS 51)) .none kV__law_asked dc__law_asked pm__law_asked an__law_asked cd__law_asked ct__law_asked), sl__law_asked⟩)
    (c__law_asked : PySem.W.codeIn K cd__law_asked "_law_asked" = true)
    (k__law_asked : PySem.W.keepIn K (.ref f__law_asked) = true)
    (a_law : PySem.W.nsIn K mainGlobals "law" = some (some (.ref f_law)))
    (l_law : K.lookup f_law = some ⟨oc_law, od_law, .func (PySem.W.fnOf "law" "law" (defArgs (topS 52)) (defBody (topS 52)) (defScope (topS 52)) .none kV_law dc_law pm_law an_law cd_law ct_law), sl_law⟩)
    (c_law : PySem.W.codeIn K cd_law "law" = true)
    (k_law : PySem.W.keepIn K (.ref f_law) = true)
    (z_abs : PySem.W.nsIn K mainGlobals "abs" = some none)
    (z_all : PySem.W.nsIn K mainGlobals "all" = some none)
    (z_enumerate : PySem.W.nsIn K mainGlobals "enumerate" = some none)
    (z_int : PySem.W.nsIn K mainGlobals "int" = some none)
    (z_isinstance : PySem.W.nsIn K mainGlobals "isinstance" = some none)
    (z_len : PySem.W.nsIn K mainGlobals "len" = some none)
    (z_max : PySem.W.nsIn K mainGlobals "max" = some none)
    (z_range : PySem.W.nsIn K mainGlobals "range" = some none)
    (z_repr : PySem.W.nsIn K mainGlobals "repr" = some none)
    (z_sorted : PySem.W.nsIn K mainGlobals "sorted" = some none)
    (z_sum : PySem.W.nsIn K mainGlobals "sum" = some none)
    (z_tuple : PySem.W.nsIn K mainGlobals "tuple" = some none)
    (z_zip : PySem.W.nsIn K mainGlobals "zip" = some none)
    (v_MOST_KINDS : PySem.W.nsIn K mainGlobals "MOST_KINDS" = some (some (.int 6 t_MOST_KINDS)))
    (v_MOST_LINKS : PySem.W.nsIn K mainGlobals "MOST_LINKS" = some (some (.int 4 t_MOST_LINKS)))
    (v_MOST_ON_LINK : PySem.W.nsIn K mainGlobals "MOST_ON_LINK" = some (some (.int 20 t_MOST_ON_LINK)))
    (v_MOST_RATE : PySem.W.nsIn K mainGlobals "MOST_RATE" = some (some (.int 1000 t_MOST_RATE)))
    (v_MOST_STATES : PySem.W.nsIn K mainGlobals "MOST_STATES" = some (some (.int 2000 t_MOST_STATES)))
    (g_NotChain : PySem.W.nsIn K mainGlobals "NotChain" = some (some (.ref A_NotChain)))
    (s_NotChain : PySem.W.subIn K (.ref A_NotChain) (.type "BaseException") = some true)
    (y_NotChain : PySem.W.typeIn K (.ref A_NotChain) = some (.type "type"))
    (g_NotNet : PySem.W.nsIn K mainGlobals "NotNet" = some (some (.ref A_NotNet)))
    (s_NotNet : PySem.W.subIn K (.ref A_NotNet) (.type "BaseException") = some true)
    (y_NotNet : PySem.W.typeIn K (.ref A_NotNet) = some (.type "type"))
    (g_NotTrace : PySem.W.nsIn K mainGlobals "NotTrace" = some (some (.ref A_NotTrace)))
    (s_NotTrace : PySem.W.subIn K (.ref A_NotTrace) (.type "BaseException") = some true)
    (y_NotTrace : PySem.W.typeIn K (.ref A_NotTrace) = some (.type "type"))
    (g_NotPaper : PySem.W.nsIn K mainGlobals "NotPaper" = some (some (.ref A_NotPaper)))
    (s_NotPaper : PySem.W.subIn K (.ref A_NotPaper) (.type "BaseException") = some true)
    (y_NotPaper : PySem.W.typeIn K (.ref A_NotPaper) = some (.type "type"))
    (g_BadNumber : PySem.W.nsIn K mainGlobals "BadNumber" = some (some (.ref A_BadNumber)))
    (s_BadNumber : PySem.W.subIn K (.ref A_BadNumber) (.type "BaseException") = some true)
    (y_BadNumber : PySem.W.typeIn K (.ref A_BadNumber) = some (.type "type"))
    (g_NoAnswer : PySem.W.nsIn K mainGlobals "NoAnswer" = some (some (.ref A_NoAnswer)))
    (s_NoAnswer : PySem.W.subIn K (.ref A_NoAnswer) (.type "BaseException") = some true)
    (y_NoAnswer : PySem.W.typeIn K (.ref A_NoAnswer) = some (.type "type"))
    (g_TooLarge : PySem.W.nsIn K mainGlobals "TooLarge" = some (some (.ref A_TooLarge)))
    (s_TooLarge : PySem.W.subIn K (.ref A_TooLarge) (.type "BaseException") = some true)
    (y_TooLarge : PySem.W.typeIn K (.ref A_TooLarge) = some (.type "type"))
    (g_QueueError : PySem.W.nsIn K mainGlobals "QueueError" = some (some (.ref A_QueueError)))
    (s_QueueError : PySem.W.subIn K (.ref A_QueueError) (.type "BaseException") = some true)
    (y_QueueError : PySem.W.typeIn K (.ref A_QueueError) = some (.type "type"))
    (e_NotNet : PySem.W.excIn K A_NotNet [.type "ValueError", .type "Exception", .type "BaseException", .type "object"] "ValueError.__new__" = true)
    (p_NotNet : PySem.W.keepIn K (.ref A_NotNet) = true)
    (e_TooLarge : PySem.W.excIn K A_TooLarge [.type "ValueError", .type "Exception", .type "BaseException", .type "object"] "ValueError.__new__" = true)
    (p_TooLarge : PySem.W.keepIn K (.ref A_TooLarge) = true)
    (q_h : PySem.W.hasDictIn K A_QueueError = true)
    (q_n : PySem.W.specialIn K (.builtin "object.__class__") "__get__" = some (some (.builtin "getset_descriptor.__get__")))
    (q_t : PySem.W.takesIn K (.builtin "object.__class__") = some true)
    (u_NotChain : PySem.W.subIn K (.ref A_NotChain) (.ref A_QueueError) = some true)
    (n1_NotChain : PySem.W.findIn K (.ref A_NotChain) "__getattribute__" = some (some (.builtin "BaseException.__getattribute__")))
    (n2_NotChain : PySem.W.findIn K (.ref A_NotChain) "__getattr__" = some none)
    (n3_NotChain : PySem.W.hasDictIn K A_NotChain = true)
    (n4_NotChain : PySem.W.findIn K (.ref A_NotChain) "__class__" = some (some (.builtin "object.__class__")))
    (n5_NotChain : PySem.W.mroIn K A_NotChain (.type "object") = some true)
    (kit_NotChain_NotChain : PySem.W.kitOne K (.ref A_NotChain) (.ref A_NotChain) = some true)
    (kit_NotChain_NotNet : PySem.W.kitOne K (.ref A_NotChain) (.ref A_NotNet) = some false)
    (kit_NotChain_NotTrace : PySem.W.kitOne K (.ref A_NotChain) (.ref A_NotTrace) = some false)
    (kit_NotChain_NotPaper : PySem.W.kitOne K (.ref A_NotChain) (.ref A_NotPaper) = some false)
    (kit_NotChain_BadNumber : PySem.W.kitOne K (.ref A_NotChain) (.ref A_BadNumber) = some false)
    (kit_NotChain_NoAnswer : PySem.W.kitOne K (.ref A_NotChain) (.ref A_NoAnswer) = some false)
    (kit_NotChain_TooLarge : PySem.W.kitOne K (.ref A_NotChain) (.ref A_TooLarge) = some false)
    (u_NotNet : PySem.W.subIn K (.ref A_NotNet) (.ref A_QueueError) = some true)
    (n1_NotNet : PySem.W.findIn K (.ref A_NotNet) "__getattribute__" = some (some (.builtin "BaseException.__getattribute__")))
    (n2_NotNet : PySem.W.findIn K (.ref A_NotNet) "__getattr__" = some none)
    (n3_NotNet : PySem.W.hasDictIn K A_NotNet = true)
    (n4_NotNet : PySem.W.findIn K (.ref A_NotNet) "__class__" = some (some (.builtin "object.__class__")))
    (n5_NotNet : PySem.W.mroIn K A_NotNet (.type "object") = some true)
    (kit_NotNet_NotChain : PySem.W.kitOne K (.ref A_NotNet) (.ref A_NotChain) = some false)
    (kit_NotNet_NotNet : PySem.W.kitOne K (.ref A_NotNet) (.ref A_NotNet) = some true)
    (kit_NotNet_NotTrace : PySem.W.kitOne K (.ref A_NotNet) (.ref A_NotTrace) = some false)
    (kit_NotNet_NotPaper : PySem.W.kitOne K (.ref A_NotNet) (.ref A_NotPaper) = some false)
    (kit_NotNet_BadNumber : PySem.W.kitOne K (.ref A_NotNet) (.ref A_BadNumber) = some false)
    (kit_NotNet_NoAnswer : PySem.W.kitOne K (.ref A_NotNet) (.ref A_NoAnswer) = some false)
    (kit_NotNet_TooLarge : PySem.W.kitOne K (.ref A_NotNet) (.ref A_TooLarge) = some false)
    (u_NotTrace : PySem.W.subIn K (.ref A_NotTrace) (.ref A_QueueError) = some true)
    (n1_NotTrace : PySem.W.findIn K (.ref A_NotTrace) "__getattribute__" = some (some (.builtin "BaseException.__getattribute__")))
    (n2_NotTrace : PySem.W.findIn K (.ref A_NotTrace) "__getattr__" = some none)
    (n3_NotTrace : PySem.W.hasDictIn K A_NotTrace = true)
    (n4_NotTrace : PySem.W.findIn K (.ref A_NotTrace) "__class__" = some (some (.builtin "object.__class__")))
    (n5_NotTrace : PySem.W.mroIn K A_NotTrace (.type "object") = some true)
    (kit_NotTrace_NotChain : PySem.W.kitOne K (.ref A_NotTrace) (.ref A_NotChain) = some false)
    (kit_NotTrace_NotNet : PySem.W.kitOne K (.ref A_NotTrace) (.ref A_NotNet) = some false)
    (kit_NotTrace_NotTrace : PySem.W.kitOne K (.ref A_NotTrace) (.ref A_NotTrace) = some true)
    (kit_NotTrace_NotPaper : PySem.W.kitOne K (.ref A_NotTrace) (.ref A_NotPaper) = some false)
    (kit_NotTrace_BadNumber : PySem.W.kitOne K (.ref A_NotTrace) (.ref A_BadNumber) = some false)
    (kit_NotTrace_NoAnswer : PySem.W.kitOne K (.ref A_NotTrace) (.ref A_NoAnswer) = some false)
    (kit_NotTrace_TooLarge : PySem.W.kitOne K (.ref A_NotTrace) (.ref A_TooLarge) = some false)
    (u_NotPaper : PySem.W.subIn K (.ref A_NotPaper) (.ref A_QueueError) = some true)
    (n1_NotPaper : PySem.W.findIn K (.ref A_NotPaper) "__getattribute__" = some (some (.builtin "BaseException.__getattribute__")))
    (n2_NotPaper : PySem.W.findIn K (.ref A_NotPaper) "__getattr__" = some none)
    (n3_NotPaper : PySem.W.hasDictIn K A_NotPaper = true)
    (n4_NotPaper : PySem.W.findIn K (.ref A_NotPaper) "__class__" = some (some (.builtin "object.__class__")))
    (n5_NotPaper : PySem.W.mroIn K A_NotPaper (.type "object") = some true)
    (kit_NotPaper_NotChain : PySem.W.kitOne K (.ref A_NotPaper) (.ref A_NotChain) = some false)
    (kit_NotPaper_NotNet : PySem.W.kitOne K (.ref A_NotPaper) (.ref A_NotNet) = some false)
    (kit_NotPaper_NotTrace : PySem.W.kitOne K (.ref A_NotPaper) (.ref A_NotTrace) = some false)
    (kit_NotPaper_NotPaper : PySem.W.kitOne K (.ref A_NotPaper) (.ref A_NotPaper) = some true)
    (kit_NotPaper_BadNumber : PySem.W.kitOne K (.ref A_NotPaper) (.ref A_BadNumber) = some false)
    (kit_NotPaper_NoAnswer : PySem.W.kitOne K (.ref A_NotPaper) (.ref A_NoAnswer) = some false)
    (kit_NotPaper_TooLarge : PySem.W.kitOne K (.ref A_NotPaper) (.ref A_TooLarge) = some false)
    (u_BadNumber : PySem.W.subIn K (.ref A_BadNumber) (.ref A_QueueError) = some true)
    (n1_BadNumber : PySem.W.findIn K (.ref A_BadNumber) "__getattribute__" = some (some (.builtin "BaseException.__getattribute__")))
    (n2_BadNumber : PySem.W.findIn K (.ref A_BadNumber) "__getattr__" = some none)
    (n3_BadNumber : PySem.W.hasDictIn K A_BadNumber = true)
    (n4_BadNumber : PySem.W.findIn K (.ref A_BadNumber) "__class__" = some (some (.builtin "object.__class__")))
    (n5_BadNumber : PySem.W.mroIn K A_BadNumber (.type "object") = some true)
    (kit_BadNumber_NotChain : PySem.W.kitOne K (.ref A_BadNumber) (.ref A_NotChain) = some false)
    (kit_BadNumber_NotNet : PySem.W.kitOne K (.ref A_BadNumber) (.ref A_NotNet) = some false)
    (kit_BadNumber_NotTrace : PySem.W.kitOne K (.ref A_BadNumber) (.ref A_NotTrace) = some false)
    (kit_BadNumber_NotPaper : PySem.W.kitOne K (.ref A_BadNumber) (.ref A_NotPaper) = some false)
    (kit_BadNumber_BadNumber : PySem.W.kitOne K (.ref A_BadNumber) (.ref A_BadNumber) = some true)
    (kit_BadNumber_NoAnswer : PySem.W.kitOne K (.ref A_BadNumber) (.ref A_NoAnswer) = some false)
    (kit_BadNumber_TooLarge : PySem.W.kitOne K (.ref A_BadNumber) (.ref A_TooLarge) = some false)
    (u_NoAnswer : PySem.W.subIn K (.ref A_NoAnswer) (.ref A_QueueError) = some true)
    (n1_NoAnswer : PySem.W.findIn K (.ref A_NoAnswer) "__getattribute__" = some (some (.builtin "BaseException.__getattribute__")))
    (n2_NoAnswer : PySem.W.findIn K (.ref A_NoAnswer) "__getattr__" = some none)
    (n3_NoAnswer : PySem.W.hasDictIn K A_NoAnswer = true)
    (n4_NoAnswer : PySem.W.findIn K (.ref A_NoAnswer) "__class__" = some (some (.builtin "object.__class__")))
    (n5_NoAnswer : PySem.W.mroIn K A_NoAnswer (.type "object") = some true)
    (kit_NoAnswer_NotChain : PySem.W.kitOne K (.ref A_NoAnswer) (.ref A_NotChain) = some false)
    (kit_NoAnswer_NotNet : PySem.W.kitOne K (.ref A_NoAnswer) (.ref A_NotNet) = some false)
    (kit_NoAnswer_NotTrace : PySem.W.kitOne K (.ref A_NoAnswer) (.ref A_NotTrace) = some false)
    (kit_NoAnswer_NotPaper : PySem.W.kitOne K (.ref A_NoAnswer) (.ref A_NotPaper) = some false)
    (kit_NoAnswer_BadNumber : PySem.W.kitOne K (.ref A_NoAnswer) (.ref A_BadNumber) = some false)
    (kit_NoAnswer_NoAnswer : PySem.W.kitOne K (.ref A_NoAnswer) (.ref A_NoAnswer) = some true)
    (kit_NoAnswer_TooLarge : PySem.W.kitOne K (.ref A_NoAnswer) (.ref A_TooLarge) = some false)
    (u_TooLarge : PySem.W.subIn K (.ref A_TooLarge) (.ref A_QueueError) = some true)
    (n1_TooLarge : PySem.W.findIn K (.ref A_TooLarge) "__getattribute__" = some (some (.builtin "BaseException.__getattribute__")))
    (n2_TooLarge : PySem.W.findIn K (.ref A_TooLarge) "__getattr__" = some none)
    (n3_TooLarge : PySem.W.hasDictIn K A_TooLarge = true)
    (n4_TooLarge : PySem.W.findIn K (.ref A_TooLarge) "__class__" = some (some (.builtin "object.__class__")))
    (n5_TooLarge : PySem.W.mroIn K A_TooLarge (.type "object") = some true)
    (kit_TooLarge_NotChain : PySem.W.kitOne K (.ref A_TooLarge) (.ref A_NotChain) = some false)
    (kit_TooLarge_NotNet : PySem.W.kitOne K (.ref A_TooLarge) (.ref A_NotNet) = some false)
    (kit_TooLarge_NotTrace : PySem.W.kitOne K (.ref A_TooLarge) (.ref A_NotTrace) = some false)
    (kit_TooLarge_NotPaper : PySem.W.kitOne K (.ref A_TooLarge) (.ref A_NotPaper) = some false)
    (kit_TooLarge_BadNumber : PySem.W.kitOne K (.ref A_TooLarge) (.ref A_BadNumber) = some false)
    (kit_TooLarge_NoAnswer : PySem.W.kitOne K (.ref A_TooLarge) (.ref A_NoAnswer) = some false)
    (kit_TooLarge_TooLarge : PySem.W.kitOne K (.ref A_TooLarge) (.ref A_TooLarge) = some true)
    : ∃ fd : FuncData, (∀ (s : Shared) (v : Value), BindsTo s fd ⟨[v], []⟩ [("script", v)]) ∧ ∀ base : Heap, K.In base → base.Ns mainGlobals mg → FnG l.prog w K mg base 8 fa fd ["script"] (spM K mg 1 F_law) := by
  have e := hfa.symm.trans (PySem.W.mg_of X G a_law)
  cases e
  have Fu_common := fun_mk (st := topS 10) l_common c_common k_common
  have m_common := PySem.W.mg_of X G a_common
  have b_common := Fu_common.binds (ps := ["one", "other"]) fun _ _ _ _ _ _ us hl => match us, hl with | [_, _], _ => rfl
  have Fu_least_terms := fun_mk (st := topS 11) l_least_terms c_least_terms k_least_terms
  have m_least_terms := PySem.W.mg_of X G a_least_terms
  have b_least_terms := Fu_least_terms.binds (ps := ["top", "low"]) fun _ _ _ _ _ _ us hl => match us, hl with | [_, _], _ => rfl
  have Fu_add := fun_mk (st := topS 12) l_add c_add k_add
  have m_add := PySem.W.mg_of X G a_add
  have b_add := Fu_add.binds (ps := ["one", "other"]) fun _ _ _ _ _ _ us hl => match us, hl with | [_, _], _ => rfl
  have Fu_total := fun_mk (st := topS 15) l_total c_total k_total
  have m_total := PySem.W.mg_of X G a_total
  have b_total := Fu_total.binds (ps := ["fractions"]) fun _ _ _ _ _ _ us hl => match us, hl with | [_], _ => rfl
  have Fu_fits := fun_mk (st := topS 27) l_fits c_fits k_fits
  have m_fits := PySem.W.mg_of X G a_fits
  have b_fits := Fu_fits.binds (ps := ["caps", "routes", "numbers"]) fun _ _ _ _ _ _ us hl => match us, hl with | [_, _, _], _ => rfl
  have Fu_is_fraction := fun_mk (st := topS 16) l_is_fraction c_is_fraction k_is_fraction
  have m_is_fraction := PySem.W.mg_of X G a_is_fraction
  have b_is_fraction := Fu_is_fraction.binds (ps := ["pair"]) fun _ _ _ _ _ _ us hl => match us, hl with | [_], _ => rfl
  have Fu_is_rate := fun_mk (st := topS 19) l_is_rate c_is_rate k_is_rate
  have m_is_rate := PySem.W.mg_of X G a_is_rate
  have b_is_rate := Fu_is_rate.binds (ps := ["pair"]) fun _ _ _ _ _ _ us hl => match us, hl with | [_], _ => rfl
  have Fu_are_links := fun_mk (st := topS 26) l_are_links c_are_links k_are_links
  have m_are_links := PySem.W.mg_of X G a_are_links
  have b_are_links := Fu_are_links.binds (ps := ["caps", "routes"]) fun _ _ _ _ _ _ us hl => match us, hl with | [_, _], _ => rfl
  have Fu_check_links := fun_mk (st := topS 29) l_check_links c_check_links k_check_links
  have m_check_links := PySem.W.mg_of X G a_check_links
  have b_check_links := Fu_check_links.binds (ps := ["caps", "routes"]) fun _ _ _ _ _ _ us hl => match us, hl with | [_, _], _ => rfl
  have Fu_by := fun_mk (st := topS 14) l_by c_by k_by
  have m_by := PySem.W.mg_of X G a_by
  have b_by := Fu_by.binds (ps := ["one", "other"]) fun _ _ _ _ _ _ us hl => match us, hl with | [_, _], _ => rfl
  have Fu_times := fun_mk (st := topS 13) l_times c_times k_times
  have m_times := PySem.W.mg_of X G a_times
  have b_times := Fu_times.binds (ps := ["one", "other"]) fun _ _ _ _ _ _ us hl => match us, hl with | [_, _], _ => rfl
  have Fu_weight_by := fun_mk (st := topS 25) l_weight_by c_weight_by k_weight_by
  have m_weight_by := PySem.W.mg_of X G a_weight_by
  have b_weight_by := Fu_weight_by.binds (ps := ["loads", "numbers"]) fun _ _ _ _ _ _ us hl => match us, hl with | [_, _], _ => rfl
  have Fu_link_states_of := fun_mk (st := topS 28) l_link_states_of c_link_states_of k_link_states_of
  have m_link_states_of := PySem.W.mg_of X G a_link_states_of
  have b_link_states_of := Fu_link_states_of.binds (ps := ["caps", "routes"]) fun _ _ _ _ _ _ us hl => match us, hl with | [_, _], _ => rfl
  have Fu_link_shares_of := fun_mk (st := topS 30) l_link_shares_of c_link_shares_of k_link_shares_of
  have m_link_shares_of := PySem.W.mg_of X G a_link_shares_of
  have b_link_shares_of := Fu_link_shares_of.binds (ps := ["caps", "routes"]) fun _ _ _ _ _ _ us hl => match us, hl with | [_, _], _ => rfl
  have Fu_link_losses := fun_mk (st := topS 32) l_link_losses c_link_losses k_link_losses
  have m_link_losses := PySem.W.mg_of X G a_link_losses
  have b_link_losses := Fu_link_losses.binds (ps := ["caps", "routes"]) fun _ _ _ _ _ _ us hl => match us, hl with | [_, _], _ => rfl
  have Fu__law_number := fun_mk (st := topS 34) l__law_number c__law_number k__law_number
  have m__law_number := PySem.W.mg_of X G a__law_number
  have b__law_number := Fu__law_number.binds (ps := ["cell"]) fun _ _ _ _ _ _ us hl => match us, hl with | [_], _ => rfl
  have Fu__law_draws := fun_mk (st := topS 35) l__law_draws c__law_draws k__law_draws
  have m__law_draws := PySem.W.mg_of X G a__law_draws
  have b__law_draws := Fu__law_draws.binds (ps := ["script"]) fun _ _ _ _ _ _ us hl => match us, hl with | [_], _ => rfl
  have Fu__law_next := fun_mk (st := topS 36) l__law_next c__law_next k__law_next
  have m__law_next := PySem.W.mg_of X G a__law_next
  have b__law_next := Fu__law_next.binds (ps := ["draws"]) fun _ _ _ _ _ _ us hl => match us, hl with | [_], _ => rfl
  have Fu__law_more := fun_mk (st := topS 37) l__law_more c__law_more k__law_more
  have m__law_more := PySem.W.mg_of X G a__law_more
  have b__law_more := Fu__law_more.binds (ps := ["draws", "many"]) fun _ _ _ _ _ _ us hl => match us, hl with | [_, _], _ => rfl
  have Fu__law_pick := fun_mk (st := topS 38) l__law_pick c__law_pick k__law_pick
  have m__law_pick := PySem.W.mg_of X G a__law_pick
  have b__law_pick := Fu__law_pick.binds (ps := ["draws", "some"]) fun _ _ _ _ _ _ us hl => match us, hl with | [_, _], _ => rfl
  have Fu__law_power := fun_mk (st := topS 40) l__law_power c__law_power k__law_power
  have m__law_power := PySem.W.mg_of X G a__law_power
  have b__law_power := Fu__law_power.binds (ps := ["at"]) fun _ _ _ _ _ _ us hl => match us, hl with | [_], _ => rfl
  have Fu__law_common := fun_mk (st := topS 42) l__law_common c__law_common k__law_common
  have m__law_common := PySem.W.mg_of X G a__law_common
  have b__law_common := Fu__law_common.binds (ps := ["one", "other"]) fun _ _ _ _ _ _ us hl => match us, hl with | [_, _], _ => rfl
  have Fu__law_lowest := fun_mk (st := topS 43) l__law_lowest c__law_lowest k__law_lowest
  have m__law_lowest := PySem.W.mg_of X G a__law_lowest
  have b__law_lowest := Fu__law_lowest.binds (ps := ["top", "low"]) fun _ _ _ _ _ _ us hl => match us, hl with | [_, _], _ => rfl
  have Fu__law_add := fun_mk (st := topS 44) l__law_add c__law_add k__law_add
  have m__law_add := PySem.W.mg_of X G a__law_add
  have b__law_add := Fu__law_add.binds (ps := ["one", "other"]) fun _ _ _ _ _ _ us hl => match us, hl with | [_, _], _ => rfl
  have Fu__law_times := fun_mk (st := topS 45) l__law_times c__law_times k__law_times
  have m__law_times := PySem.W.mg_of X G a__law_times
  have b__law_times := Fu__law_times.binds (ps := ["one", "other"]) fun _ _ _ _ _ _ us hl => match us, hl with | [_, _], _ => rfl
  have Fu__law_by := fun_mk (st := topS 46) l__law_by c__law_by k__law_by
  have m__law_by := PySem.W.mg_of X G a__law_by
  have b__law_by := Fu__law_by.binds (ps := ["one", "other"]) fun _ _ _ _ _ _ us hl => match us, hl with | [_, _], _ => rfl
  have Fu__law_total := fun_mk (st := topS 47) l__law_total c__law_total k__law_total
  have m__law_total := PySem.W.mg_of X G a__law_total
  have b__law_total := Fu__law_total.binds (ps := ["told"]) fun _ _ _ _ _ _ us hl => match us, hl with | [_], _ => rfl
  have Fu__law_rate := fun_mk (st := topS 48) l__law_rate c__law_rate k__law_rate
  have m__law_rate := PySem.W.mg_of X G a__law_rate
  have b__law_rate := Fu__law_rate.binds (ps := ["draws", "most"]) fun _ _ _ _ _ _ us hl => match us, hl with | [_, _], _ => rfl
  have Fu__law_on := fun_mk (st := topS 41) l__law_on c__law_on k__law_on
  have m__law_on := PySem.W.mg_of X G a__law_on
  have b__law_on := Fu__law_on.binds (ps := ["some", "at"]) fun _ _ _ _ _ _ us hl => match us, hl with | [_, _], _ => rfl
  have Fu__law_fits := fun_mk (st := topS 49) l__law_fits c__law_fits k__law_fits
  have m__law_fits := PySem.W.mg_of X G a__law_fits
  have b__law_fits := Fu__law_fits.binds (ps := ["caps", "routes", "state"]) fun _ _ _ _ _ _ us hl => match us, hl with | [_, _, _], _ => rfl
  have Fu__law_states := fun_mk (st := topS 50) l__law_states c__law_states k__law_states
  have m__law_states := PySem.W.mg_of X G a__law_states
  have b__law_states := Fu__law_states.binds (ps := ["caps", "routes"]) fun _ _ _ _ _ _ us hl => match us, hl with | [_, _], _ => rfl
  have Fu_link_shares := fun_mk (st := topS 31) l_link_shares c_link_shares k_link_shares
  have m_link_shares := PySem.W.mg_of X G a_link_shares
  have b_link_shares := Fu_link_shares.binds (ps := ["caps", "routes"]) fun _ _ _ _ _ _ us hl => match us, hl with | [_, _], _ => rfl
  have Fu__law_kind := fun_mk (st := topS 39) l__law_kind c__law_kind k__law_kind
  have m__law_kind := PySem.W.mg_of X G a__law_kind
  have b__law_kind := Fu__law_kind.binds (ps := ["error"]) fun _ _ _ _ _ _ us hl => match us, hl with | [_], _ => rfl
  have Fu__law_asked := fun_mk (st := topS 51) l__law_asked c__law_asked k__law_asked
  have m__law_asked := PySem.W.mg_of X G a__law_asked
  have b__law_asked := Fu__law_asked.binds (ps := ["way", "caps", "routes"]) fun _ _ _ _ _ _ us hl => match us, hl with | [_, _, _], _ => rfl
  have Fu_law := fun_mk (st := topS 52) l_law c_law k_law
  have m_law := PySem.W.mg_of X G a_law
  have b_law := Fu_law.binds (ps := ["script"]) fun _ _ _ _ _ _ us hl => match us, hl with | [_], _ => rfl
  have ca : CatchOk K mg "QueueError" kindF := catch_mk X G g_NotChain g_NotNet g_NotTrace g_NotPaper g_BadNumber g_NoAnswer g_TooLarge g_QueueError s_QueueError y_QueueError q_h u_NotChain u_NotNet u_NotTrace u_NotPaper u_BadNumber u_NoAnswer u_TooLarge
  have T : KindT K mg := kindt_mk X G g_NotChain g_NotNet g_NotTrace g_NotPaper g_BadNumber g_NoAnswer g_TooLarge q_n q_t s_NotChain n1_NotChain n2_NotChain n3_NotChain n4_NotChain n5_NotChain kit_NotChain_NotChain kit_NotChain_NotNet kit_NotChain_NotTrace kit_NotChain_NotPaper kit_NotChain_BadNumber kit_NotChain_NoAnswer kit_NotChain_TooLarge s_NotNet n1_NotNet n2_NotNet n3_NotNet n4_NotNet n5_NotNet kit_NotNet_NotChain kit_NotNet_NotNet kit_NotNet_NotTrace kit_NotNet_NotPaper kit_NotNet_BadNumber kit_NotNet_NoAnswer kit_NotNet_TooLarge s_NotTrace n1_NotTrace n2_NotTrace n3_NotTrace n4_NotTrace n5_NotTrace kit_NotTrace_NotChain kit_NotTrace_NotNet kit_NotTrace_NotTrace kit_NotTrace_NotPaper kit_NotTrace_BadNumber kit_NotTrace_NoAnswer kit_NotTrace_TooLarge s_NotPaper n1_NotPaper n2_NotPaper n3_NotPaper n4_NotPaper n5_NotPaper kit_NotPaper_NotChain kit_NotPaper_NotNet kit_NotPaper_NotTrace kit_NotPaper_NotPaper kit_NotPaper_BadNumber kit_NotPaper_NoAnswer kit_NotPaper_TooLarge s_BadNumber n1_BadNumber n2_BadNumber n3_BadNumber n4_BadNumber n5_BadNumber kit_BadNumber_NotChain kit_BadNumber_NotNet kit_BadNumber_NotTrace kit_BadNumber_NotPaper kit_BadNumber_BadNumber kit_BadNumber_NoAnswer kit_BadNumber_TooLarge s_NoAnswer n1_NoAnswer n2_NoAnswer n3_NoAnswer n4_NoAnswer n5_NoAnswer kit_NoAnswer_NotChain kit_NoAnswer_NotNet kit_NoAnswer_NotTrace kit_NoAnswer_NotPaper kit_NoAnswer_BadNumber kit_NoAnswer_NoAnswer kit_NoAnswer_TooLarge s_TooLarge n1_TooLarge n2_TooLarge n3_TooLarge n4_TooLarge n5_TooLarge kit_TooLarge_NotChain kit_TooLarge_NotNet kit_TooLarge_NotTrace kit_TooLarge_NotPaper kit_TooLarge_BadNumber kit_TooLarge_NoAnswer kit_TooLarge_TooLarge
  have M : MG K mg := { b_abs := PySem.W.mg_none_of X G z_abs, b_all := PySem.W.mg_none_of X G z_all, b_enumerate := PySem.W.mg_none_of X G z_enumerate, b_int := PySem.W.mg_none_of X G z_int, b_isinstance := PySem.W.mg_none_of X G z_isinstance, b_len := PySem.W.mg_none_of X G z_len, b_max := PySem.W.mg_none_of X G z_max, b_range := PySem.W.mg_none_of X G z_range, b_repr := PySem.W.mg_none_of X G z_repr, b_sorted := PySem.W.mg_none_of X G z_sorted, b_sum := PySem.W.mg_none_of X G z_sum, b_tuple := PySem.W.mg_none_of X G z_tuple, b_zip := PySem.W.mg_none_of X G z_zip, v_MOST_KINDS := ⟨_, PySem.W.mg_of X G v_MOST_KINDS⟩, v_MOST_LINKS := ⟨_, PySem.W.mg_of X G v_MOST_LINKS⟩, v_MOST_ON_LINK := ⟨_, PySem.W.mg_of X G v_MOST_ON_LINK⟩, v_MOST_RATE := ⟨_, PySem.W.mg_of X G v_MOST_RATE⟩, v_MOST_STATES := ⟨_, PySem.W.mg_of X G v_MOST_STATES⟩, x_NotNet := ⟨A_NotNet, PySem.W.mg_of X G g_NotNet, e_NotNet, p_NotNet, s_NotNet, y_NotNet⟩, x_TooLarge := ⟨A_TooLarge, PySem.W.mg_of X G g_TooLarge, e_TooLarge, p_TooLarge, s_TooLarge, y_TooLarge⟩, d_common := ⟨_, m_common⟩, d_least_terms := ⟨_, m_least_terms⟩, d_add := ⟨_, m_add⟩, d_total := ⟨_, m_total⟩, d_fits := ⟨_, m_fits⟩, d_is_fraction := ⟨_, m_is_fraction⟩, d_is_rate := ⟨_, m_is_rate⟩, d_are_links := ⟨_, m_are_links⟩, d_check_links := ⟨_, m_check_links⟩, d_by := ⟨_, m_by⟩, d_times := ⟨_, m_times⟩, d_weight_by := ⟨_, m_weight_by⟩, d_link_states_of := ⟨_, m_link_states_of⟩, d_link_shares_of := ⟨_, m_link_shares_of⟩, d_link_losses := ⟨_, m_link_losses⟩, d__law_number := ⟨_, m__law_number⟩, d__law_draws := ⟨_, m__law_draws⟩, d__law_next := ⟨_, m__law_next⟩, d__law_more := ⟨_, m__law_more⟩, d__law_pick := ⟨_, m__law_pick⟩, d__law_power := ⟨_, m__law_power⟩, d__law_common := ⟨_, m__law_common⟩, d__law_lowest := ⟨_, m__law_lowest⟩, d__law_add := ⟨_, m__law_add⟩, d__law_times := ⟨_, m__law_times⟩, d__law_by := ⟨_, m__law_by⟩, d__law_total := ⟨_, m__law_total⟩, d__law_rate := ⟨_, m__law_rate⟩, d__law_on := ⟨_, m__law_on⟩, d__law_fits := ⟨_, m__law_fits⟩, d__law_states := ⟨_, m__law_states⟩, d_link_shares := ⟨_, m_link_shares⟩, d__law_kind := ⟨_, m__law_kind⟩, d__law_asked := ⟨_, m__law_asked⟩, d_law := ⟨_, m_law⟩, catch_ := ca }
  refine ⟨PySem.W.fnOf "law" "law" (defArgs (topS 52)) (defBody (topS 52)) (defScope (topS 52)) .none kV_law dc_law pm_law an_law cd_law ct_law, fun s v => .of_eq rfl, fun base _ _ => ?_⟩
  have C_common : CalG l.prog w K mg base 1 "common" 2 F_common := cal_mk (ok_common Fu_common M ) Fu_common m_common b_common rfl
  have C_least_terms : CalG l.prog w K mg base 2 "least_terms" 2 F_least_terms := cal_mk (ok_least_terms Fu_least_terms M C_common) Fu_least_terms m_least_terms b_least_terms rfl
  have C_add : CalG l.prog w K mg base 3 "add" 2 F_add := cal_mk (ok_add Fu_add M C_least_terms) Fu_add m_add b_add rfl
  have C_total : CalG l.prog w K mg base 4 "total" 1 F_total := cal_mk (ok_total Fu_total M C_add) Fu_total m_total b_total rfl
  have C_fits : CalG l.prog w K mg base 1 "fits" 3 F_fits := cal_mk (ok_fits Fu_fits M ) Fu_fits m_fits b_fits rfl
  have C_is_fraction : CalG l.prog w K mg base 2 "is_fraction" 1 F_is_fraction := cal_mk (ok_is_fraction Fu_is_fraction M C_common) Fu_is_fraction m_is_fraction b_is_fraction rfl
  have C_is_rate : CalG l.prog w K mg base 3 "is_rate" 1 F_is_rate := cal_mk (ok_is_rate Fu_is_rate M C_is_fraction) Fu_is_rate m_is_rate b_is_rate rfl
  have C_are_links : CalG l.prog w K mg base 4 "are_links" 2 F_are_links := cal_mk (ok_are_links Fu_are_links M C_is_rate) Fu_are_links m_are_links b_are_links rfl
  have C_check_links : CalG l.prog w K mg base 5 "check_links" 2 F_check_links := cal_mk (ok_check_links Fu_check_links M C_are_links) Fu_check_links m_check_links b_check_links rfl
  have C_by : CalG l.prog w K mg base 3 "by" 2 F_by := cal_mk (ok_by Fu_by M C_least_terms) Fu_by m_by b_by rfl
  have C_times : CalG l.prog w K mg base 3 "times" 2 F_times := cal_mk (ok_times Fu_times M C_least_terms) Fu_times m_times b_times rfl
  have C_weight_by : CalG l.prog w K mg base 4 "weight_by" 2 F_weight_by := cal_mk (ok_weight_by Fu_weight_by M C_times C_by) Fu_weight_by m_weight_by b_weight_by rfl
  have C_link_states_of : CalG l.prog w K mg base 2 "link_states_of" 2 F_link_states_of := cal_mk (ok_link_states_of Fu_link_states_of M C_fits) Fu_link_states_of m_link_states_of b_link_states_of rfl
  have C_link_shares_of : CalG l.prog w K mg base 5 "link_shares_of" 2 F_link_shares_of := cal_mk (ok_link_shares_of Fu_link_shares_of M C_by C_total C_weight_by C_link_states_of) Fu_link_shares_of m_link_shares_of b_link_shares_of rfl
  have C_link_losses : CalG l.prog w K mg base 6 "link_losses" 2 F_link_losses := cal_mk (ok_link_losses Fu_link_losses M C_total C_fits C_check_links C_link_shares_of) Fu_link_losses m_link_losses b_link_losses rfl
  have C__law_number : CalG l.prog w K mg base 1 "_law_number" 1 F__law_number := cal_mk (ok__law_number Fu__law_number M ) Fu__law_number m__law_number b__law_number rfl
  have C__law_draws : CalG l.prog w K mg base 2 "_law_draws" 1 F__law_draws := cal_mk (ok__law_draws Fu__law_draws M C__law_number) Fu__law_draws m__law_draws b__law_draws rfl
  have C__law_next : CalG l.prog w K mg base 1 "_law_next" 1 F__law_next := cal_mk (ok__law_next Fu__law_next M ) Fu__law_next m__law_next b__law_next rfl
  have C__law_more : CalG l.prog w K mg base 2 "_law_more" 2 F__law_more := cal_mk (ok__law_more Fu__law_more M C__law_next) Fu__law_more m__law_more b__law_more rfl
  have C__law_pick : CalG l.prog w K mg base 2 "_law_pick" 2 F__law_pick := cal_mk (ok__law_pick Fu__law_pick M C__law_next) Fu__law_pick m__law_pick b__law_pick rfl
  have C__law_power : CalG l.prog w K mg base 1 "_law_power" 1 F__law_power := cal_mk (ok__law_power Fu__law_power M ) Fu__law_power m__law_power b__law_power rfl
  have C__law_common : CalG l.prog w K mg base 1 "_law_common" 2 F__law_common := cal_mk (ok__law_common Fu__law_common M ) Fu__law_common m__law_common b__law_common rfl
  have C__law_lowest : CalG l.prog w K mg base 2 "_law_lowest" 2 F__law_lowest := cal_mk (ok__law_lowest Fu__law_lowest M C__law_common) Fu__law_lowest m__law_lowest b__law_lowest rfl
  have C__law_add : CalG l.prog w K mg base 3 "_law_add" 2 F__law_add := cal_mk (ok__law_add Fu__law_add M C__law_lowest) Fu__law_add m__law_add b__law_add rfl
  have C__law_times : CalG l.prog w K mg base 3 "_law_times" 2 F__law_times := cal_mk (ok__law_times Fu__law_times M C__law_lowest) Fu__law_times m__law_times b__law_times rfl
  have C__law_by : CalG l.prog w K mg base 3 "_law_by" 2 F__law_by := cal_mk (ok__law_by Fu__law_by M C__law_lowest) Fu__law_by m__law_by b__law_by rfl
  have C__law_total : CalG l.prog w K mg base 4 "_law_total" 1 F__law_total := cal_mk (ok__law_total Fu__law_total M C__law_add) Fu__law_total m__law_total b__law_total rfl
  have C__law_rate : CalG l.prog w K mg base 3 "_law_rate" 2 F__law_rate := cal_mk (ok__law_rate Fu__law_rate M C__law_next C__law_lowest) Fu__law_rate m__law_rate b__law_rate rfl
  have C__law_on : CalG l.prog w K mg base 2 "_law_on" 2 F__law_on := cal_mk (ok__law_on Fu__law_on M C__law_power) Fu__law_on m__law_on b__law_on rfl
  have C__law_fits : CalG l.prog w K mg base 3 "_law_fits" 3 F__law_fits := cal_mk (ok__law_fits Fu__law_fits M C__law_on) Fu__law_fits m__law_fits b__law_fits rfl
  have C__law_states : CalG l.prog w K mg base 4 "_law_states" 2 F__law_states := cal_mk (ok__law_states Fu__law_states M C__law_fits) Fu__law_states m__law_states b__law_states rfl
  have C_link_shares : CalG l.prog w K mg base 6 "link_shares" 2 F_link_shares := cal_mk (ok_link_shares Fu_link_shares M C_check_links C_link_shares_of) Fu_link_shares m_link_shares b_link_shares rfl
  have C__law_kind : KindOk l.prog w K mg base 2 "_law_kind" kindF := ok__law_kind Fu__law_kind b__law_kind m__law_kind M T
  have C__law_asked : CalG l.prog w K mg base 7 "_law_asked" 3 F__law_asked := cal_mk (ok__law_asked Fu__law_asked M C_link_shares C_link_losses C__law_kind) Fu__law_asked m__law_asked b__law_asked rfl
  exact ok_law Fu_law M C_link_losses C__law_draws C__law_next C__law_more C__law_pick C__law_power C__law_add C__law_times C__law_by C__law_total C__law_rate C__law_states C__law_asked
end
end Law
set_option exponentiation.threshold 5000
namespace Law
open PySem PySem.Spec PyProof.Rows L2 Den
/-- the draws that are left lie at n -/
def Dr (b n : Nat) (m : Mem) : Prop := ∃ ds : List Int, m[n]? = some (some (.list (ds.map .int))) ∧ (∀ d ∈ ds, 0 ≤ d ∧ d < 1000) ∧ ds.length ≤ b
theorem Dr.lt {b n : Nat} {m : Mem} (h : Dr b n m) : n < m.length := by
  obtain ⟨ds, h1, _⟩ := h
  exact (List.getElem?_eq_some_iff.mp h1).1
theorem next_ok {b n : Nat} {m : Mem} (h : Dr b n m) : ∃ (v : Int) (m' : Mem), F__law_next [.r n] m = .ok (.d (.int v)) m' ∧ 0 ≤ v ∧ v < 1000 ∧ Dr b n m' ∧ m'.length = m.length ∧ ∀ k, k ≠ n → m'[k]? = m[k]? := by
  obtain ⟨ds, h1, h2, h3⟩ := h
  obtain ⟨hn, _⟩ := List.getElem?_eq_some_iff.mp h1
  by_cases hd : ds = []
  · subst hd
    refine ⟨0, m, ?_, by omega, by omega, ⟨[], h1, h2, h3⟩, rfl, fun _ _ => rfl⟩
    simp [F__law_next, runF, m__law_next, startE, h1, fin]
  · obtain ⟨es, e, rfl⟩ : ∃ es e, ds = es ++ [e] := ⟨ds.dropLast, ds.getLast hd, (List.dropLast_concat_getLast hd).symm⟩
    have he := h2 e (by simp)
    refine ⟨e, m.set n (some (.list (es.map .int))), ?_, he.1, he.2, ⟨es, by rw [List.getElem?_set_self hn], fun d hd => h2 d (by simp [hd]), by simp at h3; omega⟩, by simp, fun k hk => List.getElem?_set_ne (Ne.symm hk)⟩
    have tk : (m.set n (some (.list (es.map .int)))).take m.length = m.set n (some (.list (es.map .int))) := List.take_of_length_le (by simp)
    simp [F__law_next, runF, m__law_next, startE, h1, fin, tk]
theorem number_ok {c : Int} {m : Mem} : F__law_number [.d (.int c)] m = .ok (.d (.int (c.natAbs : Int))) m := by
  by_cases h : c < 0
  · simp [F__law_number, runF, m__law_number, startE, fin, h]; omega
  · simp [F__law_number, runF, m__law_number, startE, fin, h]; omega
theorem pick_ok {b n : Nat} {m : Mem} {some_ : List D} (h : Dr b n m) (h0 : some_ ≠ []) : ∃ (x : D) (m' : Mem), F__law_pick [.r n, .d (.list some_)] m = .ok (.d x) m' ∧ x ∈ some_ ∧ Dr b n m' ∧ m'.length = m.length := by
  obtain ⟨v, m', e, v0, v1, d, l, _⟩ := next_ok h
  have hp : 0 < (some_.length : Int) := by
    cases some_ with
    | nil => exact absurd rfl h0
    | cons a r => rw [List.length_cons]; omega
  have r0 := Int.emod_nonneg v (Int.ne_of_gt hp)
  have r1 := Int.emod_lt_of_pos v hp
  have hi : (v % (some_.length : Int)).toNat < some_.length := by omega
  have ha : atI some_ (v % (some_.length : Int)) = some some_[(v % (some_.length : Int)).toNat] := by
    unfold atI ixN
    rw [if_pos r0, if_pos r1]
    exact List.getElem?_eq_getElem hi
  refine ⟨some_[(v % (some_.length : Int)).toNat], m', ?_, List.getElem_mem hi, d, l⟩
  have tk : m'.take m.length = m' := List.take_of_length_le (by omega)
  simp [F__law_pick, runF, m__law_pick, startE, fin, e, mod_pos hp, ha, tk]
theorem set_last (m : Mem) (x y : Option D) : (m ++ [x]).set m.length y = m ++ [y] := by
  rw [List.set_append_right _ _ (Nat.le_refl _), Nat.sub_self]; rfl
theorem get_last (m : Mem) (x : Option D) : (m ++ [x])[m.length]? = some x := by
  rw [List.getElem?_append_right (Nat.le_refl _), Nat.sub_self]; rfl
theorem more_ok {b n : Nat} {m : Mem} {k : Int} (h : Dr b n m) (hb : b ≤ 10000) (k0 : 0 ≤ k) (k1 : k ≤ 1000) : ∃ (es : List Int) (m' : Mem), F__law_more [.r n, .d (.int k)] m = .ok (.n (.list (es.map .int))) m' ∧ (∀ d ∈ es, 0 ≤ d ∧ d < 1000) ∧ es.length ≤ b + k.toNat ∧ m'.length = m.length := by
  obtain ⟨v1, m1, e1, a1, b1, d1, l1, _⟩ := next_ok h
  obtain ⟨v2, m2, e2, a2, b2, d2, l2, _⟩ := next_ok d1
  have hm : mulD (.int 1000) (.int v1) = some (.d (.int (1000 * v1))) := mul_small (by decide) (by omega)
  have hr : ∀ rho : Den.Env, rho[1]? = some (some (.d (.int k))) → ∀ m : Mem, mRange1 (mVar 1) rho m = .ok (rangeD 0 k) m := fun rho hrho m => range1_ok (by rw [e_Var, hrho]) k0 (by omega)
  have hn2 := d2.lt
  obtain ⟨r, m', f1, es, f2, f3, f4, f5, seed, f6⟩ := for_inv (g := gN 4) (c := sSeq (sSet 2 (mMod (mB (mCons (mAdd (mMul (mVar 2) (mC (.int 48271))) (mC (.int 12345))) (mNil)) (fD1 intD)) (mC (.int 2147483647)))) (sSeq (sDrop (mM .lst (mVar 3) (mCons (mMod (mB (mCons (mFdiv (mVar 2) (mC (.int 7))) (mNil)) (fD1 intD)) (mC (.int 1000))) (mNil)) fAppend)) (sSkip)))
    (rho := [some (.r n), some (.d (.int k)), some (.d (.int (1000 * v1 + v2 + 1))), some (.r m2.length), none]) (m := m2 ++ [some (.list [])]) (rangeD 0 k)
    (fun i rho m => ∃ es : List Int, m = m2 ++ [some (.list (es.map .int))] ∧ (∀ d ∈ es, 0 ≤ d ∧ d < 1000) ∧ es.length ≤ i ∧ rho.length = 5 ∧ ∃ seed : Int, (rho[0]? = some (some (.r n)) ∧ rho[1]? = some (some (.d (.int k))) ∧ rho[2]? = some (some (.d (.int seed))) ∧ rho[3]? = some (some (.r m2.length))) ∧ 0 ≤ seed ∧ seed < 2 ^ 40)
    (by refine ⟨[], rfl, by simp, Nat.le_refl _, rfl, 1000 * v1 + v2 + 1, ⟨rfl, rfl, rfl, rfl⟩, by omega, by omega⟩) (fun i hi rho m hI => by
      obtain ⟨es, rfl, q2, q3, q4, seed, ⟨z0, z1, z2, z3⟩, q6, q7⟩ := hI
      refine ⟨_, _, rfl, ?_⟩
      rw [range_len] at hi
      match rho, q4, z0, z1, z2, z3 with
      | [w0, w1, w2, w3, w4], _, z0, z1, z2, z3 =>
        simp only [List.getElem?_cons_zero, List.getElem?_cons_succ, Option.some.injEq] at z0 z1 z2 z3
        subst z0 z1 z2 z3
        have hm2 : mulD (.int seed) (.int 48271) = some (.d (.int (seed * 48271))) := mul_small (by omega) (by decide)
        have hs : small (es.length + 1) = true := small_le (by omega)
        refine ⟨[some (.r n), some (.d (.int k)), some (.d (.int ((seed * 48271 + 12345) % 2147483647))), some (.r m2.length), some (.d (rangeD 0 k)[i])], m2 ++ [some (.list ((es ++ [(seed * 48271 + 12345) % 2147483647 / 7 % 1000]).map .int))], ?_, es ++ [(seed * 48271 + 12345) % 2147483647 / 7 % 1000], rfl, ?_, ?_, ?_, (seed * 48271 + 12345) % 2147483647, ⟨rfl, rfl, rfl, rfl⟩, ?_, ?_⟩
        · simp [hm2, hs, set_last, get_last]
        · intro d hd
          rcases List.mem_append.mp hd with hd | hd
          · exact q2 d hd
          · rw [List.mem_singleton] at hd; omega
        · rw [List.length_append]; simp; omega
        · rfl
        · omega
        · omega)
  obtain ⟨ds, g1, g2, g3⟩ := d2
  subst f2
  match r, f5, f6 with
  | [w0, w1, w2, w3, w4], _, ⟨⟨z0, z1, z2, z3⟩, f7, f8⟩ =>
    simp only [List.getElem?_cons_zero, List.getElem?_cons_succ, Option.some.injEq] at z0 z1 z2 z3
    subst z0 z1 z2 z3
    have g1' : (m2 ++ [some (.list (es.map .int))])[n]? = some (some (.list (ds.map .int))) := by rw [List.getElem?_append_left hn2]; exact g1
    rw [range_len] at f4
    have hs : small (es.length + ds.length) = true := small_le (by omega)
    refine ⟨es ++ ds, m2, ?_, ?_, ?_, by omega⟩
    · have tk : (m2 ++ [some (PyData.list (es.map .int))] : Mem).take m.length = m2 := by
        rw [List.take_append_of_le_length (by omega), List.take_of_length_le (by omega)]
      unfold F__law_more runF m__law_more startE
      simp [e1, e2, hm, hr, f1, g1', get_last, hs, fin, tk]
    · intro d hd
      rcases List.mem_append.mp hd with hd | hd
      · exact f3 d hd
      · exact g2 d hd
    · rw [List.length_append]; omega
theorem draws_in (x0 x2 x4 x5 x6 : Option W) (rest : Int) (ds : List Int) (h0 : 0 ≤ rest) (hd : ∀ d ∈ ds, 0 ≤ d ∧ d < 1000) (hlen : ds.length ≤ 3720) : ∃ (rho' : Den.Env) (m' : Mem), forL (gN 4) (sSeq (sIf (mBool (mOp2 (mVar 3) (mC (.int 0)) (lift2 eqD))) (sSeq (sBreak) (sSkip)) (sSkip)) (sSeq (sDrop (mM .lst (mVar 1) (mCons (mMod (mB (mCons (mVar 3) (mNil)) (fD1 intD)) (mC (.int 1000))) (mNil)) fAppend)) (sSeq (sSet 3 (mFdiv (mVar 3) (mC (.int 1000)))) (sSkip)))) (rangeD 0 60)
      [x0, some (.r 0), x2, some (.d (.int rest)), x4, x5, x6] [some (.list (ds.map .int))] = .nx rho' m' ∧ ∃ (es : List Int) (y2 y3 y4 y5 y6 : Option W), rho' = [x0, some (.r 0), y2, y3, y4, y5, y6] ∧ m' = [some (.list (es.map .int))] ∧ (∀ d ∈ es, 0 ≤ d ∧ d < 1000) ∧ es.length ≤ ds.length + 60 := by
  obtain ⟨r, m', e, hI⟩ := forL_inv (g := gN 4) (c := sSeq (sIf (mBool (mOp2 (mVar 3) (mC (.int 0)) (lift2 eqD))) (sSeq (sBreak) (sSkip)) (sSkip)) (sSeq (sDrop (mM .lst (mVar 1) (mCons (mMod (mB (mCons (mVar 3) (mNil)) (fD1 intD)) (mC (.int 1000))) (mNil)) fAppend)) (sSeq (sSet 3 (mFdiv (mVar 3) (mC (.int 1000)))) (sSkip))))
    (fun i rho m => ∃ (rest : Int) (es : List Int) (y4 : Option W), rho = [x0, some (.r 0), x2, some (.d (.int rest)), y4, x5, x6] ∧ 0 ≤ rest ∧ m = [some (.list (es.map .int))] ∧ (∀ d ∈ es, 0 ≤ d ∧ d < 1000) ∧ es.length ≤ ds.length + i)
    (fun rho m => ∃ (es : List Int) (y2 y3 y4 y5 y6 : Option W), rho = [x0, some (.r 0), y2, y3, y4, y5, y6] ∧ m = [some (.list (es.map .int))] ∧ (∀ d ∈ es, 0 ≤ d ∧ d < 1000) ∧ es.length ≤ ds.length + 60)
    (rangeD 0 60) 0 [x0, some (.r 0), x2, some (.d (.int rest)), x4, x5, x6] [some (.list (ds.map .int))] ⟨rest, ds, x4, rfl, h0, rfl, hd, Nat.le_refl _⟩ (fun i hi rho m hI => by
      obtain ⟨rest, es, y4, rfl, q1, rfl, q2, q3⟩ := hI
      have hi2 : i < 60 := by simpa using hi
      refine ⟨_, _, rfl, ?_⟩
      generalize (rangeD 0 60)[i] = xi
      by_cases hz : rest = 0
      · refine .inr (.inr ⟨[x0, some (.r 0), x2, some (.d (.int rest)), some (.d xi), x5, x6], [some (.list (es.map .int))], ?_, es, x2, some (.d (.int rest)), some (.d xi), x5, x6, rfl, rfl, q2, by omega⟩)
        simp [hz]
      · refine .inl ⟨[x0, some (.r 0), x2, some (.d (.int (rest / 1000))), some (.d xi), x5, x6], [some (.list ((es ++ [rest % 1000]).map .int))], ?_, rest / 1000, es ++ [rest % 1000], _, rfl, by omega, rfl, ?_, by rw [List.length_append]; simp; omega⟩
        · have hs : small (es.length + 1) = true := small_le (by omega)
          simp [hz, hs]
        · intro d hd
          rcases List.mem_append.mp hd with hd | hd
          · exact q2 d hd
          · rw [List.mem_singleton] at hd; omega)
  rcases hI with ⟨rest', es, y4, rfl, _, rfl, q2, q3⟩ | hJ
  · rw [range_len] at q3
    exact ⟨_, _, e, es, x2, _, y4, x5, x6, rfl, rfl, q2, by omega⟩
  · exact ⟨_, _, e, hJ⟩
theorem draws_ok (ns : List Int) (hl : ns.length ≤ 63) : ∃ es : List Int, F__law_draws [.s (ns.map .int)] [] = .ok (.n (.list (es.map .int))) [] ∧ (∀ d ∈ es, 0 ≤ d ∧ d < 1000) ∧ es.length ≤ 3780 := by
  have hr : ∀ rho m, mRange1 (mC (.int 60)) rho m = .ok (rangeD 0 60) m := fun rho m => range1_ok rfl (by decide) (by decide)
  obtain ⟨r, m', e, es, y2, y3, y4, y5, y6, rfl, rfl, q2, q3⟩ := for_inv (g := gN 2) (c := sSeq (sSet 3 (mCall 1 F__law_number (mCons (mVar 2) (mNil)))) (sSeq (sIf (mBool (mOp2 (mVar 3) (mC (.int 1000000000000000000)) (lift2 geD))) (sSeq (sFor (mRange1 (mC (.int 60))) (gN 4) (sSeq (sIf (mBool (mOp2 (mVar 3) (mC (.int 0)) (lift2 eqD))) (sSeq (sBreak) (sSkip)) (sSkip)) (sSeq (sDrop (mM .lst (mVar 1) (mCons (mMod (mB (mCons (mVar 3) (mNil)) (fD1 intD)) (mC (.int 1000))) (mNil)) fAppend)) (sSeq (sSet 3 (mFdiv (mVar 3) (mC (.int 1000)))) (sSkip))))) (sSkip)) (sSeq (sSet 5 (mMod (mB (mCons (mAdd (mMul (mVar 3) (mC (.int 48271))) (mC (.int 11))) (mNil)) (fD1 intD)) (mC (.int 2147483647)))) (sSeq (sSet 6 (mMod (mB (mCons (mAdd (mMul (mVar 5) (mC (.int 69621))) (mVar 3)) (mNil)) (fD1 intD)) (mC (.int 2147483629)))) (sSeq (sDrop (mM .lst (mVar 1) (mCons (mLst (mCons (mMod (mB (mCons (mVar 3) (mNil)) (fD1 intD)) (mC (.int 1000))) (mCons (mMod (mB (mCons (mVar 5) (mNil)) (fD1 intD)) (mC (.int 1000))) (mCons (mMod (mB (mCons (mVar 6) (mNil)) (fD1 intD)) (mC (.int 1000))) (mNil))))) (mNil)) fExtend)) (sSkip))))) (sSkip)))
    (rho := [some (.s (ns.map .int)), some (.r 0), none, none, none, none, none]) (m := [some (.list [])]) (ns.map .int)
    (fun i rho m => ∃ (es : List Int) (y2 y3 y4 y5 y6 : Option W), rho = [some (.s (ns.map .int)), some (.r 0), y2, y3, y4, y5, y6] ∧ m = [some (.list (es.map .int))] ∧ (∀ d ∈ es, 0 ≤ d ∧ d < 1000) ∧ es.length ≤ 60 * i)
    ⟨[], none, none, none, none, none, rfl, rfl, by simp, Nat.le_refl _⟩ (fun i hi rho m hI => by
      obtain ⟨es, y2, y3, y4, y5, y6, rfl, rfl, q2, q3⟩ := hI
      have hi' : i < ns.length := by simpa using hi
      have hcell : (ns.map PyData.int)[i] = .int ns[i] := by simp
      rw [hcell]
      refine ⟨_, _, rfl, ?_⟩
      by_cases hb : (1000000000000000000 : Int) ≤ (ns[i].natAbs : Int)
      · obtain ⟨rho', m', e1, es1, z2, z3, z4, z5, z6, rfl, rfl, w2, w3⟩ := draws_in (some (.s (ns.map .int))) (some (.d (.int ns[i]))) y4 y5 y6 (ns[i].natAbs : Int) es (by omega) q2 (by omega)
        exact ⟨[some (.s (ns.map .int)), some (.r 0), z2, z3, z4, z5, z6], [some (.list (es1.map .int))], by simp [number_ok, hb, hr, e1], es1, z2, z3, z4, z5, z6, rfl, rfl, w2, by omega⟩
      · generalize hR : (ns[i].natAbs : Int) = R at hb
        have r0 : 0 ≤ R := by omega
        have r1 : R < 1000000000000000000 := by omega
        have m1 : mulD (.int R) (.int 48271) = some (.d (.int (R * 48271))) := mul_small (by omega) (by decide)
        generalize hO : (R * 48271 + 11) % 2147483647 = O
        have o0 : 0 ≤ O ∧ O < 2147483647 := by omega
        have m2 : mulD (.int O) (.int 69621) = some (.d (.int (O * 69621))) := mul_small (by omega) (by decide)
        have hs : small (es.length + 3) = true := small_le (by omega)
        refine ⟨[some (.s (ns.map .int)), some (.r 0), some (.d (.int ns[i])), some (.d (.int R)), y4, some (.d (.int O)), some (.d (.int ((O * 69621 + R) % 2147483629)))], [some (.list ((es ++ [R % 1000, O % 1000, (O * 69621 + R) % 2147483629 % 1000]).map .int))], ?_, es ++ [R % 1000, O % 1000, (O * 69621 + R) % 2147483629 % 1000], _, _, _, _, _, rfl, rfl, ?_, by rw [List.length_append]; simp; omega⟩
        · simp [number_ok, hR, hb, m1, hO, m2, hs]
        · intro d hd
          rcases List.mem_append.mp hd with hd | hd
          · exact q2 d hd
          · simp at hd; omega)
  rw [ints_len] at q3
  refine ⟨es.reverse, ?_, fun d hd => q2 d (List.mem_reverse.mp hd), by rw [List.length_reverse]; omega⟩
  unfold F__law_draws runF m__law_draws startE
  simp [e, fin]
end Law
set_option exponentiation.threshold 5000
namespace Law
open PySem PySem.Spec PyProof.Rows L2 Den
/-! fractions: what the program and the law reckon on pairs in lowest terms -/
def rq (q : Rat) : D := .tuple [.int q.num, .int (q.den : Int)]
/-- both parts have at most b bits -/
def sz (b : Nat) (q : Rat) : Prop := q.num.natAbs < 2 ^ b ∧ q.den < 2 ^ b
theorem sz.mono {a b : Nat} {q : Rat} (h : sz a q) (l : a ≤ b) : sz b q := ⟨Nat.lt_of_lt_of_le h.1 (Nat.pow_le_pow_right (by decide) l), Nat.lt_of_lt_of_le h.2 (Nat.pow_le_pow_right (by decide) l)⟩
theorem log2_lt {b n : Nat} (h : n < 2 ^ b) (hb : 0 < b) : n.log2 < b := by
  by_cases h0 : n = 0
  · subst h0; simpa using hb
  · exact (Nat.log2_lt h0).mpr h
theorem mul_fit {i j : Int} {a b : Nat} (h : i.natAbs < 2 ^ a) (h2 : j.natAbs < 2 ^ b) (ha : a ≤ 9000) (hb : b ≤ 9000) : mulD (.int i) (.int j) = some (.d (.int (i * j))) := by
  have e : mulOk i j = true := by
    unfold mulOk
    have := log2_lt (Nat.lt_of_lt_of_le h (Nat.pow_le_pow_right (by decide) (show a ≤ a + 1 by omega))) (by omega)
    have := log2_lt (Nat.lt_of_lt_of_le h2 (Nat.pow_le_pow_right (by decide) (show b ≤ b + 1 by omega))) (by omega)
    exact decide_eq_true (by omega)
  show (if mulOk i j = true then _ else _) = _
  rw [if_pos e]
/-! Euclid -/
theorem half {a b k : Nat} (hb : b < 2 ^ (k + 1)) (h : a % b ≠ 0) (b0 : b ≠ 0) : b % (a % b) < 2 ^ k := by
  have h1 := Nat.mod_lt a (Nat.pos_of_ne_zero b0)
  have h2 := Nat.mod_lt b (Nat.pos_of_ne_zero h)
  rw [Nat.pow_succ] at hb
  by_cases h3 : a % b ≤ b / 2
  · omega
  · have h4 : b % (a % b) = b - a % b := by
      rw [Nat.mod_eq_sub_mod (Nat.le_of_lt h1), Nat.mod_eq_of_lt (by omega)]
    omega
theorem while_step {t : EM Bool} {c : SM} {n : Nat} {rho r : Den.Env} {m m1 m' : Mem} (h : t rho m = .ok true m1) (h2 : c rho m1 = .nx r m') : whileN t c (n + 1) rho m = whileN t c n r m' := by
  show (t rho m).thenS rho _ = _
  rw [h]
  show (match c rho m1 with | .nx r m' => whileN t c n r m' | .ct r m' => whileN t c n r m' | .bk r m' => .nx r m' | o => o) = _
  rw [h2]
theorem while_end {t : EM Bool} {c : SM} {n : Nat} {rho : Den.Env} {m m1 : Mem} (h : t rho m = .ok false m1) : whileN t c (n + 1) rho m = .nx rho m1 := by
  show (t rho m).thenS rho _ = _
  rw [h]; rfl
abbrev wC : SM := sSeq (sPar 0 1 (mVar 1) (mMod (mVar 0) (mVar 1))) (sSkip)
theorem wC_ok {a b : Nat} {m : Mem} (h : b ≠ 0) : wC [some (.d (.int a)), some (.d (.int b))] m = .nx [some (.d (.int b)), some (.d (.int ((a % b : Nat) : Int)))] m := by
  have e1 : modD (a : Int) (b : Int) = some (.int ((a % b : Nat) : Int)) := by rw [mod_pos (by omega)]; rfl
  simp only [e_Seq]
  unfold sPar
  simp only [e_Var, List.getElem?_cons_zero, List.getElem?_cons_succ, ev_thenV, e_Mod, ev_bindV, val_d, f_lift2, peek_d, on_ii, e1, Option.map_some]
  rfl
theorem wT_ok {x : Option W} {b : Nat} {m : Mem} : mTru (mVar 1) [x, some (.d (.int b))] m = .ok (decide (b ≠ 0)) m := by
  by_cases h : b = 0 <;> simp [h]
theorem common_go : ∀ (k fuel a b : Nat) (m : Mem), b < 2 ^ k → 2 * k + 1 ≤ fuel → whileN (mTru (mVar 1)) wC fuel [some (.d (.int a)), some (.d (.int b))] m = .nx [some (.d (.int (Nat.gcd a b : Nat))), some (.d (.int (0 : Nat)))] m
  | k, 0, a, b, m, _, hf => by omega
  | k, fuel + 1, a, b, m, hb, hf => by
    by_cases b0 : b = 0
    · subst b0
      rw [while_end (by rw [wT_ok]; rfl), Nat.gcd_zero_right]
    · rw [while_step (by rw [wT_ok, decide_eq_true b0]) (wC_ok b0)]
      obtain ⟨k, rfl⟩ : ∃ j, k = j + 1 := ⟨k - 1, by
        rcases Nat.eq_zero_or_pos k with h | h
        · subst h; simp at hb; omega
        · omega⟩
      obtain ⟨fuel, rfl⟩ : ∃ f, fuel = f + 1 := ⟨fuel - 1, by omega⟩
      have eg : Nat.gcd a b = Nat.gcd b (a % b) := by rw [Nat.gcd_comm a b, Nat.gcd_rec b a, Nat.gcd_comm]
      rw [eg]
      by_cases r0 : a % b = 0
      · rw [r0, while_end (by rw [wT_ok]; rfl), Nat.gcd_zero_right]
      · rw [while_step (by rw [wT_ok, decide_eq_true r0]) (wC_ok r0)]
        have eg2 : Nat.gcd b (a % b) = Nat.gcd (a % b) (b % (a % b)) := by rw [Nat.gcd_comm b (a % b), Nat.gcd_rec (a % b) b, Nat.gcd_comm]
        rw [eg2]
        exact common_go k fuel (a % b) (b % (a % b)) m (half hb r0 b0) (by omega)
theorem common_ok {a b : Nat} {m : Mem} (hb : b < 2 ^ 4400) : F_common [.d (.int a), .d (.int b)] m = .ok (.d (.int (Nat.gcd a b : Nat))) m := by
  have h := common_go 4400 1000000 a b m hb (by decide)
  have h' : sWhile 1000000 (mTru (mVar 1)) (sSeq (sPar 0 1 (mVar 1) (mMod (mVar 0) (mVar 1))) (sSkip)) [some (.d (.int a)), some (.d (.int b))] m = .nx [some (.d (.int (Nat.gcd a b : Nat))), some (.d (.int (0 : Nat)))] m := h
  unfold F_common runF m_common startE
  simp [h', fin]
/-- the law's own Euclid: a loop of many turns that returns -/
abbrev lC : SM := sSeq (sIf (mBool (mOp2 (mVar 1) (mC (.int 0)) (lift2 eqD))) (sSeq (sRet (mVar 0)) (sSkip)) (sSkip)) (sSeq (sPar 0 1 (mVar 1) (mMod (mB (mCons (mVar 0) (mNil)) (fD1 intD)) (mB (mCons (mVar 1) (mNil)) (fD1 intD)))) (sSkip))
theorem lC_ok {a b : Nat} {x : Option W} {m : Mem} (h : b ≠ 0) : lC [some (.d (.int a)), some (.d (.int b)), x] m = .nx [some (.d (.int b)), some (.d (.int ((a % b : Nat) : Int))), x] m := by
  have e1 : modD (a : Int) (b : Int) = some (.int ((a % b : Nat) : Int)) := by rw [mod_pos (by omega)]; rfl
  have h2 : ((b : Int) == 0) = false := by rw [beq_eq_false_iff_ne]; omega
  simp only [e_Seq, e_IfS, e_Bool, e_Op2, e_Var, e_C, List.getElem?_cons_zero, List.getElem?_cons_succ, ev_bindV, val_d, f_lift2, peek_d, eq_i, h2, tru_d, tru_b, ev_thenS, Bool.false_eq_true, if_false, e_Skip]
  show (match sPar 0 1 _ _ _ m with | .nx rho' m' => sSkip rho' m' | o => o) = _
  unfold sPar
  simp only [e_Var, List.getElem?_cons_zero, List.getElem?_cons_succ, ev_thenV, e_Mod, e_B, e_Cons, e_Nil, ev_bind, ev_bindV, val_d, val_n, f_D1, int_i, f_lift2, peek_d, on_ii, e1, Option.map_some]
  rfl
theorem lC_end {a : Nat} {x : Option W} {m : Mem} : lC [some (.d (.int a)), some (.d (.int (0 : Nat))), x] m = .rt (.d (.int a)) m := by
  simp
theorem for_step {g : GM} {c : SM} {x : D} {xs : List D} {rho r1 r : Den.Env} {m m1 m' : Mem} (h : g (.d x) rho m = some (r1, m1)) (h2 : c r1 m1 = .nx r m') : forL g c (x :: xs) rho m = forL g c xs r m' := by
  show (match g (.d x) rho m with | some (r1, m1) => _ | none => _) = _
  rw [h]
  show (match c r1 m1 with | .nx r m' => forL g c xs r m' | .ct r m' => forL g c xs r m' | .bk r m' => .nx r m' | o => o) = _
  rw [h2]
theorem for_ret {g : GM} {c : SM} {x : D} {xs : List D} {rho r1 : Den.Env} {m m1 m' : Mem} {w : W} (h : g (.d x) rho m = some (r1, m1)) (h2 : c r1 m1 = .rt w m') : forL g c (x :: xs) rho m = .rt w m' := by
  show (match g (.d x) rho m with | some (r1, m1) => _ | none => _) = _
  rw [h]
  show (match c r1 m1 with | .nx r m' => forL g c xs r m' | .ct r m' => forL g c xs r m' | .bk r m' => .nx r m' | o => o) = _
  rw [h2]
theorem lcommon_go : ∀ (k : Nat) (items : List D) (a b : Nat) (x : Option W) (m : Mem), b < 2 ^ k → 2 * k + 1 ≤ items.length → forL (gN 2) lC items [some (.d (.int a)), some (.d (.int b)), x] m = .rt (.d (.int (Nat.gcd a b : Nat))) m
  | k, [], a, b, x, m, _, hf => by simp at hf
  | k, i :: items, a, b, x, m, hb, hf => by
    rw [List.length_cons] at hf
    by_cases b0 : b = 0
    · subst b0
      rw [for_ret (r1 := [some (.d (.int a)), some (.d (.int (0 : Nat))), some (.d i)]) rfl lC_end, Nat.gcd_zero_right]
    · rw [for_step (r1 := [some (.d (.int a)), some (.d (.int b)), some (.d i)]) rfl (lC_ok b0)]
      obtain ⟨k, rfl⟩ : ∃ j, k = j + 1 := ⟨k - 1, by
        rcases Nat.eq_zero_or_pos k with h | h
        · subst h; simp at hb; omega
        · omega⟩
      have eg : Nat.gcd a b = Nat.gcd b (a % b) := by rw [Nat.gcd_comm a b, Nat.gcd_rec b a, Nat.gcd_comm]
      rw [eg]
      match items, hf with
      | [], hf => simp at hf
      | j :: items, hf =>
        rw [List.length_cons] at hf
        by_cases r0 : a % b = 0
        · rw [r0, for_ret (r1 := [some (.d (.int b)), some (.d (.int (0 : Nat))), some (.d j)]) rfl lC_end, Nat.gcd_zero_right]
        · rw [for_step (r1 := [some (.d (.int b)), some (.d (.int ((a % b : Nat) : Int))), some (.d j)]) rfl (lC_ok r0)]
          have eg2 : Nat.gcd b (a % b) = Nat.gcd (a % b) (b % (a % b)) := by rw [Nat.gcd_comm b (a % b), Nat.gcd_rec (a % b) b, Nat.gcd_comm]
          rw [eg2]
          exact lcommon_go k items (a % b) (b % (a % b)) (some (.d j)) m (half hb r0 b0) (by omega)
theorem lcommon_ok {a b : Nat} {m : Mem} (hb : b < 2 ^ 4400) : F__law_common [.d (.int a), .d (.int b)] m = .ok (.d (.int (Nat.gcd a b : Nat))) m := by
  have h := lcommon_go 4400 (rangeD 0 9000) a b none m hb (by rw [range_len]; decide)
  have h' : forL (gN 2) (sSeq (sIf (mBool (mOp2 (mVar 1) (mC (.int 0)) (lift2 eqD))) (sSeq (sRet (mVar 0)) (sSkip)) (sSkip)) (sSeq (sPar 0 1 (mVar 1) (mMod (mB (mCons (mVar 0) (mNil)) (fD1 intD)) (mB (mCons (mVar 1) (mNil)) (fD1 intD)))) (sSkip))) (rangeD 0 9000) [some (.d (.int a)), some (.d (.int b)), none] m = .rt (.d (.int (Nat.gcd a b : Nat))) m := h
  have hr : mRange1 (mC (.int 9000)) [some (.d (.int a)), some (.d (.int b)), none] m = .ok (rangeD 0 9000) m := range1_ok rfl (by decide) (by decide)
  unfold F__law_common runF m__law_common startE
  show (match (match (sFor _ _ _ : SM) [some (.d (.int a)), some (.d (.int b)), none] m with | .nx rho' m' => _ | o => o) with | .nx _ m' => _ | .rt w m' => _ | .ex x _ m' => _ | _ => _) = _
  rw [e_For, hr, ev_thenS, h']
  simp [fin]
/-! lowest terms -/
theorem rq_div {n : Int} {d : Nat} (hd : 0 < d) : rq (Rat.divInt n d) = .tuple [.int (n / (Nat.gcd n.natAbs d : Nat)), .int ((d : Int) / (Nat.gcd n.natAbs d : Nat))] := by
  have h1 : Rat.divInt n (d : Int) = Rat.normalize n d (by omega) := by rw [Rat.divInt_ofNat, Rat.normalize_eq_mkRat]
  unfold rq
  rw [h1, Rat.normalize_eq]
  rfl
theorem abs_nat (n : Int) : (if n < 0 then -n else n) = (n.natAbs : Int) := by split <;> omega
theorem gcd_fit {n : Int} {d : Nat} (hd : 0 < d) (h : d < 2 ^ 4400) : decide (0 < ((Nat.gcd n.natAbs d : Nat) : Int) ∧ ((Nat.gcd n.natAbs d : Nat) : Int).natAbs.log2 < 9000) = true := by
  have g0 : 0 < Nat.gcd n.natAbs d := Nat.gcd_pos_of_pos_right _ hd
  have g1 : Nat.gcd n.natAbs d ≤ d := Nat.le_of_dvd hd (Nat.gcd_dvd_right _ _)
  have g2 : (Nat.gcd n.natAbs d).log2 < 4400 := log2_lt (Nat.lt_of_le_of_lt g1 h) (by decide)
  refine decide_eq_true ⟨by omega, ?_⟩
  rw [Int.natAbs_natCast]
  omega
theorem least_ok {n : Int} {d : Nat} {m : Mem} (hd : 0 < d) (h : d < 2 ^ 4400) : F_least_terms [.d (.int n), .d (.int d)] m = .ok (.d (rq (Rat.divInt n d))) m := by
  have e1 := common_ok (a := n.natAbs) (m := m) h
  have f1 : fdivD n (Nat.gcd n.natAbs d : Nat) = _ := fdiv_ok (gcd_fit hd h)
  have f2 : fdivD (d : Int) (Nat.gcd n.natAbs d : Nat) = _ := fdiv_ok (gcd_fit hd h)
  rw [rq_div hd]
  unfold F_least_terms runF m_least_terms startE
  simp [abs_nat, e1, f1, f2, fin]
theorem lowest_ok {n : Int} {d : Nat} {m : Mem} (hd : 0 < d) (h : d < 2 ^ 4400) : F__law_lowest [.d (.int n), .d (.int d)] m = .ok (.d (rq (Rat.divInt n d))) m := by
  have e1 := lcommon_ok (a := n.natAbs) (m := m) h
  have f1 : fdivD n (Nat.gcd n.natAbs d : Nat) = _ := fdiv_ok (gcd_fit hd h)
  have f2 : fdivD (d : Int) (Nat.gcd n.natAbs d : Nat) = _ := fdiv_ok (gcd_fit hd h)
  rw [rq_div hd]
  unfold F__law_lowest runF m__law_lowest startE
  simp [abs_nat, e1, f1, f2, fin]

theorem le44 {n a : Nat} (h : n < 2 ^ a) (ha : a ≤ 4400) : n < 2 ^ 4400 := Nat.lt_of_lt_of_le h (Nat.pow_le_pow_right (by decide) ha)
theorem mul_lt {i j a b : Nat} (h : i < 2 ^ a) (h2 : j < 2 ^ b) : i * j < 2 ^ (a + b) := by
  rw [Nat.pow_add]
  exact Nat.mul_lt_mul'' h h2
theorem natAbs_mul_lt {i j : Int} {a b : Nat} (h : i.natAbs < 2 ^ a) (h2 : j.natAbs < 2 ^ b) : (i * j).natAbs < 2 ^ (a + b) := by
  rw [Int.natAbs_mul]; exact mul_lt h h2
theorem divInt_sz {n : Int} {d b : Nat} (hd : 0 < d) (hn : n.natAbs < 2 ^ b) (h : d < 2 ^ b) : sz b (Rat.divInt n d) := by
  have h1 : Rat.divInt n (d : Int) = Rat.normalize n d (by omega) := by rw [Rat.divInt_ofNat, Rat.normalize_eq_mkRat]
  rw [h1, Rat.normalize_eq]
  have g0 : 0 < Nat.gcd n.natAbs d := Nat.gcd_pos_of_pos_right _ hd
  refine ⟨?_, Nat.lt_of_le_of_lt (Nat.div_le_self _ _) h⟩
  show (n / (Nat.gcd n.natAbs d : Nat)).natAbs < 2 ^ b
  refine Nat.lt_of_le_of_lt ?_ hn
  have hdv := Int.ofNat_dvd_left.mpr (Nat.gcd_dvd_left n.natAbs d)
  generalize Nat.gcd n.natAbs d = g at *
  obtain ⟨k, hk⟩ := hdv
  rw [hk, Int.mul_ediv_cancel_left _ (by omega), Int.natAbs_mul, Int.natAbs_natCast]
  exact Nat.le_mul_of_pos_left _ g0
theorem add_div (p q : Rat) : p + q = Rat.divInt (p.num * (q.den : Int) + q.num * (p.den : Int)) ((p.den * q.den : Nat) : Int) := by
  rw [Rat.add_def, Rat.divInt_ofNat, Rat.normalize_eq_mkRat]
theorem sub_div (p q : Rat) : p - q = Rat.divInt (p.num * (q.den : Int) - q.num * (p.den : Int)) ((p.den * q.den : Nat) : Int) := by
  rw [Rat.sub_def, Rat.divInt_ofNat, Rat.normalize_eq_mkRat]
theorem mul_div (p q : Rat) : p * q = Rat.divInt (p.num * q.num) ((p.den * q.den : Nat) : Int) := by
  rw [Rat.mul_def, Rat.divInt_ofNat, Rat.normalize_eq_mkRat]
theorem den0 (p q : Rat) : 0 < p.den * q.den := Nat.mul_pos p.den_pos q.den_pos
theorem add_lt' {i j : Int} {b : Nat} (h : i.natAbs < 2 ^ b) (h2 : j.natAbs < 2 ^ b) : (i + j).natAbs < 2 ^ (b + 1) := by
  have := Int.natAbs_add_le i j
  rw [Nat.pow_succ]; omega
theorem sub_lt' {i j : Int} {b : Nat} (h : i.natAbs < 2 ^ b) (h2 : j.natAbs < 2 ^ b) : (i - j).natAbs < 2 ^ (b + 1) := by
  have := Int.natAbs_sub_le i j
  rw [Nat.pow_succ]; omega
theorem sz_add {a b : Nat} {p q : Rat} (hp : sz a p) (hq : sz b q) : sz (a + b + 1) (p + q) := by
  rw [add_div]
  have h1 : (p.num * (q.den : Int)).natAbs < 2 ^ (a + b) := natAbs_mul_lt hp.1 (by rw [Int.natAbs_natCast]; exact hq.2)
  have h2 : (q.num * (p.den : Int)).natAbs < 2 ^ (a + b) := by rw [Nat.add_comm a b]; exact natAbs_mul_lt hq.1 (by rw [Int.natAbs_natCast]; exact hp.2)
  exact divInt_sz (den0 p q) (add_lt' h1 h2) (Nat.lt_of_lt_of_le (mul_lt hp.2 hq.2) (Nat.pow_le_pow_right (by decide) (by omega)))
theorem sz_sub {a b : Nat} {p q : Rat} (hp : sz a p) (hq : sz b q) : sz (a + b + 1) (p - q) := by
  rw [sub_div]
  have h1 : (p.num * (q.den : Int)).natAbs < 2 ^ (a + b) := natAbs_mul_lt hp.1 (by rw [Int.natAbs_natCast]; exact hq.2)
  have h2 : (q.num * (p.den : Int)).natAbs < 2 ^ (a + b) := by rw [Nat.add_comm a b]; exact natAbs_mul_lt hq.1 (by rw [Int.natAbs_natCast]; exact hp.2)
  exact divInt_sz (den0 p q) (sub_lt' h1 h2) (Nat.lt_of_lt_of_le (mul_lt hp.2 hq.2) (Nat.pow_le_pow_right (by decide) (by omega)))
theorem sz_mul {a b : Nat} {p q : Rat} (hp : sz a p) (hq : sz b q) : sz (a + b) (p * q) := by
  rw [mul_div]
  exact divInt_sz (den0 p q) (natAbs_mul_lt hp.1 hq.1) (mul_lt hp.2 hq.2)
theorem inv_sz {b : Nat} {q : Rat} (h : sz b q) (h0 : q ≠ 0) : sz b q⁻¹ := by
  have hn : q.num ≠ 0 := fun z => h0 (Rat.num_eq_zero.mp z)
  rw [Rat.inv_def]
  by_cases hs : 0 < q.num
  · have e : q.num = ((q.num.natAbs : Nat) : Int) := by omega
    rw [e]
    exact divInt_sz (by omega) (by rw [Int.natAbs_natCast]; exact h.2) h.1
  · have e : Rat.divInt (q.den : Int) q.num = Rat.divInt (-(q.den : Int)) ((q.num.natAbs : Nat) : Int) := by
      rw [Rat.divInt_eq_divInt_iff hn (by omega)]
      have : ((q.num.natAbs : Nat) : Int) = - q.num := by omega
      rw [this]; grind
    rw [e]
    exact divInt_sz (by omega) (by rw [Int.natAbs_neg, Int.natAbs_natCast]; exact h.2) h.1
theorem sz_div {a b : Nat} {p q : Rat} (hp : sz a p) (hq : sz b q) (h0 : q ≠ 0) : sz (a + b) (p / q) := by
  rw [Rat.div_def]; exact sz_mul hp (inv_sz hq h0)
section
variable {a b : Nat} {p q : Rat} {m : Mem}
@[simp] theorem at_0 {x y : D} : atI [x, y] 0 = some x := rfl
@[simp] theorem at_1 {x y : D} : atI [x, y] 1 = some y := rfl
theorem nd (q : Rat) (h : q.den < 2 ^ b) : (q.den : Int).natAbs < 2 ^ b := by rw [Int.natAbs_natCast]; exact h
theorem add_ok (hp : sz a p) (hq : sz b q) (h : a + b ≤ 4400) : F_add [.d (rq p), .d (rq q)] m = .ok (.d (rq (p + q))) m := by
  have e1 := mul_fit hp.1 (nd q hq.2) (by omega) (by omega)
  have e2 := mul_fit hq.1 (nd p hp.2) (by omega) (by omega)
  have e3 := mul_fit (nd p hp.2) (nd q hq.2) (by omega) (by omega)
  have e4 := least_ok (n := p.num * (q.den : Int) + q.num * (p.den : Int)) (m := m) (den0 p q) (le44 (mul_lt hp.2 hq.2) h)
  rw [add_div]
  rw [Int.natCast_mul] at e4 ⊢
  unfold F_add runF m_add startE rq
  simp only [e_Seq, e_Ret, e_Call, e_Cons, e_Nil, e_Add, e_Sub, e_Mul, e_Ix, e_Var, e_C, List.getElem?_cons_zero, List.getElem?_cons_succ, List.map_cons, List.map_nil, List.cons_append, List.nil_append, List.length_cons, List.length_nil, Nat.reduceSub, List.replicate, ev_bindV, val_d, f_Ix, f_lift2, peek_d, ix_t, at_0, at_1, on_ii, Option.map_some, e1, e2, e3, add_i, ev_bind, if_true, e4, ev_thenS, Nat.reduceAdd, fin, List.take_length]
  rfl
theorem ladd_ok (hp : sz a p) (hq : sz b q) (h : a + b ≤ 4400) : F__law_add [.d (rq p), .d (rq q)] m = .ok (.d (rq (p + q))) m := by
  have e1 := mul_fit hp.1 (nd q hq.2) (by omega) (by omega)
  have e2 := mul_fit hq.1 (nd p hp.2) (by omega) (by omega)
  have e3 := mul_fit (nd p hp.2) (nd q hq.2) (by omega) (by omega)
  have e4 := lowest_ok (n := p.num * (q.den : Int) + q.num * (p.den : Int)) (m := m) (den0 p q) (le44 (mul_lt hp.2 hq.2) h)
  rw [add_div]
  rw [Int.natCast_mul] at e4 ⊢
  unfold F__law_add runF m__law_add startE rq
  simp only [e_Seq, e_Ret, e_Call, e_Cons, e_Nil, e_Add, e_Sub, e_Mul, e_Ix, e_Var, e_C, List.getElem?_cons_zero, List.getElem?_cons_succ, List.map_cons, List.map_nil, List.cons_append, List.nil_append, List.length_cons, List.length_nil, Nat.reduceSub, List.replicate, ev_bindV, val_d, f_Ix, f_lift2, peek_d, ix_t, at_0, at_1, on_ii, Option.map_some, e1, e2, e3, add_i, ev_bind, if_true, e4, ev_thenS, Nat.reduceAdd, fin, List.take_length]
  rfl
theorem times_ok (hp : sz a p) (hq : sz b q) (h : a + b ≤ 4400) : F_times [.d (rq p), .d (rq q)] m = .ok (.d (rq (p * q))) m := by
  have e1 := mul_fit hp.1 hq.1 (by omega) (by omega)
  have e2 := True.intro
  have e3 := mul_fit (nd p hp.2) (nd q hq.2) (by omega) (by omega)
  have e4 := least_ok (n := p.num * q.num) (m := m) (den0 p q) (le44 (mul_lt hp.2 hq.2) h)
  rw [mul_div]
  rw [Int.natCast_mul] at e4 ⊢
  unfold F_times runF m_times startE rq
  simp only [e_Seq, e_Ret, e_Call, e_Cons, e_Nil, e_Add, e_Sub, e_Mul, e_Ix, e_Var, e_C, List.getElem?_cons_zero, List.getElem?_cons_succ, List.map_cons, List.map_nil, List.cons_append, List.nil_append, List.length_cons, List.length_nil, Nat.reduceSub, List.replicate, ev_bindV, val_d, f_Ix, f_lift2, peek_d, ix_t, at_0, at_1, on_ii, Option.map_some, e1, e2, e3, add_i, ev_bind, if_true, e4, ev_thenS, Nat.reduceAdd, fin, List.take_length]
  rfl
theorem ltimes_ok (hp : sz a p) (hq : sz b q) (h : a + b ≤ 4400) : F__law_times [.d (rq p), .d (rq q)] m = .ok (.d (rq (p * q))) m := by
  have e1 := mul_fit hp.1 hq.1 (by omega) (by omega)
  have e2 := True.intro
  have e3 := mul_fit (nd p hp.2) (nd q hq.2) (by omega) (by omega)
  have e4 := lowest_ok (n := p.num * q.num) (m := m) (den0 p q) (le44 (mul_lt hp.2 hq.2) h)
  rw [mul_div]
  rw [Int.natCast_mul] at e4 ⊢
  unfold F__law_times runF m__law_times startE rq
  simp only [e_Seq, e_Ret, e_Call, e_Cons, e_Nil, e_Add, e_Sub, e_Mul, e_Ix, e_Var, e_C, List.getElem?_cons_zero, List.getElem?_cons_succ, List.map_cons, List.map_nil, List.cons_append, List.nil_append, List.length_cons, List.length_nil, Nat.reduceSub, List.replicate, ev_bindV, val_d, f_Ix, f_lift2, peek_d, ix_t, at_0, at_1, on_ii, Option.map_some, e1, e2, e3, add_i, ev_bind, if_true, e4, ev_thenS, Nat.reduceAdd, fin, List.take_length]
  rfl
theorem div_div (p q : Rat) (h0 : q ≠ 0) : p / q = Rat.divInt ((if 0 < q.num then 1 else -1) * p.num * (q.den : Int)) ((p.den * q.num.natAbs : Nat) : Int) := by
  have hn : q.num ≠ 0 := fun z => h0 (Rat.num_eq_zero.mp z)
  have hd := p.den_pos
  have e : p / q = Rat.divInt (p.num * (q.den : Int)) ((p.den : Int) * q.num) := by
    conv => lhs; rw [← Rat.num_divInt_den p, Rat.div_def, Rat.inv_def, Rat.divInt_mul_divInt]
  have h1 : ((p.den * q.num.natAbs : Nat) : Int) ≠ 0 := by
    have := Nat.mul_pos hd (show 0 < q.num.natAbs by omega)
    omega
  have h2 : (p.den : Int) * q.num ≠ 0 := Int.mul_ne_zero (by omega) hn
  rw [e, Rat.divInt_eq_divInt_iff h2 h1, Int.natCast_mul]
  by_cases hs : 0 < q.num
  · rw [if_pos hs]
    have : ((q.num.natAbs : Nat) : Int) = q.num := by omega
    rw [this]; grind
  · rw [if_neg hs]
    have : ((q.num.natAbs : Nat) : Int) = - q.num := by omega
    rw [this]; grind
theorem by_ok (hp : sz a p) (hq : sz b q) (h0 : q ≠ 0) (h : a + b ≤ 4400) : F_by [.d (rq p), .d (rq q)] m = .ok (.d (rq (p / q))) m := by
  have hn : q.num ≠ 0 := fun z => h0 (Rat.num_eq_zero.mp z)
  have hs : ((if 0 < q.num then 1 else -1 : Int) * p.num).natAbs < 2 ^ a := by
    rw [Int.natAbs_mul]
    split <;> simpa using hp.1
  have e0 : mulD (.int (if 0 < q.num then 1 else -1)) (.int p.num) = _ := mul_fit (a := 1) (b := a) (by split <;> decide) hp.1 (by omega) (by omega)
  have e1 := mul_fit hs (nd q hq.2) (by omega) (by omega)
  have e3 := mul_fit (nd p hp.2) (show ((q.num.natAbs : Nat) : Int).natAbs < 2 ^ b by rw [Int.natAbs_natCast]; exact hq.1) (by omega) (by omega)
  have e4 := least_ok (n := (if 0 < q.num then 1 else -1) * p.num * (q.den : Int)) (d := p.den * q.num.natAbs) (m := m) (Nat.mul_pos p.den_pos (by omega)) (le44 (mul_lt hp.2 hq.1) h)
  rw [div_div p q h0]
  rw [Int.natCast_mul] at e4 ⊢
  unfold F_by runF m_by startE rq
  by_cases hs : 0 < q.num
  · simp only [hs, if_true] at e0 e1 e4 ⊢
    simp only [e_Seq, e_Ret, e_Call, e_Cons, e_Nil, e_Add, e_Sub, e_Mul, e_Ix, e_Var, e_C, List.getElem?_cons_zero, List.getElem?_cons_succ, List.map_cons, List.map_nil, List.cons_append, List.nil_append, List.length_cons, List.length_nil, Nat.reduceSub, List.replicate, ev_bindV, val_d, f_Ix, f_lift2, peek_d, ix_t, at_0, at_1, on_ii, Option.map_some, e0, e1, e3, add_i, ev_bind, if_true, e4, ev_thenS, Nat.reduceAdd, fin, List.take_length, e_Set, ev_thenV, e_If, e_Bool, e_Op2, gt_i, tru_d, tru_b, e_Neg, neg_i, e_B, f_D1, abs_i, abs_nat, List.set_cons_zero, List.set_cons_succ, decide_eq_true hs]
    rfl
  · simp only [hs, if_false] at e0 e1 e4 ⊢
    simp only [e_Seq, e_Ret, e_Call, e_Cons, e_Nil, e_Add, e_Sub, e_Mul, e_Ix, e_Var, e_C, List.getElem?_cons_zero, List.getElem?_cons_succ, List.map_cons, List.map_nil, List.cons_append, List.nil_append, List.length_cons, List.length_nil, Nat.reduceSub, List.replicate, ev_bindV, val_d, f_Ix, f_lift2, peek_d, ix_t, at_0, at_1, on_ii, Option.map_some, e0, e1, e3, add_i, ev_bind, if_true, e4, ev_thenS, Nat.reduceAdd, fin, List.take_length, e_Set, ev_thenV, e_If, e_Bool, e_Op2, gt_i, tru_d, tru_b, e_Neg, neg_i, e_B, f_D1, abs_i, abs_nat, List.set_cons_zero, List.set_cons_succ, decide_eq_false hs, Bool.false_eq_true, if_false]
    rfl
theorem lby_ok (hp : sz a p) (hq : sz b q) (h0 : q ≠ 0) (h : a + b ≤ 4400) : F__law_by [.d (rq p), .d (rq q)] m = .ok (.d (rq (p / q))) m := by
  have hn : q.num ≠ 0 := fun z => h0 (Rat.num_eq_zero.mp z)
  have hs : ((if 0 < q.num then 1 else -1 : Int) * p.num).natAbs < 2 ^ a := by
    rw [Int.natAbs_mul]
    split <;> simpa using hp.1
  have hs2 : ((p.den : Int) * (if 0 < q.num then 1 else -1 : Int)).natAbs < 2 ^ a := by
    rw [Int.natAbs_mul]
    split <;> simpa using hp.2
  have e0 : mulD (.int (if 0 < q.num then 1 else -1)) (.int p.num) = _ := mul_fit (a := 1) (b := a) (by split <;> decide) hp.1 (by omega) (by omega)
  have e1 := mul_fit hs (nd q hq.2) (by omega) (by omega)
  have e2 : mulD (.int (p.den : Int)) (.int (if 0 < q.num then 1 else -1)) = _ := mul_fit (a := a) (b := 1) (nd p hp.2) (by split <;> decide) (by omega) (by omega)
  have e3 := mul_fit hs2 hq.1 (by omega) (by omega)
  have e4 := lowest_ok (n := (if 0 < q.num then 1 else -1) * p.num * (q.den : Int)) (d := p.den * q.num.natAbs) (m := m) (Nat.mul_pos p.den_pos (by omega)) (le44 (mul_lt hp.2 hq.1) h)
  have e5 : (p.den : Int) * (if 0 < q.num then 1 else -1 : Int) * q.num = (p.den : Int) * ((q.num.natAbs : Nat) : Int) := by
    split
    · rw [show ((q.num.natAbs : Nat) : Int) = q.num by omega]; grind
    · rw [show ((q.num.natAbs : Nat) : Int) = - q.num by omega]; grind
  rw [div_div p q h0]
  rw [e5] at e3
  rw [Int.natCast_mul] at e4 ⊢
  unfold F__law_by runF m__law_by startE rq
  by_cases hs : 0 < q.num
  · simp only [hs, if_true] at e0 e1 e2 e3 e4 ⊢
    simp only [e_Seq, e_Ret, e_Call, e_Cons, e_Nil, e_Add, e_Sub, e_Mul, e_Ix, e_Var, e_C, List.getElem?_cons_zero, List.getElem?_cons_succ, List.map_cons, List.map_nil, List.cons_append, List.nil_append, List.length_cons, List.length_nil, Nat.reduceSub, List.replicate, ev_bindV, val_d, f_Ix, f_lift2, peek_d, ix_t, at_0, at_1, on_ii, Option.map_some, e0, e1, e3, add_i, ev_bind, if_true, e4, ev_thenS, Nat.reduceAdd, fin, List.take_length, e_Set, ev_thenV, e_If, e_Bool, e_Op2, gt_i, tru_d, tru_b, e_Neg, neg_i, e_B, f_D1, abs_i, abs_nat, List.set_cons_zero, List.set_cons_succ, e2, decide_eq_true hs]
    rfl
  · simp only [hs, if_false] at e0 e1 e2 e3 e4 ⊢
    simp only [e_Seq, e_Ret, e_Call, e_Cons, e_Nil, e_Add, e_Sub, e_Mul, e_Ix, e_Var, e_C, List.getElem?_cons_zero, List.getElem?_cons_succ, List.map_cons, List.map_nil, List.cons_append, List.nil_append, List.length_cons, List.length_nil, Nat.reduceSub, List.replicate, ev_bindV, val_d, f_Ix, f_lift2, peek_d, ix_t, at_0, at_1, on_ii, Option.map_some, e0, e1, e3, add_i, ev_bind, if_true, e4, ev_thenS, Nat.reduceAdd, fin, List.take_length, e_Set, ev_thenV, e_If, e_Bool, e_Op2, gt_i, tru_d, tru_b, e_Neg, neg_i, e_B, f_D1, abs_i, abs_nat, List.set_cons_zero, List.set_cons_succ, e2, decide_eq_false hs, Bool.false_eq_true, if_false]
    rfl
end
end Law
set_option exponentiation.threshold 5000
namespace Law
open PySem PySem.Spec PyProof.Rows L2 Den
/-! sums, moments, services -/
def sumQ (l : List Rat) : Rat := l.foldl (· + ·) 0
theorem rq_0 : PyData.tuple [.int 0, .int 1] = rq 0 := by kernel_rfl
theorem rq_1 : PyData.tuple [.int 1, .int 1] = rq 1 := by kernel_rfl
theorem rq_2 : PyData.tuple [.int 2, .int 1] = rq 2 := by kernel_rfl
theorem rq_3 : PyData.tuple [.int 3, .int 1] = rq 3 := by kernel_rfl
theorem sz_0 : sz 1 0 := ⟨by decide, by decide⟩
theorem sz_1 : sz 1 1 := ⟨by decide, by decide⟩
theorem sz_2 : sz 2 2 := ⟨by decide, by decide⟩
theorem sz_3 : sz 2 3 := ⟨by decide, by decide⟩
theorem sz_foldl {c : Nat} : ∀ (l : List Rat) (acc : Rat) (b : Nat), (∀ x ∈ l, sz c x) → sz b acc → sz (b + l.length * (c + 1)) (l.foldl (· + ·) acc)
  | [], acc, b, _, h => by simpa using h
  | x :: l, acc, b, hl, h => by
    rw [List.foldl_cons, List.length_cons]
    have := sz_foldl l (acc + x) (b + c + 1) (fun y hy => hl y (List.mem_cons_of_mem _ hy)) (sz_add h (hl x List.mem_cons_self))
    rw [Nat.add_mul, Nat.one_mul]
    exact this.mono (by omega)
theorem sz_sumQ {c : Nat} {l : List Rat} (h : ∀ x ∈ l, sz c x) : sz (1 + l.length * (c + 1)) (sumQ l) := sz_foldl l 0 1 h sz_0
theorem total_go {c : Nat} {x0 : Option W} {m : Mem} : ∀ (l : List Rat) (acc : Rat) (b : Nat) (x2 : Option W), (∀ x ∈ l, sz c x) → sz b acc → b + l.length * (c + 1) + c ≤ 4400 →
    ∃ y, forL (gN 2) (sSeq (sSet 1 (mCall 2 F_add (mCons (mVar 1) (mCons (mVar 2) (mNil))))) (sSkip)) (l.map rq) [x0, some (.d (rq acc)), x2] m = .nx [x0, some (.d (rq (l.foldl (· + ·) acc))), y] m
  | [], acc, b, x2, _, h, _ => ⟨x2, rfl⟩
  | x :: l, acc, b, x2, hl, h, hb => by
    rw [List.length_cons, Nat.add_mul, Nat.one_mul] at hb
    have hx := hl x List.mem_cons_self
    have e1 := add_ok (m := m) h hx (by omega)
    obtain ⟨y, e2⟩ := total_go (x0 := x0) (m := m) l (acc + x) (b + c + 1) (some (.d (rq x))) (fun y hy => hl y (List.mem_cons_of_mem _ hy)) (sz_add h hx) (by omega)
    refine ⟨y, ?_⟩
    rw [List.map_cons, for_step (r1 := [x0, some (.d (rq acc)), some (.d (rq x))]) (r := [x0, some (.d (rq (acc + x))), some (.d (rq x))]) (m1 := m) (m' := m) rfl (by simp [e1]), e2]
    rfl
theorem total_ok {c : Nat} {l : List Rat} {m : Mem} (h : ∀ x ∈ l, sz c x) (hb : 1 + l.length * (c + 1) + c ≤ 4400) : F_total [.d (.list (l.map rq))] m = .ok (.d (rq (sumQ l))) m := by
  obtain ⟨y, e⟩ := total_go (x0 := some (.d (.list (l.map rq)))) (m := m) l 0 1 none h sz_0 hb
  unfold F_total runF m_total startE sumQ
  simp [rq_0, e, fin]
theorem ltotal_go {c : Nat} {x0 : Option W} {m : Mem} : ∀ (l : List Rat) (acc : Rat) (b : Nat) (x2 : Option W), (∀ x ∈ l, sz c x) → sz b acc → b + l.length * (c + 1) + c ≤ 4400 →
    ∃ y, forL (gN 2) (sSeq (sSet 1 (mCall 2 F__law_add (mCons (mVar 1) (mCons (mVar 2) (mNil))))) (sSkip)) (l.map rq) [x0, some (.d (rq acc)), x2] m = .nx [x0, some (.d (rq (l.foldl (· + ·) acc))), y] m
  | [], acc, b, x2, _, h, _ => ⟨x2, rfl⟩
  | x :: l, acc, b, x2, hl, h, hb => by
    rw [List.length_cons, Nat.add_mul, Nat.one_mul] at hb
    have hx := hl x List.mem_cons_self
    have e1 := ladd_ok (m := m) h hx (by omega)
    obtain ⟨y, e2⟩ := ltotal_go (x0 := x0) (m := m) l (acc + x) (b + c + 1) (some (.d (rq x))) (fun y hy => hl y (List.mem_cons_of_mem _ hy)) (sz_add h hx) (by omega)
    refine ⟨y, ?_⟩
    rw [List.map_cons, for_step (r1 := [x0, some (.d (rq acc)), some (.d (rq x))]) (r := [x0, some (.d (rq (acc + x))), some (.d (rq x))]) (m1 := m) (m' := m) rfl (by simp [e1]), e2]
    rfl
theorem ltotal_ok {c : Nat} {l : List Rat} {m : Mem} (h : ∀ x ∈ l, sz c x) (hb : 1 + l.length * (c + 1) + c ≤ 4400) : F__law_total [.d (.list (l.map rq))] m = .ok (.d (rq (sumQ l))) m := by
  obtain ⟨y, e⟩ := ltotal_go (x0 := some (.d (.list (l.map rq)))) (m := m) l 0 1 none h sz_0 hb
  unfold F__law_total runF m__law_total startE sumQ
  simp [rq_0, e, fin]
/-! pairs of a length and a chance -/
abbrev LC := Rat × Rat
def pr (p : LC) : D := .tuple [rq p.1, rq p.2]
/-- p.2 times p.1 k times -/
def partQ (p : LC) : Nat → Rat
  | 0 => p.2
  | k + 1 => partQ p k * p.1
def momQ (s : List LC) (k : Nat) : Rat := s.foldl (fun a p => a + partQ p k) 0
theorem sz_part {b c : Nat} {p : LC} (h1 : sz b p.1) (h2 : sz c p.2) : ∀ k, sz (c + k * b) (partQ p k)
  | 0 => by simpa [partQ] using h2
  | k + 1 => by
    have := sz_mul (sz_part h1 h2 k) h1
    unfold partQ
    rw [Nat.add_mul, Nat.one_mul]
    exact this.mono (by omega)
theorem sz_momf {b c k : Nat} : ∀ (s : List LC) (acc : Rat) (e : Nat), (∀ p ∈ s, sz b p.1 ∧ sz c p.2) → sz e acc → sz (e + s.length * (c + k * b + 1)) (s.foldl (fun a p => a + partQ p k) acc)
  | [], acc, e, _, h => by simpa using h
  | x :: l, acc, e, hl, h => by
    rw [List.foldl_cons, List.length_cons]
    have hx := hl x List.mem_cons_self
    have := sz_momf (k := k) l (acc + partQ x k) (e + (c + k * b) + 1) (fun y hy => hl y (List.mem_cons_of_mem _ hy)) (sz_add h (sz_part hx.1 hx.2 k))
    rw [Nat.add_mul (l.length) 1, Nat.one_mul]
    exact this.mono (by omega)
theorem sz_mom {b c k : Nat} {s : List LC} (h : ∀ p ∈ s, sz b p.1 ∧ sz c p.2) : sz (1 + s.length * (c + k * b + 1)) (momQ s k) := sz_momf s 0 1 h sz_0
/-- what an operation on pairs does -/
def OpT (F : List W → Mem → Rs W) (op : Rat → Rat → Rat) : Prop := ∀ (a b : Nat) (p q : Rat) (m : Mem), sz a p → sz b q → a + b ≤ 4400 → F [.d (rq p), .d (rq q)] m = .ok (.d (rq (op p q))) m
theorem opT_add : OpT F_add (· + ·) := fun _ _ _ _ _ h1 h2 h => add_ok h1 h2 h
theorem opT_ladd : OpT F__law_add (· + ·) := fun _ _ _ _ _ h1 h2 h => ladd_ok h1 h2 h
theorem opT_times : OpT F_times (· * ·) := fun _ _ _ _ _ h1 h2 h => times_ok h1 h2 h
theorem opT_ltimes : OpT F__law_times (· * ·) := fun _ _ _ _ _ h1 h2 h => ltimes_ok h1 h2 h
theorem tup_rq {q : Rat} {m : Mem} : fTup [.d (rq q)] m = .ok (.d (rq q)) m := rfl
section
variable {FT FA : List W → Mem → Rs W} {A4 : EM W}
theorem part_go (hT : OpT FT (· * ·)) {b c : Nat} {p : LC} {m : Mem} {x0 x1 x2 x4 : Option W} (h1 : sz b p.1) (h2 : sz c p.2) : ∀ (items : List D) (k : Nat) (x6 : Option W), c + (k + items.length) * b ≤ 4400 →
    ∃ y, forL (gN 6) (sSeq (sSet 5 (mCall 2 FT (mCons (mVar 5) (mCons (mVar 3) (mNil))))) (sSkip)) items [x0, x1, x2, some (.d (rq p.1)), x4, some (.d (rq (partQ p k))), x6] m = .nx [x0, x1, x2, some (.d (rq p.1)), x4, some (.d (rq (partQ p (k + items.length)))), y] m
  | [], k, x6, _ => ⟨x6, rfl⟩
  | i :: items, k, x6, hb => by
    rw [List.length_cons] at hb ⊢
    have hb2 : (k + 1) * b ≤ (k + (items.length + 1)) * b := Nat.mul_le_mul_right _ (by omega)
    rw [Nat.add_mul k 1, Nat.one_mul] at hb2
    have e1 := hT _ _ _ _ m (sz_part h1 h2 k) h1 (by omega)
    obtain ⟨y, e2⟩ := part_go hT (m := m) (x0 := x0) (x1 := x1) (x2 := x2) (x4 := x4) h1 h2 items (k + 1) (some (.d i)) (by rw [show k + 1 + items.length = k + (items.length + 1) by omega]; exact hb)
    refine ⟨y, ?_⟩
    rw [for_step (r1 := [x0, x1, x2, some (.d (rq p.1)), x4, some (.d (rq (partQ p k))), some (.d i)]) (r := [x0, x1, x2, some (.d (rq p.1)), x4, some (.d (rq (partQ p (k + 1)))), some (.d i)]) (m1 := m) (m' := m) rfl (by simp [e1, partQ]), e2, show k + 1 + items.length = k + (items.length + 1) by omega]
abbrev mBody (FT FA : List W → Mem → Rs W) (A4 : EM W) : SM := sSeq (sSet 5 A4) (sSeq (sFor (mRange1 (mVar 1)) (gN 6) (sSeq (sSet 5 (mCall 2 FT (mCons (mVar 5) (mCons (mVar 3) (mNil))))) (sSkip))) (sSeq (sSet 2 (mCall 2 FA (mCons (mVar 2) (mCons (mVar 5) (mNil))))) (sSkip)))
theorem mBody_ok {x0 x1 x5 x6 y : Option W} {d1 d2 d3 a a' : D} {m : Mem} {items : List D} (h4 : A4 [x0, x1, some (.d a), some (.d d1), some (.d d2), x5, x6] m = .ok (.d d2) m) (hr : mRange1 (mVar 1) [x0, x1, some (.d a), some (.d d1), some (.d d2), some (.d d2), x6] m = .ok items m)
    (hf : forL (gN 6) (sSeq (sSet 5 (mCall 2 FT (mCons (mVar 5) (mCons (mVar 3) (mNil))))) (sSkip)) items [x0, x1, some (.d a), some (.d d1), some (.d d2), some (.d d2), x6] m = .nx [x0, x1, some (.d a), some (.d d1), some (.d d2), some (.d d3), y] m)
    (ha : FA [.d a, .d d3] m = .ok (.d a') m) : mBody FT FA A4 [x0, x1, some (.d a), some (.d d1), some (.d d2), x5, x6] m = .nx [x0, x1, some (.d a'), some (.d d1), some (.d d2), some (.d d3), y] m := by
  have hs : sSet 2 (mCall 2 FA (mCons (mVar 2) (mCons (mVar 5) (mNil)))) [x0, x1, some (.d a), some (.d d1), some (.d d2), some (.d d3), y] m = .nx [x0, x1, some (.d a'), some (.d d1), some (.d d2), some (.d d3), y] m := by
    rw [e_Set, e_Call]
    have : (mCons (mVar 2) (mCons (mVar 5) (mNil))) [x0, x1, some (.d a), some (.d d1), some (.d d2), some (.d d3), y] m = .ok [.d a, .d d3] m := rfl
    rw [this, ev_bind, if_pos (show [W.d a, W.d d3].length = 2 from rfl), ha]
    rfl
  have h1 : sSet 5 A4 [x0, x1, some (.d a), some (.d d1), some (.d d2), x5, x6] m = .nx [x0, x1, some (.d a), some (.d d1), some (.d d2), some (.d d2), x6] m := by
    rw [e_Set, h4]; rfl
  have h2 : sFor (mRange1 (mVar 1)) (gN 6) (sSeq (sSet 5 (mCall 2 FT (mCons (mVar 5) (mCons (mVar 3) (mNil))))) (sSkip)) [x0, x1, some (.d a), some (.d d1), some (.d d2), some (.d d2), x6] m = .nx [x0, x1, some (.d a), some (.d d1), some (.d d2), some (.d d3), y] m := by
    rw [e_For, hr, ev_thenS, hf]
  unfold mBody
  rw [e_Seq, h1]
  show (sSeq _ _ : SM) _ m = _
  rw [e_Seq, h2]
  show (sSeq _ _ : SM) _ m = _
  rw [e_Seq, hs]
  rfl
theorem mom_go (hT : OpT FT (· * ·)) (hA : OpT FA (· + ·)) (h4 : ∀ (q : Rat) (x0 x1 x2 x3 x5 x6 : Option W) (m : Mem), A4 [x0, x1, x2, x3, some (.d (rq q)), x5, x6] m = .ok (.d (rq q)) m) {b c k : Nat} {m : Mem} {x0 : Option W} (hk : k ≤ 1000) : ∀ (s : List LC) (acc : Rat) (e : Nat) (x3 x4 x5 x6 : Option W), (∀ p ∈ s, sz b p.1 ∧ sz c p.2) → sz e acc → e + s.length * (c + k * b + 1) + (c + k * b) ≤ 4400 →
    ∃ y3 y4 y5 y6, forL (gT [gN 3, gN 4]) (mBody FT FA A4) (s.map pr) [x0, some (.d (.int k)), some (.d (rq acc)), x3, x4, x5, x6] m = .nx [x0, some (.d (.int k)), some (.d (rq (s.foldl (fun a p => a + partQ p k) acc))), y3, y4, y5, y6] m := by
  intro s
  induction s with
  | nil => intro acc e x3 x4 x5 x6 _ _ _; exact ⟨x3, x4, x5, x6, rfl⟩
  | cons p s ih =>
    intro acc e x3 x4 x5 x6 hl h hb
    rw [List.length_cons, Nat.add_mul, Nat.one_mul] at hb
    have hx := hl p List.mem_cons_self
    obtain ⟨y, e1⟩ := part_go hT (m := m) (x0 := x0) (x1 := some (.d (.int k))) (x2 := some (.d (rq acc))) (x4 := some (.d (rq p.2))) hx.1 hx.2 (rangeD 0 k) 0 x6 (by rw [range_len]; simp; omega)
    rw [range_len, show (0 + ((k : Int) - 0).toNat) = k by omega] at e1
    have g2 := mBody_ok (A4 := A4) (h4 p.2 x0 (some (.d (.int k))) (some (.d (rq acc))) (some (.d (rq p.1))) x5 x6 m) (range1_ok rfl (by omega) (by omega)) e1 (hA _ _ _ _ m h (sz_part hx.1 hx.2 k) (by omega))
    obtain ⟨y3, y4, y5, y6, e3⟩ := ih (acc + partQ p k) (e + (c + k * b) + 1) (some (.d (rq p.1))) (some (.d (rq p.2))) (some (.d (rq (partQ p k)))) y (fun y hy => hl y (List.mem_cons_of_mem _ hy)) (sz_add h (sz_part hx.1 hx.2 k)) (by omega)
    exact ⟨y3, y4, y5, y6, by rw [List.map_cons, for_step (show gT [gN 3, gN 4] (.d (pr p)) [x0, some (.d (.int k)), some (.d (rq acc)), x3, x4, x5, x6] m = some ([x0, some (.d (.int k)), some (.d (rq acc)), some (.d (rq p.1)), some (.d (rq p.2)), x5, x6], m) from rfl) g2, e3]; rfl⟩
end
/-! tests of fractions -/
def isRate (q : Rat) : Bool := decide (0 < q.num) && (decide (q.num ≤ 1000) && decide ((q.den : Int) ≤ 1000))
def isCh (q : Rat) : Bool := decide (0 ≤ q.num) && decide (q.num ≤ (q.den : Int))
theorem frac_ok {b : Nat} {q : Rat} {m : Mem} (h : sz b q) (hb : b ≤ 4400) : F_is_fraction [.d (rq q)] m = .ok (.d (.bool true)) m := by
  have e1 := common_ok (a := q.num.natAbs) (b := q.den) (m := m) (le44 h.2 hb)
  rw [show Nat.gcd q.num.natAbs q.den = 1 from q.reduced] at e1
  have hd : (0 : Int) < (q.den : Int) := by have := q.den_pos; omega
  unfold F_is_fraction runF m_is_fraction startE rq
  have hd2 : 0 < q.den := q.den_pos
  simp [abs_nat, e1, hd, hd2, fin]
theorem rate_ok {b : Nat} {q : Rat} {m : Mem} (h : sz b q) (hb : b ≤ 4400) : F_is_rate [.d (rq q)] m = .ok (.d (.bool (isRate q))) m := by
  unfold F_is_rate runF m_is_rate startE isRate
  simp only [e_Seq, e_Ret, e_AndV, e_Call, e_Cons, e_Nil, e_Var, List.map_cons, List.map_nil, List.cons_append, List.nil_append, List.getElem?_cons_zero, ev_bindV, ev_bind, val_d, List.length_cons, List.length_nil, Nat.reduceAdd, if_true, frac_ok h hb, tru_d, tru_b]
  unfold rq
  by_cases h1 : 0 < q.num <;> by_cases h2 : q.num ≤ 1000 <;> by_cases h3 : (q.den : Int) ≤ 1000 <;> simp [h1, h2, h3, fin]
end Law
set_option exponentiation.threshold 5000
namespace Law
open PySem PySem.Spec PyProof.Rows L2 Den
/-! one step at a time -/
section
variable {rho : Den.Env} {m m1 m2 : Mem} {a c : EM W} {r : EM (List W)} {w w2 x : W} {ws : List W} {n i : Nat} {fm : List W → Mem → Rs W} {g : GM} {d : SM} {t u : EM Bool}
theorem nil_run : mNil rho m = .ok [] m := rfl
theorem cons_run (h1 : a rho m = .ok w m1) (h2 : r rho m1 = .ok ws m2) : mCons a r rho m = .ok (val w :: ws) m2 := by rw [e_Cons, h1, ev_bindV, h2, ev_bind]
theorem var_run (h : rho[i]? = some (some w)) : mVar i rho m = .ok w m := by rw [e_Var, h]
theorem call_run (h1 : r rho m = .ok ws m1) (hl : ws.length = n) (h2 : fm ws m1 = .ok w m2) : mCall n fm r rho m = .ok w m2 := by rw [e_Call, h1, ev_bind, if_pos hl, h2]
theorem tup_run {xs : List D} (h1 : r rho m = .ok ws m1) (hf : frzAll ws m1 = some (xs, m2)) (hs : small xs.length = true) : mTup r rho m = .ok (.d (.tuple xs)) m2 := by
  unfold mTup
  rw [h1, ev_bind, hf]
  show (if small xs.length = true then _ else _) = _
  rw [if_pos hs]
theorem lst_run {xs : List D} (h1 : r rho m = .ok ws m1) (hf : frzAll ws m1 = some (xs, m2)) (hs : small xs.length = true) : mLst r rho m = .ok (.n (.list xs)) m2 := by
  unfold mLst
  rw [h1, ev_bind, hf]
  show (if small xs.length = true then _ else _) = _
  rw [if_pos hs]
theorem asg_run {rho' : Den.Env} (h1 : a rho m = .ok w m1) (h2 : g (val w) rho m1 = some (rho', m2)) : sAsg g a rho m = .nx rho' m2 := by
  unfold sAsg
  rw [h1]
  show (match g (val w) rho m1 with | some (r, m') => Out.nx r m' | none => .no) = _
  rw [h2]
theorem add_run (h1 : a rho m = .ok w m1) (h2 : c rho m1 = .ok w2 m2) (h3 : lift2 addD (val w) (val w2) m2 = .ok x m2) : mAdd a c rho m = .ok x m2 := by
  show (a rho m).bindV _ = _
  rw [h1, ev_bindV, h2, ev_bindV, h3]
theorem op_run {f : W → W → Mem → Rs W} (h1 : a rho m = .ok w m1) (h2 : c rho m1 = .ok w2 m2) (h3 : f (val w) (val w2) m2 = .ok x m2) : mOp2 a c f rho m = .ok x m2 := by
  rw [e_Op2, h1, ev_bindV, h2, ev_bindV, h3]
theorem lift2_run {f : D → D → Option W} {y z : D} (h1 : peek m w = some y) (h2 : peek m w2 = some z) (h3 : f y z = some x) : lift2 f w w2 m = .ok x m := by
  rw [f_lift2, h1, h2]
  show (match f y z with | some w => Rs.ok w m | none => .no) = _
  rw [h3]
theorem bool_run {k : Bool} (h : a rho m = .ok (.d (.bool k)) m1) : mBool a rho m = .ok k m1 := by rw [e_Bool, h]; rfl
theorem tru_run {k : Bool} (h : a rho m = .ok w m1) (h2 : truW (val w) m1 = .ok k m2) : mTru a rho m = .ok k m2 := by rw [e_Tru, h, ev_bindV, h2]
theorem or_no (h1 : t rho m = .ok false m1) (h2 : u rho m1 = .ok false m2) : mOrT t u rho m = .ok false m2 := by rw [e_OrT, h1, ev_bind, if_neg Bool.false_ne_true, h2]
theorem and_run {k : Bool} (h1 : t rho m = .ok true m1) (h2 : u rho m1 = .ok k m2) : mAndT t u rho m = .ok k m2 := by rw [e_AndT, h1, ev_bind, if_pos rfl, h2]
theorem and_no (h1 : t rho m = .ok false m1) : mAndT t u rho m = .ok false m1 := by rw [e_AndT, h1, ev_bind, if_neg Bool.false_ne_true]
theorem if_no (h : t rho m = .ok false m1) : sIf t d (sSkip) rho m = .nx rho m1 := by rw [e_IfS, h, ev_thenS, if_neg Bool.false_ne_true]; rfl
theorem if_yes {d2 : SM} (h : t rho m = .ok true m1) : sIf t d d2 rho m = d rho m1 := by rw [e_IfS, h, ev_thenS, if_pos rfl]
theorem if_else {d2 : SM} (h : t rho m = .ok false m1) : sIf t d d2 rho m = d2 rho m1 := by rw [e_IfS, h, ev_thenS, if_neg Bool.false_ne_true]
theorem ix_run (h1 : a rho m = .ok w m1) (h2 : c rho m1 = .ok w2 m2) (h3 : fIx (val w) (val w2) m2 = .ok x m2) : mIx a c rho m = .ok x m2 := by rw [e_Ix, h1, ev_bindV, h2, ev_bindV, h3]
theorem b_run (h1 : r rho m = .ok ws m1) (h2 : fm ws m1 = .ok w m2) : mB r fm rho m = .ok w m2 := by rw [e_B, h1, ev_bind, h2]
theorem ifE_yes {b2 : EM W} (h : t rho m = .ok true m1) : mIf t a b2 rho m = a rho m1 := by rw [e_If, h, ev_bind, if_pos rfl]
theorem ifE_no {b2 : EM W} (h : t rho m = .ok false m1) : mIf t a b2 rho m = b2 rho m1 := by rw [e_If, h, ev_bind, if_neg Bool.false_ne_true]
theorem par_run {j : Nat} (h1 : a rho m = .ok w m1) (h2 : c rho m1 = .ok w2 m2) : sPar i j a c rho m = .nx ((rho.set i (some (val w))).set j (some (val w2))) m2 := by
  unfold sPar
  rw [h1]
  show ((c rho m1).thenV rho fun y m2 => Out.nx ((rho.set i (some (val w))).set j (some y)) m2) = _
  rw [h2]; rfl
theorem const_run {v : D} : mC v rho m = .ok (.d v) m := rfl
theorem r17 : mRange2 (mC (.int 1)) (mC (.int 7)) rho m = .ok ((List.range 6).map fun k : Nat => PyData.int ((k : Int) + 1)) m := rfl
theorem r07 : mRange1 (mC (.int 7)) rho m = .ok ((List.range 7).map fun k : Nat => PyData.int (k : Int)) m := rfl
theorem mod_9 {i : Int} : modD i 9 = some (.int (i % 9)) := mod_pos (by decide)
end
end Law
set_option exponentiation.threshold 5000
namespace Law
open PySem PySem.Spec PyProof.Rows L2 Den
/-! what is left behind: the plain maths -/
def sR : Nat → (Nat → Rat) → Rat
  | 0, _ => 0
  | n + 1, f => sR n f + f n
theorem sR_congr {f g : Nat → Rat} : ∀ {n : Nat}, (∀ i, i < n → f i = g i) → sR n f = sR n g
  | 0, _ => rfl
  | n + 1, h => by
    show sR n f + f n = sR n g + g n
    rw [sR_congr (n := n) fun i hi => h i (by omega), h n (by omega)]
theorem sR_le {f g : Nat → Rat} : ∀ {n : Nat}, (∀ i, i < n → f i ≤ g i) → sR n f ≤ sR n g
  | 0, _ => by show (0 : Rat) ≤ 0; grind
  | n + 1, h => by
    have h1 := sR_le (n := n) fun i hi => h i (by omega)
    have h2 := h n (by omega)
    show sR n f + f n ≤ sR n g + g n
    grind
theorem sR_lin (a b : Rat) (f g : Nat → Rat) : ∀ n : Nat, sR n (fun i => a * f i + b * g i) = a * sR n f + b * sR n g
  | 0 => by show (0 : Rat) = a * 0 + b * 0; grind
  | n + 1 => by
    have := sR_lin a b f g n
    show sR n (fun i => a * f i + b * g i) + (a * f n + b * g n) = a * (sR n f + f n) + b * (sR n g + g n)
    grind
theorem sR_0 : ∀ n : Nat, sR n (fun _ => 0) = 0
  | 0 => rfl
  | n + 1 => by have := sR_0 n; show sR n (fun _ => 0) + 0 = 0; grind
theorem sR_nn {f : Nat → Rat} {n : Nat} (h : ∀ i, i < n → 0 ≤ f i) : 0 ≤ sR n f := by
  have := sR_le (f := fun _ => 0) h
  rw [sR_0] at this
  exact this
theorem sR_shift (f : Nat → Rat) : ∀ n : Nat, sR (n + 1) f = f 0 + sR n (fun i => f (i + 1))
  | 0 => by show 0 + f 0 = f 0 + 0; grind
  | n + 1 => by
    have := sR_shift f n
    show sR (n + 1) f + f (n + 1) = f 0 + (sR n (fun i => f (i + 1)) + f (n + 1))
    grind
theorem nonneg_of_mul {a b : Rat} (hb : 0 < b) (h : 0 ≤ a * b) : 0 ≤ a := by
  by_cases z : 0 ≤ a
  · exact z
  · have h1 : 0 < -a := by grind
    have h2 := Rat.mul_pos h1 hb
    grind
theorem le_of_mul {a b c : Rat} (hc : 0 < c) (h : a * c ≤ b * c) : a ≤ b := by
  have := nonneg_of_mul (a := b - a) hc (by grind)
  grind
theorem mul_le {a b c : Rat} (hc : 0 ≤ c) (h : a ≤ b) : c * a ≤ c * b := by
  have := Rat.mul_nonneg hc (show 0 ≤ b - a by grind)
  grind
/-! the chain -/
section
variable {a A p : Nat → Rat} {P0 : Rat}
theorem level (hA0 : A 0 = 1 - a 0) (hA : ∀ n, A (n + 1) = A n - a (n + 1)) (h0 : p 0 * a 0 = P0 - P0 * a 0) (h : ∀ n, p (n + 1) * a 0 = p n - P0 * a (n + 1) - sR (n + 1) (fun i => p i * a (n + 1 - i))) :
    ∀ n, p n * a 0 = P0 * A n + sR n (fun i => p i * A (n - i))
  | 0 => by
    rw [h0, hA0]
    show _ = _ + (0 : Rat)
    grind
  | n + 1 => by
    have ih := level hA0 hA h0 h n
    have e : sR (n + 1) (fun i => p i * A (n + 1 - i)) = sR (n + 1) (fun i => 1 * (p i * A (n - i)) + (-1) * (p i * a (n + 1 - i))) := sR_congr fun i hi => by
      have e1 : n + 1 - i = (n - i) + 1 := by omega
      rw [e1, hA]; grind
    rw [e, sR_lin, hA, h]
    have e2 : sR (n + 1) (fun i => p i * A (n - i)) = sR n (fun i => p i * A (n - i)) + p n * A 0 := by
      show _ + p n * A (n - n) = _
      rw [Nat.sub_self]
    rw [e2, hA0]
    generalize sR n (fun i => p i * A (n - i)) = S at *
    generalize sR (n + 1) (fun i => p i * a (n + 1 - i)) = T at *
    grind
theorem p_nn (ha : 0 < a 0) (hA : ∀ n, 0 ≤ A n) (hP : 0 ≤ P0) (h : ∀ n, p n * a 0 = P0 * A n + sR n (fun i => p i * A (n - i))) (n : Nat) : 0 ≤ p n := by
  induction n using Nat.strongRecOn with
  | _ n ih =>
    refine nonneg_of_mul ha ?_
    rw [h n]
    have h1 := Rat.mul_nonneg hP (hA n)
    have h2 : 0 ≤ sR n (fun i => p i * A (n - i)) := sR_nn fun i hi => Rat.mul_nonneg (ih i hi) (hA _)
    grind
theorem weighted (w : Nat → Rat) (h : ∀ n, p n * a 0 = P0 * A n + sR n (fun i => p i * A (n - i))) : ∀ N, sR N (fun n => w (n + 1) * p n) * a 0 = P0 * sR N (fun n => w (n + 1) * A n) + sR N (fun i => p i * sR (N - 1 - i) (fun m => w (m + i + 2) * A (m + 1)))
  | 0 => by show (0 : Rat) * _ = P0 * 0 + 0; grind
  | N + 1 => by
    have ih := weighted w h N
    have e : sR N (fun i => p i * sR (N + 1 - 1 - i) (fun m => w (m + i + 2) * A (m + 1))) = sR N (fun i => 1 * (p i * sR (N - 1 - i) (fun m => w (m + i + 2) * A (m + 1))) + w (N + 1) * (p i * A (N - i))) := sR_congr fun i hi => by
      have e1 : N + 1 - 1 - i = (N - 1 - i) + 1 := by omega
      rw [e1]
      show p i * (sR (N - 1 - i) _ + w (N - 1 - i + i + 2) * A (N - 1 - i + 1)) = _
      rw [show N - 1 - i + i + 2 = N + 1 by omega, show N - 1 - i + 1 = N - i by omega]
      grind
    show (sR N (fun n => w (n + 1) * p n) + w (N + 1) * p N) * a 0 = P0 * (sR N (fun n => w (n + 1) * A n) + w (N + 1) * A N) + (sR N (fun i => p i * sR (N + 1 - 1 - i) (fun m => w (m + i + 2) * A (m + 1))) + p N * sR (N + 1 - 1 - N) (fun m => w (m + N + 2) * A (m + 1)))
    have h2 := h N
    rw [e, sR_lin, show N + 1 - 1 - N = 0 by omega]
    show _ = _ + (_ + p N * 0)
    grind
end
/-- the bounds of the sums -/
structure Tails (A : Nat → Rat) (ρ q2 : Rat) : Prop where
  nn : ∀ n, 0 ≤ A n
  s1 : ∀ k, sR k A ≤ ρ
  s2 : ∀ k, sR k (fun m => (m : Rat) * A m) ≤ q2
section
variable {a A p : Nat → Rat} {P0 ρ q2 : Rat}
theorem tail_1 (T : Tails A ρ q2) (k : Nat) : sR k (fun m => A (m + 1)) ≤ ρ - A 0 := by
  have h1 := sR_shift A k
  have h2 := T.s1 (k + 1)
  grind
theorem tail_2 (T : Tails A ρ q2) (k : Nat) : sR k (fun m => ((m : Rat) + 1) * A (m + 1)) ≤ q2 := by
  have h1 := sR_shift (fun m => (m : Rat) * A m) k
  have h2 := T.s2 (k + 1)
  have e : sR k (fun m => ((m : Rat) + 1) * A (m + 1)) = sR k (fun i => ((i + 1 : Nat) : Rat) * A (i + 1)) := sR_congr fun i _ => by
    rw [Rat.natCast_add]; rfl
  have e0 : ((0 : Nat) : Rat) = 0 := rfl
  rw [e0] at h1
  rw [e]; grind
theorem sum_p (T : Tails A ρ q2) (hA0 : A 0 = 1 - a 0) (hr : ρ < 1) (hP : P0 = 1 - ρ) (pn : ∀ n, 0 ≤ p n) (h : ∀ n, p n * a 0 = P0 * A n + sR n (fun i => p i * A (n - i))) (N : Nat) : sR N p ≤ ρ := by
  have e := weighted (fun _ => 1) h N
  have e1 : sR N (fun n => (1 : Rat) * p n) = sR N p := sR_congr fun _ _ => by grind
  have e2 : sR N (fun n => (1 : Rat) * A n) = sR N A := sR_congr fun _ _ => by grind
  have h3 : sR N (fun i => p i * sR (N - 1 - i) (fun m => (1 : Rat) * A (m + 1))) ≤ sR N (fun i => (ρ - A 0) * p i + 0 * 0) := sR_le fun i _ => by
    have e3 : sR (N - 1 - i) (fun m => (1 : Rat) * A (m + 1)) = sR (N - 1 - i) (fun m => A (m + 1)) := sR_congr fun _ _ => by grind
    rw [e3]
    have := mul_le (pn i) (tail_1 T (N - 1 - i))
    grind
  have h4 := mul_le (c := P0) (by grind) (T.s1 N)
  rw [sR_lin (ρ - A 0) 0 p (fun _ => 0), sR_0, hA0] at h3
  rw [e1, e2] at e
  clear e1 e2
  have key : sR N p * (1 - ρ) ≤ ρ * (1 - ρ) := by
    generalize sR N (fun i => p i * sR (N - 1 - i) (fun m => (1 : Rat) * A (m + 1))) = S at *
    generalize sR N p = U at *
    generalize sR N A = S1 at *
    subst hP
    clear h pn
    generalize a 0 = a0 at *
    generalize A 0 = A0 at *
    grind
  exact le_of_mul (by grind) key
theorem mean_p (T : Tails A ρ q2) (hq : 0 ≤ q2) (hA0 : A 0 = 1 - a 0) (hr : ρ < 1) (hP : P0 = 1 - ρ) (pn : ∀ n, 0 ≤ p n) (h : ∀ n, p n * a 0 = P0 * A n + sR n (fun i => p i * A (n - i))) (N : Nat) :
    sR N (fun n => ((n : Rat) + 1) * p n) * (1 - ρ) ≤ ρ * (1 - ρ) + q2 := by
  have e := weighted (fun n => (n : Rat)) h N
  have cast1 : ∀ n : Nat, ((n + 1 : Nat) : Rat) = (n : Rat) + 1 := fun n => by rw [Rat.natCast_add]; rfl
  have e1 : sR N (fun n => ((n + 1 : Nat) : Rat) * p n) = sR N (fun n => ((n : Rat) + 1) * p n) := sR_congr fun n _ => by rw [cast1]
  have e2 : sR N (fun n => ((n + 1 : Nat) : Rat) * A n) = sR N (fun n => 1 * ((n : Rat) * A n) + 1 * A n) := sR_congr fun n _ => by rw [cast1]; grind
  rw [sR_lin] at e2
  have h3 : sR N (fun i => p i * sR (N - 1 - i) (fun m => ((m + i + 2 : Nat) : Rat) * A (m + 1))) ≤ sR N (fun i => q2 * p i + (ρ - A 0) * (((i : Rat) + 1) * p i)) := sR_le fun i _ => by
    have e3 : sR (N - 1 - i) (fun m => ((m + i + 2 : Nat) : Rat) * A (m + 1)) = sR (N - 1 - i) (fun m => 1 * (((m : Rat) + 1) * A (m + 1)) + ((i : Rat) + 1) * A (m + 1)) := sR_congr fun m _ => by
      rw [show m + i + 2 = (m + 1) + (i + 1) by omega, Rat.natCast_add, cast1, cast1]; grind
    have hi : (0 : Rat) ≤ (i : Rat) + 1 := by
      have : (0 : Rat) ≤ (i : Rat) := by exact_mod_cast Nat.zero_le i
      grind
    have h5 := mul_le hi (tail_1 T (N - 1 - i))
    have h6 := tail_2 T (N - 1 - i)
    have h7 : sR (N - 1 - i) (fun m => ((m + i + 2 : Nat) : Rat) * A (m + 1)) ≤ q2 + ((i : Rat) + 1) * (ρ - A 0) := by
      rw [e3, sR_lin]; grind
    have := mul_le (pn i) h7
    grind
  rw [sR_lin] at h3
  have h4 := mul_le (c := P0) (by grind) (show sR N (fun n => ((n + 1 : Nat) : Rat) * A n) ≤ q2 + ρ by rw [e2]; have := T.s1 N; have := T.s2 N; grind)
  have h8 := sum_p T hA0 hr hP pn h N
  have h9 := mul_le hq h8
  have e' : sR N (fun n => ((n : Rat) + 1) * p n) * a 0 = P0 * sR N (fun n => ((n + 1 : Nat) : Rat) * A n) + sR N (fun i => p i * sR (N - 1 - i) (fun m => ((m + i + 2 : Nat) : Rat) * A (m + 1))) := by
    rw [← e1]; exact e
  generalize sR N (fun n => ((n : Rat) + 1) * p n) = V at *
  generalize sR N (fun i => p i * sR (N - 1 - i) (fun m => ((m + i + 2 : Nat) : Rat) * A (m + 1))) = S at *
  generalize sR N (fun n => ((n + 1 : Nat) : Rat) * A n) = S1 at *
  generalize sR N p = U at *
  subst hP
  rw [hA0] at h3
  clear h e e1 e2 cast1 pn hA0 h8
  generalize a 0 = a0 at *
  grind
end
/-! what comes in a slot after the other -/
def bn (c : Rat) : Nat → Nat → Rat
  | 0, 0 => 1
  | 0, _ + 1 => 0
  | s + 1, 0 => bn c s 0 * (1 - c)
  | s + 1, n + 1 => bn c s (n + 1) * (1 - c) + bn c s n * c
def tl (c : Rat) : Nat → Nat → Rat
  | 0, _ => 0
  | s + 1, 0 => tl c s 0 * (1 - c) + c
  | s + 1, n + 1 => tl c s (n + 1) * (1 - c) + tl c s n * c
section
variable {c : Rat}
theorem tl_0 : ∀ s, tl c s 0 = 1 - bn c s 0
  | 0 => by show (0 : Rat) = 1 - 1; grind
  | s + 1 => by have := tl_0 s; show tl c s 0 * (1 - c) + c = 1 - bn c s 0 * (1 - c); grind
theorem tl_S : ∀ s n, tl c s (n + 1) = tl c s n - bn c s (n + 1)
  | 0, n => by show (0 : Rat) = 0 - 0; grind
  | s + 1, 0 => by
    have h1 := tl_S s 0
    have h2 := tl_0 (c := c) s
    show tl c s 1 * (1 - c) + tl c s 0 * c = tl c s 0 * (1 - c) + c - (bn c s 1 * (1 - c) + bn c s 0 * c)
    rw [Nat.zero_add] at h1
    grind
  | s + 1, n + 1 => by
    have h1 := tl_S s n
    have h2 := tl_S s (n + 1)
    show tl c s (n + 1 + 1) * (1 - c) + tl c s (n + 1) * c = tl c s (n + 1) * (1 - c) + tl c s n * c - (bn c s (n + 1 + 1) * (1 - c) + bn c s (n + 1) * c)
    grind
theorem bn_nn (h0 : 0 ≤ c) (h1 : c ≤ 1) : ∀ s n, 0 ≤ bn c s n
  | 0, 0 => by show (0 : Rat) ≤ 1; grind
  | 0, n + 1 => by show (0 : Rat) ≤ 0; grind
  | s + 1, 0 => Rat.mul_nonneg (bn_nn h0 h1 s 0) (by grind)
  | s + 1, n + 1 => by
    have e1 := Rat.mul_nonneg (bn_nn h0 h1 s (n + 1)) (show 0 ≤ 1 - c by grind)
    have e2 := Rat.mul_nonneg (bn_nn h0 h1 s n) h0
    show 0 ≤ bn c s (n + 1) * (1 - c) + bn c s n * c
    grind
theorem bn_le (h0 : 0 ≤ c) (h1 : c ≤ 1) : ∀ s n, bn c s n ≤ 1
  | 0, 0 => by show (1 : Rat) ≤ 1; grind
  | 0, n + 1 => by show (0 : Rat) ≤ 1; grind
  | s + 1, 0 => by
    have e1 := mul_le (show 0 ≤ 1 - c by grind) (bn_le h0 h1 s 0)
    show bn c s 0 * (1 - c) ≤ 1
    grind
  | s + 1, n + 1 => by
    have e1 := mul_le (show 0 ≤ 1 - c by grind) (bn_le h0 h1 s (n + 1))
    have e2 := mul_le h0 (bn_le h0 h1 s n)
    show bn c s (n + 1) * (1 - c) + bn c s n * c ≤ 1
    grind
theorem bn_pos (h1 : c < 1) : ∀ s, 0 < bn c s 0
  | 0 => by show (0 : Rat) < 1; grind
  | s + 1 => Rat.mul_pos (bn_pos h1 s) (by grind)
theorem tl_nn (h0 : 0 ≤ c) (h1 : c ≤ 1) : ∀ s n, 0 ≤ tl c s n
  | 0, n => by show (0 : Rat) ≤ 0; grind
  | s + 1, 0 => by
    have e1 := Rat.mul_nonneg (tl_nn h0 h1 s 0) (show 0 ≤ 1 - c by grind)
    show 0 ≤ tl c s 0 * (1 - c) + c
    grind
  | s + 1, n + 1 => by
    have e1 := Rat.mul_nonneg (tl_nn h0 h1 s (n + 1)) (show 0 ≤ 1 - c by grind)
    have e2 := Rat.mul_nonneg (tl_nn h0 h1 s n) h0
    show 0 ≤ tl c s (n + 1) * (1 - c) + tl c s n * c
    grind
theorem cast_S (n : Nat) : ((n + 1 : Nat) : Rat) = (n : Rat) + 1 := by rw [Rat.natCast_add]; rfl
theorem nat_nn (n : Nat) : (0 : Rat) ≤ (n : Rat) := by exact_mod_cast Nat.zero_le n
theorem tl_s1 (h0 : 0 ≤ c) (h1 : c ≤ 1) : ∀ s k, sR k (tl c s) ≤ (s : Rat) * c
  | 0, k => by
    have : sR k (tl c 0) = 0 := (sR_congr (fun _ _ => rfl)).trans (sR_0 k)
    rw [this]; show (0 : Rat) ≤ 0 * c; grind
  | s + 1, 0 => by
    show (0 : Rat) ≤ _
    exact Rat.mul_nonneg (nat_nn _) h0
  | s + 1, k + 1 => by
    have e1 := sR_shift (tl c (s + 1)) k
    have e2 : sR k (fun i => tl c (s + 1) (i + 1)) = sR k (fun i => (1 - c) * tl c s (i + 1) + c * tl c s i) := sR_congr fun i _ => by
      show tl c s (i + 1) * (1 - c) + tl c s i * c = _
      grind
    rw [sR_lin] at e2
    have e3 := sR_shift (tl c s) k
    have h2 := mul_le (show 0 ≤ 1 - c by grind) (tl_s1 h0 h1 s (k + 1))
    have h3 := mul_le h0 (tl_s1 h0 h1 s k)
    have e4 : tl c (s + 1) 0 = tl c s 0 * (1 - c) + c := rfl
    rw [cast_S, e1, e4, e2]
    rw [e3] at h2
    have e5 : sR k (fun i => tl c s i) = sR k (tl c s) := rfl
    rw [e5]
    clear e1 e2 e3 e4 e5
    generalize sR k (tl c s) = Y at *
    generalize sR k (fun i => tl c s (i + 1)) = X at *
    generalize tl c s 0 = X0 at *
    generalize (s : Rat) = S at *
    grind
theorem tl_s2 (h0 : 0 ≤ c) (h1 : c ≤ 1) : ∀ s k, 2 * sR k (fun n => (n : Rat) * tl c s n) ≤ c * c * ((s : Rat) * ((s : Rat) - 1))
  | 0, k => by
    have : sR k (fun n => (n : Rat) * tl c 0 n) = 0 := (sR_congr (fun n _ => by show (n : Rat) * 0 = 0; grind)).trans (sR_0 k)
    rw [this]
    show (2 : Rat) * 0 ≤ c * c * (0 * (0 - 1))
    grind
  | s + 1, 0 => by
    show (2 : Rat) * 0 ≤ _
    have h2 := Rat.mul_nonneg h0 h0
    have h3 := Rat.mul_nonneg (nat_nn (s + 1)) (nat_nn s)
    have h4 := Rat.mul_nonneg h2 h3
    rw [cast_S] at h4 ⊢
    grind
  | s + 1, k + 1 => by
    have e1 := sR_shift (fun n => (n : Rat) * tl c (s + 1) n) k
    have e0 : ((0 : Nat) : Rat) = 0 := rfl
    have e2 : sR k (fun i => ((i + 1 : Nat) : Rat) * tl c (s + 1) (i + 1)) = sR k (fun i => (1 - c) * (((i + 1 : Nat) : Rat) * tl c s (i + 1)) + c * (1 * ((i : Rat) * tl c s i) + 1 * tl c s i)) := sR_congr fun i _ => by
      show _ * (tl c s (i + 1) * (1 - c) + tl c s i * c) = _
      rw [cast_S]
      grind
    rw [sR_lin, sR_lin] at e2
    have e3 := sR_shift (fun n => (n : Rat) * tl c s n) k
    have h2 := mul_le (show 0 ≤ 1 - c by grind) (tl_s2 h0 h1 s (k + 1))
    have h3 := mul_le h0 (tl_s2 h0 h1 s k)
    have h4 := mul_le h0 (tl_s1 h0 h1 s k)
    have e5 : sR k (fun i => tl c s i) = sR k (tl c s) := rfl
    rw [e1, e2, e0, cast_S, e5]
    rw [e3, e0] at h2
    clear e1 e2 e3 e5 e0
    generalize sR k (tl c s) = Y at *
    generalize sR k (fun n => (n : Rat) * tl c s n) = Z at *
    generalize sR k (fun i => ((i + 1 : Nat) : Rat) * tl c s (i + 1)) = X at *
    generalize tl c s 0 = X0 at *
    generalize tl c (s + 1) 0 = X1 at *
    generalize (s : Rat) = S at *
    grind
end
end Law
set_option exponentiation.threshold 5000
namespace Law
open PySem PySem.Spec PyProof.Rows L2 Den
/-! lengths with chances; common denominators -/
abbrev NC := Nat × Rat
def wN (g : Nat → Rat) : List NC → Rat
  | [] => 0
  | z :: zs => z.2 * g z.1 + wN g zs
theorem wN_app (g : Nat → Rat) (z : NC) : ∀ zs : List NC, wN g (zs ++ [z]) = wN g zs + z.2 * g z.1
  | [] => by show z.2 * g z.1 + 0 = 0 + z.2 * g z.1; grind
  | y :: zs => by have := wN_app g z zs; show y.2 * g y.1 + wN g (zs ++ [z]) = y.2 * g y.1 + wN g zs + z.2 * g z.1; grind
theorem wN_congr {f g : Nat → Rat} : ∀ {zs : List NC}, (∀ z ∈ zs, f z.1 = g z.1) → wN f zs = wN g zs
  | [], _ => rfl
  | z :: zs, h => by
    have h1 := wN_congr (zs := zs) fun y hy => h y (List.mem_cons_of_mem _ hy)
    have h2 := h z List.mem_cons_self
    show z.2 * f z.1 + wN f zs = z.2 * g z.1 + wN g zs
    rw [h1, h2]
theorem wN_le {f g : Nat → Rat} : ∀ {zs : List NC}, (∀ z ∈ zs, 0 ≤ z.2 ∧ f z.1 ≤ g z.1) → wN f zs ≤ wN g zs
  | [], _ => by show (0 : Rat) ≤ 0; grind
  | z :: zs, h => by
    have h1 := wN_le (zs := zs) fun y hy => h y (List.mem_cons_of_mem _ hy)
    have h2 := h z List.mem_cons_self
    have h3 := mul_le h2.1 h2.2
    show z.2 * f z.1 + wN f zs ≤ z.2 * g z.1 + wN g zs
    grind
theorem wN_lin (a b : Rat) (f g : Nat → Rat) : ∀ zs : List NC, wN (fun s => a * f s + b * g s) zs = a * wN f zs + b * wN g zs
  | [] => by show (0 : Rat) = a * 0 + b * 0; grind
  | z :: zs => by
    have := wN_lin a b f g zs
    show z.2 * (a * f z.1 + b * g z.1) + wN (fun s => a * f s + b * g s) zs = a * (z.2 * f z.1 + wN f zs) + b * (z.2 * g z.1 + wN g zs)
    grind
theorem wN_0 : ∀ zs : List NC, wN (fun _ => 0) zs = 0
  | [] => rfl
  | z :: zs => by have := wN_0 zs; show z.2 * 0 + wN (fun _ => 0) zs = 0; grind
theorem wN_nn {f : Nat → Rat} {zs : List NC} (h : ∀ z ∈ zs, 0 ≤ z.2 ∧ 0 ≤ f z.1) : 0 ≤ wN f zs := by
  have := wN_le (f := fun _ => 0) h
  rw [wN_0] at this; exact this
theorem wN_sR (f : Nat → Nat → Rat) : ∀ (k : Nat) (zs : List NC), sR k (fun n => wN (fun s => f s n) zs) = wN (fun s => sR k (fun n => f s n)) zs
  | 0, zs => (wN_0 zs).symm
  | k + 1, zs => by
    have ih := wN_sR f k zs
    have e := wN_lin 1 1 (fun s => sR k (fun n => f s n)) (fun s => f s k) zs
    show sR k (fun n => wN (fun s => f s n) zs) + wN (fun s => f s k) zs = _
    rw [ih]
    have e2 : wN (fun s => 1 * sR k (fun n => f s n) + 1 * f s k) zs = wN (fun s => sR (k + 1) (fun n => f s n)) zs := wN_congr fun z _ => by
      show _ = sR k (fun n => f z.1 n) + f z.1 k
      grind
    rw [← e2, e]; grind
/-- q has a denominator that divides M -/
def dv (M : Nat) (q : Rat) : Prop := ∃ n : Int, q * (M : Rat) = (n : Rat)
section
variable {M N : Nat} {p q : Rat}
theorem dv_add (h : dv M p) (h2 : dv M q) : dv M (p + q) := by
  obtain ⟨a, ha⟩ := h; obtain ⟨b, hb⟩ := h2
  exact ⟨a + b, by rw [Rat.intCast_add]; grind⟩
theorem dv_sub (h : dv M p) (h2 : dv M q) : dv M (p - q) := by
  obtain ⟨a, ha⟩ := h; obtain ⟨b, hb⟩ := h2
  exact ⟨a - b, by rw [Rat.intCast_sub]; grind⟩
theorem dv_mul (h : dv M p) (h2 : dv N q) : dv (M * N) (p * q) := by
  obtain ⟨a, ha⟩ := h; obtain ⟨b, hb⟩ := h2
  refine ⟨a * b, ?_⟩
  rw [Rat.natCast_mul, Rat.intCast_mul, ← ha, ← hb]; grind
theorem dv_up (h : dv M p) (hd : M ∣ N) : dv N p := by
  obtain ⟨a, ha⟩ := h; obtain ⟨k, rfl⟩ := hd
  refine ⟨a * (k : Int), ?_⟩
  rw [Rat.natCast_mul, Rat.intCast_mul, ← ha, Rat.intCast_natCast]; grind
theorem dv_int (n : Int) : dv 1 (n : Rat) := ⟨n, by show (n : Rat) * 1 = n; grind⟩
theorem num_of (q : Rat) : q * (q.den : Rat) = (q.num : Rat) := by
  have h := Rat.num_divInt_den q
  have hp : ((q.den : Nat) : Rat) ≠ 0 := by
    have : (0 : Rat) < (q.den : Rat) := by exact_mod_cast q.den_pos
    grind
  have e : Rat.divInt q.num (q.den : Int) = (q.num : Rat) / (q.den : Rat) := by rw [Rat.divInt_eq_div]; rfl
  rw [e] at h
  conv => lhs; arg 1; rw [← h]
  exact Rat.div_mul_cancel hp
theorem dv_den (q : Rat) : dv q.den q := ⟨q.num, num_of q⟩
theorem dv_1 : dv 1 1 := dv_int 1
theorem dv_0 : dv M 0 := ⟨0, by show (0 : Rat) * _ = 0; grind⟩
theorem dv_le (h : dv M q) (hM : 0 < M) : q.den ≤ M := by
  obtain ⟨n, hn⟩ := h
  have h1 := num_of q
  have h2 : ((q.num * (M : Int) : Int) : Rat) = ((n * (q.den : Int) : Int) : Rat) := by
    rw [Rat.intCast_mul, Rat.intCast_mul, ← h1, ← hn, Rat.intCast_natCast, Rat.intCast_natCast]; grind
  have h3 : q.num * (M : Int) = n * (q.den : Int) := Rat.intCast_inj.mp h2
  have h4 : (q.num.natAbs) * M = n.natAbs * q.den := by
    have := congrArg Int.natAbs h3
    rw [Int.natAbs_mul, Int.natAbs_mul, Int.natAbs_natCast, Int.natAbs_natCast] at this
    exact this
  have h5 : q.den ∣ q.num.natAbs * M := ⟨n.natAbs, by rw [h4, Nat.mul_comm]⟩
  exact Nat.le_of_dvd hM (Nat.Coprime.dvd_of_dvd_mul_left (Nat.Coprime.symm q.reduced) h5)
theorem sz_dv {b e : Nat} (h : dv M q) (hM : 0 < M) (hb : M < 2 ^ b) (h1 : q ≤ ((2 ^ e : Nat) : Rat)) (h2 : -((2 ^ e : Nat) : Rat) ≤ q) : sz (b + e) q := by
  have hd := dv_le h hM
  have hn := num_of q
  have hp : (0 : Rat) < (q.den : Rat) := by exact_mod_cast q.den_pos
  have k1 : (q.num : Rat) ≤ (((2 ^ e * q.den : Nat) : Int) : Rat) := by
    have := mul_le (c := (q.den : Rat)) (by grind) h1
    rw [Rat.intCast_natCast, Rat.natCast_mul, ← hn]; grind
  have k2 : ((-((2 ^ e * q.den : Nat) : Int) : Int) : Rat) ≤ (q.num : Rat) := by
    have := mul_le (c := (q.den : Rat)) (by grind) h2
    rw [Rat.intCast_neg, Rat.intCast_natCast, Rat.natCast_mul, ← hn]; grind
  have k1' := Rat.intCast_le_intCast.mp k1
  have k2' := Rat.intCast_le_intCast.mp k2
  have k3 : 2 ^ e * q.den < 2 ^ (b + e) := by
    rw [Nat.pow_add, Nat.mul_comm]
    exact Nat.mul_lt_mul_of_pos_right (Nat.lt_of_le_of_lt hd hb) (Nat.pow_pos (by decide))
  refine ⟨by omega, Nat.lt_of_lt_of_le (Nat.lt_of_le_of_lt hd hb) (Nat.pow_le_pow_right (by decide) (by omega))⟩
theorem dv_bn (c : Rat) : ∀ s n, dv (c.den ^ s) (bn c s n)
  | 0, 0 => dv_int 1
  | 0, n + 1 => dv_0
  | s + 1, 0 => by
    rw [Nat.pow_succ]
    exact dv_mul (dv_bn c s 0) (dv_sub (dv_up dv_1 (Nat.one_dvd _)) (dv_den c))
  | s + 1, n + 1 => by
    rw [Nat.pow_succ]
    exact dv_add (dv_mul (dv_bn c s (n + 1)) (dv_sub (dv_up dv_1 (Nat.one_dvd _)) (dv_den c))) (dv_mul (dv_bn c s n) (dv_den c))
theorem dv_wN {T K : Nat} {f : Nat → Rat} : ∀ {zs : List NC}, (∀ z ∈ zs, dv T z.2 ∧ dv K (f z.1)) → dv (T * K) (wN f zs)
  | [], _ => dv_0
  | z :: zs, h => dv_add (dv_mul (h z List.mem_cons_self).1 (h z List.mem_cons_self).2) (dv_wN fun y hy => h y (List.mem_cons_of_mem _ hy))
theorem dv_sR {f : Nat → Rat} : ∀ {n : Nat}, (∀ i, i < n → dv M (f i)) → dv M (sR n f)
  | 0, _ => dv_0
  | n + 1, h => dv_add (dv_sR fun i hi => h i (by omega)) (h n (by omega))
end
/-! the shares one after the other -/
def nxP (a : Nat → Rat) (l : List Rat) (j i : Nat) : Rat := l.getD j 0 - l.getD 0 0 * a j - sR i (fun k => l.getD (k + 1) 0 * a (j - k))
def Ls (a : Nat → Rat) (P0 : Rat) : Nat → List Rat
  | 0 => [P0]
  | j + 1 => Ls a P0 j ++ [nxP a (Ls a P0 j) j j / a 0]
def Pp (a : Nat → Rat) (P0 : Rat) (j : Nat) : Rat := (Ls a P0 j).getD j 0
section
variable {a : Nat → Rat} {P0 : Rat}
theorem Ls_len : ∀ j, (Ls a P0 j).length = j + 1
  | 0 => rfl
  | j + 1 => by show (Ls a P0 j ++ [_]).length = _; rw [List.length_append, Ls_len j]; rfl
theorem Ls_get : ∀ {n j : Nat}, j ≤ n → (Ls a P0 n).getD j 0 = Pp a P0 j
  | 0, j, h => by
    have : j = 0 := by omega
    subst this; rfl
  | n + 1, j, h => by
    by_cases e : j = n + 1
    · subst e; rfl
    · rw [← Ls_get (n := n) (j := j) (by omega)]
      show (Ls a P0 n ++ [_]).getD j 0 = _
      rw [List.getD_eq_getElem?_getD, List.getElem?_append_left (by rw [Ls_len]; omega), ← List.getD_eq_getElem?_getD]
def pt (a : Nat → Rat) (P0 : Rat) (j i : Nat) : Rat := Pp a P0 j - Pp a P0 0 * a j - sR i (fun k => Pp a P0 (k + 1) * a (j - k))
theorem nxP_eq {j i : Nat} (h : i ≤ j) : nxP a (Ls a P0 j) j i = pt a P0 j i := by
  unfold nxP pt
  rw [Ls_get (Nat.le_refl j), Ls_get (Nat.zero_le j)]
  congr 1
  exact sR_congr fun k hk => by rw [Ls_get (by omega)]
theorem Pp_0 : Pp a P0 0 = P0 := rfl
theorem Pp_S (j : Nat) : Pp a P0 (j + 1) = pt a P0 j j / a 0 := by
  rw [← nxP_eq (Nat.le_refl j)]
  show (Ls a P0 j ++ [nxP a (Ls a P0 j) j j / a 0]).getD (j + 1) 0 = _
  rw [List.getD_eq_getElem?_getD, List.getElem?_append_right (by rw [Ls_len]; omega), Ls_len, Nat.sub_self]; rfl
theorem Ls_map (n : Nat) : Ls a P0 n = (List.range (n + 1)).map (Pp a P0) := by
  apply List.ext_getElem
  · rw [Ls_len, List.length_map, List.length_range]
  · intro i h1 h2
    rw [Ls_len] at h1
    have := Ls_get (a := a) (P0 := P0) (n := n) (j := i) (by omega)
    rw [List.getD_eq_getElem?_getD, List.getElem?_eq_getElem (by rw [Ls_len]; exact h1)] at this
    simp only [List.getElem_map, List.getElem_range]
    exact this
theorem pt_S (j i : Nat) : pt a P0 j (i + 1) = pt a P0 j i - Pp a P0 (i + 1) * a (j - i) := by
  unfold pt
  show _ - (sR i _ + _) = _
  grind
/-- the equations of the shares -/
theorem Pp_rec (ha : a 0 ≠ 0) (j : Nat) : Pp a P0 (j + 1) * a 0 = pt a P0 j j := by
  rw [Pp_S]
  exact Rat.div_mul_cancel ha
end
/-! drawn lengths -/
structure Slot (c : Rat) (zs : List NC) (T : Nat) : Prop where
  c0 : 0 < c
  c1 : c < 1
  cd : c.den < 2 ^ 7
  ne : 1 ≤ zs.length
  len : zs.length ≤ 3
  rng : ∀ z ∈ zs, 1 ≤ z.1 ∧ z.1 ≤ 20
  inc : zs.Pairwise fun x y => x.1 < y.1
  zc : ∀ z ∈ zs, sz 5 z.2
  pos : ∀ z ∈ zs, 0 < z.2
  one : wN (fun _ => 1) zs = 1
  T0 : 0 < T
  T1 : T < 2 ^ 5
  zd : ∀ z ∈ zs, dv T z.2
section
variable {c : Rat} {zs : List NC} {T : Nat}
abbrev aQ (c : Rat) (zs : List NC) (n : Nat) : Rat := wN (fun s => bn c s n) zs
abbrev AQ (c : Rat) (zs : List NC) (n : Nat) : Rat := wN (fun s => tl c s n) zs
abbrev mQ (zs : List NC) : Rat := wN (fun s => (s : Rat)) zs
abbrev tQ (zs : List NC) : Rat := wN (fun s => (s : Rat) * ((s : Rat) - 1)) zs
abbrev rhoQ (c : Rat) (zs : List NC) : Rat := c * mQ zs
abbrev PQ (c : Rat) (zs : List NC) (j : Nat) : Rat := Pp (aQ c zs) (1 - rhoQ c zs) j
theorem Slot.tails (S : Slot c zs T) : Tails (AQ c zs) (rhoQ c zs) (c * c * tQ zs / 2) where
  nn := fun n => wN_nn fun z hz => ⟨by have := S.pos z hz; grind, tl_nn (by have := S.c0; grind) (by have := S.c1; grind) _ _⟩
  s1 := fun k => by
    rw [wN_sR]
    have h := wN_le (zs := zs) (f := fun s => sR k (fun n => tl c s n)) (g := fun s => c * (s : Rat) + 0 * 0) fun z hz => ⟨by have := S.pos z hz; grind, by
      have := tl_s1 (c := c) (by have := S.c0; grind) (by have := S.c1; grind) z.1 k
      have e : sR k (tl c z.1) = sR k (fun n => tl c z.1 n) := rfl
      rw [e] at this
      grind⟩
    rw [wN_lin c 0 (fun s => (s : Rat)) (fun _ => 0), wN_0] at h
    show _ ≤ c * mQ zs
    grind
  s2 := fun k => by
    have e : sR k (fun m => (m : Rat) * AQ c zs m) = sR k (fun m => wN (fun s => (m : Rat) * tl c s m) zs) := sR_congr fun m _ => by
      have := wN_lin (m : Rat) 0 (fun s => tl c s m) (fun _ => 0) zs
      rw [wN_0] at this
      show _ * wN _ zs = _
      have e2 : wN (fun s => (m : Rat) * tl c s m) zs = wN (fun s => (m : Rat) * tl c s m + 0 * 0) zs := wN_congr fun z _ => by grind
      rw [e2, this]; grind
    rw [e, wN_sR]
    have h := wN_le (zs := zs) (f := fun s => sR k (fun n => (n : Rat) * tl c s n)) (g := fun s => (c * c / 2) * ((s : Rat) * ((s : Rat) - 1)) + 0 * 0) fun z hz => ⟨by have := S.pos z hz; grind, by
      have := tl_s2 (c := c) (by have := S.c0; grind) (by have := S.c1; grind) z.1 k
      grind⟩
    rw [wN_lin (c * c / 2) 0 (fun s => (s : Rat) * ((s : Rat) - 1)) (fun _ => 0), wN_0] at h
    grind
theorem Slot.a0 (S : Slot c zs T) : AQ c zs 0 = 1 - aQ c zs 0 := by
  have h := wN_lin 1 (-1) (fun _ => 1) (fun s => bn c s 0) zs
  rw [S.one] at h
  have e : AQ c zs 0 = wN (fun s => 1 * 1 + -1 * bn c s 0) zs := wN_congr fun z _ => by rw [tl_0]; grind
  rw [e, h]; grind
theorem Slot.aS (S : Slot c zs T) (n : Nat) : AQ c zs (n + 1) = AQ c zs n - aQ c zs (n + 1) := by
  have h := wN_lin 1 (-1) (fun s => tl c s n) (fun s => bn c s (n + 1)) zs
  have e : AQ c zs (n + 1) = wN (fun s => 1 * tl c s n + -1 * bn c s (n + 1)) zs := wN_congr fun z _ => by rw [tl_S]; grind
  rw [e, h]; grind
theorem Slot.pos0 (S : Slot c zs T) : 0 < aQ c zs 0 := by
  cases hz : zs with
  | nil => have := S.ne; rw [hz] at this; simp at this
  | cons z ys =>
    have h1 := Rat.mul_pos (S.pos z (by rw [hz]; exact List.mem_cons_self)) (bn_pos S.c1 z.1)
    have h2 : 0 ≤ wN (fun s => bn c s 0) ys := wN_nn fun y hy => ⟨by have := S.pos y (by rw [hz]; exact List.mem_cons_of_mem _ hy); grind, by have := bn_pos S.c1 y.1; grind⟩
    show 0 < z.2 * bn c z.1 0 + wN (fun s => bn c s 0) ys
    grind
theorem Slot.a_nn (S : Slot c zs T) (n : Nat) : 0 ≤ aQ c zs n := wN_nn fun z hz => ⟨by have := S.pos z hz; grind, bn_nn (by have := S.c0; grind) (by have := S.c1; grind) _ _⟩
theorem Slot.a_le (S : Slot c zs T) (n : Nat) : aQ c zs n ≤ 1 := by
  have := wN_le (zs := zs) (f := fun s => bn c s n) (g := fun _ => 1) fun z hz => ⟨by have := S.pos z hz; grind, bn_le (by have := S.c0; grind) (by have := S.c1; grind) _ _⟩
  rw [S.one] at this
  exact this
theorem Slot.level (S : Slot c zs T) : ∀ n, PQ c zs (n + 1) * aQ c zs 0 = (1 - rhoQ c zs) * AQ c zs n + sR n (fun i => PQ c zs (i + 1) * AQ c zs (n - i)) := by
  have ha : aQ c zs 0 ≠ 0 := by have := S.pos0; grind
  refine Law.level (p := fun n => PQ c zs (n + 1)) S.a0 S.aS ?_ fun n => ?_
  · have := Pp_rec (a := aQ c zs) (P0 := 1 - rhoQ c zs) ha 0
    show PQ c zs 1 * _ = _
    rw [this]
    unfold pt
    rw [Pp_0]
    show _ - _ - (0 : Rat) = _
    grind
  · have := Pp_rec (a := aQ c zs) (P0 := 1 - rhoQ c zs) ha (n + 1)
    show PQ c zs (n + 1 + 1) * _ = _
    rw [this]
    unfold pt
    rw [Pp_0]
theorem Slot.rho0 (S : Slot c zs T) : 0 ≤ rhoQ c zs := Rat.mul_nonneg (by have := S.c0; grind) (wN_nn fun z hz => ⟨by have := S.pos z hz; grind, nat_nn _⟩)
theorem Slot.nn (S : Slot c zs T) (hr : rhoQ c zs < 1) : ∀ j, 0 ≤ PQ c zs j
  | 0 => by show 0 ≤ 1 - rhoQ c zs; grind
  | j + 1 => p_nn (p := fun n => PQ c zs (n + 1)) S.pos0 S.tails.nn (by grind) S.level j
theorem Slot.sum (S : Slot c zs T) (hr : rhoQ c zs < 1) (N : Nat) : sR N (fun n => PQ c zs (n + 1)) ≤ rhoQ c zs :=
  sum_p (p := fun n => PQ c zs (n + 1)) S.tails S.a0 hr rfl (fun n => S.nn hr (n + 1)) S.level N
theorem Slot.q0 (S : Slot c zs T) : 0 ≤ c * c * tQ zs / 2 := by
  have h := S.tails.s2 0
  have e : sR 0 (fun m => (m : Rat) * AQ c zs m) = 0 := rfl
  rw [e] at h; exact h
theorem Slot.mean (S : Slot c zs T) (hr : rhoQ c zs < 1) (N : Nat) : sR N (fun n => ((n : Rat) + 1) * PQ c zs (n + 1)) * (1 - rhoQ c zs) ≤ rhoQ c zs * (1 - rhoQ c zs) + c * c * tQ zs / 2 :=
  mean_p (p := fun n => PQ c zs (n + 1)) S.tails S.q0 S.a0 hr rfl (fun n => S.nn hr (n + 1)) S.level N
theorem Slot.le1 (S : Slot c zs T) (hr : rhoQ c zs < 1) : ∀ j, PQ c zs j ≤ 1
  | 0 => by have := S.rho0; show 1 - rhoQ c zs ≤ 1; grind
  | j + 1 => by
    have h1 := S.sum hr (j + 1)
    have h2 : 0 ≤ sR j (fun n => PQ c zs (n + 1)) := sR_nn fun i _ => S.nn hr (i + 1)
    have e : sR (j + 1) (fun n => PQ c zs (n + 1)) = sR j (fun n => PQ c zs (n + 1)) + PQ c zs (j + 1) := rfl
    rw [e] at h1
    grind
end
end Law
set_option exponentiation.threshold 5000
namespace Law
open PySem PySem.Spec PyProof.Rows L2 Den
/-! chances (parts of SERV, SERV2, SERV4, MERGE2) -/
theorem all_eq {α : Type} (l : List α) (f : α → Bool) : allD (.list (l.map fun x => .bool (f x))) = some (.bool (l.all f)) := by
  have e : l.map (fun x => PyData.bool (f x)) = (l.map f).map PyData.bool := by rw [List.map_map]; rfl
  rw [e, all_bools, List.all_map]
  rfl
theorem mem_snd {s : List LC} {c : Nat} (h : ∀ p ∈ s, sz c p.2) : ∀ x ∈ s.map (·.2), sz c x := fun x hx => by
  obtain ⟨p, hp, rfl⟩ := List.mem_map.mp hx
  exact h p hp
def chB (q : Rat) : Bool := isCh q && (decide (0 < q.num) && decide ((q.den : Int) ≤ 1000))
theorem chB_sz {q : Rat} (h : chB q = true) : sz 10 q := by
  unfold chB isCh at h
  simp only [Bool.and_eq_true, decide_eq_true_eq] at h
  obtain ⟨⟨h1, h2⟩, h3, h4⟩ := h
  exact ⟨by have : (2 : Nat) ^ 10 = 1024 := rfl; omega, by have : (2 : Nat) ^ 10 = 1024 := rfl; omega⟩
theorem shaped_rq (q : Rat) : SeqAt.shaped (rq q) = true := by
  unfold rq
  exact shaped_intsT [q.num, (q.den : Int)]
theorem eqv_rq (p q : Rat) : PyData.eqv (rq p) (rq q) = decide (p = q) := by
  unfold rq
  have h := eqvAll_ints [p.num, (p.den : Int)] [q.num, (q.den : Int)]
  simp only [List.map_cons, List.map_nil] at h
  simp only [PyData.eqv]
  rw [h]
  by_cases e : p = q
  · subst e; simp
  · rw [decide_eq_false e, decide_eq_false fun z => e (by
      injection z with z1 z2
      injection z2 with z2 _
      exact Rat.ext z1 (by omega))]
theorem eq_rq (p q : Rat) : eqD (rq p) (rq q) = some (.d (.bool (decide (p = q)))) := by
  show (if SeqAt.shaped (rq p) && SeqAt.shaped (rq q) then some (W.d (.bool (PyData.eqv (rq p) (rq q)))) else none) = _
  rw [shaped_rq, shaped_rq, eqv_rq]; rfl
theorem ne_rq (p q : Rat) : neD (rq p) (rq q) = some (.d (.bool (!decide (p = q)))) := by
  show (if SeqAt.shaped (rq p) && SeqAt.shaped (rq q) then some (W.d (.bool (!PyData.eqv (rq p) (rq q)))) else none) = _
  rw [shaped_rq, shaped_rq, eqv_rq]; rfl
@[simp] theorem ix_rq0 {q : Rat} : ixD (rq q) (.int 0) = some (.int q.num) := rfl
@[simp] theorem ix_rq1 {q : Rat} : ixD (rq q) (.int 1) = some (.int (q.den : Int)) := rfl
@[simp] theorem ix_pr0 {p : LC} : ixD (pr p) (.int 0) = some (rq p.1) := rfl
@[simp] theorem ix_pr1 {p : LC} : ixD (pr p) (.int 1) = some (rq p.2) := rfl
theorem gT2 {i j : Nat} {x y : D} {rho : Den.Env} {m : Mem} : gT [gN i, gN j] (.d (.tuple [x, y])) rho m = some ((rho.set i (some (.d x))).set j (some (.d y)), m) := rfl
def areQ (cs : List Rat) : Bool := cs.all chB && decide (sumQ cs = 1)
theorem num_pos {q : Rat} : 0 < q.num ↔ 0 < q := by
  have h1 : 0 ≤ q.num ↔ 0 ≤ q := Rat.num_nonneg
  have h2 : q.num = 0 ↔ q = 0 := Rat.num_eq_zero
  constructor
  · intro h
    have a := h1.mp (by omega)
    have b : q ≠ 0 := fun z => by have := h2.mpr z; omega
    grind
  · intro h
    have a := h1.mpr (by grind)
    have b : q.num ≠ 0 := fun z => by have := h2.mp z; grind
    omega
theorem all_trueL {α : Type} (l : List α) : allD (.list (l.map fun _ => .bool true)) = some (.bool true) := by
  rw [all_eq l fun _ => true]; simp
theorem rq_int (n : Int) : rq (n : Rat) = .tuple [.int n, .int 1] := rfl
end Law
set_option exponentiation.threshold 5000
namespace Law
open PySem PySem.Spec PyProof.Rows L2 Den
/-! steps and sums that any law can use (pulled out of DRAWB) -/
theorem div_rat (n : Int) (d : Nat) : Rat.divInt n (d : Int) = (n : Rat) / (d : Rat) := by
  rw [Rat.divInt_eq_div]; rfl
theorem nat_pos {d : Nat} (h : 0 < d) : (0 : Rat) < (d : Rat) := by exact_mod_cast h
theorem div_pos' {n : Int} {d : Nat} (hn : 0 < n) (hd : 0 < d) : 0 < Rat.divInt n (d : Int) := by
  rw [← num_pos]
  have h1 : Rat.divInt n (d : Int) = Rat.normalize n d (by omega) := by rw [Rat.divInt_ofNat, Rat.normalize_eq_mkRat]
  rw [h1, Rat.normalize_eq]
  have g0 : 0 < Nat.gcd n.natAbs d := Nat.gcd_pos_of_pos_right _ hd
  have hdv := Int.ofNat_dvd_left.mpr (Nat.gcd_dvd_left n.natAbs d)
  show 0 < n / (Nat.gcd n.natAbs d : Nat)
  generalize Nat.gcd n.natAbs d = g at *
  obtain ⟨k, hk⟩ := hdv
  rw [hk, Int.mul_ediv_cancel_left _ (by omega)]
  have : 0 < (g : Int) * k := by rw [← hk]; exact hn
  exact Int.pos_of_mul_pos_right this (by omega)
theorem div_lt' {a b : Int} {d : Nat} (h : a < b) (hd : 0 < d) : Rat.divInt a (d : Int) < Rat.divInt b (d : Int) := by
  have h1 : Rat.divInt b (d : Int) - Rat.divInt a (d : Int) = Rat.divInt (b - a) (d : Int) := by
    have hd' : ((d : Nat) : Rat) ≠ 0 := by have := nat_pos hd; grind
    rw [div_rat, div_rat, div_rat, Rat.intCast_sub]
    grind
  have h2 := div_pos' (n := b - a) (by omega) hd
  rw [← h1] at h2
  grind
theorem small_sz {n : Int} {d : Nat} (h0 : 0 < d) (hn : n.natAbs < 32) (hd : d < 32) : sz 5 (Rat.divInt n (d : Int)) := divInt_sz h0 (by simpa using hn) (by simpa using hd)
theorem le_sumI {P : List Int} (h : ∀ y ∈ P, 0 < y) : ∀ y ∈ P, y ≤ P.sum := by
  induction P with
  | nil => intro y hy; cases hy
  | cons x P ih =>
    intro y hy
    have hs : 0 ≤ P.sum := by
      clear ih hy
      induction P with
      | nil => simp
      | cons z P ih =>
        have := ih fun y hy => h y (by rcases List.mem_cons.mp hy with rfl | hy <;> simp [*])
        have := h z (by simp)
        rw [List.sum_cons]; omega
    have hx := h x List.mem_cons_self
    rw [List.sum_cons]
    rcases List.mem_cons.mp hy with rfl | hy
    · omega
    · have := ih (fun z hz => h z (List.mem_cons_of_mem _ hz)) y hy; omega
theorem sum_le {P : List Int} {k : Int} (h : ∀ y ∈ P, y ≤ k) : P.sum ≤ k * (P.length : Nat) := by
  induction P with
  | nil => simp
  | cons x P ih =>
    have h1 := h x List.mem_cons_self
    have h2 := ih fun y hy => h y (List.mem_cons_of_mem _ hy)
    rw [List.sum_cons, List.length_cons, Int.natCast_add, Int.mul_add]
    omega
theorem mod_rng (v M : Int) (h : 0 < M) : 1 ≤ 1 + v % M ∧ 1 + v % M ≤ M := by
  have := Int.emod_nonneg v (Int.ne_of_gt h)
  have := Int.emod_lt_of_pos v h
  omega
theorem at_natI {l : List Int} {k : Nat} (h : k < l.length) : atI (l.map PyData.int) (k : Int) = some (.int l[k]) := by
  unfold atI ixN
  rw [if_pos (by omega), if_pos (by rw [List.length_map]; omega)]
  simp [h]
theorem sumD_ints (l : List Int) : sumD (.list (l.map .int)) = some (.int l.sum) := sum_ints l
theorem seq_run {c d : SM} {rho r : Den.Env} {m m' : Mem} (h : c rho m = .nx r m') : sSeq c d rho m = d r m' := by rw [e_Seq, h]
theorem set_run {i : Nat} {a : EM W} {rho : Den.Env} {m m' : Mem} {w : W} (h : a rho m = .ok w m') : sSet i a rho m = .nx (rho.set i (some (val w))) m' := by rw [e_Set, h]; rfl
theorem ret_run {a : EM W} {d : SM} {rho : Den.Env} {m m' : Mem} {w : W} (h : a rho m = .ok w m') : sSeq (sRet a) d rho m = .rt w m' := by rw [e_Seq, e_Ret, h]; rfl
theorem run_d {N : Nat} {c : SM} {ws : List W} {m m' : Mem} {x : D} (h : c (startE N ws) m = .rt (.d x) m') (hl : m'.length = m.length) : runF N c ws m = .ok (.d x) m' := by
  unfold runF
  rw [h]
  show Rs.ok (W.d x) (m'.take m.length) = _
  rw [List.take_of_length_le (by omega)]
end Law
set_option exponentiation.threshold 5000
namespace Law
open PySem PySem.Spec PyProof.Rows L2 Den
/-! steps that any law can use (pulled out of the texts of k33) -/
theorem two_nn (e : Nat) : (0 : Rat) ≤ ((2 ^ e : Nat) : Rat) := nat_nn _
theorem cast1 : ((2 ^ 0 : Nat) : Rat) = 1 := rfl
theorem cast4 : ((2 ^ 4 : Nat) : Rat) = 16 := rfl
theorem cast8 : ((2 ^ 8 : Nat) : Rat) = 256 := rfl
theorem sR_1 : ∀ n : Nat, sR n (fun _ => 1) = (n : Rat)
  | 0 => rfl
  | n + 1 => by have := sR_1 n; show sR n (fun _ => 1) + 1 = _; rw [this, cast_S]
theorem sR_rng {f : Nat → Rat} {n k : Nat} (hn : n ≤ k) (h : ∀ i, i < n → 0 ≤ f i ∧ f i ≤ 1) : 0 ≤ sR n f ∧ sR n f ≤ (k : Rat) := by
  have h1 := sR_nn (f := f) (n := n) fun i hi => (h i hi).1
  have h2 := sR_le (f := f) (g := fun _ => 1) (n := n) fun i hi => (h i hi).2
  rw [sR_1] at h2
  have h3 : (n : Rat) ≤ (k : Rat) := by exact_mod_cast hn
  exact ⟨h1, by grind⟩
theorem at_map {n k : Nat} {f : Nat → D} (h : k < n) : atI ((List.range n).map f) (k : Int) = some (f k) := by
  unfold atI ixN
  rw [if_pos (by omega), if_pos (by rw [List.length_map, List.length_range]; omega)]
  simp [h]
theorem zip_rg {n : Nat} {f g : Nat → D} : (((List.range n).map f).zip ((List.range n).map g)).map (fun p => PyData.tuple [p.1, p.2]) = (List.range n).map fun k => .tuple [f k, g k] := by
  rw [List.zip_map', List.map_map]; rfl
theorem range1_any {a : EM W} {rho : Den.Env} {m : Mem} {n : Nat} (h : a rho m = .ok (.d (.int (n : Int))) m) (h1 : n ≤ 1000000) : mRange1 a rho m = .ok ((List.range n).map fun k : Nat => PyData.int (k : Int)) m := by
  rw [range1_ok h (by omega) (by omega)]
  simp [rangeD]
theorem set_run2 {i : Nat} {a : EM W} {rho rho' : Den.Env} {m m' : Mem} {w : W} (h : a rho m = .ok w m') (hr : rho.set i (some (val w)) = rho') : sSet i a rho m = .nx rho' m' := by rw [set_run h, hr]
theorem mul_run {rho : Den.Env} {m m1 m2 : Mem} {a c : EM W} {w w2 x : W} (h1 : a rho m = .ok w m1) (h2 : c rho m1 = .ok w2 m2) (h3 : lift2 mulD (val w) (val w2) m2 = .ok x m2) : mMul a c rho m = .ok x m2 := by
  show (a rho m).bindV _ = _
  rw [h1, ev_bindV, h2, ev_bindV, h3]
theorem while_def {n : Nat} {t : EM Bool} {c : SM} : sWhile n t c = whileN t c n := rfl
theorem rep_map {x : D} : ∀ n : Nat, (List.replicate n [x]).flatten = (List.range n).map fun _ => x
  | 0 => rfl
  | n + 1 => by
    rw [List.replicate_succ', List.flatten_append, rep_map n, List.range_succ, List.map_append]; rfl
theorem mul_l {x : D} {n : Nat} (h : n ≤ 1000) : mulD (.list [x]) (.int (n : Int)) = some (.n (.list ((List.range n).map fun _ => x))) := by
  have e : (decide (-1000000 ≤ (n : Int) ∧ (n : Int) ≤ 1000000) && small ([x].length * (n : Int).toNat)) = true := by
    rw [decide_eq_true (by omega), Bool.true_and]
    exact small_le (by simp; omega)
  show (if (decide (-1000000 ≤ (n : Int) ∧ (n : Int) ≤ 1000000) && small ([x].length * (n : Int).toNat)) = true then _ else _) = _
  rw [if_pos e, Int.toNat_natCast, rep_map]
theorem ix_r {i k h : Nat} {a : EM W} {rho : Den.Env} {m : Mem} {n : Nat} {f : Nat → D} (hv : rho[i]? = some (some (.r h))) (hm : m[h]? = some (some (.list ((List.range n).map f)))) (ha : a rho m = .ok (.d (.int (k : Int))) m) (hk : k < n) : mIx (mVar i) a rho m = .ok (.d (f k)) m := by
  refine ix_run (w := .r h) (w2 := .d (.int (k : Int))) (var_run hv) ha ?_
  show fIx (.r h) (.d (.int (k : Int))) m = _
  rw [f_Ix, peek_r, hm, peek_d]
  show (match ixD (.list ((List.range n).map f)) (.int (k : Int)) with | some z => Rs.ok (W.d z) m | none => .no) = _
  rw [ix_l, at_map hk]
theorem ix_d {i k : Nat} {a : EM W} {rho : Den.Env} {m : Mem} {n : Nat} {f : Nat → D} (hv : rho[i]? = some (some (.d (.list ((List.range n).map f))))) (ha : a rho m = .ok (.d (.int (k : Int))) m) (hk : k < n) : mIx (mVar i) a rho m = .ok (.d (f k)) m := by
  refine ix_run (w := .d (.list ((List.range n).map f))) (w2 := .d (.int (k : Int))) (var_run hv) ha ?_
  show fIx (.d (.list ((List.range n).map f))) (.d (.int (k : Int))) m = _
  rw [f_Ix, peek_d, peek_d]
  show (match ixD (.list ((List.range n).map f)) (.int (k : Int)) with | some z => Rs.ok (W.d z) m | none => .no) = _
  rw [ix_l, at_map hk]
theorem call2_run {rho : Den.Env} {m m1 m2 m3 : Mem} {a b : EM W} {fm : List W → Mem → Rs W} {w w1 w2 : W} (h1 : a rho m = .ok w1 m1) (h2 : b rho m1 = .ok w2 m2) (h3 : fm [val w1, val w2] m2 = .ok w m3) : mCall 2 fm (mCons a (mCons b (mNil))) rho m = .ok w m3 :=
  call_run (cons_run h1 (cons_run h2 nil_run)) rfl h3
theorem range2_any {a b : EM W} {rho : Den.Env} {m : Mem} {i : Int} {n : Nat} (h : a rho m = .ok (.d (.int i)) m) (h2 : b rho m = .ok (.d (.int (i + (n : Int)))) m) (hi : 0 ≤ i) (h1 : i + (n : Int) ≤ 1000000) : mRange2 a b rho m = .ok ((List.range n).map fun k : Nat => PyData.int (i + (k : Int))) m := by
  have hm1 : midI i = true := decide_eq_true (by omega)
  have hm2 : midI (i + (n : Int)) = true := decide_eq_true (by omega)
  unfold mRange2
  rw [cons_run h (cons_run h2 nil_run), ev_bind]
  show (if (midI i && midI (i + (n : Int))) = true then Rs.ok (rangeD i (i + (n : Int))) m else .no) = _
  rw [hm1, hm2, if_pos (show (true && true) = true from rfl)]
  unfold rangeD
  rw [show (i + (n : Int) - i).toNat = n by omega]
theorem app_run {rho : Den.Env} {m : Mem} {i h : Nat} {a : EM W} {ds : List D} {x : D} (hv : rho[i]? = some (some (.r h))) (hm : m[h]? = some (some (.list ds))) (ha : a rho m = .ok (.d x) m) (hl : ds.length + 1 ≤ 1000000) : sDrop (mM .lst (mVar i) (mCons a (mNil)) fAppend) rho m = .nx rho (m.set h (some (.list (ds ++ [x])))) := by
  have hs : small (ds.length + 1) = true := small_le hl
  rw [e_Drop, e_M, var_run hv, ev_bindV, val_r, peek_r, hm]
  show (((if Kd.ok .lst (.list ds) = true then (mCons a mNil rho m).bind fun ws m2 => fAppend (.r h) ws m2 else Rs.no) : Rs W).thenV rho fun _ m1 => Out.nx rho m1) = _
  rw [kd_l, if_pos rfl, cons_run ha nil_run, ev_bind, val_d, f_app, hm]
  show (((if small (ds.length + 1) = true then Rs.ok (W.d .none) (m.set h (some (.list (ds ++ [x])))) else Rs.no) : Rs W).thenV rho fun _ m1 => Out.nx rho m1) = _
  rw [if_pos hs]
  rfl
theorem frz_run {i n : Nat} {x : D} {c : SM} {rho : Den.Env} {m : Mem} (hv : rho[i]? = some (some (.r n))) (hm : m[n]? = some (some x)) : sFrz i c rho m = c (rho.map (frzW n x)) (m.set n none) := by
  unfold sFrz
  rw [hv]
  show (match m[n]? with | some (some x) => c (rho.map (frzW n x)) (m.set n none) | _ => Out.no) = _
  rw [hm]
theorem get_mid (m : Mem) (x : Option D) (js : Mem) : (m ++ x :: js)[m.length]? = some x := by
  rw [List.getElem?_append_right (Nat.le_refl _), Nat.sub_self]; rfl
theorem set_mid (m : Mem) (x y : Option D) (js : Mem) : (m ++ x :: js).set m.length y = m ++ y :: js := by
  rw [List.set_append_right _ _ (Nat.le_refl _), Nat.sub_self]; rfl
theorem fin_r {n : Nat} {m' : Mem} {x : D} (h : m'[n]? = some (some x)) : fin n m' (.r n) = .ok (.n x) (m'.take n) := by
  show (if n ≤ n then (match m'[n]? with | some (some x) => Rs.ok (W.n x) (m'.take n) | _ => .no) else .no) = _
  rw [if_pos (Nat.le_refl n), h]
theorem run_r {N : Nat} {c : SM} {ws : List W} {m m' : Mem} {x : D} {rho : Den.Env} (h0 : startE N ws = rho) (h : c rho m = .rt (.r m.length) m') (hx : m'[m.length]? = some (some x)) : runF N c ws m = .ok (.n x) (m'.take m.length) := by
  unfold runF
  rw [h0, h]
  exact fin_r hx
theorem dv_div {y : Int} {S : Nat} (hS : 0 < S) : dv S (Rat.divInt y (S : Int)) := by
  refine ⟨y, ?_⟩
  rw [div_rat]
  exact Rat.div_mul_cancel (by have := nat_pos hS; grind)
section
variable {n b : Nat} {m : Mem}
theorem drw_ok {k : Nat} {rho : Den.Env} (h : Dr b n m) (hv : rho[k]? = some (some (.r n))) : ∃ (v : Int) (m' : Mem), mB (mCons (mCall 1 F__law_next (mCons (mVar k) (mNil))) (mNil)) (fD1 intD) rho m = .ok (.d (.int v)) m' ∧ 0 ≤ v ∧ v < 1000 ∧ Dr b n m' ∧ m'.length = m.length := by
  obtain ⟨v, m', e, h0, h1, d, l, _⟩ := next_ok h
  exact ⟨v, m', b_run (cons_run (call_run (cons_run (var_run hv) nil_run) rfl e) nil_run) rfl, h0, h1, d, l⟩
theorem mod_run {rho : Den.Env} {m m1 m2 : Mem} {a c : EM W} {i j : Int} (h1 : a rho m = .ok (.d (.int i)) m1) (h2 : c rho m1 = .ok (.d (.int j)) m2) (hj : 0 < j) : mMod a c rho m = .ok (.d (.int (i % j))) m2 := by
  rw [e_Mod, h1, ev_bindV, h2, ev_bindV, val_d, val_d, f_lift2, peek_d, peek_d]
  show (match onI modD (.int i) (.int j) with | some w => Rs.ok w m2 | none => .no) = _
  rw [on_ii, mod_pos hj]; rfl
theorem pk_ok {k : Nat} {rho : Den.Env} {c : EM (List W)} {xs : List D} (h : Dr b n m) (hv : rho[k]? = some (some (.r n))) (hl : mLst c rho m = .ok (.n (.list xs)) m) (h0 : xs ≠ []) : ∃ (x : D) (m' : Mem), mCall 2 F__law_pick (mCons (mVar k) (mCons (mLst c) (mNil))) rho m = .ok (.d x) m' ∧ x ∈ xs ∧ Dr b n m' ∧ m'.length = m.length := by
  obtain ⟨x, m', e, hx, d, l⟩ := pick_ok h h0
  exact ⟨x, m', call2_run (var_run hv) hl e, hx, d, l⟩
end
theorem ix_t0 {i k : Nat} {a : EM W} {rho : Den.Env} {m : Mem} {n : Nat} {f : Nat → D} (hv : rho[i]? = some (some (.d (.tuple ((List.range n).map f))))) (ha : a rho m = .ok (.d (.int (k : Int))) m) (hk : k < n) : mIx (mVar i) a rho m = .ok (.d (f k)) m := by
  refine ix_run (w := .d (.tuple ((List.range n).map f))) (w2 := .d (.int (k : Int))) (var_run hv) ha ?_
  show fIx (.d (.tuple ((List.range n).map f))) (.d (.int (k : Int))) m = _
  rw [f_Ix, peek_d, peek_d]
  show (match ixD (.tuple ((List.range n).map f)) (.int (k : Int)) with | some z => Rs.ok (W.d z) m | none => .no) = _
  rw [ix_t, at_map hk]
theorem any_falseL {α : Type} (l : List α) : anyD (.list (l.map fun _ => .bool false)) = some (.bool false) := by
  have e : l.map (fun _ => PyData.bool false) = (l.map fun _ => false).map PyData.bool := by rw [List.map_map]; rfl
  rw [e, any_bools]
  simp
theorem two_mem {m : Mem} (h : m.length = 2) : ∃ x y, m = [x, y] := by
  match m, h with
  | [x, y], _ => exact ⟨x, y, rfl⟩

def Fine (o : Out) : Prop := ∃ m, o = .rt (.d (.bool true)) m
theorem seq_step {c d : SM} {rho rho' : Den.Env} {m m' : Mem} (h : c rho m = .nx rho' m') (h2 : Fine (d rho' m')) : Fine (sSeq c d rho m) := by
  rw [e_Seq, h]; exact h2
end Law
set_option exponentiation.threshold 5000
namespace Law
open PySem PySem.Spec PyProof.Rows L2 Den
/-! links used together: states and weights -/
def bit (b l : Nat) : Bool := decide (b / 2 ^ l % 2 = 1)
abbrev RQ := Nat × Rat
def used : List Nat → List RQ → Nat → Nat
  | n :: ns, r :: rs, l => (if bit r.1 l = true then n else 0) + used ns rs l
  | [], _, _ => 0
  | _ :: _, [], _ => 0
def fitsQ (caps : List Nat) (rs : List RQ) (st : List Nat) : Bool := caps.zipIdx.all fun p => decide (used st rs p.2 ≤ p.1)
def addB (rs : List RQ) (k l m : Nat) : Nat := match rs[k]? with | some r => if bit r.1 l = true then m else 0 | none => 0
theorem used_app (m l : Nat) : ∀ (s : List Nat) (rs : List RQ), used (s ++ [m]) rs l = used s rs l + addB rs s.length l m
  | [], [] => rfl
  | [], r :: rs => by
    show (if bit r.1 l = true then m else 0) + used [] rs l = 0 + (if bit r.1 l = true then m else 0)
    have : used [] rs l = 0 := by cases rs <;> rfl
    omega
  | n :: s, [] => rfl
  | n :: s, r :: rs => by
    have := used_app m l s rs
    show (if bit r.1 l = true then n else 0) + used (s ++ [m]) rs l = (if bit r.1 l = true then n else 0) + used s rs l + addB rs s.length l m
    omega
theorem used_take (l : Nat) : ∀ (s : List Nat) (rs : List RQ) (k : Nat), s.length ≤ k → used s (rs.take k) l = used s rs l
  | [], rs, k, _ => by
    have h : ∀ rs : List RQ, used [] rs l = 0 := fun rs => by cases rs <;> rfl
    rw [h, h]
  | n :: s, [], k, _ => by rw [List.take_nil]
  | n :: s, r :: rs, 0, h => by simp at h
  | n :: s, r :: rs, k + 1, h => by
    rw [List.take_succ_cons]
    show _ + used s (rs.take k) l = _ + used s rs l
    rw [used_take l s rs k (by simpa using h)]
theorem fits_iff {caps : List Nat} {rs : List RQ} {st : List Nat} : fitsQ caps rs st = true ↔ ∀ l c, caps[l]? = some c → used st rs l ≤ c := by
  unfold fitsQ
  rw [List.all_eq_true]
  constructor
  · intro h l c hc
    exact of_decide_eq_true (h (c, l) (List.mem_zipIdx_iff_getElem?.mpr hc))
  · intro h p hp
    exact decide_eq_true (h p.2 p.1 (List.mem_zipIdx_iff_getElem?.mp hp))
theorem addB_mono {rs : List RQ} {k l m m' : Nat} (h : m ≤ m') : addB rs k l m ≤ addB rs k l m' := by
  unfold addB
  cases rs[k]? with
  | none => exact Nat.le_refl _
  | some r => show (if _ then _ else _) ≤ (if _ then _ else _); split <;> omega
theorem fits_mono {caps : List Nat} {rs : List RQ} {s : List Nat} {m m' : Nat} (h : m ≤ m') (hf : fitsQ caps rs (s ++ [m']) = true) : fitsQ caps rs (s ++ [m]) = true := by
  rw [fits_iff] at hf ⊢
  intro l c hc
  have := hf l c hc
  rw [used_app] at this ⊢
  have := addB_mono (rs := rs) (k := s.length) (l := l) h
  omega
theorem fits_pre {caps : List Nat} {rs : List RQ} {s : List Nat} {m : Nat} (hf : fitsQ caps rs (s ++ [m]) = true) : fitsQ caps rs s = true := by
  rw [fits_iff] at hf ⊢
  intro l c hc
  have := hf l c hc
  rw [used_app] at this
  omega
theorem some_bit : ∀ (n b : Nat), 0 < b → b < 2 ^ n → ∃ l, l < n ∧ bit b l = true
  | 0, b, h0, h1 => by simp at h1; omega
  | n + 1, b, h0, h1 => by
    by_cases h : b % 2 = 1
    · exact ⟨0, by omega, by unfold bit; simp [h]⟩
    · rw [Nat.pow_succ] at h1
      obtain ⟨l, hl, hb⟩ := some_bit n (b / 2) (by omega) (by omega)
      refine ⟨l + 1, by omega, ?_⟩
      unfold bit at hb ⊢
      rw [decide_eq_true_eq] at hb ⊢
      rw [Nat.pow_succ, Nat.mul_comm, ← Nat.div_div_eq_div_mul]
      exact hb
theorem flt (p : Nat → Bool) (hd : ∀ m m', m ≤ m' → p m' = true → p m = true) : ∀ N, ∃ M, M ≤ N ∧ (List.range N).filter p = List.range M ∧ (∀ m, m < M → p m = true) ∧ (M < N → p M = false)
  | 0 => ⟨0, Nat.le_refl _, rfl, fun m h => by omega, fun h => by omega⟩
  | N + 1 => by
    obtain ⟨M, h1, h2, h3, h4⟩ := flt p hd N
    rw [List.range_succ, List.filter_append, h2]
    by_cases e : M < N
    · have pM := h4 e
      have pN : p N = false := by
        cases h : p N with
        | false => rfl
        | true => rw [hd M N h1 h] at pM; cases pM
      exact ⟨M, by omega, by simp [pN], h3, fun _ => pM⟩
    · have eM : M = N := by omega
      subst eM
      cases h : p M with
      | true => exact ⟨M + 1, Nat.le_refl _, by rw [List.range_succ]; simp [h], fun m hm => by
          by_cases e2 : m = M
          · subst e2; exact h
          · exact h3 m (by omega), fun z => by omega⟩
      | false => exact ⟨M, by omega, by simp [h], h3, fun _ => h⟩
def nextQ (caps : List Nat) (rs : List RQ) (B : Nat) (s : List Nat) : List (List Nat) := ((List.range (B + 1)).filter fun m => fitsQ caps rs (s ++ [m])).map fun m => s ++ [m]
def statesQ (caps : List Nat) (rs : List RQ) (B : Nat) : Nat → List (List Nat)
  | 0 => [[]]
  | k + 1 => (statesQ caps rs B k).flatMap (nextQ caps rs B)
/-- what is drawn, and what is made of it -/
structure Net (caps : List Nat) (rs : List RQ) (B : Nat) : Prop where
  c0 : 1 ≤ caps.length
  c1 : caps.length ≤ 4
  cr : ∀ c ∈ caps, 1 ≤ c ∧ c ≤ B
  hB : B ≤ 6
  r0 : 1 ≤ rs.length
  r1 : rs.length ≤ 3
  rr : ∀ r ∈ rs, 0 < r.1 ∧ r.1 < 2 ^ caps.length
  q0 : ∀ r ∈ rs, 0 < r.2
  q1 : ∀ r ∈ rs, r.2 ≤ 8
  qd : ∀ r ∈ rs, r.2.den < 2 ^ 5
theorem over_no {caps : List Nat} {rs : List RQ} {B : Nat} (hc : ∀ c ∈ caps, c ≤ B) (hr : ∀ r ∈ rs, 0 < r.1 ∧ r.1 < 2 ^ caps.length) {s : List Nat} (hs : s.length < rs.length) {m : Nat} (hm : B < m) : fitsQ caps rs (s ++ [m]) = false := by
  cases h : fitsQ caps rs (s ++ [m]) with
  | false => rfl
  | true =>
    rw [fits_iff] at h
    have hr1 := hr rs[s.length] (List.getElem_mem hs)
    obtain ⟨l, hl, hb⟩ := some_bit _ _ hr1.1 hr1.2
    have h1 := h l caps[l] (List.getElem?_eq_getElem hl)
    have h2 := hc caps[l] (List.getElem_mem hl)
    rw [used_app] at h1
    unfold addB at h1
    rw [List.getElem?_eq_getElem hs] at h1
    have h3 : (if bit rs[s.length].1 l = true then m else 0) = m := if_pos hb
    have h1' : used s rs l + (if bit rs[s.length].1 l = true then m else 0) ≤ caps[l] := h1
    rw [h3] at h1'
    omega
section
variable {caps : List Nat} {rs : List RQ} {B : Nat}
/-- how many more of the next route fit -/
theorem next_rng (hc : ∀ c ∈ caps, c ≤ B) (hr : ∀ r ∈ rs, 0 < r.1 ∧ r.1 < 2 ^ caps.length) {s : List Nat} (hs : s.length < rs.length) : ∃ M, M ≤ B + 1 ∧ nextQ caps rs B s = (List.range M).map (fun m => s ++ [m]) ∧ (∀ m, m < M → fitsQ caps rs (s ++ [m]) = true) ∧ fitsQ caps rs (s ++ [M]) = false := by
  obtain ⟨M, h1, h2, h3, h4⟩ := flt (fun m => fitsQ caps rs (s ++ [m])) (fun m m' h hf => fits_mono h hf) (B + 1)
  refine ⟨M, h1, by unfold nextQ; rw [h2], h3, ?_⟩
  by_cases e : M < B + 1
  · exact h4 e
  · exact over_no hc hr hs (by omega)
theorem states_len : ∀ {k : Nat} {st : List Nat}, st ∈ statesQ caps rs B k → st.length = k
  | 0, st, h => by
    have : st = [] := by simpa [statesQ] using h
    subst this; rfl
  | k + 1, st, h => by
    obtain ⟨s, hs, ht⟩ := List.mem_flatMap.mp h
    obtain ⟨m, _, rfl⟩ := List.mem_map.mp ht
    rw [List.length_append, states_len hs]; rfl
theorem states_le : ∀ {k : Nat} {st : List Nat}, st ∈ statesQ caps rs B k → ∀ n ∈ st, n ≤ B
  | 0, st, h => by
    have : st = [] := by simpa [statesQ] using h
    subst this
    intro n hn; cases hn
  | k + 1, st, h => by
    obtain ⟨s, hs, ht⟩ := List.mem_flatMap.mp h
    obtain ⟨m, hm, rfl⟩ := List.mem_map.mp ht
    intro n hn
    rcases List.mem_append.mp hn with hn | hn
    · exact states_le hs n hn
    · rw [List.mem_singleton] at hn; subst hn
      have := List.mem_range.mp (List.mem_filter.mp hm).1
      omega
theorem fits_nil : fitsQ caps rs [] = true := by
  rw [fits_iff]
  intro l c _
  have h : used [] rs l = 0 := by cases rs <;> rfl
  omega
theorem mem_states (hc : ∀ c ∈ caps, c ≤ B) (hr : ∀ r ∈ rs, 0 < r.1 ∧ r.1 < 2 ^ caps.length) : ∀ {k : Nat}, k ≤ rs.length → ∀ {st : List Nat}, (st ∈ statesQ caps rs B k ↔ st.length = k ∧ fitsQ caps rs st = true)
  | 0, _, st => by
    constructor
    · intro h
      have : st = [] := by simpa [statesQ] using h
      subst this
      exact ⟨rfl, fits_nil⟩
    · rintro ⟨h, _⟩
      have : st = [] := List.length_eq_zero_iff.mp h
      subst this
      simp [statesQ]
  | k + 1, hk, st => by
    constructor
    · intro h
      refine ⟨states_len h, ?_⟩
      obtain ⟨s, hs, ht⟩ := List.mem_flatMap.mp h
      obtain ⟨m, hm, rfl⟩ := List.mem_map.mp ht
      exact (List.mem_filter.mp hm).2
    · rintro ⟨h, hf⟩
      obtain ⟨s, m, rfl⟩ : ∃ s m, st = s ++ [m] := by
        rcases List.eq_nil_or_concat st with rfl | ⟨s, m, rfl⟩
        · simp at h
        · exact ⟨s, m, by simp⟩
      rw [List.length_append, List.length_singleton] at h
      have hs := (mem_states hc hr (k := k) (by omega)).mpr ⟨by omega, fits_pre hf⟩
      refine List.mem_flatMap.mpr ⟨s, hs, List.mem_map.mpr ⟨m, List.mem_filter.mpr ⟨List.mem_range.mpr ?_, hf⟩, rfl⟩⟩
      by_cases e : m < B + 1
      · exact e
      · have := over_no hc hr (s := s) (by omega) (m := m) (by omega)
        rw [this] at hf; cases hf
theorem states_count : ∀ k, (statesQ caps rs B k).length ≤ (B + 1) ^ k
  | 0 => by simp [statesQ]
  | k + 1 => by
    have ih := states_count k
    have h : ∀ l : List (List Nat), (l.flatMap (nextQ caps rs B)).length ≤ l.length * (B + 1) := by
      intro l
      induction l with
      | nil => simp
      | cons s l ih =>
        rw [List.flatMap_cons, List.length_append, List.length_cons, Nat.add_mul, Nat.one_mul]
        have : (nextQ caps rs B s).length ≤ B + 1 := by
          unfold nextQ
          rw [List.length_map]
          exact Nat.le_trans (List.length_filter_le _ _) (by rw [List.length_range]; exact Nat.le_refl _)
        omega
    have := h (statesQ caps rs B k)
    rw [Nat.pow_succ]
    exact Nat.le_trans this (Nat.mul_le_mul_right _ ih)
end
/-! sums over states -/
def sL {α : Type} (f : α → Rat) : List α → Rat
  | [] => 0
  | x :: l => f x + sL f l
theorem sL_app {α : Type} (f : α → Rat) : ∀ l k : List α, sL f (l ++ k) = sL f l + sL f k
  | [], k => by show sL f k = 0 + sL f k; grind
  | x :: l, k => by have := sL_app f l k; show f x + sL f (l ++ k) = f x + sL f l + sL f k; grind
theorem sL_congr {α : Type} {f g : α → Rat} : ∀ {l : List α}, (∀ x ∈ l, f x = g x) → sL f l = sL g l
  | [], _ => rfl
  | x :: l, h => by
    show f x + sL f l = g x + sL g l
    rw [h x List.mem_cons_self, sL_congr fun y hy => h y (List.mem_cons_of_mem _ hy)]
theorem sL_le {α : Type} {f g : α → Rat} : ∀ {l : List α}, (∀ x ∈ l, f x ≤ g x) → sL f l ≤ sL g l
  | [], _ => by show (0 : Rat) ≤ 0; grind
  | x :: l, h => by
    have h1 := h x List.mem_cons_self
    have h2 := sL_le fun y hy => h y (List.mem_cons_of_mem x hy)
    show f x + sL f l ≤ g x + sL g l
    grind
theorem sL_mul {α : Type} (c : Rat) (f : α → Rat) : ∀ l : List α, sL (fun x => c * f x) l = c * sL f l
  | [] => by show (0 : Rat) = c * 0; grind
  | x :: l => by have := sL_mul c f l; show c * f x + sL (fun x => c * f x) l = c * (f x + sL f l); grind
theorem sL_const {α : Type} (c : Rat) : ∀ l : List α, sL (fun _ => c) l = (l.length : Rat) * c
  | [] => by show (0 : Rat) = 0 * c; grind
  | x :: l => by
    have := sL_const c l
    show c + sL (fun _ => c) l = ((l.length + 1 : Nat) : Rat) * c
    rw [this, cast_S]; grind
theorem sL_nn {α : Type} {f : α → Rat} {l : List α} (h : ∀ x ∈ l, 0 ≤ f x) : 0 ≤ sL f l := by
  have := sL_le (f := fun _ => 0) h
  rw [sL_const] at this
  grind
theorem sL_flat {α β : Type} (f : β → Rat) (g : α → List β) : ∀ l : List α, sL f (l.flatMap g) = sL (fun x => sL f (g x)) l
  | [] => rfl
  | x :: l => by rw [List.flatMap_cons, sL_app, sL_flat f g l]; rfl
theorem sL_map {α β : Type} (f : β → Rat) (g : α → β) : ∀ l : List α, sL f (l.map g) = sL (fun x => f (g x)) l
  | [] => rfl
  | x :: l => by show f (g x) + sL f (l.map g) = _; rw [sL_map f g l]; rfl
theorem sL_filter {α : Type} (p : α → Bool) (f : α → Rat) : ∀ l : List α, sL f (l.filter p) = sL (fun x => if p x = true then f x else 0) l
  | [] => rfl
  | x :: l => by
    have := sL_filter p f l
    cases h : p x with
    | true =>
      rw [List.filter_cons_of_pos h]
      show f x + sL f (l.filter p) = (if p x = true then f x else 0) + _
      rw [this, if_pos h]
    | false =>
      rw [List.filter_cons_of_neg (by rw [h]; simp)]
      show sL f (l.filter p) = (if p x = true then f x else 0) + _
      rw [this, if_neg (by rw [h]; simp)]; grind
theorem sL_range (f : Nat → Rat) : ∀ n, sL f (List.range n) = sR n f
  | 0 => rfl
  | n + 1 => by
    rw [List.range_succ, sL_app, sL_range f n]
    show sR n f + (f n + 0) = sR n f + f n
    grind
theorem sumQ_sL {α : Type} (f : α → Rat) (l : List α) : sumQ (l.map f) = sL f l := by
  have key : ∀ (l : List α) (a : Rat), (l.map f).foldl (· + ·) a = a + sL f l := by
    intro l
    induction l with
    | nil => intro a; show a = a + 0; grind
    | cons x l ih =>
      intro a
      rw [List.map_cons, List.foldl_cons, ih]
      show a + f x + sL f l = a + (f x + sL f l)
      grind
  unfold sumQ
  rw [key]; grind
/-! weights -/
def ex (q : Rat) : Nat → Rat
  | 0 => 1
  | n + 1 => ex q n * (q / ((n + 1 : Nat) : Rat))
def wQ : List RQ → List Nat → Rat
  | r :: rs, n :: ns => ex r.2 n * wQ rs ns
  | [], _ => 1
  | _ :: _, [] => 1
def ft : Nat → Nat
  | 0 => 1
  | n + 1 => ft n * (n + 1)
def KQ (q : Rat) : Nat := q.den ^ 6 * 720
def MQ : List RQ → Nat
  | [] => 1
  | r :: rs => KQ r.2 * MQ rs
theorem nat_pos1 (n : Nat) : (0 : Rat) < ((n + 1 : Nat) : Rat) := nat_pos (Nat.succ_pos n)
theorem div_nat_le {q : Rat} (hq : 0 ≤ q) (n : Nat) : 0 ≤ q / ((n + 1 : Nat) : Rat) ∧ q / ((n + 1 : Nat) : Rat) ≤ q := by
  have hp := nat_pos1 n
  have hc := Rat.div_mul_cancel (a := q) (b := ((n + 1 : Nat) : Rat)) (by grind)
  have h1 : 0 ≤ q / ((n + 1 : Nat) : Rat) := nonneg_of_mul hp (by rw [hc]; exact hq)
  refine ⟨h1, ?_⟩
  have h2 : (1 : Rat) ≤ ((n + 1 : Nat) : Rat) := by rw [cast_S]; have := nat_nn n; grind
  have := mul_le h1 h2
  grind
theorem ex_rng {q : Rat} (h0 : 0 < q) (h1 : q ≤ 8) : ∀ n, 0 < ex q n ∧ ex q n ≤ ((8 ^ n : Nat) : Rat)
  | 0 => ⟨by show (0 : Rat) < 1; grind, by show (1 : Rat) ≤ 1; grind⟩
  | n + 1 => by
    obtain ⟨a, b⟩ := ex_rng h0 h1 n
    have hd := div_nat_le (q := q) (by grind) n
    have hp : 0 < q / ((n + 1 : Nat) : Rat) := by
      have hc := Rat.div_mul_cancel (a := q) (b := ((n + 1 : Nat) : Rat)) (by have := nat_pos1 n; grind)
      by_cases z : q / ((n + 1 : Nat) : Rat) = 0
      · rw [z] at hc; grind
      · grind
    refine ⟨Rat.mul_pos a hp, ?_⟩
    have e1 := mul_le (c := ex q n) (by grind) (show q / ((n + 1 : Nat) : Rat) ≤ 8 by grind)
    have e2 : ((8 ^ (n + 1) : Nat) : Rat) = ((8 ^ n : Nat) : Rat) * 8 := by rw [Nat.pow_succ, Rat.natCast_mul]; rfl
    show ex q n * (q / ((n + 1 : Nat) : Rat)) ≤ _
    rw [e2]; grind
theorem dv_ex (q : Rat) : ∀ n, dv (q.den ^ n * ft n) (ex q n)
  | 0 => dv_int 1
  | n + 1 => by
    have h1 := dv_ex q n
    have h2 : dv (q.den * (n + 1)) (q / ((n + 1 : Nat) : Rat)) := by
      refine ⟨q.num, ?_⟩
      have hc := Rat.div_mul_cancel (a := q) (b := ((n + 1 : Nat) : Rat)) (by have := nat_pos1 n; grind)
      have hn := num_of q
      rw [Rat.natCast_mul, ← hn]
      grind
    have h3 := dv_mul h1 h2
    have e : q.den ^ n * ft n * (q.den * (n + 1)) = q.den ^ (n + 1) * ft (n + 1) := by
      rw [Nat.pow_succ]
      show _ = q.den ^ n * q.den * (ft n * (n + 1))
      rw [Nat.mul_assoc, Nat.mul_assoc, Nat.mul_left_comm (ft n)]
    rw [e] at h3
    exact h3
theorem ft_dvd {n : Nat} (h : n ≤ 6) : ft n ∣ 720 := by
  have h' : n = 0 ∨ n = 1 ∨ n = 2 ∨ n = 3 ∨ n = 4 ∨ n = 5 ∨ n = 6 := by omega
  rcases h' with rfl | rfl | rfl | rfl | rfl | rfl | rfl <;> decide
theorem dv_ex6 (q : Rat) {n : Nat} (h : n ≤ 6) : dv (KQ q) (ex q n) := dv_up (dv_ex q n) (Nat.mul_dvd_mul (Nat.pow_dvd_pow _ h) (ft_dvd h))
theorem KQ_lt {q : Rat} (h : q.den < 2 ^ 5) : 0 < KQ q ∧ KQ q < 2 ^ 40 := by
  refine ⟨Nat.mul_pos (Nat.pow_pos q.den_pos) (by decide), ?_⟩
  have h1 : q.den ^ 6 ≤ (2 ^ 5) ^ 6 := Nat.pow_le_pow_left (Nat.le_of_lt h) 6
  rw [← Nat.pow_mul] at h1
  have h2 : q.den ^ 6 * 720 < 2 ^ (5 * 6) * 2 ^ 10 := Nat.lt_of_le_of_lt (Nat.mul_le_mul_right _ h1) (Nat.mul_lt_mul_of_pos_left (by decide) (by decide))
  rw [← Nat.pow_add] at h2
  exact h2
theorem MQ_lt : ∀ {rs : List RQ}, (∀ r ∈ rs, r.2.den < 2 ^ 5) → 0 < MQ rs ∧ MQ rs ≤ 2 ^ (40 * rs.length)
  | [], _ => ⟨by decide, by decide⟩
  | r :: rs, h => by
    obtain ⟨a, b⟩ := MQ_lt fun x hx => h x (List.mem_cons_of_mem _ hx)
    obtain ⟨c, d⟩ := KQ_lt (h r List.mem_cons_self)
    refine ⟨Nat.mul_pos c a, ?_⟩
    have := Nat.mul_le_mul (Nat.le_of_lt d) b
    rw [← Nat.pow_add] at this
    rw [List.length_cons, Nat.mul_add, Nat.add_comm (40 * rs.length)]
    exact this
theorem dv_w : ∀ {rs : List RQ} {st : List Nat}, (∀ n ∈ st, n ≤ 6) → dv (MQ rs) (wQ rs st)
  | [], st, _ => by cases st <;> exact dv_int 1
  | r :: rs, [], _ => dv_up dv_1 (Nat.one_dvd _)
  | r :: rs, n :: st, h => dv_mul (dv_ex6 r.2 (h n List.mem_cons_self)) (dv_w fun m hm => h m (List.mem_cons_of_mem _ hm))
theorem w_rng : ∀ {rs : List RQ} {st : List Nat}, (∀ r ∈ rs, 0 < r.2) → (∀ r ∈ rs, r.2 ≤ 8) → (∀ n ∈ st, n ≤ 6) → 0 < wQ rs st ∧ wQ rs st ≤ ((2 ^ (18 * rs.length) : Nat) : Rat)
  | [], st, _, _, _ => by cases st <;> exact ⟨by show (0 : Rat) < 1; grind, by show (1 : Rat) ≤ 1; grind⟩
  | r :: rs, [], _, _, _ => by
    refine ⟨by show (0 : Rat) < 1; grind, ?_⟩
    show (1 : Rat) ≤ _
    have : ((1 : Nat) : Rat) ≤ ((2 ^ (18 * (r :: rs).length) : Nat) : Rat) := by exact_mod_cast Nat.one_le_two_pow
    exact this
  | r :: rs, n :: st, h0, h1, hn => by
    obtain ⟨a, b⟩ := w_rng (rs := rs) (st := st) (fun x hx => h0 x (List.mem_cons_of_mem _ hx)) (fun x hx => h1 x (List.mem_cons_of_mem _ hx)) fun m hm => hn m (List.mem_cons_of_mem _ hm)
    obtain ⟨c, d⟩ := ex_rng (h0 r List.mem_cons_self) (h1 r List.mem_cons_self) n
    refine ⟨Rat.mul_pos c a, ?_⟩
    have e1 : ((8 ^ n : Nat) : Rat) ≤ ((2 ^ 18 : Nat) : Rat) := by
      have : 8 ^ n ≤ 2 ^ 18 := by
        have h8 : (8 : Nat) ^ n ≤ 8 ^ 6 := Nat.pow_le_pow_right (by decide) (hn n List.mem_cons_self)
        exact Nat.le_trans h8 (by decide)
      exact_mod_cast this
    have e2 := mul_le (c := wQ rs st) (by grind) (show ex r.2 n ≤ ((2 ^ 18 : Nat) : Rat) by grind)
    have e3 := mul_le (c := ((2 ^ 18 : Nat) : Rat)) (nat_nn _) b
    have e4 : ((2 ^ (18 * (r :: rs).length) : Nat) : Rat) = ((2 ^ 18 : Nat) : Rat) * ((2 ^ (18 * rs.length) : Nat) : Rat) := by
      rw [← Rat.natCast_mul, ← Nat.pow_add, List.length_cons]
      congr 2
      omega
    show ex r.2 n * wQ rs st ≤ _
    rw [e4]
    grind
end Law
set_option exponentiation.threshold 5000
namespace Law
open PySem PySem.Spec PyProof.Rows L2 Den
/-! sums with one denominator -/
theorem totG {FA : List W → Mem → Rs W} (hA : OpT FA (· + ·)) {b : Nat} {x0 : Option W} {m : Mem} (hb : b + b ≤ 4400) : ∀ (l : List Rat) (acc : Rat) (x2 : Option W), (∀ i, i ≤ l.length → sz b (acc + sL (fun x => x) (l.take i))) → (∀ x ∈ l, sz b x) →
    ∃ y, forL (gN 2) (sSeq (sSet 1 (mCall 2 FA (mCons (mVar 1) (mCons (mVar 2) (mNil))))) (sSkip)) (l.map rq) [x0, some (.d (rq acc)), x2] m = .nx [x0, some (.d (rq (acc + sL (fun x => x) l))), y] m
  | [], acc, x2, _, _ => ⟨x2, by show Out.nx [x0, some (W.d (rq acc)), x2] m = .nx [x0, some (W.d (rq (acc + 0))), x2] m; rw [show acc + 0 = acc by grind]⟩
  | x :: l, acc, x2, h, hx => by
    have h0 := h 0 (Nat.zero_le _)
    have h0' : sz b acc := by
      have e : acc + sL (fun x => x) ((x :: l).take 0) = acc := by show acc + 0 = acc; grind
      rw [e] at h0; exact h0
    have e1 := hA _ _ acc x m h0' (hx x List.mem_cons_self) hb
    obtain ⟨y, e2⟩ := totG hA (x0 := x0) (m := m) hb l (acc + x) (some (.d (rq x))) (fun i hi => by
      have := h (i + 1) (by rw [List.length_cons]; omega)
      rw [List.take_succ_cons] at this
      have e : acc + (x + sL (fun x => x) (l.take i)) = acc + x + sL (fun x => x) (l.take i) := by grind
      have this : sz b (acc + (x + sL (fun x => x) (l.take i))) := this
      rw [e] at this; exact this) (fun y hy => hx y (List.mem_cons_of_mem _ hy))
    refine ⟨y, ?_⟩
    rw [List.map_cons, for_step (r1 := [x0, some (.d (rq acc)), some (.d (rq x))]) (r := [x0, some (.d (rq (acc + x))), some (.d (rq x))]) (m1 := m) (m' := m) rfl (by simp [e1]), e2]
    have e : acc + x + sL (fun x => x) l = acc + sL (fun x => x) (x :: l) := by show _ = acc + (x + _); grind
    rw [e]
theorem pre_sz {l : List Rat} {M b e : Nat} (h : ∀ y ∈ l, dv M y ∧ 0 ≤ y) (hs : sL (fun x => x) l ≤ ((2 ^ e : Nat) : Rat)) (hM : 0 < M) (hb : M < 2 ^ b) : (∀ i, i ≤ l.length → sz (b + e) (0 + sL (fun x => x) (l.take i))) ∧ ∀ x ∈ l, sz (b + e) x := by
  have dvL : ∀ l : List Rat, (∀ y ∈ l, dv M y ∧ 0 ≤ y) → dv M (sL (fun x => x) l) := by
    intro l
    induction l with
    | nil => intro _; exact dv_0
    | cons x l ih => intro h; exact dv_add (h x List.mem_cons_self).1 (ih fun y hy => h y (List.mem_cons_of_mem _ hy))
  have two : -((2 ^ e : Nat) : Rat) ≤ 0 := by have := nat_nn (2 ^ e); grind
  constructor
  · intro i hi
    have e1 : 0 + sL (fun x => x) (l.take i) = sL (fun x => x) (l.take i) := by grind
    rw [e1]
    have hl := sL_app (fun x : Rat => x) (l.take i) (l.drop i)
    rw [List.take_append_drop] at hl
    have n1 : 0 ≤ sL (fun x : Rat => x) (l.take i) := sL_nn fun x hx => (h x (List.mem_of_mem_take hx)).2
    have n2 : 0 ≤ sL (fun x : Rat => x) (l.drop i) := sL_nn fun x hx => (h x (List.mem_of_mem_drop hx)).2
    exact sz_dv (dvL _ fun y hy => h y (List.mem_of_mem_take hy)) hM hb (by grind) (by grind)
  · intro x hx
    have key : ∀ l : List Rat, (∀ y ∈ l, 0 ≤ y) → ∀ x ∈ l, x ≤ sL (fun x => x) l := by
      intro l
      induction l with
      | nil => intro _ x hx; cases hx
      | cons z l ih =>
        intro h x hx
        have n2 : 0 ≤ sL (fun x : Rat => x) l := sL_nn fun y hy => h y (List.mem_cons_of_mem _ hy)
        have n1 := h z List.mem_cons_self
        show x ≤ z + sL (fun x => x) l
        rcases List.mem_cons.mp hx with rfl | hx
        · grind
        · have := ih (fun y hy => h y (List.mem_cons_of_mem _ hy)) x hx
          grind
    have := key l (fun y hy => (h y hy).2) x hx
    exact sz_dv (h x hx).1 hM hb (by grind) (by have := (h x hx).2; grind)
section
variable {l : List Rat} {M b e : Nat} {x : D} {m : Mem}
theorem totD (hx : seqOf x = some (l.map rq)) (h : ∀ y ∈ l, dv M y ∧ 0 ≤ y) (hs : sL (fun x => x) l ≤ ((2 ^ e : Nat) : Rat)) (hM : 0 < M) (hb : M < 2 ^ b) (h2 : b + e ≤ 2200) : F_total [.d x] m = .ok (.d (rq (sL (fun x => x) l))) m := by
  obtain ⟨a1, a2⟩ := pre_sz h hs hM hb
  obtain ⟨y, e⟩ := totG opT_add (x0 := some (.d x)) (m := m) (by omega) l 0 none a1 a2
  have e0 : 0 + sL (fun x => x) l = sL (fun x => x) l := by grind
  rw [e0] at e
  unfold F_total runF m_total startE
  simp [rq_0, hx, e, fin]
theorem ltotD (hx : seqOf x = some (l.map rq)) (h : ∀ y ∈ l, dv M y ∧ 0 ≤ y) (hs : sL (fun x => x) l ≤ ((2 ^ e : Nat) : Rat)) (hM : 0 < M) (hb : M < 2 ^ b) (h2 : b + e ≤ 2200) : F__law_total [.d x] m = .ok (.d (rq (sL (fun x => x) l))) m := by
  obtain ⟨a1, a2⟩ := pre_sz h hs hM hb
  obtain ⟨y, e⟩ := totG opT_ladd (x0 := some (.d x)) (m := m) (by omega) l 0 none a1 a2
  have e0 : 0 + sL (fun x => x) l = sL (fun x => x) l := by grind
  rw [e0] at e
  unfold F__law_total runF m__law_total startE
  simp [rq_0, hx, e, fin]
end
/-! what fits -/
def nD (n : Nat) : D := .int (n : Int)
def capsD (caps : List Nat) : D := .tuple (caps.map nD)
def rD (r : RQ) : D := .tuple [nD r.1, rq r.2]
def routesD (rs : List RQ) : D := .tuple (rs.map rD)
def stD (st : List Nat) : D := .tuple (st.map nD)
def pD (p : Nat × RQ) : D := .tuple [nD p.1, rD p.2]
theorem zip_pD (st : List Nat) (rs : List RQ) : ((st.map nD).zip (rs.map rD)).map (fun p => PyData.tuple [p.1, p.2]) = (st.zip rs).map pD := by
  rw [List.zip_map, List.map_map]; rfl
theorem enum_nD (caps : List Nat) : enumL (caps.map nD) = caps.zipIdx.map fun p => .tuple [nD p.2, nD p.1] := by
  unfold enumL
  rw [List.zipIdx_map, List.map_map]; rfl
theorem used_sum (l : Nat) : ∀ (st : List Nat) (rs : List RQ), ((((st.zip rs).filter fun p => bit p.2.1 l).map fun p => ((p.1 : Nat) : Int)).sum : Int) = (used st rs l : Int)
  | [], [] => rfl
  | [], r :: rs => rfl
  | n :: st, [] => rfl
  | n :: st, r :: rs => by
    have ih := used_sum l st rs
    rw [List.zip_cons_cons]
    show _ = (((if bit r.1 l = true then n else 0) + used st rs l : Nat) : Int)
    cases h : bit r.1 l with
    | true =>
      rw [List.filter_cons, if_pos h, List.map_cons, List.sum_cons, ih, if_pos rfl, Int.natCast_add]
    | false =>
      rw [List.filter_cons, if_neg (by rw [h]; simp), ih, if_neg (by simp), Nat.zero_add]
theorem bit_int (b l : Nat) : ((((b : Int) / 2 ^ l) % 2 == 1) : Bool) = bit b l := by
  have e : ((b : Int) / 2 ^ l) % 2 = ((b / 2 ^ l % 2 : Nat) : Int) := by
    rw [show (2 : Int) ^ l = ((2 ^ l : Nat) : Int) by rw [Int.natCast_pow]; rfl]
    rfl
  rw [e]
  unfold bit
  by_cases h : b / 2 ^ l % 2 = 1
  · rw [h]; simp
  · rw [decide_eq_false h, beq_eq_false_iff_ne]
    omega
abbrev fitB : SM := sSeq (sIf (mBool (mOp2 (mB (mCons (mLC (mZipB (mVar 2) (mVar 1)) [5, 6, 7] (gT [gN 5, gT [gN 6, gN 7]]) (mBool (mOp2 (mMod (mShr (mVar 6) (mVar 3)) (mC (.int 2))) (mC (.int 1)) (lift2 eqD))) (mVar 5)) (mNil)) (fD1 sumD)) (mVar 4) (lift2 gtD))) (sSeq (sRet (mC (.bool false))) (sSkip)) (sSkip)) (sSkip)
section
variable {m : Mem} {caps : List Nat} {rs : List RQ} {st : List Nat}
abbrev fE (caps : List Nat) (rs : List RQ) (st : List Nat) (x3 x4 : Option W) : Den.Env := [some (.d (capsD caps)), some (.d (routesD rs)), some (.d (stD st)), x3, x4, none, none, none]
theorem fit_sum (hl : st.length ≤ 1000) (l : Nat) {x4 : Option W} : mB (mCons (mLC (mZipB (mVar 2) (mVar 1)) [5, 6, 7] (gT [gN 5, gT [gN 6, gN 7]]) (mBool (mOp2 (mMod (mShr (mVar 6) (mVar 3)) (mC (.int 2))) (mC (.int 1)) (lift2 eqD))) (mVar 5)) (mNil)) (fD1 sumD) (fE caps rs st (some (.d (nD l))) x4) m = .ok (.d (nD (used st rs l))) m := by
  have c := mLC_of (it := mZipB (mVar 2) (mVar 1)) (vs := [5, 6, 7]) (g := gT [gN 5, gT [gN 6, gN 7]]) (t := mBool (mOp2 (mMod (mShr (mVar 6) (mVar 3)) (mC (.int 2))) (mC (.int 1)) (lift2 eqD))) (a := mVar 5) (rho := fE caps rs st (some (.d (nD l))) x4) (m := m) (m0 := m) (st.zip rs) pD (fun p => bit p.2.1 l) (fun p => nD p.1)
    (by
      rw [e_ZipB, cons_run (var_run (i := 2) (w := .d (stD st)) rfl) (cons_run (var_run (i := 1) (w := .d (routesD rs)) rfl) nil_run), ev_bind]
      show Rs.ok (((st.map nD).zip (rs.map rD)).map fun p => PyData.tuple [p.1, p.2]) m = _
      rw [zip_pD]) (by rw [List.length_zip]; omega)
    fun p hp => by
      refine ⟨[some (.d (capsD caps)), some (.d (routesD rs)), some (.d (stD st)), some (.d (nD l)), x4, some (.d (nD p.1)), some (.d (nD p.2.1)), some (.d (rq p.2.2))], rfl, ?_, fun _ => ⟨.d (nD p.1), rfl, rfl⟩⟩
      have h1 : mShr (mVar 6) (mVar 3) [some (.d (capsD caps)), some (.d (routesD rs)), some (.d (stD st)), some (.d (nD l)), x4, some (.d (nD p.1)), some (.d (nD p.2.1)), some (.d (rq p.2.2))] m = .ok (.d (.int ((p.2.1 : Int) / 2 ^ l))) m := by
        refine op_run (var_run rfl) (var_run rfl) (lift2_run (y := .int (p.2.1 : Int)) (z := .int (l : Int)) rfl rfl ?_)
        rw [on_ii]
        unfold shrD
        rw [if_pos (decide_eq_true (Int.natCast_nonneg l)), Int.toNat_natCast]; rfl
      have h2 := mod_run h1 (c := mC (.int 2)) (j := 2) const_run (by omega)
      refine bool_run (op_run h2 (const_run (v := .int 1)) (lift2_run rfl rfl ?_))
      rw [eq_i, bit_int]
  refine b_run (cons_run c nil_run) ?_
  rw [val_n, f_D1, peek_d]
  have e : sumD (.list (((st.zip rs).filter fun p => bit p.2.1 l).map fun p => nD p.1)) = some (nD (used st rs l)) := by
    have h := sum_ints (((st.zip rs).filter fun p => bit p.2.1 l).map fun p => ((p.1 : Nat) : Int))
    rw [List.map_map, used_sum] at h
    exact h
  show (match sumD (.list (((st.zip rs).filter fun p => bit p.2.1 l).map fun p => nD p.1)) with | some y => Rs.ok (W.d y) m | none => .no) = _
  rw [e]
theorem fit_go (hl : st.length ≤ 1000) : ∀ (cs : List (Nat × Nat)) (x3 x4 : Option W), ∃ y3 y4, forL (gT [gN 3, gN 4]) fitB (cs.map fun p => .tuple [nD p.2, nD p.1]) (fE caps rs st x3 x4) m =
    if (cs.all fun p => decide (used st rs p.2 ≤ p.1)) = true then .nx (fE caps rs st y3 y4) m else .rt (.d (.bool false)) m
  | [], x3, x4 => ⟨x3, x4, rfl⟩
  | p :: cs, x3, x4 => by
    have t1 := op_run (f := lift2 gtD) (fit_sum (m := m) (caps := caps) (rs := rs) hl p.2 (x4 := some (.d (nD p.1)))) (var_run (i := 4) (w := .d (nD p.1)) rfl) (x := .d (.bool (decide ((p.1 : Int) < (used st rs p.2 : Int))))) (lift2_run rfl rfl rfl)
    have g : gT [gN 3, gN 4] (.d (.tuple [nD p.2, nD p.1])) (fE caps rs st x3 x4) m = some (fE caps rs st (some (.d (nD p.2))) (some (.d (nD p.1))), m) := rfl
    by_cases h : used st rs p.2 ≤ p.1
    · rw [decide_eq_false (by omega)] at t1
      obtain ⟨y3, y4, ih⟩ := fit_go hl cs (some (.d (nD p.2))) (some (.d (nD p.1)))
      refine ⟨y3, y4, ?_⟩
      have b : fitB (fE caps rs st (some (.d (nD p.2))) (some (.d (nD p.1)))) m = .nx (fE caps rs st (some (.d (nD p.2))) (some (.d (nD p.1)))) m := by
        unfold fitB
        rw [seq_run (if_no (bool_run t1))]; rfl
      rw [List.map_cons, for_step g b, ih, List.all_cons, decide_eq_true h, Bool.true_and]
    · rw [decide_eq_true (by omega)] at t1
      refine ⟨x3, x4, ?_⟩
      have b : fitB (fE caps rs st (some (.d (nD p.2))) (some (.d (nD p.1)))) m = .rt (.d (.bool false)) m := by
        unfold fitB
        rw [e_Seq, if_yes (bool_run t1)]; rfl
      rw [List.map_cons, for_ret g b, List.all_cons, decide_eq_false h, Bool.false_and, if_neg (by simp)]
theorem fits_ok (hl : st.length ≤ 1000) : F_fits [.d (capsD caps), .d (routesD rs), .d (stD st)] m = .ok (.d (.bool (fitsQ caps rs st))) m := by
  obtain ⟨y3, y4, e⟩ := fit_go (m := m) (caps := caps) (rs := rs) hl caps.zipIdx none none
  have t : sFor (mEnum (mVar 0)) (gT [gN 3, gN 4]) fitB (fE caps rs st none none) m = if fitsQ caps rs st = true then .nx (fE caps rs st y3 y4) m else .rt (.d (.bool false)) m := by
    rw [e_For, e_Enum, cons_run (var_run (i := 0) (w := .d (capsD caps)) rfl) nil_run, ev_bind]
    show forL (gT [gN 3, gN 4]) fitB (enumL (caps.map nD)) (fE caps rs st none none) m = _
    rw [enum_nD, e]
    rfl
  unfold F_fits
  refine run_d (m' := m) ?_ rfl
  have h0 : startE 8 [.d (capsD caps), .d (routesD rs), .d (stD st)] = fE caps rs st none none := rfl
  rw [h0]
  unfold m_fits
  rw [e_Seq, t]
  cases fitsQ caps rs st <;> rfl
end
end Law
set_option exponentiation.threshold 5000
namespace Law
open PySem PySem.Spec PyProof.Rows L2 Den
/-! the states that the program finds -/
theorem sIx_n (n e k : Nat) : HT.sIx n e (some (k : Int)) = min k n := HT.sIx_nat n e k
theorem cut_to {α : Type} {xs : List α} (k : Nat) : Den.cutD xs none (some (k : Int)) = xs.take k := by
  unfold Den.cutD
  rw [sIx_n]
  show (xs.drop 0).take (min k xs.length - 0) = xs.take k
  rw [List.drop_zero, Nat.sub_zero]
  by_cases h : k ≤ xs.length
  · rw [Nat.min_eq_left h]
  · rw [Nat.min_eq_right (by omega), List.take_length, List.take_of_length_le (by omega)]
theorem cut_from {α : Type} {xs : List α} (k : Nat) : Den.cutD xs (some (k : Int)) none = xs.drop k := by
  unfold Den.cutD
  rw [sIx_n]
  show (xs.drop (min k xs.length)).take (xs.length - min k xs.length) = xs.drop k
  by_cases h : k ≤ xs.length
  · rw [Nat.min_eq_left h, List.take_of_length_le (by rw [List.length_drop]; exact Nat.le_refl _)]
  · rw [Nat.min_eq_right (by omega), List.drop_length, List.drop_eq_nil_of_le (by omega), List.take_nil]
theorem sl_to {rho : Den.Env} {m : Mem} {a b : EM W} {xs : List D} {k : Nat} (h : a rho m = .ok (.d (.tuple xs)) m) (h2 : b rho m = .ok (.d (.int (k : Int))) m) : mSl a oNone (oSome b) rho m = .ok (.d (.tuple (xs.take k))) m := by
  rw [e_Sl, h, ev_bindV, e_oN, ev_bind, e_oS, h2, ev_bindV, val_d, ev_bind, val_d, f_Sl, peek_d]
  show Rs.ok (W.d (.tuple (Den.cutD xs none (some (k : Int))))) m = _
  rw [cut_to]
theorem sl_from {rho : Den.Env} {m : Mem} {a b : EM W} {xs : List D} {k : Nat} (h : a rho m = .ok (.d (.tuple xs)) m) (h2 : b rho m = .ok (.d (.int (k : Int))) m) : mSl a (oSome b) oNone rho m = .ok (.d (.tuple (xs.drop k))) m := by
  rw [e_Sl, h, ev_bindV, e_oS, h2, ev_bindV, val_d, ev_bind, e_oN, ev_bind, val_d, f_Sl, peek_d]
  show Rs.ok (W.d (.tuple (Den.cutD xs (some (k : Int)) none))) m = _
  rw [cut_from]
theorem star_run {rho : Den.Env} {m m1 m2 : Mem} {a : EM W} {r : EM (List W)} {xs : List D} {ws : List W} (h : a rho m = .ok (.d (.tuple xs)) m1) (h2 : r rho m1 = .ok ws m2) : mStar a r rho m = .ok (xs.map W.d ++ ws) m2 := by
  rw [e_Star, h, ev_bindV, val_d]
  show (r rho m1).bind (fun ws m2 => Rs.ok (xs.map W.d ++ ws) m2) = _
  rw [h2, ev_bind]
theorem frz_ds {m : Mem} : ∀ xs : List D, frzAll (xs.map W.d) m = some (xs, m)
  | [] => rfl
  | x :: xs => by rw [List.map_cons, frzAll_d, frz_ds xs]
theorem tup_ds {rho : Den.Env} {m m1 : Mem} {r : EM (List W)} {xs : List D} (h : r rho m = .ok (xs.map W.d) m1) (hs : xs.length ≤ 1000000) : mTup r rho m = .ok (.d (.tuple xs)) m1 := tup_run h (frz_ds xs) (small_le hs)
theorem run_dt {N : Nat} {c : SM} {ws : List W} {m m' : Mem} {x : D} {rho : Den.Env} (h0 : startE N ws = rho) (h : c rho m = .rt (.d x) m') (hl : m'.take m.length = m) : runF N c ws m = .ok (.d x) m := by
  unfold runF
  rw [h0, h]
  show Rs.ok (W.d x) (m'.take m.length) = _
  rw [hl]
abbrev lsT : EM Bool := mTru (mCall 3 F_fits (mCons (mVar 0) (mCons (mSl (mVar 1) (oNone) (oSome (mAdd (mVar 3) (mC (.int 1))))) (mCons (mTup (mStar (mVar 5) (mCons (mVar 6) (mNil)))) (mNil)))))
abbrev lsC : SM := sSeq (sDrop (mM .lst (mVar 4) (mCons (mTup (mStar (mVar 5) (mCons (mVar 6) (mNil)))) (mNil)) fAppend)) (sSeq (sAugI 6 (fun i j => i + j) (mC (.int 1))) (sSeq (sIf (mBool (mOp2 (mB (mCons (mVar 4) (mNil)) (fD1 lenD)) (mC (.int 2000)) (lift2 gtD))) (sSeq (sRaise "TooLarge") (sSkip)) (sSkip)) (sSkip)))
abbrev lsI : SM := sSeq (sSet 6 (mC (.int 0))) (sSeq (sWhile 1000000 lsT lsC) (sSkip))
abbrev lsO : SM := sSeq (sSetR 4 (mLst (mNil))) (sSeq (sFor (mItems (mVar 2)) (gN 5) lsI) (sSeq (sSet 2 (mVar 4)) (sFrz 2 (sSkip))))
section
variable {m : Mem} {caps : List Nat} {rs : List RQ} {B : Nat}
abbrev lsE (caps : List Nat) (rs : List RQ) (x2 x3 x4 x5 x6 : Option W) : Den.Env := [some (.d (capsD caps)), some (.d (routesD rs)), x2, x3, x4, x5, x6]
theorem stD_app (s : List Nat) (n : Nat) : (s.map nD).map W.d ++ [W.d (nD n)] = ((s ++ [n]).map nD).map W.d := by simp
theorem more_run {s : List Nat} {n : Nat} (hs : s.length ≤ 100) {x2 x3 x4 : Option W} : mTup (mStar (mVar 5) (mCons (mVar 6) (mNil))) (lsE caps rs x2 x3 x4 (some (.d (stD s))) (some (.d (nD n)))) m = .ok (.d (stD (s ++ [n]))) m := by
  refine tup_ds ?_ (by rw [List.length_map, List.length_append, List.length_singleton]; omega)
  rw [star_run (xs := s.map nD) (var_run rfl) (cons_run (a := mVar 6) (w := .d (nD n)) (var_run rfl) nil_run), ← stD_app]
  rfl
theorem fits_take {s : List Nat} {k n : Nat} (hs : s.length = k) : fitsQ caps (rs.take (k + 1)) (s ++ [n]) = fitsQ caps rs (s ++ [n]) := by
  unfold fitsQ
  congr 1
  funext p
  rw [used_take _ _ _ _ (by rw [List.length_append, List.length_singleton]; omega)]
theorem lsT_run {s : List Nat} {k n : Nat} (hs : s.length = k) (hk : k ≤ 100) {x2 x4 : Option W} : lsT (lsE caps rs x2 (some (.d (nD k))) x4 (some (.d (stD s))) (some (.d (nD n)))) m = .ok (fitsQ caps rs (s ++ [n])) m := by
  have e1 := sl_to (m := m) (rho := lsE caps rs x2 (some (.d (nD k))) x4 (some (.d (stD s))) (some (.d (nD n)))) (a := mVar 1) (b := mAdd (mVar 3) (mC (.int 1))) (xs := rs.map rD) (k := k + 1) (var_run rfl) (add_run (w := .d (nD k)) (w2 := .d (.int 1)) (var_run rfl) const_run rfl)
  rw [← List.map_take] at e1
  have e2 := fits_ok (m := m) (caps := caps) (rs := rs.take (k + 1)) (st := s ++ [n]) (by rw [List.length_append, List.length_singleton]; omega)
  rw [fits_take hs] at e2
  exact tru_run (call_run (cons_run (w := .d (capsD caps)) (var_run rfl) (cons_run e1 (cons_run (more_run (by omega)) nil_run))) rfl e2) rfl
theorem aug_run {i : Nat} {f : Int → Int → Int} {rho : Den.Env} {x y : Int} (h : rho[i]? = some (some (.d (.int x)))) : sAugI i f (mC (.int y)) rho m = .nx (rho.set i (some (.d (.int (f x y))))) m := by
  unfold sAugI
  rw [h]; rfl
theorem lsC_run {s : List Nat} {n : Nat} (hs : s.length ≤ 100) {X : List D} (hX : X.length ≤ 1999) {x2 x3 : Option W} : lsC (lsE caps rs x2 x3 (some (.r m.length)) (some (.d (stD s))) (some (.d (nD n)))) (m ++ [some (.list X)]) = .nx (lsE caps rs x2 x3 (some (.r m.length)) (some (.d (stD s))) (some (.d (nD (n + 1))))) (m ++ [some (.list (X ++ [stD (s ++ [n])]))]) := by
  have t1 := app_run (i := 4) (rho := lsE caps rs x2 x3 (some (.r m.length)) (some (.d (stD s))) (some (.d (nD n)))) (m := m ++ [some (.list X)]) (h := m.length) (ds := X) rfl (get_last m _) (more_run hs) (by omega)
  rw [set_last] at t1
  have t2 := aug_run (m := m ++ [some (.list (X ++ [stD (s ++ [n])]))]) (i := 6) (f := fun i j => i + j) (y := 1) (rho := lsE caps rs x2 x3 (some (.r m.length)) (some (.d (stD s))) (some (.d (nD n)))) (x := (n : Int)) rfl
  have t3 : mBool (mOp2 (mB (mCons (mVar 4) (mNil)) (fD1 lenD)) (mC (.int 2000)) (lift2 gtD)) (lsE caps rs x2 x3 (some (.r m.length)) (some (.d (stD s))) (some (.d (nD (n + 1))))) (m ++ [some (.list (X ++ [stD (s ++ [n])]))]) = .ok false (m ++ [some (.list (X ++ [stD (s ++ [n])]))]) := by
    have b := b_run (fm := fD1 lenD) (cons_run (a := mVar 4) (rho := lsE caps rs x2 x3 (some (.r m.length)) (some (.d (stD s))) (some (.d (nD (n + 1))))) (m := m ++ [some (.list (X ++ [stD (s ++ [n])]))]) (w := .r m.length) (var_run rfl) nil_run) (w := .d (.int ((X ++ [stD (s ++ [n])]).length : Nat))) (m2 := m ++ [some (.list (X ++ [stD (s ++ [n])]))]) (by
      rw [val_r, f_D1, peek_r, get_last]; rfl)
    refine bool_run (op_run b const_run (lift2_run (f := gtD) rfl rfl ?_))
    rw [gt_i, decide_eq_false (by rw [List.length_append, List.length_singleton]; omega)]
  unfold lsC
  rw [seq_run t1, seq_run t2]
  have e : (lsE caps rs x2 x3 (some (.r m.length)) (some (.d (stD s))) (some (.d (nD n)))).set 6 (some (.d (.int ((n : Int) + 1)))) = lsE caps rs x2 x3 (some (.r m.length)) (some (.d (stD s))) (some (.d (nD (n + 1)))) := rfl
  rw [e, seq_run (if_no t3)]
  rfl
theorem lsW_run {s : List Nat} {k M : Nat} (hs : s.length = k) (hk : k ≤ 100) (h1 : ∀ n, n < M → fitsQ caps rs (s ++ [n]) = true) (h2 : fitsQ caps rs (s ++ [M]) = false) {x2 : Option W} : ∀ (d fuel n : Nat) (X : List D), M = n + d → d < fuel → X.length + d ≤ 2000 →
    whileN lsT lsC fuel (lsE caps rs x2 (some (.d (nD k))) (some (.r m.length)) (some (.d (stD s))) (some (.d (nD n)))) (m ++ [some (.list X)]) = .nx (lsE caps rs x2 (some (.d (nD k))) (some (.r m.length)) (some (.d (stD s))) (some (.d (nD M)))) (m ++ [some (.list (X ++ (List.range' n d).map fun n => stD (s ++ [n])))])
  | 0, 0, n, X, hM, hf, hX => by omega
  | 0, fuel + 1, n, X, hM, hf, hX => by
    subst hM
    rw [while_end (m1 := m ++ [some (.list X)]) (by rw [lsT_run hs hk]; exact congrArg (fun b => Rs.ok b _) h2)]
    simp
  | d + 1, 0, n, X, hM, hf, hX => by omega
  | d + 1, fuel + 1, n, X, hM, hf, hX => by
    rw [while_step (m1 := m ++ [some (.list X)]) (by rw [lsT_run hs hk, h1 n (by omega)]) (lsC_run (by omega) (by omega)), lsW_run hs hk h1 h2 d fuel (n + 1) _ (by omega) (by omega) (by rw [List.length_append, List.length_singleton]; omega)]
    rw [List.range'_succ, List.map_cons, List.append_assoc, List.singleton_append]
/-- all that go on from one state -/
theorem lsI_run (hc : ∀ c ∈ caps, c ≤ B) (hB : B ≤ 1000) (hr : ∀ r ∈ rs, 0 < r.1 ∧ r.1 < 2 ^ caps.length) {s : List Nat} {k : Nat} (hs : s.length = k) (hk : k < rs.length) (hk2 : k ≤ 100) {X : List D} (hX : X.length + (B + 1) ≤ 2000) {x2 x6 : Option W} :
    ∃ y6, lsI (lsE caps rs x2 (some (.d (nD k))) (some (.r m.length)) (some (.d (stD s))) x6) (m ++ [some (.list X)]) = .nx (lsE caps rs x2 (some (.d (nD k))) (some (.r m.length)) (some (.d (stD s))) y6) (m ++ [some (.list (X ++ (nextQ caps rs B s).map stD))]) := by
  obtain ⟨M, hM, e, h1, h2⟩ := next_rng hc hr (s := s) (by omega)
  refine ⟨some (.d (nD M)), ?_⟩
  have t1 : sSet 6 (mC (.int 0)) (lsE caps rs x2 (some (.d (nD k))) (some (.r m.length)) (some (.d (stD s))) x6) (m ++ [some (.list X)]) = .nx (lsE caps rs x2 (some (.d (nD k))) (some (.r m.length)) (some (.d (stD s))) (some (.d (nD 0)))) (m ++ [some (.list X)]) := rfl
  have t2 := lsW_run (m := m) (x2 := x2) hs hk2 h1 h2 M 1000000 0 X (by omega) (by omega) (by omega)
  rw [← while_def] at t2
  unfold lsI
  rw [seq_run t1, seq_run t2, e, List.map_map, List.range_eq_range', e_Skip]
  rfl
theorem ls_go (hc : ∀ c ∈ caps, c ≤ B) (hB : B ≤ 1000) (hr : ∀ r ∈ rs, 0 < r.1 ∧ r.1 < 2 ^ caps.length) {k : Nat} (hk : k < rs.length) (hk2 : k ≤ 100) {x2 : Option W} : ∀ (ss : List (List Nat)) (X : List D) (x5 x6 : Option W), (∀ s ∈ ss, s.length = k) → X.length + ss.length * (B + 1) ≤ 2000 →
    ∃ y5 y6, forL (gN 5) lsI (ss.map stD) (lsE caps rs x2 (some (.d (nD k))) (some (.r m.length)) x5 x6) (m ++ [some (.list X)]) = .nx (lsE caps rs x2 (some (.d (nD k))) (some (.r m.length)) y5 y6) (m ++ [some (.list (X ++ (ss.flatMap (nextQ caps rs B)).map stD))])
  | [], X, x5, x6, _, _ => ⟨x5, x6, by simp [forL]⟩
  | s :: ss, X, x5, x6, hs, hX => by
    rw [List.length_cons, Nat.add_mul, Nat.one_mul] at hX
    obtain ⟨y6, e1⟩ := lsI_run (m := m) (x2 := x2) (x6 := x6) hc hB hr (hs s List.mem_cons_self) hk hk2 (X := X) (by omega)
    have hl : (nextQ caps rs B s).length ≤ B + 1 := by
      unfold nextQ
      rw [List.length_map]
      exact Nat.le_trans (List.length_filter_le _ _) (by rw [List.length_range]; exact Nat.le_refl _)
    obtain ⟨z5, z6, e2⟩ := ls_go hc hB hr hk hk2 (x2 := x2) ss (X ++ (nextQ caps rs B s).map stD) (some (.d (stD s))) y6 (fun t ht => hs t (List.mem_cons_of_mem _ ht)) (by rw [List.length_append, List.length_map]; omega)
    refine ⟨z5, z6, ?_⟩
    have g0 : gN 5 (.d (stD s)) (lsE caps rs x2 (some (.d (nD k))) (some (.r m.length)) x5 x6) (m ++ [some (PyData.list X)]) = some (lsE caps rs x2 (some (.d (nD k))) (some (.r m.length)) (some (.d (stD s))) x6, m ++ [some (PyData.list X)]) := rfl
    have e2' := for_step (xs := ss.map stD) g0 e1
    rw [List.map_cons, e2', e2, List.flatMap_cons, List.map_append, List.append_assoc]
end
abbrev ssD (ss : List (List Nat)) : D := .list (ss.map stD)
section
variable {m : Mem} {caps : List Nat} {rs : List RQ} {B : Nat}
theorem frz_ls {n : Nat} {x : D} {x3 x5 x6 : Option W} : ∃ y3 y5 y6, (lsE caps rs (some (.r n)) x3 (some (.r n)) x5 x6).map (frzW n x) = lsE caps rs (some (.d x)) y3 (some (.d x)) y5 y6 := by
  refine ⟨frzW n x x3, frzW n x x5, frzW n x x6, ?_⟩
  have h2 : frzW n x (some (.r n)) = some (.d x) := by
    show (if n = n then some (W.d x) else some (.r n)) = _
    rw [if_pos rfl]
  simp only [List.map_cons, List.map_nil, h2]
  rfl
theorem lsO_run (hc : ∀ c ∈ caps, c ≤ B) (hB : B ≤ 1000) (hr : ∀ r ∈ rs, 0 < r.1 ∧ r.1 < 2 ^ caps.length) {k : Nat} (hk : k < rs.length) (hk2 : k ≤ 100) {ss : List (List Nat)} (hs : ∀ s ∈ ss, s.length = k) (hX : ss.length * (B + 1) ≤ 2000) {x4 x5 x6 : Option W} :
    ∃ y3 y4 y5 y6, lsO (lsE caps rs (some (.d (ssD ss))) (some (.d (nD k))) x4 x5 x6) m = .nx (lsE caps rs (some (.d (ssD (ss.flatMap (nextQ caps rs B))))) y3 y4 y5 y6) (m ++ [none]) := by
  obtain ⟨z5, z6, e1⟩ := ls_go (m := m) (x2 := some (.d (ssD ss))) hc hB hr hk hk2 ss [] x5 x6 hs (by simpa using hX)
  rw [List.nil_append] at e1
  obtain ⟨y3, y5, y6, ef⟩ := frz_ls (caps := caps) (rs := rs) (n := m.length) (x := ssD (ss.flatMap (nextQ caps rs B))) (x3 := some (.d (nD k))) (x5 := z5) (x6 := z6)
  have t1 : sSetR 4 (mLst (mNil)) (lsE caps rs (some (.d (ssD ss))) (some (.d (nD k))) x4 x5 x6) m = .nx (lsE caps rs (some (.d (ssD ss))) (some (.d (nD k))) (some (.r m.length)) x5 x6) (m ++ [some (.list [])]) := rfl
  have t2 : sFor (mItems (mVar 2)) (gN 5) lsI (lsE caps rs (some (.d (ssD ss))) (some (.d (nD k))) (some (.r m.length)) x5 x6) (m ++ [some (.list [])]) = .nx (lsE caps rs (some (.d (ssD ss))) (some (.d (nD k))) (some (.r m.length)) z5 z6) (m ++ [some (ssD (ss.flatMap (nextQ caps rs B)))]) := by
    rw [e_For, show mItems (mVar 2) (lsE caps rs (some (.d (ssD ss))) (some (.d (nD k))) (some (.r m.length)) x5 x6) (m ++ [some (.list [])]) = .ok (ss.map stD) (m ++ [some (.list [])]) from rfl, ev_thenS, e1]
  have t3 : sSet 2 (mVar 4) (lsE caps rs (some (.d (ssD ss))) (some (.d (nD k))) (some (.r m.length)) z5 z6) (m ++ [some (ssD (ss.flatMap (nextQ caps rs B)))]) = .nx (lsE caps rs (some (.r m.length)) (some (.d (nD k))) (some (.r m.length)) z5 z6) (m ++ [some (ssD (ss.flatMap (nextQ caps rs B)))]) := rfl
  refine ⟨y3, some (.d (ssD (ss.flatMap (nextQ caps rs B)))), y5, y6, ?_⟩
  unfold lsO
  rw [seq_run t1, seq_run t2, seq_run t3, frz_run (i := 2) (n := m.length) rfl (get_last m _), ef, set_last]
  rfl
theorem lsAll (hc : ∀ c ∈ caps, c ≤ B) (hB : B ≤ 1000) (hr : ∀ r ∈ rs, 0 < r.1 ∧ r.1 < 2 ^ caps.length) (hl : rs.length ≤ 100) (hq : ∀ k, k < rs.length → (B + 1) ^ (k + 1) ≤ 2000) : ∃ y3 y4 y5 y6 js, forL (gN 3) lsO ((List.range rs.length).map fun k : Nat => PyData.int (k : Int)) (lsE caps rs (some (.d (ssD [[]]))) none none none none) m = .nx (lsE caps rs (some (.d (ssD (statesQ caps rs B rs.length)))) y3 y4 y5 y6) (m ++ js) := by
  obtain ⟨r, m', e, js, rfl, y3, y4, y5, y6, rfl⟩ := for_inv (g := gN 3) (c := lsO) (rho := lsE caps rs (some (.d (ssD [[]]))) none none none none) (m := m) ((List.range rs.length).map fun k : Nat => PyData.int (k : Int))
    (fun i rho m1 => ∃ js, m1 = m ++ js ∧ ∃ y3 y4 y5 y6, rho = lsE caps rs (some (.d (ssD (statesQ caps rs B i)))) y3 y4 y5 y6) ⟨[], by simp, none, none, none, none, rfl⟩ fun i hi rho m1 hI => by
      obtain ⟨js, rfl, y3, y4, y5, y6, rfl⟩ := hI
      rw [List.length_map, List.length_range] at hi
      have hx := Nat.mul_le_mul_right (B + 1) (states_count (caps := caps) (rs := rs) (B := B) i)
      rw [← Nat.pow_succ] at hx
      obtain ⟨z3, z4, z5, z6, t⟩ := lsO_run (m := m ++ js) hc hB hr hi (by omega) (ss := statesQ caps rs B i) (fun s hs => states_len hs) (Nat.le_trans hx (hq i hi)) (x4 := y4) (x5 := y5) (x6 := y6)
      exact ⟨lsE caps rs (some (.d (ssD (statesQ caps rs B i)))) (some (.d (nD i))) y4 y5 y6, m ++ js, by rw [List.getElem_map, List.getElem_range]; rfl, _, _, t, js ++ [none], by rw [List.append_assoc], z3, z4, z5, z6, rfl⟩
  rw [List.length_map, List.length_range] at e
  exact ⟨y3, y4, y5, y6, js, e⟩
theorem states_ok (hc : ∀ c ∈ caps, c ≤ B) (hB : B ≤ 1000) (hr : ∀ r ∈ rs, 0 < r.1 ∧ r.1 < 2 ^ caps.length) (hl : rs.length ≤ 100) (hq : ∀ k, k < rs.length → (B + 1) ^ (k + 1) ≤ 2000) : F_link_states_of [.d (capsD caps), .d (routesD rs)] m = .ok (.d (ssD (statesQ caps rs B rs.length))) m := by
  obtain ⟨y3, y4, y5, y6, js, e⟩ := lsAll (m := m) hc hB hr hl hq
  have t1 : sSet 2 (mLst (mCons (mTup (mNil)) (mNil))) (lsE caps rs none none none none none) m = .nx (lsE caps rs (some (.d (ssD [[]]))) none none none none) m := rfl
  have rg := range1_any (m := m) (rho := lsE caps rs (some (.d (ssD [[]]))) none none none none) (a := mB (mCons (mVar 1) (mNil)) (fD1 lenD)) (n := rs.length) (by
    refine b_run (cons_run (w := .d (routesD rs)) (var_run rfl) nil_run) ?_
    show Rs.ok (W.d (.int ((rs.map rD).length : Nat))) m = _
    rw [List.length_map]) (by omega)
  have t2 : sFor (mRange1 (mB (mCons (mVar 1) (mNil)) (fD1 lenD))) (gN 3) lsO (lsE caps rs (some (.d (ssD [[]]))) none none none none) m = .nx (lsE caps rs (some (.d (ssD (statesQ caps rs B rs.length)))) y3 y4 y5 y6) (m ++ js) := by
    rw [e_For, rg, ev_thenS, e]
  unfold F_link_states_of
  refine run_dt (m' := m ++ js) (rho := lsE caps rs none none none none none) rfl ?_ (List.take_left)
  unfold m_link_states_of
  rw [seq_run t1, seq_run t2]
  exact ret_run (var_run rfl)
end
end Law
set_option exponentiation.threshold 5000
namespace Law
open PySem PySem.Spec PyProof.Rows L2 Den
/-! weights and shares of the program -/
theorem chain_run {f g : W → W → Mem → Rs W} {a b c : EM W} {rho : Den.Env} {m : Mem} {w1 w2 w3 : W} {p q : Bool} (h1 : a rho m = .ok w1 m) (h2 : b rho m = .ok w2 m) (h3 : c rho m = .ok w3 m) (hf : f (val w1) (val w2) m = .ok (.d (.bool p)) m) (hg : g (val w2) (val w3) m = .ok (.d (.bool q)) m) : mChain f g a b c rho m = .ok (.d (.bool (p && q))) m := by
  rw [e_Chain, h1, ev_bindV, h2, ev_bindV, hf, ev_bindV]
  cases p with
  | false => rfl
  | true =>
    show (c rho m).bindV (fun z m4 => g (val w2) z m4) = _
    rw [h3, ev_bindV, hg]; rfl
theorem for_run {it : EM (List D)} {g : GM} {c : SM} {items : List D} {rho : Den.Env} {m m1 : Mem} {o : Out} (hi : it rho m = .ok items m1) (h : forL g c items rho m1 = o) : sFor it g c rho m = o := by rw [e_For, hi, ev_thenS, h]
theorem forN_step {i : Nat} {c : SM} {x : D} {xs : List D} {rho r : Den.Env} {m m' : Mem} (h2 : c (rho.set i (some (.d x))) m = .nx r m') : forL (gN i) c (x :: xs) rho m = forL (gN i) c xs r m' := for_step (show gN i (.d x) rho m = some (rho.set i (some (.d x)), m) from rfl) h2
theorem forT2_step {i j : Nat} {c : SM} {x y : D} {xs : List D} {rho r : Den.Env} {m m' : Mem} (h2 : c ((rho.set i (some (.d x))).set j (some (.d y))) m = .nx r m') : forL (gT [gN i, gN j]) c (.tuple [x, y] :: xs) rho m = forL (gT [gN i, gN j]) c xs r m' := for_step gT2 h2
theorem sz_q {q : Rat} (h0 : 0 < q) (h1 : q ≤ 8) (hd : q.den < 2 ^ 5) : sz 8 q := sz_dv (b := 5) (e := 3) (dv_den q) q.den_pos hd (by have : ((2 ^ 3 : Nat) : Rat) = 8 := rfl; grind) (by have : ((2 ^ 3 : Nat) : Rat) = 8 := rfl; grind)
theorem sz_nat {n b : Nat} (h : n < 2 ^ b) (hb : 0 < b) : sz b (n : Rat) := ⟨by show ((n : Nat) : Int).natAbs < 2 ^ b; rw [Int.natAbs_natCast]; exact h, by show (1 : Nat) < 2 ^ b; exact Nat.one_lt_two_pow (by omega)⟩
theorem rq_nat (n : Nat) : rq (n : Rat) = .tuple [nD n, .int 1] := rfl
abbrev wbI : SM := sSeq (sSet 2 (mCall 2 F_times (mCons (mVar 2) (mCons (mCall 2 F_by (mCons (mVar 3) (mCons (mTup (mCons (mAdd (mVar 5) (mC (.int 1))) (mCons (mC (.int 1)) (mNil)))) (mNil)))) (mNil))))) (sSkip)
section
variable {m : Mem} {x0 x1 x4 : Option W}
theorem wbI_run {acc q : Rat} {j : Nat} (h0 : 0 < q) (h1 : q ≤ 8) (hd : q.den < 2 ^ 5) (hj : j < 6) {c : Nat} (ha : sz c acc) (hc : c ≤ 4000) : wbI [x0, x1, some (.d (rq acc)), some (.d (rq q)), x4, some (.d (nD j))] m = .nx [x0, x1, some (.d (rq (acc * (q / ((j + 1 : Nat) : Rat))))), some (.d (rq q)), x4, some (.d (nD j))] m := by
  have hn : ((j + 1 : Nat) : Rat) ≠ 0 := by have := nat_pos1 j; grind
  have z2 : sz 3 ((j + 1 : Nat) : Rat) := sz_nat (by have : (2 : Nat) ^ 3 = 8 := rfl; omega) (by decide)
  have e1 := by_ok (m := m) (sz_q h0 h1 hd) z2 hn (by omega)
  have e2 := times_ok (m := m) ha (sz_div (sz_q h0 h1 hd) z2 hn) (by omega)
  have t1 : mTup (mCons (mAdd (mVar 5) (mC (.int 1))) (mCons (mC (.int 1)) (mNil))) [x0, x1, some (.d (rq acc)), some (.d (rq q)), x4, some (.d (nD j))] m = .ok (.d (rq ((j + 1 : Nat) : Rat))) m := rfl
  have t2 := set_run2 (i := 2) (rho := [x0, x1, some (.d (rq acc)), some (.d (rq q)), x4, some (.d (nD j))]) (call2_run (a := mVar 2) (w1 := .d (rq acc)) rfl (call2_run (a := mVar 3) (w1 := .d (rq q)) rfl t1 e1) e2) rfl
  unfold wbI
  rw [seq_run t2]; rfl
theorem wb_in {acc q : Rat} (h0 : 0 < q) (h1 : q ≤ 8) (hd : q.den < 2 ^ 5) {c : Nat} (hc : c ≤ 4000) : ∀ (d j : Nat) (x5 : Option W), j + d ≤ 6 → (∀ i, i ≤ 6 → sz c (acc * ex q i)) → ∃ y5, forL (gN 5) wbI ((List.range' j d).map fun k : Nat => PyData.int (k : Int)) [x0, x1, some (.d (rq (acc * ex q j))), some (.d (rq q)), x4, x5] m = .nx [x0, x1, some (.d (rq (acc * ex q (j + d)))), some (.d (rq q)), x4, y5] m
  | 0, j, x5, _, _ => ⟨x5, rfl⟩
  | d + 1, j, x5, hj, hs => by
    obtain ⟨y5, e⟩ := wb_in h0 h1 hd hc d (j + 1) (some (.d (nD j))) (by omega) hs
    refine ⟨y5, ?_⟩
    have t := wbI_run (m := m) (x0 := x0) (x1 := x1) (x4 := x4) h0 h1 hd (j := j) (by omega) (hs j (by omega)) hc
    have t' := forN_step (i := 5) (x := nD j) (xs := (List.range' (j + 1) d).map fun k : Nat => PyData.int (k : Int)) (rho := [x0, x1, some (.d (rq (acc * ex q j))), some (.d (rq q)), x4, x5]) t
    have e0 : acc * ex q (j + 1) = acc * ex q j * (q / ((j + 1 : Nat) : Rat)) := by show acc * (ex q j * (q / ((j + 1 : Nat) : Rat))) = _; grind
    rw [List.range'_succ, List.map_cons]
    rw [e0] at e
    rw [show j + (d + 1) = j + 1 + d by omega, ← e]
    exact t'
abbrev wbO : SM := sSeq (sFor (mRange1 (mVar 4)) (gN 5) wbI) (sSkip)
theorem wbO_run {acc q : Rat} {n : Nat} (h0 : 0 < q) (h1 : q ≤ 8) (hd : q.den < 2 ^ 5) (hn : n ≤ 6) {c : Nat} (hc : c ≤ 4000) (hs : ∀ i, i ≤ 6 → sz c (acc * ex q i)) {x5 : Option W} : ∃ y5, wbO [x0, x1, some (.d (rq acc)), some (.d (rq q)), some (.d (nD n)), x5] m = .nx [x0, x1, some (.d (rq (acc * ex q n))), some (.d (rq q)), some (.d (nD n)), y5] m := by
  obtain ⟨y5, e⟩ := wb_in (m := m) (x0 := x0) (x1 := x1) (x4 := some (.d (nD n))) (acc := acc) h0 h1 hd hc n 0 x5 (by omega) hs
  have e0 : acc * ex q 0 = acc := by show acc * 1 = acc; grind
  rw [e0, Nat.zero_add, ← List.range_eq_range'] at e
  refine ⟨y5, ?_⟩
  have rg := range1_any (m := m) (rho := [x0, x1, some (.d (rq acc)), some (.d (rq q)), some (.d (nD n)), x5]) (a := mVar 4) (n := n) (var_run rfl) (by omega)
  unfold wbO
  have t := for_run rg e
  rw [seq_run t]; rfl
theorem wb_go : ∀ (rs : List RQ) (st : List Nat) (acc : Rat) (M b e : Nat) (x3 x4 x5 : Option W), (∀ r ∈ rs, 0 < r.2 ∧ r.2 ≤ 8 ∧ r.2.den < 2 ^ 5) → (∀ n ∈ st, n ≤ 6) → dv M acc → 0 < M → M < 2 ^ b → 0 < acc → acc ≤ ((2 ^ e : Nat) : Rat) → b + e + 58 * rs.length ≤ 4000 →
    ∃ y3 y4 y5, forL (gT [gN 3, gN 4]) wbO (((rs.map fun r => rq r.2).zip (st.map nD)).map fun p => PyData.tuple [p.1, p.2]) [x0, x1, some (.d (rq acc)), x3, x4, x5] m = .nx [x0, x1, some (.d (rq (acc * wQ rs st))), y3, y4, y5] m
  | [], st, acc, M, b, e, x3, x4, x5, _, _, _, _, _, _, _, _ => ⟨x3, x4, x5, by
    have h : wQ [] st = 1 := by cases st <;> rfl
    rw [h, show acc * 1 = acc by grind]; rfl⟩
  | r :: rs, [], acc, M, b, e, x3, x4, x5, _, _, _, _, _, _, _, _ => ⟨x3, x4, x5, by
    rw [show wQ (r :: rs) [] = 1 from rfl, show acc * 1 = acc by grind]; rfl⟩
  | r :: rs, n :: st, acc, M, b, e, x3, x4, x5, hr, hn, hv, hM, hb, h0, h1, hl => by
    rw [List.length_cons] at hl
    obtain ⟨r0, r1, rd⟩ := hr r List.mem_cons_self
    obtain ⟨k0, k1⟩ := KQ_lt rd
    have hdv : ∀ i, i ≤ 6 → dv (M * KQ r.2) (acc * ex r.2 i) := fun i hi => dv_mul hv (dv_ex6 r.2 hi)
    have hbd : ∀ i, i ≤ 6 → 0 < acc * ex r.2 i ∧ acc * ex r.2 i ≤ ((2 ^ (e + 18) : Nat) : Rat) := fun i hi => by
      obtain ⟨c, d⟩ := ex_rng r0 r1 i
      have e1 : ((8 ^ i : Nat) : Rat) ≤ ((2 ^ 18 : Nat) : Rat) := by
        have : 8 ^ i ≤ 2 ^ 18 := Nat.le_trans (Nat.pow_le_pow_right (by decide) hi) (by decide)
        exact_mod_cast this
      have e2 := mul_le (c := acc) (by grind) (show ex r.2 i ≤ ((2 ^ 18 : Nat) : Rat) by grind)
      have e3 := mul_le (c := ((2 ^ 18 : Nat) : Rat)) (nat_nn _) h1
      have e4 : ((2 ^ (e + 18) : Nat) : Rat) = ((2 ^ 18 : Nat) : Rat) * ((2 ^ e : Nat) : Rat) := by
        rw [← Rat.natCast_mul, ← Nat.pow_add, Nat.add_comm]
      refine ⟨Rat.mul_pos h0 c, ?_⟩
      rw [e4]; grind
    have hMM : 0 < M * KQ r.2 := Nat.mul_pos hM k0
    have hMb : M * KQ r.2 < 2 ^ (b + 40) := by rw [Nat.pow_add]; exact Nat.mul_lt_mul'' hb k1
    have hs : ∀ i, i ≤ 6 → sz (b + 40 + (e + 18)) (acc * ex r.2 i) := fun i hi => by
      have h := hbd i hi
      have := nat_nn (2 ^ (e + 18))
      exact sz_dv (hdv i hi) hMM hMb h.2 (by grind)
    have hn6 := hn n List.mem_cons_self
    obtain ⟨y5, t⟩ := wbO_run (m := m) (x0 := x0) (x1 := x1) (x5 := x5) r0 r1 rd hn6 (by omega) hs
    obtain ⟨z3, z4, z5, ih⟩ := wb_go rs st (acc * ex r.2 n) (M * KQ r.2) (b + 40) (e + 18) (some (.d (rq r.2))) (some (.d (nD n))) y5 (fun x hx => hr x (List.mem_cons_of_mem _ hx)) (fun x hx => hn x (List.mem_cons_of_mem _ hx)) (hdv n hn6) hMM hMb (hbd n hn6).1 (hbd n hn6).2 (by omega)
    refine ⟨z3, z4, z5, ?_⟩
    have e0 : acc * wQ (r :: rs) (n :: st) = acc * ex r.2 n * wQ rs st := by show acc * (ex r.2 n * wQ rs st) = _; grind
    rw [e0, ← ih, List.map_cons, List.map_cons, List.zip_cons_cons, List.map_cons]
    exact forT2_step t
theorem weight_ok {rs : List RQ} {st : List Nat} (hr : ∀ r ∈ rs, 0 < r.2 ∧ r.2 ≤ 8 ∧ r.2.den < 2 ^ 5) (hn : ∀ n ∈ st, n ≤ 6) (hl : rs.length ≤ 6) : F_weight_by [.d (.list (rs.map fun r => rq r.2)), .d (stD st)] m = .ok (.d (rq (wQ rs st))) m := by
  obtain ⟨y3, y4, y5, e⟩ := wb_go (m := m) (x0 := some (.d (.list (rs.map fun r => rq r.2)))) (x1 := some (.d (stD st))) rs st 1 1 1 0 none none none hr hn dv_1 (by decide) (by decide) (by grind) (by rw [cast1]; grind) (by omega)
  have e0 : (1 : Rat) * wQ rs st = wQ rs st := by grind
  rw [e0] at e
  have t1 : sSet 2 (mTup (mCons (mC (.int 1)) (mCons (mC (.int 1)) (mNil)))) [some (.d (.list (rs.map fun r => rq r.2))), some (.d (stD st)), none, none, none, none] m = .nx [some (.d (.list (rs.map fun r => rq r.2))), some (.d (stD st)), some (.d (rq 1)), none, none, none] m := rfl
  have t2 : sFor (mZipB (mVar 0) (mVar 1)) (gT [gN 3, gN 4]) wbO [some (.d (.list (rs.map fun r => rq r.2))), some (.d (stD st)), some (.d (rq 1)), none, none, none] m = .nx [some (.d (.list (rs.map fun r => rq r.2))), some (.d (stD st)), some (.d (rq (wQ rs st))), y3, y4, y5] m := by
    rw [e_For, show mZipB (mVar 0) (mVar 1) [some (.d (.list (rs.map fun r => rq r.2))), some (.d (stD st)), some (.d (rq 1)), none, none, none] m = .ok (((rs.map fun r => rq r.2).zip (st.map nD)).map fun p => PyData.tuple [p.1, p.2]) m from rfl, ev_thenS, e]
  unfold F_weight_by
  refine run_d (m' := m) ?_ rfl
  rw [show startE 6 [.d (.list (rs.map fun r => rq r.2)), .d (stD st)] = [some (.d (.list (rs.map fun r => rq r.2))), some (.d (stD st)), none, none, none, none] from rfl]
  unfold m_weight_by
  rw [seq_run t1, seq_run t2]
  exact ret_run (var_run rfl)
end
/-! the sum of all weights -/
abbrev StQ (caps : List Nat) (rs : List RQ) : List (List Nat) := statesQ caps rs 6 rs.length
def totQ (caps : List Nat) (rs : List RQ) : Rat := sL (wQ rs) (StQ caps rs)
theorem used_0 (l k : Nat) : ∀ rs : List RQ, used (List.replicate k 0) rs l = 0 := by
  induction k with
  | zero => intro rs; cases rs <;> rfl
  | succ k ih =>
    intro rs
    cases rs with
    | nil => rfl
    | cons r rs =>
      have := ih rs
      rw [List.replicate_succ]
      show (if bit r.1 l = true then 0 else 0) + used (List.replicate k 0) rs l = 0
      split <;> omega
section
variable {m : Mem} {caps : List Nat} {rs : List RQ}
theorem Net.le {B : Nat} (N : Net caps rs B) : ∀ c ∈ caps, c ≤ B := fun c hc => (N.cr c hc).2
theorem Net.rq3 {B : Nat} (N : Net caps rs B) : ∀ r ∈ rs, 0 < r.2 ∧ r.2 ≤ 8 ∧ r.2.den < 2 ^ 5 := fun r hr => ⟨N.q0 r hr, N.q1 r hr, N.qd r hr⟩
theorem St_le {st : List Nat} (h : st ∈ StQ caps rs) : ∀ n ∈ st, n ≤ 6 := states_le h
theorem St_len {st : List Nat} (h : st ∈ StQ caps rs) : st.length = rs.length := states_len h
theorem St_count (N : Net caps rs 6) : (StQ caps rs).length ≤ 343 := by
  have h := states_count (caps := caps) (rs := rs) (B := 6) rs.length
  exact Nat.le_trans h (Nat.le_trans (Nat.pow_le_pow_right (by decide) N.r1) (by decide))
theorem St_mem (N : Net caps rs 6) {st : List Nat} : st ∈ StQ caps rs ↔ st.length = rs.length ∧ fitsQ caps rs st = true := mem_states N.le N.rr (Nat.le_refl _)
theorem St_zero (N : Net caps rs 6) : List.replicate rs.length 0 ∈ StQ caps rs := by
  rw [St_mem N]
  refine ⟨List.length_replicate, ?_⟩
  rw [fits_iff]
  intro l c _
  rw [used_0]
  exact Nat.zero_le _
theorem w_pos (N : Net caps rs 6) {st : List Nat} (h : st ∈ StQ caps rs) : 0 < wQ rs st ∧ wQ rs st ≤ ((2 ^ 54 : Nat) : Rat) := by
  obtain ⟨a, b⟩ := w_rng (rs := rs) (st := st) N.q0 N.q1 (St_le h)
  refine ⟨a, ?_⟩
  have : 2 ^ (18 * rs.length) ≤ 2 ^ 54 := Nat.pow_le_pow_right (by decide) (by have := N.r1; omega)
  have : ((2 ^ (18 * rs.length) : Nat) : Rat) ≤ ((2 ^ 54 : Nat) : Rat) := by exact_mod_cast this
  grind
theorem sL_pos {α : Type} {f : α → Rat} {l : List α} (h : ∀ x ∈ l, 0 ≤ f x) {x : α} (hx : x ∈ l) (hp : 0 < f x) : 0 < sL f l := by
  induction l with
  | nil => cases hx
  | cons y l ih =>
    have h1 := h y List.mem_cons_self
    have h2 := sL_nn fun z hz => h z (List.mem_cons_of_mem y hz)
    show 0 < f y + sL f l
    rcases List.mem_cons.mp hx with rfl | hx
    · grind
    · have := ih (fun z hz => h z (List.mem_cons_of_mem y hz)) hx
      grind
theorem tot_pos (N : Net caps rs 6) : 0 < totQ caps rs := sL_pos (fun st h => by have := (w_pos N h).1; grind) (St_zero N) (w_pos N (St_zero N)).1
theorem tot_le (N : Net caps rs 6) : totQ caps rs ≤ ((2 ^ 63 : Nat) : Rat) := by
  have h := sL_le (f := wQ rs) (g := fun _ => ((2 ^ 54 : Nat) : Rat)) (l := StQ caps rs) fun st h => (w_pos N h).2
  rw [sL_const] at h
  have h1 : (((StQ caps rs).length : Nat) : Rat) ≤ ((2 ^ 9 : Nat) : Rat) := by
    have := St_count N
    have : (StQ caps rs).length ≤ 2 ^ 9 := Nat.le_trans this (by decide)
    exact_mod_cast this
  have h2 := mul_le (c := ((2 ^ 54 : Nat) : Rat)) (nat_nn _) h1
  have h3 : ((2 ^ 63 : Nat) : Rat) = ((2 ^ 54 : Nat) : Rat) * ((2 ^ 9 : Nat) : Rat) := by rw [← Rat.natCast_mul, ← Nat.pow_add]
  unfold totQ
  rw [h3]
  generalize ((2 ^ 54 : Nat) : Rat) = A at *
  generalize ((2 ^ 9 : Nat) : Rat) = B at *
  grind
theorem dv_sL {α : Type} {M : Nat} {f : α → Rat} : ∀ {l : List α}, (∀ x ∈ l, dv M (f x)) → dv M (sL f l)
  | [], _ => dv_0
  | x :: l, h => dv_add (h x List.mem_cons_self) (dv_sL fun y hy => h y (List.mem_cons_of_mem _ hy))
theorem MQ_b (N : Net caps rs 6) : 0 < MQ rs ∧ MQ rs < 2 ^ 121 := by
  obtain ⟨a, b⟩ := MQ_lt N.qd
  refine ⟨a, Nat.lt_of_le_of_lt b (Nat.lt_of_le_of_lt (Nat.pow_le_pow_right (by decide) (show 40 * rs.length ≤ 120 by have := N.r1; omega)) (by decide))⟩
theorem tot_sz (N : Net caps rs 6) : sz 184 (totQ caps rs) := by
  obtain ⟨a, b⟩ := MQ_b N
  have h0 := tot_pos N
  have := nat_nn (2 ^ 63)
  exact sz_dv (b := 121) (e := 63) (dv_sL fun st h => dv_w (St_le h)) a b (tot_le N) (by grind)
theorem w_sz (N : Net caps rs 6) {st : List Nat} (h : st ∈ StQ caps rs) : sz 184 (wQ rs st) := by
  obtain ⟨a, b⟩ := MQ_b N
  have h0 := w_pos N h
  have := nat_nn (2 ^ 54)
  exact (sz_dv (b := 121) (e := 54) (dv_w (St_le h)) a b h0.2 (by grind)).mono (by decide)
/-- all shares have one denominator -/
theorem share_dv (N : Net caps rs 6) : ∃ T : Nat, 0 < T ∧ T < 2 ^ 185 ∧ ∀ st ∈ StQ caps rs, dv T (wQ rs st / totQ caps rs) := by
  obtain ⟨a, b⟩ := MQ_b N
  have h0 := tot_pos N
  obtain ⟨n, hn⟩ := dv_sL (M := MQ rs) (f := wQ rs) (l := StQ caps rs) fun st h => dv_w (St_le h)
  have hn : totQ caps rs * (MQ rs : Rat) = (n : Rat) := hn
  have hM := nat_pos a
  have hp : 0 < (n : Rat) := by rw [← hn]; exact Rat.mul_pos h0 hM
  have hp' : 0 < n := by exact_mod_cast hp
  have hnat : (n : Rat) = ((n.toNat : Nat) : Rat) := by
    rw [← Rat.intCast_natCast, Int.toNat_of_nonneg (by omega)]
  refine ⟨n.toNat, by omega, ?_, fun st h => ?_⟩
  · have h1 : (n : Rat) ≤ ((2 ^ 63 * MQ rs : Nat) : Rat) := by
      rw [← hn, Rat.natCast_mul]
      have := mul_le (c := (MQ rs : Rat)) (by grind) (tot_le N)
      grind
    rw [hnat] at h1
    have h2 : n.toNat ≤ 2 ^ 63 * MQ rs := by exact_mod_cast h1
    have h3 : 2 ^ 63 * MQ rs < 2 ^ 63 * 2 ^ 121 := Nat.mul_lt_mul_of_pos_left b (by decide)
    rw [← Nat.pow_add] at h3
    exact Nat.lt_of_le_of_lt h2 (Nat.lt_trans h3 (by decide))
  · obtain ⟨k, hk⟩ := dv_w (rs := rs) (st := st) (St_le h)
    refine ⟨k, ?_⟩
    rw [← hnat, ← hn, ← hk]
    have hc := Rat.div_mul_cancel (a := wQ rs st) (b := totQ caps rs) (by grind)
    have e : wQ rs st / totQ caps rs * (totQ caps rs * (MQ rs : Rat)) = wQ rs st / totQ caps rs * totQ caps rs * (MQ rs : Rat) := by grind
    rw [e, hc]
theorem div_le_1 {p q : Rat} (hq : 0 < q) (h : p ≤ q) : p / q ≤ 1 := by
  have hc := Rat.div_mul_cancel (a := p) (b := q) (by grind)
  refine le_of_mul hq ?_
  rw [hc]; grind
theorem div_nn {p q : Rat} (hq : 0 < q) (h : 0 ≤ p) : 0 ≤ p / q := nonneg_of_mul hq (by rw [Rat.div_mul_cancel (by grind)]; exact h)
theorem sL_div {α : Type} (f : α → Rat) (q : Rat) (l : List α) : sL (fun x => f x / q) l = sL f l / q := by
  have h := sL_mul q⁻¹ f l
  have e : ∀ x : Rat, x / q = q⁻¹ * x := fun x => by rw [Rat.div_def]; grind
  rw [e, ← h]
  exact sL_congr fun x _ => e _
abbrev shD (caps : List Nat) (rs : List RQ) : D := .list ((StQ caps rs).map fun st => .tuple [stD st, rq (wQ rs st / totQ caps rs)])
end
end Law
set_option exponentiation.threshold 5000
namespace Law
open PySem PySem.Spec PyProof.Rows L2 Den
/-! shares and losses that the program tells -/
section
variable {m : Mem} {caps : List Nat} {rs : List RQ}
theorem tot_run (N : Net caps rs 6) {x : D} (hx : seqOf x = some ((StQ caps rs).map fun st => rq (wQ rs st))) : F_total [.d x] m = .ok (.d (rq (totQ caps rs))) m := by
  obtain ⟨a, b⟩ := MQ_b N
  have h := totD (m := m) (x := x) (l := (StQ caps rs).map (wQ rs)) (M := MQ rs) (b := 121) (e := 63) (by rw [List.map_map]; exact hx) (fun y hy => by
    obtain ⟨st, hst, rfl⟩ := List.mem_map.mp hy
    exact ⟨dv_w (St_le hst), by have := (w_pos N hst).1; grind⟩) (by rw [sL_map]; exact tot_le N) a b (by decide)
  rw [sL_map] at h
  exact h
theorem sharesof_ok (N : Net caps rs 6) : F_link_shares_of [.d (capsD caps), .d (routesD rs)] m = .ok (.n (shD caps rs)) m := by
  have hl := St_count N
  have r3 := N.r1
  have es := states_ok (m := m) (caps := caps) (rs := rs) (B := 6) N.le (by decide) N.rr (by omega) (fun k hk => Nat.le_trans (Nat.pow_le_pow_right (by decide) (show k + 1 ≤ 3 by omega)) (by decide))
  have c1 := mLC_all (it := mItems (mVar 1)) (vs := [3, 4]) (g := gT [gN 3, gN 4]) (t := tYesT) (a := mVar 4) (rho := [some (.d (capsD caps)), some (.d (routesD rs)), none, none, none, none, none, none, none]) (m := m) (m0 := m) rs rD (fun r => rq r.2) rfl (by omega)
    fun r hr => ⟨[some (.d (capsD caps)), some (.d (routesD rs)), none, some (.d (nD r.1)), some (.d (rq r.2)), none, none, none, none], rfl, rfl, .d (rq r.2), rfl, rfl⟩
  generalize hL : PyData.list (rs.map fun r => rq r.2) = L at c1
  have c2 := mLC_all (it := mItems (mCall 2 F_link_states_of (mCons (mVar 0) (mCons (mVar 1) (mNil))))) (vs := [6]) (g := gN 6) (t := tYesT) (a := mTup (mCons (mVar 6) (mCons (mCall 2 F_weight_by (mCons (mVar 2) (mCons (mVar 6) (mNil)))) (mNil)))) (rho := [some (.d (capsD caps)), some (.d (routesD rs)), some (.d L), none, none, none, none, none, none]) (m := m) (m0 := m) (StQ caps rs) stD (fun st => .tuple [stD st, rq (wQ rs st)]) (by
      rw [e_Items, call2_run (w1 := .d (capsD caps)) (w2 := .d (routesD rs)) rfl rfl es]; rfl) (by omega)
    fun st hst => ⟨[some (.d (capsD caps)), some (.d (routesD rs)), some (.d L), none, none, none, some (.d (stD st)), none, none], rfl, rfl, .d (.tuple [stD st, rq (wQ rs st)]), by
      have e := weight_ok (m := m) (rs := rs) (st := st) N.rq3 (St_le hst) (by omega)
      rw [hL] at e
      exact tup_run (cons_run (a := mVar 6) (w := .d (stD st)) rfl (cons_run (call2_run (a := mVar 2) (b := mVar 6) (w1 := .d L) (w2 := .d (stD st)) rfl rfl e) nil_run)) rfl rfl, rfl⟩
  generalize hP : PyData.list ((StQ caps rs).map fun st => PyData.tuple [stD st, rq (wQ rs st)]) = P at c2
  have iP : ∀ rho : Den.Env, rho[5]? = some (some (.d P)) → mItems (mVar 5) rho m = .ok ((StQ caps rs).map fun st => PyData.tuple [stD st, rq (wQ rs st)]) m := fun rho h => by
    rw [e_Items, var_run h, ev_bindV, val_d, ← hP]; rfl
  have c3 := mLC_all (it := mItems (mVar 5)) (vs := [3, 8]) (g := gT [gN 3, gN 8]) (t := tYesT) (a := mVar 8) (rho := [some (.d (capsD caps)), some (.d (routesD rs)), some (.d L), none, none, some (.d P), none, none, none]) (m := m) (m0 := m) (StQ caps rs) (fun st => PyData.tuple [stD st, rq (wQ rs st)]) (fun st => rq (wQ rs st)) (iP _ rfl) (by omega)
    fun st hst => ⟨[some (.d (capsD caps)), some (.d (routesD rs)), some (.d L), some (.d (stD st)), none, some (.d P), none, none, some (.d (rq (wQ rs st)))], rfl, rfl, .d (rq (wQ rs st)), rfl, rfl⟩
  have e4 := tot_run (m := m) N (x := .list ((StQ caps rs).map fun st => rq (wQ rs st))) rfl
  have c5 := mLC_all (it := mItems (mVar 5)) (vs := [6, 8]) (g := gT [gN 6, gN 8]) (t := tYesT) (a := mTup (mCons (mVar 6) (mCons (mCall 2 F_by (mCons (mVar 8) (mCons (mVar 7) (mNil)))) (mNil)))) (rho := [some (.d (capsD caps)), some (.d (routesD rs)), some (.d L), none, none, some (.d P), none, some (.d (rq (totQ caps rs))), none]) (m := m) (m0 := m) (StQ caps rs) (fun st => PyData.tuple [stD st, rq (wQ rs st)]) (fun st => .tuple [stD st, rq (wQ rs st / totQ caps rs)]) (iP _ rfl) (by omega)
    fun st hst => ⟨[some (.d (capsD caps)), some (.d (routesD rs)), some (.d L), none, none, some (.d P), some (.d (stD st)), some (.d (rq (totQ caps rs))), some (.d (rq (wQ rs st)))], rfl, rfl, .d (.tuple [stD st, rq (wQ rs st / totQ caps rs)]), by
      have h0 := tot_pos N
      have e := by_ok (m := m) (w_sz N hst) (tot_sz N) (by grind) (by decide)
      exact tup_run (cons_run (a := mVar 6) (w := .d (stD st)) rfl (cons_run (call2_run (a := mVar 8) (b := mVar 7) (w1 := .d (rq (wQ rs st))) (w2 := .d (rq (totQ caps rs))) rfl rfl e) nil_run)) rfl rfl, rfl⟩
  have t1 := set_run2 (i := 2) c1 (rho' := [some (.d (capsD caps)), some (.d (routesD rs)), some (.d L), none, none, none, none, none, none]) rfl
  have t2 := set_run2 (i := 5) c2 (rho' := [some (.d (capsD caps)), some (.d (routesD rs)), some (.d L), none, none, some (.d P), none, none, none]) rfl
  have t3 := set_run2 (i := 7) (call_run (n := 1) (fm := F_total) (cons_run c3 nil_run) rfl e4) (rho' := [some (.d (capsD caps)), some (.d (routesD rs)), some (.d L), none, none, some (.d P), none, some (.d (rq (totQ caps rs))), none]) rfl
  unfold F_link_shares_of runF
  rw [show startE 9 [.d (capsD caps), .d (routesD rs)] = [some (.d (capsD caps)), some (.d (routesD rs)), none, none, none, none, none, none, none] from rfl]
  unfold m_link_shares_of
  rw [seq_run t1, seq_run t2, seq_run t3, ret_run c5]
  show Rs.ok (W.n (shD caps rs)) (m.take m.length) = _
  rw [List.take_length]
end
/-! checks -/
section
variable {m : Mem} {caps : List Nat} {rs : List RQ}
theorem rate_q {q : Rat} (h0 : 0 < q) (h1 : q ≤ 8) (hd : q.den < 2 ^ 5) : isRate q = true := by
  have z := sz_q h0 h1 hd
  have e : (2 : Nat) ^ 8 = 256 := rfl
  have z1 := z.1
  have z2 := z.2
  have := num_pos.mpr h0
  unfold isRate
  rw [decide_eq_true (by omega), decide_eq_true (by omega), decide_eq_true (by omega)]; rfl
theorem le_b {i j : Int} (h : i ≤ j) : lift2 leD (.d (.int i)) (.d (.int j)) m = .ok (.d (.bool true)) m := lift2_run rfl rfl (by rw [le_i, decide_eq_true h])
theorem lt_b {i j : Int} (h : i < j) : lift2 ltD (.d (.int i)) (.d (.int j)) m = .ok (.d (.bool true)) m := lift2_run rfl rfl (by rw [lt_i, decide_eq_true h])
theorem len_b {i : Nat} {rho : Den.Env} {xs : List D} (h : rho[i]? = some (some (.d (.tuple xs)))) : mB (mCons (mVar i) (mNil)) (fD1 lenD) rho m = .ok (.d (nD xs.length)) m := b_run (cons_run (var_run h) nil_run) rfl
theorem D1_run {g : D → Option D} {x y : D} (h : g x = some y) : fD1 g [.d x] m = .ok (.d y) m := by
  rw [f_D1, peek_d]
  show (match g x with | some y => Rs.ok (W.d y) m | none => .no) = _
  rw [h]
theorem not_run {t : EM Bool} {rho : Den.Env} {m1 : Mem} {b : Bool} (h : t rho m = .ok b m1) : mNotT t rho m = .ok (!b) m1 := by rw [e_NotT, h, ev_bind]
theorem links_ok (N : Net caps rs 6) : F_are_links [.d (capsD caps), .d (routesD rs)] m = .ok (.d (.bool true)) m := by
  have c0 := N.c0
  have c1 := N.c1
  have r0 := N.r0
  have r1 := N.r1
  generalize hE : ([some (.d (capsD caps)), some (.d (routesD rs)), none, none, none] : Den.Env) = rho
  have l0 : mB (mCons (mVar 0) (mNil)) (fD1 lenD) rho m = .ok (.d (nD caps.length)) m := by
    have := len_b (m := m) (i := 0) (rho := rho) (xs := caps.map nD) (by rw [← hE]; rfl)
    rwa [List.length_map] at this
  have l1 : mB (mCons (mVar 1) (mNil)) (fD1 lenD) rho m = .ok (.d (nD rs.length)) m := by
    have := len_b (m := m) (i := 1) (rho := rho) (xs := rs.map rD) (by rw [← hE]; rfl)
    rwa [List.length_map] at this
  have k1 := mLC_all (it := mItems (mVar 0)) (vs := [2]) (g := gN 2) (t := tYesT) (a := mChain (lift2 leD) (lift2 leD) (mC (.int 1)) (mVar 2) (mC (.int 20))) (rho := rho) (m := m) (m0 := m) caps nD (fun _ => .bool true) (by rw [← hE]; rfl) (by omega)
    fun c hc => ⟨(rho.set 2 none).set 2 (some (.d (nD c))), rfl, rfl, .d (.bool true), by
      have h := N.cr c hc
      exact chain_run (p := true) (q := true) const_run (var_run (w := .d (nD c)) (by rw [← hE]; rfl)) const_run (le_b (by omega)) (le_b (by omega)), rfl⟩
  have k2 := b_run (fm := fD1 allD) (cons_run k1 nil_run) (w := .d (.bool true)) (m2 := m) (D1_run (all_trueL _))
  have t1 : mOrT (mNotT (mBool (mChain (lift2 leD) (lift2 leD) (mC (.int 1)) (mB (mCons (mVar 0) (mNil)) (fD1 lenD)) (mC (.int 4))))) (mNotT (mTru (mB (mCons (mLC (mItems (mVar 0)) [2] (gN 2) (tYesT) (mChain (lift2 leD) (lift2 leD) (mC (.int 1)) (mVar 2) (mC (.int 20)))) (mNil)) (fD1 allD)))) rho m = .ok false m :=
    or_no (not_run (bool_run (chain_run (p := true) (q := true) const_run l0 const_run (le_b (by omega)) (le_b (by omega))))) (not_run (tru_run k2 rfl))
  have t2 : mNotT (mBool (mChain (lift2 leD) (lift2 leD) (mC (.int 1)) (mB (mCons (mVar 1) (mNil)) (fD1 lenD)) (mC (.int 6)))) rho m = .ok false m :=
    not_run (bool_run (chain_run (p := true) (q := true) const_run l1 const_run (le_b (by omega)) (le_b (by omega))))
  have k3 := mLC_all (it := mItems (mVar 1)) (vs := [3, 4]) (g := gT [gN 3, gN 4]) (t := tYesT) (a := mAndV (mChain (lift2 ltD) (lift2 ltD) (mC (.int 0)) (mVar 3) (mShl (mC (.int 1)) (mB (mCons (mVar 0) (mNil)) (fD1 lenD)))) (mCall 1 F_is_rate (mCons (mVar 4) (mNil)))) (rho := rho) (m := m) (m0 := m) rs rD (fun _ => .bool true) (by rw [← hE]; rfl) (by omega)
    fun r hr => ⟨((wipeE rho [3, 4]).set 3 (some (.d (nD r.1)))).set 4 (some (.d (rq r.2))), gT2, rfl, .d (.bool true), by
      have h := N.rr r hr
      obtain ⟨q0, q1, qd⟩ := N.rq3 r hr
      generalize hE2 : ((wipeE rho [3, 4]).set 3 (some (W.d (nD r.1)))).set 4 (some (W.d (rq r.2))) = rho2
      have l0 : mB (mCons (mVar 0) (mNil)) (fD1 lenD) rho2 m = .ok (.d (nD caps.length)) m := by
        have := len_b (m := m) (i := 0) (rho := rho2) (xs := caps.map nD) (by rw [← hE2, ← hE]; rfl)
        rwa [List.length_map] at this
      have s := op_run (f := lift2 (onI shlD)) (a := mC (.int 1)) (const_run (rho := rho2) (m := m)) l0 (x := .d (nD (2 ^ caps.length))) (lift2_run (y := .int 1) (z := nD caps.length) rfl rfl (by
        show (shlD 1 (caps.length : Int)).map W.d = _
        unfold shlD
        rw [if_pos (decide_eq_true ⟨by omega, by omega, by decide⟩), Int.toNat_natCast, Int.one_mul]
        show some (W.d (.int ((2 : Int) ^ caps.length))) = some (W.d (.int ((2 ^ caps.length : Nat) : Int)))
        rw [Int.natCast_pow]; rfl))
      have ch := chain_run (f := lift2 ltD) (g := lift2 ltD) (c := mShl (mC (.int 1)) (mB (mCons (mVar 0) (mNil)) (fD1 lenD))) (p := true) (q := true) (const_run (rho := rho2) (m := m) (v := .int 0)) (var_run (i := 3) (w := .d (nD r.1)) (by rw [← hE2, ← hE]; rfl)) s (lt_b (by omega)) (lt_b (by exact_mod_cast h.2))
      have rt := call_run (n := 1) (fm := F_is_rate) (cons_run (a := mVar 4) (rho := rho2) (m := m) (w := .d (rq r.2)) (var_run (by rw [← hE2, ← hE]; rfl)) nil_run) rfl (rate_ok (m := m) (sz_q q0 q1 qd) (by decide))
      rw [rate_q q0 q1 qd] at rt
      show mAndV _ _ rho2 m = _
      rw [e_AndV, ch, ev_bindV]
      exact rt, rfl⟩
  have k4 := b_run (fm := fD1 allD) (cons_run k3 nil_run) (w := .d (.bool true)) (m2 := m) (D1_run (all_trueL _))
  unfold F_are_links
  refine run_d (m' := m) ?_ rfl
  rw [show startE 5 [.d (capsD caps), .d (routesD rs)] = rho from hE]
  unfold m_are_links
  rw [seq_run (if_no t1), seq_run (if_no t2)]
  exact ret_run k4
theorem check_ok (N : Net caps rs 6) : F_check_links [.d (capsD caps), .d (routesD rs)] m = .ok (.d .none) m := by
  have t := not_run (tru_run (call2_run (fm := F_are_links) (a := mVar 0) (b := mVar 1) (rho := [some (.d (capsD caps)), some (.d (routesD rs))]) (m := m) rfl rfl (links_ok N)) (k := true) (m2 := m) rfl)
  unfold F_check_links runF
  rw [show startE 2 [.d (capsD caps), .d (routesD rs)] = [some (.d (capsD caps)), some (.d (routesD rs))] from rfl]
  unfold m_check_links
  rw [seq_run (if_no t)]
  show Rs.ok (W.d .none) (m.take m.length) = _
  rw [List.take_length]
theorem shares_ok (N : Net caps rs 6) : F_link_shares [.d (capsD caps), .d (routesD rs)] m = .ok (.n (shD caps rs)) m := by
  have t1 := call2_run (fm := F_check_links) (a := mVar 0) (b := mVar 1) (rho := [some (.d (capsD caps)), some (.d (routesD rs))]) (m := m) rfl rfl (check_ok N)
  have t2 := call2_run (fm := F_link_shares_of) (a := mVar 0) (b := mVar 1) (rho := [some (.d (capsD caps)), some (.d (routesD rs))]) (m := m) rfl rfl (sharesof_ok N)
  have t1' : sDrop (mCall 2 F_check_links (mCons (mVar 0) (mCons (mVar 1) (mNil)))) [some (.d (capsD caps)), some (.d (routesD rs))] m = .nx [some (.d (capsD caps)), some (.d (routesD rs))] m := by rw [e_Drop, t1]; rfl
  unfold F_link_shares runF
  rw [show startE 2 [.d (capsD caps), .d (routesD rs)] = [some (.d (capsD caps)), some (.d (routesD rs))] from rfl]
  unfold m_link_shares
  rw [seq_run t1', ret_run t2]
  show Rs.ok (W.n (shD caps rs)) (m.take m.length) = _
  rw [List.take_length]
end
end Law
set_option exponentiation.threshold 5000
namespace Law
open PySem PySem.Spec PyProof.Rows L2 Den
/-! losses that the program tells -/
def incS (st : List Nat) (a : Nat) : List Nat := st.take a ++ (st.getD a 0 + 1) :: st.drop (a + 1)
def fullQ (caps : List Nat) (rs : List RQ) (a : Nat) (st : List Nat) : Bool := !fitsQ caps rs (incS st a)
def lossQ (caps : List Nat) (rs : List RQ) (a : Nat) : Rat := sL (wQ rs) ((StQ caps rs).filter (fullQ caps rs a)) / totQ caps rs
theorem incS_len {st : List Nat} {a : Nat} (h : a < st.length) : (incS st a).length = st.length := by
  unfold incS
  rw [List.length_append, List.length_cons, List.length_take, List.length_drop]
  omega
theorem at_nD {st : List Nat} {a : Nat} (h : a < st.length) : atI (st.map nD) (a : Int) = some (nD (st.getD a 0)) := by
  unfold atI ixN
  rw [if_pos (by omega), if_pos (by rw [List.length_map]; omega)]
  simp [h]
theorem incS_D (st : List Nat) (a : Nat) : ((st.map nD).take a).map W.d ++ W.d (nD (st.getD a 0 + 1)) :: (((st.map nD).drop (a + 1)).map W.d) = ((incS st a).map nD).map W.d := by
  unfold incS
  rw [List.map_append, List.map_cons, List.map_append, List.map_cons]
  simp only [List.map_take, List.map_drop]
abbrev loE : EM W := mTup (mStar (mSl (mVar 6) (oNone) (oSome (mVar 4))) (mCons (mAdd (mIx (mVar 6) (mVar 4)) (mC (.int 1))) (mStar (mSl (mVar 6) (oSome (mAdd (mVar 4) (mC (.int 1)))) (oNone)) (mNil))))
abbrev loI : SM := sSeq (sSet 8 loE) (sSeq (sIf (mNotT (mTru (mCall 3 F_fits (mCons (mVar 0) (mCons (mVar 1) (mCons (mVar 8) (mNil))))))) (sSeq (sDrop (mM .lst (mVar 5) (mCons (mVar 7) (mNil)) fAppend)) (sSkip)) (sSkip)) (sSkip))
abbrev loO : SM := sSeq (sSetR 5 (mLst (mNil))) (sSeq (sFor (mItems (mVar 2)) (gT [gN 6, gN 7]) loI) (sFrz 5 (sSeq (sDrop (mM .lst (mVar 3) (mCons (mCall 1 F_total (mCons (mVar 5) (mNil))) (mNil)) fAppend)) (sSkip))))
section
variable {m : Mem} {caps : List Nat} {rs : List RQ}
abbrev loV (caps : List Nat) (rs : List RQ) (x2 x3 x4 x5 x6 x7 x8 : Option W) : Den.Env := [some (.d (capsD caps)), some (.d (routesD rs)), x2, x3, x4, x5, x6, x7, x8]
abbrev shP (q : Rat) (rs : List RQ) (st : List Nat) : D := .tuple [stD st, rq (wQ rs st / q)]
theorem loE_run {st : List Nat} {a : Nat} (h : a < st.length) (hl : st.length ≤ 1000) {x2 x3 x5 x7 x8 : Option W} : loE (loV caps rs x2 x3 (some (.d (nD a))) x5 (some (.d (stD st))) x7 x8) m = .ok (.d (stD (incS st a))) m := by
  generalize hE : loV caps rs x2 x3 (some (.d (nD a))) x5 (some (.d (stD st))) x7 x8 = rho
  have h4 : mVar 4 rho m = .ok (.d (nD a)) m := by rw [← hE]; rfl
  have h6 : mVar 6 rho m = .ok (.d (stD st)) m := by rw [← hE]; rfl
  have a1 := sl_to (k := a) (xs := st.map nD) h6 h4
  have a2 : mIx (mVar 6) (mVar 4) rho m = .ok (.d (nD (st.getD a 0))) m := ix_run h6 h4 (by
    show fIx (.d (stD st)) (.d (nD a)) m = _
    rw [f_Ix, peek_d, peek_d]
    show (match ixD (stD st) (nD a) with | some z => Rs.ok (W.d z) m | none => .no) = _
    rw [show ixD (stD st) (nD a) = atI (st.map nD) (a : Int) from rfl, at_nD h])
  have a3 := add_run (c := mC (.int 1)) a2 const_run (x := .d (nD (st.getD a 0 + 1))) rfl
  have a4 := sl_from (k := a + 1) (xs := st.map nD) h6 (b := mAdd (mVar 4) (mC (.int 1))) (add_run h4 const_run rfl)
  have b := star_run a1 (cons_run a3 (star_run a4 nil_run))
  rw [List.append_nil, val_d, incS_D] at b
  exact tup_ds b (by rw [List.length_map, incS_len h]; omega)
theorem loI_run {st : List Nat} {a h : Nat} (ha : a < st.length) (hl : st.length ≤ 1000) {q : Rat} {X : List D} {M : Mem} (hX : X.length ≤ 1000) {x2 x3 x8 : Option W} : loI (loV caps rs x2 x3 (some (.d (nD a))) (some (.r M.length)) (some (.d (stD st))) (some (.d (rq q))) x8) (M ++ [some (.list X)]) = .nx (loV caps rs x2 x3 (some (.d (nD a))) (some (.r M.length)) (some (.d (stD st))) (some (.d (rq q))) (some (.d (stD (incS st a))))) (M ++ [some (.list (X ++ if fullQ caps rs a st = true then [rq q] else []))]) := by
  have t1 := set_run2 (i := 8) (loE_run (m := M ++ [some (.list X)]) (caps := caps) (rs := rs) (x2 := x2) (x3 := x3) (x5 := some (.r M.length)) (x7 := some (.d (rq q))) (x8 := x8) ha hl) (rho' := loV caps rs x2 x3 (some (.d (nD a))) (some (.r M.length)) (some (.d (stD st))) (some (.d (rq q))) (some (.d (stD (incS st a))))) rfl
  have e := fits_ok (m := M ++ [some (.list X)]) (caps := caps) (rs := rs) (st := incS st a) (by rw [incS_len ha]; omega)
  have t2 := not_run (tru_run (call_run (n := 3) (fm := F_fits) (cons_run (a := mVar 0) (rho := loV caps rs x2 x3 (some (.d (nD a))) (some (.r M.length)) (some (.d (stD st))) (some (.d (rq q))) (some (.d (stD (incS st a))))) (w := .d (capsD caps)) (var_run rfl) (cons_run (a := mVar 1) (w := .d (routesD rs)) (var_run rfl) (cons_run (a := mVar 8) (w := .d (stD (incS st a))) (var_run rfl) nil_run))) rfl e) (k := fitsQ caps rs (incS st a)) (m2 := M ++ [some (.list X)]) rfl)
  have t3 := app_run (i := 5) (a := mVar 7) (x := rq q) (rho := loV caps rs x2 x3 (some (.d (nD a))) (some (.r M.length)) (some (.d (stD st))) (some (.d (rq q))) (some (.d (stD (incS st a))))) (m := M ++ [some (.list X)]) (ds := X) rfl (get_last M _) (var_run rfl) (by omega)
  rw [set_last] at t3
  unfold loI
  rw [seq_run t1]
  unfold fullQ
  cases hf : fitsQ caps rs (incS st a) with
  | true =>
    rw [hf] at t2
    rw [seq_run (if_no t2)]
    show Out.nx _ _ = _
    rw [show (if (!true) = true then [rq q] else []) = ([] : List D) from rfl, List.append_nil]
  | false =>
    rw [hf] at t2
    rw [e_Seq, if_yes t2, seq_run t3]
    rfl
theorem lo_go {a : Nat} {q : Rat} {M : Mem} {x2 x3 : Option W} (hl : rs.length ≤ 1000) (ha : a < rs.length) : ∀ (ss : List (List Nat)) (X : List D) (x6 x7 x8 : Option W), (∀ st ∈ ss, st.length = rs.length) → X.length + ss.length ≤ 1000 →
    ∃ y6 y7 y8, forL (gT [gN 6, gN 7]) loI (ss.map (shP q rs)) (loV caps rs x2 x3 (some (.d (nD a))) (some (.r M.length)) x6 x7 x8) (M ++ [some (.list X)]) = .nx (loV caps rs x2 x3 (some (.d (nD a))) (some (.r M.length)) y6 y7 y8) (M ++ [some (.list (X ++ (ss.filter (fullQ caps rs a)).map fun st => rq (wQ rs st / q)))])
  | [], X, x6, x7, x8, _, _ => ⟨x6, x7, x8, by simp [forL]⟩
  | s :: ss, X, x6, x7, x8, hs, hX => by
    rw [List.length_cons] at hX
    have hsl := hs s List.mem_cons_self
    have t := loI_run (caps := caps) (rs := rs) (st := s) (a := a) (h := 0) (by omega) (by omega) (q := wQ rs s / q) (X := X) (M := M) (by omega) (x2 := x2) (x3 := x3) (x8 := x8)
    obtain ⟨y6, y7, y8, e⟩ := lo_go hl ha ss (X ++ if fullQ caps rs a s = true then [rq (wQ rs s / q)] else []) (some (.d (stD s))) (some (.d (rq (wQ rs s / q)))) (some (.d (stD (incS s a)))) (fun t ht => hs t (List.mem_cons_of_mem _ ht)) (by
      rw [List.length_append]
      split <;> simp <;> omega)
    refine ⟨y6, y7, y8, ?_⟩
    have t' := forT2_step (i := 6) (j := 7) (x := stD s) (y := rq (wQ rs s / q)) (xs := ss.map (shP q rs)) (rho := loV caps rs x2 x3 (some (.d (nD a))) (some (.r M.length)) x6 x7 x8) t
    rw [List.map_cons, t', e]
    congr 3
    rw [List.append_assoc]
    cases hf : fullQ caps rs a s with
    | true => rw [List.filter_cons_of_pos hf, List.map_cons]; rfl
    | false => rw [List.filter_cons_of_neg (by rw [hf]; simp)]; rfl
theorem loss_tot (N : Net caps rs 6) {a : Nat} : F_total [.d (.list (((StQ caps rs).filter (fullQ caps rs a)).map fun st => rq (wQ rs st / totQ caps rs)))] m = .ok (.d (rq (lossQ caps rs a))) m := by
  obtain ⟨T, T0, T1, hT⟩ := share_dv N
  have h0 := tot_pos N
  have sub : ∀ st ∈ (StQ caps rs).filter (fullQ caps rs a), st ∈ StQ caps rs := fun st h => (List.mem_filter.mp h).1
  have hle : sL (wQ rs) ((StQ caps rs).filter (fullQ caps rs a)) ≤ totQ caps rs := by
    rw [sL_filter]
    exact sL_le fun st hst => by
      have := (w_pos N hst).1
      split <;> grind
  have h := totD (m := m) (x := .list (((StQ caps rs).filter (fullQ caps rs a)).map fun st => rq (wQ rs st / totQ caps rs))) (l := ((StQ caps rs).filter (fullQ caps rs a)).map fun st => wQ rs st / totQ caps rs) (M := T) (b := 185) (e := 0) (by rw [List.map_map]; rfl) (fun y hy => by
    obtain ⟨st, hst, rfl⟩ := List.mem_map.mp hy
    exact ⟨hT st (sub st hst), div_nn h0 (by have := (w_pos N (sub st hst)).1; grind)⟩) (by
      rw [sL_map, sL_div, cast1]
      exact div_le_1 h0 hle) T0 T1 (by decide)
  rw [sL_map, sL_div] at h
  exact h
abbrev fdD (caps : List Nat) (rs : List RQ) (k : Nat) : D := .list ((List.range k).map fun a => rq (lossQ caps rs a))
theorem frz_lo {n h N : Nat} {x : D} (hn : h ≠ N) {y : D} {x4 x6 x7 x8 : Option W} : ∃ y4 y6 y7 y8, (loV caps rs (some (.d y)) (some (.r h)) x4 (some (.r N)) x6 x7 x8).map (frzW N x) = loV caps rs (some (.d y)) (some (.r h)) y4 (some (.d x)) y6 y7 y8 := by
  refine ⟨frzW N x x4, frzW N x x6, frzW N x x7, frzW N x x8, ?_⟩
  have h1 : frzW N x (some (.r h)) = some (.r h) := by
    show (if h = N then some (W.d x) else some (.r h)) = _
    rw [if_neg hn]
  have h2 : frzW N x (some (.r N)) = some (.d x) := by
    show (if N = N then some (W.d x) else some (.r N)) = _
    rw [if_pos rfl]
  simp only [List.map_cons, List.map_nil, h1, h2]
  rfl
theorem loO_run (N : Net caps rs 6) {a : Nat} (ha : a < rs.length) {js : Mem} {x5 x6 x7 x8 : Option W} :
    ∃ y4 y5 y6 y7 y8, loO (loV caps rs (some (.d (shD caps rs))) (some (.r m.length)) (some (.d (nD a))) x5 x6 x7 x8) (m ++ some (fdD caps rs a) :: js) = .nx (loV caps rs (some (.d (shD caps rs))) (some (.r m.length)) y4 y5 y6 y7 y8) (m ++ some (fdD caps rs (a + 1)) :: (js ++ [none])) := by
  have r1 := N.r1
  have cn := St_count N
  generalize hM : m ++ some (fdD caps rs a) :: js = M
  have hl : m.length ≠ M.length := by rw [← hM, List.length_append, List.length_cons]; omega
  have t1 : sSetR 5 (mLst (mNil)) (loV caps rs (some (.d (shD caps rs))) (some (.r m.length)) (some (.d (nD a))) x5 x6 x7 x8) M = .nx (loV caps rs (some (.d (shD caps rs))) (some (.r m.length)) (some (.d (nD a))) (some (.r M.length)) x6 x7 x8) (M ++ [some (.list [])]) := rfl
  obtain ⟨z6, z7, z8, lp⟩ := lo_go (caps := caps) (rs := rs) (a := a) (q := totQ caps rs) (M := M) (x2 := some (.d (shD caps rs))) (x3 := some (.r m.length)) (by omega) ha (StQ caps rs) [] x6 x7 x8 (fun st h => St_len h) (by simp; omega)
  rw [List.nil_append] at lp
  have t2 := for_run (it := mItems (mVar 2)) (rho := loV caps rs (some (.d (shD caps rs))) (some (.r m.length)) (some (.d (nD a))) (some (.r M.length)) x6 x7 x8) (m := M ++ [some (.list [])]) rfl lp
  generalize hx : PyData.list (((StQ caps rs).filter (fullQ caps rs a)).map fun st => rq (wQ rs st / totQ caps rs)) = x at t2
  obtain ⟨y4, y6, y7, y8, ef⟩ := frz_lo (caps := caps) (rs := rs) (n := 0) (x := x) hl (y := shD caps rs) (x4 := some (.d (nD a))) (x6 := z6) (x7 := z7) (x8 := z8)
  have e3 := loss_tot (m := M ++ [none]) N (a := a)
  rw [hx] at e3
  have hm3 : (M ++ [none])[m.length]? = some (some (fdD caps rs a)) := by
    rw [← hM, List.append_assoc, List.cons_append]
    exact get_mid m _ _
  have t4 := app_run (i := 3) (a := mCall 1 F_total (mCons (mVar 5) (mNil))) (x := rq (lossQ caps rs a)) (rho := loV caps rs (some (.d (shD caps rs))) (some (.r m.length)) y4 (some (.d x)) y6 y7 y8) (m := M ++ [none]) rfl hm3 (call_run (cons_run (w := .d x) rfl nil_run) rfl e3) (by rw [List.length_map, List.length_range]; omega)
  have e5 : (M ++ [none]).set m.length (some (.list ((List.range a).map (fun a => rq (lossQ caps rs a)) ++ [rq (lossQ caps rs a)]))) = m ++ some (fdD caps rs (a + 1)) :: (js ++ [none]) := by
    rw [← hM, List.append_assoc, List.cons_append, set_mid]
    rw [show (List.range a).map (fun a => rq (lossQ caps rs a)) ++ [rq (lossQ caps rs a)] = (List.range (a + 1)).map fun a => rq (lossQ caps rs a) by rw [List.range_succ, List.map_append]; rfl]
  rw [e5] at t4
  refine ⟨y4, some (.d x), y6, y7, y8, ?_⟩
  unfold loO
  rw [seq_run t1, seq_run t2, frz_run (i := 5) (n := M.length) (x := x) rfl (get_last M _), ef, set_last, seq_run t4]
  rfl
abbrev lossD (caps : List Nat) (rs : List RQ) : D := .tuple ((List.range rs.length).map fun a => rq (lossQ caps rs a))
theorem losses_ok (N : Net caps rs 6) : F_link_losses [.d (capsD caps), .d (routesD rs)] m = .ok (.d (lossD caps rs)) m := by
  have r1 := N.r1
  have t1 : sDrop (mCall 2 F_check_links (mCons (mVar 0) (mCons (mVar 1) (mNil)))) (loV caps rs none none none none none none none) m = .nx (loV caps rs none none none none none none none) m := by
    rw [e_Drop, call2_run (fm := F_check_links) (a := mVar 0) (b := mVar 1) (rho := loV caps rs none none none none none none none) (m := m) rfl rfl (check_ok N)]; rfl
  have t2 := set_run2 (i := 2) (call2_run (fm := F_link_shares_of) (a := mVar 0) (b := mVar 1) (rho := loV caps rs none none none none none none none) (m := m) rfl rfl (sharesof_ok N)) (rho' := loV caps rs (some (.d (shD caps rs))) none none none none none none) rfl
  have t3 : sSetR 3 (mLst (mNil)) (loV caps rs (some (.d (shD caps rs))) none none none none none none) m = .nx (loV caps rs (some (.d (shD caps rs))) (some (.r m.length)) none none none none none) (m ++ [some (fdD caps rs 0)]) := rfl
  have rg := range1_any (m := m ++ [some (fdD caps rs 0)]) (rho := loV caps rs (some (.d (shD caps rs))) (some (.r m.length)) none none none none none) (a := mB (mCons (mVar 1) (mNil)) (fD1 lenD)) (n := rs.length) (by
    have := len_b (m := m ++ [some (fdD caps rs 0)]) (i := 1) (rho := loV caps rs (some (.d (shD caps rs))) (some (.r m.length)) none none none none none) (xs := rs.map rD) rfl
    rwa [List.length_map] at this) (by omega)
  obtain ⟨r, m', e, js, rfl, y4, y5, y6, y7, y8, rfl⟩ := for_inv (g := gN 4) (c := loO) (rho := loV caps rs (some (.d (shD caps rs))) (some (.r m.length)) none none none none none) (m := m ++ [some (fdD caps rs 0)]) ((List.range rs.length).map fun k : Nat => PyData.int (k : Int))
    (fun i rho m1 => ∃ js, m1 = m ++ some (fdD caps rs i) :: js ∧ ∃ y4 y5 y6 y7 y8, rho = loV caps rs (some (.d (shD caps rs))) (some (.r m.length)) y4 y5 y6 y7 y8) ⟨[], rfl, none, none, none, none, none, rfl⟩ fun i hi rho m1 hI => by
      obtain ⟨js, rfl, y4, y5, y6, y7, y8, rfl⟩ := hI
      rw [List.length_map, List.length_range] at hi
      obtain ⟨z4, z5, z6, z7, z8, t⟩ := loO_run (m := m) N hi (js := js) (x5 := y5) (x6 := y6) (x7 := y7) (x8 := y8)
      exact ⟨loV caps rs (some (.d (shD caps rs))) (some (.r m.length)) (some (.d (nD i))) y5 y6 y7 y8, m ++ some (fdD caps rs i) :: js, by rw [List.getElem_map, List.getElem_range]; rfl, _, _, t, js ++ [none], rfl, z4, z5, z6, z7, z8, rfl⟩
  rw [List.length_map, List.length_range] at e
  have t4 := for_run rg e
  have t5 : mB (mCons (mVar 3) (mNil)) fTup (loV caps rs (some (.d (shD caps rs))) (some (.r m.length)) y4 y5 y6 y7 y8) (m ++ some (fdD caps rs rs.length) :: js) = .ok (.d (lossD caps rs)) (m ++ some (fdD caps rs rs.length) :: js) := by
    refine b_run (cons_run (w := .r m.length) (var_run rfl) nil_run) ?_
    rw [val_r, f_Tup, peek_r, get_mid]; rfl
  unfold F_link_losses
  refine run_dt (m' := m ++ some (fdD caps rs rs.length) :: js) (rho := loV caps rs none none none none none none none) rfl ?_ List.take_left
  unfold m_link_losses
  rw [seq_run t1, seq_run t2, seq_run t3, seq_run t4]
  exact ret_run t5
end
end Law
set_option exponentiation.threshold 5000
namespace Law
open PySem PySem.Spec PyProof.Rows L2 Den
/-! the law's own states -/
theorem used_range (l : Nat) : ∀ (st : List Nat) (rs : List RQ), st.length ≤ rs.length → (((List.range st.length).filter fun k => bit (rs.getD k (0, 0)).1 l).map fun k => ((st.getD k 0 : Nat) : Int)).sum = (used st rs l : Int)
  | [], rs, _ => by cases rs <;> rfl
  | n :: st, [], h => by simp at h
  | n :: st, r :: rs, h => by
    have ih := used_range l st rs (by simpa using h)
    rw [List.length_cons, List.range_succ_eq_map, List.filter_cons]
    have e : ((List.range st.length).map Nat.succ).filter (fun k => bit ((r :: rs).getD k (0, 0)).1 l) = ((List.range st.length).filter fun k => bit (rs.getD k (0, 0)).1 l).map Nat.succ := by
      rw [List.filter_map]; rfl
    rw [e]
    show _ = (((if bit r.1 l = true then n else 0) + used st rs l : Nat) : Int)
    have e2 : ((((List.range st.length).filter fun k => bit (rs.getD k (0, 0)).1 l).map Nat.succ).map fun k => (((n :: st).getD k 0 : Nat) : Int)).sum = (used st rs l : Int) := by
      rw [List.map_map, ← ih]; rfl
    have e3 : (bit ((r :: rs).getD 0 (0, 0)).1 l) = bit r.1 l := rfl
    rw [e3]
    cases hb : bit r.1 l with
    | true =>
      rw [if_pos rfl, if_pos rfl, List.map_cons, List.sum_cons, e2, Int.natCast_add]; rfl
    | false =>
      rw [if_neg (by simp), if_neg (by simp), e2, Nat.zero_add]
theorem seq_ret {c d : SM} {rho : Den.Env} {m m' : Mem} {w : W} (h : c rho m = .rt w m') : sSeq c d rho m = .rt w m' := by rw [e_Seq, h]
section
variable {m : Mem} {caps : List Nat} {rs : List RQ} {B : Nat}
theorem pow_go {x0 : Option W} : ∀ (d j : Nat) (x2 : Option W), j + d ≤ 90 → ∃ y2, forL (gN 2) (sSeq (sSet 1 (mMul (mC (.int 2)) (mVar 1))) (sSkip)) ((List.range' j d).map fun k : Nat => PyData.int (k : Int)) [x0, some (.d (nD (2 ^ j))), x2] m = .nx [x0, some (.d (nD (2 ^ (j + d)))), y2] m
  | 0, j, x2, _ => ⟨x2, rfl⟩
  | d + 1, j, x2, h => by
    obtain ⟨y2, e⟩ := pow_go (x0 := x0) d (j + 1) (some (.d (nD j))) (by omega)
    refine ⟨y2, ?_⟩
    have hj : 2 ^ j < 2 ^ 100 := Nat.pow_lt_pow_right (by decide) (by omega)
    have mu := mul_run (a := mC (.int 2)) (c := mVar 1) (rho := [x0, some (.d (nD (2 ^ j))), some (.d (nD j))]) (m := m) (w := .d (.int 2)) (w2 := .d (nD (2 ^ j))) (x := .d (nD (2 ^ (j + 1)))) const_run (var_run rfl) (lift2_run (y := .int 2) (z := nD (2 ^ j)) rfl rfl (by
      rw [show nD (2 ^ j) = .int ((2 ^ j : Nat) : Int) from rfl, mul_small (by decide) (by rw [Int.natAbs_natCast]; exact hj)]
      rw [show nD (2 ^ (j + 1)) = .int ((2 ^ (j + 1) : Nat) : Int) from rfl, Nat.pow_succ, Nat.mul_comm, Int.natCast_mul]; rfl))
    have t := seq_run (d := sSkip) (set_run2 (i := 1) mu (rho' := [x0, some (.d (nD (2 ^ (j + 1)))), some (.d (nD j))]) rfl)
    have t' := forN_step (i := 2) (x := nD j) (xs := (List.range' (j + 1) d).map fun k : Nat => PyData.int (k : Int)) (rho := [x0, some (.d (nD (2 ^ j))), x2]) (c := sSeq (sSet 1 (mMul (mC (.int 2)) (mVar 1))) (sSkip)) (r := [x0, some (.d (nD (2 ^ (j + 1)))), some (.d (nD j))]) (m := m) (m' := m) t
    rw [List.range'_succ, List.map_cons, show j + (d + 1) = j + 1 + d by omega, ← e]
    exact t'
theorem power_ok {n : Nat} (h : n ≤ 90) : F__law_power [.d (nD n)] m = .ok (.d (nD (2 ^ n))) m := by
  obtain ⟨y2, e⟩ := pow_go (m := m) (x0 := some (.d (nD n))) n 0 none (by omega)
  rw [Nat.zero_add, ← List.range_eq_range'] at e
  have t1 : sSet 1 (mC (.int 1)) [some (.d (nD n)), none, none] m = .nx [some (.d (nD n)), some (.d (nD (2 ^ 0))), none] m := rfl
  have t2 := for_run (range1_any (m := m) (rho := [some (.d (nD n)), some (.d (nD (2 ^ 0))), none]) (a := mVar 0) (n := n) (var_run rfl) (by omega)) e
  unfold F__law_power
  refine run_d (m' := m) ?_ rfl
  rw [show startE 3 [.d (nD n)] = [some (.d (nD n)), none, none] from rfl]
  unfold m__law_power
  rw [seq_run t1, seq_run t2]
  exact ret_run (var_run rfl)
theorem on_ok {b l : Nat} (h : l ≤ 90) : F__law_on [.d (nD b), .d (nD l)] m = .ok (.d (nD (b / 2 ^ l % 2))) m := by
  have e := power_ok (m := m) h
  have hp : 0 < 2 ^ l := Nat.pow_pos (by decide)
  have f1 : fdivD (b : Int) ((2 ^ l : Nat) : Int) = some (.int ((b / 2 ^ l : Nat) : Int)) := by
    rw [fdiv_ok (decide_eq_true ⟨by omega, by rw [Int.natAbs_natCast, Nat.log2_two_pow]; omega⟩)]; rfl
  have a1 := call_run (n := 1) (fm := F__law_power) (cons_run (a := mVar 1) (rho := [some (.d (nD b)), some (.d (nD l))]) (w := .d (nD l)) (var_run rfl) nil_run) rfl e
  have a2 : mFdiv (mVar 0) (mCall 1 F__law_power (mCons (mVar 1) (mNil))) [some (.d (nD b)), some (.d (nD l))] m = .ok (.d (nD (b / 2 ^ l))) m := by
    rw [e_Fdiv, var_run (w := .d (nD b)) rfl, ev_bindV, a1, ev_bindV, val_d, val_d, f_lift2, peek_d, peek_d]
    show (match onI fdivD (.int (b : Int)) (.int ((2 ^ l : Nat) : Int)) with | some w => Rs.ok w m | none => .no) = _
    rw [on_ii, f1]; rfl
  have a3 := b_run (fm := fD1 intD) (cons_run a2 nil_run) (w := .d (nD (b / 2 ^ l))) (m2 := m) rfl
  have a4 := mod_run a3 (c := mC (.int 2)) (j := 2) const_run (by decide)
  unfold F__law_on
  refine run_d (m' := m) ?_ rfl
  unfold m__law_on
  exact ret_run a4
theorem at_rD {k : Nat} (h : k < rs.length) : atI (rs.map rD) (k : Int) = some (rD (rs.getD k (0, 0))) := by
  unfold atI ixN
  rw [if_pos (by omega), if_pos (by rw [List.length_map]; omega)]
  simp [h]
theorem ix_tup {rho : Den.Env} {a b : EM W} {xs : List D} {i : Int} {y : D} (h1 : a rho m = .ok (.d (.tuple xs)) m) (h2 : b rho m = .ok (.d (.int i)) m) (h3 : atI xs i = some y) : mIx a b rho m = .ok (.d y) m := ix_run h1 h2 (by
  rw [val_d, val_d, f_Ix, peek_d, peek_d]
  show (match ixD (.tuple xs) (.int i) with | some z => Rs.ok (W.d z) m | none => .no) = _
  rw [ix_t, h3])
abbrev lfE (caps : List Nat) (rs : List RQ) (st : List Nat) (x3 x4 : Option W) : Den.Env := [some (.d (capsD caps)), some (.d (routesD rs)), some (.d (stD st)), x3, x4]
abbrev lfS : EM W := mB (mCons (mLC (mRange1 (mB (mCons (mVar 2) (mNil)) (fD1 lenD))) [4] (gN 4) (mBool (mOp2 (mCall 2 F__law_on (mCons (mIx (mIx (mVar 1) (mVar 4)) (mC (.int 0))) (mCons (mVar 3) (mNil)))) (mC (.int 1)) (lift2 eqD))) (mIx (mVar 2) (mVar 4))) (mNil)) (fD1 sumD)
theorem lfS_run {st : List Nat} {l : Nat} (h : st.length ≤ rs.length) (hl : rs.length ≤ 1000) (hl2 : l ≤ 90) {x4 : Option W} : lfS (lfE caps rs st (some (.d (nD l))) x4) m = .ok (.d (nD (used st rs l))) m := by
  have rg := range1_any (m := m) (rho := lfE caps rs st (some (.d (nD l))) x4) (a := mB (mCons (mVar 2) (mNil)) (fD1 lenD)) (n := st.length) (by
    have := len_b (m := m) (i := 2) (rho := lfE caps rs st (some (.d (nD l))) x4) (xs := st.map nD) rfl
    rwa [List.length_map] at this) (by omega)
  have c := mLC_of (it := mRange1 (mB (mCons (mVar 2) (mNil)) (fD1 lenD))) (vs := [4]) (g := gN 4) (t := mBool (mOp2 (mCall 2 F__law_on (mCons (mIx (mIx (mVar 1) (mVar 4)) (mC (.int 0))) (mCons (mVar 3) (mNil)))) (mC (.int 1)) (lift2 eqD))) (a := mIx (mVar 2) (mVar 4)) (rho := lfE caps rs st (some (.d (nD l))) x4) (m := m) (m0 := m) (List.range st.length) (fun k : Nat => PyData.int (k : Int)) (fun k => bit (rs.getD k (0, 0)).1 l) (fun k => nD (st.getD k 0)) rg (by rw [List.length_range]; omega)
    fun k hk => by
      have hk := List.mem_range.mp hk
      refine ⟨lfE caps rs st (some (.d (nD l))) (some (.d (nD k))), rfl, ?_, fun _ => ⟨.d (nD (st.getD k 0)), ix_tup (xs := st.map nD) (var_run rfl) (var_run rfl) (at_nD hk), rfl⟩⟩
      have a1 := ix_tup (m := m) (rho := lfE caps rs st (some (.d (nD l))) (some (.d (nD k)))) (a := mVar 1) (b := mVar 4) (xs := rs.map rD) (var_run rfl) (var_run rfl) (at_rD (by omega))
      have a2 := ix_tup (b := mC (.int 0)) (y := nD (rs.getD k (0, 0)).1) a1 const_run rfl
      have a3 := call2_run (fm := F__law_on) a2 (b := mVar 3) (w2 := .d (nD l)) (var_run rfl) (on_ok hl2)
      refine bool_run (op_run a3 (const_run (v := .int 1)) (lift2_run (y := nD ((rs.getD k (0, 0)).1 / 2 ^ l % 2)) rfl rfl ?_))
      rw [show nD ((rs.getD k (0, 0)).1 / 2 ^ l % 2) = .int (((rs.getD k (0, 0)).1 / 2 ^ l % 2 : Nat) : Int) from rfl, eq_i]
      have eb : ((((rs.getD k (0, 0)).1 / 2 ^ l % 2 : Nat) : Int) == 1) = bit (rs.getD k (0, 0)).1 l := by
        unfold bit
        generalize (rs.getD k (0, 0)).1 / 2 ^ l % 2 = z
        by_cases q : z = 1
        · subst q; rfl
        · rw [decide_eq_false q, beq_eq_false_iff_ne]; omega
      rw [eb]
  refine b_run (cons_run c nil_run) (D1_run ?_)
  have e := sum_ints (((List.range st.length).filter fun k => bit (rs.getD k (0, 0)).1 l).map fun k => ((st.getD k 0 : Nat) : Int))
  rw [List.map_map, used_range l st rs h] at e
  exact e
abbrev lfB : SM := sSeq (sIf (mBool (mOp2 lfS (mIx (mVar 0) (mVar 3)) (lift2 gtD))) (sSeq (sRet (mC (.bool false))) (sSkip)) (sSkip)) (sSkip)
theorem lf_go {st : List Nat} (h : st.length ≤ rs.length) (hl : rs.length ≤ 1000) (hc : caps.length ≤ 90) : ∀ (d j : Nat) (x3 x4 : Option W), j + d = caps.length → ∃ y3 y4, forL (gN 3) lfB ((List.range' j d).map fun k : Nat => PyData.int (k : Int)) (lfE caps rs st x3 x4) m =
    if ((List.range' j d).all fun l => decide (used st rs l ≤ caps.getD l 0)) = true then .nx (lfE caps rs st y3 y4) m else .rt (.d (.bool false)) m
  | 0, j, x3, x4, _ => ⟨x3, x4, rfl⟩
  | d + 1, j, x3, x4, hj => by
    have t0 := ix_tup (m := m) (rho := lfE caps rs st (some (.d (nD j))) x4) (a := mVar 0) (b := mVar 3) (xs := caps.map nD) (var_run rfl) (var_run rfl) (at_nD (st := caps) (by omega))
    have t1 := op_run (f := lift2 gtD) (lfS_run (m := m) (caps := caps) (rs := rs) h hl (l := j) (by omega) (x4 := x4)) t0 (x := .d (.bool (decide (((caps.getD j 0 : Nat) : Int) < (used st rs j : Int))))) (lift2_run rfl rfl rfl)
    rw [List.range'_succ, List.map_cons, List.all_cons]
    by_cases hu : used st rs j ≤ caps.getD j 0
    · rw [decide_eq_false (by omega)] at t1
      obtain ⟨y3, y4, ih⟩ := lf_go h hl hc d (j + 1) (some (.d (nD j))) x4 (by omega)
      refine ⟨y3, y4, ?_⟩
      have b : lfB (lfE caps rs st (some (.d (nD j))) x4) m = .nx (lfE caps rs st (some (.d (nD j))) x4) m := by
        unfold lfB
        rw [seq_run (if_no (bool_run t1))]; rfl
      have s := forN_step (i := 3) (x := nD j) (xs := (List.range' (j + 1) d).map fun k : Nat => PyData.int (k : Int)) (rho := lfE caps rs st x3 x4) b
      rw [decide_eq_true hu, Bool.true_and, ← ih]
      exact s
    · rw [decide_eq_true (by omega)] at t1
      refine ⟨x3, x4, ?_⟩
      have b : lfB (lfE caps rs st (some (.d (nD j))) x4) m = .rt (.d (.bool false)) m := by
        unfold lfB
        rw [e_Seq, if_yes (bool_run t1)]; rfl
      rw [decide_eq_false hu, Bool.false_and, if_neg (by simp)]
      exact for_ret (show gN 3 (.d (nD j)) (lfE caps rs st x3 x4) m = some (lfE caps rs st (some (.d (nD j))) x4, m) from rfl) b
theorem fits_rng {st : List Nat} : ((List.range caps.length).all fun l => decide (used st rs l ≤ caps.getD l 0)) = fitsQ caps rs st := by
  rw [Bool.eq_iff_iff, List.all_eq_true, fits_iff]
  constructor
  · intro h l c hc
    obtain ⟨hl, rfl⟩ := List.getElem?_eq_some_iff.mp hc
    have := of_decide_eq_true (h l (List.mem_range.mpr hl))
    simpa [List.getD_eq_getElem?_getD, hl] using this
  · intro h l hl
    have hl := List.mem_range.mp hl
    refine decide_eq_true ?_
    have := h l caps[l] (List.getElem?_eq_getElem hl)
    simpa [List.getD_eq_getElem?_getD, hl] using this
theorem lfits_ok {st : List Nat} (h : st.length ≤ rs.length) (hl : rs.length ≤ 1000) (hc : caps.length ≤ 90) : F__law_fits [.d (capsD caps), .d (routesD rs), .d (stD st)] m = .ok (.d (.bool (fitsQ caps rs st))) m := by
  obtain ⟨y3, y4, e⟩ := lf_go (m := m) (caps := caps) (rs := rs) h hl hc caps.length 0 none none (by omega)
  rw [← List.range_eq_range', fits_rng] at e
  have rg := range1_any (m := m) (rho := lfE caps rs st none none) (a := mB (mCons (mVar 0) (mNil)) (fD1 lenD)) (n := caps.length) (by
    have := len_b (m := m) (i := 0) (rho := lfE caps rs st none none) (xs := caps.map nD) rfl
    rwa [List.length_map] at this) (by omega)
  have t := for_run rg e
  unfold F__law_fits
  refine run_d (m' := m) ?_ rfl
  rw [show startE 5 [.d (capsD caps), .d (routesD rs), .d (stD st)] = lfE caps rs st none none from rfl]
  unfold m__law_fits
  cases hq : fitsQ caps rs st with
  | true =>
    rw [hq, if_pos rfl] at t
    rw [seq_run t]
    exact ret_run const_run
  | false =>
    rw [hq, if_neg (by simp)] at t
    exact seq_ret t
theorem ext_run {rho : Den.Env} {i h : Nat} {a : EM W} {ds xs : List D} {w : W} (hv : rho[i]? = some (some (.r h))) (hm : m[h]? = some (some (.list ds))) (ha : a rho m = .ok w m) (hw : val w = .d (.list xs)) (hl : ds.length + xs.length ≤ 1000000) : sDrop (mM .lst (mVar i) (mCons a (mNil)) fExtend) rho m = .nx rho (m.set h (some (.list (ds ++ xs)))) := by
  have hs : small (ds.length + xs.length) = true := small_le hl
  rw [e_Drop, e_M, var_run hv, ev_bindV, val_r, peek_r, hm]
  show (((if Kd.ok .lst (.list ds) = true then (mCons a mNil rho m).bind fun ws m2 => fExtend (.r h) ws m2 else Rs.no) : Rs W).thenV rho fun _ m1 => Out.nx rho m1) = _
  rw [kd_l, if_pos rfl, cons_run ha nil_run, ev_bind, hw, f_ext, hm]
  show (((if small (ds.length + xs.length) = true then Rs.ok (W.d .none) (m.set h (some (.list (ds ++ xs)))) else Rs.no) : Rs W).thenV rho fun _ m1 => Out.nx rho m1) = _
  rw [if_pos hs]
  rfl
abbrev tsE (caps : List Nat) (rs : List RQ) (x2 x3 x4 x5 x6 : Option W) : Den.Env := [some (.d (capsD caps)), some (.d (routesD rs)), x2, x3, x4, x5, x6]
abbrev tsI : SM := sSeq (sDrop (mM .lst (mVar 4) (mCons (mLC (mRange1 (mAdd (mB (mCons (mVar 0) (mNil)) (fD1 maxBD)) (mC (.int 1)))) [6] (gN 6) (tYesT) (mAdd (mVar 5) (mTup (mCons (mVar 6) (mNil))))) (mNil)) fExtend)) (sSkip)
abbrev tsO : SM := sSeq (sSetR 4 (mLst (mNil))) (sSeq (sFor (mItems (mVar 2)) (gN 5) tsI) (sFrz 4 (sSeq (sSet 2 (mLC (mItems (mVar 4)) [5] (gN 5) (mTru (mCall 3 F__law_fits (mCons (mVar 0) (mCons (mVar 1) (mCons (mVar 5) (mNil)))))) (mVar 5))) (sSkip))))
theorem tsI_run (hm : maxBD (capsD caps) = some (nD B)) (hB : B ≤ 1000) {s : List Nat} (hs : s.length ≤ 1000) {X : List D} (hX : X.length ≤ 100000) {x2 x3 x6 : Option W} : tsI (tsE caps rs x2 x3 (some (.r m.length)) (some (.d (stD s))) x6) (m ++ [some (.list X)]) = .nx (tsE caps rs x2 x3 (some (.r m.length)) (some (.d (stD s))) x6) (m ++ [some (.list (X ++ ((List.range (B + 1)).map fun n => s ++ [n]).map stD))]) := by
  generalize hE : tsE caps rs x2 x3 (some (.r m.length)) (some (.d (stD s))) x6 = rho
  generalize hM : m ++ [some (PyData.list X)] = M
  have rg := range1_any (m := M) (rho := rho) (a := mAdd (mB (mCons (mVar 0) (mNil)) (fD1 maxBD)) (mC (.int 1))) (n := B + 1) (add_run (w := .d (nD B)) (b_run (cons_run (w := .d (capsD caps)) (var_run (by rw [← hE]; rfl)) nil_run) (D1_run hm)) const_run rfl) (by omega)
  have c := mLC_all (it := mRange1 (mAdd (mB (mCons (mVar 0) (mNil)) (fD1 maxBD)) (mC (.int 1)))) (vs := [6]) (g := gN 6) (t := tYesT) (a := mAdd (mVar 5) (mTup (mCons (mVar 6) (mNil)))) (rho := rho) (m := M) (m0 := M) (List.range (B + 1)) (fun k : Nat => PyData.int (k : Int)) (fun n => stD (s ++ [n])) rg (by rw [List.length_range]; omega)
    fun n hn => ⟨(rho.set 6 none).set 6 (some (.d (nD n))), rfl, rfl, .d (stD (s ++ [n])), by
      refine add_run (w := .d (stD s)) (w2 := .d (.tuple [nD n])) (var_run (by rw [← hE]; rfl)) (tup_run (cons_run (w := .d (nD n)) (var_run (by rw [← hE]; rfl)) nil_run) rfl rfl) (lift2_run (y := stD s) (z := .tuple [nD n]) rfl rfl ?_)
      show (if small ((s.map nD).length + [nD n].length) = true then some (W.d (.tuple (s.map nD ++ [nD n]))) else none) = _
      have e : stD (s ++ [n]) = .tuple (s.map nD ++ [nD n]) := by unfold stD; rw [List.map_append]; rfl
      rw [if_pos (small_le (by rw [List.length_map, List.length_singleton]; omega)), e], rfl⟩
  have hv : rho[4]? = some (some (.r m.length)) := by rw [← hE]; rfl
  have hg : M[m.length]? = some (some (.list X)) := by rw [← hM]; exact get_last m _
  have t := ext_run hv hg c rfl (by rw [List.length_map, List.length_range]; omega)
  unfold tsI
  rw [seq_run t, ← hM, set_last, List.map_map]
  rfl
theorem ts_go (hm : maxBD (capsD caps) = some (nD B)) (hB : B ≤ 1000) {x2 x3 : Option W} : ∀ (ss : List (List Nat)) (X : List D) (x5 x6 : Option W), (∀ s ∈ ss, s.length ≤ 1000) → X.length + ss.length * (B + 1) ≤ 100000 →
    ∃ y5 y6, forL (gN 5) tsI (ss.map stD) (tsE caps rs x2 x3 (some (.r m.length)) x5 x6) (m ++ [some (.list X)]) = .nx (tsE caps rs x2 x3 (some (.r m.length)) y5 y6) (m ++ [some (.list (X ++ (ss.flatMap fun s => (List.range (B + 1)).map fun n => s ++ [n]).map stD))])
  | [], X, x5, x6, _, _ => ⟨x5, x6, by simp [forL]⟩
  | s :: ss, X, x5, x6, hs, hX => by
    rw [List.length_cons, Nat.add_mul, Nat.one_mul] at hX
    have t := tsI_run (m := m) (caps := caps) (rs := rs) hm hB (hs s List.mem_cons_self) (X := X) (by omega) (x2 := x2) (x3 := x3) (x6 := x6)
    obtain ⟨z5, z6, e2⟩ := ts_go hm hB (x2 := x2) (x3 := x3) ss (X ++ ((List.range (B + 1)).map fun n => s ++ [n]).map stD) (some (.d (stD s))) x6 (fun t ht => hs t (List.mem_cons_of_mem _ ht)) (by rw [List.length_append, List.length_map, List.length_map, List.length_range]; omega)
    refine ⟨z5, z6, ?_⟩
    have s1 := forN_step (i := 5) (x := stD s) (xs := ss.map stD) (rho := tsE caps rs x2 x3 (some (.r m.length)) x5 x6) t
    rw [List.map_cons, s1, e2, List.flatMap_cons, List.map_append, List.append_assoc]
theorem filter_flat {α β : Type} (p : β → Bool) (g : α → List β) : ∀ l : List α, (l.flatMap g).filter p = l.flatMap fun x => (g x).filter p
  | [] => rfl
  | x :: l => by rw [List.flatMap_cons, List.filter_append, filter_flat p g l]; rfl
theorem next_filter (ss : List (List Nat)) : (ss.flatMap fun s => (List.range (B + 1)).map fun n => s ++ [n]).filter (fitsQ caps rs) = ss.flatMap (nextQ caps rs B) := by
  rw [filter_flat]
  congr 1
  funext s
  rw [List.filter_map]
  rfl
theorem frz_ts {n : Nat} {x y : D} {x3 x5 x6 : Option W} : ∃ y3 y5 y6, (tsE caps rs (some (.d y)) x3 (some (.r n)) x5 x6).map (frzW n x) = tsE caps rs (some (.d y)) y3 (some (.d x)) y5 y6 := by
  refine ⟨frzW n x x3, frzW n x x5, frzW n x x6, ?_⟩
  have h2 : frzW n x (some (.r n)) = some (.d x) := by
    show (if n = n then some (W.d x) else some (.r n)) = _
    rw [if_pos rfl]
  simp only [List.map_cons, List.map_nil, h2]
  rfl
theorem tsO_run (hm : maxBD (capsD caps) = some (nD B)) (hB : B ≤ 1000) (hcl : caps.length ≤ 90) {k : Nat} (hk : k < rs.length) (hrl : rs.length ≤ 1000) {ss : List (List Nat)} (hs : ∀ s ∈ ss, s.length = k) (hX : ss.length * (B + 1) ≤ 100000) {x4 x5 x6 : Option W} :
    ∃ y3 y4 y5 y6, tsO (tsE caps rs (some (.d (ssD ss))) (some (.d (nD k))) x4 x5 x6) m = .nx (tsE caps rs (some (.d (ssD (ss.flatMap (nextQ caps rs B))))) y3 y4 y5 y6) (m ++ [none]) := by
  obtain ⟨z5, z6, e1⟩ := ts_go (m := m) (caps := caps) (rs := rs) hm hB (x2 := some (.d (ssD ss))) (x3 := some (.d (nD k))) ss [] x5 x6 (fun s h => by have := hs s h; omega) (by simpa using hX)
  rw [List.nil_append] at e1
  have t1 : sSetR 4 (mLst (mNil)) (tsE caps rs (some (.d (ssD ss))) (some (.d (nD k))) x4 x5 x6) m = .nx (tsE caps rs (some (.d (ssD ss))) (some (.d (nD k))) (some (.r m.length)) x5 x6) (m ++ [some (.list [])]) := rfl
  have t2 := for_run (it := mItems (mVar 2)) (rho := tsE caps rs (some (.d (ssD ss))) (some (.d (nD k))) (some (.r m.length)) x5 x6) (m := m ++ [some (.list [])]) rfl e1
  generalize hLL : (ss.flatMap fun s => (List.range (B + 1)).map fun n => s ++ [n]) = LL at t2
  obtain ⟨y3, y5, y6, ef⟩ := frz_ts (caps := caps) (rs := rs) (n := m.length) (x := ssD LL) (y := ssD ss) (x3 := some (.d (nD k))) (x5 := z5) (x6 := z6)
  have hLn : LL.length ≤ 100000 := by
    have : ∀ ss : List (List Nat), (ss.flatMap fun s => (List.range (B + 1)).map fun n => s ++ [n]).length = ss.length * (B + 1) := by
      intro ss
      induction ss with
      | nil => simp
      | cons s ss ih => rw [List.flatMap_cons, List.length_append, ih, List.length_map, List.length_range, List.length_cons, Nat.add_mul, Nat.one_mul, Nat.add_comm]
    rw [← hLL, this]; exact hX
  have hLm : ∀ s ∈ LL, s.length ≤ rs.length := fun s hs' => by
    rw [← hLL] at hs'
    obtain ⟨t, ht, hq⟩ := List.mem_flatMap.mp hs'
    obtain ⟨n, _, rfl⟩ := List.mem_map.mp hq
    have := hs t ht
    rw [List.length_append, List.length_singleton]; omega
  have c := mLC_of (it := mItems (mVar 4)) (vs := [5]) (g := gN 5) (t := mTru (mCall 3 F__law_fits (mCons (mVar 0) (mCons (mVar 1) (mCons (mVar 5) (mNil)))))) (a := mVar 5) (rho := tsE caps rs (some (.d (ssD ss))) y3 (some (.d (ssD LL))) y5 y6) (m := m ++ [none]) (m0 := m ++ [none]) LL stD (fitsQ caps rs) stD rfl (by omega)
    fun s hs' => ⟨tsE caps rs (some (.d (ssD ss))) y3 (some (.d (ssD LL))) (some (.d (stD s))) y6, rfl, tru_run (call_run (n := 3) (cons_run (w := .d (capsD caps)) (var_run rfl) (cons_run (w := .d (routesD rs)) (var_run rfl) (cons_run (w := .d (stD s)) (var_run rfl) nil_run))) rfl (lfits_ok (hLm s hs') hrl hcl)) rfl, fun _ => ⟨.d (stD s), rfl, rfl⟩⟩
  rw [← hLL, next_filter, hLL] at c
  refine ⟨y3, some (.d (ssD LL)), y5, y6, ?_⟩
  unfold tsO
  rw [seq_run t1, seq_run t2, frz_run (i := 4) (n := m.length) rfl (get_last m _)]
  have ef' : (tsE caps rs (some (.d (ssD ss))) (some (.d (nD k))) (some (.r m.length)) z5 z6).map (frzW m.length (PyData.list (LL.map stD))) = tsE caps rs (some (.d (ssD ss))) y3 (some (.d (ssD LL))) y5 y6 := ef
  rw [ef', set_last, seq_run (set_run2 (i := 2) c (rho' := tsE caps rs (some (.d (ssD (ss.flatMap (nextQ caps rs B))))) y3 (some (.d (ssD LL))) y5 y6) rfl)]
  rfl
/-- the bound on how many does not matter -/
theorem states_B {B' : Nat} (h1 : ∀ c ∈ caps, c ≤ B) (h2 : ∀ c ∈ caps, c ≤ B') (hr : ∀ r ∈ rs, 0 < r.1 ∧ r.1 < 2 ^ caps.length) : ∀ k, k ≤ rs.length → statesQ caps rs B k = statesQ caps rs B' k
  | 0, _ => rfl
  | k + 1, hk => by
    show (statesQ caps rs B k).flatMap (nextQ caps rs B) = (statesQ caps rs B' k).flatMap (nextQ caps rs B')
    rw [states_B h1 h2 hr k (by omega)]
    have key : ∀ ss : List (List Nat), (∀ s ∈ ss, s.length = k) → ss.flatMap (nextQ caps rs B) = ss.flatMap (nextQ caps rs B') := by
      intro ss
      induction ss with
      | nil => intro _; rfl
      | cons s ss ih =>
        intro hs
        rw [List.flatMap_cons, List.flatMap_cons, ih fun t ht => hs t (List.mem_cons_of_mem _ ht)]
        have hl := hs s List.mem_cons_self
        obtain ⟨M, _, e, f1, f2⟩ := next_rng h1 hr (s := s) (by omega)
        obtain ⟨M', _, e', f1', f2'⟩ := next_rng h2 hr (s := s) (by omega)
        have hM : M = M' := by
          rcases Nat.lt_trichotomy M M' with h | h | h
          · have := f1' M h; rw [f2] at this; cases this
          · exact h
          · have := f1 M' h; rw [f2'] at this; cases this
        rw [e, e', hM]
    exact key _ fun s hs => states_len hs
theorem lstates_ok (N : Net caps rs 6) (hm : maxBD (capsD caps) = some (nD B)) (hB : B ≤ 6) (hc : ∀ c ∈ caps, c ≤ B) : F__law_states [.d (capsD caps), .d (routesD rs)] m = .ok (.d (ssD (StQ caps rs))) m := by
  have r1 := N.r1
  have c1 := N.c1
  have t1 : sSet 2 (mLst (mCons (mTup (mNil)) (mNil))) (tsE caps rs none none none none none) m = .nx (tsE caps rs (some (.d (ssD [[]]))) none none none none) m := rfl
  have rg := range1_any (m := m) (rho := tsE caps rs (some (.d (ssD [[]]))) none none none none) (a := mB (mCons (mVar 1) (mNil)) (fD1 lenD)) (n := rs.length) (by
    have := len_b (m := m) (i := 1) (rho := tsE caps rs (some (.d (ssD [[]]))) none none none none) (xs := rs.map rD) rfl
    rwa [List.length_map] at this) (by omega)
  obtain ⟨r, m', e, js, rfl, y3, y4, y5, y6, rfl⟩ := for_inv (g := gN 3) (c := tsO) (rho := tsE caps rs (some (.d (ssD [[]]))) none none none none) (m := m) ((List.range rs.length).map fun k : Nat => PyData.int (k : Int))
    (fun i rho m1 => ∃ js, m1 = m ++ js ∧ ∃ y3 y4 y5 y6, rho = tsE caps rs (some (.d (ssD (statesQ caps rs B i)))) y3 y4 y5 y6) ⟨[], by simp, none, none, none, none, rfl⟩ fun i hi rho m1 hI => by
      obtain ⟨js, rfl, y3, y4, y5, y6, rfl⟩ := hI
      rw [List.length_map, List.length_range] at hi
      have hx := Nat.mul_le_mul_right (B + 1) (states_count (caps := caps) (rs := rs) (B := B) i)
      rw [← Nat.pow_succ] at hx
      have hy : (B + 1) ^ (i + 1) ≤ 7 ^ 3 := Nat.le_trans (Nat.pow_le_pow_left (show B + 1 ≤ 7 by omega) _) (Nat.pow_le_pow_right (by decide) (by omega))
      obtain ⟨z3, z4, z5, z6, t⟩ := tsO_run (m := m ++ js) hm (by omega) (by omega) hi (by omega) (ss := statesQ caps rs B i) (fun s hs => states_len hs) (Nat.le_trans hx (Nat.le_trans hy (by decide))) (x4 := y4) (x5 := y5) (x6 := y6)
      exact ⟨tsE caps rs (some (.d (ssD (statesQ caps rs B i)))) (some (.d (nD i))) y4 y5 y6, m ++ js, by rw [List.getElem_map, List.getElem_range]; rfl, _, _, t, js ++ [none], by rw [List.append_assoc], z3, z4, z5, z6, rfl⟩
  rw [List.length_map, List.length_range, states_B hc N.le N.rr _ (Nat.le_refl _)] at e
  have t2 := for_run rg e
  unfold F__law_states
  refine run_dt (m' := m ++ js) (rho := tsE caps rs none none none none none) rfl ?_ List.take_left
  unfold m__law_states
  rw [seq_run t1, seq_run t2]
  exact ret_run (var_run rfl)
end
end Law
set_option exponentiation.threshold 5000
namespace Law
open PySem PySem.Spec PyProof.Rows L2 Den
/-! the law's statements; what is drawn -/
abbrev S0 : SM := sSetR 1 (mCall 1 F__law_draws (mCons (mVar 0) (mNil)))
abbrev S1 : SM := sSetR 1 (mCall 2 F__law_more (mCons (mVar 1) (mCons (mC (.int 60)) (mNil))))
abbrev S2 : SM := sSet 2 (mAdd (mC (.int 1)) (mMod (mB (mCons (mCall 1 F__law_next (mCons (mVar 1) (mNil))) (mNil)) (fD1 intD)) (mC (.int 3))))
abbrev S3 : SM := sSet 3 (mB (mCons (mLC (mRange1 (mVar 2)) [4] (gN 4) (tYesT) (mAdd (mC (.int 1)) (mMod (mB (mCons (mCall 1 F__law_next (mCons (mVar 1) (mNil))) (mNil)) (fD1 intD)) (mIx (mLst (mCons (mC (.int 6)) (mCons (mC (.int 4)) (mCons (mC (.int 3)) (mNil))))) (mSub (mVar 2) (mC (.int 1))))))) (mNil)) fTup)
abbrev S4 : SM := sSet 5 (mB (mCons (mLC (mRange1 (mAdd (mC (.int 1)) (mMod (mB (mCons (mCall 1 F__law_next (mCons (mVar 1) (mNil))) (mNil)) (fD1 intD)) (mC (.int 3))))) [6] (gN 6) (tYesT) (mTup (mCons (mAdd (mC (.int 1)) (mMod (mB (mCons (mCall 1 F__law_next (mCons (mVar 1) (mNil))) (mNil)) (fD1 intD)) (mSub (mCall 1 F__law_power (mCons (mVar 2) (mNil))) (mC (.int 1))))) (mCons (mCall 2 F__law_rate (mCons (mVar 1) (mCons (mC (.int 4)) (mNil)))) (mNil))))) (mNil)) fTup)
abbrev S5 : SM := sSet 7 (mCall 2 F__law_states (mCons (mVar 3) (mCons (mVar 5) (mNil))))
abbrev S6 : SM := sSetR 8 (mDNew)
abbrev S7 : SM := sFor (mItems (mVar 7)) (gN 9) (sSeq (sSet 10 (mTup (mCons (mC (.int 1)) (mCons (mC (.int 1)) (mNil))))) (sSeq (sFor (mRange1 (mB (mCons (mVar 5) (mNil)) (fD1 lenD))) (gN 6) (sSeq (sFor (mRange1 (mIx (mVar 9) (mVar 6))) (gN 11) (sSeq (sSet 10 (mCall 2 F__law_times (mCons (mVar 10) (mCons (mCall 2 F__law_by (mCons (mIx (mIx (mVar 5) (mVar 6)) (mC (.int 1))) (mCons (mTup (mCons (mAdd (mVar 11) (mC (.int 1))) (mCons (mC (.int 1)) (mNil)))) (mNil)))) (mNil))))) (sSkip))) (sSkip))) (sSeq (sDPutM (mVar 8) (mVar 9) (mVar 10)) (sSkip))))
abbrev S8 : SM := sSet 12 (mCall 1 F__law_total (mCons (mLC (mKeys (mVar 8)) [9] (gN 9) (tYesT) (mDGet (mVar 8) (mVar 9))) (mNil)))
abbrev S9 : SM := sSetR 13 (mLst (mNil))
abbrev S10 : SM := sFor (mRange1 (mB (mCons (mVar 5) (mNil)) (fD1 lenD))) (gN 6) (sSeq (sSet 14 (mLC (mItems (mVar 7)) [9] (gN 9) (mBool (mOp2 (mAdd (mAdd (mSl (mVar 9) (oNone) (oSome (mVar 6))) (mTup (mCons (mAdd (mIx (mVar 9) (mVar 6)) (mC (.int 1))) (mNil)))) (mSl (mVar 9) (oSome (mAdd (mVar 6) (mC (.int 1)))) (oNone))) (mVar 8) (fDIn true))) (mVar 9))) (sSeq (sDrop (mM .lst (mVar 13) (mCons (mCall 2 F__law_by (mCons (mCall 1 F__law_total (mCons (mLC (mItems (mVar 14)) [9] (gN 9) (tYesT) (mDGet (mVar 8) (mVar 9))) (mNil))) (mCons (mVar 12) (mNil)))) (mNil)) fAppend)) (sSkip)))
abbrev S11 : SM := sSet 15 (mLst (mCons (mLC (mItems (mB (mCons (mVar 7) (mNil)) (fN1 sortD))) [9] (gN 9) (tYesT) (mTup (mCons (mVar 9) (mCons (mCall 2 F__law_by (mCons (mDGet (mVar 8) (mVar 9)) (mCons (mVar 12) (mNil)))) (mNil))))) (mCons (mB (mCons (mVar 13) (mNil)) fTup) (mNil))))
abbrev S12 : SM := sIf (mBool (mOp2 (mB (mCons (mLC (mRange1 (mC (.int 2))) [16] (gN 16) (tYesT) (mCall 3 F__law_asked (mCons (mVar 16) (mCons (mVar 3) (mCons (mVar 5) (mNil)))))) (mNil)) (fD1 reprD)) (mB (mCons (mVar 15) (mNil)) (fD1 reprD)) (lift2 neD))) (sSeq (sRet (mC (.bool false))) (sSkip)) (sSkip)
abbrev S13 : SM := sPar 17 18 (mAdd (mC (.int 1)) (mMod (mB (mCons (mCall 1 F__law_next (mCons (mVar 1) (mNil))) (mNil)) (fD1 intD)) (mC (.int 6)))) (mLC (mRange1 (mC (.int 2))) [6] (gN 6) (tYesT) (mCall 2 F__law_rate (mCons (mVar 1) (mCons (mC (.int 4)) (mNil)))))
abbrev S14 : SM := sSet 19 (mCall 2 F_link_losses (mCons (mTup (mCons (mVar 17) (mNil))) (mCons (mTup (mCons (mTup (mCons (mC (.int 1)) (mCons (mCall 2 F__law_add (mCons (mIx (mVar 18) (mC (.int 0))) (mCons (mIx (mVar 18) (mC (.int 1))) (mNil)))) (mNil)))) (mNil))) (mNil))))
abbrev S15 : SM := sIf (mBool (mOp2 (mCall 2 F_link_losses (mCons (mTup (mCons (mVar 17) (mNil))) (mCons (mTup (mCons (mTup (mCons (mC (.int 1)) (mCons (mIx (mVar 18) (mC (.int 0))) (mNil)))) (mCons (mTup (mCons (mC (.int 1)) (mCons (mIx (mVar 18) (mC (.int 1))) (mNil)))) (mNil)))) (mNil)))) (mMul (mVar 19) (mC (.int 2))) (lift2 neD))) (sSeq (sRet (mC (.bool false))) (sSkip)) (sSkip)
abbrev S16 : SM := sSet 20 (mB (mCons (mLC (mItems (mSl (mVar 5) (oNone) (oSome (mC (.int 2))))) [21, 22] (gT [gN 21, gN 22]) (tYesT) (mTup (mCons (mMul (mC (.int 2)) (mVar 21)) (mCons (mVar 22) (mNil))))) (mNil)) fTup)
abbrev S17 : SM := sIf (mAndT (mBool (mOp2 (mVar 2) (mC (.int 3)) (lift2 ltD))) (mBool (mOp2 (mCall 2 F_link_losses (mCons (mAdd (mTup (mCons (mVar 17) (mNil))) (mVar 3)) (mCons (mAdd (mTup (mCons (mTup (mCons (mC (.int 1)) (mCons (mIx (mVar 18) (mC (.int 0))) (mNil)))) (mNil))) (mVar 20)) (mNil)))) (mAdd (mCall 2 F_link_losses (mCons (mTup (mCons (mVar 17) (mNil))) (mCons (mTup (mCons (mTup (mCons (mC (.int 1)) (mCons (mIx (mVar 18) (mC (.int 0))) (mNil)))) (mNil))) (mNil)))) (mCall 2 F_link_losses (mCons (mVar 3) (mCons (mSl (mVar 5) (oNone) (oSome (mC (.int 2)))) (mNil))))) (lift2 neD)))) (sSeq (sRet (mC (.bool false))) (sSkip)) (sSkip)
abbrev S18 : SM := sIf (mBool (mOp2 (mCall 2 F_link_losses (mCons (mTup (mCons (mC (.int 2)) (mNil))) (mCons (mTup (mCons (mTup (mCons (mC (.int 1)) (mCons (mTup (mCons (mC (.int 2)) (mCons (mC (.int 1)) (mNil)))) (mNil)))) (mNil))) (mNil)))) (mTup (mCons (mTup (mCons (mC (.int 2)) (mCons (mC (.int 5)) (mNil)))) (mNil))) (lift2 neD))) (sSeq (sRet (mC (.bool false))) (sSkip)) (sSkip)
abbrev S19 : SM := sSet 23 (mLst (mCons (mTup (mCons (mTup (mNil)) (mCons (mTup (mCons (mTup (mCons (mC (.int 1)) (mCons (mTup (mCons (mC (.int 1)) (mCons (mC (.int 1)) (mNil)))) (mNil)))) (mNil))) (mNil)))) (mCons (mTup (mCons (mTup (mCons (mC (.int 0)) (mNil))) (mCons (mTup (mCons (mTup (mCons (mC (.int 1)) (mCons (mTup (mCons (mC (.int 1)) (mCons (mC (.int 1)) (mNil)))) (mNil)))) (mNil))) (mNil)))) (mCons (mTup (mCons (mTup (mCons (mC (.int 21)) (mNil))) (mCons (mTup (mCons (mTup (mCons (mC (.int 1)) (mCons (mTup (mCons (mC (.int 1)) (mCons (mC (.int 1)) (mNil)))) (mNil)))) (mNil))) (mNil)))) (mCons (mTup (mCons (mTup (mCons (mC (.int 1)) (mNil))) (mCons (mTup (mNil)) (mNil)))) (mCons (mTup (mCons (mTup (mCons (mC (.int 1)) (mNil))) (mCons (mTup (mCons (mTup (mCons (mC (.int 0)) (mCons (mTup (mCons (mC (.int 1)) (mCons (mC (.int 1)) (mNil)))) (mNil)))) (mNil))) (mNil)))) (mCons (mTup (mCons (mTup (mCons (mC (.int 1)) (mNil))) (mCons (mTup (mCons (mTup (mCons (mC (.int 2)) (mCons (mTup (mCons (mC (.int 1)) (mCons (mC (.int 1)) (mNil)))) (mNil)))) (mNil))) (mNil)))) (mCons (mTup (mCons (mTup (mCons (mC (.int 1)) (mNil))) (mCons (mTup (mCons (mTup (mCons (mC (.int 1)) (mCons (mTup (mCons (mC (.int 0)) (mCons (mC (.int 1)) (mNil)))) (mNil)))) (mNil))) (mNil)))) (mCons (mTup (mCons (mMul (mTup (mCons (mC (.int 1)) (mNil))) (mC (.int 5))) (mCons (mTup (mCons (mTup (mCons (mC (.int 1)) (mCons (mTup (mCons (mC (.int 1)) (mCons (mC (.int 1)) (mNil)))) (mNil)))) (mNil))) (mNil)))) (mNil))))))))))
abbrev S20 : SM := sSet 23 (mAdd (mVar 23) (mLst (mCons (mTup (mCons (mTup (mCons (mC (.int 1)) (mNil))) (mCons (mMul (mTup (mCons (mTup (mCons (mC (.int 1)) (mCons (mTup (mCons (mC (.int 1)) (mCons (mC (.int 1)) (mNil)))) (mNil)))) (mNil))) (mC (.int 7))) (mNil)))) (mCons (mTup (mCons (mTup (mCons (mC (.int 1)) (mNil))) (mCons (mTup (mCons (mTup (mCons (mNeg (mC (.int 1))) (mCons (mTup (mCons (mC (.int 1)) (mCons (mC (.int 1)) (mNil)))) (mNil)))) (mNil))) (mNil)))) (mNil)))))
abbrev S21 : SM := sSet 24 (mCall 2 F__law_pick (mCons (mVar 1) (mCons (mVar 23) (mNil))))
abbrev S22 : SM := sSet 25 (mTup (mCons (mTup (mCons (mC (.int 20)) (mCons (mC (.int 20)) (mCons (mC (.int 20)) (mCons (mC (.int 20)) (mNil)))))) (mCons (mTup (mCons (mTup (mCons (mC (.int 1)) (mCons (mTup (mCons (mC (.int 1)) (mCons (mC (.int 1)) (mNil)))) (mNil)))) (mCons (mTup (mCons (mC (.int 2)) (mCons (mTup (mCons (mC (.int 1)) (mCons (mC (.int 1)) (mNil)))) (mNil)))) (mCons (mTup (mCons (mC (.int 4)) (mCons (mTup (mCons (mC (.int 1)) (mCons (mC (.int 1)) (mNil)))) (mNil)))) (mNil))))) (mNil))))
abbrev S23 : SM := sRet (mAndV (mOp2 (mLC (mRange1 (mC (.int 2))) [16] (gN 16) (tYesT) (mCall 3 F__law_asked (mCons (mVar 16) (mCons (mIx (mVar 24) (mC (.int 0))) (mCons (mIx (mVar 24) (mC (.int 1))) (mNil)))))) (mMul (mLst (mCons (mC (.str "!net")) (mNil))) (mC (.int 2))) (lift2 eqD)) (mOp2 (mLC (mRange1 (mC (.int 2))) [16] (gN 16) (tYesT) (mCall 3 F__law_asked (mCons (mVar 16) (mCons (mIx (mVar 25) (mC (.int 0))) (mCons (mIx (mVar 25) (mC (.int 1))) (mNil)))))) (mMul (mLst (mCons (mC (.str "!large")) (mNil))) (mC (.int 2))) (lift2 eqD)))
/-- the slots of the law -/
abbrev vE (x0 x2 x3 x5 x6 x7 x8 x9 x10 x11 x12 x13 x14 x15 x17 x18 x19 x20 x23 x24 x25 : Option W) : Den.Env := [x0, some (.r 1), x2, x3, none, x5, x6, x7, x8, x9, x10, x11, x12, x13, x14, x15, none, x17, x18, x19, x20, none, none, x23, x24, x25]
/-- a load that is drawn -/
structure Ld (q : Rat) : Prop where
  q0 : 0 < q
  q4 : q ≤ 4
  qd : q.den ≤ 4
section
variable {b n : Nat} {m : Mem} {x0 : Option W}
theorem ld_div {y : Int} {d : Nat} (h0 : 0 < y) (h1 : y ≤ 4) (d0 : 0 < d) (d1 : d ≤ 4) : Ld (Rat.divInt y (d : Int)) := by
  refine ⟨div_pos' h0 d0, ?_, Nat.le_trans (dv_le (dv_div d0) d0) d1⟩
  rw [div_rat]
  have hd := nat_pos d0
  refine le_of_mul hd ?_
  rw [Rat.div_mul_cancel (by grind)]
  have h2 : (y : Rat) ≤ ((4 : Int) : Rat) := by exact_mod_cast h1
  have h3 : ((1 : Nat) : Rat) ≤ (d : Rat) := by exact_mod_cast d0
  have e4 : ((4 : Int) : Rat) = 4 := rfl
  have e1 : ((1 : Nat) : Rat) = 1 := rfl
  grind
theorem lrate_ok (h : Dr b n m) : ∃ (q : Rat) (m' : Mem), F__law_rate [.r n, .d (.int 4)] m = .ok (.d (rq q)) m' ∧ Ld q ∧ Dr b n m' ∧ m'.length = m.length := by
  have h0 : startE 2 [.r n, .d (.int 4)] = [some (.r n), some (.d (.int 4))] := rfl
  obtain ⟨v1, m1, e1, _, _, d1, l1⟩ := drw_ok (k := 0) (rho := [some (.r n), some (.d (.int 4))]) h rfl
  obtain ⟨v2, m2, e2, _, _, d2, l2⟩ := drw_ok (k := 0) (rho := [some (.r n), some (.d (.int 4))]) d1 rfl
  have r1 := mod_rng v1 4 (by omega)
  have r2 := mod_rng v2 4 (by omega)
  obtain ⟨d, hd⟩ : ∃ d : Nat, 1 + v2 % 4 = (d : Int) := ⟨(1 + v2 % 4).toNat, by omega⟩
  have q := lowest_ok (n := 1 + v1 % 4) (d := d) (m := m2) (by omega) (le44 (show d < 2 ^ 3 by have : (2 : Nat) ^ 3 = 8 := rfl; omega) (by decide))
  have t1 := add_run (a := mC (.int 1)) (w := .d (.int 1)) const_run (mod_run e1 (c := mVar 1) (j := 4) (var_run rfl) (by omega)) (x := .d (.int (1 + v1 % 4))) rfl
  have t2 := add_run (a := mC (.int 1)) (w := .d (.int 1)) const_run (mod_run e2 (c := mVar 1) (j := 4) (var_run rfl) (by omega)) (x := .d (.int (d : Int))) (by rw [← hd]; rfl)
  refine ⟨Rat.divInt (1 + v1 % 4) (d : Int), m2, ?_, ld_div (by omega) (by omega) (by omega) (by omega), d2, by omega⟩
  unfold F__law_rate
  refine run_d (m' := m2) ?_ (by omega)
  rw [h0]
  unfold m__law_rate
  exact ret_run (call2_run t1 t2 q)
theorem draw1 {k : Nat} {c : Int} (hc : 0 < c) {rho : Den.Env} (h : Dr b n m) (hv : rho[k]? = some (some (.r n))) : ∃ (v : Nat) (m' : Mem), mAdd (mC (.int 1)) (mMod (mB (mCons (mCall 1 F__law_next (mCons (mVar k) (mNil))) (mNil)) (fD1 intD)) (mC (.int c))) rho m = .ok (.d (nD v)) m' ∧ 1 ≤ v ∧ (v : Int) ≤ c ∧ Dr b n m' ∧ m'.length = m.length := by
  obtain ⟨v1, m1, e1, _, _, d1, l1⟩ := drw_ok (k := k) (rho := rho) h hv
  have r1 := mod_rng v1 c hc
  have t1 := add_run (a := mC (.int 1)) (w := .d (.int 1)) const_run (mod_run e1 (c := mC (.int c)) (j := c) const_run hc) (x := .d (.int (1 + v1 % c))) rfl
  refine ⟨(1 + v1 % c).toNat, m1, ?_, by omega, by omega, d1, l1⟩
  rw [t1]
  show _ = Rs.ok (W.d (.int (((1 + v1 % c).toNat : Nat) : Int))) m1
  rw [show (((1 + v1 % c).toNat : Nat) : Int) = 1 + v1 % c by omega]
theorem st2 (h : Dr b 1 m) : ∃ (k : Nat) (m' : Mem), S2 (vE x0 none none none none none none none none none none none none none none none none none none none none) m = .nx (vE x0 (some (.d (nD k))) none none none none none none none none none none none none none none none none none none none) m' ∧ 1 ≤ k ∧ k ≤ 3 ∧ Dr b 1 m' ∧ m'.length = m.length := by
  obtain ⟨v, m', e, h0, h1, d, l⟩ := draw1 (k := 1) (c := 3) (by decide) (rho := vE x0 none none none none none none none none none none none none none none none none none none none none) h rfl
  exact ⟨v, m', set_run2 e rfl, h0, by omega, d, l⟩
theorem cap_k {k : Nat} (h0 : 1 ≤ k) (h1 : k ≤ 3) {rho : Den.Env} (hv : rho[2]? = some (some (.d (nD k)))) : ∃ c : Int, mIx (mLst (mCons (mC (.int 6)) (mCons (mC (.int 4)) (mCons (mC (.int 3)) (mNil))))) (mSub (mVar 2) (mC (.int 1))) rho m = .ok (.d (.int c)) m ∧ 0 < c ∧ c ≤ 6 := by
  have hk : k = 1 ∨ k = 2 ∨ k = 3 := by omega
  have s : ∀ j : Int, nD k = .int j → mSub (mVar 2) (mC (.int 1)) rho m = .ok (.d (.int (j - 1))) m := fun j hj => by
    rw [e_Sub, var_run hv, ev_bindV, hj]; rfl
  rcases hk with rfl | rfl | rfl
  · exact ⟨6, ix_run (w2 := .d (.int 0)) rfl (s 1 rfl) rfl, by decide, by decide⟩
  · exact ⟨4, ix_run (w2 := .d (.int 1)) rfl (s 2 rfl) rfl, by decide, by decide⟩
  · exact ⟨3, ix_run (w2 := .d (.int 2)) rfl (s 3 rfl) rfl, by decide, by decide⟩
theorem tup_of {rho : Den.Env} {a : EM W} {m' : Mem} {xs : List D} (h : a rho m = .ok (.n (.list xs)) m') : mB (mCons a (mNil)) fTup rho m = .ok (.d (.tuple xs)) m' := b_run (cons_run h nil_run) rfl
theorem st3 (h : Dr b 1 m) {k : Nat} (h0 : 1 ≤ k) (h1 : k ≤ 3) : ∃ (caps : List Nat) (m' : Mem), S3 (vE x0 (some (.d (nD k))) none none none none none none none none none none none none none none none none none none none) m = .nx (vE x0 (some (.d (nD k))) (some (.d (capsD caps))) none none none none none none none none none none none none none none none none none none) m' ∧ caps.length = k ∧ (∀ c ∈ caps, 1 ≤ c ∧ c ≤ 6) ∧ Dr b 1 m' ∧ m'.length = m.length := by
  generalize hE : vE x0 (some (.d (nD k))) none none none none none none none none none none none none none none none none none none none = rho
  have rg := range1_any (m := m) (rho := rho) (a := mVar 2) (n := k) (var_run (by rw [← hE]; rfl)) (by omega)
  obtain ⟨acc, m', e, d, l, cs, rfl, hl, hr⟩ := mLC_inv (it := mRange1 (mVar 2)) (vs := [4]) (g := gN 4) (t := tYesT) (a := mAdd (mC (.int 1)) (mMod (mB (mCons (mCall 1 F__law_next (mCons (mVar 1) (mNil))) (mNil)) (fD1 intD)) (mIx (mLst (mCons (mC (.int 6)) (mCons (mC (.int 4)) (mCons (mC (.int 3)) (mNil))))) (mSub (mVar 2) (mC (.int 1)))))) (rho := rho) (m := m) (m0 := m) (items := (List.range k).map fun j : Nat => PyData.int (j : Int)) (fun i m1 acc => Dr b 1 m1 ∧ m1.length = m.length ∧ ∃ cs : List Nat, acc = cs.map nD ∧ cs.length = i ∧ ∀ c ∈ cs, 1 ≤ c ∧ c ≤ 6) rg (by rw [List.length_map, List.length_range]; omega) ⟨h, rfl, [], rfl, rfl, fun c hc => nomatch hc⟩
    fun i hi m1 acc hI => by
      obtain ⟨d, l, cs, rfl, hl, hr⟩ := hI
      rw [List.length_map, List.length_range] at hi
      have hg : ((List.range k).map fun j : Nat => PyData.int (j : Int))[i] = nD i := by rw [List.getElem_map, List.getElem_range]; rfl
      rw [hg]
      generalize hE2 : (wipeE rho [4]).set 4 (some (W.d (nD i))) = rho2
      obtain ⟨v1, m2, e1, _, _, d1, l1⟩ := drw_ok (k := 1) (rho := rho2) d (by rw [← hE2, ← hE]; rfl)
      obtain ⟨c, e2, c0, c6⟩ := cap_k (m := m2) h0 h1 (rho := rho2) (by rw [← hE2, ← hE]; rfl)
      have r1 := mod_rng v1 c c0
      have t1 := add_run (a := mC (.int 1)) (w := .d (.int 1)) const_run (mod_run e1 e2 c0) (x := .d (.int (1 + v1 % c))) rfl
      refine ⟨rho2, true, m1, by rw [← hE2]; rfl, rfl, fun q => (nomatch q), fun _ => ⟨_, m2, .int (1 + v1 % c), m2, t1, rfl, d1, by omega, cs ++ [(1 + v1 % c).toNat], ?_, by rw [List.length_append, hl]; rfl, ?_⟩⟩
      · rw [List.map_append]
        show _ = cs.map nD ++ [.int (((1 + v1 % c).toNat : Nat) : Int)]
        rw [show (((1 + v1 % c).toNat : Nat) : Int) = 1 + v1 % c by omega]
      · intro y hy
        rcases List.mem_append.mp hy with hy | hy
        · exact hr y hy
        · rw [List.mem_singleton] at hy; omega
  rw [List.length_map, List.length_range] at hl
  refine ⟨cs, m', set_run2 (tup_of e) ?_, hl, hr, d, l⟩
  rw [← hE]; rfl
theorem range1_mm {a : EM W} {rho : Den.Env} {m m0 : Mem} {n : Nat} (h : a rho m = .ok (.d (nD n)) m0) (h1 : n ≤ 1000000) : mRange1 a rho m = .ok ((List.range n).map fun k : Nat => PyData.int (k : Int)) m0 := by
  unfold mRange1
  rw [cons_run h nil_run, ev_bind]
  have hm : midI (n : Int) = true := decide_eq_true (by omega)
  show (if midI (n : Int) = true then Rs.ok (rangeD 0 (n : Int)) m0 else .no) = .ok ((List.range n).map fun k : Nat => PyData.int (k : Int)) m0
  rw [hm, if_pos rfl]
  simp [rangeD]
theorem st4 (h : Dr b 1 m) {k : Nat} (h0 : 1 ≤ k) (h1 : k ≤ 3) {x3 : Option W} : ∃ (rs : List RQ) (m' : Mem), S4 (vE x0 (some (.d (nD k))) x3 none none none none none none none none none none none none none none none none none none) m = .nx (vE x0 (some (.d (nD k))) x3 (some (.d (routesD rs))) none none none none none none none none none none none none none none none none none) m' ∧ 1 ≤ rs.length ∧ rs.length ≤ 3 ∧ (∀ r ∈ rs, 0 < r.1 ∧ r.1 < 2 ^ k ∧ Ld r.2) ∧ Dr b 1 m' ∧ m'.length = m.length := by
  generalize hE : vE x0 (some (.d (nD k))) x3 none none none none none none none none none none none none none none none none none none = rho
  obtain ⟨n, m0, e0, n1, n3, d0, l0⟩ := draw1 (k := 1) (c := 3) (by decide) (rho := rho) h (by rw [← hE]; rfl)
  have rg := range1_mm e0 (by omega)
  have hn : (2 ^ k - 1 : Nat) = 1 ∨ (2 ^ k - 1 : Nat) = 3 ∨ (2 ^ k - 1 : Nat) = 7 := by
    have hk : k = 1 ∨ k = 2 ∨ k = 3 := by omega
    rcases hk with rfl | rfl | rfl <;> decide
  have hp : 2 ≤ 2 ^ k := by omega
  obtain ⟨acc, m', e, d, l, cs, rfl, hl, hr⟩ := mLC_inv (it := mRange1 (mAdd (mC (.int 1)) (mMod (mB (mCons (mCall 1 F__law_next (mCons (mVar 1) (mNil))) (mNil)) (fD1 intD)) (mC (.int 3))))) (vs := [6]) (g := gN 6) (t := tYesT) (a := mTup (mCons (mAdd (mC (.int 1)) (mMod (mB (mCons (mCall 1 F__law_next (mCons (mVar 1) (mNil))) (mNil)) (fD1 intD)) (mSub (mCall 1 F__law_power (mCons (mVar 2) (mNil))) (mC (.int 1))))) (mCons (mCall 2 F__law_rate (mCons (mVar 1) (mCons (mC (.int 4)) (mNil)))) (mNil)))) (rho := rho) (m := m) (m0 := m0) (items := (List.range n).map fun j : Nat => PyData.int (j : Int)) (fun i m1 acc => Dr b 1 m1 ∧ m1.length = m.length ∧ ∃ cs : List RQ, acc = cs.map rD ∧ cs.length = i ∧ ∀ r ∈ cs, 0 < r.1 ∧ r.1 < 2 ^ k ∧ Ld r.2) rg (by rw [List.length_map, List.length_range]; omega) ⟨d0, l0, [], rfl, rfl, fun c hc => nomatch hc⟩
    fun i hi m1 acc hI => by
      obtain ⟨d, l, cs, rfl, hl, hr⟩ := hI
      rw [List.length_map, List.length_range] at hi
      have hg : ((List.range n).map fun j : Nat => PyData.int (j : Int))[i] = nD i := by rw [List.getElem_map, List.getElem_range]; rfl
      rw [hg]
      generalize hE2 : (wipeE rho [6]).set 6 (some (W.d (nD i))) = rho2
      obtain ⟨v1, m2, e1, _, _, d1, l1⟩ := drw_ok (k := 1) (rho := rho2) d (by rw [← hE2, ← hE]; rfl)
      have e2 : mSub (mCall 1 F__law_power (mCons (mVar 2) (mNil))) (mC (.int 1)) rho2 m2 = .ok (.d (.int ((2 ^ k - 1 : Nat) : Int))) m2 := by
        rw [e_Sub, call_run (n := 1) (fm := F__law_power) (cons_run (a := mVar 2) (w := .d (nD k)) (var_run (by rw [← hE2, ← hE]; rfl)) nil_run) rfl (power_ok (m := m2) (by omega)), ev_bindV]
        show Rs.ok (W.d (.int (((2 ^ k : Nat) : Int) - 1))) m2 = _
        rw [show ((2 ^ k : Nat) : Int) - 1 = ((2 ^ k - 1 : Nat) : Int) by omega]
      have r1 := mod_rng v1 ((2 ^ k - 1 : Nat) : Int) (by omega)
      have t1 := add_run (a := mC (.int 1)) (w := .d (.int 1)) const_run (mod_run e1 e2 (by omega)) (x := .d (.int (1 + v1 % ((2 ^ k - 1 : Nat) : Int)))) rfl
      obtain ⟨q, m3, e3, hq, d3, l3⟩ := lrate_ok d1
      have t2 := call2_run (fm := F__law_rate) (a := mVar 1) (b := mC (.int 4)) (rho := rho2) (m := m2) (w1 := .r 1) (var_run (by rw [← hE2, ← hE]; rfl)) const_run e3
      have hrD : PyData.tuple [.int (1 + v1 % ((2 ^ k - 1 : Nat) : Int)), rq q] = rD ((1 + v1 % ((2 ^ k - 1 : Nat) : Int)).toNat, q) := by
        show _ = PyData.tuple [.int (((1 + v1 % ((2 ^ k - 1 : Nat) : Int)).toNat : Nat) : Int), rq q]
        rw [show (((1 + v1 % ((2 ^ k - 1 : Nat) : Int)).toNat : Nat) : Int) = 1 + v1 % ((2 ^ k - 1 : Nat) : Int) by omega]
      have t3 := tup_run (cons_run t1 (cons_run t2 nil_run)) (xs := [.int (1 + v1 % ((2 ^ k - 1 : Nat) : Int)), rq q]) rfl rfl
      refine ⟨rho2, true, m1, by rw [← hE2]; rfl, rfl, fun q => (nomatch q), fun _ => ⟨_, m3, .tuple [.int (1 + v1 % ((2 ^ k - 1 : Nat) : Int)), rq q], m3, t3, rfl, d3, by omega, cs ++ [((1 + v1 % ((2 ^ k - 1 : Nat) : Int)).toNat, q)], ?_, by rw [List.length_append, hl]; rfl, ?_⟩⟩
      · rw [List.map_append, hrD]; rfl
      · intro y hy
        rcases List.mem_append.mp hy with hy | hy
        · exact hr y hy
        · rw [List.mem_singleton] at hy
          subst hy
          exact ⟨by show 0 < (1 + v1 % ((2 ^ k - 1 : Nat) : Int)).toNat; omega, by show (1 + v1 % ((2 ^ k - 1 : Nat) : Int)).toNat < 2 ^ k; omega, hq⟩
  rw [List.length_map, List.length_range] at hl
  refine ⟨cs, m', set_run2 (tup_of e) ?_, by omega, by omega, hr, d, l⟩
  rw [← hE]; rfl
end
/-- what is drawn is a net -/
theorem net_of {caps : List Nat} {rs : List RQ} {k : Nat} (k0 : 1 ≤ k) (k3 : k ≤ 4) (hk : caps.length = k) (hc : ∀ c ∈ caps, 1 ≤ c ∧ c ≤ 6) (r0 : 1 ≤ rs.length) (r3 : rs.length ≤ 3) (hr : ∀ r ∈ rs, 0 < r.1 ∧ r.1 < 2 ^ k ∧ Ld r.2) : Net caps rs 6 :=
  ⟨by omega, by omega, hc, by decide, r0, r3, fun r h => by rw [hk]; exact ⟨(hr r h).1, (hr r h).2.1⟩, fun r h => (hr r h).2.2.q0, fun r h => by have := (hr r h).2.2.q4; grind, fun r h => by have := (hr r h).2.2.qd; have e : (2 : Nat) ^ 5 = 32 := rfl; omega⟩
theorem max_of {caps : List Nat} (h0 : 1 ≤ caps.length) (hc : ∀ c ∈ caps, 1 ≤ c ∧ c ≤ 6) : ∃ B, maxBD (capsD caps) = some (nD B) ∧ B ≤ 6 ∧ ∀ c ∈ caps, c ≤ B := by
  have hne : caps.map (fun c : Nat => (c : Int)) ≠ [] := by
    intro h
    rw [List.map_eq_nil_iff] at h
    rw [h] at h0; simp at h0
  obtain ⟨a, b⟩ := maxI_ok hne
  obtain ⟨c, hc1, hc2⟩ := List.mem_map.mp a
  refine ⟨c, ?_, (hc c hc1).2, fun d hd => ?_⟩
  · have e : intsOf (caps.map nD) = some (caps.map fun c : Nat => (c : Int)) := by
      have := intsOf_map (caps.map fun c : Nat => (c : Int))
      rw [List.map_map] at this
      exact this
    unfold maxBD
    show (match intsOf (caps.map nD) with | some (n :: ns) => some (PyData.int (maxI (n :: ns))) | _ => none) = _
    rw [e]
    generalize caps.map (fun c : Nat => (c : Int)) = L at *
    cases L with
    | nil => exact absurd rfl hne
    | cons n ns =>
      show some (PyData.int (maxI (n :: ns))) = some (PyData.int (c : Int))
      rw [hc2]
  · have := b (d : Int) (List.mem_map.mpr ⟨d, hd, rfl⟩)
    rw [← hc2] at this
    omega
theorem st5 {caps : List Nat} {rs : List RQ} {m : Mem} {x0 x2 : Option W} (N : Net caps rs 6) : S5 (vE x0 x2 (some (.d (capsD caps))) (some (.d (routesD rs))) none none none none none none none none none none none none none none none none none) m = .nx (vE x0 x2 (some (.d (capsD caps))) (some (.d (routesD rs))) none (some (.d (ssD (StQ caps rs)))) none none none none none none none none none none none none none none none) m := by
  obtain ⟨B, hm, hB, hc⟩ := max_of N.c0 N.cr
  exact set_run2 (call2_run (w1 := .d (capsD caps)) (w2 := .d (routesD rs)) rfl rfl (lstates_ok N hm hB hc)) rfl
end Law
set_option exponentiation.threshold 5000
namespace Law
open PySem PySem.Spec PyProof.Rows L2 Den
/-! sorted lists of tuples of ints -/
def lexI : List Int → List Int → Bool
  | [], [] => false
  | [], _ :: _ => true
  | _ :: _, [] => false
  | x :: xs, y :: ys => decide (x < y) || (!decide (y < x) && lexI xs ys)
theorem toks_lex : ∀ l k : List Int, PyProof.Rows.lexLt itemOrd (PySem.W.keyToksAll (l.map PyData.int)) (PySem.W.keyToksAll (k.map PyData.int)) = lexI l k
  | [], [] => rfl
  | [], y :: ys => by
    rw [List.map_cons, List.map_nil]
    simp only [PySem.W.keyToksAll]
    rw [PyProof.Rows.lex_cons]; rfl
  | x :: xs, [] => by
    rw [List.map_cons, List.map_nil]
    simp only [PySem.W.keyToksAll]
    rw [PyProof.Rows.lex_cons]; rfl
  | x :: xs, y :: ys => by
    rw [List.map_cons, List.map_cons]
    simp only [PySem.W.keyToks, PySem.W.keyToksAll, List.cons_append, List.nil_append]
    rw [PyProof.Rows.lex_cons, PyProof.Rows.lex_cons, toks_lex xs ys]
    show (decide ((1 : Int) < 1) || (!decide ((1 : Int) < 1) && (decide (x < y) || (!decide (y < x) && _)))) = _
    simp [lexI]
theorem dataLt_T (l k : List Int) : PySem.W.dataLt (.tuple (l.map PyData.int)) (.tuple (k.map PyData.int)) = lexI l k := by
  unfold PySem.W.dataLt
  simp only [PySem.W.keyToks]
  exact toks_lex l k
theorem dataLe_T (l k : List Int) : PySem.W.dataLe false id (PyData.tuple (l.map PyData.int)) (PyData.tuple (k.map PyData.int)) = !lexI k l := by
  show (!PySem.W.dataLt (.tuple (k.map PyData.int)) (.tuple (l.map PyData.int))) = _
  rw [dataLt_T]
theorem lexI_asymm : ∀ l k : List Int, lexI l k = true → lexI k l = false
  | [], [], h => nomatch h
  | [], y :: ys, _ => rfl
  | x :: xs, [], h => nomatch h
  | x :: xs, y :: ys, h => by
    simp only [lexI, Bool.or_eq_true, Bool.and_eq_true, Bool.not_eq_true', decide_eq_true_eq, decide_eq_false_iff_not] at h
    simp only [lexI, Bool.or_eq_false_iff, Bool.and_eq_false_iff, Bool.not_eq_false', decide_eq_true_eq, decide_eq_false_iff_not]
    rcases h with h | ⟨h1, h2⟩
    · exact ⟨by omega, .inl h⟩
    · exact ⟨h1, .inr (lexI_asymm xs ys h2)⟩
theorem alike_T : ∀ l k : List Int, PySem.W.alikeAll (l.map PyData.int) (k.map PyData.int) = true
  | [], k => by simp [PySem.W.alikeAll]
  | x :: xs, [] => by simp [PySem.W.alikeAll]
  | x :: xs, y :: ys => by
    rw [List.map_cons, List.map_cons]
    simp only [PySem.W.alikeAll, PySem.W.alike, Bool.true_and]
    exact alike_T xs ys
theorem hasDict_ints : ∀ l : List Int, PyData.hasDictAll (l.map PyData.int) = false
  | [] => by simp [PyData.hasDictAll]
  | x :: l => by
    rw [List.map_cons]
    simp only [PyData.hasDictAll, PyData.hasDict, Bool.false_or]
    exact hasDict_ints l
theorem sortOk_T {L : List (List Int)} (h : ∀ l ∈ L, l ≠ []) : (alikeAllB (L.map fun l => PyData.tuple (l.map PyData.int)) && ((L.map fun l => PyData.tuple (l.map PyData.int)).all tupConsB || (L.map fun l => PyData.tuple (l.map PyData.int)).all plainB) && (L.map fun l => PyData.tuple (l.map PyData.int)).all (fun d => decide (d.depth ≤ 60) && !d.hasDict)) = true := by
  have c1 : alikeAllB (L.map fun l => PyData.tuple (l.map PyData.int)) = true := by
    unfold alikeAllB
    rw [List.all_eq_true]
    intro x hx
    rw [List.all_eq_true]
    intro y hy
    obtain ⟨e, _, rfl⟩ := List.mem_map.mp hx
    obtain ⟨f, _, rfl⟩ := List.mem_map.mp hy
    simp only [PySem.W.alike]
    exact alike_T e f
  have c2 : (L.map fun l => PyData.tuple (l.map PyData.int)).all tupConsB = true := by
    rw [List.all_eq_true]
    intro x hx
    obtain ⟨e, he, rfl⟩ := List.mem_map.mp hx
    cases e with
    | nil => exact absurd rfl (h _ he)
    | cons a r => rfl
  have c3 : (L.map fun l => PyData.tuple (l.map PyData.int)).all (fun d => decide (d.depth ≤ 60) && !d.hasDict) = true := by
    rw [List.all_eq_true]
    intro x hx
    obtain ⟨e, _, rfl⟩ := List.mem_map.mp hx
    have hd := depthAll_map e PyData.int 1 fun x _ => by simp [PyData.depth]
    rw [Bool.and_eq_true]
    refine ⟨decide_eq_true (by simp only [PyData.depth]; omega), ?_⟩
    simp only [PyData.hasDict]
    rw [hasDict_ints]; rfl
  rw [c1, c2, c3]; rfl
/-- what grows already stays as it is -/
theorem sortD_grow {L : List (List Int)} (h : ∀ l ∈ L, l ≠ []) (hp : L.Pairwise fun a b => lexI a b = true) : sortD (.list (L.map fun l => PyData.tuple (l.map PyData.int))) = some (L.map fun l => PyData.tuple (l.map PyData.int)) := by
  unfold sortD
  dsimp only
  rw [if_pos (sortOk_T h), List.mergeSort_of_pairwise]
  rw [List.pairwise_map]
  exact hp.imp fun {a b} hab => by
    rw [dataLe_T, lexI_asymm _ _ hab]; rfl
end Law
set_option exponentiation.threshold 5000
namespace Law
open PySem PySem.Spec PyProof.Rows L2 Den
/-! the table of the weights -/
def ci (s : List Nat) : List Int := s.map fun n : Nat => (n : Int)
theorem stD_ci (s : List Nat) : stD s = .tuple ((ci s).map PyData.int) := by
  unfold stD ci
  rw [List.map_map]; rfl
theorem lexI_app : ∀ (a b x y : List Int), a.length = b.length → lexI a b = true → lexI (a ++ x) (b ++ y) = true
  | [], [], x, y, _, h => nomatch h
  | [], b :: bs, x, y, h, _ => by simp at h
  | a :: as, [], x, y, h, _ => by simp at h
  | a :: as, b :: bs, x, y, h, h2 => by
    simp only [lexI, List.cons_append, Bool.or_eq_true, Bool.and_eq_true] at h2 ⊢
    rcases h2 with h2 | ⟨h2, h3⟩
    · exact .inl h2
    · exact .inr ⟨h2, lexI_app as bs x y (by simpa using h) h3⟩
theorem lexI_same : ∀ (a x y : List Int), lexI (a ++ x) (a ++ y) = lexI x y
  | [], x, y => rfl
  | a :: as, x, y => by
    simp only [lexI, List.cons_append, lexI_same as x y]
    simp
section
variable {caps : List Nat} {rs : List RQ} {B : Nat}
theorem states_grow : ∀ k, (statesQ caps rs B k).Pairwise fun s t => lexI (ci s) (ci t) = true
  | 0 => by simp [statesQ]
  | k + 1 => by
    show ((statesQ caps rs B k).flatMap (nextQ caps rs B)).Pairwise _
    rw [List.pairwise_flatMap]
    constructor
    · intro s _
      unfold nextQ
      rw [List.pairwise_map]
      refine (List.Pairwise.filter _ List.pairwise_lt_range).imp fun {a b} h => ?_
      unfold ci
      rw [List.map_append, List.map_append, lexI_same]
      show (decide ((a : Int) < (b : Int)) || _) = true
      rw [decide_eq_true (by omega)]; rfl
    · refine (states_grow k).imp_of_mem fun {s t} hs ht h x hx y hy => ?_
      unfold nextQ at hx hy
      obtain ⟨i, _, rfl⟩ := List.mem_map.mp hx
      obtain ⟨j, _, rfl⟩ := List.mem_map.mp hy
      unfold ci at h ⊢
      rw [List.map_append, List.map_append]
      exact lexI_app _ _ _ _ (by rw [List.length_map, List.length_map, states_len hs, states_len ht]) h
theorem states_nodup (k : Nat) : (statesQ caps rs B k).Nodup := (states_grow (caps := caps) (rs := rs) (B := B) k).imp fun {a b} h e => by
  subst e
  have := lexI_asymm _ _ h
  rw [h] at this; cases this
theorem sorted_states (h1 : 1 ≤ rs.length) : sortD (ssD (StQ caps rs)) = some ((StQ caps rs).map stD) := by
  have e : (StQ caps rs).map stD = ((StQ caps rs).map ci).map fun l => PyData.tuple (l.map PyData.int) := by
    rw [List.map_map]
    exact List.map_congr_left fun s _ => stD_ci s
  unfold ssD
  rw [e]
  refine sortD_grow (fun l hl => ?_) ?_
  · obtain ⟨s, hs, rfl⟩ := List.mem_map.mp hl
    intro q
    have := St_len hs
    have : (ci s).length = 0 := by rw [q]; rfl
    unfold ci at this
    rw [List.length_map] at this
    omega
  · rw [List.pairwise_map]
    exact states_grow _
/-! keys -/
def kS (st : List Nat) : List Key := st.map fun n : Nat => .inl (n : Int)
theorem key_st (st : List Nat) : keyOf (stD st) = some (.inr (kS st)) := by
  have h := keyOf_tup (kS st)
  unfold kS at h ⊢
  rw [List.map_map] at h
  exact h
theorem kS_inj : ∀ {s t : List Nat}, kS s = kS t → s = t
  | [], [], _ => rfl
  | [], t :: ts, h => by cases h
  | s :: ss, [], h => by cases h
  | s :: ss, t :: ts, h => by
    unfold kS at h
    rw [List.map_cons, List.map_cons] at h
    injection h with h1 h2
    injection h1 with h1
    rw [kS_inj (s := ss) (t := ts) h2, show s = t by omega]
theorem has_st (st st' : List Nat) (v : D) : hasK (.inr (kS st)) (stD st', v) = decide (st' = st) := by
  unfold hasK
  rw [key_st]
  by_cases h : st' = st
  · subst h; simp
  · rw [decide_eq_false h, decide_eq_false]
    intro q
    injection q with q
    injection q with q
    exact h (kS_inj q)
abbrev kvsD (rs : List RQ) (ss : List (List Nat)) : List (D × D) := ss.map fun st => (stD st, rq (wQ rs st))
theorem ok_kvs (ss : List (List Nat)) (k : List Key) : okKey (kvsD rs ss) (.inr k) = true := by
  cases ss with
  | nil => rfl
  | cons s ss =>
    show (match keyOf (stD s) with | some (.inr _) => true | _ => false) = true
    rw [key_st]
theorem val_kvs (st : List Nat) : ∀ ss : List (List Nat), valD (kvsD rs ss) (.inr (kS st)) = if st ∈ ss then some (rq (wQ rs st)) else none
  | [] => rfl
  | s :: ss => by
    show valD ((stD s, rq (wQ rs s)) :: kvsD rs ss) _ = _
    by_cases h : s = st
    · rw [valD_pos (by rw [has_st]; exact decide_eq_true h), if_pos (by rw [h]; exact List.mem_cons_self), h]
    · rw [valD_neg (by rw [has_st]; exact decide_eq_false h), val_kvs st ss]
      by_cases h2 : st ∈ ss
      · rw [if_pos h2, if_pos (List.mem_cons_of_mem _ h2)]
      · rw [if_neg h2, if_neg]
        intro q
        rcases List.mem_cons.mp q with q | q
        · exact h q.symm
        · exact h2 q
theorem put_kvs {ss : List (List Nat)} {st : List Nat} (h : st ∉ ss) : putDt (kvsD rs ss) (.inr (kS st)) (stD st) (rq (wQ rs st)) = kvsD rs (ss ++ [st]) := by
  unfold putDt
  have ha : (kvsD rs ss).any (hasK (.inr (kS st))) = false := by
    rw [List.any_eq_false]
    intro p hp
    obtain ⟨s, hs, rfl⟩ := List.mem_map.mp hp
    rw [has_st, decide_eq_true_eq]
    rintro rfl
    exact h hs
  rw [ha, if_neg (by simp)]
  show _ = (ss ++ [st]).map _
  rw [List.map_append]; rfl
end
/-! the weights of the law -/
theorem wQ_snoc : ∀ (rs : List RQ) (st : List Nat) (r : RQ) (n : Nat), rs.length = st.length → wQ (rs ++ [r]) (st ++ [n]) = wQ rs st * ex r.2 n
  | [], [], r, n, _ => by show ex r.2 n * 1 = 1 * ex r.2 n; grind
  | [], s :: st, r, n, h => by simp at h
  | x :: rs, [], r, n, h => by simp at h
  | x :: rs, s :: st, r, n, h => by
    have ih := wQ_snoc rs st r n (by simpa using h)
    show ex x.2 s * wQ (rs ++ [r]) (st ++ [n]) = ex x.2 s * wQ rs st * ex r.2 n
    rw [ih]; grind
theorem sz_w {rs : List RQ} {st : List Nat} (hr : ∀ r ∈ rs, 0 < r.2 ∧ r.2 ≤ 8 ∧ r.2.den < 2 ^ 5) (hn : ∀ n ∈ st, n ≤ 6) (hl : rs.length ≤ 4) : sz 233 (wQ rs st) := by
  obtain ⟨a, b⟩ := MQ_lt (rs := rs) fun r h => (hr r h).2.2
  obtain ⟨c, d⟩ := w_rng (rs := rs) (st := st) (fun r h => (hr r h).1) (fun r h => (hr r h).2.1) hn
  have h1 : MQ rs < 2 ^ 161 := Nat.lt_of_le_of_lt b (Nat.lt_of_le_of_lt (Nat.pow_le_pow_right (by decide) (show 40 * rs.length ≤ 160 by omega)) (by decide))
  have h2 : 2 ^ (18 * rs.length) ≤ 2 ^ 72 := Nat.pow_le_pow_right (by decide) (by omega)
  have h3 : ((2 ^ (18 * rs.length) : Nat) : Rat) ≤ ((2 ^ 72 : Nat) : Rat) := by exact_mod_cast h2
  have h4 := nat_nn (2 ^ 72)
  exact sz_dv (b := 161) (e := 72) (dv_w hn) a h1 (by grind) (by grind)
abbrev lwI : SM := sSeq (sSet 10 (mCall 2 F__law_times (mCons (mVar 10) (mCons (mCall 2 F__law_by (mCons (mIx (mIx (mVar 5) (mVar 6)) (mC (.int 1))) (mCons (mTup (mCons (mAdd (mVar 11) (mC (.int 1))) (mCons (mC (.int 1)) (mNil)))) (mNil)))) (mNil))))) (sSkip)
abbrev lwM : SM := sSeq (sFor (mRange1 (mIx (mVar 9) (mVar 6))) (gN 11) lwI) (sSkip)
abbrev lwO : SM := sSeq (sSet 10 (mTup (mCons (mC (.int 1)) (mCons (mC (.int 1)) (mNil))))) (sSeq (sFor (mRange1 (mB (mCons (mVar 5) (mNil)) (fD1 lenD))) (gN 6) lwM) (sSeq (sDPutM (mVar 8) (mVar 9) (mVar 10)) (sSkip)))
section
variable {caps : List Nat} {rs : List RQ} {m : Mem} {x0 x2 : Option W}
/-- the slots while the weights are made -/
abbrev wE (x0 x2 : Option W) (caps : List Nat) (rs : List RQ) (h : Nat) (x6 x9 x10 x11 : Option W) : Den.Env := vE x0 x2 (some (.d (capsD caps))) (some (.d (routesD rs))) x6 (some (.d (ssD (StQ caps rs)))) (some (.r h)) x9 x10 x11 none none none none none none none none none none none
theorem lwI_run {h i j : Nat} {st : List Nat} {acc : Rat} (N : Net caps rs 6) (hi : i < rs.length) (hj : j < 6) {c : Nat} (ha : sz c acc) (hc : c ≤ 4000) : lwI (wE x0 x2 caps rs h (some (.d (nD i))) (some (.d (stD st))) (some (.d (rq acc))) (some (.d (nD j)))) m = .nx (wE x0 x2 caps rs h (some (.d (nD i))) (some (.d (stD st))) (some (.d (rq (acc * ((rs.getD i (0, 0)).2 / ((j + 1 : Nat) : Rat)))))) (some (.d (nD j)))) m := by
  have hr : rs.getD i (0, 0) ∈ rs := by
    have e : rs.getD i (0, 0) = rs[i] := by simp [hi]
    rw [e]; exact List.getElem_mem hi
  obtain ⟨h0, h1, hd⟩ := N.rq3 _ hr
  generalize hq : (rs.getD i (0, 0)).2 = q at h0 h1 hd ⊢
  have hn : ((j + 1 : Nat) : Rat) ≠ 0 := by have := nat_pos1 j; grind
  have z2 : sz 3 ((j + 1 : Nat) : Rat) := sz_nat (by have : (2 : Nat) ^ 3 = 8 := rfl; omega) (by decide)
  have e1 := lby_ok (m := m) (sz_q h0 h1 hd) z2 hn (by omega)
  have e2 := ltimes_ok (m := m) ha (sz_div (sz_q h0 h1 hd) z2 hn) (by omega)
  generalize hE : wE x0 x2 caps rs h (some (.d (nD i))) (some (.d (stD st))) (some (.d (rq acc))) (some (.d (nD j))) = rho
  have a1 := ix_tup (m := m) (rho := rho) (a := mVar 5) (b := mVar 6) (xs := rs.map rD) (var_run (by rw [← hE]; rfl)) (var_run (by rw [← hE]; rfl)) (at_rD hi)
  have a2 := ix_tup (b := mC (.int 1)) (y := rq q) a1 const_run (by rw [← hq]; rfl)
  have t1 : mTup (mCons (mAdd (mVar 11) (mC (.int 1))) (mCons (mC (.int 1)) (mNil))) rho m = .ok (.d (rq ((j + 1 : Nat) : Rat))) m := by rw [← hE]; rfl
  have v10 : mVar 10 rho m = .ok (.d (rq acc)) m := by rw [← hE]; rfl
  have t2 := set_run2 (i := 10) (call2_run v10 (call2_run a2 t1 e1) e2) (rho' := wE x0 x2 caps rs h (some (.d (nD i))) (some (.d (stD st))) (some (.d (rq (acc * (q / ((j + 1 : Nat) : Rat)))))) (some (.d (nD j)))) (by rw [← hE]; rfl)
  unfold lwI
  rw [seq_run t2]; rfl
theorem lw_in {h i : Nat} {st : List Nat} {acc : Rat} (N : Net caps rs 6) (hi : i < rs.length) {c : Nat} (hc : c ≤ 4000) (hs : ∀ k, k ≤ 6 → sz c (acc * ex (rs.getD i (0, 0)).2 k)) : ∀ (d j : Nat) (x11 : Option W), j + d ≤ 6 → ∃ y11, forL (gN 11) lwI ((List.range' j d).map fun k : Nat => PyData.int (k : Int)) (wE x0 x2 caps rs h (some (.d (nD i))) (some (.d (stD st))) (some (.d (rq (acc * ex (rs.getD i (0, 0)).2 j)))) x11) m = .nx (wE x0 x2 caps rs h (some (.d (nD i))) (some (.d (stD st))) (some (.d (rq (acc * ex (rs.getD i (0, 0)).2 (j + d))))) y11) m
  | 0, j, x11, _ => ⟨x11, rfl⟩
  | d + 1, j, x11, hj => by
    obtain ⟨y11, e⟩ := lw_in (h := h) (st := st) N hi hc hs d (j + 1) (some (.d (nD j))) (by omega)
    refine ⟨y11, ?_⟩
    have t := lwI_run (m := m) (x0 := x0) (x2 := x2) (h := h) (st := st) N hi (j := j) (by omega) (hs j (by omega)) hc
    have t' := forN_step (i := 11) (x := nD j) (xs := (List.range' (j + 1) d).map fun k : Nat => PyData.int (k : Int)) (rho := wE x0 x2 caps rs h (some (.d (nD i))) (some (.d (stD st))) (some (.d (rq (acc * ex (rs.getD i (0, 0)).2 j)))) x11) t
    have e0 : acc * ex (rs.getD i (0, 0)).2 (j + 1) = acc * ex (rs.getD i (0, 0)).2 j * ((rs.getD i (0, 0)).2 / ((j + 1 : Nat) : Rat)) := by show acc * (ex (rs.getD i (0, 0)).2 j * ((rs.getD i (0, 0)).2 / ((j + 1 : Nat) : Rat))) = _; grind
    rw [List.range'_succ, List.map_cons]
    rw [e0] at e
    rw [show j + (d + 1) = j + 1 + d by omega, ← e]
    exact t'
def wI (rs : List RQ) (st : List Nat) (k : Nat) : Rat := wQ (rs.take k) (st.take k)
theorem wI_step {st : List Nat} {i n : Nat} (hi : i < rs.length) (hl : st.length = rs.length) : wI rs st i * ex (rs.getD i (0, 0)).2 n = wQ (rs.take i ++ [rs.getD i (0, 0)]) (st.take i ++ [n]) := by
  rw [wQ_snoc _ _ _ _ (by rw [List.length_take, List.length_take]; omega)]; rfl
theorem wI_succ {st : List Nat} {i : Nat} (hi : i < rs.length) (hl : st.length = rs.length) : wI rs st i * ex (rs.getD i (0, 0)).2 (st.getD i 0) = wI rs st (i + 1) := by
  rw [wI_step hi hl]
  have e1 : rs.getD i (0, 0) = rs[i] := by simp [hi]
  have e2 : st.getD i 0 = st[i]'(by omega) := by simp [show i < st.length by omega]
  rw [e1, e2]
  unfold wI
  rw [List.take_succ_eq_append_getElem hi, List.take_succ_eq_append_getElem (show i < st.length by omega)]
theorem lwM_run {h i : Nat} {st : List Nat} (N : Net caps rs 6) (hst : st ∈ StQ caps rs) (hi : i < rs.length) {x11 : Option W} : ∃ y11, lwM (wE x0 x2 caps rs h (some (.d (nD i))) (some (.d (stD st))) (some (.d (rq (wI rs st i)))) x11) m = .nx (wE x0 x2 caps rs h (some (.d (nD i))) (some (.d (stD st))) (some (.d (rq (wI rs st (i + 1))))) y11) m := by
  have hl := St_len hst
  have r1 := N.r1
  have hn : st.getD i 0 ≤ 6 := by
    have e2 : st.getD i 0 = st[i]'(by omega) := by simp [show i < st.length by omega]
    rw [e2]; exact St_le hst _ (List.getElem_mem _)
  have hs : ∀ k, k ≤ 6 → sz 233 (wI rs st i * ex (rs.getD i (0, 0)).2 k) := fun k hk => by
    rw [wI_step hi hl]
    refine sz_w (fun r hr => ?_) (fun n hn => ?_) (by rw [List.length_append, List.length_take, List.length_singleton]; omega)
    · rcases List.mem_append.mp hr with hr | hr
      · exact N.rq3 r (List.mem_of_mem_take hr)
      · rw [List.mem_singleton] at hr
        subst hr
        have e1 : rs.getD i (0, 0) = rs[i] := by simp [hi]
        rw [e1]; exact N.rq3 _ (List.getElem_mem hi)
    · rcases List.mem_append.mp hn with hn | hn
      · exact St_le hst n (List.mem_of_mem_take hn)
      · rw [List.mem_singleton] at hn; omega
  obtain ⟨y11, e⟩ := lw_in (m := m) (x0 := x0) (x2 := x2) (h := h) (st := st) N hi (by decide) hs (st.getD i 0) 0 x11 (by omega)
  have e0 : wI rs st i * ex (rs.getD i (0, 0)).2 0 = wI rs st i := by show wI rs st i * 1 = _; grind
  rw [e0, Nat.zero_add, ← List.range_eq_range', wI_succ hi hl] at e
  refine ⟨y11, ?_⟩
  have rg := range1_any (m := m) (rho := wE x0 x2 caps rs h (some (.d (nD i))) (some (.d (stD st))) (some (.d (rq (wI rs st i)))) x11) (a := mIx (mVar 9) (mVar 6)) (n := st.getD i 0) (ix_tup (xs := st.map nD) (var_run rfl) (var_run rfl) (at_nD (by omega))) (by omega)
  unfold lwM
  rw [seq_run (for_run rg e)]; rfl
theorem lw_mid {h : Nat} {st : List Nat} (N : Net caps rs 6) (hst : st ∈ StQ caps rs) : ∀ (d i : Nat) (x6 x11 : Option W), i + d = rs.length → ∃ y6 y11, forL (gN 6) lwM ((List.range' i d).map fun k : Nat => PyData.int (k : Int)) (wE x0 x2 caps rs h x6 (some (.d (stD st))) (some (.d (rq (wI rs st i)))) x11) m = .nx (wE x0 x2 caps rs h y6 (some (.d (stD st))) (some (.d (rq (wQ rs st)))) y11) m
  | 0, i, x6, x11, hi => ⟨x6, x11, by
    have : wI rs st i = wQ rs st := by
      unfold wI
      rw [List.take_of_length_le (by omega), List.take_of_length_le (by rw [St_len hst]; omega)]
    rw [this]; rfl⟩
  | d + 1, i, x6, x11, hi => by
    obtain ⟨z11, t⟩ := lwM_run (m := m) (x0 := x0) (x2 := x2) (h := h) N hst (show i < rs.length by omega) (x11 := x11)
    obtain ⟨y6, y11, e⟩ := lw_mid (h := h) N hst d (i + 1) (some (.d (nD i))) z11 (by omega)
    refine ⟨y6, y11, ?_⟩
    have t' := forN_step (i := 6) (x := nD i) (xs := (List.range' (i + 1) d).map fun k : Nat => PyData.int (k : Int)) (rho := wE x0 x2 caps rs h x6 (some (.d (stD st))) (some (.d (rq (wI rs st i)))) x11) t
    rw [List.range'_succ, List.map_cons, ← e]
    exact t'
theorem dput_run {i j k h : Nat} {kvs : List (D × D)} {xk v : D} {K : K2} {rho : Den.Env} (h1 : rho[i]? = some (some (.r h))) (h2 : rho[j]? = some (some (.d xk))) (h3 : rho[k]? = some (some (.d v))) (hm : m[h]? = some (some (.dict kvs))) (hk : keyOf xk = some K) (ok : okKey kvs K = true) (hl : kvs.length + 1 ≤ 1000000) : sDPutM (mVar i) (mVar j) (mVar k) rho m = .nx rho (m.set h (some (.dict (putDt kvs K xk v)))) := by
  unfold sDPutM
  rw [var_run h3, ev_thenV, var_run h1, ev_thenV, var_run h2, ev_thenV, val_d, val_d, val_r]
  show (match m[h]?, keyOf xk with
    | some (some (.dict kvs)), some k => if (okKey kvs k && small (kvs.length + 1)) = true then Out.nx rho (m.set h (some (.dict (putDt kvs k xk v)))) else .no
    | _, _ => .no) = _
  rw [hm, hk]
  show (if (okKey kvs K && small (kvs.length + 1)) = true then Out.nx rho (m.set h (some (.dict (putDt kvs K xk v)))) else .no) = _
  rw [ok, small_le hl]; rfl
theorem lwO_run {st : List Nat} {ss : List (List Nat)} (N : Net caps rs 6) (hst : st ∈ StQ caps rs) (hn : st ∉ ss) (hl : ss.length ≤ 1000) {x6 x10 x11 : Option W} : ∃ y6 y10 y11, lwO (wE x0 x2 caps rs m.length x6 (some (.d (stD st))) x10 x11) (m ++ [some (.dict (kvsD rs ss))]) = .nx (wE x0 x2 caps rs m.length y6 (some (.d (stD st))) y10 y11) (m ++ [some (.dict (kvsD rs (ss ++ [st])))]) := by
  have r1 := N.r1
  have t1 : sSet 10 (mTup (mCons (mC (.int 1)) (mCons (mC (.int 1)) (mNil)))) (wE x0 x2 caps rs m.length x6 (some (.d (stD st))) x10 x11) (m ++ [some (.dict (kvsD rs ss))]) = .nx (wE x0 x2 caps rs m.length x6 (some (.d (stD st))) (some (.d (rq (wI rs st 0)))) x11) (m ++ [some (.dict (kvsD rs ss))]) := by
    have : wI rs st 0 = 1 := by unfold wI; rw [List.take_zero, List.take_zero]; rfl
    rw [this]; rfl
  obtain ⟨y6, y11, e⟩ := lw_mid (m := m ++ [some (.dict (kvsD rs ss))]) (x0 := x0) (x2 := x2) (h := m.length) N hst rs.length 0 x6 x11 (by omega)
  rw [← List.range_eq_range'] at e
  have rg := range1_any (m := m ++ [some (.dict (kvsD rs ss))]) (rho := wE x0 x2 caps rs m.length x6 (some (.d (stD st))) (some (.d (rq (wI rs st 0)))) x11) (a := mB (mCons (mVar 5) (mNil)) (fD1 lenD)) (n := rs.length) (by
    have := len_b (m := m ++ [some (.dict (kvsD rs ss))]) (i := 5) (rho := wE x0 x2 caps rs m.length x6 (some (.d (stD st))) (some (.d (rq (wI rs st 0)))) x11) (xs := rs.map rD) rfl
    rwa [List.length_map] at this) (by omega)
  have t2 := for_run rg e
  have t3 := dput_run (i := 8) (j := 9) (k := 10) (rho := wE x0 x2 caps rs m.length y6 (some (.d (stD st))) (some (.d (rq (wQ rs st)))) y11) (m := m ++ [some (.dict (kvsD rs ss))]) (xk := stD st) (v := rq (wQ rs st)) rfl rfl rfl (get_last m _) (key_st st) (ok_kvs ss _) (by rw [List.length_map]; omega)
  rw [put_kvs hn, set_last] at t3
  refine ⟨y6, some (.d (rq (wQ rs st))), y11, ?_⟩
  unfold lwO
  rw [seq_run t1, seq_run t2, seq_run t3]; rfl
theorem lw_out (N : Net caps rs 6) : ∀ (ss done : List (List Nat)) (x6 x9 x10 x11 : Option W), done ++ ss = StQ caps rs → ∃ y6 y9 y10 y11, forL (gN 9) lwO (ss.map stD) (wE x0 x2 caps rs m.length x6 x9 x10 x11) (m ++ [some (.dict (kvsD rs done))]) = .nx (wE x0 x2 caps rs m.length y6 y9 y10 y11) (m ++ [some (.dict (kvsD rs (StQ caps rs)))])
  | [], done, x6, x9, x10, x11, h => ⟨x6, x9, x10, x11, by rw [← h, List.append_nil]; rfl⟩
  | s :: ss, done, x6, x9, x10, x11, h => by
    have hs : s ∈ StQ caps rs := by rw [← h]; simp
    have hnd := states_nodup (caps := caps) (rs := rs) (B := 6) rs.length
    have hns : s ∉ done := by
      have : (done ++ s :: ss).Nodup := by rw [h]; exact hnd
      rw [List.nodup_append] at this
      intro q
      exact this.2.2 s q s List.mem_cons_self rfl
    have hc := St_count N
    have hdl : done.length ≤ 1000 := by
      have := congrArg List.length h
      rw [List.length_append] at this
      omega
    obtain ⟨z6, z10, z11, t⟩ := lwO_run (m := m) (x0 := x0) (x2 := x2) N hs hns hdl (x6 := x6) (x10 := x10) (x11 := x11)
    obtain ⟨y6, y9, y10, y11, e⟩ := lw_out N ss (done ++ [s]) z6 (some (.d (stD s))) z10 z11 (by rw [List.append_assoc]; exact h)
    refine ⟨y6, y9, y10, y11, ?_⟩
    have t' := forN_step (i := 9) (x := stD s) (xs := ss.map stD) (rho := wE x0 x2 caps rs m.length x6 x9 x10 x11) t
    rw [List.map_cons, ← e]
    exact t'
theorem st67 (N : Net caps rs 6) : ∃ y6 y9 y10 y11, S6 (vE x0 x2 (some (.d (capsD caps))) (some (.d (routesD rs))) none (some (.d (ssD (StQ caps rs)))) none none none none none none none none none none none none none none none) m = .nx (wE x0 x2 caps rs m.length none none none none) (m ++ [some (.dict [])]) ∧
    S7 (wE x0 x2 caps rs m.length none none none none) (m ++ [some (.dict [])]) = .nx (wE x0 x2 caps rs m.length y6 y9 y10 y11) (m ++ [some (.dict (kvsD rs (StQ caps rs)))]) := by
  obtain ⟨y6, y9, y10, y11, e⟩ := lw_out (m := m) (x0 := x0) (x2 := x2) N (StQ caps rs) [] none none none none rfl
  exact ⟨y6, y9, y10, y11, rfl, for_run (it := mItems (mVar 7)) rfl e⟩
end
end Law
set_option exponentiation.threshold 5000
namespace Law
open PySem PySem.Spec PyProof.Rows L2 Den
/-! what the law asks of shares and losses -/
section
variable {caps : List Nat} {rs : List RQ} {m : Mem} {x0 x2 : Option W}
abbrev tabD (caps : List Nat) (rs : List RQ) : D := .dict (kvsD rs (StQ caps rs))
abbrev gE (x0 x2 : Option W) (caps : List Nat) (rs : List RQ) (x6 x9 x10 x11 x12 x13 x14 x15 : Option W) : Den.Env := vE x0 x2 (some (.d (capsD caps))) (some (.d (routesD rs))) x6 (some (.d (ssD (StQ caps rs)))) (some (.d (tabD caps rs))) x9 x10 x11 x12 x13 x14 x15 none none none none none none none
theorem frz_w {h : Nat} {x0 x2 : W} (h0 : h ≠ 1) (hx0 : frzW h (tabD caps rs) (some x0) = some x0) (hx2 : frzW h (tabD caps rs) (some x2) = some x2) {y6 y9 y10 y11 : Option W} : ∃ z6 z9 z10 z11, (wE (some x0) (some x2) caps rs h y6 y9 y10 y11).map (frzW h (tabD caps rs)) = gE (some x0) (some x2) caps rs z6 z9 z10 z11 none none none none := by
  refine ⟨frzW h (tabD caps rs) y6, frzW h (tabD caps rs) y9, frzW h (tabD caps rs) y10, frzW h (tabD caps rs) y11, ?_⟩
  have h1 : frzW h (tabD caps rs) (some (.r 1)) = some (.r 1) := by
    show (if 1 = h then some (W.d (tabD caps rs)) else some (.r 1)) = _
    rw [if_neg (Ne.symm h0)]
  have h2 : frzW h (tabD caps rs) (some (.r h)) = some (.d (tabD caps rs)) := by
    show (if h = h then some (W.d (tabD caps rs)) else some (.r h)) = _
    rw [if_pos rfl]
  simp only [List.map_cons, List.map_nil, h1, h2, hx0, hx2]
  rfl
theorem St_ne (N : Net caps rs 6) : (kvsD rs (StQ caps rs)).isEmpty = false := by
  have := St_zero N
  cases h : StQ caps rs with
  | nil => rw [h] at this; cases this
  | cons s ss => rfl
theorem dget_run (N : Net caps rs 6) {i j : Nat} {st : List Nat} {rho : Den.Env} (h1 : rho[i]? = some (some (.d (tabD caps rs)))) (h2 : rho[j]? = some (some (.d (stD st)))) (hs : st ∈ StQ caps rs) : mDGet (mVar i) (mVar j) rho m = .ok (.d (rq (wQ rs st))) m := by
  refine op_run (f := fDGet) (var_run h1) (var_run h2) ?_
  show (match keyOf (stD st) with
    | some k => if keyFor (.d (tabD caps rs)) (kvsD rs (StQ caps rs)) k = true then (match valD (kvsD rs (StQ caps rs)) k with | some v => Rs.ok (W.d v) m | none => .no) else .no
    | none => .no) = _
  rw [key_st]
  show (if keyFor (.d (tabD caps rs)) (kvsD rs (StQ caps rs)) (.inr (kS st)) = true then (match valD (kvsD rs (StQ caps rs)) (.inr (kS st)) with | some v => Rs.ok (W.d v) m | none => .no) else .no) = _
  have hk : keyFor (.d (tabD caps rs)) (kvsD rs (StQ caps rs)) (.inr (kS st)) = true := by
    unfold keyFor
    rw [ok_kvs, St_ne N]; rfl
  rw [if_pos hk, val_kvs, if_pos hs]
theorem nin_run (N : Net caps rs 6) {a : EM W} {j : Nat} {st : List Nat} {rho : Den.Env} (h1 : a rho m = .ok (.d (stD st)) m) (h2 : rho[j]? = some (some (.d (tabD caps rs)))) : mOp2 a (mVar j) (fDIn true) rho m = .ok (.d (.bool (!decide (st ∈ StQ caps rs)))) m := by
  refine op_run (f := fDIn true) h1 (var_run h2) ?_
  show (match keyOf (stD st) with
    | some k => if keyFor (.d (tabD caps rs)) (kvsD rs (StQ caps rs)) k = true then Rs.ok (W.d (.bool (if true = true then !(valD (kvsD rs (StQ caps rs)) k).isSome else (valD (kvsD rs (StQ caps rs)) k).isSome))) m else .no
    | none => .no) = _
  rw [key_st]
  show (if keyFor (.d (tabD caps rs)) (kvsD rs (StQ caps rs)) (.inr (kS st)) = true then Rs.ok (W.d (.bool (!(valD (kvsD rs (StQ caps rs)) (.inr (kS st))).isSome))) m else .no) = _
  have hk : keyFor (.d (tabD caps rs)) (kvsD rs (StQ caps rs)) (.inr (kS st)) = true := by
    unfold keyFor
    rw [ok_kvs, St_ne N]; rfl
  rw [if_pos hk, val_kvs]
  by_cases h : st ∈ StQ caps rs
  · rw [if_pos h, decide_eq_true h]; rfl
  · rw [if_neg h, decide_eq_false h]; rfl
theorem ltot_sub (N : Net caps rs 6) {ss : List (List Nat)} (hsub : ∀ s ∈ ss, s ∈ StQ caps rs) (hle : sL (wQ rs) ss ≤ totQ caps rs) : F__law_total [.d (.list (ss.map fun st => rq (wQ rs st)))] m = .ok (.d (rq (sL (wQ rs) ss))) m := by
  obtain ⟨a, b⟩ := MQ_b N
  have h1 := tot_le N
  have h := ltotD (m := m) (x := .list (ss.map fun st => rq (wQ rs st))) (l := ss.map (wQ rs)) (M := MQ rs) (b := 121) (e := 63) (by rw [List.map_map]; rfl) (fun y hy => by
    obtain ⟨st, hst, rfl⟩ := List.mem_map.mp hy
    exact ⟨dv_w (St_le (hsub st hst)), by have := (w_pos N (hsub st hst)).1; grind⟩) (by rw [sL_map]; grind) a b (by decide)
  rw [sL_map] at h
  exact h
theorem st8 (N : Net caps rs 6) {x6 x9 x10 x11 : Option W} : S8 (gE x0 x2 caps rs x6 x9 x10 x11 none none none none) m = .nx (gE x0 x2 caps rs x6 x9 x10 x11 (some (.d (rq (totQ caps rs)))) none none none) m := by
  have hl := St_count N
  have c := mLC_all (it := mKeys (mVar 8)) (vs := [9]) (g := gN 9) (t := tYesT) (a := mDGet (mVar 8) (mVar 9)) (rho := gE x0 x2 caps rs x6 x9 x10 x11 none none none none) (m := m) (m0 := m) (StQ caps rs) stD (fun st => rq (wQ rs st)) (by
      show Rs.ok ((kvsD rs (StQ caps rs)).map (·.1)) m = _
      rw [List.map_map]; rfl) (by omega)
    fun st hst => ⟨gE x0 x2 caps rs x6 (some (.d (stD st))) x10 x11 none none none none, rfl, rfl, .d (rq (wQ rs st)), dget_run N rfl rfl hst, rfl⟩
  exact set_run2 (call_run (n := 1) (fm := F__law_total) (cons_run c nil_run) rfl (ltot_sub N (fun s h => h) (by unfold totQ; grind))) rfl
abbrev flE : EM W := mAdd (mAdd (mSl (mVar 9) (oNone) (oSome (mVar 6))) (mTup (mCons (mAdd (mIx (mVar 9) (mVar 6)) (mC (.int 1))) (mNil)))) (mSl (mVar 9) (oSome (mAdd (mVar 6) (mC (.int 1)))) (oNone))
abbrev flB : SM := sSeq (sSet 14 (mLC (mItems (mVar 7)) [9] (gN 9) (mBool (mOp2 flE (mVar 8) (fDIn true))) (mVar 9))) (sSeq (sDrop (mM .lst (mVar 13) (mCons (mCall 2 F__law_by (mCons (mCall 1 F__law_total (mCons (mLC (mItems (mVar 14)) [9] (gN 9) (tYesT) (mDGet (mVar 8) (mVar 9))) (mNil))) (mCons (mVar 12) (mNil)))) (mNil)) fAppend)) (sSkip))
theorem flE_run {st : List Nat} {a : Nat} {rho : Den.Env} (h : a < st.length) (hl : st.length ≤ 1000) (h6 : mVar 6 rho m = .ok (.d (nD a)) m) (h9 : mVar 9 rho m = .ok (.d (stD st)) m) : flE rho m = .ok (.d (stD (incS st a))) m := by
  have a1 := sl_to (k := a) (xs := st.map nD) h9 h6
  have a2 := ix_tup (xs := st.map nD) h9 h6 (at_nD h)
  have a3 := tup_run (cons_run (add_run (c := mC (.int 1)) a2 const_run (x := .d (nD (st.getD a 0 + 1))) rfl) nil_run) (xs := [nD (st.getD a 0 + 1)]) rfl rfl
  have a4 := sl_from (k := a + 1) (xs := st.map nD) h9 (b := mAdd (mVar 6) (mC (.int 1))) (add_run h6 const_run rfl)
  have b1 := add_run a1 a3 (x := .d (.tuple ((st.map nD).take a ++ [nD (st.getD a 0 + 1)]))) (lift2_run (f := addD) rfl rfl (by rw [add_t, if_pos (small_le (by rw [List.length_take, List.length_map, List.length_singleton]; omega))]))
  refine add_run b1 a4 (lift2_run (f := addD) rfl rfl ?_)
  rw [add_t, if_pos (small_le (by rw [List.length_append, List.length_take, List.length_drop, List.length_map, List.length_singleton]; omega))]
  have e : stD (incS st a) = .tuple (((st.map nD).take a ++ [nD (st.getD a 0 + 1)]) ++ (st.map nD).drop (a + 1)) := by
    unfold stD incS
    rw [List.map_append, List.map_cons, List.map_take, List.map_drop, List.append_assoc]; rfl
  rw [e]
abbrev losD (caps : List Nat) (rs : List RQ) (k : Nat) : D := .list ((List.range k).map fun a => rq (lossQ caps rs a))
theorem flB_run (N : Net caps rs 6) {a : Nat} (ha : a < rs.length) {x9 x10 x11 x14 : Option W} : flB (gE x0 x2 caps rs (some (.d (nD a))) x9 x10 x11 (some (.d (rq (totQ caps rs)))) (some (.r m.length)) x14 none) (m ++ [some (losD caps rs a)]) = .nx (gE x0 x2 caps rs (some (.d (nD a))) x9 x10 x11 (some (.d (rq (totQ caps rs)))) (some (.r m.length)) (some (.d (ssD ((StQ caps rs).filter (fullQ caps rs a))))) none) (m ++ [some (losD caps rs (a + 1))]) := by
  have hl := St_count N
  have r1 := N.r1
  have c := mLC_of (it := mItems (mVar 7)) (vs := [9]) (g := gN 9) (t := mBool (mOp2 flE (mVar 8) (fDIn true))) (a := mVar 9) (rho := gE x0 x2 caps rs (some (.d (nD a))) x9 x10 x11 (some (.d (rq (totQ caps rs)))) (some (.r m.length)) x14 none) (m := m ++ [some (losD caps rs a)]) (m0 := m ++ [some (losD caps rs a)]) (StQ caps rs) stD (fullQ caps rs a) stD rfl (by omega)
    fun st hst => by
      have hsl := St_len hst
      refine ⟨gE x0 x2 caps rs (some (.d (nD a))) (some (.d (stD st))) x10 x11 (some (.d (rq (totQ caps rs)))) (some (.r m.length)) x14 none, rfl, ?_, fun _ => ⟨.d (stD st), rfl, rfl⟩⟩
      have q := nin_run N (m := m ++ [some (losD caps rs a)]) (j := 8) (rho := gE x0 x2 caps rs (some (.d (nD a))) (some (.d (stD st))) x10 x11 (some (.d (rq (totQ caps rs)))) (some (.r m.length)) x14 none) (flE_run (st := st) (a := a) (by omega) (by omega) (var_run rfl) (var_run rfl)) rfl
      have e : (!decide (incS st a ∈ StQ caps rs)) = fullQ caps rs a st := by
        unfold fullQ
        congr 1
        rw [Bool.eq_iff_iff, decide_eq_true_eq, St_mem N]
        exact ⟨fun h => h.2, fun h => ⟨by rw [incS_len (by omega)]; exact hsl, h⟩⟩
      rw [e] at q
      exact bool_run q
  have t1 := set_run2 (i := 14) c (rho' := gE x0 x2 caps rs (some (.d (nD a))) x9 x10 x11 (some (.d (rq (totQ caps rs)))) (some (.r m.length)) (some (.d (ssD ((StQ caps rs).filter (fullQ caps rs a))))) none) rfl
  have sub : ∀ st ∈ (StQ caps rs).filter (fullQ caps rs a), st ∈ StQ caps rs := fun st h => (List.mem_filter.mp h).1
  have hle : sL (wQ rs) ((StQ caps rs).filter (fullQ caps rs a)) ≤ totQ caps rs := by
    rw [sL_filter]
    exact sL_le fun st hst => by
      have := (w_pos N hst).1
      split <;> grind
  have c2 := mLC_all (it := mItems (mVar 14)) (vs := [9]) (g := gN 9) (t := tYesT) (a := mDGet (mVar 8) (mVar 9)) (rho := gE x0 x2 caps rs (some (.d (nD a))) x9 x10 x11 (some (.d (rq (totQ caps rs)))) (some (.r m.length)) (some (.d (ssD ((StQ caps rs).filter (fullQ caps rs a))))) none) (m := m ++ [some (losD caps rs a)]) (m0 := m ++ [some (losD caps rs a)]) ((StQ caps rs).filter (fullQ caps rs a)) stD (fun st => rq (wQ rs st)) rfl (by have := List.length_filter_le (fullQ caps rs a) (StQ caps rs); omega)
    fun st hst => ⟨gE x0 x2 caps rs (some (.d (nD a))) (some (.d (stD st))) x10 x11 (some (.d (rq (totQ caps rs)))) (some (.r m.length)) (some (.d (ssD ((StQ caps rs).filter (fullQ caps rs a))))) none, rfl, rfl, .d (rq (wQ rs st)), dget_run N rfl rfl (sub st hst), rfl⟩
  have c3 := call_run (n := 1) (fm := F__law_total) (cons_run c2 nil_run) rfl (ltot_sub N sub hle)
  have z1 : sz 184 (sL (wQ rs) ((StQ caps rs).filter (fullQ caps rs a))) := by
    obtain ⟨a1, b1⟩ := MQ_b N
    have h2 := tot_le N
    have h3 := sL_nn (f := wQ rs) (l := (StQ caps rs).filter (fullQ caps rs a)) fun st h => by have := (w_pos N (sub st h)).1; grind
    have := nat_nn (2 ^ 63)
    exact sz_dv (b := 121) (e := 63) (dv_sL fun st h => dv_w (St_le (sub st h))) a1 b1 (by grind) (by grind)
  have h0 := tot_pos N
  have e4 := lby_ok (m := m ++ [some (losD caps rs a)]) z1 (tot_sz N) (by grind) (by decide)
  have c4 := call2_run (fm := F__law_by) c3 (b := mVar 12) (w2 := .d (rq (totQ caps rs))) (var_run rfl) e4
  have t2 := app_run (i := 13) (x := rq (lossQ caps rs a)) (m := m ++ [some (losD caps rs a)]) rfl (get_last m _) c4 (by rw [List.length_map, List.length_range]; omega)
  rw [set_last] at t2
  unfold flB
  rw [seq_run t1, seq_run t2]
  have e : (List.range a).map (fun a => rq (lossQ caps rs a)) ++ [rq (lossQ caps rs a)] = (List.range (a + 1)).map fun a => rq (lossQ caps rs a) := by rw [List.range_succ, List.map_append]; rfl
  rw [e]; rfl
theorem fl_go (N : Net caps rs 6) : ∀ (d i : Nat) (x6 x9 x10 x11 x14 : Option W), i + d = rs.length → ∃ y6 y14, forL (gN 6) flB ((List.range' i d).map fun k : Nat => PyData.int (k : Int)) (gE x0 x2 caps rs x6 x9 x10 x11 (some (.d (rq (totQ caps rs)))) (some (.r m.length)) x14 none) (m ++ [some (losD caps rs i)]) = .nx (gE x0 x2 caps rs y6 x9 x10 x11 (some (.d (rq (totQ caps rs)))) (some (.r m.length)) y14 none) (m ++ [some (losD caps rs rs.length)])
  | 0, i, x6, x9, x10, x11, x14, h => ⟨x6, x14, by rw [← h]; rfl⟩
  | d + 1, i, x6, x9, x10, x11, x14, h => by
    obtain ⟨y6, y14, e⟩ := fl_go N d (i + 1) (some (.d (nD i))) x9 x10 x11 (some (.d (ssD ((StQ caps rs).filter (fullQ caps rs i))))) (by omega)
    refine ⟨y6, y14, ?_⟩
    have t' := forN_step (i := 6) (x := nD i) (xs := (List.range' (i + 1) d).map fun k : Nat => PyData.int (k : Int)) (rho := gE x0 x2 caps rs x6 x9 x10 x11 (some (.d (rq (totQ caps rs)))) (some (.r m.length)) x14 none) (flB_run (m := m) (x0 := x0) (x2 := x2) N (show i < rs.length by omega) (x9 := x9) (x10 := x10) (x11 := x11) (x14 := x14))
    rw [List.range'_succ, List.map_cons, ← e]
    exact t'
theorem st9_10 (N : Net caps rs 6) {x6 x9 x10 x11 : Option W} : ∃ y6 y14, S9 (gE x0 x2 caps rs x6 x9 x10 x11 (some (.d (rq (totQ caps rs)))) none none none) m = .nx (gE x0 x2 caps rs x6 x9 x10 x11 (some (.d (rq (totQ caps rs)))) (some (.r m.length)) none none) (m ++ [some (losD caps rs 0)]) ∧
    S10 (gE x0 x2 caps rs x6 x9 x10 x11 (some (.d (rq (totQ caps rs)))) (some (.r m.length)) none none) (m ++ [some (losD caps rs 0)]) = .nx (gE x0 x2 caps rs y6 x9 x10 x11 (some (.d (rq (totQ caps rs)))) (some (.r m.length)) y14 none) (m ++ [some (losD caps rs rs.length)]) := by
  have r1 := N.r1
  obtain ⟨y6, y14, e⟩ := fl_go (m := m) (x0 := x0) (x2 := x2) N rs.length 0 x6 x9 x10 x11 none (by omega)
  rw [← List.range_eq_range'] at e
  have rg := range1_any (m := m ++ [some (losD caps rs 0)]) (rho := gE x0 x2 caps rs x6 x9 x10 x11 (some (.d (rq (totQ caps rs)))) (some (.r m.length)) none none) (a := mB (mCons (mVar 5) (mNil)) (fD1 lenD)) (n := rs.length) (by
    have := len_b (m := m ++ [some (losD caps rs 0)]) (i := 5) (rho := gE x0 x2 caps rs x6 x9 x10 x11 (some (.d (rq (totQ caps rs)))) (some (.r m.length)) none none) (xs := rs.map rD) rfl
    rwa [List.length_map] at this) (by omega)
  exact ⟨y6, y14, rfl, for_run rg e⟩
abbrev dueD (caps : List Nat) (rs : List RQ) : D := .list [shD caps rs, lossD caps rs]
theorem st11 (N : Net caps rs 6) {x6 x9 x10 x11 x14 : Option W} : S11 (gE x0 x2 caps rs x6 x9 x10 x11 (some (.d (rq (totQ caps rs)))) (some (.r m.length)) x14 none) (m ++ [some (losD caps rs rs.length)]) = .nx (gE x0 x2 caps rs x6 x9 x10 x11 (some (.d (rq (totQ caps rs)))) (some (.r m.length)) x14 (some (.d (dueD caps rs)))) (m ++ [some (losD caps rs rs.length)]) := by
  have hl := St_count N
  have h0 := tot_pos N
  have hs := sorted_states (caps := caps) (rs := rs) N.r0
  have c := mLC_all (it := mItems (mB (mCons (mVar 7) (mNil)) (fN1 sortD))) (vs := [9]) (g := gN 9) (t := tYesT) (a := mTup (mCons (mVar 9) (mCons (mCall 2 F__law_by (mCons (mDGet (mVar 8) (mVar 9)) (mCons (mVar 12) (mNil)))) (mNil)))) (rho := gE x0 x2 caps rs x6 x9 x10 x11 (some (.d (rq (totQ caps rs)))) (some (.r m.length)) x14 none) (m := m ++ [some (losD caps rs rs.length)]) (m0 := m ++ [some (losD caps rs rs.length)]) (StQ caps rs) stD (fun st => .tuple [stD st, rq (wQ rs st / totQ caps rs)]) (by
      have b := b_run (fm := fN1 sortD) (cons_run (a := mVar 7) (rho := gE x0 x2 caps rs x6 x9 x10 x11 (some (.d (rq (totQ caps rs)))) (some (.r m.length)) x14 none) (m := m ++ [some (losD caps rs rs.length)]) (w := .d (ssD (StQ caps rs))) (var_run rfl) nil_run) (w := .n (ssD (StQ caps rs))) (m2 := m ++ [some (losD caps rs rs.length)]) (by
        rw [val_d, f_N1, peek_d]
        show (match sortD (ssD (StQ caps rs)) with | some ys => Rs.ok (W.n (.list ys)) _ | none => .no) = _
        rw [hs])
      rw [e_Items, b]; rfl) (by omega)
    fun st hst => ⟨gE x0 x2 caps rs x6 (some (.d (stD st))) x10 x11 (some (.d (rq (totQ caps rs)))) (some (.r m.length)) x14 none, rfl, rfl, .d (.tuple [stD st, rq (wQ rs st / totQ caps rs)]), by
      have e := lby_ok (m := m ++ [some (losD caps rs rs.length)]) (w_sz N hst) (tot_sz N) (by grind) (by decide)
      exact tup_run (cons_run (a := mVar 9) (w := .d (stD st)) rfl (cons_run (call2_run (dget_run N (i := 8) (j := 9) rfl rfl hst) (b := mVar 12) (w2 := .d (rq (totQ caps rs))) rfl e) nil_run)) rfl rfl, rfl⟩
  have t5 : mB (mCons (mVar 13) (mNil)) fTup (gE x0 x2 caps rs x6 x9 x10 x11 (some (.d (rq (totQ caps rs)))) (some (.r m.length)) x14 none) (m ++ [some (losD caps rs rs.length)]) = .ok (.d (lossD caps rs)) (m ++ [some (losD caps rs rs.length)]) := by
    refine b_run (cons_run (w := .r m.length) (var_run rfl) nil_run) ?_
    rw [val_r, f_Tup, peek_r, get_last]; rfl
  have l := lst_run (cons_run c (cons_run t5 nil_run)) (xs := [shD caps rs, lossD caps rs]) rfl rfl
  exact set_run2 l rfl
/-! what is shown -/
theorem pow10 : (2 : Nat) ^ 185 < 10 ^ 60 := Nat.le_of_ble_eq_true (by kernel_rfl)
theorem shv_rq {q : Rat} (h : sz 185 q) {d : Nat} : Shv (d + 1) 129 (rq q) := by
  have h1 : q.num.natAbs < 10 ^ 60 := Nat.lt_trans h.1 pow10
  have h2 : (q.den : Int).natAbs < 10 ^ 60 := by rw [Int.natAbs_natCast]; exact Nat.lt_trans h.2 pow10
  exact shv_two (r := 61) (shv_int h1 (by decide) (by decide)) (shv_int h2 (by decide) (by decide))
theorem shv_st {st : List Nat} (h : ∀ n ∈ st, n ≤ 6) (hl : st.length ≤ 6) {d : Nat} : Shv (d + 1) 27 (stD st) := by
  have := shv_tuple (d := d) (r := 2) (xs := st.map nD) fun x hx => by
    obtain ⟨n, hn, rfl⟩ := List.mem_map.mp hx
    exact shv_int (k := 1) (by rw [Int.natAbs_natCast]; have := h n hn; omega) (by decide) (by decide)
  rw [List.length_map] at this
  exact this.up (Nat.le_refl _) (by omega)
theorem share_sz (N : Net caps rs 6) {st : List Nat} (h : st ∈ StQ caps rs) : sz 185 (wQ rs st / totQ caps rs) := by
  obtain ⟨T, T0, T1, hT⟩ := share_dv N
  have h0 := tot_pos N
  have hw := (w_pos N h).1
  have hle : wQ rs st ≤ totQ caps rs := by
    have key : ∀ l : List (List Nat), (∀ s ∈ l, s ∈ StQ caps rs) → st ∈ l → wQ rs st ≤ sL (wQ rs) l := by
      intro l
      induction l with
      | nil => intro _ h; cases h
      | cons s l ih =>
        intro hs hm
        have h1 := (w_pos N (hs s List.mem_cons_self)).1
        have h2 := sL_nn (f := wQ rs) (l := l) fun x hx => by have := (w_pos N (hs x (List.mem_cons_of_mem _ hx))).1; grind
        show _ ≤ wQ rs s + sL (wQ rs) l
        rcases List.mem_cons.mp hm with rfl | hm
        · grind
        · have := ih (fun x hx => hs x (List.mem_cons_of_mem _ hx)) hm
          grind
    exact key _ (fun s h => h) h
  have a := div_le_1 h0 hle
  have b := div_nn h0 (show 0 ≤ wQ rs st by grind)
  have := cast1
  exact sz_dv (b := 185) (e := 0) (hT st h) T0 T1 (by rw [this]; exact a) (by rw [this]; grind)
theorem loss_sz (N : Net caps rs 6) (a : Nat) : sz 185 (lossQ caps rs a) := by
  obtain ⟨T, T0, T1, hT⟩ := share_dv N
  have h0 := tot_pos N
  have sub : ∀ st ∈ (StQ caps rs).filter (fullQ caps rs a), st ∈ StQ caps rs := fun st h => (List.mem_filter.mp h).1
  have hle : sL (wQ rs) ((StQ caps rs).filter (fullQ caps rs a)) ≤ totQ caps rs := by
    rw [sL_filter]
    exact sL_le fun st hst => by
      have := (w_pos N hst).1
      split <;> grind
  have h3 := sL_nn (f := wQ rs) (l := (StQ caps rs).filter (fullQ caps rs a)) fun st h => by have := (w_pos N (sub st h)).1; grind
  have hd : dv T (lossQ caps rs a) := by
    unfold lossQ
    rw [← sL_div]
    exact dv_sL fun st h => hT st (sub st h)
  have := cast1
  exact sz_dv (b := 185) (e := 0) hd T0 T1 (by rw [this]; exact div_le_1 h0 hle) (by rw [this]; have := div_nn h0 h3; unfold lossQ; grind)
theorem due_shv (N : Net caps rs 6) : reprD (dueD caps rs) = some (.str (dueD caps rs).shown) := by
  have hl := St_count N
  have r1 := N.r1
  have s1 : Shv 4 100000 (shD caps rs) := by
    have := shv_list (d := 2) (r := 265) (xs := (StQ caps rs).map fun st => PyData.tuple [stD st, rq (wQ rs st / totQ caps rs)]) fun x hx => by
      obtain ⟨st, hst, rfl⟩ := List.mem_map.mp hx
      exact shv_two (r := 129) ((shv_st (St_le hst) (by rw [St_len hst]; omega) (d := 0)).up (Nat.le_refl _) (by decide)) (shv_rq (share_sz N hst) (d := 0))
    rw [List.length_map] at this
    exact this.up (by decide) (by omega)
  have s2 : Shv 4 100000 (lossD caps rs) := by
    have := shv_tuple (d := 1) (r := 129) (xs := (List.range rs.length).map fun a => rq (lossQ caps rs a)) fun x hx => by
      obtain ⟨a, _, rfl⟩ := List.mem_map.mp hx
      exact shv_rq (loss_sz N a) (d := 0)
    rw [List.length_map, List.length_range] at this
    exact this.up (by decide) (by omega)
  exact repr_shv (d := 5) (r := 2 * 100002 + 3) (shv_list (xs := [shD caps rs, lossD caps rs]) fun x hx => by
    rcases List.mem_cons.mp hx with rfl | hx
    · exact s1
    · rw [List.mem_singleton] at hx; subst hx; exact s2) (by decide) (by decide)
theorem ask0 (N : Net caps rs 6) : F__law_asked [.d (.int 0), .d (capsD caps), .d (routesD rs)] m = .ok (.n (shD caps rs)) m := by
  have e := shares_ok (m := m) N
  unfold F__law_asked runF m__law_asked startE
  simp [e, fin]
theorem ask1 (N : Net caps rs 6) : F__law_asked [.d (.int 1), .d (capsD caps), .d (routesD rs)] m = .ok (.d (lossD caps rs)) m := by
  have e := losses_ok (m := m) N
  unfold F__law_asked runF m__law_asked startE
  simp [e, fin]
theorem st12 (N : Net caps rs 6) {x6 x9 x10 x11 x12 x13 x14 : Option W} : S12 (gE x0 x2 caps rs x6 x9 x10 x11 x12 x13 x14 (some (.d (dueD caps rs)))) m = .nx (gE x0 x2 caps rs x6 x9 x10 x11 x12 x13 x14 (some (.d (dueD caps rs)))) m := by
  generalize hE : gE x0 x2 caps rs x6 x9 x10 x11 x12 x13 x14 (some (.d (dueD caps rs))) = rho
  obtain ⟨acc, m', e, hm, ha⟩ := mLC_inv (it := mRange1 (mC (.int 2))) (vs := [16]) (g := gN 16) (t := tYesT) (a := mCall 3 F__law_asked (mCons (mVar 16) (mCons (mVar 3) (mCons (mVar 5) (mNil))))) (rho := rho) (m := m) (m0 := m) (items := [.int 0, .int 1]) (fun i m1 acc => m1 = m ∧ acc = [shD caps rs, lossD caps rs].take i) rfl (by decide) ⟨rfl, rfl⟩
    fun i hi m1 acc hI => by
      obtain ⟨rfl, rfl⟩ := hI
      have hi' : i = 0 ∨ i = 1 := by
        have : i < 2 := hi
        omega
      rcases hi' with rfl | rfl
      · refine ⟨(wipeE rho [16]).set 16 (some (.d (.int 0))), true, m1, rfl, rfl, fun q => (nomatch q), fun _ => ⟨.n (shD caps rs), m1, shD caps rs, m1, ?_, rfl, rfl, rfl⟩⟩
        exact call_run (cons_run (w := .d (.int 0)) (var_run (by rw [← hE]; rfl)) (cons_run (w := .d (capsD caps)) (var_run (by rw [← hE]; rfl)) (cons_run (w := .d (routesD rs)) (var_run (by rw [← hE]; rfl)) nil_run))) rfl (ask0 N)
      · refine ⟨(wipeE rho [16]).set 16 (some (.d (.int 1))), true, m1, rfl, rfl, fun q => (nomatch q), fun _ => ⟨.d (lossD caps rs), m1, lossD caps rs, m1, ?_, rfl, rfl, rfl⟩⟩
        exact call_run (cons_run (w := .d (.int 1)) (var_run (by rw [← hE]; rfl)) (cons_run (w := .d (capsD caps)) (var_run (by rw [← hE]; rfl)) (cons_run (w := .d (routesD rs)) (var_run (by rw [← hE]; rfl)) nil_run))) rfl (ask1 N)
  subst hm ha
  have hp := due_shv N
  have b1 := b_run (fm := fD1 reprD) (cons_run e nil_run) (D1_run hp)
  have b2 := b_run (fm := fD1 reprD) (cons_run (a := mVar 15) (rho := rho) (m := m') (w := .d (dueD caps rs)) (var_run (by rw [← hE]; rfl)) nil_run) (D1_run hp)
  have b0 : neD (.str (dueD caps rs).shown) (.str (dueD caps rs).shown) = some (.d (.bool false)) := by
    rw [ne_s, decide_eq_true rfl]; rfl
  exact if_no (bool_run (op_run b1 b2 (lift2_run (f := neD) rfl rfl b0)))
end
end Law
set_option exponentiation.threshold 5000
namespace Law
open PySem PySem.Spec PyProof.Rows L2 Den
/-! loads taken together, parts that nothing joins -/
theorem ex_step (q : Rat) (n : Nat) : ((n + 1 : Nat) : Rat) * ex q (n + 1) = q * ex q n := by
  have h := nat_pos1 n
  have hc := Rat.div_mul_cancel (a := q) (b := ((n + 1 : Nat) : Rat)) (by grind)
  show ((n + 1 : Nat) : Rat) * (ex q n * (q / ((n + 1 : Nat) : Rat))) = _
  generalize ((n + 1 : Nat) : Rat) = z at *
  generalize q / z = y at *
  grind
def conv (a b : Rat) (j : Nat) : Rat := sR (j + 1) fun n => ex a n * ex b (j - n)
theorem sR_mulc (c : Rat) (f : Nat → Rat) : ∀ n, sR n (fun i => c * f i) = c * sR n f
  | 0 => by show (0 : Rat) = c * 0; grind
  | n + 1 => by have := sR_mulc c f n; show sR n (fun i => c * f i) + c * f n = c * (sR n f + f n); grind
theorem sR_addf (f g : Nat → Rat) : ∀ n, sR n (fun i => f i + g i) = sR n f + sR n g
  | 0 => by show (0 : Rat) = 0 + 0; grind
  | n + 1 => by have := sR_addf f g n; show sR n (fun i => f i + g i) + (f n + g n) = sR n f + f n + (sR n g + g n); grind
theorem conv_step (a b : Rat) (j : Nat) : ((j + 1 : Nat) : Rat) * conv a b (j + 1) = (a + b) * conv a b j := by
  have h1 : ((j + 1 : Nat) : Rat) * conv a b (j + 1) = sR (j + 2) (fun n => (n : Rat) * (ex a n * ex b (j + 1 - n)) + (((j + 1 - n : Nat) : Rat)) * (ex a n * ex b (j + 1 - n))) := by
    unfold conv
    rw [← sR_mulc]
    refine sR_congr fun n hn => ?_
    have e : ((j + 1 : Nat) : Rat) = (n : Rat) + ((j + 1 - n : Nat) : Rat) := by
      rw [← Rat.natCast_add]; congr 1; omega
    rw [e]; grind
  rw [h1, sR_addf, sR_shift]
  have h2 : sR (j + 1) (fun i => ((i + 1 : Nat) : Rat) * (ex a (i + 1) * ex b (j + 1 - (i + 1)))) = a * conv a b j := by
    unfold conv
    rw [← sR_mulc]
    refine sR_congr fun n hn => ?_
    have := ex_step a n
    rw [show j + 1 - (n + 1) = j - n by omega]
    generalize ((n + 1 : Nat) : Rat) = z at *
    grind
  have h3 : sR (j + 2) (fun n => (((j + 1 - n : Nat) : Rat)) * (ex a n * ex b (j + 1 - n))) = b * conv a b j := by
    show sR (j + 1) _ + (((j + 1 - (j + 1) : Nat) : Rat)) * (ex a (j + 1) * ex b (j + 1 - (j + 1))) = _
    rw [show j + 1 - (j + 1) = 0 by omega]
    have e : sR (j + 1) (fun n => (((j + 1 - n : Nat) : Rat)) * (ex a n * ex b (j + 1 - n))) = b * conv a b j := by
      unfold conv
      rw [← sR_mulc]
      refine sR_congr fun n hn => ?_
      have := ex_step b (j - n)
      rw [show j + 1 - n = j - n + 1 by omega]
      generalize ((j - n + 1 : Nat) : Rat) = z at *
      grind
    rw [e]
    have : ((0 : Nat) : Rat) = 0 := rfl
    rw [this]; grind
  rw [h3, h2]
  have : ((0 : Nat) : Rat) = 0 := rfl
  rw [this]; grind
theorem conv_ex (a b : Rat) : ∀ j, conv a b j = ex (a + b) j
  | 0 => by show 0 + 1 * 1 = (1 : Rat); grind
  | j + 1 => by
    have h1 := conv_step a b j
    have h2 := ex_step (a + b) j
    rw [conv_ex a b j, ← h2] at h1
    have h := nat_pos1 j
    have : conv a b (j + 1) - ex (a + b) (j + 1) = 0 := by
      have h3 : ((j + 1 : Nat) : Rat) * (conv a b (j + 1) - ex (a + b) (j + 1)) = 0 := by grind
      rcases Rat.mul_eq_zero.mp h3 with h4 | h4
      · grind
      · exact h4
    grind
/-- triangles -/
theorem tri_sum (f : Nat → Nat → Rat) : ∀ c, sR (c + 1) (fun n => sR (c + 1 - n) (f n)) = sR (c + 1) fun j => sR (j + 1) fun n => f n (j - n)
  | 0 => by show 0 + (0 + f 0 0) = 0 + (0 + f 0 (0 - 0)); rfl
  | c + 1 => by
    have ih := tri_sum f c
    have e : sR (c + 2) (fun n => sR (c + 2 - n) (f n)) = sR (c + 1) (fun n => sR (c + 1 - n) (f n)) + sR (c + 2) fun n => f n (c + 1 - n) := by
      show sR (c + 1) (fun n => sR (c + 2 - n) (f n)) + sR (c + 2 - (c + 1)) (f (c + 1)) = _ + (sR (c + 1) (fun n => f n (c + 1 - n)) + f (c + 1) (c + 1 - (c + 1)))
      have e1 : sR (c + 1) (fun n => sR (c + 2 - n) (f n)) = sR (c + 1) (fun n => sR (c + 1 - n) (f n) + f n (c + 1 - n)) := sR_congr fun n hn => by
        rw [show c + 2 - n = (c + 1 - n) + 1 by omega]; rfl
      have e2 : sR (c + 2 - (c + 1)) (f (c + 1)) = f (c + 1) (c + 1 - (c + 1)) := by
        rw [show c + 2 - (c + 1) = 1 by omega, show c + 1 - (c + 1) = 0 by omega]
        show 0 + f (c + 1) 0 = _
        grind
      rw [e1, sR_addf, e2]; grind
    rw [e, ih]; rfl
section
variable {caps : List Nat} {rs : List RQ} {B : Nat}
theorem next_eq (hc : ∀ c ∈ caps, c ≤ B) (hr : ∀ r ∈ rs, 0 < r.1 ∧ r.1 < 2 ^ caps.length) {s : List Nat} (hs : s.length < rs.length) {M : Nat} (h1 : ∀ m, m < M → fitsQ caps rs (s ++ [m]) = true) (h2 : fitsQ caps rs (s ++ [M]) = false) : nextQ caps rs B s = (List.range M).map fun m => s ++ [m] := by
  obtain ⟨M', _, e, f1, f2⟩ := next_rng hc hr hs
  have hM : M = M' := by
    rcases Nat.lt_trichotomy M M' with h | h | h
    · have := f1 M h; rw [h2] at this; cases this
    · exact h
    · have := h1 M' h; rw [f2] at this; cases this
  rw [e, hM]
theorem bit_10 : bit 1 0 = true := by unfold bit; decide
theorem used_1 (n : Nat) (q : Rat) (st : List Nat) (rs : List RQ) : used (n :: st) ((1, q) :: rs) 0 = n + used st rs 0 := by
  show (if bit 1 0 = true then n else 0) + used st rs 0 = _
  rw [bit_10, if_pos rfl]
theorem used_s (n : Nat) (q : Rat) (rs : List RQ) : used [n] ((1, q) :: rs) 0 = n := by
  rw [used_1]
  cases rs <;> rfl
theorem used_t (n k : Nat) (a b : Rat) : used [n, k] [(1, a), (1, b)] 0 = n + k := by rw [used_1, used_s]
theorem fits_1 {c : Nat} {st : List Nat} : fitsQ [c] rs st = decide (used st rs 0 ≤ c) := by
  rw [Bool.eq_iff_iff, fits_iff, decide_eq_true_eq]
  constructor
  · intro h; exact h 0 c rfl
  · intro h l c' hc
    cases l with
    | zero => cases hc; exact h
    | succ l => cases hc
end
def erl (q : Rat) (c : Nat) : Rat := ex q c / sR (c + 1) (ex q)
theorem states_1 {c : Nat} {q : Rat} (N : Net [c] [(1, q)] 6) : StQ [c] [(1, q)] = (List.range (c + 1)).map fun n => [n] := by
  show [[]].flatMap (nextQ [c] [(1, q)] 6) = _
  rw [List.flatMap_cons, List.flatMap_nil, List.append_nil]
  exact next_eq (s := []) N.le N.rr Nat.zero_lt_one (fun m hm => by
    rw [fits_1, show ([] : List Nat) ++ [m] = [m] from rfl, used_s]
    exact decide_eq_true (by omega)) (by
    rw [fits_1, show ([] : List Nat) ++ [c + 1] = [c + 1] from rfl, used_s]
    exact decide_eq_false (by omega))
theorem sR_ind (c : Nat) (f : Nat → Rat) : ∀ n, sR n (fun i => if i = c then f i else 0) = if c < n then f c else 0
  | 0 => rfl
  | n + 1 => by
    show sR n (fun i => if i = c then f i else 0) + (if n = c then f n else 0) = _
    rw [sR_ind c f n]
    by_cases h : n = c
    · subst h
      rw [if_neg (by omega), if_pos rfl, if_pos (by omega)]; grind
    · rw [if_neg h]
      by_cases h2 : c < n
      · rw [if_pos h2, if_pos (by omega)]; grind
      · rw [if_neg h2, if_neg (by omega)]; grind
theorem loss_1 {c : Nat} {q : Rat} (N : Net [c] [(1, q)] 6) : lossQ [c] [(1, q)] 0 = erl q c := by
  unfold lossQ totQ erl
  rw [states_1 N]
  have e1 : sL (wQ [(1, q)]) ((List.range (c + 1)).map fun n => [n]) = sR (c + 1) (ex q) := by
    rw [sL_map, sL_range]
    exact sR_congr fun n _ => by show ex q n * 1 = ex q n; grind
  have e2 : sL (wQ [(1, q)]) (((List.range (c + 1)).map fun n => [n]).filter (fullQ [c] [(1, q)] 0)) = ex q c := by
    rw [sL_filter, sL_map, sL_range]
    have : sR (c + 1) (fun x => if fullQ [c] [(1, q)] 0 [x] = true then wQ [(1, q)] [x] else 0) = sR (c + 1) (fun x => if x = c then ex q x else 0) := sR_congr fun n hn => by
      have hf : fullQ [c] [(1, q)] 0 [n] = decide (n = c) := by
        unfold fullQ
        rw [fits_1, show incS [n] 0 = [n + 1] from rfl, used_s]
        by_cases h : n = c
        · subst h
          rw [decide_eq_false (by omega), decide_eq_true rfl]; rfl
        · rw [decide_eq_true (by omega), decide_eq_false h]; rfl
      rw [hf]
      by_cases h : n = c
      · rw [if_pos (decide_eq_true h), if_pos h]; show ex q n * 1 = _; grind
      · rw [if_neg (by rw [decide_eq_false h]; simp), if_neg h]
    rw [this, sR_ind, if_pos (by omega)]
  rw [e1, e2]
theorem states_2 {c : Nat} {a b : Rat} (N : Net [c] [(1, a), (1, b)] 6) : StQ [c] [(1, a), (1, b)] = (List.range (c + 1)).flatMap fun n => (List.range (c + 1 - n)).map fun k => [n, k] := by
  show ([[]].flatMap (nextQ [c] [(1, a), (1, b)] 6)).flatMap (nextQ [c] [(1, a), (1, b)] 6) = _
  rw [List.flatMap_cons, List.flatMap_nil, List.append_nil]
  have e1 : nextQ [c] [(1, a), (1, b)] 6 [] = (List.range (c + 1)).map fun n => [n] := next_eq N.le N.rr (by show 0 < 2; decide) (fun m hm => by
    rw [fits_1, show ([] : List Nat) ++ [m] = [m] from rfl, used_s]
    exact decide_eq_true (by omega)) (by
    rw [fits_1, show ([] : List Nat) ++ [c + 1] = [c + 1] from rfl, used_s]
    exact decide_eq_false (by omega))
  rw [e1, List.flatMap_map]
  have key : ∀ l : List Nat, (∀ n ∈ l, n < c + 1) → l.flatMap (fun n => nextQ [c] [(1, a), (1, b)] 6 [n]) = l.flatMap fun n => (List.range (c + 1 - n)).map fun k => [n, k] := by
    intro l
    induction l with
    | nil => intro _; rfl
    | cons n l ih =>
      intro h
      have hn := h n List.mem_cons_self
      rw [List.flatMap_cons, List.flatMap_cons, ih fun x hx => h x (List.mem_cons_of_mem _ hx)]
      congr 1
      exact next_eq N.le N.rr (by show 1 < 2; decide) (fun m hm => by
        rw [fits_1, show [n] ++ [m] = [n, m] from rfl, used_t]
        exact decide_eq_true (by omega)) (by
        rw [fits_1, show [n] ++ [c + 1 - n] = [n, c + 1 - n] from rfl, used_t]
        exact decide_eq_false (by omega))
  exact key _ fun n hn => List.mem_range.mp hn
theorem loss_2 {c : Nat} {a b : Rat} (N : Net [c] [(1, a), (1, b)] 6) {i : Nat} (hi : i < 2) : lossQ [c] [(1, a), (1, b)] i = erl (a + b) c := by
  unfold lossQ totQ erl
  rw [states_2 N]
  have e1 : sL (wQ [(1, a), (1, b)]) ((List.range (c + 1)).flatMap fun n => (List.range (c + 1 - n)).map fun k => [n, k]) = sR (c + 1) (ex (a + b)) := by
    rw [sL_flat, sL_range]
    have : sR (c + 1) (fun n => sL (wQ [(1, a), (1, b)]) ((List.range (c + 1 - n)).map fun k => [n, k])) = sR (c + 1) (fun n => sR (c + 1 - n) (fun k => ex a n * ex b k)) := sR_congr fun n _ => by
      rw [sL_map, sL_range]
      exact sR_congr fun k _ => by show ex a n * (ex b k * 1) = _; grind
    rw [this, tri_sum]
    exact sR_congr fun j _ => conv_ex a b j
  have e2 : sL (wQ [(1, a), (1, b)]) (((List.range (c + 1)).flatMap fun n => (List.range (c + 1 - n)).map fun k => [n, k]).filter (fullQ [c] [(1, a), (1, b)] i)) = ex (a + b) c := by
    rw [sL_filter, sL_flat, sL_range]
    have : sR (c + 1) (fun n => sL (fun x => if fullQ [c] [(1, a), (1, b)] i x = true then wQ [(1, a), (1, b)] x else 0) ((List.range (c + 1 - n)).map fun k => [n, k])) = sR (c + 1) (fun n => ex a n * ex b (c - n)) := sR_congr fun n hn => by
      rw [sL_map, sL_range]
      have : sR (c + 1 - n) (fun k => if fullQ [c] [(1, a), (1, b)] i [n, k] = true then wQ [(1, a), (1, b)] [n, k] else 0) = sR (c + 1 - n) (fun k => if k = c - n then ex a n * ex b k else 0) := sR_congr fun k hk => by
        have hf : fullQ [c] [(1, a), (1, b)] i [n, k] = decide (k = c - n) := by
          unfold fullQ
          rw [fits_1]
          have hu : used (incS [n, k] i) [(1, a), (1, b)] 0 = n + k + 1 := by
            have hi' : i = 0 ∨ i = 1 := by omega
            rcases hi' with rfl | rfl
            · rw [show incS [n, k] 0 = [n + 1, k] from rfl, used_t]; omega
            · rw [show incS [n, k] 1 = [n, k + 1] from rfl, used_t]; omega
          rw [hu]
          by_cases h : k = c - n
          · rw [decide_eq_false (by omega), decide_eq_true h]; rfl
          · rw [decide_eq_true (by omega), decide_eq_false h]; rfl
        rw [hf]
        by_cases h : k = c - n
        · rw [if_pos (decide_eq_true h), if_pos h]; show ex a n * (ex b k * 1) = _; grind
        · rw [if_neg (by rw [decide_eq_false h]; simp), if_neg h]
      rw [this, sR_ind (c - n) (fun k => ex a n * ex b k), if_pos (by omega)]
    rw [this]
    exact conv_ex a b c
  rw [e1, e2]
/-! two parts -/
def dbl (r : RQ) : RQ := (2 * r.1, r.2)
theorem bit_dbl0 (b : Nat) : bit (2 * b) 0 = false := by
  unfold bit
  rw [decide_eq_false]
  rw [Nat.pow_zero, Nat.div_one]; omega
theorem bit_dbl (b l : Nat) : bit (2 * b) (l + 1) = bit b l := by
  unfold bit
  rw [Nat.pow_succ, Nat.mul_comm (2 ^ l) 2, ← Nat.div_div_eq_div_mul, Nat.mul_div_cancel_left _ (by decide)]
theorem bit_one (l : Nat) : bit 1 (l + 1) = false := by
  unfold bit
  rw [decide_eq_false]
  rw [Nat.div_eq_of_lt (Nat.one_lt_two_pow (by omega))]; decide
theorem used_dbl0 : ∀ (st : List Nat) (rs : List RQ), used st (rs.map dbl) 0 = 0
  | [], [] => rfl
  | [], _ :: _ => rfl
  | _ :: _, [] => rfl
  | n :: st, r :: rs => by
    show (if bit (2 * r.1) 0 = true then n else 0) + used st (rs.map dbl) 0 = 0
    rw [bit_dbl0, used_dbl0 st rs]; rfl
theorem used_dbl (l : Nat) : ∀ (st : List Nat) (rs : List RQ), used st (rs.map dbl) (l + 1) = used st rs l
  | [], [] => rfl
  | [], _ :: _ => rfl
  | _ :: _, [] => rfl
  | n :: st, r :: rs => by
    show (if bit (2 * r.1) (l + 1) = true then n else 0) + used st (rs.map dbl) (l + 1) = (if bit r.1 l = true then n else 0) + used st rs l
    rw [bit_dbl, used_dbl l st rs]
abbrev jn (q : Rat) (rs : List RQ) : List RQ := (1, q) :: rs.map dbl
theorem fits_jn {c n : Nat} {q : Rat} {caps : List Nat} {rs : List RQ} {st : List Nat} : fitsQ (c :: caps) (jn q rs) (n :: st) = (decide (n ≤ c) && fitsQ caps rs st) := by
  rw [Bool.eq_iff_iff, Bool.and_eq_true, decide_eq_true_eq, fits_iff, fits_iff]
  have u0 : used (n :: st) (jn q rs) 0 = n := by
    rw [used_1, used_dbl0]; rfl
  have u1 : ∀ l, used (n :: st) (jn q rs) (l + 1) = used st rs l := fun l => by
    show (if bit 1 (l + 1) = true then n else 0) + used st (rs.map dbl) (l + 1) = _
    rw [bit_one, used_dbl, if_neg (by simp), Nat.zero_add]
  constructor
  · intro h
    refine ⟨by have := h 0 c rfl; rw [u0] at this; exact this, fun l c' hc => ?_⟩
    have := h (l + 1) c' hc
    rw [u1] at this
    exact this
  · rintro ⟨h1, h2⟩ l c' hc
    cases l with
    | zero =>
      have e : c = c' := Option.some.inj hc
      rw [u0, ← e]; exact h1
    | succ l =>
      rw [u1]
      exact h2 l c' hc
theorem w_dbl : ∀ (rs : List RQ) (st : List Nat), wQ (rs.map dbl) st = wQ rs st
  | [], st => by cases st <;> rfl
  | r :: rs, [] => rfl
  | r :: rs, n :: st => by
    show ex r.2 n * wQ (rs.map dbl) st = ex r.2 n * wQ rs st
    rw [w_dbl rs st]
theorem w_jn {q : Rat} {rs : List RQ} {n : Nat} {st : List Nat} : wQ (jn q rs) (n :: st) = ex q n * wQ rs st := by
  show ex q n * wQ (rs.map dbl) st = _
  rw [w_dbl]
section
variable {c : Nat} {q : Rat} {caps : List Nat} {rs : List RQ}
theorem states_jn (N : Net (c :: caps) (jn q rs) 6) : ∀ k, k ≤ rs.length → statesQ (c :: caps) (jn q rs) 6 (k + 1) = (List.range (c + 1)).flatMap fun n => (statesQ caps rs 6 k).map (n :: ·)
  | 0, _ => by
    show [[]].flatMap (nextQ (c :: caps) (jn q rs) 6) = _
    rw [List.flatMap_cons, List.flatMap_nil, List.append_nil]
    have e : nextQ (c :: caps) (jn q rs) 6 [] = (List.range (c + 1)).map fun n => [n] := next_eq N.le N.rr (by show 0 < _ + 1; omega) (fun m hm => by
      rw [show ([] : List Nat) ++ [m] = m :: [] from rfl, fits_jn, fits_nil, decide_eq_true (by omega)]; rfl) (by
      rw [show ([] : List Nat) ++ [c + 1] = (c + 1) :: [] from rfl, fits_jn, decide_eq_false (by omega)]; rfl)
    rw [e]
    have : ∀ l : List Nat, (l.map fun n => [n]) = l.flatMap fun n => (statesQ caps rs 6 0).map (n :: ·) := by
      intro l
      induction l with
      | nil => rfl
      | cons x l ih => rw [List.map_cons, List.flatMap_cons, ih]; rfl
    exact this _
  | k + 1, hk => by
    show (statesQ (c :: caps) (jn q rs) 6 (k + 1)).flatMap (nextQ (c :: caps) (jn q rs) 6) = _
    rw [states_jn N k (by omega), List.flatMap_assoc]
    have key : ∀ l : List Nat, (∀ n ∈ l, n < c + 1) → l.flatMap (fun n => ((statesQ caps rs 6 k).map (n :: ·)).flatMap (nextQ (c :: caps) (jn q rs) 6)) = l.flatMap fun n => (statesQ caps rs 6 (k + 1)).map (n :: ·) := by
      intro l
      induction l with
      | nil => intro _; rfl
      | cons n l ih =>
        intro h
        have hn := h n List.mem_cons_self
        rw [List.flatMap_cons, List.flatMap_cons, ih fun x hx => h x (List.mem_cons_of_mem _ hx)]
        congr 1
        show _ = ((statesQ caps rs 6 k).flatMap (nextQ caps rs 6)).map (n :: ·)
        rw [List.flatMap_map, List.map_flatMap]
        congr 1
        funext s
        unfold nextQ
        have hf : (fun m => fitsQ (c :: caps) (jn q rs) (n :: s ++ [m])) = fun m => fitsQ caps rs (s ++ [m]) := by
          funext m
          rw [List.cons_append, fits_jn, decide_eq_true (by omega), Bool.true_and]
        rw [hf, List.map_map]
        rfl
    exact key _ fun n hn => List.mem_range.mp hn
theorem St_jn (N : Net (c :: caps) (jn q rs) 6) : StQ (c :: caps) (jn q rs) = (List.range (c + 1)).flatMap fun n => (StQ caps rs).map (n :: ·) := by
  have h := states_jn N rs.length (Nat.le_refl _)
  have e : (jn q rs).length = rs.length + 1 := by rw [List.length_cons, List.length_map]
  unfold StQ
  rw [e]; exact h
theorem tot_jn (N : Net (c :: caps) (jn q rs) 6) : totQ (c :: caps) (jn q rs) = sR (c + 1) (ex q) * totQ caps rs := by
  unfold totQ
  rw [St_jn N, sL_flat, sL_range]
  have : sR (c + 1) (fun n => sL (wQ (jn q rs)) ((StQ caps rs).map (n :: ·))) = sR (c + 1) (fun n => sL (wQ rs) (StQ caps rs) * ex q n) := sR_congr fun n _ => by
    rw [sL_map]
    have : sL (fun x => wQ (jn q rs) (n :: x)) (StQ caps rs) = sL (fun x => ex q n * wQ rs x) (StQ caps rs) := sL_congr fun st _ => w_jn
    rw [this, sL_mul]; grind
  rw [this, sR_mulc]; grind
theorem loss_jn0 (N : Net (c :: caps) (jn q rs) 6) (N2 : Net caps rs 6) : lossQ (c :: caps) (jn q rs) 0 = erl q c := by
  unfold lossQ erl
  rw [tot_jn N]
  have e2 : sL (wQ (jn q rs)) ((StQ (c :: caps) (jn q rs)).filter (fullQ (c :: caps) (jn q rs) 0)) = ex q c * totQ caps rs := by
    rw [sL_filter, St_jn N, sL_flat, sL_range]
    have : sR (c + 1) (fun n => sL (fun x => if fullQ (c :: caps) (jn q rs) 0 x = true then wQ (jn q rs) x else 0) ((StQ caps rs).map (n :: ·))) = sR (c + 1) (fun n => if n = c then ex q n * totQ caps rs else 0) := sR_congr fun n hn => by
      rw [sL_map]
      have hf : ∀ st ∈ StQ caps rs, fullQ (c :: caps) (jn q rs) 0 (n :: st) = decide (n = c) := fun st hst => by
        have hst := ((St_mem N2).mp hst).2
        unfold fullQ
        show (!fitsQ (c :: caps) (jn q rs) ((n + 1) :: st)) = _
        rw [fits_jn, hst, Bool.and_true]
        by_cases h : n = c
        · subst h
          rw [decide_eq_false (by omega), decide_eq_true rfl]; rfl
        · rw [decide_eq_true (by omega), decide_eq_false h]; rfl
      by_cases h : n = c
      · rw [if_pos h]
        have : sL (fun x => if fullQ (c :: caps) (jn q rs) 0 (n :: x) = true then wQ (jn q rs) (n :: x) else 0) (StQ caps rs) = sL (fun x => ex q n * wQ rs x) (StQ caps rs) := sL_congr fun st hst => by
          rw [hf st hst, if_pos (decide_eq_true h)]; exact w_jn
        rw [this, sL_mul]; rfl
      · rw [if_neg h]
        have : sL (fun x => if fullQ (c :: caps) (jn q rs) 0 (n :: x) = true then wQ (jn q rs) (n :: x) else 0) (StQ caps rs) = sL (fun _ => 0) (StQ caps rs) := sL_congr fun st hst => by
          rw [hf st hst, if_neg (by rw [decide_eq_false h]; simp)]
        rw [this, sL_const]; grind
    rw [this, sR_ind c (fun n => ex q n * totQ caps rs), if_pos (by omega)]
  rw [e2]
  have t0 := tot_pos N2
  have s0 := tot_pos N
  rw [tot_jn N] at s0
  have s1 : sR (c + 1) (ex q) ≠ 0 := by intro z; rw [z] at s0; grind
  have k1 := Rat.div_mul_cancel (a := ex q c * totQ caps rs) (b := sR (c + 1) (ex q) * totQ caps rs) (by grind)
  have k2 := Rat.div_mul_cancel (a := ex q c) (b := sR (c + 1) (ex q)) s1
  generalize ex q c * totQ caps rs / (sR (c + 1) (ex q) * totQ caps rs) = A at *
  generalize ex q c / sR (c + 1) (ex q) = C at *
  have : (A - C) * (sR (c + 1) (ex q) * totQ caps rs) = 0 := by grind
  rcases Rat.mul_eq_zero.mp this with h | h
  · grind
  · grind
theorem loss_jnS (N : Net (c :: caps) (jn q rs) 6) (N2 : Net caps rs 6) (j : Nat) : lossQ (c :: caps) (jn q rs) (j + 1) = lossQ caps rs j := by
  unfold lossQ
  rw [tot_jn N]
  have e2 : sL (wQ (jn q rs)) ((StQ (c :: caps) (jn q rs)).filter (fullQ (c :: caps) (jn q rs) (j + 1))) = sR (c + 1) (ex q) * sL (wQ rs) ((StQ caps rs).filter (fullQ caps rs j)) := by
    rw [sL_filter, St_jn N, sL_flat, sL_range]
    have : sR (c + 1) (fun n => sL (fun x => if fullQ (c :: caps) (jn q rs) (j + 1) x = true then wQ (jn q rs) x else 0) ((StQ caps rs).map (n :: ·))) = sR (c + 1) (fun n => sL (wQ rs) ((StQ caps rs).filter (fullQ caps rs j)) * ex q n) := sR_congr fun n hn => by
      rw [sL_map]
      have hf : ∀ st, fullQ (c :: caps) (jn q rs) (j + 1) (n :: st) = fullQ caps rs j st := fun st => by
        unfold fullQ
        show (!fitsQ (c :: caps) (jn q rs) (n :: incS st j)) = _
        rw [fits_jn, decide_eq_true (by omega), Bool.true_and]
      have : sL (fun x => if fullQ (c :: caps) (jn q rs) (j + 1) (n :: x) = true then wQ (jn q rs) (n :: x) else 0) (StQ caps rs) = sL (fun x => ex q n * (if fullQ caps rs j x = true then wQ rs x else 0)) (StQ caps rs) := sL_congr fun st hst => by
        rw [hf st]
        split
        · exact w_jn
        · grind
      rw [this, sL_mul, sL_filter]; grind
    rw [this, sR_mulc]; grind
  rw [e2]
  have t0 := tot_pos N2
  have s0 := tot_pos N
  rw [tot_jn N] at s0
  have s1 : sR (c + 1) (ex q) ≠ 0 := by intro z; rw [z] at s0; grind
  generalize sL (wQ rs) ((StQ caps rs).filter (fullQ caps rs j)) = L
  have k1 := Rat.div_mul_cancel (a := sR (c + 1) (ex q) * L) (b := sR (c + 1) (ex q) * totQ caps rs) (by grind)
  have k2 := Rat.div_mul_cancel (a := L) (b := totQ caps rs) (by grind)
  generalize sR (c + 1) (ex q) * L / (sR (c + 1) (ex q) * totQ caps rs) = A at *
  generalize L / totQ caps rs = C at *
  have : (A - C) * (sR (c + 1) (ex q) * totQ caps rs) = 0 := by grind
  rcases Rat.mul_eq_zero.mp this with h | h
  · grind
  · grind
end
end Law
set_option exponentiation.threshold 5000
namespace Law
open PySem PySem.Spec PyProof.Rows L2 Den
/-! too many states -/
def wideC : D := .tuple [.int 20, .int 20, .int 20, .int 20]
def wideR : D := .tuple [.tuple [.int 1, .tuple [.int 1, .int 1]], .tuple [.int 2, .tuple [.int 1, .int 1]], .tuple [.int 4, .tuple [.int 1, .int 1]]]

def capsW : List Nat := [20, 20, 20, 20]
def rsW : List RQ := [(1, 1), (2, 1), (4, 1)]
theorem wideC_e : wideC = capsD capsW := rfl
theorem wideR_e : wideR = routesD rsW := by kernel_rfl
theorem while_ex {t : EM Bool} {c : SM} {n : Nat} {rho r : Den.Env} {m m1 m' : Mem} {x : Exc} (h : t rho m = .ok true m1) (h2 : c rho m1 = .ex x r m') : whileN t c (n + 1) rho m = .ex x r m' := by
  show (t rho m).thenS rho _ = _
  rw [h]
  show (match c rho m1 with | .nx r m' => whileN t c n r m' | .ct r m' => whileN t c n r m' | .bk r m' => .nx r m' | o => o) = _
  rw [h2]
theorem for_ex {g : GM} {c : SM} {x : D} {xs : List D} {rho r1 r : Den.Env} {m m1 m' : Mem} {e : Exc} (h : g (.d x) rho m = some (r1, m1)) (h2 : c r1 m1 = .ex e r m') : forL g c (x :: xs) rho m = .ex e r m' := by
  show (match g (.d x) rho m with | some (r1, m1) => _ | none => _) = _
  rw [h]
  show (match c r1 m1 with | .nx r m' => forL g c xs r m' | .ct r m' => forL g c xs r m' | .bk r m' => .nx r m' | o => o) = _
  rw [h2]
theorem seq_ex {c d : SM} {rho r : Den.Env} {m m' : Mem} {x : Exc} (h : c rho m = .ex x r m') : sSeq c d rho m = .ex x r m' := by rw [e_Seq, h]
section
variable {m : Mem} {caps : List Nat} {rs : List RQ} {B : Nat}
theorem lsC_ex {s : List Nat} {n : Nat} (hs : s.length ≤ 100) {X : List D} (hX : X.length = 2000) {x2 x3 : Option W} : ∃ r y, lsC (lsE caps rs x2 x3 (some (.r m.length)) (some (.d (stD s))) (some (.d (nD n)))) (m ++ [some (.list X)]) = .ex (.own "TooLarge") r (m ++ [y]) := by
  have t1 := app_run (i := 4) (rho := lsE caps rs x2 x3 (some (.r m.length)) (some (.d (stD s))) (some (.d (nD n)))) (m := m ++ [some (.list X)]) (h := m.length) (ds := X) rfl (get_last m _) (more_run hs) (by omega)
  rw [set_last] at t1
  have t2 := aug_run (m := m ++ [some (.list (X ++ [stD (s ++ [n])]))]) (i := 6) (f := fun i j => i + j) (y := 1) (rho := lsE caps rs x2 x3 (some (.r m.length)) (some (.d (stD s))) (some (.d (nD n)))) (x := (n : Int)) rfl
  have t3 : mBool (mOp2 (mB (mCons (mVar 4) (mNil)) (fD1 lenD)) (mC (.int 2000)) (lift2 gtD)) (lsE caps rs x2 x3 (some (.r m.length)) (some (.d (stD s))) (some (.d (nD (n + 1))))) (m ++ [some (.list (X ++ [stD (s ++ [n])]))]) = .ok true (m ++ [some (.list (X ++ [stD (s ++ [n])]))]) := by
    have b := b_run (fm := fD1 lenD) (cons_run (a := mVar 4) (rho := lsE caps rs x2 x3 (some (.r m.length)) (some (.d (stD s))) (some (.d (nD (n + 1))))) (m := m ++ [some (.list (X ++ [stD (s ++ [n])]))]) (w := .r m.length) (var_run rfl) nil_run) (w := .d (.int ((X ++ [stD (s ++ [n])]).length : Nat))) (m2 := m ++ [some (.list (X ++ [stD (s ++ [n])]))]) (by
      rw [val_r, f_D1, peek_r, get_last]; rfl)
    refine bool_run (op_run b const_run (lift2_run (f := gtD) rfl rfl ?_))
    rw [gt_i, decide_eq_true (by rw [List.length_append, List.length_singleton]; omega)]
  refine ⟨lsE caps rs x2 x3 (some (.r m.length)) (some (.d (stD s))) (some (.d (nD (n + 1)))), some (.list (X ++ [stD (s ++ [n])])), ?_⟩
  unfold lsC
  rw [seq_run t1, seq_run t2]
  have e : (lsE caps rs x2 x3 (some (.r m.length)) (some (.d (stD s))) (some (.d (nD n)))).set 6 (some (.d (.int ((n : Int) + 1)))) = lsE caps rs x2 x3 (some (.r m.length)) (some (.d (stD s))) (some (.d (nD (n + 1)))) := rfl
  rw [e]
  refine seq_ex ?_
  rw [if_yes t3]; rfl
theorem lsW_ex {s : List Nat} {k : Nat} (hs : s.length = k) (hk : k ≤ 100) {x2 : Option W} : ∀ (d fuel n : Nat) (X : List D), X.length + d = 2000 → d < fuel → (∀ i, i ≤ n + d → fitsQ caps rs (s ++ [i]) = true) →
    ∃ r y, whileN lsT lsC fuel (lsE caps rs x2 (some (.d (nD k))) (some (.r m.length)) (some (.d (stD s))) (some (.d (nD n)))) (m ++ [some (.list X)]) = .ex (.own "TooLarge") r (m ++ [y])
  | d, 0, n, X, _, hf, _ => by omega
  | 0, fuel + 1, n, X, hX, _, h => by
    obtain ⟨r, y, e⟩ := lsC_ex (m := m) (caps := caps) (rs := rs) (s := s) (n := n) (by omega) (X := X) (by omega) (x2 := x2) (x3 := some (.d (nD k)))
    exact ⟨r, y, while_ex (m1 := m ++ [some (.list X)]) (by rw [lsT_run hs hk, h n (by omega)]) e⟩
  | d + 1, fuel + 1, n, X, hX, hf, h => by
    obtain ⟨r, y, e⟩ := lsW_ex hs hk (x2 := x2) d fuel (n + 1) (X ++ [stD (s ++ [n])]) (by rw [List.length_append, List.length_singleton]; omega) (by omega) (fun i hi => h i (by omega))
    exact ⟨r, y, by rw [while_step (m1 := m ++ [some (.list X)]) (by rw [lsT_run hs hk, h n (by omega)]) (lsC_run (by omega) (by omega)), e]⟩
theorem lsI_ex {s : List Nat} {k : Nat} (hs : s.length = k) (hk : k ≤ 100) (h : ∀ i, i ≤ B → fitsQ caps rs (s ++ [i]) = true) {X : List D} (hX : X.length ≤ 2000) (hX2 : 2000 < X.length + (B + 1)) {x2 x6 : Option W} : ∃ r y, lsI (lsE caps rs x2 (some (.d (nD k))) (some (.r m.length)) (some (.d (stD s))) x6) (m ++ [some (.list X)]) = .ex (.own "TooLarge") r (m ++ [y]) := by
  obtain ⟨r, y, e⟩ := lsW_ex (m := m) (x2 := x2) hs hk (2000 - X.length) 1000000 0 X (by omega) (by omega) (fun i hi => h i (by omega))
  rw [← while_def] at e
  have t1 : sSet 6 (mC (.int 0)) (lsE caps rs x2 (some (.d (nD k))) (some (.r m.length)) (some (.d (stD s))) x6) (m ++ [some (.list X)]) = .nx (lsE caps rs x2 (some (.d (nD k))) (some (.r m.length)) (some (.d (stD s))) (some (.d (nD 0)))) (m ++ [some (.list X)]) := rfl
  refine ⟨r, y, ?_⟩
  unfold lsI
  rw [seq_run t1, seq_ex e]
theorem ls_go_ex (hc : ∀ c ∈ caps, c ≤ B) (hB : B ≤ 1000) (hr : ∀ r ∈ rs, 0 < r.1 ∧ r.1 < 2 ^ caps.length) {k : Nat} (hk : k < rs.length) (hk2 : k ≤ 100) {x2 : Option W} : ∀ (ss : List (List Nat)) (X : List D) (x5 x6 : Option W), (∀ s ∈ ss, s.length = k ∧ ∀ i, i ≤ B → fitsQ caps rs (s ++ [i]) = true) → X.length ≤ 2000 → 2000 < X.length + ss.length * (B + 1) →
    ∃ r y, forL (gN 5) lsI (ss.map stD) (lsE caps rs x2 (some (.d (nD k))) (some (.r m.length)) x5 x6) (m ++ [some (.list X)]) = .ex (.own "TooLarge") r (m ++ [y])
  | [], X, x5, x6, _, h1, h2 => by simp at h2; omega
  | s :: ss, X, x5, x6, hs, hX, hX2 => by
    obtain ⟨hl, hf⟩ := hs s List.mem_cons_self
    have g0 : gN 5 (.d (stD s)) (lsE caps rs x2 (some (.d (nD k))) (some (.r m.length)) x5 x6) (m ++ [some (PyData.list X)]) = some (lsE caps rs x2 (some (.d (nD k))) (some (.r m.length)) (some (.d (stD s))) x6, m ++ [some (PyData.list X)]) := rfl
    rw [List.length_cons, Nat.add_mul, Nat.one_mul] at hX2
    by_cases h : X.length + (B + 1) ≤ 2000
    · obtain ⟨y6, e1⟩ := lsI_run (m := m) (x2 := x2) (x6 := x6) hc hB hr hl hk hk2 (X := X) h
      have hn : (nextQ caps rs B s).length = B + 1 := by
        unfold nextQ
        rw [List.length_map, List.filter_eq_self.mpr fun i hi => hf i (by have := List.mem_range.mp hi; omega), List.length_range]
      obtain ⟨r, y, e2⟩ := ls_go_ex hc hB hr hk hk2 (x2 := x2) ss (X ++ (nextQ caps rs B s).map stD) (some (.d (stD s))) y6 (fun t ht => hs t (List.mem_cons_of_mem _ ht)) (by rw [List.length_append, List.length_map]; omega) (by rw [List.length_append, List.length_map]; omega)
      exact ⟨r, y, by rw [List.map_cons, for_step g0 e1, e2]⟩
    · obtain ⟨r, y, e⟩ := lsI_ex (m := m) (caps := caps) (rs := rs) (B := B) hl hk2 hf hX (by omega) (x2 := x2) (x6 := x6)
      exact ⟨r, y, by rw [List.map_cons, for_ex g0 e]⟩
end
theorem fits_W2 {s : List Nat} (hl : s.length = 2) (hs : fitsQ capsW rsW s = true) {i : Nat} (hi : i ≤ 20) : fitsQ capsW rsW (s ++ [i]) = true := by
  match s, hl with
  | [a, b], _ =>
    rw [fits_iff] at hs ⊢
    intro l c hc
    have h := hs l c hc
    rw [used_app]
    have hl : l < 4 := (List.getElem?_eq_some_iff.mp hc).1
    have hc20 : c = 20 := by
      have hl' : l = 0 ∨ l = 1 ∨ l = 2 ∨ l = 3 := by omega
      rcases hl' with rfl | rfl | rfl | rfl <;> exact (Option.some.inj hc).symm
    have hl' : l = 0 ∨ l = 1 ∨ l = 2 ∨ l = 3 := by omega
    have u : ∀ l, used [a, b] rsW l = (if bit 1 l = true then a else 0) + ((if bit 2 l = true then b else 0) + 0) := fun l => rfl
    have ad : ∀ l, addB rsW [a, b].length l i = if bit 4 l = true then i else 0 := fun l => rfl
    rw [u] at h ⊢
    rw [ad]
    rcases hl' with rfl | rfl | rfl | rfl
    · rw [show bit 4 0 = false by unfold bit; decide] at *; simpa using h
    · rw [show bit 4 1 = false by unfold bit; decide] at *; simpa using h
    · rw [show bit 1 2 = false by unfold bit; decide, show bit 2 2 = false by unfold bit; decide]
      simp; split <;> omega
    · rw [show bit 4 3 = false by unfold bit; decide] at *; simpa using h
theorem W_len : (statesQ capsW rsW 20 2).length = 441 := by kernel_rfl
theorem run_ex {N : Nat} {c : SM} {ws : List W} {m m' : Mem} {x : Exc} {rho r : Den.Env} (h0 : startE N ws = rho) (h : c rho m = .ex x r m') (hl : m'.take m.length = m) : runF N c ws m = .ex x m := by
  unfold runF
  rw [h0, h]
  show Rs.ex x (m'.take m.length) = _
  rw [hl]
section
variable {m : Mem}
theorem W_c : ∀ c ∈ capsW, c ≤ 20 := by decide
theorem W_r : ∀ r ∈ rsW, 0 < r.1 ∧ r.1 < 2 ^ capsW.length := by
  intro r hr
  unfold rsW at hr
  simp only [List.mem_cons, List.not_mem_nil, or_false] at hr
  rcases hr with rfl | rfl | rfl <;> exact ⟨by decide, by decide⟩
theorem W_fit {s : List Nat} (h : s ∈ statesQ capsW rsW 20 2) : fitsQ capsW rsW s = true := ((mem_states W_c W_r (by show 2 ≤ 3; decide)).mp h).2
theorem wstates_ex : F_link_states_of [.d (capsD capsW), .d (routesD rsW)] m = .ex (.own "TooLarge") m := by
  have t1 : sSet 2 (mLst (mCons (mTup (mNil)) (mNil))) (lsE capsW rsW none none none none none) m = .nx (lsE capsW rsW (some (.d (ssD [[]]))) none none none none) m := rfl
  have rg := range1_any (m := m) (rho := lsE capsW rsW (some (.d (ssD [[]]))) none none none none) (a := mB (mCons (mVar 1) (mNil)) (fD1 lenD)) (n := 3) (b_run (cons_run (w := .d (routesD rsW)) (var_run rfl) nil_run) rfl) (by omega)
  obtain ⟨a3, a4, a5, a6, e0⟩ := lsO_run (m := m) (caps := capsW) (rs := rsW) (B := 20) W_c (by decide) W_r (k := 0) (by show 0 < 3; decide) (by decide) (ss := [[]]) (fun s hs => by rw [List.mem_singleton] at hs; rw [hs]; rfl) (by decide) (x4 := none) (x5 := none) (x6 := none)
  have c1 := states_count (caps := capsW) (rs := rsW) (B := 20) 1
  obtain ⟨b3, b4, b5, b6, e1⟩ := lsO_run (m := m ++ [none]) (caps := capsW) (rs := rsW) (B := 20) W_c (by decide) W_r (k := 1) (by show 1 < 3; decide) (by decide) (ss := statesQ capsW rsW 20 1) (fun s hs => states_len hs) (by omega) (x4 := a4) (x5 := a5) (x6 := a6)
  obtain ⟨r, y, e2⟩ := ls_go_ex (m := m ++ [none] ++ [none]) (caps := capsW) (rs := rsW) (B := 20) W_c (by decide) W_r (k := 2) (by show 2 < 3; decide) (by decide) (x2 := some (.d (ssD (statesQ capsW rsW 20 2)))) (statesQ capsW rsW 20 2) [] b5 b6 (fun s hs => ⟨states_len hs, fun i hi => fits_W2 (states_len hs) (W_fit hs) hi⟩) (by decide) (by rw [W_len]; decide)
  have s1 : sSetR 4 (mLst (mNil)) (lsE capsW rsW (some (.d (ssD (statesQ capsW rsW 20 2)))) (some (.d (nD 2))) b4 b5 b6) (m ++ [none] ++ [none]) = .nx (lsE capsW rsW (some (.d (ssD (statesQ capsW rsW 20 2)))) (some (.d (nD 2))) (some (.r (m ++ [none] ++ [none]).length)) b5 b6) (m ++ [none] ++ [none] ++ [some (.list [])]) := rfl
  have s2 := for_run (it := mItems (mVar 2)) (rho := lsE capsW rsW (some (.d (ssD (statesQ capsW rsW 20 2)))) (some (.d (nD 2))) (some (.r (m ++ [none] ++ [none]).length)) b5 b6) (m := m ++ [none] ++ [none] ++ [some (.list [])]) rfl e2
  have o2 : lsO (lsE capsW rsW (some (.d (ssD (statesQ capsW rsW 20 2)))) (some (.d (nD 2))) b4 b5 b6) (m ++ [none] ++ [none]) = .ex (.own "TooLarge") r (m ++ [none] ++ [none] ++ [y]) := by
    unfold lsO
    rw [seq_run s1, seq_ex s2]
  have f2 : forL (gN 3) lsO [.int 2] (lsE capsW rsW (some (.d (ssD (statesQ capsW rsW 20 2)))) b3 b4 b5 b6) (m ++ [none] ++ [none]) = .ex (.own "TooLarge") r (m ++ [none] ++ [none] ++ [y]) := for_ex (show gN 3 (.d (.int 2)) (lsE capsW rsW (some (.d (ssD (statesQ capsW rsW 20 2)))) b3 b4 b5 b6) (m ++ [none] ++ [none]) = some (lsE capsW rsW (some (.d (ssD (statesQ capsW rsW 20 2)))) (some (.d (nD 2))) b4 b5 b6, m ++ [none] ++ [none]) from rfl) o2
  have f1 := forN_step (i := 3) (x := nD 1) (xs := [.int 2]) (rho := lsE capsW rsW (some (.d (ssD (statesQ capsW rsW 20 1)))) a3 a4 a5 a6) e1
  have f0 := forN_step (i := 3) (x := nD 0) (xs := [nD 1, .int 2]) (rho := lsE capsW rsW (some (.d (ssD [[]]))) none none none none) e0
  have t2 := for_run (g := gN 3) (c := lsO) rg (o := .ex (.own "TooLarge") r (m ++ [none] ++ [none] ++ [y])) (by
    rw [show ((List.range 3).map fun k : Nat => PyData.int (k : Int)) = [nD 0, nD 1, .int 2] from rfl]
    exact f0.trans (f1.trans f2))
  unfold F_link_states_of
  refine run_ex (r := r) (m' := m ++ [none] ++ [none] ++ [y]) (rho := lsE capsW rsW none none none none none) rfl ?_ (by rw [List.append_assoc, List.append_assoc, List.take_left])
  unfold m_link_states_of
  rw [seq_run t1, seq_ex t2]
theorem callX {rho : Den.Env} {m m1 m2 m3 : Mem} {a b : EM W} {fm : List W → Mem → Rs W} {w1 w2 : W} {x : Exc} (h1 : a rho m = .ok w1 m1) (h2 : b rho m1 = .ok w2 m2) (h3 : fm [val w1, val w2] m2 = .ex x m3) : mCall 2 fm (mCons a (mCons b (mNil))) rho m = .ex x m3 := by
  rw [e_Call, cons_run h1 (cons_run h2 nil_run), ev_bind, if_pos (show [val w1, val w2].length = 2 from rfl), h3]
theorem wsharesof_ex : F_link_shares_of [.d (capsD capsW), .d (routesD rsW)] m = .ex (.own "TooLarge") m := by
  have c1 := mLC_all (it := mItems (mVar 1)) (vs := [3, 4]) (g := gT [gN 3, gN 4]) (t := tYesT) (a := mVar 4) (rho := [some (.d (capsD capsW)), some (.d (routesD rsW)), none, none, none, none, none, none, none]) (m := m) (m0 := m) rsW rD (fun r => rq r.2) rfl (by decide)
    fun r hr => ⟨[some (.d (capsD capsW)), some (.d (routesD rsW)), none, some (.d (nD r.1)), some (.d (rq r.2)), none, none, none, none], rfl, rfl, .d (rq r.2), rfl, rfl⟩
  generalize hL : PyData.list (rsW.map fun r => rq r.2) = L at c1
  have t1 := set_run2 (i := 2) c1 (rho' := [some (.d (capsD capsW)), some (.d (routesD rsW)), some (.d L), none, none, none, none, none, none]) rfl
  have q : mItems (mCall 2 F_link_states_of (mCons (mVar 0) (mCons (mVar 1) (mNil)))) [some (.d (capsD capsW)), some (.d (routesD rsW)), some (.d L), none, none, none, none, none, none] m = .ex (.own "TooLarge") m := by
    rw [e_Items, callX (w1 := .d (capsD capsW)) (w2 := .d (routesD rsW)) rfl rfl wstates_ex]; rfl
  have t2 : ∀ c : EM W, sSet 5 (mLC (mItems (mCall 2 F_link_states_of (mCons (mVar 0) (mCons (mVar 1) (mNil))))) [6] (gN 6) (tYesT) c) [some (.d (capsD capsW)), some (.d (routesD rsW)), some (.d L), none, none, none, none, none, none] m = .ex (.own "TooLarge") [some (.d (capsD capsW)), some (.d (routesD rsW)), some (.d L), none, none, none, none, none, none] m := fun c => by
    rw [e_Set]
    unfold mLC mComp
    rw [q]; rfl
  unfold F_link_shares_of
  refine run_ex (r := [some (.d (capsD capsW)), some (.d (routesD rsW)), some (.d L), none, none, none, none, none, none]) (m' := m) (rho := [some (.d (capsD capsW)), some (.d (routesD rsW)), none, none, none, none, none, none, none]) rfl ?_ (List.take_length ..)
  unfold m_link_shares_of
  rw [seq_run t1, seq_ex (t2 _)]
theorem wcheck (u v y z : Option D) : F_check_links [.d (capsD capsW), .d (routesD rsW)] [u, v, y, z] = .ok (.d .none) [u, v, y, z] := by kernel_rfl
theorem wshares_ex (u v y z : Option D) : F_link_shares [.d (capsD capsW), .d (routesD rsW)] [u, v, y, z] = .ex (.own "TooLarge") [u, v, y, z] := by
  have t1 : sDrop (mCall 2 F_check_links (mCons (mVar 0) (mCons (mVar 1) (mNil)))) [some (.d (capsD capsW)), some (.d (routesD rsW))] [u, v, y, z] = .nx [some (.d (capsD capsW)), some (.d (routesD rsW))] [u, v, y, z] := by
    rw [e_Drop, call2_run (fm := F_check_links) (a := mVar 0) (b := mVar 1) (rho := [some (.d (capsD capsW)), some (.d (routesD rsW))]) (m := [u, v, y, z]) rfl rfl (wcheck u v y z)]; rfl
  unfold F_link_shares
  refine run_ex (r := [some (.d (capsD capsW)), some (.d (routesD rsW))]) (m' := [u, v, y, z]) (rho := [some (.d (capsD capsW)), some (.d (routesD rsW))]) rfl ?_ rfl
  unfold m_link_shares
  rw [seq_run t1]
  refine seq_ex ?_
  rw [e_Ret, callX (fm := F_link_shares_of) (a := mVar 0) (b := mVar 1) (rho := [some (.d (capsD capsW)), some (.d (routesD rsW))]) (m := [u, v, y, z]) rfl rfl wsharesof_ex]; rfl
theorem wlosses_ex (u v y z : Option D) : F_link_losses [.d (capsD capsW), .d (routesD rsW)] [u, v, y, z] = .ex (.own "TooLarge") [u, v, y, z] := by
  have t1 : sDrop (mCall 2 F_check_links (mCons (mVar 0) (mCons (mVar 1) (mNil)))) (loV capsW rsW none none none none none none none) [u, v, y, z] = .nx (loV capsW rsW none none none none none none none) [u, v, y, z] := by
    rw [e_Drop, call2_run (fm := F_check_links) (a := mVar 0) (b := mVar 1) (rho := loV capsW rsW none none none none none none none) (m := [u, v, y, z]) rfl rfl (wcheck u v y z)]; rfl
  have t2 : sSet 2 (mCall 2 F_link_shares_of (mCons (mVar 0) (mCons (mVar 1) (mNil)))) (loV capsW rsW none none none none none none none) [u, v, y, z] = .ex (.own "TooLarge") (loV capsW rsW none none none none none none none) [u, v, y, z] := by
    rw [e_Set, callX (fm := F_link_shares_of) (a := mVar 0) (b := mVar 1) (rho := loV capsW rsW none none none none none none none) (m := [u, v, y, z]) rfl rfl wsharesof_ex]; rfl
  unfold F_link_losses
  refine run_ex (r := loV capsW rsW none none none none none none none) (m' := [u, v, y, z]) (rho := loV capsW rsW none none none none none none none) rfl ?_ rfl
  unfold m_link_losses
  rw [seq_run t1, seq_ex t2]
theorem ask0_ex {X Y : D} {M : Mem} (e : F_link_shares [.d X, .d Y] M = .ex (.own "TooLarge") M) : F__law_asked [.d (.int 0), .d X, .d Y] M = .ok (.d (.str "!large")) M := by
  unfold F__law_asked runF m__law_asked startE
  simp [e, fin, kindF]
theorem ask1_ex {X Y : D} {M : Mem} (e : F_link_losses [.d X, .d Y] M = .ex (.own "TooLarge") M) : F__law_asked [.d (.int 1), .d X, .d Y] M = .ok (.d (.str "!large")) M := by
  unfold F__law_asked runF m__law_asked startE
  simp [e, fin, kindF]
theorem wask0 (u v y z : Option D) : F__law_asked [.d (.int 0), .d wideC, .d wideR] [u, v, y, z] = .ok (.d (.str "!large")) [u, v, y, z] := by
  rw [wideC_e, wideR_e]
  exact ask0_ex (wshares_ex u v y z)
theorem wask1 (u v y z : Option D) : F__law_asked [.d (.int 1), .d wideC, .d wideR] [u, v, y, z] = .ok (.d (.str "!large")) [u, v, y, z] := by
  rw [wideC_e, wideR_e]
  exact ask1_ex (wlosses_ex u v y z)
end
end Law
set_option exponentiation.threshold 5000
namespace Law
open PySem PySem.Spec PyProof.Rows L2 Den
/-! the law's end, and the law -/
theorem shaped_rqs (l : List Rat) : SeqAt.shaped (.tuple (l.map rq)) = true := by
  unfold SeqAt.shaped
  have h1 := canLay_map l rq fun q _ => by
    have := shaped_rq q
    unfold SeqAt.shaped at this
    exact (Bool.and_eq_true_iff.mp this).1
  have h2 := depthAll_map l rq 1 fun q _ => by simp [rq, PyData.depth, PyData.depthAll]
  have e1 : (PyData.tuple (l.map rq)).canLay0 = true := by simp only [PyData.canLay0]; exact h1
  have e2 : (PyData.tuple (l.map rq)).depth ≤ 64 := by simp only [PyData.depth]; omega
  rw [e1, decide_eq_true e2]
  rfl
theorem eqvAll_rqs : ∀ l : List Rat, PyData.eqvAll (l.map rq) (l.map rq) = true
  | [] => by simp [PyData.eqvAll]
  | q :: l => by
    rw [List.map_cons]
    simp only [PyData.eqvAll]
    rw [eqv_rq, decide_eq_true rfl, eqvAll_rqs l]; rfl
theorem ne_rqs (l : List Rat) : neD (.tuple (l.map rq)) (.tuple (l.map rq)) = some (.d (.bool false)) := by
  show (if SeqAt.shaped (.tuple (l.map rq)) && SeqAt.shaped (.tuple (l.map rq)) then some (W.d (.bool (!PyData.eqv (.tuple (l.map rq)) (.tuple (l.map rq))))) else none) = _
  rw [shaped_rqs]
  simp only [PyData.eqv, eqvAll_rqs]
  rfl
theorem lossD_rqs (caps : List Nat) (rs : List RQ) : lossD caps rs = .tuple (((List.range rs.length).map (lossQ caps rs)).map rq) := by rw [List.map_map]; rfl
section
variable {b : Nat} {m : Mem} {x0 x2 x3 x5 x6 x7 x8 x9 x10 x11 x12 x13 x14 x15 : Option W}
theorem ld_den {p q : Rat} (hp : Ld p) (hq : Ld q) : (p + q).den < 2 ^ 5 := by
  have h := dv_add (dv_up (dv_den p) (Nat.dvd_mul_right p.den q.den)) (dv_up (dv_den q) (Nat.dvd_mul_left q.den p.den))
  have h1 := dv_le h (Nat.mul_pos p.den_pos q.den_pos)
  have h2 := Nat.mul_le_mul hp.qd hq.qd
  have : (2 : Nat) ^ 5 = 32 := rfl
  omega
theorem net_1 {c : Nat} (hc : 1 ≤ c ∧ c ≤ 6) {q : Rat} (h0 : 0 < q) (h1 : q ≤ 8) (hd : q.den < 2 ^ 5) : Net [c] [(1, q)] 6 :=
  ⟨Nat.le_refl _, by show 1 ≤ 4; decide, fun x hx => by rw [List.mem_singleton] at hx; subst hx; exact hc, by decide, Nat.le_refl _, by show 1 ≤ 3; decide, fun r hr => by rw [List.mem_singleton] at hr; subst hr; exact ⟨by show 0 < 1; decide, by show 1 < 2; decide⟩, fun r hr => by rw [List.mem_singleton] at hr; subst hr; exact h0, fun r hr => by rw [List.mem_singleton] at hr; subst hr; exact h1, fun r hr => by rw [List.mem_singleton] at hr; subst hr; exact hd⟩
theorem ld_q {q : Rat} (h : Ld q) : 0 < q ∧ q ≤ 8 ∧ q.den < 2 ^ 5 := ⟨h.q0, by have := h.q4; grind, by have := h.qd; have : (2 : Nat) ^ 5 = 32 := rfl; omega⟩
theorem net_2 {c : Nat} (hc : 1 ≤ c ∧ c ≤ 6) {p q : Rat} (hp : Ld p) (hq : Ld q) : Net [c] [(1, p), (1, q)] 6 := by
  have key : ∀ r ∈ [((1, p) : RQ), (1, q)], r.1 = 1 ∧ Ld r.2 := fun r hr => by
    rcases List.mem_cons.mp hr with rfl | hr
    · exact ⟨rfl, hp⟩
    · rw [List.mem_singleton] at hr; subst hr; exact ⟨rfl, hq⟩
  exact ⟨Nat.le_refl _, by show 1 ≤ 4; decide, fun x hx => by rw [List.mem_singleton] at hx; subst hx; exact hc, by decide, by show 1 ≤ 2; decide, by show 2 ≤ 3; decide, fun r hr => by rw [(key r hr).1]; exact ⟨by decide, by show 1 < 2; decide⟩, fun r hr => (ld_q (key r hr).2).1, fun r hr => (ld_q (key r hr).2).2.1, fun r hr => (ld_q (key r hr).2).2.2⟩
/-- the slots behind S12 -/
abbrev hE (x0 x2 x3 x5 x6 x7 x8 x9 x10 x11 x12 x13 x14 x15 x17 x18 x19 x20 x23 x24 x25 : Option W) : Den.Env := vE x0 x2 x3 x5 x6 x7 x8 x9 x10 x11 x12 x13 x14 x15 x17 x18 x19 x20 x23 x24 x25
abbrev ldD (p q : Rat) : D := .list [rq p, rq q]
theorem st13 (h : Dr b 1 m) : ∃ (c : Nat) (p q : Rat) (m' : Mem), S13 (hE x0 x2 x3 x5 x6 x7 x8 x9 x10 x11 x12 x13 x14 x15 none none none none none none none) m = .nx (hE x0 x2 x3 x5 x6 x7 x8 x9 x10 x11 x12 x13 x14 x15 (some (.d (nD c))) (some (.d (ldD p q))) none none none none none) m' ∧ (1 ≤ c ∧ c ≤ 6) ∧ Ld p ∧ Ld q ∧ Dr b 1 m' ∧ m'.length = m.length := by
  generalize hr : hE x0 x2 x3 x5 x6 x7 x8 x9 x10 x11 x12 x13 x14 x15 none none none none none none none = rho
  obtain ⟨c, m1, e1, c1, c6, d1, l1⟩ := draw1 (k := 1) (c := 6) (by decide) (rho := rho) h (by rw [← hr]; rfl)
  obtain ⟨acc, m', e, d, l, qs, rfl, hl, hq⟩ := mLC_inv (it := mRange1 (mC (.int 2))) (vs := [6]) (g := gN 6) (t := tYesT) (a := mCall 2 F__law_rate (mCons (mVar 1) (mCons (mC (.int 4)) (mNil)))) (rho := rho) (m := m1) (m0 := m1) (items := [.int 0, .int 1]) (fun i m1 acc => Dr b 1 m1 ∧ m1.length = m.length ∧ ∃ qs : List Rat, acc = qs.map rq ∧ qs.length = i ∧ ∀ q ∈ qs, Ld q) rfl (by decide) ⟨d1, l1, [], rfl, rfl, fun c hc => nomatch hc⟩
    fun i hi m1 acc hI => by
      obtain ⟨d, l, qs, rfl, hl, hq⟩ := hI
      generalize ([.int 0, .int 1] : List D)[i] = xi
      obtain ⟨q, m3, e3, hq3, d3, l3⟩ := lrate_ok d
      have t2 := call2_run (fm := F__law_rate) (a := mVar 1) (b := mC (.int 4)) (rho := (wipeE rho [6]).set 6 (some (.d xi))) (m := m1) (w1 := .r 1) (var_run (by rw [← hr]; rfl)) const_run e3
      refine ⟨(wipeE rho [6]).set 6 (some (.d xi)), true, m1, rfl, rfl, fun q => (nomatch q), fun _ => ⟨_, m3, rq q, m3, t2, rfl, d3, by omega, qs ++ [q], by rw [List.map_append]; rfl, by rw [List.length_append, hl]; rfl, ?_⟩⟩
      intro y hy
      rcases List.mem_append.mp hy with hy | hy
      · exact hq y hy
      · rw [List.mem_singleton] at hy; subst hy; exact hq3
  match qs, hl, hq with
  | [p, q], _, hq =>
    refine ⟨c, p, q, m', ?_, ⟨c1, by omega⟩, hq p (by simp), hq q (by simp), d, l⟩
    have t := par_run (i := 17) (j := 18) e1 e
    rw [show S13 = sPar 17 18 (mAdd (mC (.int 1)) (mMod (mB (mCons (mCall 1 F__law_next (mCons (mVar 1) (mNil))) (mNil)) (fD1 intD)) (mC (.int 6)))) (mLC (mRange1 (mC (.int 2))) [6] (gN 6) (tYesT) (mCall 2 F__law_rate (mCons (mVar 1) (mCons (mC (.int 4)) (mNil))))) from rfl, t, ← hr]
    rfl
theorem one_D (c : Nat) : capsD [c] = .tuple [nD c] := rfl
theorem st14 {c : Nat} {p q : Rat} (hc : 1 ≤ c ∧ c ≤ 6) (hp : Ld p) (hq : Ld q) : S14 (hE x0 x2 x3 x5 x6 x7 x8 x9 x10 x11 x12 x13 x14 x15 (some (.d (nD c))) (some (.d (ldD p q))) none none none none none) m = .nx (hE x0 x2 x3 x5 x6 x7 x8 x9 x10 x11 x12 x13 x14 x15 (some (.d (nD c))) (some (.d (ldD p q))) (some (.d (.tuple [rq (erl (p + q) c)]))) none none none none) m := by
  generalize hr : hE x0 x2 x3 x5 x6 x7 x8 x9 x10 x11 x12 x13 x14 x15 (some (.d (nD c))) (some (.d (ldD p q))) none none none none none = rho
  have h17 : mVar 17 rho m = .ok (.d (nD c)) m := by rw [← hr]; rfl
  have h18 : mVar 18 rho m = .ok (.d (ldD p q)) m := by rw [← hr]; rfl
  have i0 : mIx (mVar 18) (mC (.int 0)) rho m = .ok (.d (rq p)) m := ix_run h18 const_run rfl
  have i1 : mIx (mVar 18) (mC (.int 1)) rho m = .ok (.d (rq q)) m := ix_run h18 const_run rfl
  have N := net_1 hc (q := p + q) (by have := hp.q0; have := hq.q0; grind) (by have := hp.q4; have := hq.q4; grind) (ld_den hp hq)
  have s1 := ld_q hp
  have s2 := ld_q hq
  have ad := ladd_ok (m := m) (sz_q s1.1 s1.2.1 s1.2.2) (sz_q s2.1 s2.2.1 s2.2.2) (by decide)
  have t1 := tup_run (cons_run h17 nil_run) (xs := [nD c]) rfl rfl
  have t2 := tup_run (cons_run (a := mC (.int 1)) (w := .d (.int 1)) const_run (cons_run (call2_run (fm := F__law_add) i0 i1 ad) nil_run)) (xs := [.int 1, rq (p + q)]) rfl rfl
  have t3 := tup_run (cons_run t2 nil_run) (xs := [.tuple [.int 1, rq (p + q)]]) rfl rfl
  have e := losses_ok (m := m) N
  have el : lossD [c] [(1, p + q)] = .tuple [rq (erl (p + q) c)] := by
    rw [← loss_1 N]; rfl
  rw [el] at e
  refine set_run2 (call2_run (fm := F_link_losses) t1 t3 e) ?_
  rw [← hr]; rfl
theorem mul_two {x : D} : mulD (.tuple [x]) (.int 2) = some (.d (.tuple [x, x])) := rfl
theorem st15 {c : Nat} {p q : Rat} (hc : 1 ≤ c ∧ c ≤ 6) (hp : Ld p) (hq : Ld q) : S15 (hE x0 x2 x3 x5 x6 x7 x8 x9 x10 x11 x12 x13 x14 x15 (some (.d (nD c))) (some (.d (ldD p q))) (some (.d (.tuple [rq (erl (p + q) c)]))) none none none none) m = .nx (hE x0 x2 x3 x5 x6 x7 x8 x9 x10 x11 x12 x13 x14 x15 (some (.d (nD c))) (some (.d (ldD p q))) (some (.d (.tuple [rq (erl (p + q) c)]))) none none none none) m := by
  generalize hr : hE x0 x2 x3 x5 x6 x7 x8 x9 x10 x11 x12 x13 x14 x15 (some (.d (nD c))) (some (.d (ldD p q))) (some (.d (.tuple [rq (erl (p + q) c)]))) none none none none = rho
  have h17 : mVar 17 rho m = .ok (.d (nD c)) m := by rw [← hr]; rfl
  have h18 : mVar 18 rho m = .ok (.d (ldD p q)) m := by rw [← hr]; rfl
  have h19 : mVar 19 rho m = .ok (.d (.tuple [rq (erl (p + q) c)])) m := by rw [← hr]; rfl
  have i0 : mIx (mVar 18) (mC (.int 0)) rho m = .ok (.d (rq p)) m := ix_run h18 const_run rfl
  have i1 : mIx (mVar 18) (mC (.int 1)) rho m = .ok (.d (rq q)) m := ix_run h18 const_run rfl
  have N := net_2 hc hp hq
  have t1 := tup_run (cons_run h17 nil_run) (xs := [nD c]) rfl rfl
  have t2 := tup_run (cons_run (a := mC (.int 1)) (w := .d (.int 1)) const_run (cons_run i0 nil_run)) (xs := [.int 1, rq p]) rfl rfl
  have t3 := tup_run (cons_run (a := mC (.int 1)) (w := .d (.int 1)) const_run (cons_run i1 nil_run)) (xs := [.int 1, rq q]) rfl rfl
  have t4 := tup_run (cons_run t2 (cons_run t3 nil_run)) (xs := [.tuple [.int 1, rq p], .tuple [.int 1, rq q]]) rfl rfl
  have e := losses_ok (m := m) N
  have el : lossD [c] [(1, p), (1, q)] = .tuple [rq (erl (p + q) c), rq (erl (p + q) c)] := by
    show PyData.tuple [rq (lossQ [c] [(1, p), (1, q)] 0), rq (lossQ [c] [(1, p), (1, q)] 1)] = _
    rw [loss_2 N (by decide), loss_2 N (by decide)]
  rw [el] at e
  have u1 := call2_run (fm := F_link_losses) t1 t4 e
  have u2 := mul_run h19 (c := mC (.int 2)) const_run (lift2_run (f := mulD) rfl rfl mul_two)
  exact if_no (bool_run (op_run u1 u2 (lift2_run (f := neD) rfl rfl (ne_rqs [erl (p + q) c, erl (p + q) c]))))
theorem st16 {rs : List RQ} (hr1 : ∀ r ∈ rs, r.1 < 2 ^ 4) {x17 x18 x19 : Option W} : S16 (hE x0 x2 x3 (some (.d (routesD rs))) x6 x7 x8 x9 x10 x11 x12 x13 x14 x15 x17 x18 x19 none none none none) m = .nx (hE x0 x2 x3 (some (.d (routesD rs))) x6 x7 x8 x9 x10 x11 x12 x13 x14 x15 x17 x18 x19 (some (.d (routesD ((rs.take 2).map dbl)))) none none none) m := by
  have sl := sl_to (m := m) (rho := hE x0 x2 x3 (some (.d (routesD rs))) x6 x7 x8 x9 x10 x11 x12 x13 x14 x15 x17 x18 x19 none none none none) (a := mVar 5) (b := mC (.int 2)) (xs := rs.map rD) (k := 2) (var_run rfl) const_run
  rw [← List.map_take] at sl
  have c := mLC_all (it := mItems (mSl (mVar 5) (oNone) (oSome (mC (.int 2))))) (vs := [21, 22]) (g := gT [gN 21, gN 22]) (t := tYesT) (a := mTup (mCons (mMul (mC (.int 2)) (mVar 21)) (mCons (mVar 22) (mNil)))) (rho := hE x0 x2 x3 (some (.d (routesD rs))) x6 x7 x8 x9 x10 x11 x12 x13 x14 x15 x17 x18 x19 none none none none) (m := m) (m0 := m) (rs.take 2) rD (fun r => rD (dbl r)) (by rw [e_Items, sl]; rfl) (by rw [List.length_take]; omega)
    fun r hr => ⟨((hE x0 x2 x3 (some (.d (routesD rs))) x6 x7 x8 x9 x10 x11 x12 x13 x14 x15 x17 x18 x19 none none none none).set 21 (some (.d (nD r.1)))).set 22 (some (.d (rq r.2))), rfl, rfl, .d (rD (dbl r)), by
      have h1 := hr1 r (List.mem_of_mem_take hr)
      have e4 : (2 : Nat) ^ 4 = 16 := rfl
      have e100 : (2 : Nat) ^ 100 = 1267650600228229401496703205376 := by decide
      have mu := mul_run (a := mC (.int 2)) (c := mVar 21) (rho := ((hE x0 x2 x3 (some (.d (routesD rs))) x6 x7 x8 x9 x10 x11 x12 x13 x14 x15 x17 x18 x19 none none none none).set 21 (some (.d (nD r.1)))).set 22 (some (.d (rq r.2)))) (m := m) (w := .d (.int 2)) (w2 := .d (nD r.1)) (x := .d (nD (2 * r.1))) const_run (var_run rfl) (lift2_run (y := .int 2) (z := nD r.1) rfl rfl (by
        rw [show nD r.1 = .int (r.1 : Int) from rfl, mul_small (by decide) (by rw [Int.natAbs_natCast, e100]; omega)]
        rw [show nD (2 * r.1) = .int ((2 * r.1 : Nat) : Int) from rfl, Int.natCast_mul]; rfl))
      exact tup_run (cons_run mu (cons_run (a := mVar 22) (w := .d (rq r.2)) (var_run rfl) nil_run)) rfl rfl, rfl⟩
  refine set_run2 (tup_of c) ?_
  rw [show routesD ((rs.take 2).map dbl) = .tuple ((rs.take 2).map fun r => rD (dbl r)) by unfold routesD; rw [List.map_map]; rfl]
  rfl
theorem net_take {caps : List Nat} {rs : List RQ} (N : Net caps rs 6) : Net caps (rs.take 2) 6 :=
  ⟨N.c0, N.c1, N.cr, N.hB, by have := N.r0; rw [List.length_take]; omega, by have := N.r1; rw [List.length_take]; omega, fun r h => N.rr r (List.mem_of_mem_take h), fun r h => N.q0 r (List.mem_of_mem_take h), fun r h => N.q1 r (List.mem_of_mem_take h), fun r h => N.qd r (List.mem_of_mem_take h)⟩
theorem net_jn {c : Nat} (hc : 1 ≤ c ∧ c ≤ 6) {caps : List Nat} {rs : List RQ} (N : Net caps rs 6) (h3 : caps.length < 4) (h2 : rs.length ≤ 2) {q : Rat} (hq : Ld q) : Net (c :: caps) (jn q rs) 6 := by
  have key : ∀ r ∈ jn q rs, (0 < r.1 ∧ r.1 < 2 ^ (c :: caps).length) ∧ 0 < r.2 ∧ r.2 ≤ 8 ∧ r.2.den < 2 ^ 5 := fun r hr => by
    rcases List.mem_cons.mp hr with rfl | hr
    · refine ⟨⟨by show 0 < 1; decide, ?_⟩, ld_q hq⟩
      show 1 < 2 ^ (c :: caps).length
      exact Nat.one_lt_two_pow (by rw [List.length_cons]; omega)
    · obtain ⟨s, hs, rfl⟩ := List.mem_map.mp hr
      have h := N.rr s hs
      refine ⟨⟨by show 0 < 2 * s.1; omega, ?_⟩, N.rq3 s hs⟩
      show 2 * s.1 < 2 ^ (c :: caps).length
      rw [List.length_cons, Nat.pow_succ]; omega
  exact ⟨by rw [List.length_cons]; omega, by rw [List.length_cons]; omega, fun x hx => by
    rcases List.mem_cons.mp hx with rfl | hx
    · exact hc
    · exact N.cr x hx, by decide, by rw [List.length_cons]; omega, by rw [List.length_cons, List.length_map]; omega, fun r hr => (key r hr).1, fun r hr => (key r hr).2.1, fun r hr => (key r hr).2.2.1, fun r hr => (key r hr).2.2.2⟩
theorem st17 {caps : List Nat} {rs : List RQ} {k c : Nat} {p q : Rat} (N : Net caps rs 6) (hk : caps.length = k) (hc : 1 ≤ c ∧ c ≤ 6) (hp : Ld p) {x19 : Option W} : S17 (hE x0 (some (.d (nD k))) (some (.d (capsD caps))) (some (.d (routesD rs))) x6 x7 x8 x9 x10 x11 x12 x13 x14 x15 (some (.d (nD c))) (some (.d (ldD p q))) x19 (some (.d (routesD ((rs.take 2).map dbl)))) none none none) m = .nx (hE x0 (some (.d (nD k))) (some (.d (capsD caps))) (some (.d (routesD rs))) x6 x7 x8 x9 x10 x11 x12 x13 x14 x15 (some (.d (nD c))) (some (.d (ldD p q))) x19 (some (.d (routesD ((rs.take 2).map dbl)))) none none none) m := by
  generalize hr : hE x0 (some (.d (nD k))) (some (.d (capsD caps))) (some (.d (routesD rs))) x6 x7 x8 x9 x10 x11 x12 x13 x14 x15 (some (.d (nD c))) (some (.d (ldD p q))) x19 (some (.d (routesD ((rs.take 2).map dbl)))) none none none = rho
  have h2 : mVar 2 rho m = .ok (.d (nD k)) m := by rw [← hr]; rfl
  have h3 : mVar 3 rho m = .ok (.d (capsD caps)) m := by rw [← hr]; rfl
  have h5 : mVar 5 rho m = .ok (.d (routesD rs)) m := by rw [← hr]; rfl
  have h17 : mVar 17 rho m = .ok (.d (nD c)) m := by rw [← hr]; rfl
  have h18 : mVar 18 rho m = .ok (.d (ldD p q)) m := by rw [← hr]; rfl
  have h20 : mVar 20 rho m = .ok (.d (routesD ((rs.take 2).map dbl))) m := by rw [← hr]; rfl
  have c1 := N.c1
  have i0 : mIx (mVar 18) (mC (.int 0)) rho m = .ok (.d (rq p)) m := ix_run h18 const_run rfl
  have t0 : mBool (mOp2 (mVar 2) (mC (.int 3)) (lift2 ltD)) rho m = .ok (decide ((k : Int) < 3)) m := bool_run (op_run h2 const_run (lift2_run (f := ltD) rfl rfl rfl))
  by_cases hk3 : k < 3
  · rw [decide_eq_true (by omega)] at t0
    have N2 := net_take N
    have N3 := net_jn (c := c) hc N2 (by omega) (by rw [List.length_take]; omega) hp
    have N1 := net_1 hc (ld_q hp).1 (ld_q hp).2.1 (ld_q hp).2.2
    have l2 : (rs.take 2).length ≤ 2 := by rw [List.length_take]; omega
    have t1 := tup_run (cons_run h17 nil_run) (xs := [nD c]) rfl rfl
    have t2 := tup_run (cons_run (a := mC (.int 1)) (w := .d (.int 1)) const_run (cons_run i0 nil_run)) (xs := [.int 1, rq p]) rfl rfl
    have t3 := tup_run (cons_run t2 nil_run) (xs := [.tuple [.int 1, rq p]]) rfl rfl
    have a1 := add_run t1 h3 (x := .d (capsD (c :: caps))) (lift2_run (f := addD) (y := .tuple [nD c]) (z := .tuple (caps.map nD)) rfl rfl (by
      rw [add_t, if_pos (small_le (by rw [List.length_map, List.length_singleton]; omega))]; rfl))
    have a2 := add_run t3 h20 (x := .d (routesD (jn p (rs.take 2)))) (lift2_run (f := addD) (y := .tuple [.tuple [.int 1, rq p]]) (z := .tuple (((rs.take 2).map dbl).map rD)) rfl rfl (by
      rw [add_t, if_pos (small_le (by rw [List.length_map, List.length_map, List.length_singleton]; omega))]; rfl))
    have e1 := call2_run (fm := F_link_losses) a1 a2 (losses_ok (m := m) N3)
    have l1 := losses_ok (m := m) N1
    have d1 : lossD [c] [(1, p)] = .tuple [rq (lossQ [c] [(1, p)] 0)] := rfl
    rw [d1] at l1
    have e2 := call2_run (fm := F_link_losses) t1 t3 l1
    have sl := sl_to (a := mVar 5) (b := mC (.int 2)) (xs := rs.map rD) (k := 2) h5 const_run
    rw [← List.map_take] at sl
    have e3 := call2_run (fm := F_link_losses) h3 sl (losses_ok (m := m) N2)
    have el : (List.range (jn p (rs.take 2)).length).map (lossQ (c :: caps) (jn p (rs.take 2))) = [lossQ [c] [(1, p)] 0] ++ (List.range (rs.take 2).length).map (lossQ caps (rs.take 2)) := by
      rw [show (jn p (rs.take 2)).length = (rs.take 2).length + 1 by rw [List.length_cons, List.length_map], List.range_succ_eq_map, List.map_cons, loss_jn0 N3 N2, loss_1 N1, List.map_map]
      show erl p c :: _ = erl p c :: _
      congr 1
      exact List.map_congr_left fun j _ => loss_jnS N3 N2 j
    have e4 := add_run e2 e3 (x := .d (lossD (c :: caps) (jn p (rs.take 2)))) (lift2_run (f := addD) (y := .tuple [rq (lossQ [c] [(1, p)] 0)]) (z := lossD caps (rs.take 2)) rfl rfl (by
      rw [lossD_rqs (c :: caps), el, List.map_append, lossD_rqs caps]
      show (if small ([rq (lossQ [c] [(1, p)] 0)].length + (((List.range (rs.take 2).length).map (lossQ caps (rs.take 2))).map rq).length) = true then _ else none) = _
      rw [if_pos (small_le (by rw [List.length_map, List.length_map, List.length_range, List.length_singleton]; omega))]
      rfl))
    have hne : neD (lossD (c :: caps) (jn p (rs.take 2))) (lossD (c :: caps) (jn p (rs.take 2))) = some (.d (.bool false)) := by rw [lossD_rqs]; exact ne_rqs _
    exact if_no (and_run t0 (bool_run (op_run e1 e4 (lift2_run (f := neD) rfl rfl hne))))
  · rw [decide_eq_false (by omega)] at t0
    exact if_no (and_no t0)
end
section
variable {u v y z : Option D} {x0 x2 x3 x5 x6 x7 x8 x9 x10 x11 x12 x13 x14 x15 x17 x18 x19 x20 : Option W}
theorem s18_ok : S18 (hE x0 x2 x3 x5 x6 x7 x8 x9 x10 x11 x12 x13 x14 x15 x17 x18 x19 x20 none none none) [u, v, y, z] = .nx (hE x0 x2 x3 x5 x6 x7 x8 x9 x10 x11 x12 x13 x14 x15 x17 x18 x19 x20 none none none) [u, v, y, z] := by kernel_rfl
abbrev r11 (b : Int) : D := .tuple [.int b, .tuple [.int 1, .int 1]]
def wrong35 : List D := [.tuple [.tuple [], .tuple [r11 1]], .tuple [.tuple [.int 0], .tuple [r11 1]], .tuple [.tuple [.int 21], .tuple [r11 1]], .tuple [.tuple [.int 1], .tuple []], .tuple [.tuple [.int 1], .tuple [r11 0]], .tuple [.tuple [.int 1], .tuple [r11 2]], .tuple [.tuple [.int 1], .tuple [.tuple [.int 1, .tuple [.int 0, .int 1]]]], .tuple [.tuple [.int 1, .int 1, .int 1, .int 1, .int 1], .tuple [r11 1]],
  .tuple [.tuple [.int 1], .tuple [r11 1, r11 1, r11 1, r11 1, r11 1, r11 1, r11 1]], .tuple [.tuple [.int 1], .tuple [r11 (-1)]]]
theorem s1920_ok {m : Mem} : ∃ x, S19 (hE x0 x2 x3 x5 x6 x7 x8 x9 x10 x11 x12 x13 x14 x15 x17 x18 x19 x20 none none none) m = .nx (hE x0 x2 x3 x5 x6 x7 x8 x9 x10 x11 x12 x13 x14 x15 x17 x18 x19 x20 x none none) m ∧ S20 (hE x0 x2 x3 x5 x6 x7 x8 x9 x10 x11 x12 x13 x14 x15 x17 x18 x19 x20 x none none) m = .nx (hE x0 x2 x3 x5 x6 x7 x8 x9 x10 x11 x12 x13 x14 x15 x17 x18 x19 x20 (some (.d (.list wrong35))) none none) m :=
  ⟨some (.d (.list (wrong35.take 8))), by kernel_rfl, by kernel_rfl⟩
theorem s21_ok {b : Nat} {m : Mem} (h : Dr b 1 m) : ∃ (x : D) (m' : Mem), S21 (hE x0 x2 x3 x5 x6 x7 x8 x9 x10 x11 x12 x13 x14 x15 x17 x18 x19 x20 (some (.d (.list wrong35))) none none) m = .nx (hE x0 x2 x3 x5 x6 x7 x8 x9 x10 x11 x12 x13 x14 x15 x17 x18 x19 x20 (some (.d (.list wrong35))) (some (.d x)) none) m' ∧ x ∈ wrong35 ∧ m'.length = m.length := by
  obtain ⟨x, m', e, hx, d, l⟩ := pick_ok h (some_ := wrong35) (by decide)
  exact ⟨x, m', set_run2 (call2_run (fm := F__law_pick) (a := mVar 1) (b := mVar 23) (w1 := .r 1) (w2 := .d (.list wrong35)) rfl rfl e) rfl, hx, l⟩
abbrev wideD : D := .tuple [wideC, wideR]
theorem s22_ok {m : Mem} {x23 x24 : Option W} : S22 (hE x0 x2 x3 x5 x6 x7 x8 x9 x10 x11 x12 x13 x14 x15 x17 x18 x19 x20 x23 x24 none) m = .nx (hE x0 x2 x3 x5 x6 x7 x8 x9 x10 x11 x12 x13 x14 x15 x17 x18 x19 x20 x23 x24 (some (.d wideD))) m := by kernel_rfl
theorem andV_t {rho : Den.Env} {m m1 m2 : Mem} {a b : EM W} {w : W} (h1 : a rho m = .ok (.d (.bool true)) m1) (h2 : b rho m1 = .ok w m2) : mAndV a b rho m = .ok w m2 := by
  rw [e_AndV, h1, ev_bindV]
  exact h2
theorem bad_ok {x23 : Option W} {x : D} (hx : x ∈ wrong35) : mOp2 (mLC (mRange1 (mC (.int 2))) [16] (gN 16) (tYesT) (mCall 3 F__law_asked (mCons (mVar 16) (mCons (mIx (mVar 24) (mC (.int 0))) (mCons (mIx (mVar 24) (mC (.int 1))) (mNil)))))) (mMul (mLst (mCons (mC (.str "!net")) (mNil))) (mC (.int 2))) (lift2 eqD) (hE x0 x2 x3 x5 x6 x7 x8 x9 x10 x11 x12 x13 x14 x15 x17 x18 x19 x20 x23 (some (.d x)) (some (.d wideD))) [u, v, y, z] = .ok (.d (.bool true)) [u, v, y, z] := by
  unfold wrong35 at hx
  simp only [List.mem_cons, List.not_mem_nil, or_false] at hx
  rcases hx with rfl | rfl | rfl | rfl | rfl | rfl | rfl | rfl | rfl | rfl <;> kernel_rfl
theorem wide_ok {x23 x24 : Option W} : mOp2 (mLC (mRange1 (mC (.int 2))) [16] (gN 16) (tYesT) (mCall 3 F__law_asked (mCons (mVar 16) (mCons (mIx (mVar 25) (mC (.int 0))) (mCons (mIx (mVar 25) (mC (.int 1))) (mNil)))))) (mMul (mLst (mCons (mC (.str "!large")) (mNil))) (mC (.int 2))) (lift2 eqD) (hE x0 x2 x3 x5 x6 x7 x8 x9 x10 x11 x12 x13 x14 x15 x17 x18 x19 x20 x23 x24 (some (.d wideD))) [u, v, y, z] = .ok (.d (.bool true)) [u, v, y, z] := by
  generalize hr : hE x0 x2 x3 x5 x6 x7 x8 x9 x10 x11 x12 x13 x14 x15 x17 x18 x19 x20 x23 x24 (some (.d wideD)) = rho
  have c := mLC_all (it := mRange1 (mC (.int 2))) (vs := [16]) (g := gN 16) (t := tYesT) (a := mCall 3 F__law_asked (mCons (mVar 16) (mCons (mIx (mVar 25) (mC (.int 0))) (mCons (mIx (mVar 25) (mC (.int 1))) (mNil))))) (rho := rho) (m := [u, v, y, z]) (m0 := [u, v, y, z]) [(0 : Int), 1] PyData.int (fun _ => .str "!large") rfl (by decide)
    fun i hi => by
      refine ⟨(wipeE rho [16]).set 16 (some (.d (.int i))), rfl, rfl, .d (.str "!large"), ?_, rfl⟩
      have h25 : mVar 25 ((wipeE rho [16]).set 16 (some (.d (.int i)))) [u, v, y, z] = .ok (.d wideD) [u, v, y, z] := by rw [← hr]; rfl
      have i0 := ix_tup (xs := [wideC, wideR]) h25 (b := mC (.int 0)) const_run (y := wideC) rfl
      have i1 := ix_tup (xs := [wideC, wideR]) h25 (b := mC (.int 1)) const_run (y := wideR) rfl
      have hi' : i = 0 ∨ i = 1 := by simpa using hi
      have e : F__law_asked [.d (.int i), .d wideC, .d wideR] [u, v, y, z] = .ok (.d (.str "!large")) [u, v, y, z] := by
        rcases hi' with rfl | rfl
        · exact wask0 u v y z
        · exact wask1 u v y z
      exact call_run (cons_run (a := mVar 16) (w := .d (.int i)) (var_run (by rw [← hr]; rfl)) (cons_run i0 (cons_run i1 nil_run))) rfl e
  have a3 : mMul (mLst (mCons (mC (.str "!large")) (mNil))) (mC (.int 2)) rho [u, v, y, z] = .ok (.n (.list [.str "!large", .str "!large"])) [u, v, y, z] := by kernel_rfl
  have a4 : eqD (.list [.str "!large", .str "!large"]) (.list [.str "!large", .str "!large"]) = some (.d (.bool true)) := by kernel_rfl
  exact op_run c a3 (lift2_run (f := eqD) rfl rfl a4)
theorem s23_ok {x23 : Option W} {x : D} (hx : x ∈ wrong35) : (sSeq S23 sSkip) (hE x0 x2 x3 x5 x6 x7 x8 x9 x10 x11 x12 x13 x14 x15 x17 x18 x19 x20 x23 (some (.d x)) (some (.d wideD))) [u, v, y, z] = .rt (.d (.bool true)) [u, v, y, z] := by
  exact ret_run (andV_t (bad_ok hx) wide_ok)
end
/-! all together -/
theorem frz_step {i n : Nat} {x : D} {c : SM} {rho : Den.Env} {m : Mem} (hv : rho[i]? = some (some (.r n))) (hm : m[n]? = some (some x)) (h : Fine (c (rho.map (frzW n x)) (m.set n none))) : Fine (sFrz i c rho m) := by
  rw [frz_run hv hm]; exact h
theorem Dr.app {b n : Nat} {m js : Mem} (h : Dr b n m) : Dr b n (m ++ js) := by
  obtain ⟨ds, h1, h2⟩ := h
  obtain ⟨hn, _⟩ := List.getElem?_eq_some_iff.mp h1
  exact ⟨ds, by rw [List.getElem?_append_left hn]; exact h1, h2⟩
theorem four_mem {m : Mem} (h : m.length = 4) : ∃ x y z w, m = [x, y, z, w] := by
  match m, h with
  | [x, y, z, w], _ => exact ⟨x, y, z, w, rfl⟩
theorem law_true (ns : List Int) (hl : ns.length ≤ 63) : F_law [.s (ns.map .int)] [] = .ok (.d (.bool true)) [] := by
  have key : Fine (m_law (startE 26 [.s (ns.map .int)]) []) := by
    obtain ⟨ds, e0, r0, l0⟩ := draws_ok ns hl
    have d0 : Dr 3780 0 [some (.list (ds.map .int))] := ⟨ds, rfl, r0, l0⟩
    obtain ⟨es, m1, e1, r1, l1, len1⟩ := more_ok (k := 60) d0 (by decide) (by decide) (by decide)
    have len1' : m1.length = 1 := len1
    have d1 : Dr 3840 1 (m1 ++ [some (.list (es.map .int))]) := ⟨es, by have := get_last m1 (some (PyData.list (es.map .int))); rw [len1'] at this; exact this, r1, l1⟩
    have len2 : (m1 ++ [some (PyData.list (es.map .int))] : Mem).length = 2 := by rw [List.length_append, len1']; rfl
    have s0 : S0 (startE 26 [.s (ns.map .int)]) [] = .nx ((startE 26 [.s (ns.map .int)]).set 1 (some (.r 0))) [some (.list (ds.map .int))] := by
      have c := call_run (n := 1) (fm := F__law_draws) (cons_run (var_run (i := 0) (rho := startE 26 [.s (ns.map .int)]) (m := []) (w := .s (ns.map .int)) rfl) nil_run) rfl e0
      show sSetR 1 _ _ _ = _
      rw [e_SetR, c]; rfl
    have s1 : S1 ((startE 26 [.s (ns.map .int)]).set 1 (some (.r 0))) [some (.list (ds.map .int))] = .nx (vE (some (.s (ns.map .int))) none none none none none none none none none none none none none none none none none none none none) (m1 ++ [some (.list (es.map .int))]) := by
      have c := call_run (n := 2) (fm := F__law_more) (cons_run (var_run (i := 1) (rho := (startE 26 [.s (ns.map .int)]).set 1 (some (.r 0))) (m := [some (.list (ds.map .int))]) (w := .r 0) rfl) (cons_run (const_run (v := .int 60)) nil_run)) rfl e1
      show sSetR 1 _ _ _ = _
      rw [e_SetR, c, ev_thenS]
      dsimp only
      rw [len1']
      rfl
    unfold m_law
    refine seq_step s0 ?_
    refine seq_step s1 ?_
    generalize (m1 ++ [some (PyData.list (es.map .int))] : Mem) = m2 at d1 len2 ⊢
    obtain ⟨k, m3, e2, k1, k3, d3, l3⟩ := st2 (x0 := some (.s (ns.map .int))) d1
    refine seq_step e2 ?_
    obtain ⟨caps, m4, e3, hcl, hcr, d4, l4⟩ := st3 (x0 := some (.s (ns.map .int))) d3 k1 k3
    refine seq_step e3 ?_
    obtain ⟨rs, m5, e4, hr1, hr3, hrr, d5, l5⟩ := st4 (x0 := some (.s (ns.map .int))) (x3 := some (.d (capsD caps))) d4 k1 k3
    refine seq_step e4 ?_
    have N := net_of k1 (by omega) hcl hcr hr1 hr3 hrr
    refine seq_step (st5 N) ?_
    have l5' : m5.length = 2 := by omega
    obtain ⟨y6, y9, y10, y11, e6, e7⟩ := st67 (m := m5) (x0 := some (.s (ns.map .int))) (x2 := some (.d (nD k))) N
    refine seq_step e6 ?_
    refine seq_step e7 ?_
    refine frz_step (n := m5.length) (x := tabD caps rs) rfl (get_last m5 _) ?_
    obtain ⟨z6, z9, z10, z11, ef⟩ := frz_w (caps := caps) (rs := rs) (h := m5.length) (x0 := .s (ns.map .int)) (x2 := .d (nD k)) (by omega) rfl rfl (y6 := y6) (y9 := y9) (y10 := y10) (y11 := y11)
    rw [ef, set_last]
    have d6 : Dr 3840 1 (m5 ++ [none]) := d5.app
    have l6 : (m5 ++ [none] : Mem).length = 3 := by rw [List.length_append, l5']; rfl
    generalize (m5 ++ [none] : Mem) = m6 at d6 l6 ⊢
    refine seq_step (st8 N) ?_
    obtain ⟨w6, w14, e9, e10⟩ := st9_10 (m := m6) (x0 := some (.s (ns.map .int))) (x2 := some (.d (nD k))) N (x6 := z6) (x9 := z9) (x10 := z10) (x11 := z11)
    refine seq_step e9 ?_
    refine seq_step e10 ?_
    refine seq_step (st11 N) ?_
    have d7 : Dr 3840 1 (m6 ++ [some (losD caps rs rs.length)]) := d6.app
    have l7 : (m6 ++ [some (losD caps rs rs.length)] : Mem).length = 4 := by rw [List.length_append, l6]; rfl
    generalize (some (W.r m6.length) : Option W) = w13
    generalize (m6 ++ [some (losD caps rs rs.length)] : Mem) = m7 at d7 l7 ⊢
    refine seq_step (st12 N) ?_
    show Fine ((_ : SM) (hE (some (.s (ns.map .int))) (some (.d (nD k))) (some (.d (capsD caps))) (some (.d (routesD rs))) w6 (some (.d (ssD (StQ caps rs)))) (some (.d (tabD caps rs))) z9 z10 z11 (some (.d (rq (totQ caps rs)))) w13 w14 (some (.d (dueD caps rs))) none none none none none none none) m7)
    generalize (some (W.d (tabD caps rs)) : Option W) = w8
    generalize (some (W.d (ssD (StQ caps rs))) : Option W) = w7
    generalize (some (W.d (dueD caps rs)) : Option W) = w15
    generalize (some (W.d (rq (totQ caps rs))) : Option W) = w12
    obtain ⟨c, p, q, m8, e13, hc, hp, hq, d8, l8⟩ := st13 (x0 := some (.s (ns.map .int))) (x2 := some (.d (nD k))) (x3 := some (.d (capsD caps))) (x5 := some (.d (routesD rs))) (x6 := w6) (x7 := w7) (x8 := w8) (x9 := z9) (x10 := z10) (x11 := z11) (x12 := w12) (x13 := w13) (x14 := w14) (x15 := w15) d7
    refine seq_step e13 ?_
    refine seq_step (st14 hc hp hq) ?_
    refine seq_step (st15 hc hp hq) ?_
    refine seq_step (st16 fun r hr => Nat.lt_of_lt_of_le (hrr r hr).2.1 (Nat.pow_le_pow_right (by decide) (by omega))) ?_
    refine seq_step (st17 N hcl hc hp) ?_
    obtain ⟨u, v, y, z, hm⟩ := four_mem (show m8.length = 4 by omega)
    subst hm
    refine seq_step s18_ok ?_
    obtain ⟨x, e19, e20⟩ := s1920_ok (m := [u, v, y, z]) (x0 := some (.s (ns.map .int))) (x2 := some (.d (nD k))) (x3 := some (.d (capsD caps))) (x5 := some (.d (routesD rs))) (x6 := w6) (x7 := w7) (x8 := w8) (x9 := z9) (x10 := z10) (x11 := z11) (x12 := w12) (x13 := w13) (x14 := w14) (x15 := w15) (x17 := some (.d (nD c))) (x18 := some (.d (ldD p q))) (x19 := some (.d (.tuple [rq (erl (p + q) c)]))) (x20 := some (.d (routesD ((rs.take 2).map dbl))))
    refine seq_step e19 ?_
    refine seq_step e20 ?_
    obtain ⟨xb, m9, e21, hxb, l9⟩ := s21_ok (x0 := some (.s (ns.map .int))) (x2 := some (.d (nD k))) (x3 := some (.d (capsD caps))) (x5 := some (.d (routesD rs))) (x6 := w6) (x7 := w7) (x8 := w8) (x9 := z9) (x10 := z10) (x11 := z11) (x12 := w12) (x13 := w13) (x14 := w14) (x15 := w15) (x17 := some (.d (nD c))) (x18 := some (.d (ldD p q))) (x19 := some (.d (.tuple [rq (erl (p + q) c)]))) (x20 := some (.d (routesD ((rs.take 2).map dbl)))) d8
    refine seq_step e21 ?_
    obtain ⟨u, v, y, z, hm⟩ := four_mem (show m9.length = 4 by rw [l9]; rfl)
    subst hm
    refine seq_step s22_ok ?_
    exact ⟨_, s23_ok hxb⟩
  obtain ⟨mf, h⟩ := key
  unfold F_law runF
  rw [h]; rfl
end Law
open PySem PySem.W PyProof.Rows
set_option maxHeartbeats 0 in
theorem PySem.Challenge.cw_queuenets_k35_links_used_together_holds : PySem.Challenge.rw_queuenets_k35_links_used_together.Holds := by
  w_on; o_law; k_head; (case hw => w_witness2)
  k_fill
  refine Den.walk_G (l := PySem.Challenge.rw_queuenets_k35_links_used_together) (n := 63) (k := 8) (x := "script") (fm := Law.F_law) rfl (by decide) rfl ⟨rfl, by decide, by decide⟩ rfl (fun w h Y => PySem.W.kIn_of Y) ?F (fun ns hl => Law.law_true ns hl)
  case F =>
    intro w mg fa h KX G hmg
    refine' Law.all_mk KX G hmg ?a_common ?l_common ?c_common ?k_common ?a_least_terms ?l_least_terms ?c_least_terms ?k_least_terms ?a_add ?l_add ?c_add ?k_add ?a_total ?l_total ?c_total ?k_total ?a_fits ?l_fits ?c_fits ?k_fits ?a_is_fraction ?l_is_fraction ?c_is_fraction ?k_is_fraction ?a_is_rate ?l_is_rate ?c_is_rate ?k_is_rate ?a_are_links ?l_are_links ?c_are_links ?k_are_links ?a_check_links ?l_check_links ?c_check_links ?k_check_links ?a_by ?l_by ?c_by ?k_by ?a_times ?l_times ?c_times ?k_times ?a_weight_by ?l_weight_by ?c_weight_by ?k_weight_by ?a_link_states_of ?l_link_states_of ?c_link_states_of ?k_link_states_of ?a_link_shares_of ?l_link_shares_of ?c_link_shares_of ?k_link_shares_of ?a_link_losses ?l_link_losses ?c_link_losses ?k_link_losses ?a__law_number ?l__law_number ?c__law_number ?k__law_number ?a__law_draws ?l__law_draws ?c__law_draws ?k__law_draws ?a__law_next ?l__law_next ?c__law_next ?k__law_next ?a__law_more ?l__law_more ?c__law_more ?k__law_more ?a__law_pick ?l__law_pick ?c__law_pick ?k__law_pick ?a__law_power ?l__law_power ?c__law_power ?k__law_power ?a__law_common ?l__law_common ?c__law_common ?k__law_common ?a__law_lowest ?l__law_lowest ?c__law_lowest ?k__law_lowest ?a__law_add ?l__law_add ?c__law_add ?k__law_add ?a__law_times ?l__law_times ?c__law_times ?k__law_times ?a__law_by ?l__law_by ?c__law_by ?k__law_by ?a__law_total ?l__law_total ?c__law_total ?k__law_total ?a__law_rate ?l__law_rate ?c__law_rate ?k__law_rate ?a__law_on ?l__law_on ?c__law_on ?k__law_on ?a__law_fits ?l__law_fits ?c__law_fits ?k__law_fits ?a__law_states ?l__law_states ?c__law_states ?k__law_states ?a_link_shares ?l_link_shares ?c_link_shares ?k_link_shares ?a__law_kind ?l__law_kind ?c__law_kind ?k__law_kind ?a__law_asked ?l__law_asked ?c__law_asked ?k__law_asked ?a_law ?l_law ?c_law ?k_law ?z_abs ?z_all ?z_enumerate ?z_int ?z_isinstance ?z_len ?z_max ?z_range ?z_repr ?z_sorted ?z_sum ?z_tuple ?z_zip ?v_MOST_KINDS ?v_MOST_LINKS ?v_MOST_ON_LINK ?v_MOST_RATE ?v_MOST_STATES ?g_NotChain ?s_NotChain ?y_NotChain ?g_NotNet ?s_NotNet ?y_NotNet ?g_NotTrace ?s_NotTrace ?y_NotTrace ?g_NotPaper ?s_NotPaper ?y_NotPaper ?g_BadNumber ?s_BadNumber ?y_BadNumber ?g_NoAnswer ?s_NoAnswer ?y_NoAnswer ?g_TooLarge ?s_TooLarge ?y_TooLarge ?g_QueueError ?s_QueueError ?y_QueueError ?e_NotNet ?p_NotNet ?e_TooLarge ?p_TooLarge ?q_h ?q_n ?q_t ?u_NotChain ?n1_NotChain ?n2_NotChain ?n3_NotChain ?n4_NotChain ?n5_NotChain ?kit_NotChain_NotChain ?kit_NotChain_NotNet ?kit_NotChain_NotTrace ?kit_NotChain_NotPaper ?kit_NotChain_BadNumber ?kit_NotChain_NoAnswer ?kit_NotChain_TooLarge ?u_NotNet ?n1_NotNet ?n2_NotNet ?n3_NotNet ?n4_NotNet ?n5_NotNet ?kit_NotNet_NotChain ?kit_NotNet_NotNet ?kit_NotNet_NotTrace ?kit_NotNet_NotPaper ?kit_NotNet_BadNumber ?kit_NotNet_NoAnswer ?kit_NotNet_TooLarge ?u_NotTrace ?n1_NotTrace ?n2_NotTrace ?n3_NotTrace ?n4_NotTrace ?n5_NotTrace ?kit_NotTrace_NotChain ?kit_NotTrace_NotNet ?kit_NotTrace_NotTrace ?kit_NotTrace_NotPaper ?kit_NotTrace_BadNumber ?kit_NotTrace_NoAnswer ?kit_NotTrace_TooLarge ?u_NotPaper ?n1_NotPaper ?n2_NotPaper ?n3_NotPaper ?n4_NotPaper ?n5_NotPaper ?kit_NotPaper_NotChain ?kit_NotPaper_NotNet ?kit_NotPaper_NotTrace ?kit_NotPaper_NotPaper ?kit_NotPaper_BadNumber ?kit_NotPaper_NoAnswer ?kit_NotPaper_TooLarge ?u_BadNumber ?n1_BadNumber ?n2_BadNumber ?n3_BadNumber ?n4_BadNumber ?n5_BadNumber ?kit_BadNumber_NotChain ?kit_BadNumber_NotNet ?kit_BadNumber_NotTrace ?kit_BadNumber_NotPaper ?kit_BadNumber_BadNumber ?kit_BadNumber_NoAnswer ?kit_BadNumber_TooLarge ?u_NoAnswer ?n1_NoAnswer ?n2_NoAnswer ?n3_NoAnswer ?n4_NoAnswer ?n5_NoAnswer ?kit_NoAnswer_NotChain ?kit_NoAnswer_NotNet ?kit_NoAnswer_NotTrace ?kit_NoAnswer_NotPaper ?kit_NoAnswer_BadNumber ?kit_NoAnswer_NoAnswer ?kit_NoAnswer_TooLarge ?u_TooLarge ?n1_TooLarge ?n2_TooLarge ?n3_TooLarge ?n4_TooLarge ?n5_TooLarge ?kit_TooLarge_NotChain ?kit_TooLarge_NotNet ?kit_TooLarge_NotTrace ?kit_TooLarge_NotPaper ?kit_TooLarge_BadNumber ?kit_TooLarge_NoAnswer ?kit_TooLarge_TooLarge
    (case a_common => k_is)
    (case l_common => k_is)
    (case c_common => k_is)
    (case k_common => k_is)
    (case a_least_terms => k_is)
    (case l_least_terms => k_is)
    (case c_least_terms => k_is)
    (case k_least_terms => k_is)
    (case a_add => k_is)
    (case l_add => k_is)
    (case c_add => k_is)
    (case k_add => k_is)
    (case a_total => k_is)
    (case l_total => k_is)
    (case c_total => k_is)
    (case k_total => k_is)
    (case a_fits => k_is)
    (case l_fits => k_is)
    (case c_fits => k_is)
    (case k_fits => k_is)
    (case a_is_fraction => k_is)
    (case l_is_fraction => k_is)
    (case c_is_fraction => k_is)
    (case k_is_fraction => k_is)
    (case a_is_rate => k_is)
    (case l_is_rate => k_is)
    (case c_is_rate => k_is)
    (case k_is_rate => k_is)
    (case a_are_links => k_is)
    (case l_are_links => k_is)
    (case c_are_links => k_is)
    (case k_are_links => k_is)
    (case a_check_links => k_is)
    (case l_check_links => k_is)
    (case c_check_links => k_is)
    (case k_check_links => k_is)
    (case a_by => k_is)
    (case l_by => k_is)
    (case c_by => k_is)
    (case k_by => k_is)
    (case a_times => k_is)
    (case l_times => k_is)
    (case c_times => k_is)
    (case k_times => k_is)
    (case a_weight_by => k_is)
    (case l_weight_by => k_is)
    (case c_weight_by => k_is)
    (case k_weight_by => k_is)
    (case a_link_states_of => k_is)
    (case l_link_states_of => k_is)
    (case c_link_states_of => k_is)
    (case k_link_states_of => k_is)
    (case a_link_shares_of => k_is)
    (case l_link_shares_of => k_is)
    (case c_link_shares_of => k_is)
    (case k_link_shares_of => k_is)
    (case a_link_losses => k_is)
    (case l_link_losses => k_is)
    (case c_link_losses => k_is)
    (case k_link_losses => k_is)
    (case a__law_number => k_is)
    (case l__law_number => k_is)
    (case c__law_number => k_is)
    (case k__law_number => k_is)
    (case a__law_draws => k_is)
    (case l__law_draws => k_is)
    (case c__law_draws => k_is)
    (case k__law_draws => k_is)
    (case a__law_next => k_is)
    (case l__law_next => k_is)
    (case c__law_next => k_is)
    (case k__law_next => k_is)
    (case a__law_more => k_is)
    (case l__law_more => k_is)
    (case c__law_more => k_is)
    (case k__law_more => k_is)
    (case a__law_pick => k_is)
    (case l__law_pick => k_is)
    (case c__law_pick => k_is)
    (case k__law_pick => k_is)
    (case a__law_power => k_is)
    (case l__law_power => k_is)
    (case c__law_power => k_is)
    (case k__law_power => k_is)
    (case a__law_common => k_is)
    (case l__law_common => k_is)
    (case c__law_common => k_is)
    (case k__law_common => k_is)
    (case a__law_lowest => k_is)
    (case l__law_lowest => k_is)
    (case c__law_lowest => k_is)
    (case k__law_lowest => k_is)
    (case a__law_add => k_is)
    (case l__law_add => k_is)
    (case c__law_add => k_is)
    (case k__law_add => k_is)
    (case a__law_times => k_is)
    (case l__law_times => k_is)
    (case c__law_times => k_is)
    (case k__law_times => k_is)
    (case a__law_by => k_is)
    (case l__law_by => k_is)
    (case c__law_by => k_is)
    (case k__law_by => k_is)
    (case a__law_total => k_is)
    (case l__law_total => k_is)
    (case c__law_total => k_is)
    (case k__law_total => k_is)
    (case a__law_rate => k_is)
    (case l__law_rate => k_is)
    (case c__law_rate => k_is)
    (case k__law_rate => k_is)
    (case a__law_on => k_is)
    (case l__law_on => k_is)
    (case c__law_on => k_is)
    (case k__law_on => k_is)
    (case a__law_fits => k_is)
    (case l__law_fits => k_is)
    (case c__law_fits => k_is)
    (case k__law_fits => k_is)
    (case a__law_states => k_is)
    (case l__law_states => k_is)
    (case c__law_states => k_is)
    (case k__law_states => k_is)
    (case a_link_shares => k_is)
    (case l_link_shares => k_is)
    (case c_link_shares => k_is)
    (case k_link_shares => k_is)
    (case a__law_kind => k_is)
    (case l__law_kind => k_is)
    (case c__law_kind => k_is)
    (case k__law_kind => k_is)
    (case a__law_asked => k_is)
    (case l__law_asked => k_is)
    (case c__law_asked => k_is)
    (case k__law_asked => k_is)
    (case a_law => k_is)
    (case l_law => k_is)
    (case c_law => k_is)
    (case k_law => k_is)
    (case z_abs => k_is)
    (case z_all => k_is)
    (case z_enumerate => k_is)
    (case z_int => k_is)
    (case z_isinstance => k_is)
    (case z_len => k_is)
    (case z_max => k_is)
    (case z_range => k_is)
    (case z_repr => k_is)
    (case z_sorted => k_is)
    (case z_sum => k_is)
    (case z_tuple => k_is)
    (case z_zip => k_is)
    (case v_MOST_KINDS => k_is)
    (case v_MOST_LINKS => k_is)
    (case v_MOST_ON_LINK => k_is)
    (case v_MOST_RATE => k_is)
    (case v_MOST_STATES => k_is)
    (case g_NotChain => k_is)
    (case s_NotChain => k_is)
    (case y_NotChain => k_is)
    (case g_NotNet => k_is)
    (case s_NotNet => k_is)
    (case y_NotNet => k_is)
    (case g_NotTrace => k_is)
    (case s_NotTrace => k_is)
    (case y_NotTrace => k_is)
    (case g_NotPaper => k_is)
    (case s_NotPaper => k_is)
    (case y_NotPaper => k_is)
    (case g_BadNumber => k_is)
    (case s_BadNumber => k_is)
    (case y_BadNumber => k_is)
    (case g_NoAnswer => k_is)
    (case s_NoAnswer => k_is)
    (case y_NoAnswer => k_is)
    (case g_TooLarge => k_is)
    (case s_TooLarge => k_is)
    (case y_TooLarge => k_is)
    (case g_QueueError => k_is)
    (case s_QueueError => k_is)
    (case y_QueueError => k_is)
    (case e_NotNet => k_exc)
    (case p_NotNet => k_is)
    (case e_TooLarge => k_exc)
    (case p_TooLarge => k_is)
    (case q_h => k_is)
    (case q_n => k_is)
    (case q_t => k_is)
    (case u_NotChain => k_is)
    (case n1_NotChain => k_is)
    (case n2_NotChain => k_is)
    (case n3_NotChain => k_is)
    (case n4_NotChain => k_is)
    (case n5_NotChain => k_is)
    (case kit_NotChain_NotChain => kit_is)
    (case kit_NotChain_NotNet => kit_is)
    (case kit_NotChain_NotTrace => kit_is)
    (case kit_NotChain_NotPaper => kit_is)
    (case kit_NotChain_BadNumber => kit_is)
    (case kit_NotChain_NoAnswer => kit_is)
    (case kit_NotChain_TooLarge => kit_is)
    (case u_NotNet => k_is)
    (case n1_NotNet => k_is)
    (case n2_NotNet => k_is)
    (case n3_NotNet => k_is)
    (case n4_NotNet => k_is)
    (case n5_NotNet => k_is)
    (case kit_NotNet_NotChain => kit_is)
    (case kit_NotNet_NotNet => kit_is)
    (case kit_NotNet_NotTrace => kit_is)
    (case kit_NotNet_NotPaper => kit_is)
    (case kit_NotNet_BadNumber => kit_is)
    (case kit_NotNet_NoAnswer => kit_is)
    (case kit_NotNet_TooLarge => kit_is)
    (case u_NotTrace => k_is)
    (case n1_NotTrace => k_is)
    (case n2_NotTrace => k_is)
    (case n3_NotTrace => k_is)
    (case n4_NotTrace => k_is)
    (case n5_NotTrace => k_is)
    (case kit_NotTrace_NotChain => kit_is)
    (case kit_NotTrace_NotNet => kit_is)
    (case kit_NotTrace_NotTrace => kit_is)
    (case kit_NotTrace_NotPaper => kit_is)
    (case kit_NotTrace_BadNumber => kit_is)
    (case kit_NotTrace_NoAnswer => kit_is)
    (case kit_NotTrace_TooLarge => kit_is)
    (case u_NotPaper => k_is)
    (case n1_NotPaper => k_is)
    (case n2_NotPaper => k_is)
    (case n3_NotPaper => k_is)
    (case n4_NotPaper => k_is)
    (case n5_NotPaper => k_is)
    (case kit_NotPaper_NotChain => kit_is)
    (case kit_NotPaper_NotNet => kit_is)
    (case kit_NotPaper_NotTrace => kit_is)
    (case kit_NotPaper_NotPaper => kit_is)
    (case kit_NotPaper_BadNumber => kit_is)
    (case kit_NotPaper_NoAnswer => kit_is)
    (case kit_NotPaper_TooLarge => kit_is)
    (case u_BadNumber => k_is)
    (case n1_BadNumber => k_is)
    (case n2_BadNumber => k_is)
    (case n3_BadNumber => k_is)
    (case n4_BadNumber => k_is)
    (case n5_BadNumber => k_is)
    (case kit_BadNumber_NotChain => kit_is)
    (case kit_BadNumber_NotNet => kit_is)
    (case kit_BadNumber_NotTrace => kit_is)
    (case kit_BadNumber_NotPaper => kit_is)
    (case kit_BadNumber_BadNumber => kit_is)
    (case kit_BadNumber_NoAnswer => kit_is)
    (case kit_BadNumber_TooLarge => kit_is)
    (case u_NoAnswer => k_is)
    (case n1_NoAnswer => k_is)
    (case n2_NoAnswer => k_is)
    (case n3_NoAnswer => k_is)
    (case n4_NoAnswer => k_is)
    (case n5_NoAnswer => k_is)
    (case kit_NoAnswer_NotChain => kit_is)
    (case kit_NoAnswer_NotNet => kit_is)
    (case kit_NoAnswer_NotTrace => kit_is)
    (case kit_NoAnswer_NotPaper => kit_is)
    (case kit_NoAnswer_BadNumber => kit_is)
    (case kit_NoAnswer_NoAnswer => kit_is)
    (case kit_NoAnswer_TooLarge => kit_is)
    (case u_TooLarge => k_is)
    (case n1_TooLarge => k_is)
    (case n2_TooLarge => k_is)
    (case n3_TooLarge => k_is)
    (case n4_TooLarge => k_is)
    (case n5_TooLarge => k_is)
    (case kit_TooLarge_NotChain => kit_is)
    (case kit_TooLarge_NotNet => kit_is)
    (case kit_TooLarge_NotTrace => kit_is)
    (case kit_TooLarge_NotPaper => kit_is)
    (case kit_TooLarge_BadNumber => kit_is)
    (case kit_TooLarge_NoAnswer => kit_is)
    (case kit_TooLarge_TooLarge => kit_is)
