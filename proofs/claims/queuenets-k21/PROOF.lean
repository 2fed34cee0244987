import PyProof.Rows.All
import Wide.All
import OpenK.AllK
import Wide.FinOn
import HandS.ForMost
import HandS.Exc
import HandS.TryOnly
import HandS.ExcOwn
import HandS.CallSlots
import HandS.HotCalls
import HandS.Zip
import HandS.Wide
import HandS.Conv
import HandS.Deep
import HandS.TupMul
import HandS.TupAny
import KE.SortData
import KE.DataCmp
import HandS.Flow
import HandS.ExcIs
import HandS.ExcCtx
import HandS.Ends
import KE.KDictList
import HandS.Style
import HandS.IsInst
import KE.GoesEnum
import KE.GoesZip
import HandS.Star
import KE.KDictPairs
import HandS.Remove
import HandS.SortKw
import KE.KDictCopyH
import HandS.Text
import HandS.Iter
import HandS.More
import HandS.Codes
import PySem.Challenge.RW_queuenets_k21_lines_and_forms
set_option maxHeartbeats 4000000
set_option Elab.async false
set_option linter.all false
set_option maxRecDepth 100000
set_option autoImplicit false
/-! Den1: pure data, a small memory of mutable containers, computations, and how they lie in HandS' abstract heap. -/
namespace Den
open PySem PySem.Spec PyProof.Rows L2

abbrev D := PyData
abbrev St := L2.St
/-- what a name holds: pure data, a handle of a mutable container, a def of the module; n: a container just made; s: the script; e: a caught error -/
inductive W where
  | d (x : D) | r (n : Nat) | n (x : D) | f (x : Str) | s (xs : List D) | e (a : Addr)
/-- what a handle names: a list or a dict; nothing any more -/
abbrev Mem := List (Option D)
abbrev Env := List (Option W)
inductive Exc where
  | own (x : Str)
  | low (x : Str) (fld : Str) (v : D)
  deriving Inhabited
inductive Rs (β : Type) where
  | ok (b : β) (m : Mem) | ex (c : Exc) (m : Mem) | no
abbrev EM (β : Type) := Env → Mem → Rs β

def val : W → W
  | .n x => .d x
  | w => w
def Rs.bind {β γ : Type} : Rs β → (β → Mem → Rs γ) → Rs γ
  | .ok b m, k => k b m
  | .ex c m, _ => .ex c m
  | .no, _ => .no
/-- the value of an operand -/
def Rs.bindV {γ : Type} : Rs W → (W → Mem → Rs γ) → Rs γ
  | .ok w m, k => k (val w) m
  | .ex c m, _ => .ex c m
  | .no, _ => .no
/-- the data that an operand is -/
def peek (m : Mem) : W → Option D
  | .d x => some x
  | .n x => some x
  | .r n => (m[n]?).join
  | .f _ => none
  | .s _ => none
  | .e _ => none

section
variable (K : PySem.W.Frag) (O : Addr → Prop) (H : Hp)
/-- a list that nobody may change: not one of the mutable ones -/
def SqF (a : Addr) (vs : List V) : Prop := H a = some (.lst vs) ∧ ¬ O a
/-- the script: a list that is locked, or of the module -/
def SqS (a : Addr) (vs : List V) : Prop :=
  (∃ o, H a = some (.frz o (.lst vs))) ∨
    ∃ (o : Obj) (its : Array Value) (n : Nat), K.lookup a = some o ∧ o.cls = .type "list" ∧ o.dict = none ∧ o.data = .seq its n ∧ its.size ≤ sizeLine ∧ Vals vs its.toList
/-- tuples may be tuples of the module; then no tuple is a key of a dict (a text tool sets this by the law) -/
def ModT : Bool := false
/-- a tuple that was made in the run, or one of the module -/
abbrev TupA (K : PySem.W.Frag) (H : Hp) (a : Addr) (vs : List V) : Prop := H a = some (.tup vs) ∨ (ModT = true ∧ SqT K H a vs)
/-- a key of a dict: an int or a text -/
def keyD : Key → D
  | .inl i => .int i
  | .inr x => .str x
mutual
def RepD : D → V → Prop
  | .none, v => v = .non
  | .bool b, v => v = .bl b
  | .int i, v => v = .int i
  | .str x, v => v = .str x
  | .tuple ds, v => ∃ a vs, v = .ref a ∧ TupA K H a vs ∧ RepDs ds vs
  | .list ds, v => ∃ a vs, v = .ref a ∧ SqF O H a vs ∧ RepDs ds vs
  | .dict kvs, v => ∃ a, v = .ref a ∧ ¬ O a ∧ ((∃ kz, Rd H a (.dK kz) ∧ RepK kvs kz) ∨ (∃ kz, Rd H a (.dT kz) ∧ RepT kvs kz))
def RepDs : List D → List V → Prop
  | [], vs => vs = []
  | x :: ds, vs => ∃ v r, vs = v :: r ∧ RepD x v ∧ RepDs ds r
def RepK : List (D × D) → List (Key × V) → Prop
  | [], kz => kz = []
  | (k, x) :: kvs, kz => ∃ key v r, kz = (key, v) :: r ∧ k = keyD key ∧ RepD x v ∧ RepK kvs r
def RepT : List (D × D) → List (List Key × V) → Prop
  | [], kz => kz = []
  | (k, x) :: kvs, kz => ∃ key v r, kz = (key, v) :: r ∧ k = .tuple (key.map keyD) ∧ RepD x v ∧ RepT kvs r
end
/-- a mutable container's object -/
def ObOk : D → Addr → Prop
  | .list ds, a => ∃ vs, H a = some (.lst vs) ∧ RepDs K O H ds vs
  | .dict kvs, a => (∃ kz, H a = some (.dK kz) ∧ RepK K O H kvs kz) ∨ (∃ kz, H a = some (.dT kz) ∧ RepT K O H kvs kz)
  | _, _ => False
end

/-- a dict that is walked is locked from then on -/
inductive Lk : HO → HO → Prop where
  | refl (o : HO) : Lk o o
  | k (od : Obj) (kz : List (Key × V)) : Lk (.dK kz) (.frz od (.dK kz))
  | t (od : Obj) (kz : List (List Key × V)) : Lk (.dT kz) (.frz od (.dT kz))
/-- the mutable ones are left to whoever changes them, all else stays; a new mutable one is new -/
structure Ext (O : Addr → Prop) (H : Hp) (O' : Addr → Prop) (H' : Hp) : Prop where
  tup : ∀ a vs, H a = some (.tup vs) → H' a = some (.tup vs)
  frz : ∀ a o u, H a = some (.frz o u) → H' a = some (.frz o u)
  oth : ∀ a o, H a = some o → ¬ O a → ∃ o', H' a = some o' ∧ Lk o o'
  new : ∀ a, O' a → O a ∨ H a = none
theorem Ext.of {O O' : Addr → Prop} {H H' : Hp} (t : ∀ a vs, H a = some (.tup vs) → H' a = some (.tup vs)) (f : ∀ a o u, H a = some (.frz o u) → H' a = some (.frz o u)) (o : ∀ a o, H a = some o → ¬ O a → H' a = some o)
    (n : ∀ a, O' a → O a ∨ H a = none) : Ext O H O' H' := ⟨t, f, fun a x h q => ⟨x, o a x h q, .refl x⟩, n⟩
theorem Ext.refl {O : Addr → Prop} {H : Hp} : Ext O H O H := .of (fun _ _ h => h) (fun _ _ _ h => h) (fun _ _ h _ => h) (fun _ h => .inl h)
theorem Ext.lst {O O' : Addr → Prop} {H H' : Hp} (e : Ext O H O' H') {a : Addr} {vs : List V} (h : H a = some (.lst vs)) (n : ¬ O a) : H' a = some (.lst vs) := by
  obtain ⟨o', h1, l⟩ := e.oth a _ h n
  cases l
  exact h1
theorem Ext.rdK {O O' : Addr → Prop} {H H' : Hp} (e : Ext O H O' H') {a : Addr} {kz : List (Key × V)} (h : Rd H a (.dK kz)) (n : ¬ O a) : Rd H' a (.dK kz) := by
  rcases h with h | ⟨o, h⟩
  · obtain ⟨o', h1, l⟩ := e.oth a _ h n
    cases l with
    | refl => exact .inl h1
    | k od => exact .inr ⟨od, h1⟩
  · exact .inr ⟨o, e.frz _ _ _ h⟩
theorem Ext.rdT {O O' : Addr → Prop} {H H' : Hp} (e : Ext O H O' H') {a : Addr} {kz : List (List Key × V)} (h : Rd H a (.dT kz)) (n : ¬ O a) : Rd H' a (.dT kz) := by
  rcases h with h | ⟨o, h⟩
  · obtain ⟨o', h1, l⟩ := e.oth a _ h n
    cases l with
    | refl => exact .inl h1
    | t od => exact .inr ⟨od, h1⟩
  · exact .inr ⟨o, e.frz _ _ _ h⟩
theorem rd_some {H : Hp} {a : Addr} {u : HO} (h : Rd H a u) : ∃ o, H a = some o := by
  rcases h with h | ⟨o, h⟩ <;> exact ⟨_, h⟩
theorem Ext.trans {O O1 O2 : Addr → Prop} {H H1 H2 : Hp} (e : Ext O H O1 H1) (e2 : Ext O1 H1 O2 H2) : Ext O H O2 H2 where
  tup := fun a vs h => e2.tup a vs (e.tup a vs h)
  frz := fun a o u h => e2.frz a o u (e.frz a o u h)
  oth := fun a o h n => by
    have n1 : ¬ O1 a := fun z => (e.new a z).elim n fun q => by rw [h] at q; cases q
    obtain ⟨o1, h1, l1⟩ := e.oth a o h n
    cases l1 with
    | refl => exact e2.oth a o h1 n1
    | k od => exact ⟨_, e2.frz _ _ _ h1, .k od _⟩
    | t od => exact ⟨_, e2.frz _ _ _ h1, .t od _⟩
  new := fun a z => by
    rcases e2.new a z with q | q
    · exact e.new a q
    · cases hh : H a with
      | none => exact .inr rfl
      | some o =>
        by_cases n : O a
        · exact .inl n
        · obtain ⟨o1, h1, _⟩ := e.oth a o hh n
          rw [q] at h1; cases h1
theorem Ext.weak {O O1 O2 : Addr → Prop} {H H1 : Hp} (e : Ext O H O1 H1) (h : ∀ a, O2 a → O1 a) : Ext O H O2 H1 := ⟨e.tup, e.frz, e.oth, fun a z => e.new a (h a z)⟩

section
variable {K : PySem.W.Frag} {O O' : Addr → Prop} {H H' : Hp} {a : Addr} {vs : List V}
theorem sqT_ext (e : Ext O H O' H') (h : SqT K H a vs) : SqT K H' a vs := by
  rcases h with (h | ⟨o, h⟩) | h
  · exact .inl (.inl (e.tup _ _ h))
  · exact .inl (.inr ⟨o, e.frz _ _ _ h⟩)
  · exact .inr h
theorem sqR (h : H a = some (.tup vs)) : SqT K H a vs := .inl (.inl h)
theorem sqP (h : TupA K H a vs) : SqT K H a vs := h.elim sqR fun z => z.2
theorem tupA_plain (hT : ModT = false) (h : TupA K H a vs) : H a = some (.tup vs) := h.elim id fun z => by rw [hT] at z; cases z.1
theorem tupA_ext (e : Ext O H O' H') (h : TupA K H a vs) : TupA K H' a vs := h.imp (e.tup _ _) fun z => ⟨z.1, sqT_ext e z.2⟩
theorem sqF_ext (e : Ext O H O' H') (h : SqF O H a vs) : SqF O' H' a vs :=
  ⟨e.lst h.1 h.2, fun z => (e.new a z).elim h.2 fun q => by rw [h.1] at q; cases q⟩
theorem sqS_ext (e : Ext O H O' H') (h : SqS K H a vs) : SqS K H' a vs := by
  rcases h with ⟨o, h⟩ | h
  · exact .inl ⟨o, e.frz _ _ _ h⟩
  · exact .inr h
theorem sqS_L (h : SqS K H a vs) : SqL K H a vs := by
  rcases h with ⟨o, h⟩ | h
  · exact .inl (.inr ⟨o, h⟩)
  · exact .inr h
mutual
theorem RepD.ext (e : Ext O H O' H') : ∀ (x : D) (v : V), RepD K O H x v → RepD K O' H' x v
  | .none, _, h => h
  | .bool _, _, h => h
  | .int _, _, h => h
  | .str _, _, h => h
  | .tuple ds, _, ⟨a, vs, h1, h2, h3⟩ => ⟨a, vs, h1, tupA_ext e h2, RepDs.ext e ds vs h3⟩
  | .list ds, _, ⟨a, vs, h1, h2, h3⟩ => ⟨a, vs, h1, sqF_ext e h2, RepDs.ext e ds vs h3⟩
  | .dict kvs, _, ⟨a, h1, n, h2⟩ => ⟨a, h1, fun z => (e.new a z).elim n fun q => by
      rcases h2 with ⟨_, h2, _⟩ | ⟨_, h2, _⟩ <;> (obtain ⟨o, h2⟩ := rd_some h2; rw [h2] at q; cases q), by
      rcases h2 with ⟨kz, h2, h3⟩ | ⟨kz, h2, h3⟩
      · exact .inl ⟨kz, e.rdK h2 n, RepK.ext e kvs kz h3⟩
      · exact .inr ⟨kz, e.rdT h2 n, RepT.ext e kvs kz h3⟩⟩
theorem RepDs.ext (e : Ext O H O' H') : ∀ (ds : List D) (vs : List V), RepDs K O H ds vs → RepDs K O' H' ds vs
  | [], _, h => h
  | x :: ds, _, ⟨v, r, h1, h2, h3⟩ => ⟨v, r, h1, RepD.ext e x v h2, RepDs.ext e ds r h3⟩
theorem RepK.ext (e : Ext O H O' H') : ∀ (ds : List (D × D)) (vs : List (Key × V)), RepK K O H ds vs → RepK K O' H' ds vs
  | [], _, h => h
  | (k, x) :: ds, _, ⟨key, v, r, h1, h2, h3, h4⟩ => ⟨key, v, r, h1, h2, RepD.ext e x v h3, RepK.ext e ds r h4⟩
theorem RepT.ext (e : Ext O H O' H') : ∀ (ds : List (D × D)) (vs : List (List Key × V)), RepT K O H ds vs → RepT K O' H' ds vs
  | [], _, h => h
  | (k, x) :: ds, _, ⟨key, v, r, h1, h2, h3, h4⟩ => ⟨key, v, r, h1, h2, RepD.ext e x v h3, RepT.ext e ds r h4⟩
end
/-- fewer mutable ones -/
theorem Ext.less (h : ∀ a, O' a → O a) : Ext O H O' H := .of (fun _ _ h => h) (fun _ _ _ h => h) (fun _ _ h _ => h) (fun a z => .inl (h a z))
theorem RepDs.len : ∀ {ds : List D} {vs : List V}, RepDs K O H ds vs → vs.length = ds.length
  | [], _, h => by rw [show _ = [] from h]; rfl
  | x :: ds, _, ⟨v, r, h1, h2, h3⟩ => by rw [h1, List.length_cons, RepDs.len h3]; rfl
theorem RepDs.get : ∀ {ds : List D} {vs : List V} {i : Nat} {x : D}, RepDs K O H ds vs → ds[i]? = some x → ∃ v, vs[i]? = some v ∧ RepD K O H x v
  | [], _, _, _, _, e => by simp at e
  | x :: ds, _, 0, y, ⟨v, r, h1, h2, h3⟩, e => by
    simp at e; subst e; subst h1; exact ⟨v, rfl, h2⟩
  | x :: ds, _, i + 1, y, ⟨v, r, h1, h2, h3⟩, e => by
    subst h1
    obtain ⟨u, q1, q2⟩ := RepDs.get (i := i) (x := y) h3 (by simpa using e)
    exact ⟨u, by simpa using q1, q2⟩
theorem RepDs.getV : ∀ {ds : List D} {vs : List V} {i : Nat} {v : V}, RepDs K O H ds vs → vs[i]? = some v → ∃ x, ds[i]? = some x ∧ RepD K O H x v
  | [], _, _, _, h, e => by rw [show _ = [] from h] at e; simp at e
  | x :: ds, _, 0, y, ⟨v, r, h1, h2, h3⟩, e => by
    subst h1; simp at e; subst e; exact ⟨x, rfl, h2⟩
  | x :: ds, _, i + 1, y, ⟨v, r, h1, h2, h3⟩, e => by
    subst h1
    obtain ⟨u, q1, q2⟩ := RepDs.getV (i := i) (v := y) h3 (by simpa using e)
    exact ⟨u, by simpa using q1, q2⟩
theorem RepDs.append : ∀ {ds es : List D} {vs us : List V}, RepDs K O H ds vs → RepDs K O H es us → RepDs K O H (ds ++ es) (vs ++ us)
  | [], _, _, _, h, q => by rw [show _ = [] from h]; exact q
  | x :: ds, _, _, _, ⟨v, r, h1, h2, h3⟩, q => by subst h1; exact ⟨v, _, rfl, h2, RepDs.append h3 q⟩
theorem RepDs.one {x : D} {v : V} (h : RepD K O H x v) : RepDs K O H [x] [v] := ⟨v, [], rfl, h, rfl⟩
theorem RepDs.take (n : Nat) : ∀ {ds : List D} {vs : List V}, RepDs K O H ds vs → RepDs K O H (ds.take n) (vs.take n) := by
  induction n with
  | zero => intro ds vs _; rw [List.take_zero, List.take_zero]; rfl
  | succ n ih =>
    intro ds vs h
    cases ds with
    | nil => rw [show vs = [] from h]; rfl
    | cons x ds => obtain ⟨v, r, h1, h2, h3⟩ := h; subst h1; exact ⟨v, _, rfl, h2, ih h3⟩
theorem RepDs.drop (n : Nat) : ∀ {ds : List D} {vs : List V}, RepDs K O H ds vs → RepDs K O H (ds.drop n) (vs.drop n) := by
  induction n with
  | zero => intro ds vs h; exact h
  | succ n ih =>
    intro ds vs h
    cases ds with
    | nil => rw [show vs = [] from h]; rfl
    | cons x ds => obtain ⟨v, r, h1, h2, h3⟩ := h; subst h1; exact ih h3
theorem RepDs.set {x : D} {v : V} (hx : RepD K O H x v) (n : Nat) : ∀ {ds : List D} {vs : List V}, RepDs K O H ds vs → RepDs K O H (ds.set n x) (vs.set n v) := by
  induction n with
  | zero =>
    intro ds vs h
    cases ds with
    | nil => rw [show vs = [] from h]; rfl
    | cons y ds => obtain ⟨u, r, h1, h2, h3⟩ := h; subst h1; exact ⟨v, r, rfl, hx, h3⟩
  | succ n ih =>
    intro ds vs h
    cases ds with
    | nil => rw [show vs = [] from h]; rfl
    | cons y ds => obtain ⟨u, r, h1, h2, h3⟩ := h; subst h1; exact ⟨u, _, rfl, h2, ih h3⟩
theorem RepDs.reverse : ∀ {ds : List D} {vs : List V}, RepDs K O H ds vs → RepDs K O H ds.reverse vs.reverse
  | [], _, h => by rw [show _ = [] from h]; rfl
  | x :: ds, _, ⟨v, r, h1, h2, h3⟩ => by
    subst h1
    rw [List.reverse_cons, List.reverse_cons]
    exact (RepDs.reverse h3).append (.one h2)
theorem RepDs.all {P : D → V → Prop} : ∀ {ds : List D} {vs : List V}, RepDs K O H ds vs → (∀ x v, x ∈ ds → RepD K O H x v → P x v) → Paired P ds vs
  | [], _, h, _ => by rw [show _ = [] from h]; exact .nil
  | x :: ds, _, ⟨v, r, h1, h2, h3⟩, k => by subst h1; exact .cons (k x v List.mem_cons_self h2) (RepDs.all h3 fun y u m => k y u (List.mem_cons_of_mem _ m))
end
end Den
/-! Den2: the state's relation, what a computation promises (tM), operands in a row, constants, names, arithmetic. -/
namespace Den
open PySem PySem.Spec PyProof.Rows L2

def Live (m : Mem) (r : Nat) : Prop := ∃ o, m[r]? = some (some o)
/-- the mutable objects; p: one that was just made -/
def Own (Hd : Addr → Prop) (al : List Addr) (m : Mem) (p : Option Addr) (a : Addr) : Prop := (∃ r : Nat, al[r]? = some a ∧ Live m r) ∨ Hd a ∨ p = some a
def RepW (K : PySem.W.Frag) (mg : Str → Option Value) (O : Addr → Prop) (p : Option Addr) (al : List Addr) (H : Hp) : W → V → Prop
  | .d x, v => p = none ∧ RepD K O H x v
  | .r n, v => p = none ∧ ∃ a, al[n]? = some a ∧ v = .ref a
  | .n x, v => ∃ a, p = some a ∧ v = .ref a ∧ ObOk K O H x a
  | .f x, v => p = none ∧ ∃ f, mg x = some (.ref f) ∧ v = .ref f
  | .s xs, v => p = none ∧ ∃ a vs, v = .ref a ∧ SqS K H a vs ∧ RepDs K O H xs vs
  | .e a, v => p = none ∧ v = .ref a
structure Stt (K : PySem.W.Frag) (Hd : Addr → Prop) (al : List Addr) (p : Option Addr) (H : Hp) (m : Mem) : Prop where
  len : al.length = m.length
  ob : ∀ (r : Nat) a o, al[r]? = some a → m[r]? = some (some o) → ObOk K (Own Hd al m p) H o a
  inj : ∀ (r r' : Nat) a, al[r]? = some a → al[r']? = some a → Live m r → Live m r' → r = r'
  pnd : ∀ a (r : Nat), p = some a → Live m r → al[r]? ≠ some a
  hin : ∀ a, Hd a → (∃ o, H a = some o) ∧ p ≠ some a ∧ ∀ r : Nat, Live m r → al[r]? ≠ some a
structure Go (Hd : Addr → Prop) (al : List Addr) (m : Mem) (p : Option Addr) (H : Hp) (al' : List Addr) (m' : Mem) (p' : Option Addr) (H' : Hp) : Prop where
  ext : Ext (Own Hd al m p) H (Own Hd al' m' p') H'
  pre : ∀ (r : Nat) a, al[r]? = some a → al'[r]? = some a
  hid : ∀ a o, Hd a → H a = some o → H' a = some o
def EnvOk (K : PySem.W.Frag) (mg : Str → Option Value) (O : Addr → Prop) (al : List Addr) (H : Hp) (rho : Env) (σ : St) : Prop :=
  rho.length = σ.length ∧ ∀ (i : Nat) w, rho[i]? = some (some w) → ∃ v, σ[i]? = some (some v) ∧ RepW K mg O none al H w v
def ExcOk (mg : Str → Option Value) : Exc → Value → Option Addr → Hp → (Addr → Prop) → Prop
  | .own x, c, d, _, _ => d = none ∧ ∃ C, mg x = some (.ref C) ∧ c = .ref C
  | .low x fld v, c, d, H, _ => ∃ C dd, mg x = some (.ref C) ∧ c = .ref C ∧ d = some dd ∧ ∃ i, v = .int i ∧ H dd = some (.xd [(fld, .int i)])

/-- what is wanted behind a computation's outcome -/
def Post {β : Type} (K : PySem.W.Frag) (mg : Str → Option Value) (Hd : Addr → Prop) (al : List Addr) (m : Mem) (H : Hp) (E : XK) (r : Rs β) (R : β → List Addr → Option Addr → Mem → Hp → Prop) : Prop :=
  match r with
  | .ok b m' => ∀ al' p H', Go Hd al m none H al' m' p H' → Stt K Hd al' p H' m' → R b al' p m' H'
  | .ex c m' => ∀ al' H' cls dd, Go Hd al m none H al' m' none H' → Stt K Hd al' none H' m' → ExcOk mg c cls dd H' (Own Hd al' m' none) → E cls dd H'
  | .no => False
/-- the reading of an expression whose computation is c -/
def tM (K : PySem.W.Frag) (mg : Str → Option Value) (E : St → XK) (c : EM W) : TE := fun σ H Q => ∃ Hd al rho m, Stt K Hd al none H m ∧ EnvOk K mg (Own Hd al m none) al H rho σ ∧
  Post K mg Hd al m H (E σ) (c rho m) fun w al' p m' H' => ∀ v, RepW K mg (Own Hd al' m' p) p al' H' w v → Q v H'
abbrev Den (X : Cx) (E : St → XK) (e : Expr) (c : EM W) : Prop := PE X e (tM X.K X.mg E c)

theorem PE.imp {X : Cx} {e : Expr} {t t' : TE} (h : PE X e t) (k : ∀ σ H Q, t' σ H Q → t σ H Q) : PE X e t' := ⟨fun pins s σ H Q I q => h.run pins s σ H Q I (k σ H Q q)⟩

section
variable {K : PySem.W.Frag} {mg : Str → Option Value} {O O' : Addr → Prop} {Hd : Addr → Prop} {al al1 al2 : List Addr} {m m1 m2 : Mem} {p p1 p2 : Option Addr} {H H1 H2 : Hp} {E : XK} {rho : Env} {σ : St}
theorem Go.refl : Go Hd al m p H al m p H := ⟨Ext.refl, fun _ _ h => h, fun _ _ _ h => h⟩
theorem Go.trans (a : Go Hd al m p H al1 m1 p1 H1) (b : Go Hd al1 m1 p1 H1 al2 m2 p2 H2) : Go Hd al m p H al2 m2 p2 H2 := ⟨a.ext.trans b.ext, fun r x h => b.pre r x (a.pre r x h), fun x o hx h => b.hid x o hx (a.hid x o hx h)⟩
/-- nobody is just made any more: it stands fast -/
theorem Go.settle : Go Hd al m p H al m none H := ⟨Ext.less fun a h => h.elim .inl fun z => z.elim (fun y => .inr (.inl y)) fun y => (nomatch y), fun _ _ h => h, fun _ _ _ h => h⟩
theorem Stt.settle (s : Stt K Hd al p H m) : Stt K Hd al none H m where
  len := s.len
  ob := fun r a o h1 h2 => by
    have q := s.ob r a o h1 h2
    have e : Ext (Own Hd al m p) H (Own Hd al m none) H := (Go.settle (p := p)).ext
    cases o with
    | list ds => obtain ⟨vs, h3, h4⟩ := q; exact ⟨vs, h3, h4.ext e⟩
    | dict kvs =>
      rcases q with ⟨kz, h3, h4⟩ | ⟨kz, h3, h4⟩
      · exact .inl ⟨kz, h3, RepK.ext e kvs kz h4⟩
      · exact .inr ⟨kz, h3, RepT.ext e kvs kz h4⟩
    | _ => exact q.elim
  inj := s.inj
  pnd := fun _ _ h => nomatch h
  hin := fun a h => ⟨(s.hin a h).1, (fun z => nomatch z), (s.hin a h).2.2⟩
theorem val_ok {w : W} {v : V} (s : Stt K Hd al p H m) (h : RepW K mg (Own Hd al m p) p al H w v) : RepW K mg (Own Hd al m none) none al H (val w) v := by
  cases w with
  | d x => exact ⟨rfl, h.2.ext (Go.settle (p := p)).ext⟩
  | r n => exact ⟨rfl, h.2⟩
  | f x => exact ⟨rfl, h.2⟩
  | s xs => obtain ⟨a, vs, h1, h2, h3⟩ := h.2; exact ⟨rfl, a, vs, h1, h2, h3.ext (Go.settle (p := p)).ext⟩
  | e a => exact ⟨rfl, h.2⟩
  | n x =>
    obtain ⟨a, e1, e2, q⟩ := h
    have e : Ext (Own Hd al m p) H (Own Hd al m none) H := (Go.settle (p := p)).ext
    have no : ¬ Own Hd al m none a := fun z => by
      rcases z with ⟨r, h1, h2⟩ | z | z
      · exact s.pnd a r e1 h2 h1
      · exact (s.hin a z).2.1 e1
      · cases z
    refine ⟨rfl, ?_⟩
    cases x with
    | list ds => obtain ⟨vs, h3, h4⟩ := q; exact ⟨a, vs, e2, ⟨h3, no⟩, h4.ext e⟩
    | dict kvs =>
      refine ⟨a, e2, no, ?_⟩
      rcases q with ⟨kz, h3, h4⟩ | ⟨kz, h3, h4⟩
      · exact .inl ⟨kz, .inl h3, RepK.ext e kvs kz h4⟩
      · exact .inr ⟨kz, .inl h3, RepT.ext e kvs kz h4⟩
    | _ => exact q.elim
theorem RepW.go {w : W} {v : V} (g : Go Hd al m none H al1 m1 p1 H1) (h : RepW K mg (Own Hd al m none) none al H w v) : RepW K mg (Own Hd al1 m1 p1) none al1 H1 w v := by
  cases w with
  | d x => exact ⟨rfl, h.2.ext g.ext⟩
  | r n => obtain ⟨a, h1, h2⟩ := h.2; exact ⟨rfl, a, g.pre _ _ h1, h2⟩
  | f x => exact ⟨rfl, h.2⟩
  | s xs => obtain ⟨a, vs, h1, h2, h3⟩ := h.2; exact ⟨rfl, a, vs, h1, sqS_ext g.ext h2, h3.ext g.ext⟩
  | e a => exact ⟨rfl, h.2⟩
  | n x => obtain ⟨a, h1, h2⟩ := h; cases h1
theorem EnvOk.go (e : EnvOk K mg (Own Hd al m none) al H rho σ) (g : Go Hd al m none H al1 m1 p1 H1) : EnvOk K mg (Own Hd al1 m1 p1) al1 H1 rho σ :=
  ⟨e.1, fun i w h => by obtain ⟨v, h1, h2⟩ := e.2 i w h; exact ⟨v, h1, h2.go g⟩⟩
theorem Post.imp {β : Type} {r : Rs β} {R R' : β → List Addr → Option Addr → Mem → Hp → Prop} (h : Post K mg Hd al m H E r R)
    (k : ∀ b al' p m' H', Go Hd al m none H al' m' p H' → Stt K Hd al' p H' m' → R b al' p m' H' → R' b al' p m' H') : Post K mg Hd al m H E r R' := by
  cases r with
  | ok b m' => exact fun al' p H' g s => k b al' p m' H' g s (h al' p H' g s)
  | ex c m' => exact h
  | no => exact h
/-- from a later point -/
theorem Post.go {β : Type} {r : Rs β} {R : β → List Addr → Option Addr → Mem → Hp → Prop} (g : Go Hd al m none H al1 m1 none H1) (h : Post K mg Hd al m H E r R) : Post K mg Hd al1 m1 H1 E r R := by
  cases r with
  | ok b m' => exact fun al' p H' g' s => h al' p H' (g.trans g') s
  | ex c m' => exact fun al' H' cls dd g' s => h al' H' cls dd (g.trans g') s
  | no => exact h
theorem Post.bind {β γ : Type} {r : Rs β} {k : β → Mem → Rs γ} {R : γ → List Addr → Option Addr → Mem → Hp → Prop} (h : Post K mg Hd al m H E (r.bind k) R) :
    Post K mg Hd al m H E r fun b al1 p1 m1 H1 => p1 = none → Post K mg Hd al1 m1 H1 E (k b m1) R := by
  cases r with
  | ok b m' => exact fun al' p H' g s e => by subst e; exact Post.go g h
  | ex c m' => exact h
  | no => exact h
/-- an operand -/
theorem Post.bindV {γ : Type} {r : Rs W} {k : W → Mem → Rs γ} {R : γ → List Addr → Option Addr → Mem → Hp → Prop} (h : Post K mg Hd al m H E (r.bindV k) R) :
    Post K mg Hd al m H E r fun w al1 p1 m1 H1 => ∀ v, RepW K mg (Own Hd al1 m1 p1) p1 al1 H1 w v →
      Go Hd al m none H al1 m1 none H1 ∧ Stt K Hd al1 none H1 m1 ∧ RepW K mg (Own Hd al1 m1 none) none al1 H1 (val w) v ∧ Post K mg Hd al1 m1 H1 E (k (val w) m1) R := by
  cases r with
  | ok w m' => exact fun al' p H' g s v rv => ⟨g.trans Go.settle, s.settle, val_ok s rv, Post.go (g.trans Go.settle) h⟩
  | ex c m' => exact h
  | no => exact h
theorem Post.ok {β : Type} {b : β} {R : β → List Addr → Option Addr → Mem → Hp → Prop} (s : Stt K Hd al none H m) (h : Post K mg Hd al m H E (.ok b m) R) : R b al none m H := h al none H Go.refl s
end

/-! ### one operand, two operands -/
def mOp1 (a : EM W) (f : W → Mem → Rs W) : EM W := fun rho m => (a rho m).bindV f
def mOp2 (a b : EM W) (f : W → W → Mem → Rs W) : EM W := fun rho m => (a rho m).bindV fun x m1 => (b rho m1).bindV fun y m2 => f x y m2
section
variable {X : Cx} {E : St → XK} {ea eb : Expr} {a b : EM W} {pos : Pos}
/-- a rule for one operand: from what the value is to the reading -/
def Un1 (X : Cx) (r : V → Hp → VK → Prop) (f : W → Mem → Rs W) : Prop := ∀ (E : XK) Hd al m H w v (R : W → List Addr → Option Addr → Mem → Hp → Prop) (Q : VK), Stt X.K Hd al none H m → RepW X.K X.mg (Own Hd al m none) none al H w v →
  Post X.K X.mg Hd al m H E (f w m) R → (∀ w' al' p m' H' v', R w' al' p m' H' → RepW X.K X.mg (Own Hd al' m' p) p al' H' w' v' → Q v' H') → r v H Q
def Bi2 (X : Cx) (r : R2) (f : W → W → Mem → Rs W) : Prop := ∀ (E : XK) Hd al m H w v w2 v2 (R : W → List Addr → Option Addr → Mem → Hp → Prop) (Q : VK), Stt X.K Hd al none H m → RepW X.K X.mg (Own Hd al m none) none al H w v → RepW X.K X.mg (Own Hd al m none) none al H w2 v2 →
  Post X.K X.mg Hd al m H E (f w w2 m) R → (∀ w' al' p m' H' v', R w' al' p m' H' → RepW X.K X.mg (Own Hd al' m' p) p al' H' w' v' → Q v' H') → r v v2 H Q
theorem tM_un {r : V → Hp → VK → Prop} {f : W → Mem → Rs W} (h : Un1 X r f) {σ : St} {H : Hp} {Q : VK} (q : tM X.K X.mg E (mOp1 a f) σ H Q) : tUn r (tM X.K X.mg E a) σ H Q := by
  obtain ⟨Hd, al, rho, m, s, e, P⟩ := q
  refine ⟨Hd, al, rho, m, s, e, (Post.bindV P).imp fun w al1 p1 m1 H1 g s1 k v rv => ?_⟩
  obtain ⟨g1, s1', rv1, P1⟩ := k v rv
  exact h _ _ _ _ _ _ _ _ Q s1' rv1 P1 fun w' al' p m' H' v' q' => q' v'
theorem tM_op {r : R2} {f : W → W → Mem → Rs W} (h : Bi2 X r f) {σ : St} {H : Hp} {Q : VK} (q : tM X.K X.mg E (mOp2 a b f) σ H Q) : tOp r (tM X.K X.mg E a) (tM X.K X.mg E b) σ H Q := by
  obtain ⟨Hd, al, rho, m, s, e, P⟩ := q
  refine ⟨Hd, al, rho, m, s, e, (Post.bindV P).imp fun w al1 p1 m1 H1 g s1 k v rv => ?_⟩
  obtain ⟨g1, s1', rv1, P1⟩ := k v rv
  refine ⟨Hd, al1, rho, m1, s1', e.go g1, (Post.bindV P1).imp fun w2 al2 p2 m2 H2 g2 s2 k2 v2 rw2 => ?_⟩
  obtain ⟨g3, s2', rv2, P2⟩ := k2 v2 rw2
  exact h _ _ _ _ _ _ _ _ _ _ Q s2' (rv1.go g3) rv2 P2 fun w' al' p m' H' v' q' => q' v'

/-! ### constants and names -/
def mC (x : D) : EM W := fun _ m => .ok (.d x) m
def mVar (i : Nat) : EM W := fun rho m => match rho[i]? with | some (some w) => .ok w m | _ => .no
def mF (x : Str) : EM W := fun _ m => .ok (.f x) m
theorem den_const {e : Expr} {x : D} {v : V} (h : PE X e (tC v)) (r : ∀ K O H, RepD K O H x v) : Den X E e (mC x) := PE.imp h fun σ H Q q => by
  obtain ⟨Hd, al, rho, m, s, e, P⟩ := q
  exact (Post.ok s P) v ⟨rfl, r _ _ _⟩
theorem den_int {i : Int} {j pos} : Den X E (.Constant (.int i) j pos) (mC (.int i)) := den_const pe_int fun _ _ _ => rfl
theorem den_bool {b : Bool} {j pos} : Den X E (.Constant (.bool b) j pos) (mC (.bool b)) := den_const pe_bl fun _ _ _ => rfl
theorem den_none {j pos} : Den X E (.Constant .none j pos) (mC .none) := den_const pe_non fun _ _ _ => rfl
theorem den_str {x : Str} {j pos} : Den X E (.Constant (.str x) j pos) (mC (.str x)) := den_const pe_str fun _ _ _ => rfl
theorem den_var (i : Nat) {x : Str} {pos : Pos} (hN : X.N[i]? = some x := by rfl) (hv : Vis X.env.scope x := by first | exact Or.inl rfl | exact Or.inr (Or.inl rfl) | exact Or.inr (Or.inr rfl)) (hd : (x == ("__debug__" : Str)) = false := by decide)
    (hcd : (x == ("__classdict__" : Str)) = false := by decide) : Den X E (.Name x pos) (mVar i) := PE.imp (pe_var hN hv hd hcd) fun σ H Q q => by
  obtain ⟨Hd, al, rho, m, s, e, P⟩ := q
  unfold mVar at P
  split at P
  · rename_i w hw
    obtain ⟨v, h1, h2⟩ := e.2 i w hw
    exact ⟨v, h1, (Post.ok s P) v h2⟩
  · exact P.elim
theorem den_fn {x : Str} {f : Addr} {pos : Pos} (hg : Gl X x) (hm : X.mg x = some (.ref f)) (hd : (x == ("__debug__" : Str)) = false := by decide) : Den X E (.Name x pos) (mF x) := PE.imp (pe_glob (v := .ref f) hg hm rfl hd) fun σ H Q q => by
  obtain ⟨Hd, al, rho, m, s, e, P⟩ := q
  exact (Post.ok s P) _ ⟨rfl, f, hm, rfl⟩
end
end Den
/-! Den3: what an operand is, new objects, operators. -/
namespace Den
open PySem PySem.Spec PyProof.Rows L2

section
variable (K : PySem.W.Frag) (O : Addr → Prop) (H : Hp)
/-- an operand's data: a container may be one of the mutable ones -/
def RepP : D → V → Prop
  | .list ds, v => ∃ a vs, v = .ref a ∧ H a = some (.lst vs) ∧ RepDs K O H ds vs
  | .dict kvs, v => ∃ a, v = .ref a ∧ ((∃ kz, Rd H a (.dK kz) ∧ RepK K O H kvs kz) ∨ (∃ kz, Rd H a (.dT kz) ∧ RepT K O H kvs kz))
  | x, v => RepD K O H x v
end
section
variable {K : PySem.W.Frag} {mg : Str → Option Value} {O O' : Addr → Prop} {Hd : Addr → Prop} {al al1 al2 : List Addr} {m m1 m2 : Mem} {p p1 p2 : Option Addr} {H H1 H2 : Hp} {E : XK} {rho : Env} {σ : St}
theorem RepD.P : ∀ {x : D} {v : V}, RepD K O H x v → RepP K O H x v
  | .none, _, h => h
  | .bool _, _, h => h
  | .int _, _, h => h
  | .str _, _, h => h
  | .tuple _, _, h => h
  | .list _, _, ⟨a, vs, h1, h2, h3⟩ => ⟨a, vs, h1, h2.1, h3⟩
  | .dict _, _, ⟨a, h1, _, h2⟩ => ⟨a, h1, h2⟩
theorem peek_ok {w : W} {v : V} {x : D} (s : Stt K Hd al none H m) (h : RepW K mg (Own Hd al m none) none al H w v) (e : peek m w = some x) : RepP K (Own Hd al m none) H x v := by
  cases w with
  | d y => cases e; exact h.2.P
  | n y => obtain ⟨a, h1, _⟩ := h; cases h1
  | f y => cases e
  | s y => cases e
  | e y => cases e
  | r n =>
    obtain ⟨a, h1, rfl⟩ := h.2
    have e' : (m[n]?).join = some x := e
    have em : m[n]? = some (some x) := by
      cases q : m[n]? with
      | none => rw [q] at e'; cases e'
      | some o => rw [q] at e'; have z : o = some x := e'; rw [z]
    have ob := s.ob n a x h1 em
    cases x with
    | list ds => obtain ⟨vs, h2, h3⟩ := ob; exact ⟨a, vs, rfl, h2, h3⟩
    | dict kvs => exact ⟨a, rfl, ob.imp (fun ⟨kz, h, r⟩ => ⟨kz, .inl h, r⟩) fun ⟨kz, h, r⟩ => ⟨kz, .inl h, r⟩⟩
    | _ => exact ob.elim
mutual
theorem RepD.dp : ∀ (x : D) (v : V), RepD K O H x v → x.hasDict = false → Dp K H v x
  | .none, _, h, _ => by cases h; exact .non
  | .bool b, _, h, _ => by cases h; exact .bl b
  | .int i, _, h, _ => by cases h; exact .int i
  | .str x, _, h, _ => by cases h; exact .str x
  | .tuple ds, _, ⟨a, vs, h1, h2, h3⟩, n => by subst h1; exact .tup (sqP h2) (RepDs.dp ds vs h3 (by simpa only [PyData.hasDict] using n))
  | .list ds, _, ⟨a, vs, h1, h2, h3⟩, n => by subst h1; exact .lst (.inl (.inl h2.1)) (RepDs.dp ds vs h3 (by simpa only [PyData.hasDict] using n))
  | .dict kvs, _, _, n => by simp only [PyData.hasDict] at n; cases n
theorem RepDs.dp : ∀ (ds : List D) (vs : List V), RepDs K O H ds vs → PyData.hasDictAll ds = false → DpAll K H vs ds
  | [], _, h, _ => by rw [show _ = [] from h]; exact .nil
  | x :: ds, _, ⟨v, r, h1, h2, h3⟩, n => by
    subst h1
    simp only [PyData.hasDictAll, Bool.or_eq_false_iff] at n
    exact .cons (RepD.dp x v h2 n.1) (RepDs.dp ds r h3 n.2)
end
theorem RepP.dp {x : D} {v : V} (h : RepP K O H x v) (n : x.hasDict = false) : Dp K H v x := by
  cases x with
  | list ds => obtain ⟨a, vs, rfl, h2, h3⟩ := h; exact .lst (.inl (.inl h2)) (h3.dp _ _ (by simpa only [PyData.hasDict] using n))
  | dict kvs => simp only [PyData.hasDict] at n; cases n
  | none => exact RepD.dp (O := O) _ _ h n
  | bool b => exact RepD.dp (O := O) _ _ h n
  | int i => exact RepD.dp (O := O) _ _ h n
  | str z => exact RepD.dp (O := O) _ _ h n
  | tuple ds => exact RepD.dp (O := O) _ _ h n
theorem noDict_shaped {x : D} (h : SeqAt.shaped x = true) : x.hasDict = false := PyData.hasDict_of_canLay _ (SeqAt.canLay_of_shaped h)

/-! ### a new object -/
theorem ObOk.stay {x : D} {a : Addr} (e : Ext O H O' H1) (k : H1 a = H a) (h : ObOk K O H x a) : ObOk K O' H1 x a := by
  cases x with
  | list ds => obtain ⟨vs, h1, h2⟩ := h; exact ⟨vs, k.trans h1, h2.ext e⟩
  | dict kvs =>
    rcases h with ⟨kz, h2, h3⟩ | ⟨kz, h2, h3⟩
    · exact .inl ⟨kz, k.trans h2, RepK.ext e kvs kz h3⟩
    · exact .inr ⟨kz, k.trans h2, RepT.ext e kvs kz h3⟩
  | _ => exact h.elim
theorem ObOk.some {x : D} {a : Addr} (h : ObOk K O H x a) : ∃ o, H a = some o ∧ Mut (some o) := by
  cases x with
  | list ds => obtain ⟨vs, h1, _⟩ := h; exact ⟨_, h1, True.intro⟩
  | dict kvs => rcases h with ⟨kz, h2, _⟩ | ⟨kz, h2, _⟩ <;> exact ⟨_, h2, True.intro⟩
  | _ => exact h.elim
theorem Stt.own (s : Stt K Hd al p H m) {a : Addr} (h : Own Hd al m none a) : ∃ o, H a = Option.some o := by
  rcases h with ⟨r, h1, o, h2⟩ | h | h
  · obtain ⟨o, h, _⟩ := (s.ob r a o h1 h2).some
    exact ⟨o, h⟩
  · exact (s.hin a h).1
  · cases h
theorem go_new {a : Addr} {o : HO} {q : Option Addr} (hn : H a = none) (hq : q = none ∨ q = some a) : Go Hd al m none H al m q (upd H a o) where
  ext := .of (fun b vs h => by rw [upd_ne (ne_of_none h hn)]; exact h) (fun b ob u h => by rw [upd_ne (ne_of_none h hn)]; exact h) (fun b ob h _ => by rw [upd_ne (ne_of_none h hn)]; exact h)
    fun b z => by
      rcases z with z | z | z
      · exact .inl (.inl z)
      · exact .inl (.inr (.inl z))
      · rcases hq with q0 | q0
        · rw [q0] at z; cases z
        · rw [q0] at z; cases z; exact .inr hn
  pre := fun _ _ h => h
  hid := fun b ob _ h => by rw [upd_ne (ne_of_none h hn)]; exact h
theorem stt_new {a : Addr} {o : HO} {q : Option Addr} (s : Stt K Hd al none H m) (hn : H a = none) (hq : q = none ∨ q = some a) : Stt K Hd al q (upd H a o) m where
  len := s.len
  ob := fun r b x h1 h2 => by
    have h := s.ob r b x h1 h2
    obtain ⟨u, hu, _⟩ := h.some
    exact h.stay (go_new hn hq).ext (upd_ne (ne_of_none hu hn))
  inj := s.inj
  pnd := fun b r h1 h2 h3 => by
    rcases hq with q0 | q0
    · rw [q0] at h1; cases h1
    · rw [q0] at h1; cases h1
      obtain ⟨x, hx⟩ := h2
      obtain ⟨u, hu, _⟩ := (s.ob r _ x h3 hx).some
      rw [hn] at hu; cases hu
  hin := fun b hb => by
    obtain ⟨⟨u, hu⟩, h2, h3⟩ := s.hin b hb
    refine ⟨⟨u, by rw [upd_ne (ne_of_none hu hn)]; exact hu⟩, fun z => ?_, h3⟩
    rcases hq with q0 | q0
    · rw [q0] at z; cases z
    · rw [q0] at z; cases z
      rw [hn] at hu; cases hu
theorem Post.fresh {β : Type} {b : β} {R : β → List Addr → Option Addr → Mem → Hp → Prop} {a : Addr} {o : HO} (s : Stt K Hd al none H m) (hn : H a = none) (h : Post K mg Hd al m H E (.ok b m) R) : R b al none m (upd H a o) :=
  h al none _ (go_new hn (.inl rfl)) (stt_new s hn (.inl rfl))
theorem Post.made {β : Type} {b : β} {R : β → List Addr → Option Addr → Mem → Hp → Prop} {a : Addr} {o : HO} (s : Stt K Hd al none H m) (hn : H a = none) (h : Post K mg Hd al m H E (.ok b m) R) : R b al (some a) m (upd H a o) :=
  h al (some a) _ (go_new hn (.inr rfl)) (stt_new s hn (.inr rfl))
theorem RepDs.fresh {ds : List D} {vs : List V} {a : Addr} {o : HO} {q : Option Addr} (h : RepDs K (Own Hd al m none) H ds vs) (hn : H a = none) (hq : q = none ∨ q = some a) : RepDs K (Own Hd al m q) (upd H a o) ds vs := h.ext (go_new hn hq).ext
/-- a new list, a new tuple as a result -/
theorem res_list {X : Cx} {ds : List D} {vs : List V} {R : W → List Addr → Option Addr → Mem → Hp → Prop} {Q : VK} {a : Addr} (s : Stt X.K Hd al none H m) (h : RepDs X.K (Own Hd al m none) H ds vs) (hn : H a = none) (P : Post X.K X.mg Hd al m H E (.ok (.n (.list ds)) m) R)
    (k : ∀ w' al' p m' H' v', R w' al' p m' H' → RepW X.K X.mg (Own Hd al' m' p) p al' H' w' v' → Q v' H') : Q (.ref a) (upd H a (.lst vs)) :=
  k _ _ _ _ _ _ (P.made s hn) ⟨a, rfl, rfl, vs, upd_same, h.fresh hn (.inr rfl)⟩
theorem res_tup {X : Cx} {ds : List D} {vs : List V} {R : W → List Addr → Option Addr → Mem → Hp → Prop} {Q : VK} {a : Addr} (s : Stt X.K Hd al none H m) (h : RepDs X.K (Own Hd al m none) H ds vs) (hn : H a = none) (P : Post X.K X.mg Hd al m H E (.ok (.d (.tuple ds)) m) R)
    (k : ∀ w' al' p m' H' v', R w' al' p m' H' → RepW X.K X.mg (Own Hd al' m' p) p al' H' w' v' → Q v' H') : Q (.ref a) (upd H a (.tup vs)) :=
  k _ _ _ _ _ _ (P.fresh s hn) ⟨rfl, a, vs, rfl, .inl upd_same, h.fresh hn (.inl rfl)⟩
theorem res_d {X : Cx} {x : D} {v : V} {R : W → List Addr → Option Addr → Mem → Hp → Prop} {Q : VK} (s : Stt X.K Hd al none H m) (P : Post X.K X.mg Hd al m H E (.ok (.d x) m) R) (h : RepD X.K (Own Hd al m none) H x v)
    (k : ∀ w' al' p m' H' v', R w' al' p m' H' → RepW X.K X.mg (Own Hd al' m' p) p al' H' w' v' → Q v' H') : Q v H := k _ _ _ _ _ _ (P.ok s) ⟨rfl, h⟩
end

/-! ### operators by data -/
def lift1 (g : D → Option W) : W → Mem → Rs W := fun x m => match peek m x with | some a => (match g a with | some w => .ok w m | none => .no) | none => .no
def lift2 (g : D → D → Option W) : W → W → Mem → Rs W := fun x y m => match peek m x, peek m y with | some a, some b => (match g a b with | some w => .ok w m | none => .no) | _, _ => .no
section
variable {X : Cx} {E : St → XK} {ea eb : Expr} {a b : EM W} {pos : Pos}
theorem un_lift {r : V → Hp → VK → Prop} {g : D → Option W} (h : ∀ (E : XK) Hd al m H x v w (R : W → List Addr → Option Addr → Mem → Hp → Prop) (Q : VK), Stt X.K Hd al none H m → RepP X.K (Own Hd al m none) H x v → g x = some w →
    Post X.K X.mg Hd al m H E (.ok w m) R → (∀ w' al' p m' H' v', R w' al' p m' H' → RepW X.K X.mg (Own Hd al' m' p) p al' H' w' v' → Q v' H') → r v H Q) : Un1 X r (lift1 g) := by
  intro E Hd al m H w v R Q s rv P k
  unfold lift1 at P
  split at P
  · rename_i x hx
    split at P
    · rename_i z hz
      exact h E Hd al m H x v z R Q s (peek_ok s rv hx) hz P k
    · exact P.elim
  · exact P.elim
theorem bi_lift {r : R2} {g : D → D → Option W} (h : ∀ (E : XK) Hd al m H x v y u w (R : W → List Addr → Option Addr → Mem → Hp → Prop) (Q : VK), Stt X.K Hd al none H m → RepP X.K (Own Hd al m none) H x v → RepP X.K (Own Hd al m none) H y u → g x y = some w →
    Post X.K X.mg Hd al m H E (.ok w m) R → (∀ w' al' p m' H' v', R w' al' p m' H' → RepW X.K X.mg (Own Hd al' m' p) p al' H' w' v' → Q v' H') → r v u H Q) : Bi2 X r (lift2 g) := by
  intro E Hd al m H w v w2 v2 R Q s rv rv2 P k
  unfold lift2 at P
  split at P
  · rename_i x y hx hy
    split at P
    · rename_i z hz
      exact h E Hd al m H x v y v2 z R Q s (peek_ok s rv hx) (peek_ok s rv2 hy) hz P k
    · exact P.elim
  · exact P.elim
theorem opOr {f : Value → Value → Sem Value} {r r' : R2} (h : OpR X f r) (h' : OpR X f r') : OpR X f (fun x y H Q => r x y H Q ∨ r' x y H Q) := fun pins s σ H x y v u Q I rx ry q =>
  q.elim (h pins s σ H x y v u Q I rx ry) (h' pins s σ H x y v u Q I rx ry)

/-- data of two ints -/
def onI (g : Int → Int → Option D) : D → D → Option W
  | .int i, .int j => (g i j).map .d
  | _, _ => none
theorem bi_int {C : Int → Int → Prop} {g : Int → Int → V} {f : Int → Int → Option D} (h : ∀ i j x, f i j = some x → C i j ∧ ∀ K O H, RepD K O H x (g i j)) : Bi2 X (rI C g) (lift2 (onI f)) := bi_lift fun E Hd al m H x v y u w R Q s rx ry hg P k => by
  cases x <;> cases y <;> first | (simp only [onI] at hg; cases hg; done) | skip
  rename_i i j
  have e1 : v = .int i := rx
  have e2 : u = .int j := ry
  subst e1 e2
  obtain ⟨x, hx, rfl⟩ := Option.map_eq_some_iff.mp hg
  obtain ⟨c, rp⟩ := h i j x hx
  exact ⟨i, j, rfl, rfl, c, res_d s P (rp _ _ _) k⟩
theorem rI0_of {g : Int → Int → V} {x y : V} {H : Hp} {Q : VK} (h : rI (fun _ _ => True) g x y H Q) : rI0 g x y H Q := by
  obtain ⟨i, j, h1, h2, _, h3⟩ := h
  exact ⟨i, j, h1, h2, h3⟩
theorem bi_int0 {g : Int → Int → V} {f : Int → Int → D} (h : ∀ i j K O H, RepD K O H (f i j) (g i j)) : Bi2 X (rI0 g) (lift2 (onI fun i j => some (f i j))) := fun E Hd al m H w v w2 v2 R Q s r1 r2 P k =>
  rI0_of (bi_int (C := fun _ _ => True) (fun i j x e => ⟨trivial, by cases e; exact h i j⟩) E Hd al m H w v w2 v2 R Q s r1 r2 P k)

def small (n : Nat) : Bool := decide (n ≤ 1000000)
theorem small_line {n : Nat} (h : small n = true) : n ≤ sizeLine := Nat.le_trans (of_decide_eq_true h) (by decide)
def addD : D → D → Option W
  | .int i, .int j => some (.d (.int (i + j)))
  | .str x, .str y => if small (x.length + y.length) then some (.d (.str (x ++ y))) else none
  | .list xs, .list ys => if small (xs.length + ys.length) then some (.n (.list (xs ++ ys))) else none
  | .tuple xs, .tuple ys => if small (xs.length + ys.length) then some (.d (.tuple (xs ++ ys))) else none
  | _, _ => none
theorem ite_none {α : Type} {c : Bool} {x y : α} (h : (if c = true then some x else none) = some y) : c = true ∧ x = y := by
  cases c with
  | true => exact ⟨rfl, Option.some.inj h⟩
  | false => cases h
theorem bi_add : Bi2 X (fun x y H Q => rI0 (fun i j => .int (i + j)) x y H Q ∨ (fun x y H Q => (fun x y H Q => ∃ i j, x = .str i ∧ y = .str j ∧ i.length + j.length ≤ sizeLine ∧ Q (.str (i ++ j)) H) x y H Q ∨ (fun x y H Q => rCat x y H Q ∨ rCatA X.K x y H Q) x y H Q) x y H Q) (lift2 addD) := bi_lift fun E Hd al m H x v y u w R Q s rx ry hg P k => by
  cases x <;> cases y <;> first | (simp only [addD] at hg; cases hg; done) | skip
  · rename_i i j
    have e1 : v = .int i := rx
    have e2 : u = .int j := ry
    subst e1 e2
    cases hg
    exact .inl ⟨i, j, rfl, rfl, res_d s P rfl k⟩
  · rename_i i j
    have e1 : v = .str i := rx
    have e2 : u = .str j := ry
    subst e1 e2
    obtain ⟨c, rfl⟩ := ite_none hg
    exact .inr (.inl ⟨i, j, rfl, rfl, small_line c, res_d s P rfl k⟩)
  · obtain ⟨l, xs, rfl, h1, h2⟩ := rx
    obtain ⟨b, ys, rfl, h3, h4⟩ := ry
    obtain ⟨c, rfl⟩ := ite_none hg
    exact .inr (.inr (.inl ⟨l, b, xs, ys, rfl, rfl, h1, h3, by rw [h2.len, h4.len]; exact small_line c, fun p hp => res_list s (h2.append h4) hp P k⟩))
  · obtain ⟨l, xs, rfl, h1, h2⟩ := rx
    obtain ⟨b, ys, rfl, h3, h4⟩ := ry
    obtain ⟨c, rfl⟩ := ite_none hg
    refine .inr (.inr (.inr ⟨l, b, xs, ys, rfl, rfl, sqP h1, sqP h3, by rw [h2.len, h4.len]; exact small_line c, fun e => ?_, fun e e' => ?_, fun e e' p hp => res_tup s (h2.append h4) hp P k⟩))
    · have z := h2.len
      rw [e] at z
      rename_i ds es
      have z' : ds = [] := List.eq_nil_of_length_eq_zero z.symm
      subst z'
      exact res_d s P ⟨b, ys, rfl, h3, h4⟩ k
    · have z := h4.len
      rw [e'] at z
      rename_i ds es
      have z' : es = [] := List.eq_nil_of_length_eq_zero z.symm
      subst z'
      rw [List.append_nil] at P
      exact res_d s P ⟨l, xs, rfl, h1, h2⟩ k
def mAdd (a b : EM W) : EM W := mOp2 a b (lift2 addD)
theorem den_add (ha : Den X E ea a) (hb : Den X E eb b) : Den X E (.BinOp ea .Add eb pos) (mAdd a b) := PE.imp (pe_op (opOr op_add (opOr op_add_str (opOr op_cat op_catA))) ha hb) fun _ _ _ q => tM_op bi_add q
def mSub (a b : EM W) : EM W := mOp2 a b (lift2 (onI fun i j => some (.int (i - j))))
theorem den_sub (ha : Den X E ea a) (hb : Den X E eb b) : Den X E (.BinOp ea .Sub eb pos) (mSub a b) := PE.imp (pe_op op_sub ha hb) fun _ _ _ q => tM_op (bi_int0 (f := fun i j => .int (i - j)) fun _ _ _ _ _ => rfl) q
def fdivD (i j : Int) : Option D := if decide (0 < j ∧ j.natAbs.log2 < 9000) then some (.int (i / j)) else none
def modD (i j : Int) : Option D := if decide (0 < j) then some (.int (i % j)) else none
def powD (i j : Int) : Option D := if decide (0 ≤ j ∧ j ≤ 1000000 ∧ i.natAbs < 2 ^ 64) then some (.int (i ^ j.toNat)) else none
def shlD (i j : Int) : Option D := if decide (0 ≤ j ∧ j ≤ 1000000 ∧ i.natAbs < 2 ^ 64) then some (.int (i * 2 ^ j.toNat)) else none
def shrD (i j : Int) : Option D := if decide (0 ≤ j) then some (.int (i / 2 ^ j.toNat)) else none
def mFdiv (a b : EM W) : EM W := mOp2 a b (lift2 (onI fdivD))
def mMod (a b : EM W) : EM W := mOp2 a b (lift2 (onI modD))
def mPow (a b : EM W) : EM W := mOp2 a b (lift2 (onI powD))
def mShl (a b : EM W) : EM W := mOp2 a b (lift2 (onI shlD))
def mShr (a b : EM W) : EM W := mOp2 a b (lift2 (onI shrD))
def mAnd (a b : EM W) : EM W := mOp2 a b (lift2 (onI fun i j => some (.int (Builtin.bitAnd i j))))
def mOr (a b : EM W) : EM W := mOp2 a b (lift2 (onI fun i j => some (.int (Builtin.bitOr i j))))
theorem den_fdiv (ha : Den X E ea a) (hb : Den X E eb b) : Den X E (.BinOp ea .FloorDiv eb pos) (mFdiv a b) := PE.imp (pe_op op_fdivW ha hb) fun _ _ _ q => tM_op (bi_int fun i j x e => by
  obtain ⟨c, rfl⟩ := ite_none e
  exact ⟨of_decide_eq_true (p := 0 < j ∧ j.natAbs.log2 < 9000) c, fun _ _ _ => rfl⟩) q
theorem den_mod (ha : Den X E ea a) (hb : Den X E eb b) : Den X E (.BinOp ea .Mod eb pos) (mMod a b) := PE.imp (pe_op op_mod ha hb) fun _ _ _ q => tM_op (bi_int fun i j x e => by
  obtain ⟨c, rfl⟩ := ite_none e
  exact ⟨of_decide_eq_true (p := 0 < j) c, fun _ _ _ => rfl⟩) q
theorem den_pow (ha : Den X E ea a) (hb : Den X E eb b) : Den X E (.BinOp ea .Pow eb pos) (mPow a b) := PE.imp (pe_op op_pow ha hb) fun _ _ _ q => tM_op (bi_int fun i j x e => by
  obtain ⟨c, rfl⟩ := ite_none e
  exact ⟨of_decide_eq_true (p := 0 ≤ j ∧ j ≤ 1000000 ∧ i.natAbs < 2 ^ 64) c, fun _ _ _ => rfl⟩) q
theorem den_shl (ha : Den X E ea a) (hb : Den X E eb b) : Den X E (.BinOp ea .LShift eb pos) (mShl a b) := PE.imp (pe_op op_shl ha hb) fun _ _ _ q => tM_op (bi_int fun i j x e => by
  obtain ⟨c, rfl⟩ := ite_none e
  exact ⟨of_decide_eq_true (p := 0 ≤ j ∧ j ≤ 1000000 ∧ i.natAbs < 2 ^ 64) c, fun _ _ _ => rfl⟩) q
theorem den_shr (ha : Den X E ea a) (hb : Den X E eb b) : Den X E (.BinOp ea .RShift eb pos) (mShr a b) := PE.imp (pe_op op_shr ha hb) fun _ _ _ q => tM_op (bi_int fun i j x e => by
  obtain ⟨c, rfl⟩ := ite_none e
  exact ⟨of_decide_eq_true (p := 0 ≤ j) c, fun _ _ _ => rfl⟩) q
theorem den_and (ha : Den X E ea a) (hb : Den X E eb b) : Den X E (.BinOp ea .BitAnd eb pos) (mAnd a b) := PE.imp (pe_op op_and ha hb) fun _ _ _ q => tM_op (bi_int0 (f := fun i j => .int (Builtin.bitAnd i j)) fun _ _ _ _ _ => rfl) q
theorem den_or (ha : Den X E ea a) (hb : Den X E eb b) : Den X E (.BinOp ea .BitOr eb pos) (mOr a b) := PE.imp (pe_op op_or ha hb) fun _ _ _ q => tM_op (bi_int0 (f := fun i j => .int (Builtin.bitOr i j)) fun _ _ _ _ _ => rfl) q

/-- a tuple of no item, or once: itself -/
theorem tup_once (l : Addr) (items : Array Value) (n : Nat) (dd : Option Addr) (sl : Array (Option Value)) (x : Int) (u : Tok) (b0 : (decide (x < -(2 ^ 63)) || decide (x ≥ 2 ^ 63)) = false) (b1 : (items.isEmpty || x == 1) = true) :
    Meets (Builtin.«tuple.__mul__» ⟨[.ref l, .int x u], []⟩) (fun _ R s => s.heap.get? l = some { cls := .type "tuple", dict := dd, data := .seq items n, slots := sl } ∧ R (.ok (.ret (.ref l))) s) :=
  .of_wp fun prog w A R s h => by
    obtain ⟨hp, g, d, tk, os⟩ := s
    obtain ⟨hl, h⟩ := h
    have f1 := AutoSeq1.idx_int
    wp_walk using wpAny_loadPart' hl
    repeat (first
      | (refine wpAny_ite_false (decide_eq_false (by rw [b0]; exact Bool.false_ne_true)) ?_; wp_walk using wpAny_loadPart' hl)
      | (refine wpAny_ite_true (decide_eq_true b1) ?_; wp_walk using wpAny_loadPart' hl))
    exact ⟨_, rfl, h⟩
/-- no times: the empty one, new -/
theorem tup_never (l : Addr) (items : Array Value) (n : Nat) (dd : Option Addr) (sl : Array (Option Value)) (x : Int) (u : Tok) (b0 : (decide (x < -(2 ^ 63)) || decide (x ≥ 2 ^ 63)) = false) (b1 : (items.isEmpty || x == 1) = false) (b2 : (decide (x ≤ 0) || items.isEmpty) = true) :
    Meets (Builtin.«tuple.__mul__» ⟨[.ref l, .int x u], []⟩) (fun _ R s => s.heap.get? l = some { cls := .type "tuple", dict := dd, data := .seq items n, slots := sl } ∧
      R (.ok (.ret (Value.ref s.heap.objs.size))) { s with heap := s.heap.push { cls := Value.type "tuple", data := Data.seq #[] }, toks := s.toks }) :=
  .of_wp fun prog w A R s h => by
    obtain ⟨hp, g, d, tk, os⟩ := s
    obtain ⟨hl, h⟩ := h
    have f1 := AutoSeq1.idx_int
    wp_walk using wpAny_loadPart' hl
    repeat (first
      | (refine wpAny_ite_false (decide_eq_false (by rw [b0]; exact Bool.false_ne_true)) ?_; wp_walk using wpAny_loadPart' hl)
      | (refine wpAny_ite_false (decide_eq_false (by rw [b1]; exact Bool.false_ne_true)) ?_; wp_walk using wpAny_loadPart' hl)
      | (refine wpAny_ite_true (decide_eq_true b2) ?_; wp_walk using wpAny_loadPart' hl))
    exact ⟨_, rfl, h⟩
def rRepT1 (K : PySem.W.Frag) : R2 := fun x y H Q => ∃ l k xs, x = .ref l ∧ y = .int k ∧ SqT K H l xs ∧ -1000000 ≤ k ∧ k ≤ 1000000 ∧ (if xs = [] ∨ k = 1 then Q (.ref l) H else k ≤ 0 ∧ ∀ p, H p = none → Q (.ref p) (upd H p (.tup [])))
theorem op_repT1 : OpR X (binaryOp .Mult) (rRepT1 X.K) := by
  intro pins s σ H x y v u Q I rx ry h
  obtain ⟨l, k, xs, rfl, rfl, hT, k1, k2, q⟩ := h
  cases rx
  obtain ⟨t, rfl⟩ := ry
  obtain ⟨its, r, ⟨⟨cls, dd, data, sl⟩, ho, hc, n, hd⟩, hs⟩ := I.tuple hT
  simp only at hc hd
  subst hc hd
  have hle : its.length = xs.length := r.length.symm
  have b0 : (decide (k < -(2 ^ 63)) || decide (k ≥ 2 ^ 63)) = false := by
    have e1 : decide (k < -(2 ^ 63)) = false := decide_eq_false (by omega)
    have e2 : decide (k ≥ 2 ^ 63) = false := decide_eq_false (by omega)
    rw [e1, e2]; rfl
  have emp : its.toArray.isEmpty = decide (xs = []) := by
    cases its with
    | nil => cases xs with
      | nil => rfl
      | cons a b => cases hle
    | cons a b => cases xs with
      | nil => cases hle
      | cons c d => rfl
  refine wpAny_binaryOp_repeat_ref (T := "tuple") (U := "int") (by decide) ⟨_, ho, rfl⟩ (fun s' => typeIs_int s' k t) noFill_tuple_mul F.fills_int_mul F.slot_int_rmul repeat_tuple F.slot_int_index.lookup
    (call_meets F.slot_int_rmul (typeIs_int s k t) F.entry_int_rmul (F.args_int_rmul_2 _ _) (int_rmul_tuple k t l its.toArray n dd sl) ⟨ho, rfl, ⟨_, ho, rfl⟩, ?_⟩)
  by_cases c : xs = [] ∨ k = 1
  · rw [if_pos c] at q
    have b1 : (its.toArray.isEmpty || k == 1) = true := by
      rw [emp]
      rcases c with c | c
      · rw [decide_eq_true c]; rfl
      · rw [c]; simp
    exact call_meets F.slot_tuple_mul ⟨_, ho, rfl⟩ F.entry_tuple_mul (F.args_tuple_mul_2 _ _) (tup_once l its.toArray n dd sl k t b0 b1) ⟨ho, .ref l, H, I, rfl, q⟩
  · rw [if_neg c] at q
    have c' := not_or.mp c
    have b1 : (its.toArray.isEmpty || k == 1) = false := by
      rw [emp, decide_eq_false c'.1, Bool.false_or]; exact beq_eq_false_iff_ne.mpr c'.2
    have b2 : (decide (k ≤ 0) || its.toArray.isEmpty) = true := by rw [decide_eq_true q.1]; rfl
    refine call_meets F.slot_tuple_mul ⟨_, ho, rfl⟩ F.entry_tuple_mul (F.args_tuple_mul_2 _ _) (tup_never l its.toArray n dd sl k t b0 b1 b2) ⟨ho, .ref s.heap.objs.size, _, I.laid (t' := s.toks) (o := .tup []) (fun b ob q => Heap.get?_push_of_some _ q) (Nat.le_refl _) ⟨Nat.zero_le _, [], .nil, IsTup.new _ _⟩, rfl, q.2 _ (I.hok.fresh (Nat.le_refl _))⟩
def mulOk (i j : Int) : Bool := decide (i.natAbs.log2 + j.natAbs.log2 < 1000000)
def mulD : D → D → Option W
  | .int i, .int j => if mulOk i j then some (.d (.int (i * j))) else none
  | .list xs, .int k => if decide (-1000000 ≤ k ∧ k ≤ 1000000) && small (xs.length * k.toNat) then some (.n (.list (List.replicate k.toNat xs).flatten)) else none
  | .tuple xs, .int k => if decide (-1000000 ≤ k ∧ k ≤ 1000 ∧ xs.length ≤ 1000) then some (.d (.tuple (List.replicate k.toNat xs).flatten)) else none
  | _, _ => none
theorem RepDs.rep {K : PySem.W.Frag} {O : Addr → Prop} {H : Hp} {ds : List D} {vs : List V} (h : RepDs K O H ds vs) : ∀ n : Nat, RepDs K O H (List.replicate n ds).flatten (List.replicate n vs).flatten
  | 0 => rfl
  | n + 1 => by
    rw [List.replicate_succ, List.replicate_succ, List.flatten_cons, List.flatten_cons]
    exact h.append (h.rep n)
theorem bi_mul : Bi2 X (fun x y H Q => rI CMulW (fun i j => .int (i * j)) x y H Q ∨ (fun x y H Q => rRep x y H Q ∨ (fun x y H Q => rRepT X.K x y H Q ∨ rRepT1 X.K x y H Q) x y H Q) x y H Q) (lift2 mulD) := bi_lift fun E Hd al m H x v y u w R Q s rx ry hg P k => by
  cases x <;> cases y <;> first | (simp only [mulD] at hg; cases hg; done) | skip
  · rename_i i j
    have e1 : v = .int i := rx
    have e2 : u = .int j := ry
    subst e1 e2
    obtain ⟨c, rfl⟩ := ite_none hg
    exact .inl ⟨i, j, rfl, rfl, of_decide_eq_true (p := i.natAbs.log2 + j.natAbs.log2 < 1000000) c, res_d s P rfl k⟩
  · rename_i ds j
    obtain ⟨l, xs, rfl, h1, h2⟩ := rx
    have e2 : u = .int j := ry
    subst e2
    obtain ⟨c, rfl⟩ := ite_none hg
    rw [Bool.and_eq_true] at c
    have c1 := of_decide_eq_true c.1
    refine .inr (.inl ⟨l, j, xs, rfl, rfl, h1, by omega, by omega, by rw [h2.len]; exact small_line c.2, fun p hp => res_list s (h2.rep _) hp P k⟩)
  · rename_i ds j
    obtain ⟨l, xs, rfl, h1, h2⟩ := rx
    have e2 : u = .int j := ry
    subst e2
    obtain ⟨c, rfl⟩ := ite_none hg
    have c1 := of_decide_eq_true c
    have hl := h2.len
    by_cases c0 : xs = [] ∨ j = 1
    · refine .inr (.inr (.inr ⟨l, j, xs, rfl, rfl, sqP h1, by omega, by omega, ?_⟩))
      rw [if_pos c0]
      have e : (List.replicate j.toNat ds).flatten = ds := by
        rcases c0 with z | z
        · rw [z] at hl
          have : ds = [] := List.eq_nil_of_length_eq_zero hl.symm
          rw [this]; simp
        · rw [z]; simp
      rw [e] at P
      exact res_d s P ⟨l, xs, rfl, h1, h2⟩ k
    · have c2 := not_or.mp c0
      by_cases c3 : 2 ≤ j
      · exact .inr (.inr (.inl ⟨l, j, xs, rfl, rfl, sqP h1, c2.1, c3, c1.2.1, by rw [hl]; exact c1.2.2, fun p hp => res_tup s (h2.rep _) hp P k⟩))
      · refine .inr (.inr (.inr ⟨l, j, xs, rfl, rfl, sqP h1, by omega, by omega, ?_⟩))
        rw [if_neg c0]
        have e : (List.replicate j.toNat ds).flatten = [] := by
          have : j.toNat = 0 := by omega
          rw [this]; rfl
        rw [e] at P
        exact ⟨by omega, fun p hp => res_tup (ds := []) (vs := []) s rfl hp P k⟩
def mMul (a b : EM W) : EM W := mOp2 a b (lift2 mulD)
theorem den_mul (ha : Den X E ea a) (hb : Den X E eb b) : Den X E (.BinOp ea .Mult eb pos) (mMul a b) := PE.imp (pe_op (opOr op_mulW (opOr op_rep (opOr op_repT op_repT1))) ha hb) fun _ _ _ q => tM_op bi_mul q

/-! ### one operand -/
def negD : D → Option W
  | .int i => some (.d (.int (-i)))
  | _ => none
def invD : D → Option W
  | .int i => some (.d (.int (Builtin.bitNot i)))
  | _ => none
def mNeg (a : EM W) : EM W := mOp1 a (lift1 negD)
def mInv (a : EM W) : EM W := mOp1 a (lift1 invD)
theorem den_neg (ha : Den X E ea a) : Den X E (.UnaryOp .USub ea pos) (mNeg a) := PE.imp (pe_un un_neg ha) fun _ _ _ q => tM_un (un_lift fun E Hd al m H x v w R Q s rx hg P k => by
  cases x <;> first | (simp only [negD] at hg; cases hg; done) | skip
  rename_i i
  have e1 : v = .int i := rx
  subst e1
  cases hg
  exact ⟨i, rfl, res_d s P rfl k⟩) q
theorem den_inv (ha : Den X E ea a) : Den X E (.UnaryOp .Invert ea pos) (mInv a) := PE.imp (pe_un un_inv ha) fun _ _ _ q => tM_un (un_lift fun E Hd al m H x v w R Q s rx hg P k => by
  cases x <;> first | (simp only [invD] at hg; cases hg; done) | skip
  rename_i i
  have e1 : v = .int i := rx
  subst e1
  cases hg
  exact ⟨i, rfl, res_d s P rfl k⟩) q
end
end Den
/-! Den4: tests, comparisons, and or not, displays, argument lists. -/
namespace Den
open PySem PySem.Spec PyProof.Rows L2

def tT (K : PySem.W.Frag) (mg : Str → Option Value) (E : St → XK) (c : EM Bool) : TT := fun σ H Q => ∃ Hd al rho m, Stt K Hd al none H m ∧ EnvOk K mg (Own Hd al m none) al H rho σ ∧
  Post K mg Hd al m H (E σ) (c rho m) fun b _ p _ H' => p = none → Q b H'
abbrev DenT (X : Cx) (E : St → XK) (e : Expr) (c : EM Bool) : Prop := PT X e (tT X.K X.mg E c)
abbrev DenW (X : Cx) (E : St → XK) (e : Expr) (c : EM Bool) : Prop := PW X e (tT X.K X.mg E c)
theorem PT.imp {X : Cx} {e : Expr} {t t' : TT} (h : PT X e t) (k : ∀ σ H Q, t' σ H Q → t σ H Q) : PT X e t' := ⟨fun pins s σ H Q I q => h.run pins s σ H Q I (k σ H Q q)⟩
theorem PW.imp {X : Cx} {e : Expr} {t t' : TT} (h : PW X e t) (k : ∀ σ H Q, t' σ H Q → t σ H Q) : PW X e t' := ⟨fun wh pins s σ H Q I q => h.run wh pins s σ H Q I (k σ H Q q)⟩

/-! ### truth -/
def truD : D → Option Bool
  | .none => some false
  | .bool b => some b
  | .int i => some (i != 0)
  | .str y => if small y.length then some ((y.length : Int) != 0) else none
  | .tuple ds => some (!ds.isEmpty)
  | .list ds => some (!ds.isEmpty)
  | .dict _ => none
def truW (w : W) (m : Mem) : Rs Bool := match peek m w with | some x => (match truD x with | some b => .ok b m | none => .no) | none => .no
def mTru (a : EM W) : EM Bool := fun rho m => (a rho m).bindV truW
/-- a value that is a bool -/
def mBool (a : EM W) : EM Bool := fun rho m => (a rho m).bindV fun w m1 => match w with | .d (.bool b) => .ok b m1 | _ => .no
section
variable {K : PySem.W.Frag} {mg : Str → Option Value} {O : Addr → Prop} {Hd : Addr → Prop} {al : List Addr} {m : Mem} {H : Hp} {E : XK}
theorem RepDs.isEmpty {ds : List D} {vs : List V} (h : RepDs K O H ds vs) : (!ds.isEmpty) = !vs.isEmpty := by
  cases ds with
  | nil => rw [show vs = [] from h]; rfl
  | cons x ds => obtain ⟨v, r, h1, _⟩ := h; subst h1; rfl
theorem truV_of {x : D} {v : V} {b : Bool} (h : RepP K O H x v) (e : truD x = some b) : TruV K v H b := by
  cases x with
  | none => cases h; cases e; rfl
  | bool c => cases h; cases e; rfl
  | int i => cases h; cases e; rfl
  | str y =>
    cases h
    obtain ⟨c, rfl⟩ := ite_none e
    exact ⟨small_line c, rfl⟩
  | tuple ds => obtain ⟨a, vs, rfl, h1, h2⟩ := h; cases e; exact .inr (.inl ⟨vs, sqP h1, h2.isEmpty⟩)
  | list ds => obtain ⟨a, vs, rfl, h1, h2⟩ := h; cases e; exact .inl ⟨vs, .inl (.inl h1), h2.isEmpty⟩
  | dict kvs => cases e
theorem truW_ok {w : W} {v : V} {R : Bool → List Addr → Option Addr → Mem → Hp → Prop} (s : Stt K Hd al none H m) (h : RepW K mg (Own Hd al m none) none al H w v) (P : Post K mg Hd al m H E (truW w m) R) : ∃ b, TruV K v H b ∧ R b al none m H := by
  unfold truW at P
  split at P
  · rename_i x hx
    split at P
    · rename_i b hb
      exact ⟨b, truV_of (peek_ok s h hx) hb, P.ok s⟩
    · exact P.elim
  · exact P.elim
end
section
variable {X : Cx} {E : St → XK} {ea eb ec : Expr} {a b c : EM W} {t u : EM Bool} {pos : Pos} {rest : List Expr}
theorem dt_tru (ha : Den X E ea a) (he : ∀ whole, isTrue ea X.env whole = (do let v ← whole; standAt ea.pos; holding [v] (truthy v)) := by intro _; rfl) : DenT X E ea (mTru a) := PT.imp (pt_truth ha he) fun σ H Q q => by
  obtain ⟨Hd, al, rho, m, s, e, P⟩ := q
  refine ⟨Hd, al, rho, m, s, e, (Post.bindV P).imp fun w al1 p1 m1 H1 g s1 k v rv => ?_⟩
  obtain ⟨g1, s1', rv1, P1⟩ := k v rv
  obtain ⟨b, h1, h2⟩ := truW_ok s1' rv1 P1
  exact ⟨b, h1, h2 rfl⟩
theorem tT_bool {tE : TE} (h : ∀ σ H Q, tM X.K X.mg E a σ H Q → tE σ H Q) {σ : St} {H : Hp} {Q : Bool → Hp → Prop} (q : tT X.K X.mg E (mBool a) σ H Q) : tTest tE σ H Q := by
  obtain ⟨Hd, al, rho, m, s, e, P⟩ := q
  refine h σ H _ ⟨Hd, al, rho, m, s, e, (Post.bindV P).imp fun w al1 p1 m1 H1 g s1 k v rv => ?_⟩
  obtain ⟨g1, s1', rv1, P1⟩ := k v rv
  split at P1
  · rename_i b hw
    rw [hw] at rv1
    have e : v = .bl b := rv1.2
    exact ⟨b, e, (P1.ok s1') rfl⟩
  · exact P1.elim
/-! ### and, or, not as tests -/
def mAndT (t u : EM Bool) : EM Bool := fun rho m => (t rho m).bind fun b m1 => if b = true then u rho m1 else .ok false m1
def mOrT (t u : EM Bool) : EM Bool := fun rho m => (t rho m).bind fun b m1 => if b = true then .ok true m1 else u rho m1
def mNotT (t : EM Bool) : EM Bool := fun rho m => (t rho m).bind fun b m1 => .ok (!b) m1
theorem tT_and {σ : St} {H : Hp} {Q : Bool → Hp → Prop} (q : tT X.K X.mg E (mAndT t u) σ H Q) : tAnd (tT X.K X.mg E t) (tT X.K X.mg E u) σ H Q := by
  obtain ⟨Hd, al, rho, m, s, e, P⟩ := q
  refine ⟨Hd, al, rho, m, s, e, (Post.bind P).imp fun b al1 p1 m1 H1 g s1 k hp => ?_⟩
  subst hp
  cases b with
  | true => exact ⟨Hd, al1, rho, m1, s1, e.go g, k rfl⟩
  | false => exact Post.ok s1 (k rfl) rfl
theorem tT_or {σ : St} {H : Hp} {Q : Bool → Hp → Prop} (q : tT X.K X.mg E (mOrT t u) σ H Q) : tOr (tT X.K X.mg E t) (tT X.K X.mg E u) σ H Q := by
  obtain ⟨Hd, al, rho, m, s, e, P⟩ := q
  refine ⟨Hd, al, rho, m, s, e, (Post.bind P).imp fun b al1 p1 m1 H1 g s1 k hp => ?_⟩
  subst hp
  cases b with
  | false => exact ⟨Hd, al1, rho, m1, s1, e.go g, k rfl⟩
  | true => exact Post.ok s1 (k rfl) rfl
theorem dw_and1 (h : DenT X E ea t) : DenW X E (.BoolOp .And [ea] pos) t := pw_and1 h
theorem dw_or1 (h : DenT X E ea t) : DenW X E (.BoolOp .Or [ea] pos) t := pw_or1 h
theorem dw_and (h : DenT X E ea t) (h2 : DenW X E (.BoolOp .And (eb :: rest) pos) u) : DenW X E (.BoolOp .And (ea :: eb :: rest) pos) (mAndT t u) := PW.imp (pw_and h h2) fun _ _ _ q => tT_and q
theorem dw_or (h : DenT X E ea t) (h2 : DenW X E (.BoolOp .Or (eb :: rest) pos) u) : DenW X E (.BoolOp .Or (ea :: eb :: rest) pos) (mOrT t u) := PW.imp (pw_or h h2) fun _ _ _ q => tT_or q
theorem dt_w (h : DenW X E ea t) : DenT X E ea t := h.pt
theorem dt_not (h : DenT X E ea t) : DenT X E (.UnaryOp .Not ea pos) (mNotT t) := PT.imp (pt_not h) fun σ H Q q => by
  obtain ⟨Hd, al, rho, m, s, e, P⟩ := q
  refine ⟨Hd, al, rho, m, s, e, (Post.bind P).imp fun b al1 p1 m1 H1 g s1 k hp => ?_⟩
  subst hp
  exact Post.ok s1 (k rfl) rfl
/-! ### as values, by truth -/
def mAndV (a b : EM W) : EM W := fun rho m => (a rho m).bindV fun w m1 => (truW w m1).bind fun k m2 => if k = true then b rho m2 else .ok w m2
def mOrV (a b : EM W) : EM W := fun rho m => (a rho m).bindV fun w m1 => (truW w m1).bind fun k m2 => if k = true then .ok w m2 else b rho m2
def mNotV (a : EM W) : EM W := fun rho m => (a rho m).bindV fun w m1 => (truW w m1).bind fun k m2 => .ok (.d (.bool (!k))) m2
theorem den_and1 {op} (h : Den X E ea a) : Den X E (.BoolOp op [ea] pos) a := pe_one h
theorem den_andV (h : Den X E ea a) (h2 : Den X E (.BoolOp .And (eb :: rest) pos) b) : Den X E (.BoolOp .And (ea :: eb :: rest) pos) (mAndV a b) := PE.imp (pe_andT h h2) fun σ H Q q => by
  obtain ⟨Hd, al, rho, m, s, e, P⟩ := q
  refine ⟨Hd, al, rho, m, s, e, (Post.bindV P).imp fun w al1 p1 m1 H1 g s1 k v rv => ?_⟩
  obtain ⟨g1, s1', rv1, P1⟩ := k v rv
  obtain ⟨b, h1, h2⟩ := truW_ok s1' rv1 (Post.bind P1)
  refine ⟨b, h1, ?_⟩
  cases b with
  | true => exact ⟨Hd, al1, rho, m1, s1', e.go g1, h2 rfl⟩
  | false => exact (Post.ok s1' (h2 rfl)) v rv1
theorem den_orV (h : Den X E ea a) (h2 : Den X E (.BoolOp .Or (eb :: rest) pos) b) : Den X E (.BoolOp .Or (ea :: eb :: rest) pos) (mOrV a b) := PE.imp (pe_orT h h2) fun σ H Q q => by
  obtain ⟨Hd, al, rho, m, s, e, P⟩ := q
  refine ⟨Hd, al, rho, m, s, e, (Post.bindV P).imp fun w al1 p1 m1 H1 g s1 k v rv => ?_⟩
  obtain ⟨g1, s1', rv1, P1⟩ := k v rv
  obtain ⟨b, h1, h2⟩ := truW_ok s1' rv1 (Post.bind P1)
  refine ⟨b, h1, ?_⟩
  cases b with
  | false => exact ⟨Hd, al1, rho, m1, s1', e.go g1, h2 rfl⟩
  | true => exact (Post.ok s1' (h2 rfl)) v rv1
theorem den_notV (h : Den X E ea a) : Den X E (.UnaryOp .Not ea pos) (mNotV a) := PE.imp (pe_notT h) fun σ H Q q => by
  obtain ⟨Hd, al, rho, m, s, e, P⟩ := q
  refine ⟨Hd, al, rho, m, s, e, (Post.bindV P).imp fun w al1 p1 m1 H1 g s1 k v rv => ?_⟩
  obtain ⟨g1, s1', rv1, P1⟩ := k v rv
  obtain ⟨b, h1, h2⟩ := truW_ok s1' rv1 (Post.bind P1)
  exact ⟨b, h1, (Post.ok s1' (h2 rfl)) _ ⟨rfl, rfl⟩⟩
/-- a if t else b -/
def mIf (t : EM Bool) (a b : EM W) : EM W := fun rho m => (t rho m).bind fun k m1 => if k = true then a rho m1 else b rho m1
theorem den_if (h : DenT X E ec t) (ha : Den X E ea a) (hb : Den X E eb b) : Den X E (.IfExp ec ea eb pos) (mIf t a b) := PE.imp (pe_ifExp h ha hb) fun σ H Q q => by
  obtain ⟨Hd, al, rho, m, s, e, P⟩ := q
  refine ⟨Hd, al, rho, m, s, e, (Post.bind P).imp fun b al1 p1 m1 H1 g s1 k hp => ?_⟩
  subst hp
  cases b with
  | true => exact ⟨Hd, al1, rho, m1, s1, e.go g, k rfl⟩
  | false => exact ⟨Hd, al1, rho, m1, s1, e.go g, k rfl⟩

/-! ### comparisons -/
theorem den_cmp {op : CmpOp} {r : R2} {f : W → W → Mem → Rs W} (ho : OpR X (compareOp op) r) (hf : Bi2 X r f) (ha : Den X E ea a) (hb : Den X E eb b) (hm : behindInMarks op eb = false) : Den X E (.Compare ea [op] [eb] pos) (mOp2 a b f) :=
  PE.imp (pe_cmpR ho ha hb hm) fun _ _ _ q => tM_op hf q
theorem dt_cmp {op : CmpOp} {r : R2} {f : W → W → Mem → Rs W} (ho : OpR X (compareOp op) r) (hf : Bi2 X r f) (ha : Den X E ea a) (hb : Den X E eb b) (hm : behindInMarks op eb = false) : DenT X E (.Compare ea [op] [eb] pos) (mBool (mOp2 a b f)) :=
  PT.imp (pt_cmpR ho ha hb hm) fun _ _ _ q => tT_bool (fun _ _ _ q => tM_op hf q) q
def mChain (f g : W → W → Mem → Rs W) (a b c : EM W) : EM W := fun rho m => (a rho m).bindV fun x m1 => (b rho m1).bindV fun y m2 => (f x y m2).bindV fun r m3 =>
  match r with | .d (.bool true) => (c rho m3).bindV fun z m4 => g y z m4 | .d (.bool false) => .ok (.d (.bool false)) m3 | _ => .no
theorem tM_chain {r r' : R2} {f g : W → W → Mem → Rs W} (hf : Bi2 X r f) (hg : Bi2 X r' g) {σ : St} {H : Hp} {Q : VK} (q : tM X.K X.mg E (mChain f g a b c) σ H Q) : tChain r r' (tM X.K X.mg E a) (tM X.K X.mg E b) (tM X.K X.mg E c) σ H Q := by
  obtain ⟨Hd, al, rho, m, s, e, P⟩ := q
  refine ⟨Hd, al, rho, m, s, e, (Post.bindV P).imp fun w al1 p1 m1 H1 g1 s1 k v rv => ?_⟩
  obtain ⟨g1, s1', rv1, P1⟩ := k v rv
  refine ⟨Hd, al1, rho, m1, s1', e.go g1, (Post.bindV P1).imp fun w2 al2 p2 m2 H2 g2 s2 k2 v2 rw2 => ?_⟩
  obtain ⟨g2, s2', rv2, P2⟩ := k2 v2 rw2
  refine hf _ _ _ _ _ _ _ _ _ _ _ s2' (rv1.go g2) rv2 (Post.bindV P2) fun w' al' p m' H' v' q' rw' => ?_
  obtain ⟨g3, s3, rv3, P3⟩ := q' v' rw'
  generalize val w' = wr at rv3 P3
  split at P3
  · have e3 : v' = .bl true := rv3.2
    refine ⟨true, e3, ?_⟩
    refine ⟨Hd, al', rho, m', s3, (e.go (g1.trans g2)).go g3, (Post.bindV P3).imp fun w4 al4 p4 m4 H4 g4 s4 k4 v4 rw4 => ?_⟩
    obtain ⟨g4, s4', rv4, P4⟩ := k4 v4 rw4
    exact hg _ _ _ _ _ _ _ _ _ _ Q s4' (rv2.go (g3.trans g4)) rv4 P4 fun w' al' p m' H' v' q' => q' v'
  · have e3 : v' = .bl false := rv3.2
    exact ⟨false, e3, (Post.ok s3 P3) _ ⟨rfl, rfl⟩⟩
  · exact P3.elim
theorem den_chain {op op' : CmpOp} {r r' : R2} {f g : W → W → Mem → Rs W} (ho : OpR X (compareOp op) r) (hf : Bi2 X r f) (ho' : OpR X (compareOp op') r') (hg : Bi2 X r' g) (ha : Den X E ea a) (hb : Den X E eb b) (hc : Den X E ec c)
    (hm : lastMarks [op, op'] [eb, ec] = false := by with_unfolding_all rfl) : Den X E (.Compare ea [op, op'] [eb, ec] pos) (mChain f g a b c) := PE.imp (pe_chain ho ho' ha hb hc hm) fun _ _ _ q => tM_chain hf hg q
theorem dt_chain {op op' : CmpOp} {r r' : R2} {f g : W → W → Mem → Rs W} (ho : OpR X (compareOp op) r) (hf : Bi2 X r f) (ho' : OpR X (compareOp op') r') (hg : Bi2 X r' g) (ha : Den X E ea a) (hb : Den X E eb b) (hc : Den X E ec c)
    (hm : lastMarks [op, op'] [eb, ec] = false := by with_unfolding_all rfl) : DenT X E (.Compare ea [op, op'] [eb, ec] pos) (mBool (mChain f g a b c)) := PT.imp (pt_chain ho ho' ha hb hc hm) fun _ _ _ q => tT_bool (fun _ _ _ q => tM_chain hf hg q) q

/-- the order of ints, of texts and of tuples -/
def cmpOk (x y : D) : Bool := PySem.W.alike x y && (decide (x.depth ≤ 60) && (!x.hasDict && !y.hasDict))
def ltD : D → D → Option W
  | .int i, .int j => some (.d (.bool (decide (i < j))))
  | .str i, .str j => some (.d (.bool (decide (i.cps.toList < j.cps.toList))))
  | .tuple xs, .tuple ys => if cmpOk (.tuple xs) (.tuple ys) then some (.d (.bool (PySem.W.dataLt (.tuple xs) (.tuple ys)))) else none
  | _, _ => none
def leD : D → D → Option W
  | .int i, .int j => some (.d (.bool (decide (i ≤ j))))
  | .str i, .str j => some (.d (.bool (!decide (j.cps.toList < i.cps.toList))))
  | .tuple xs, .tuple ys => if cmpOk (.tuple xs) (.tuple ys) then some (.d (.bool (!PySem.W.dataLt (.tuple ys) (.tuple xs)))) else none
  | _, _ => none
def gtD : D → D → Option W
  | .int i, .int j => some (.d (.bool (decide (j < i))))
  | .str i, .str j => some (.d (.bool (decide (j.cps.toList < i.cps.toList))))
  | .tuple xs, .tuple ys => if cmpOk (.tuple xs) (.tuple ys) then some (.d (.bool (PySem.W.dataLt (.tuple ys) (.tuple xs)))) else none
  | _, _ => none
def geD : D → D → Option W
  | .int i, .int j => some (.d (.bool (decide (j ≤ i))))
  | .str i, .str j => some (.d (.bool (!decide (i.cps.toList < j.cps.toList))))
  | .tuple xs, .tuple ys => if cmpOk (.tuple xs) (.tuple ys) then some (.d (.bool (!PySem.W.dataLt (.tuple xs) (.tuple ys)))) else none
  | _, _ => none
abbrev rOr (r r' : R2) : R2 := fun x y H Q => r x y H Q ∨ r' x y H Q
def rTT (K : PySem.W.Frag) (q : D → D → Bool) : R2 := fun x y H Q => ∃ d e, Dp K H x d ∧ Dp K H y e ∧ PySem.W.alike d e = true ∧ d ≠ .none ∧ d.depth ≤ 60 ∧ Q (.bl (q d e)) H
abbrev rOrd (K : PySem.W.Frag) (f : Int → Int → Bool) (h : Str → Str → Bool) (q : D → D → Bool) : R2 := rOr (rOr (rI0 fun i j => .bl (f i j)) (fun x y H Q => ∃ i j, x = .str i ∧ y = .str j ∧ Q (.bl (h i j)) H)) (rTT K q)
theorem bi_ord {g : D → D → Option W} {f : Int → Int → Bool} {h : Str → Str → Bool} {q : D → D → Bool} (hi : ∀ i j, g (.int i) (.int j) = some (.d (.bool (f i j)))) (hs : ∀ i j, g (.str i) (.str j) = some (.d (.bool (h i j))))
    (ht : ∀ xs ys, g (.tuple xs) (.tuple ys) = if cmpOk (.tuple xs) (.tuple ys) then some (.d (.bool (q (.tuple xs) (.tuple ys)))) else none)
    (hn : ∀ x y w, g x y = some w → (∃ i j, x = .int i ∧ y = .int j) ∨ (∃ i j, x = .str i ∧ y = .str j) ∨ ∃ i j, x = .tuple i ∧ y = .tuple j) :
    Bi2 X (rOrd X.K f h q) (lift2 g) := bi_lift fun E Hd al m H x v y u w R Q s rx ry hg P k => by
  rcases hn x y w hg with ⟨i, j, rfl, rfl⟩ | ⟨i, j, rfl, rfl⟩ | ⟨i, j, rfl, rfl⟩
  · have e1 : v = .int i := rx
    have e2 : u = .int j := ry
    subst e1 e2
    rw [hi] at hg; cases hg
    exact .inl (.inl ⟨i, j, rfl, rfl, res_d s P rfl k⟩)
  · have e1 : v = .str i := rx
    have e2 : u = .str j := ry
    subst e1 e2
    rw [hs] at hg; cases hg
    exact .inl (.inr ⟨i, j, rfl, rfl, res_d s P rfl k⟩)
  · rw [ht] at hg
    obtain ⟨c, rfl⟩ := ite_none hg
    unfold cmpOk at c
    simp only [Bool.and_eq_true, decide_eq_true_eq, Bool.not_eq_true'] at c
    exact .inr ⟨.tuple i, .tuple j, rx.dp c.2.2.1, ry.dp c.2.2.2, c.1, (fun z => nomatch z), c.2.1, res_d s P rfl k⟩
theorem ord_cases {g : D → D → Option W} (h : ∀ x y, (∃ i j, x = .int i ∧ y = .int j) ∨ (∃ i j, x = .str i ∧ y = .str j) ∨ (∃ i j, x = .tuple i ∧ y = .tuple j) ∨ g x y = none) : ∀ x y w, g x y = some w → (∃ i j, x = .int i ∧ y = .int j) ∨ (∃ i j, x = .str i ∧ y = .str j) ∨ ∃ i j, x = .tuple i ∧ y = .tuple j := fun x y w e => by
  rcases h x y with q | q | q | q
  · exact .inl q
  · exact .inr (.inl q)
  · exact .inr (.inr q)
  · rw [q] at e; cases e
theorem op_ttLt (hu : X.A.units + 64 < cLine) : OpR X (compareOp .Lt) (rTT X.K PySem.W.dataLt) := by
  intro pins s σ H x y v u Q I rx ry h
  obtain ⟨d, e, hd, he, al, nn, dp, q⟩ := h
  obtain ⟨as, r1⟩ := Dp.reads I d x v hd rx
  obtain ⟨bs, r2⟩ := Dp.reads I e y u he ry
  exact PySem.W.lt_data r1 r2 al nn (by omega) ⟨.bl _, H, I, rfl, q⟩
theorem op_ttGt (hu : X.A.units + 64 < cLine) : OpR X (compareOp .Gt) (rTT X.K fun x y => PySem.W.dataLt y x) := by
  intro pins s σ H x y v u Q I rx ry h
  obtain ⟨d, e, hd, he, al, nn, dp, q⟩ := h
  obtain ⟨as, r1⟩ := Dp.reads I d x v hd rx
  obtain ⟨bs, r2⟩ := Dp.reads I e y u he ry
  exact PySem.W.gt_data r1 r2 al nn (by omega) ⟨.bl _, H, I, rfl, q⟩
theorem op_ttLe (hu : X.A.units + 64 < cLine) : OpR X (compareOp .LtE) (rTT X.K fun x y => !PySem.W.dataLt y x) := by
  intro pins s σ H x y v u Q I rx ry h
  obtain ⟨d, e, hd, he, al, nn, dp, q⟩ := h
  obtain ⟨as, r1⟩ := Dp.reads I d x v hd rx
  obtain ⟨bs, r2⟩ := Dp.reads I e y u he ry
  exact PySem.W.le_data r1 r2 al nn (by omega) ⟨.bl _, H, I, rfl, q⟩
theorem op_ttGe (hu : X.A.units + 64 < cLine) : OpR X (compareOp .GtE) (rTT X.K fun x y => !PySem.W.dataLt x y) := by
  intro pins s σ H x y v u Q I rx ry h
  obtain ⟨d, e, hd, he, al, nn, dp, q⟩ := h
  obtain ⟨as, r1⟩ := Dp.reads I d x v hd rx
  obtain ⟨bs, r2⟩ := Dp.reads I e y u he ry
  exact PySem.W.ge_data r1 r2 al nn (by omega) ⟨.bl _, H, I, rfl, q⟩
theorem bi_lt : Bi2 X (rOrd X.K (fun i j => decide (i < j)) (fun i j => decide (i.cps.toList < j.cps.toList)) (PySem.W.dataLt)) (lift2 ltD) := bi_ord (fun _ _ => rfl) (fun _ _ => rfl) (fun _ _ => rfl) (ord_cases fun x y => by
  cases x <;> cases y <;> first | exact .inr (.inr (.inr rfl)) | exact .inl ⟨_, _, rfl, rfl⟩ | exact .inr (.inl ⟨_, _, rfl, rfl⟩) | exact .inr (.inr (.inl ⟨_, _, rfl, rfl⟩)))
theorem bi_le : Bi2 X (rOrd X.K (fun i j => decide (i ≤ j)) (fun i j => !decide (j.cps.toList < i.cps.toList)) (fun x y => !PySem.W.dataLt y x)) (lift2 leD) := bi_ord (fun _ _ => rfl) (fun _ _ => rfl) (fun _ _ => rfl) (ord_cases fun x y => by
  cases x <;> cases y <;> first | exact .inr (.inr (.inr rfl)) | exact .inl ⟨_, _, rfl, rfl⟩ | exact .inr (.inl ⟨_, _, rfl, rfl⟩) | exact .inr (.inr (.inl ⟨_, _, rfl, rfl⟩)))
theorem bi_gt : Bi2 X (rOrd X.K (fun i j => decide (j < i)) (fun i j => decide (j.cps.toList < i.cps.toList)) (fun x y => PySem.W.dataLt y x)) (lift2 gtD) := bi_ord (fun _ _ => rfl) (fun _ _ => rfl) (fun _ _ => rfl) (ord_cases fun x y => by
  cases x <;> cases y <;> first | exact .inr (.inr (.inr rfl)) | exact .inl ⟨_, _, rfl, rfl⟩ | exact .inr (.inl ⟨_, _, rfl, rfl⟩) | exact .inr (.inr (.inl ⟨_, _, rfl, rfl⟩)))
theorem bi_ge : Bi2 X (rOrd X.K (fun i j => decide (j ≤ i)) (fun i j => !decide (i.cps.toList < j.cps.toList)) (fun x y => !PySem.W.dataLt x y)) (lift2 geD) := bi_ord (fun _ _ => rfl) (fun _ _ => rfl) (fun _ _ => rfl) (ord_cases fun x y => by
  cases x <;> cases y <;> first | exact .inr (.inr (.inr rfl)) | exact .inl ⟨_, _, rfl, rfl⟩ | exact .inr (.inl ⟨_, _, rfl, rfl⟩) | exact .inr (.inr (.inl ⟨_, _, rfl, rfl⟩)))
theorem po_lt (hu : X.A.units + 64 < cLine) : OpR X (compareOp .Lt) (rOrd X.K (fun i j => decide (i < j)) (fun i j => decide (i.cps.toList < j.cps.toList)) (PySem.W.dataLt)) := opOr (opOr op_lt op_lt_str) (op_ttLt hu)
theorem po_le (hu : X.A.units + 64 < cLine) : OpR X (compareOp .LtE) (rOrd X.K (fun i j => decide (i ≤ j)) (fun i j => !decide (j.cps.toList < i.cps.toList)) (fun x y => !PySem.W.dataLt y x)) := opOr (opOr op_le op_le_str) (op_ttLe hu)
theorem po_gt (hu : X.A.units + 64 < cLine) : OpR X (compareOp .Gt) (rOrd X.K (fun i j => decide (j < i)) (fun i j => decide (j.cps.toList < i.cps.toList)) (fun x y => PySem.W.dataLt y x)) := opOr (opOr op_gt op_gt_str) (op_ttGt hu)
theorem po_ge (hu : X.A.units + 64 < cLine) : OpR X (compareOp .GtE) (rOrd X.K (fun i j => decide (j ≤ i)) (fun i j => !decide (i.cps.toList < j.cps.toList)) (fun x y => !PySem.W.dataLt x y)) := opOr (opOr op_ge op_ge_str) (op_ttGe hu)

/-! ### equality of data, what is in what -/
def eqD : D → D → Option W
  | .str a, .str b => some (.d (.bool (decide (a = b))))
  | x, y => if SeqAt.shaped x && SeqAt.shaped y then some (.d (.bool (PyData.eqv x y))) else none
def neD : D → D → Option W
  | .str a, .str b => some (.d (.bool (!decide (a = b))))
  | x, y => if SeqAt.shaped x && SeqAt.shaped y then some (.d (.bool (!PyData.eqv x y))) else none
theorem dec_S {a b : Str} : decide (V.str a = V.str b) = decide (a = b) := decide_eq_decide.mpr ⟨fun h => V.str.inj h, fun h => by rw [h]⟩
theorem bi_eq : Bi2 X (rOr rEq (rEqD X.K)) (lift2 eqD) := bi_lift fun E Hd al m H x v y u w R Q s rx ry hg P k => by
  unfold eqD at hg
  split at hg
  · rename_i a b
    cases hg
    have e1 : v = .str a := rx
    have e2 : u = .str b := ry
    subst e1 e2
    exact .inl ⟨rfl, by rw [dec_S]; exact res_d s P rfl k⟩
  · obtain ⟨c, rfl⟩ := ite_none hg
    rw [Bool.and_eq_true] at c
    exact .inr ⟨x, y, rx.dp (noDict_shaped c.1), ry.dp (noDict_shaped c.2), c.1, c.2, res_d s P rfl k⟩
theorem bi_ne : Bi2 X (rOr rNe (rNeD X.K)) (lift2 neD) := bi_lift fun E Hd al m H x v y u w R Q s rx ry hg P k => by
  unfold neD at hg
  split at hg
  · rename_i a b
    cases hg
    have e1 : v = .str a := rx
    have e2 : u = .str b := ry
    subst e1 e2
    exact .inl ⟨rfl, by rw [dec_S]; exact res_d s P rfl k⟩
  · obtain ⟨c, rfl⟩ := ite_none hg
    rw [Bool.and_eq_true] at c
    exact .inr ⟨x, y, rx.dp (noDict_shaped c.1), ry.dp (noDict_shaped c.2), c.1, c.2, res_d s P rfl k⟩
theorem po_eq (hu : X.A.units + 64 < cLine) : OpR X (compareOp .Eq) (rOr rEq (rEqD X.K)) := opOr op_eq (op_eqD hu)
theorem po_ne (hu : X.A.units + 64 < cLine) : OpR X (compareOp .NotEq) (rOr rNe (rNeD X.K)) := opOr op_ne (op_neD hu)
/-- x in a list, a tuple of data; a text in a text -/
def inD : D → D → Option W
  | x, .list ys => if SeqAt.shaped x && SeqAt.shaped (.list ys) then some (.d (.bool (ys.any fun z => PyData.eqv z x))) else none
  | x, .tuple ys => if SeqAt.shaped x && SeqAt.shaped (.tuple ys) then some (.d (.bool (ys.any fun z => PyData.eqv z x))) else none
  | .str i, .str j => some (.d (.bool (!(Builtin.Str.occurrences j i 0 j.length 1).isEmpty)))
  | _, _ => none
def ninD (x y : D) : Option W := match inD x y with | some (.d (.bool b)) => some (.d (.bool (!b))) | _ => none
def rInT (K : PySem.W.Frag) (neg : Bool) : R2 := fun x y H Q => ∃ d ds, Dp K H x d ∧ Dp K H y (.tuple ds) ∧ SeqAt.shaped d = true ∧ SeqAt.shaped (.tuple ds) = true ∧ Q (.bl (if neg then !(ds.any fun z => PyData.eqv z d) else ds.any fun z => PyData.eqv z d)) H
theorem room_inT {A : Around} {d : PyData} {ds : List PyData} (sd : SeqAt.shaped d = true) (hu : A.units + 65 < cLine) : A.units + 1 + min (PyData.depthAll ds) d.depth < cLine := by
  have h1 := SeqAt.depth_of_shaped sd
  have h2 : min (PyData.depthAll ds) d.depth ≤ d.depth := Nat.min_le_right _ _
  omega
theorem lay_tuple {ds : List PyData} (h : SeqAt.shaped (.tuple ds) = true) : PyData.canLayAll0 ds = true := by
  have q := SeqAt.canLay_of_shaped h
  simpa only [PyData.canLay0] using q
theorem op_inT (hu : X.A.units + 65 < cLine) : OpR X (compareOp .In) (rInT X.K false) := by
  intro pins s σ H x y v u Q I rx ry h
  obtain ⟨d, ds, hd, he, sd, se, q⟩ := h
  obtain ⟨as, r1⟩ := Dp.reads I d x v hd rx
  obtain ⟨bs, r2⟩ := Dp.reads I (.tuple ds) y u he ry
  exact SeqAt.in_tuple_reads r2 r1 (lay_tuple se) (SeqAt.canLay_of_shaped sd) (room_inT sd hu) ⟨.bl _, H, I, rfl, q⟩
theorem op_ninT (hu : X.A.units + 65 < cLine) : OpR X (compareOp .NotIn) (rInT X.K true) := by
  intro pins s σ H x y v u Q I rx ry h
  obtain ⟨d, ds, hd, he, sd, se, q⟩ := h
  obtain ⟨as, r1⟩ := Dp.reads I d x v hd rx
  obtain ⟨bs, r2⟩ := Dp.reads I (.tuple ds) y u he ry
  exact SeqAt.notIn_tuple_reads r2 r1 (lay_tuple se) (SeqAt.canLay_of_shaped sd) (room_inT sd hu) ⟨.bl _, H, I, rfl, q⟩
abbrev rInStr (neg : Bool) : R2 := fun x y H Q => ∃ i j, x = .str i ∧ y = .str j ∧ Q (.bl (if neg then !(!(Builtin.Str.occurrences j i 0 j.length 1).isEmpty) else !(Builtin.Str.occurrences j i 0 j.length 1).isEmpty)) H
theorem po_in (hu : X.A.units + 65 < cLine) : OpR X (compareOp .In) (rOr (rInD X.K) (rOr (rInT X.K false) (rInStr false))) := opOr (op_inD hu) (opOr (op_inT hu) op_in_str)
theorem po_nin (hu : X.A.units + 65 < cLine) : OpR X (compareOp .NotIn) (rOr (rNotInD X.K) (rOr (rInT X.K true) (rInStr true))) := opOr (op_notInD hu) (opOr (op_ninT hu) op_notin_str)
theorem in_cases {x y : D} {w : W} (h : inD x y = some w) : (∃ ys, y = .list ys ∧ SeqAt.shaped x = true ∧ SeqAt.shaped (.list ys) = true ∧ w = .d (.bool (ys.any fun z => PyData.eqv z x))) ∨
    (∃ ys, y = .tuple ys ∧ SeqAt.shaped x = true ∧ SeqAt.shaped (.tuple ys) = true ∧ w = .d (.bool (ys.any fun z => PyData.eqv z x))) ∨ ∃ i j, x = .str i ∧ y = .str j ∧ w = .d (.bool (!(Builtin.Str.occurrences j i 0 j.length 1).isEmpty)) := by
  cases y with
  | list ys =>
    have h' : (if SeqAt.shaped x && SeqAt.shaped (.list ys) then some (W.d (.bool (ys.any fun z => PyData.eqv z x))) else none) = some w := by cases x <;> exact h
    obtain ⟨c, rfl⟩ := ite_none h'
    rw [Bool.and_eq_true] at c
    exact .inl ⟨ys, rfl, c.1, c.2, rfl⟩
  | tuple ys =>
    have h' : (if SeqAt.shaped x && SeqAt.shaped (.tuple ys) then some (W.d (.bool (ys.any fun z => PyData.eqv z x))) else none) = some w := by cases x <;> exact h
    obtain ⟨c, rfl⟩ := ite_none h'
    rw [Bool.and_eq_true] at c
    exact .inr (.inl ⟨ys, rfl, c.1, c.2, rfl⟩)
  | str j =>
    cases x <;> first | (simp only [inD] at h; cases h; done) | skip
    rename_i i
    cases h
    exact .inr (.inr ⟨i, j, rfl, rfl, rfl⟩)
  | _ => cases x <;> (simp only [inD] at h; cases h)
theorem bi_in : Bi2 X (rOr (rInD X.K) (rOr (rInT X.K false) (rInStr false))) (lift2 inD) := bi_lift fun E Hd al m H x v y u w R Q s rx ry hg P k => by
  rcases in_cases hg with ⟨ys, rfl, c1, c2, rfl⟩ | ⟨ys, rfl, c1, c2, rfl⟩ | ⟨i, j, rfl, rfl, rfl⟩
  · exact .inl ⟨x, ys, rx.dp (noDict_shaped c1), ry.dp (noDict_shaped c2), c1, c2, res_d s P rfl k⟩
  · exact .inr (.inl ⟨x, ys, rx.dp (noDict_shaped c1), ry.dp (noDict_shaped c2), c1, c2, res_d s P rfl k⟩)
  · have e1 : v = .str i := rx
    have e2 : u = .str j := ry
    exact .inr (.inr ⟨i, j, e1, e2, res_d s P rfl k⟩)
theorem bi_nin : Bi2 X (rOr (rNotInD X.K) (rOr (rInT X.K true) (rInStr true))) (lift2 ninD) := bi_lift fun E Hd al m H x v y u w R Q s rx ry hg P k => by
  unfold ninD at hg
  split at hg
  · rename_i b hb
    cases hg
    rcases in_cases hb with ⟨ys, rfl, c1, c2, e⟩ | ⟨ys, rfl, c1, c2, e⟩ | ⟨i, j, rfl, rfl, e⟩
    · cases e; exact .inl ⟨x, ys, rx.dp (noDict_shaped c1), ry.dp (noDict_shaped c2), c1, c2, res_d s P rfl k⟩
    · cases e; exact .inr (.inl ⟨x, ys, rx.dp (noDict_shaped c1), ry.dp (noDict_shaped c2), c1, c2, res_d s P rfl k⟩)
    · have e1 : v = .str i := rx
      have e2 : u = .str j := ry
      cases e; exact .inr (.inr ⟨i, j, e1, e2, res_d s P rfl k⟩)
  · cases hg
/-- is None -/
def isNone : D → Bool
  | .none => true
  | _ => false
def isD : D → D → Option W
  | x, .none => some (.d (.bool (isNone x)))
  | _, _ => none
def isntD : D → D → Option W
  | x, .none => some (.d (.bool (!isNone x)))
  | _, _ => none
theorem isNone_ok {K : PySem.W.Frag} {O : Addr → Prop} {H : Hp} {x : D} {v : V} (h : RepP K O H x v) : decide (v = .non) = isNone x := by
  cases x with
  | none => cases h; rfl
  | bool b => cases h; rfl
  | int i => cases h; rfl
  | str z => cases h; rfl
  | tuple ds => obtain ⟨a, vs, rfl, _⟩ := h; rfl
  | list ds => obtain ⟨a, vs, rfl, _⟩ := h; rfl
  | dict kvs => obtain ⟨a, rfl, _⟩ := h; rfl
theorem bi_is : Bi2 X (fun x y H Q => y = .non ∧ Q (.bl (decide (x = .non))) H) (lift2 isD) := bi_lift fun E Hd al m H x v y u w R Q s rx ry hg P k => by
  cases y <;> first | (cases x <;> (simp only [isD] at hg; cases hg); done) | skip
  have e2 : u = .non := ry
  subst e2
  have e : some (W.d (.bool (isNone x))) = some w := by cases x <;> exact hg
  cases e
  refine ⟨rfl, ?_⟩
  rw [isNone_ok rx]
  exact res_d s P rfl k
theorem bi_isnt : Bi2 X (fun x y H Q => y = .non ∧ Q (.bl (!decide (x = .non))) H) (lift2 isntD) := bi_lift fun E Hd al m H x v y u w R Q s rx ry hg P k => by
  cases y <;> first | (cases x <;> (simp only [isntD] at hg; cases hg); done) | skip
  have e2 : u = .non := ry
  subst e2
  have e : some (W.d (.bool (!isNone x))) = some w := by cases x <;> exact hg
  cases e
  refine ⟨rfl, ?_⟩
  rw [isNone_ok rx]
  exact res_d s P rfl k

/-! ### argument lists, displays -/
def RepWs (K : PySem.W.Frag) (mg : Str → Option Value) (O : Addr → Prop) (al : List Addr) (H : Hp) : List W → List V → Prop
  | [], vs => vs = []
  | w :: ws, vs => ∃ v r, vs = v :: r ∧ RepW K mg O none al H w v ∧ RepWs K mg O al H ws r
def tA (K : PySem.W.Frag) (mg : Str → Option Value) (E : St → XK) (c : EM (List W)) : TA := fun σ H Q => ∃ Hd al rho m, Stt K Hd al none H m ∧ EnvOk K mg (Own Hd al m none) al H rho σ ∧
  Post K mg Hd al m H (E σ) (c rho m) fun ws al' p m' H' => p = none → ∀ vs, RepWs K mg (Own Hd al' m' none) al' H' ws vs → Q vs H'
abbrev DenA (X : Cx) (E : St → XK) (es : List Expr) (c : EM (List W)) : Prop := PA X es (tA X.K X.mg E c)
theorem PA.imp {es : List Expr} {t t' : TA} (h : PA X es t) (k : ∀ σ H Q, t' σ H Q → t σ H Q) : PA X es t' := ⟨fun pos pins s σ H Q I q => h.run pos pins s σ H Q I (k σ H Q q)⟩
def mNil : EM (List W) := fun _ m => .ok [] m
def mCons (a : EM W) (r : EM (List W)) : EM (List W) := fun rho m => (a rho m).bindV fun x m1 => (r rho m1).bind fun xs m2 => .ok (x :: xs) m2
theorem da_nil : DenA X E [] mNil := PA.imp pa_nil fun σ H Q q => by
  obtain ⟨Hd, al, rho, m, s, e, P⟩ := q
  exact Post.ok s P rfl [] rfl
theorem da_cons {es : List Expr} {r : EM (List W)} (ha : Den X E ea a) (hr : DenA X E es r) (hs : starEach (ea :: es) X.env = (false, eval ea X.env) :: starEach es X.env := by rfl) : DenA X E (ea :: es) (mCons a r) := PA.imp (pa_cons ha hr hs) fun σ H Q q => by
  obtain ⟨Hd, al, rho, m, s, e, P⟩ := q
  refine ⟨Hd, al, rho, m, s, e, (Post.bindV P).imp fun w al1 p1 m1 H1 g s1 k v rv => ?_⟩
  obtain ⟨g1, s1', rv1, P1⟩ := k v rv
  refine ⟨Hd, al1, rho, m1, s1', e.go g1, (Post.bind P1).imp fun ws al2 p2 m2 H2 g2 s2 k2 hp vs rw2 => ?_⟩
  subst hp
  exact Post.ok s2 (k2 rfl) rfl _ ⟨v, vs, rfl, rv1.go g2, rw2⟩
/-- an item that is laid into a container stands fast -/
def frz (m : Mem) : W → Option (D × Mem)
  | .d x => some (x, m)
  | .n x => some (x, m)
  | .r n => match m[n]? with | some (some x) => some (x, m.set n none) | _ => none
  | .f _ => none
  | .s _ => none
  | .e _ => none
def frzAll : List W → Mem → Option (List D × Mem)
  | [], m => some ([], m)
  | w :: ws, m => match frz m w with | some (x, m1) => (match frzAll ws m1 with | some (xs, m2) => some (x :: xs, m2) | none => none) | none => none
end
section
variable {K : PySem.W.Frag} {mg : Str → Option Value} {Hd : Addr → Prop} {al : List Addr} {m m1 : Mem} {H : Hp}
theorem live_set {n r : Nat} (h : Live (m.set n none) r) : Live m r ∧ r ≠ n := by
  obtain ⟨o, h⟩ := h
  by_cases e : n = r
  · subst e
    rw [List.getElem?_set_self'] at h
    cases q : m[n]? with
    | none => rw [q] at h; cases h
    | some z => rw [q] at h; cases h
  · rw [List.getElem?_set_ne e] at h
    exact ⟨⟨o, h⟩, fun z => e z.symm⟩
theorem own_set {n : Nat} {a : Addr} (h : Own Hd al (m.set n none) none a) : Own Hd al m none a := by
  rcases h with ⟨r, h1, h2⟩ | h
  · exact .inl ⟨r, h1, (live_set h2).1⟩
  · exact .inr h
theorem ext_set {n : Nat} : Ext (Own Hd al m none) H (Own Hd al (m.set n none) none) H := Ext.less fun _ h => own_set h
theorem stt_set {n : Nat} (s : Stt K Hd al none H m) : Stt K Hd al none H (m.set n none) where
  len := by rw [List.length_set]; exact s.len
  ob := fun r a o h1 h2 => by
    have q := live_set ⟨o, h2⟩
    have e : m[r]? = some (some o) := by rw [← h2, List.getElem?_set_ne (Ne.symm q.2)]
    exact (s.ob r a o h1 e).stay ext_set rfl
  inj := fun r r' a h1 h2 h3 h4 => s.inj r r' a h1 h2 (live_set h3).1 (live_set h4).1
  pnd := fun _ _ h => nomatch h
  hin := fun a h => ⟨(s.hin a h).1, (fun z => nomatch z), fun r h1 => (s.hin a h).2.2 r (live_set h1).1⟩
theorem frz_ok {w : W} {v : V} {x : D} (s : Stt K Hd al none H m) (h : RepW K mg (Own Hd al m none) none al H w v) (e : frz m w = some (x, m1)) : Stt K Hd al none H m1 ∧ Go Hd al m none H al m1 none H ∧ RepD K (Own Hd al m1 none) H x v := by
  cases w with
  | d y => cases e; exact ⟨s, Go.refl, h.2⟩
  | n y => obtain ⟨a, h1, _⟩ := h; cases h1
  | f y => cases e
  | s y => cases e
  | e y => cases e
  | r n =>
    obtain ⟨a, h1, rfl⟩ := h.2
    have e' : (match m[n]? with | some (some x) => some (x, m.set n none) | _ => none) = some (x, m1) := e
    split at e'
    · rename_i y hy
      cases e'
      refine ⟨stt_set s, ⟨ext_set, fun _ _ h => h, fun _ _ _ h => h⟩, ?_⟩
      have ob := s.ob n a x h1 hy
      have no : ¬ Own Hd al (m.set n none) none a := fun z => by
        rcases z with ⟨r, q1, q2⟩ | z | z
        · exact (live_set q2).2 (s.inj r n a q1 h1 (live_set q2).1 ⟨x, hy⟩)
        · exact (s.hin a z).2.2 n ⟨x, hy⟩ h1
        · cases z
      cases x with
      | list ds => obtain ⟨vs, h2, h3⟩ := ob; exact ⟨a, vs, rfl, ⟨h2, no⟩, h3.ext ext_set⟩
      | dict kvs =>
        refine ⟨a, rfl, no, ?_⟩
        rcases ob with ⟨kz, h2, h3⟩ | ⟨kz, h2, h3⟩
        · exact .inl ⟨kz, .inl h2, RepK.ext ext_set kvs kz h3⟩
        · exact .inr ⟨kz, .inl h2, RepT.ext ext_set kvs kz h3⟩
      | _ => exact ob.elim
    · cases e'
theorem RepWs.go {ws : List W} {vs : List V} {al1 : List Addr} {H1 : Hp} (g : Go Hd al m none H al1 m1 none H1) (h : RepWs K mg (Own Hd al m none) al H ws vs) : RepWs K mg (Own Hd al1 m1 none) al1 H1 ws vs := by
  induction ws generalizing vs with
  | nil => exact h
  | cons w ws ih => obtain ⟨v, r, h1, h2, h3⟩ := h; exact ⟨v, r, h1, h2.go g, ih h3⟩
theorem frzAll_ok : ∀ {ws : List W} {vs : List V} {xs : List D} {m m1 : Mem}, Stt K Hd al none H m → RepWs K mg (Own Hd al m none) al H ws vs → frzAll ws m = some (xs, m1) → Stt K Hd al none H m1 ∧ Go Hd al m none H al m1 none H ∧ RepDs K (Own Hd al m1 none) H xs vs
  | [], _, _, _, _, s, h, e => by cases e; exact ⟨s, Go.refl, h⟩
  | w :: ws, _, xs, m, m1, s, ⟨v, r, h1, h2, h3⟩, e => by
    subst h1
    unfold frzAll at e
    split at e
    · rename_i x m2 hx
      split at e
      · rename_i ys m3 hys
        cases e
        obtain ⟨s2, g2, r2⟩ := frz_ok s h2 hx
        obtain ⟨s3, g3, r3⟩ := frzAll_ok s2 (h3.go g2) hys
        exact ⟨s3, g2.trans g3, v, r, rfl, r2.ext g3.ext, r3⟩
      · cases e
    · cases e
end
section
variable {X : Cx} {E : St → XK} {ea eb ec : Expr} {a b c : EM W} {t u : EM Bool} {pos : Pos} {rest es : List Expr} {r : EM (List W)}
def mTup (r : EM (List W)) : EM W := fun rho m => (r rho m).bind fun ws m1 => match frzAll ws m1 with | some (xs, m2) => if small xs.length then .ok (.d (.tuple xs)) m2 else .no | none => .no
def mLst (r : EM (List W)) : EM W := fun rho m => (r rho m).bind fun ws m1 => match frzAll ws m1 with | some (xs, m2) => if small xs.length then .ok (.n (.list xs)) m2 else .no | none => .no
theorem den_tup {k} (h : DenA X E es r) : Den X E (.Tuple es k pos) (mTup r) := PE.imp (pe_tup h) fun σ H Q q => by
  obtain ⟨Hd, al, rho, m, s, e, P⟩ := q
  refine ⟨Hd, al, rho, m, s, e, (Post.bind P).imp fun ws al1 p1 m1 H1 g s1 k hp vs rv => ?_⟩
  subst hp
  have P1 := k rfl
  split at P1
  · rename_i xs m2 hx
    obtain ⟨s2, g2, r2⟩ := frzAll_ok s1 rv hx
    split at P1
    · rename_i hz
      refine ⟨by rw [r2.len]; exact small_line hz, fun p hp => ?_⟩
      exact res_tup s2 r2 hp (Post.go g2 P1) fun w' al' p m' H' v' q' => q' v'
    · exact P1.elim
  · exact P1.elim
theorem den_lst (h : DenA X E es r) : Den X E (.List es pos) (mLst r) := PE.imp (pe_lst h) fun σ H Q q => by
  obtain ⟨Hd, al, rho, m, s, e, P⟩ := q
  refine ⟨Hd, al, rho, m, s, e, (Post.bind P).imp fun ws al1 p1 m1 H1 g s1 k hp vs rv => ?_⟩
  subst hp
  have P1 := k rfl
  split at P1
  · rename_i xs m2 hx
    obtain ⟨s2, g2, r2⟩ := frzAll_ok s1 rv hx
    split at P1
    · rename_i hz
      refine ⟨by rw [r2.len]; exact small_line hz, fun p hp => ?_⟩
      exact res_list s2 r2 hp (Post.go g2 P1) fun w' al' p m' H' v' q' => q' v'
    · exact P1.elim
  · exact P1.elim
end
end Den
/-! Den5: statements, targets. -/
namespace Den
open PySem PySem.Spec PyProof.Rows L2

inductive Out where
  | nx (rho : Env) (m : Mem) | rt (w : W) (m : Mem) | bk (rho : Env) (m : Mem) | ct (rho : Env) (m : Mem) | ex (c : Exc) (rho : Env) (m : Mem) | no
abbrev SM := Env → Mem → Out
def PostS (K : PySem.W.Frag) (mg : Str → Option Value) (Hd : Addr → Prop) (al : List Addr) (m : Mem) (H : Hp) (E : St → XK) (Dn : Ends) (o : Out) : Prop :=
  match o with
  | .nx rho' m' => ∀ al' H' σ', Go Hd al m none H al' m' none H' → Stt K Hd al' none H' m' → EnvOk K mg (Own Hd al' m' none) al' H' rho' σ' → Dn.nx σ' H'
  | .bk rho' m' => ∀ al' H' σ', Go Hd al m none H al' m' none H' → Stt K Hd al' none H' m' → EnvOk K mg (Own Hd al' m' none) al' H' rho' σ' → Dn.bk σ' H'
  | .ct rho' m' => ∀ al' H' σ', Go Hd al m none H al' m' none H' → Stt K Hd al' none H' m' → EnvOk K mg (Own Hd al' m' none) al' H' rho' σ' → Dn.ct σ' H'
  | .rt w m' => ∀ al' p H' v, Go Hd al m none H al' m' p H' → Stt K Hd al' p H' m' → RepW K mg (Own Hd al' m' p) p al' H' w v → Dn.rt v H'
  | .ex c rho' m' => ∀ al' H' σ' cls dd, Go Hd al m none H al' m' none H' → Stt K Hd al' none H' m' → EnvOk K mg (Own Hd al' m' none) al' H' rho' σ' → ExcOk mg c cls dd H' (Own Hd al' m' none) → E σ' cls dd H'
  | .no => False
def tS (K : PySem.W.Frag) (mg : Str → Option Value) (E : St → XK) (c : SM) : TS := fun Dn σ H => ∃ Hd al rho m, Stt K Hd al none H m ∧ EnvOk K mg (Own Hd al m none) al H rho σ ∧ PostS K mg Hd al m H E Dn (c rho m)
abbrev DenS (X : Cx) (E : St → XK) (st : Stmt) (c : SM) : Prop := PS X st (tS X.K X.mg E c)
abbrev DenSs (X : Cx) (E : St → XK) (st : List Stmt) (c : SM) : Prop := PSs X st (tS X.K X.mg E c)
theorem PS.imp {X : Cx} {st : Stmt} {t t' : TS} (h : PS X st t) (k : ∀ Dn σ H, t' Dn σ H → t Dn σ H) : PS X st t' := ⟨fun pins s σ H Dn I q => h.run pins s σ H Dn I (k Dn σ H q)⟩
theorem PSs.imp {X : Cx} {st : List Stmt} {t t' : TS} (h : PSs X st t) (k : ∀ Dn σ H, t' Dn σ H → t Dn σ H) : PSs X st t' := ⟨fun pins s σ H Dn I q => h.run pins s σ H Dn I (k Dn σ H q)⟩

section
variable {K : PySem.W.Frag} {mg : Str → Option Value} {Hd : Addr → Prop} {al al1 al2 : List Addr} {m m1 m2 : Mem} {p : Option Addr} {H H1 H2 : Hp} {E : St → XK} {Dn Dn' : Ends} {rho : Env} {σ : St}
theorem PostS.go {o : Out} (g : Go Hd al m none H al1 m1 none H1) (h : PostS K mg Hd al m H E Dn o) : PostS K mg Hd al1 m1 H1 E Dn o := by
  cases o with
  | nx r m' => exact fun al' H' σ' g' s e => h al' H' σ' (g.trans g') s e
  | bk r m' => exact fun al' H' σ' g' s e => h al' H' σ' (g.trans g') s e
  | ct r m' => exact fun al' H' σ' g' s e => h al' H' σ' (g.trans g') s e
  | rt w m' => exact fun al' p H' v g' s e => h al' p H' v (g.trans g') s e
  | ex c r m' => exact fun al' H' σ' cls dd g' s e => h al' H' σ' cls dd (g.trans g') s e
  | no => exact h
theorem PostS.nx {rho' : Env} (s : Stt K Hd al none H m) (e : EnvOk K mg (Own Hd al m none) al H rho' σ) (h : PostS K mg Hd al m H E Dn (.nx rho' m)) : Dn.nx σ H := h al H σ Go.refl s e
end

/-- an expression's outcome, then a statement's -/
def Rs.thenS {β : Type} (r : Rs β) (rho : Env) (k : β → Mem → Out) : Out := match r with | .ok b m => k b m | .ex c m => .ex c rho m | .no => .no
def Rs.thenV (r : Rs W) (rho : Env) (k : W → Mem → Out) : Out := match r with | .ok w m => k (val w) m | .ex c m => .ex c rho m | .no => .no
section
variable {K : PySem.W.Frag} {mg : Str → Option Value} {Hd : Addr → Prop} {al al1 al2 : List Addr} {m m1 m2 : Mem} {p : Option Addr} {H H1 H2 : Hp} {E : St → XK} {Dn Dn' : Ends} {rho : Env} {σ : St}
theorem PostS.ofE {β : Type} {r : Rs β} {k : β → Mem → Out} (e : EnvOk K mg (Own Hd al m none) al H rho σ) (h : PostS K mg Hd al m H E Dn (r.thenS rho k)) :
    Post K mg Hd al m H (E σ) r fun b al1 p1 m1 H1 => p1 = none → PostS K mg Hd al1 m1 H1 E Dn (k b m1) := by
  cases r with
  | ok b m' => exact fun al' p H' g s hp => by subst hp; exact PostS.go g h
  | ex c m' => exact fun al' H' cls dd g s x => h al' H' σ cls dd g s (e.go g) x
  | no => exact h
theorem PostS.ofV {r : Rs W} {k : W → Mem → Out} (e : EnvOk K mg (Own Hd al m none) al H rho σ) (h : PostS K mg Hd al m H E Dn (r.thenV rho k)) :
    Post K mg Hd al m H (E σ) r fun w al1 p1 m1 H1 => ∀ v, RepW K mg (Own Hd al1 m1 p1) p1 al1 H1 w v →
      Go Hd al m none H al1 m1 none H1 ∧ Stt K Hd al1 none H1 m1 ∧ RepW K mg (Own Hd al1 m1 none) none al1 H1 (val w) v ∧ PostS K mg Hd al1 m1 H1 E Dn (k (val w) m1) := by
  cases r with
  | ok w m' => exact fun al' p H' g s v rv => ⟨g.trans Go.settle, s.settle, val_ok s rv, PostS.go (g.trans Go.settle) h⟩
  | ex c m' => exact fun al' H' cls dd g s x => h al' H' σ cls dd g s (e.go g) x
  | no => exact h
theorem EnvOk.set {O : Addr → Prop} {i : Nat} {w : W} {v : V} (e : EnvOk K mg O al H rho σ) (h : RepW K mg O none al H w v) : EnvOk K mg O al H (rho.set i (some w)) (σ.set i (some v)) := by
  refine ⟨by rw [List.length_set, List.length_set, e.1], fun j u hj => ?_⟩
  by_cases q : i = j
  · subst q
    have hl : i < rho.length := by
      by_cases hl : i < rho.length
      · exact hl
      · rw [List.getElem?_eq_none (by rw [List.length_set]; omega)] at hj; cases hj
    rw [List.getElem?_set_self hl] at hj
    cases hj
    exact ⟨v, List.getElem?_set_self (by rw [← e.1]; exact hl), h⟩
  · rw [List.getElem?_set_ne q] at hj
    obtain ⟨v', h1, h2⟩ := e.2 j u hj
    exact ⟨v', by rw [List.getElem?_set_ne q]; exact h1, h2⟩
theorem EnvOk.drop {O : Addr → Prop} {i : Nat} (e : EnvOk K mg O al H rho σ) : EnvOk K mg O al H (rho.set i none) (σ.set i none) := by
  refine ⟨by rw [List.length_set, List.length_set, e.1], fun j u hj => ?_⟩
  by_cases q : i = j
  · subst q
    have hl : i < rho.length := by
      by_cases hl : i < rho.length
      · exact hl
      · rw [List.getElem?_eq_none (by rw [List.length_set]; omega)] at hj; cases hj
    rw [List.getElem?_set_self hl] at hj
    cases hj
  · rw [List.getElem?_set_ne q] at hj
    obtain ⟨v', h1, h2⟩ := e.2 j u hj
    exact ⟨v', by rw [List.getElem?_set_ne q]; exact h1, h2⟩
/-- a container just made is given a handle -/
theorem own_alloc {a b : Addr} {x : D} (hl : al.length = m.length) : Own Hd (al ++ [a]) (m ++ [some x]) none b ↔ Own Hd al m (some a) b := by
  constructor
  · rintro (⟨r, h1, o, h2⟩ | h)
    · by_cases hr : r < m.length
      · rw [List.getElem?_append_left (by omega)] at h1
        rw [List.getElem?_append_left hr] at h2
        exact .inl ⟨r, h1, o, h2⟩
      · have : r = al.length := by
          have z := List.getElem?_eq_some_iff.mp h1
          obtain ⟨z, _⟩ := z
          rw [List.length_append, List.length_singleton] at z
          omega
        subst this
        rw [List.getElem?_append_right (Nat.le_refl _), Nat.sub_self] at h1
        cases h1
        exact .inr (.inr rfl)
    · rcases h with h | h
      · exact .inr (.inl h)
      · cases h
  · rintro (⟨r, h1, o, h2⟩ | h | h)
    · obtain ⟨hr, _⟩ := List.getElem?_eq_some_iff.mp h1
      exact .inl ⟨r, by rw [List.getElem?_append_left hr]; exact h1, o, by rw [List.getElem?_append_left (by omega)]; exact h2⟩
    · exact .inr (.inl h)
    · cases h
      exact .inl ⟨al.length, by rw [List.getElem?_append_right (Nat.le_refl _), Nat.sub_self]; rfl, x, by rw [hl, List.getElem?_append_right (Nat.le_refl _), Nat.sub_self]; rfl⟩
theorem go_alloc {a : Addr} {x : D} (s : Stt K Hd al (some a) H m) : Go Hd al m (some a) H (al ++ [a]) (m ++ [some x]) none H where
  ext := Ext.less fun b h => (own_alloc s.len).mp h
  pre := fun r b h => by
    obtain ⟨hr, _⟩ := List.getElem?_eq_some_iff.mp h
    rw [List.getElem?_append_left hr]; exact h
  hid := fun _ _ _ h => h
theorem stt_alloc {a : Addr} {x : D} (s : Stt K Hd al (some a) H m) (ho : ObOk K (Own Hd al m (some a)) H x a) : Stt K Hd (al ++ [a]) none H (m ++ [some x]) where
  len := by rw [List.length_append, List.length_append, s.len]; rfl
  ob := fun r b o h1 h2 => by
    by_cases hr : r < m.length
    · rw [List.getElem?_append_left (by rw [s.len]; exact hr)] at h1
      rw [List.getElem?_append_left hr] at h2
      exact (s.ob r b o h1 h2).stay (go_alloc s).ext rfl
    · have : r = m.length := by
        obtain ⟨z, _⟩ := List.getElem?_eq_some_iff.mp h2
        rw [List.length_append, List.length_singleton] at z
        omega
      subst this
      rw [← s.len, List.getElem?_append_right (Nat.le_refl _), Nat.sub_self] at h1
      rw [List.getElem?_append_right (Nat.le_refl _), Nat.sub_self] at h2
      cases h1; cases h2
      exact ho.stay (go_alloc s).ext rfl
  inj := fun r r' b h1 h2 h3 h4 => by
    have lt : ∀ {q : Nat}, Live (m ++ [some x]) q → q < m.length ∧ Live m q ∨ q = m.length := fun {q} ⟨o, z⟩ => by
      by_cases hr : q < m.length
      · rw [List.getElem?_append_left hr] at z; exact .inl ⟨hr, o, z⟩
      · obtain ⟨z, _⟩ := List.getElem?_eq_some_iff.mp z
        rw [List.length_append, List.length_singleton] at z
        exact .inr (by omega)
    have old : ∀ {q : Nat}, q < m.length → (al ++ [a])[q]? = al[q]? := fun {q} hq => List.getElem?_append_left (by rw [s.len]; exact hq)
    have nw : (al ++ [a])[m.length]? = some a := by rw [← s.len, List.getElem?_append_right (Nat.le_refl _), Nat.sub_self]; rfl
    rcases lt h3 with ⟨l1, v1⟩ | e1
    · rcases lt h4 with ⟨l2, v2⟩ | e2
      · rw [old l1] at h1; rw [old l2] at h2
        exact s.inj r r' b h1 h2 v1 v2
      · subst e2
        rw [nw] at h2; cases h2
        rw [old l1] at h1
        exact absurd h1 (s.pnd a r rfl v1)
    · subst e1
      rcases lt h4 with ⟨l2, v2⟩ | e2
      · rw [nw] at h1; cases h1
        rw [old l2] at h2
        exact absurd h2 (s.pnd a r' rfl v2)
      · exact e2.symm
  pnd := fun _ _ h => nomatch h
  hin := fun b hb => by
    obtain ⟨h1, h2, h3⟩ := s.hin b hb
    refine ⟨h1, (fun z => nomatch z), fun r ⟨o, z⟩ h4 => ?_⟩
    by_cases hr : r < m.length
    · rw [List.getElem?_append_left hr] at z
      rw [List.getElem?_append_left (by rw [s.len]; exact hr)] at h4
      exact h3 r ⟨o, z⟩ h4
    · have : r = m.length := by
        obtain ⟨z, _⟩ := List.getElem?_eq_some_iff.mp z
        rw [List.length_append, List.length_singleton] at z
        omega
      subst this
      rw [← s.len, List.getElem?_append_right (Nat.le_refl _), Nat.sub_self] at h4
      cases h4
      exact h2 rfl
end

section
variable {X : Cx} {E : St → XK} {e ea eb : Expr} {a b : EM W} {st : Stmt} {rest sa sb : List Stmt} {c d : SM} {t : EM Bool} {pos : Pos}
def sSkip : SM := fun rho m => .nx rho m
def sSeq (c d : SM) : SM := fun rho m => match c rho m with | .nx rho' m' => d rho' m' | o => o
theorem dss_nil : DenSs X E [] sSkip := PSs.imp pss_nil fun Dn σ H q => by
  obtain ⟨Hd, al, rho, m, s, e, P⟩ := q
  exact P.nx s e
theorem dss_cons (h : DenS X E st c) (h2 : DenSs X E rest d) : DenSs X E (st :: rest) (sSeq c d) := PSs.imp (pss_cons h h2) fun Dn σ H q => by
  obtain ⟨Hd, al, rho, m, s, e, P⟩ := q
  refine ⟨Hd, al, rho, m, s, e, ?_⟩
  unfold sSeq at P
  cases ho : c rho m with
  | nx r m' => rw [ho] at P; exact fun al' H' σ' g s e => ⟨Hd, al', r, m', s, e, PostS.go g P⟩
  | bk r m' => rw [ho] at P; exact P
  | ct r m' => rw [ho] at P; exact P
  | rt w m' => rw [ho] at P; exact P
  | ex x r m' => rw [ho] at P; exact P
  | no => rw [ho] at P; exact P
theorem dss_one (h : DenS X E st c) : DenSs X E [st] c := pss_one h
def sDrop (a : EM W) : SM := fun rho m => (a rho m).thenV rho fun _ m1 => .nx rho m1
theorem ds_expr (h : Den X E e a) (hs : swapsWith e none pos.line X.env = pure false := by rfl) : DenS X E (.Expr e pos) (sDrop a) := PS.imp (ps_expr h hs) fun Dn σ H q => by
  obtain ⟨Hd, al, rho, m, s, e, P⟩ := q
  refine ⟨Hd, al, rho, m, s, e, (PostS.ofV e P).imp fun w al1 p1 m1 H1 g s1 k v rv => ?_⟩
  obtain ⟨g1, s1', rv1, P1⟩ := k v rv
  exact P1.nx s1' (e.go g1)
theorem ds_doc {x j p q} : DenS X E (.Expr (.Constant (.str x) j p) q) sSkip := PS.imp ps_doc fun Dn σ H q => by
  obtain ⟨Hd, al, rho, m, s, e, P⟩ := q
  exact P.nx s e
theorem ds_pass : DenS X E (.Pass pos) sSkip := PS.imp ps_pass fun Dn σ H q => by
  obtain ⟨Hd, al, rho, m, s, e, P⟩ := q
  exact P.nx s e
def sBreak : SM := fun rho m => .bk rho m
def sCont : SM := fun rho m => .ct rho m
theorem ds_break : DenS X E (.Break pos) sBreak := PS.imp ps_break fun Dn σ H q => by
  obtain ⟨Hd, al, rho, m, s, e, P⟩ := q
  exact P al H σ Go.refl s e
theorem ds_continue : DenS X E (.Continue pos) sCont := PS.imp ps_continue fun Dn σ H q => by
  obtain ⟨Hd, al, rho, m, s, e, P⟩ := q
  exact P al H σ Go.refl s e
def sRet (a : EM W) : SM := fun rho m => (a rho m).thenS rho fun w m1 => .rt w m1
theorem ds_ret (h : Den X E e a) : DenS X E (.Return (some e) pos) (sRet a) := PS.imp (ps_ret h) fun Dn σ H q => by
  obtain ⟨Hd, al, rho, m, s, e, P⟩ := q
  refine ⟨Hd, al, rho, m, s, e, ?_⟩
  unfold sRet at P
  cases ho : a rho m with
  | ok w m' => rw [ho] at P; exact fun al' p H' g s v rv => P al' p H' v g s rv
  | ex x m' => rw [ho] at P; exact fun al' H' cls dd g s x => P al' H' σ cls dd g s (e.go g) x
  | no => rw [ho] at P; exact P
def sRetN : SM := fun _ m => .rt (.d .none) m
theorem ds_retN : DenS X E (.Return none pos) sRetN := PS.imp ps_retN fun Dn σ H q => by
  obtain ⟨Hd, al, rho, m, s, e, P⟩ := q
  exact P al none H _ Go.refl s ⟨rfl, rfl⟩
def sIf (t : EM Bool) (c d : SM) : SM := fun rho m => (t rho m).thenS rho fun b m1 => if b = true then c rho m1 else d rho m1
theorem ds_if (h : DenT X E e t) (h1 : DenSs X E sa c) (h2 : DenSs X E sb d) : DenS X E (.If e sa sb pos) (sIf t c d) := PS.imp (ps_if h h1 h2) fun Dn σ H q => by
  obtain ⟨Hd, al, rho, m, s, e, P⟩ := q
  refine ⟨Hd, al, rho, m, s, e, (PostS.ofE e P).imp fun b al1 p1 m1 H1 g s1 k hp => ?_⟩
  subst hp
  cases b with
  | true => exact ⟨Hd, al1, rho, m1, s1, e.go g, k rfl⟩
  | false => exact ⟨Hd, al1, rho, m1, s1, e.go g, k rfl⟩

/-! ### x = e -/
def sSet (i : Nat) (a : EM W) : SM := fun rho m => (a rho m).thenV rho fun w m1 => .nx (rho.set i (some w)) m1
/-- x is changed later: a container just made gets a handle -/
def sSetR (i : Nat) (a : EM W) : SM := fun rho m => (a rho m).thenS rho fun w m1 => match w with | .n x => .nx (rho.set i (some (.r m1.length))) (m1 ++ [some x]) | _ => .no
theorem tS_set {te : TE} (hi : ∀ σ H Q, tM X.K X.mg E a σ H Q → te σ H Q) {i : Nat} {Dn : Ends} {σ : St} {H : Hp} (q : tS X.K X.mg E (sSet i a) Dn σ H) : tAsg te (gName i) Dn σ H := by
  obtain ⟨Hd, al, rho, m, s, e, P⟩ := q
  refine hi _ _ _ ⟨Hd, al, rho, m, s, e, (PostS.ofV e P).imp fun w al1 p1 m1 H1 g s1 k v rv => ?_⟩
  obtain ⟨g1, s1', rv1, P1⟩ := k v rv
  exact P1.nx s1' ((e.go g1).set rv1)
theorem tS_setR {te : TE} (hi : ∀ σ H Q, tM X.K X.mg E a σ H Q → te σ H Q) {i : Nat} {Dn : Ends} {σ : St} {H : Hp} (q : tS X.K X.mg E (sSetR i a) Dn σ H) : tAsg te (gName i) Dn σ H := by
  obtain ⟨Hd, al, rho, m, s, e, P⟩ := q
  refine hi _ _ _ ⟨Hd, al, rho, m, s, e, ?_⟩
  unfold sSetR at P
  cases ho : a rho m with
  | no => rw [ho] at P; exact P
  | ex x m' => rw [ho] at P; exact fun al' H' cls dd g s x => P al' H' σ cls dd g s (e.go g) x
  | ok w m' =>
    rw [ho] at P
    intro al' p H' g s' v rv
    cases w with
    | n x =>
      obtain ⟨a0, hp, rfl, ob⟩ := rv
      subst hp
      have g2 := go_alloc (x := x) s'
      refine P (al' ++ [a0]) H' _ (g.trans g2) (stt_alloc s' ob) ?_
      refine EnvOk.set (e.go (g.trans g2)) ⟨rfl, a0, ?_, rfl⟩
      · rw [← s'.len, List.getElem?_append_right (Nat.le_refl _), Nat.sub_self]; rfl
    | _ => exact P.elim
variable {i : Nat} {x : Str} {pos' : Pos}
theorem ds_set (i : Nat) (hN : X.N.Nodup) (he : Den X E e a) (hi : X.N[i]? = some x := by rfl) (hx : Loc X.env.scope x := by first | exact Or.inl rfl | exact Or.inr rfl) (hs : swapsWith e (some (.Name x pos')) pos.line X.env = pure false := by rfl)
    (hf : X.fn x = true ∨ X.env.scope.names.lookup x = some .local := by first | exact .inl rfl | exact .inr rfl | assumption) : DenS X E (.Assign [.Name x pos'] e pos) (sSet i a) := PS.imp (ps_set hN hi hx he hs hf) fun _ _ _ q => tS_set (fun _ _ _ h => h) q
theorem ds_setR (i : Nat) (hN : X.N.Nodup) (he : Den X E e a) (hi : X.N[i]? = some x := by rfl) (hx : Loc X.env.scope x := by first | exact Or.inl rfl | exact Or.inr rfl) (hs : swapsWith e (some (.Name x pos')) pos.line X.env = pure false := by rfl)
    (hf : X.fn x = true ∨ X.env.scope.names.lookup x = some .local := by first | exact .inl rfl | exact .inr rfl | assumption) : DenS X E (.Assign [.Name x pos'] e pos) (sSetR i a) := PS.imp (ps_set hN hi hx he hs hf) fun _ _ _ q => tS_setR (fun _ _ _ h => h) q

/-! ### targets -/
/-- a target's store: none where it raises or is none of ours -/
abbrev GM := W → Env → Mem → Option (Env × Mem)
/-- nothing but the slots sl has changed -/
def Off (sl : List Nat) (σ σ' : St) : Prop := σ'.length = σ.length ∧ ∀ j : Nat, j ∉ sl → σ'[j]? = σ[j]?
theorem Off.refl {sl : List Nat} {σ : St} : Off sl σ σ := ⟨rfl, fun _ _ => rfl⟩
theorem Off.trans {sl sl2 sl3 : List Nat} {σ σ1 σ2 : St} (a : Off sl σ σ1) (b : Off sl2 σ1 σ2) (h : ∀ j, j ∈ sl → j ∈ sl3) (h2 : ∀ j, j ∈ sl2 → j ∈ sl3) : Off sl3 σ σ2 :=
  ⟨b.1.trans a.1, fun j n => (b.2 j fun z => n (h2 j z)).trans (a.2 j fun z => n (h j z))⟩
def PostG (K : PySem.W.Frag) (mg : Str → Option Value) (Hd : Addr → Prop) (al : List Addr) (m : Mem) (H : Hp) (σ : St) (sl : List Nat) (r : Option (Env × Mem)) (Q : St → Hp → Prop) : Prop :=
  match r with
  | some (rho', m') => ∀ al' H' σ', Go Hd al m none H al' m' none H' → Stt K Hd al' none H' m' → EnvOk K mg (Own Hd al' m' none) al' H' rho' σ' → Off sl σ σ' → Q σ' H'
  | none => False
def tG (K : PySem.W.Frag) (mg : Str → Option Value) (g : GM) (sl : List Nat) : TG := fun v σ H Q => ∃ Hd al rho m w, Stt K Hd al none H m ∧ EnvOk K mg (Own Hd al m none) al H rho σ ∧ RepW K mg (Own Hd al m none) none al H w v ∧ PostG K mg Hd al m H σ sl (g w rho m) Q
abbrev DenG (X : Cx) (e : Expr) (g : GM) (sl : List Nat) : Prop := PG X e (tG X.K X.mg g sl)
theorem PG.imp {e : Expr} {t t' : TG} (h : PG X e t) (k : ∀ v σ H Q, t' v σ H Q → t v σ H Q) : PG X e t' := ⟨fun pins s σ H v u Q I r q => h.run pins s σ H v u Q I r (k v σ H Q q)⟩
theorem PG.or {e : Expr} {t t' : TG} (h : PG X e t) (h' : PG X e t') : PG X e (fun v σ H Q => t v σ H Q ∨ t' v σ H Q) := ⟨fun pins s σ H v u Q I r q => q.elim (h.run pins s σ H v u Q I r) (h'.run pins s σ H v u Q I r)⟩
theorem PGs.imp {es : List Expr} {t t' : TGs} (h : PGs X es t) (k : ∀ v σ H Q, t' v σ H Q → t v σ H Q) : PGs X es t' := ⟨fun pins s σ H v u Q I r q => h.run pins s σ H v u Q I r (k v σ H Q q)⟩
theorem PostG.go {Hd : Addr → Prop} {al al1 : List Addr} {m m1 : Mem} {H H1 : Hp} {σ : St} {sl : List Nat} {r : Option (Env × Mem)} {Q : St → Hp → Prop} (g : Go Hd al m none H al1 m1 none H1) (h : PostG X.K X.mg Hd al m H σ sl r Q) : PostG X.K X.mg Hd al1 m1 H1 σ sl r Q := by
  cases r with
  | none => exact h
  | some z => exact fun al' H' σ' g' s e => h al' H' σ' (g.trans g') s e
def gN (i : Nat) : GM := fun w rho m => some (rho.set i (some w), m)
theorem dg_name (i : Nat) (hN : X.N.Nodup) (hi : X.N[i]? = some x := by rfl) (hx : Loc X.env.scope x := by first | exact Or.inl rfl | exact Or.inr rfl) (hf : X.fn x = true ∨ X.env.scope.names.lookup x = some .local := by first | exact .inl rfl | exact .inr rfl | assumption) :
    DenG X (.Name x pos) (gN i) [i] := PG.imp (pg_name hN hi hx hf) fun v σ H Q q => by
  obtain ⟨Hd, al, rho, m, w, s, e, rv, P⟩ := q
  refine P al H _ Go.refl s (e.set rv) ⟨List.length_set, fun j hj => List.getElem?_set_ne fun z => hj (by simp [z])⟩
/-- several targets -/
def gAll : List GM → List D → Env → Mem → Option (Env × Mem)
  | [], [], rho, m => some (rho, m)
  | g :: gs, x :: xs, rho, m => match g (.d x) rho m with | some (rho', m') => gAll gs xs rho' m' | none => none
  | _, _, _, _ => none
def tGs (K : PySem.W.Frag) (mg : Str → Option Value) (gs : List GM) (sl : List Nat) : TGs := fun vs σ H Q => ∃ Hd al rho m xs, Stt K Hd al none H m ∧ EnvOk K mg (Own Hd al m none) al H rho σ ∧ RepDs K (Own Hd al m none) H xs vs ∧ PostG K mg Hd al m H σ sl (gAll gs xs rho m) Q
abbrev DenGs (X : Cx) (es : List Expr) (gs : List GM) (sl : List Nat) : Prop := PGs X es (tGs X.K X.mg gs sl)
theorem dgs_nil : DenGs X [] [] [] := PGs.imp pgs_nil fun vs σ H Q q => by
  obtain ⟨Hd, al, rho, m, xs, s, e, rv, P⟩ := q
  cases xs with
  | nil => exact ⟨rv, P al H σ Go.refl s e Off.refl⟩
  | cons y ys => exact P.elim
theorem dgs_cons {es : List Expr} {g : GM} {gs : List GM} {sl sl2 : List Nat} (h1 : DenG X e g sl) (h2 : DenGs X es gs sl2) (hs : (assignEach (e :: es) X.env).map (·.2) = assign e X.env :: (assignEach es X.env).map (·.2) := by rfl) : DenGs X (e :: es) (g :: gs) (sl ++ sl2) := PGs.imp (pgs_cons h1 h2 hs) fun vs σ H Q q => by
  obtain ⟨Hd, al, rho, m, xs, s, e, rv, P⟩ := q
  cases xs with
  | nil => exact P.elim
  | cons y ys =>
    obtain ⟨v, r, rfl, r1, r2⟩ := rv
    refine ⟨v, r, rfl, Hd, al, rho, m, .d y, s, e, ⟨rfl, r1⟩, ?_⟩
    have P' : PostG X.K X.mg Hd al m H σ (sl ++ sl2) (match g (.d y) rho m with | some (rho', m') => gAll gs ys rho' m' | none => none) Q := P
    cases hg : g (.d y) rho m with
    | none => rw [hg] at P'; exact P'
    | some z =>
      rw [hg] at P'
      intro al' H' σ' g' s' e' off
      refine ⟨Hd, al', z.1, z.2, ys, s', e', r2.ext g'.ext, ?_⟩
      have P2 := PostG.go (X := X) g' P'
      have P3 : PostG X.K X.mg Hd al' z.2 H' σ (sl ++ sl2) (gAll gs ys z.1 z.2) Q := P2
      cases hz : gAll gs ys z.1 z.2 with
      | none => rw [hz] at P3; exact P3
      | some z2 =>
        rw [hz] at P3
        exact fun al2 H2 σ2 g2 s2 e2 off2 => P3 al2 H2 σ2 g2 s2 e2 (off.trans off2 (fun j h => List.mem_append_left _ h) fun j h => List.mem_append_right _ h)
def seqOf : D → Option (List D)
  | .tuple ds => some ds
  | .list ds => some ds
  | _ => none
def gT (gs : List GM) : GM := fun w rho m => match (peek m w).bind seqOf with | some ds => if ds.length = gs.length then gAll gs ds rho m else none | none => none
theorem dg_tup {es : List Expr} {k : Nat} {gs : List GM} {sl : List Nat} (hc : X.calm = true) (h : DenGs X es gs sl) (hn : (assignEach es X.env).length = gs.length := by rfl) (hst : (assignEach es X.env).findIdx? (·.1) = none := by rfl) : DenG X (.Tuple es k pos) (gT gs) sl :=
  PG.imp (PG.or (pg_tup hc h hn hst) (pg_lst hc h hn hst)) fun v σ H Q q => by
    obtain ⟨Hd, al, rho, m, w, s, e, rv, P⟩ := q
    unfold gT at P
    cases hp : peek m w with
    | none => rw [hp] at P; exact P.elim
    | some x =>
      rw [hp] at P
      have r := peek_ok s rv hp
      cases x with
      | tuple ds =>
        obtain ⟨a, vs, rfl, h1, h2⟩ := r
        have P' : PostG X.K X.mg Hd al m H σ sl (if ds.length = gs.length then gAll gs ds rho m else none) Q := P
        split at P'
        · rename_i hl
          exact .inl ⟨a, vs, rfl, sqP h1, by rw [h2.len]; exact hl, Hd, al, rho, m, ds, s, e, h2, P'⟩
        · exact P'.elim
      | list ds =>
        obtain ⟨a, vs, rfl, h1, h2⟩ := r
        have P' : PostG X.K X.mg Hd al m H σ sl (if ds.length = gs.length then gAll gs ds rho m else none) Q := P
        split at P'
        · rename_i hl
          exact .inr ⟨a, vs, rfl, .inl (.inl h1), by rw [h2.len]; exact hl, Hd, al, rho, m, ds, s, e, h2, P'⟩
        · exact P'.elim
      | _ => exact P.elim
/-- target = e -/
def sAsg (g : GM) (a : EM W) : SM := fun rho m => (a rho m).thenV rho fun w m1 => match g w rho m1 with | some (rho', m') => .nx rho' m' | none => .no
theorem ds_asg {tg : Expr} {g : GM} {sl : List Nat} (he : Den X E e a) (hg : DenG X tg g sl) (hs : swapsWithSole [tg] e pos.line X.env = pure false := by rfl) (hw : swappedStores [tg] e X.env = pure none := by rfl)
    (h1 : (assignEach [tg] X.env).map (·.2) = [assign tg X.env] := by rfl) : DenS X E (.Assign [tg] e pos) (sAsg g a) := PS.imp (ps_asg he hg hs hw h1) fun Dn σ H q => by
  obtain ⟨Hd, al, rho, m, s, e, P⟩ := q
  refine ⟨Hd, al, rho, m, s, e, (PostS.ofV e P).imp fun w al1 p1 m1 H1 g s1 k v rv => ?_⟩
  obtain ⟨g1, s1', rv1, P1⟩ := k v rv
  refine ⟨Hd, al1, rho, m1, val w, s1', e.go g1, rv1, ?_⟩
  split at P1
  · rename_i heq
    rw [heq]; exact fun al' H' σ' g s e _ => P1 al' H' σ' g s e
  · exact P1.elim
/-- a, b = x, y: plain names, stored together -/
def sPar (i j : Nat) (a b : EM W) : SM := fun rho m => (a rho m).thenV rho fun x m1 => (b rho m1).thenV rho fun y m2 => .nx ((rho.set i (some x)).set j (some y)) m2
def mPair (a b : EM W) : EM (List W) := mCons a (mCons b mNil)
theorem ds_par {i j : Nat} {y : Str} {px py pt : Pos} {kt k2 pt2} (hc : X.calm = true) (hN : X.N.Nodup) (ha : DenA X E [ea, eb] (mPair a b)) (hi : X.N[i]? = some x := by rfl) (hj : X.N[j]? = some y := by rfl) (hij : i ≠ j := by decide)
    (hx : X.env.scope.names.lookup x = some .local := by rfl) (hy : X.env.scope.names.lookup y = some .local := by rfl)
    (hw : swappedStores [.Tuple [.Name x px, .Name y py] kt pt] (.Tuple [ea, eb] k2 pt2) X.env = pure (some [x, y]) := by rfl)
    (hs : swapsWithSole [.Tuple [.Name x px, .Name y py] kt pt] (.Tuple [ea, eb] k2 pt2) pos.line X.env = pure false := by rfl) :
    DenS X E (.Assign [.Tuple [.Name x px, .Name y py] kt pt] (.Tuple [ea, eb] k2 pt2) pos) (sPar i j a b) := PS.imp (ps_par hc hN hi hj hij hx hy ha hw hs) fun Dn σ H q => by
  obtain ⟨Hd, al, rho, m, s, e, P⟩ := q
  refine ⟨Hd, al, rho, m, s, e, ?_⟩
  unfold sPar at P
  show Post X.K X.mg Hd al m H (E σ) ((a rho m).bindV fun x m1 => (mCons b mNil rho m1).bind fun xs m2 => .ok (x :: xs) m2) _
  cases ho : a rho m with
  | no => rw [ho] at P; exact P
  | ex c m' => rw [ho] at P; exact fun al' H' cls dd g s x => P al' H' σ cls dd g s (e.go g) x
  | ok w1 m1 =>
    rw [ho] at P
    show Post X.K X.mg Hd al m H (E σ) (((b rho m1).bindV fun y m2 => (mNil rho m2).bind fun xs m3 => .ok (y :: xs) m3).bind fun xs m2 => .ok (val w1 :: xs) m2) _
    have P2 : PostS X.K X.mg Hd al m H E Dn ((b rho m1).thenV rho fun y m2 => .nx ((rho.set i (some (val w1))).set j (some y)) m2) := P
    cases ho2 : b rho m1 with
    | no => rw [ho2] at P2; exact P2
    | ex c m' => rw [ho2] at P2; exact fun al' H' cls dd g s x => P2 al' H' σ cls dd g s (e.go g) x
    | ok w2 m2 =>
      rw [ho2] at P2
      intro al' p H' g s' hp vs rv
      subst hp
      obtain ⟨v, r, rfl, r1, v2, r', rfl, r2, h3⟩ := rv
      have h3' : r' = [] := h3
      subst h3'
      exact ⟨v, v2, rfl, P2 al' H' _ g s' (((e.go g).set r1).set r2)⟩
end
end Den
/-! Den6: loops, what is walked, comprehensions. -/
namespace Den
open PySem PySem.Spec PyProof.Rows L2

/-! ### while -/
def whileN (t : EM Bool) (c : SM) : Nat → SM
  | 0 => fun _ _ => .no
  | n + 1 => fun rho m => (t rho m).thenS rho fun b m1 => if b = true then (match c rho m1 with | .nx r m' => whileN t c n r m' | .ct r m' => whileN t c n r m' | .bk r m' => .nx r m' | o => o) else .nx rho m1
def sWhile (n : Nat) (t : EM Bool) (c : SM) : SM := whileN t c n
section
variable {X : Cx} {E : St → XK} {e ea eb iter tg : Expr} {a b : EM W} {st : Stmt} {rest sa sb body : List Stmt} {c d : SM} {t : EM Bool} {pos : Pos}
theorem ds_while (n : Nat) (hp : PassesOwn (model X.prog X.w) X.A X.env X.xe) (h : DenT X E e t) (hb : DenSs X E body c) : DenS X E (.While e body [] pos) (sWhile n t c) := PS.imp (ps_while hp h hb) fun Dn σ H q => by
  refine ⟨fun k σ H => ∃ Hd al rho m, Stt X.K Hd al none H m ∧ EnvOk X.K X.mg (Own Hd al m none) al H rho σ ∧ PostS X.K X.mg Hd al m H E Dn (whileN t c k rho m), ⟨n, q⟩, fun k σ H hk => ?_⟩
  obtain ⟨Hd, al, rho, m, s, e, P⟩ := hk
  cases k with
  | zero => exact P.elim
  | succ k =>
    refine ⟨Hd, al, rho, m, s, e, (PostS.ofE e P).imp fun b al1 p1 m1 H1 g s1 kk hp => ?_⟩
    subst hp
    have P1 := kk rfl
    cases b with
    | false => exact P1 al1 H1 σ Go.refl s1 (e.go g)
    | true =>
      refine ⟨fun σ' H' => ∃ Hd al rho m, Stt X.K Hd al none H' m ∧ EnvOk X.K X.mg (Own Hd al m none) al H' rho σ' ∧ PostS X.K X.mg Hd al m H' E Dn (whileN t c k rho m), fun σ' H' hn => ⟨k, Nat.lt_succ_self _, hn⟩, ?_⟩
      refine ⟨Hd, al1, rho, m1, s1, e.go g, ?_⟩
      have P2 : PostS X.K X.mg Hd al1 m1 H1 E Dn (match c rho m1 with | .nx r m' => whileN t c k r m' | .ct r m' => whileN t c k r m' | .bk r m' => .nx r m' | o => o) := P1
      cases ho : c rho m1 with
      | nx r m' => rw [ho] at P2; exact fun al' H' σ' g s e => ⟨Hd, al', r, m', s, e, PostS.go g P2⟩
      | ct r m' => rw [ho] at P2; exact fun al' H' σ' g s e => ⟨Hd, al', r, m', s, e, PostS.go g P2⟩
      | bk r m' => rw [ho] at P2; exact P2
      | rt w m' => rw [ho] at P2; exact P2
      | ex x r m' => rw [ho] at P2; exact P2
      | no => rw [ho] at P2; exact P2

/-! ### what is walked -/
/-- H, or H with one new object -/
def Fresh (H H' : Hp) : Prop := H' = H ∨ ∃ T o, H T = none ∧ H' = upd H T o
theorem Fresh.ext {O : Addr → Prop} {H H' : Hp} (f : Fresh H H') : Ext O H O H' := by
  rcases f with rfl | ⟨T, o, hn, rfl⟩
  · exact Ext.refl
  · exact .of (fun b vs h => by rw [upd_ne (ne_of_none h hn)]; exact h) (fun b ob u h => by rw [upd_ne (ne_of_none h hn)]; exact h) (fun b ob h _ => by rw [upd_ne (ne_of_none h hn)]; exact h) fun b z => .inl z
theorem Fresh.go {Hd : Addr → Prop} {al : List Addr} {m : Mem} {H H' : Hp} (f : Fresh H H') : Go Hd al m none H al m none H' := by
  rcases f with rfl | ⟨T, o, hn, rfl⟩
  · exact Go.refl
  · exact go_new hn (.inl rfl)
theorem Fresh.stt {K : PySem.W.Frag} {Hd : Addr → Prop} {al : List Addr} {m : Mem} {H H' : Hp} (f : Fresh H H') (s : Stt K Hd al none H m) : Stt K Hd al none H' m := by
  rcases f with rfl | ⟨T, o, hn, rfl⟩
  · exact s
  · exact stt_new s hn (.inl rfl)
/-- the walk J yields the data items, from any later point -/
structure ItD (X : Cx) (O : Addr → Prop) (H : Hp) (J : It) (items : List D) : Prop where
  go : ∀ (i : Nat) O' H', Ext O H O' H' → i < items.length → J.go i H'
  yld : ∀ (i : Nat) O' H' x v H'', Ext O H O' H' → items[i]? = some x → J.yld i H' v H'' → Fresh H' H'' ∧ RepD X.K O' H'' x v
  stop : ∀ O' H', Ext O H O' H' → J.stop items.length H'
def tI (X : Cx) (E : St → XK) (c : EM (List D)) : TI := fun σ H R => ∃ Hd al rho m, Stt X.K Hd al none H m ∧ EnvOk X.K X.mg (Own Hd al m none) al H rho σ ∧
  Post X.K X.mg Hd al m H (E σ) (c rho m) fun items al' p m' H' => p = none → ∀ J, ItD X (Own Hd al' m' none) H' J items → R J H'
abbrev DenI (X : Cx) (E : St → XK) (tg iter : Expr) (c : EM (List D)) : Prop := PI X tg iter (tI X E c)
theorem PI.imp {wi wi' : TI} (h : PI X tg iter wi) (k : ∀ σ H R, wi' σ H R → wi σ H R) : PI X tg iter wi' := ⟨fun pins s σ H R I q => h.run pins s σ H R I (k σ H R q)⟩
/-! ### for -/
def forL (g : GM) (c : SM) : List D → SM
  | [] => fun rho m => .nx rho m
  | x :: xs => fun rho m => match g (.d x) rho m with
    | some (r1, m1) => (match c r1 m1 with | .nx r m' => forL g c xs r m' | .ct r m' => forL g c xs r m' | .bk r m' => .nx r m' | o => o)
    | none => .no
def sFor (it : EM (List D)) (g : GM) (c : SM) : SM := fun rho m => (it rho m).thenS rho fun items m1 => forL g c items rho m1
theorem ds_for {it : EM (List D)} {g : GM} {sl : List Nat} (hp : PassesOwn (model X.prog X.w) X.A X.env X.xe) (hc : X.calm = true) (hi : DenI X E tg iter it) (hg : DenG X tg g sl) (hb : DenSs X E body c)
    (hs : ∀ x, foldedSetIterable iter X.env x = pure x := by intro _; rfl) : DenS X E (.For tg iter body [] pos) (sFor it g c) := PS.imp (ps_for hp hc hi hg hb hs) fun Dn σ H q => by
  obtain ⟨Hd, al, rho, m, s, e, P⟩ := q
  refine ⟨Hd, al, rho, m, s, e, (PostS.ofE e P).imp fun items al1 p1 m1 H1 g1 s1 k hp J hJ => ?_⟩
  subst hp
  have P1 := k rfl
  refine ⟨fun i k σ' H' => k = items.length - i ∧ i ≤ items.length ∧ ∃ al' rho' m', Go Hd al1 m1 none H1 al' m' none H' ∧ Stt X.K Hd al' none H' m' ∧ EnvOk X.K X.mg (Own Hd al' m' none) al' H' rho' σ' ∧ PostS X.K X.mg Hd al' m' H' E Dn (forL g c (items.drop i) rho' m'),
    ⟨items.length, rfl, Nat.zero_le _, al1, rho, m1, Go.refl, s1, e.go g1, P1⟩, fun i k σ' H' hk => ?_⟩
  obtain ⟨rfl, hi, al2, rho2, m2, g2, s2, e2, P2⟩ := hk
  by_cases hlt : i < items.length
  · refine .inr ⟨hJ.go i _ H' g2.ext hlt, fun σ3 H3 => ∃ al' rho' m', Go Hd al1 m1 none H1 al' m' none H3 ∧ Stt X.K Hd al' none H3 m' ∧ EnvOk X.K X.mg (Own Hd al' m' none) al' H3 rho' σ3 ∧ PostS X.K X.mg Hd al' m' H3 E Dn (forL g c (items.drop (i + 1)) rho' m'),
      fun σ3 H3 hn => ⟨items.length - (i + 1), by omega, rfl, by omega, hn⟩, fun x H3 hy => ?_⟩
    obtain ⟨f3, r3⟩ := hJ.yld i _ H' items[i] x H3 g2.ext (List.getElem?_eq_getElem hlt) hy
    have g3 : Go Hd al2 m2 none H' al2 m2 none H3 := f3.go
    have s3 := f3.stt s2
    have P3 := PostS.go g3 P2
    have ed : items.drop i = items[i] :: items.drop (i + 1) := List.drop_eq_getElem_cons hlt
    rw [ed] at P3
    have P4 : PostS X.K X.mg Hd al2 m2 H3 E Dn (match g (.d items[i]) rho2 m2 with
      | some (r1, m1) => (match c r1 m1 with | .nx r m' => forL g c (items.drop (i + 1)) r m' | .ct r m' => forL g c (items.drop (i + 1)) r m' | .bk r m' => .nx r m' | o => o)
      | none => .no) := P3
    refine ⟨Hd, al2, rho2, m2, .d items[i], s3, e2.go g3, ⟨rfl, r3⟩, ?_⟩
    cases hg : g (.d items[i]) rho2 m2 with
    | none => rw [hg] at P4; exact P4
    | some z =>
      obtain ⟨r4, m4⟩ := z
      rw [hg] at P4
      intro al4 H4 σ4 g4 s4 e4 _
      have P5 := PostS.go g4 P4
      refine ⟨Hd, al4, r4, m4, s4, e4, ?_⟩
      have P6 : PostS X.K X.mg Hd al4 m4 H4 E Dn (match c r4 m4 with | .nx r m' => forL g c (items.drop (i + 1)) r m' | .ct r m' => forL g c (items.drop (i + 1)) r m' | .bk r m' => .nx r m' | o => o) := P5
      cases ho : c r4 m4 with
      | nx r m' => rw [ho] at P6; exact fun al' H5 σ' g5 s5 e5 => ⟨al', r, m', ((g2.trans g3).trans g4).trans g5, s5, e5, PostS.go g5 P6⟩
      | ct r m' => rw [ho] at P6; exact fun al' H5 σ' g5 s5 e5 => ⟨al', r, m', ((g2.trans g3).trans g4).trans g5, s5, e5, PostS.go g5 P6⟩
      | bk r m' => rw [ho] at P6; exact P6
      | rt w m' => rw [ho] at P6; exact P6
      | ex x r m' => rw [ho] at P6; exact P6
      | no => rw [ho] at P6; exact P6
  · have e : i = items.length := by omega
    subst e
    rw [List.drop_length] at P2
    exact .inl ⟨hJ.stop _ H' g2.ext, P2.nx s2 e2⟩

/-! ### lists, tuples, ranges, zip -/
def mItems (a : EM W) : EM (List D) := fun rho m => (a rho m).bindV fun w m1 => match w with | .d x => (match seqOf x with | some ds => .ok ds m1 | none => .no) | .s ds => .ok ds m1 | _ => .no
theorem PI.or {wi wi' : TI} (h : PI X tg iter wi) (h' : PI X tg iter wi') : PI X tg iter (fun σ H R => wi σ H R ∨ wi' σ H R) := ⟨fun pins s σ H R I q => q.elim (h.run pins s σ H R I) (h'.run pins s σ H R I)⟩
section
variable {O : Addr → Prop} {H : Hp}
/-- the two ways that a list stands fast -/
theorem itD_list {a0 : Addr} {ds : List D} {vs : List V} (hq : ∀ {O' H'}, Ext O H O' H' → SqL X.K H' a0 vs) (r : RepDs X.K O H ds vs) : ItD X O H (Itl X.K a0) ds where
  go := fun i O' H' g hi => by
    have hl := r.len
    exact ⟨vs, vs[i]'(by omega), hq g, List.getElem?_eq_getElem _⟩
  yld := fun i O' H' x v H'' g hx hy => by
    obtain ⟨e, hy⟩ := hy
    subst e
    obtain ⟨v', h1, h2⟩ := (r.ext g).get hx
    have := hy vs (hq g)
    rw [h1] at this; cases this
    exact ⟨.inl rfl, h2⟩
  stop := fun O' H' g => ⟨vs, hq g, by rw [r.len]; exact Nat.le_refl _⟩
theorem itD_tup {a0 : Addr} {ds : List D} {vs : List V} (hq : ∀ {O' H'}, Ext O H O' H' → SqT X.K H' a0 vs) (r : RepDs X.K O H ds vs) : ItD X O H (Itt X.K a0) ds where
  go := fun i O' H' g hi => by
    have hl := r.len
    exact ⟨vs, vs[i]'(by omega), hq g, List.getElem?_eq_getElem _⟩
  yld := fun i O' H' x v H'' g hx hy => by
    obtain ⟨e, hy⟩ := hy
    subst e
    obtain ⟨v', h1, h2⟩ := (r.ext g).get hx
    have := hy vs (hq g)
    rw [h1] at this; cases this
    exact ⟨.inl rfl, h2⟩
  stop := fun O' H' g => ⟨vs, hq g, by rw [r.len]; exact Nat.le_refl _⟩
end
/-- a list or a tuple -/
theorem di_seq (h : Den X E iter a) : DenI X E tg iter (mItems a) := PI.imp (PI.or (pi_list h) (pi_tup h)) fun σ H R q => by
  obtain ⟨Hd, al, rho, m, s, e, P⟩ := q
  unfold mItems at P
  cases ho : a rho m with
  | no => rw [ho] at P; exact P.elim
  | ex c m' => rw [ho] at P; exact .inl ⟨Hd, al, rho, m, s, e, by rw [ho]; exact P⟩
  | ok w m' =>
    rw [ho] at P
    have P0 : Post X.K X.mg Hd al m H (E σ) (match val w with | .d x => (match seqOf x with | some ds => .ok ds m' | none => .no) | .s ds => .ok ds m' | _ => .no) fun items al' p m' H' => p = none → ∀ J, ItD X (Own Hd al' m' none) H' J items → R J H' := P
    cases hw : val w with
    | d x =>
      rw [hw] at P0
      cases x with
      | tuple ds =>
        refine .inr ⟨Hd, al, rho, m, s, e, by
          rw [ho]
          intro al1 p1 H1 g s1 v rv
          have rv' := val_ok s1 rv
          rw [hw] at rv'
          obtain ⟨a0, vs, rfl, h1, h2⟩ := rv'.2
          exact ⟨a0, rfl, ⟨vs, sqP h1⟩, P0 al1 none H1 (g.trans Go.settle) s1.settle rfl _ (itD_tup (fun g => sqT_ext g (sqP h1)) h2)⟩⟩
      | list ds =>
        refine .inl ⟨Hd, al, rho, m, s, e, by
          rw [ho]
          intro al1 p1 H1 g s1 v rv
          have rv' := val_ok s1 rv
          rw [hw] at rv'
          obtain ⟨a0, vs, rfl, h1, h2⟩ := rv'.2
          exact ⟨a0, rfl, ⟨vs, .inl (.inl h1.1)⟩, P0 al1 none H1 (g.trans Go.settle) s1.settle rfl _ (itD_list (fun g => .inl (.inl (sqF_ext g h1).1)) h2)⟩⟩
      | _ => exact P0.elim
    | s ds =>
      rw [hw] at P0
      refine .inl ⟨Hd, al, rho, m, s, e, by
        rw [ho]
        intro al1 p1 H1 g s1 v rv
        have rv' := val_ok s1 rv
        rw [hw] at rv'
        obtain ⟨a0, vs, rfl, h1, h2⟩ := rv'.2
        exact ⟨a0, rfl, ⟨vs, sqS_L h1⟩, P0 al1 none H1 (g.trans Go.settle) s1.settle rfl _ (itD_list (fun g => sqS_L (sqS_ext g h1)) h2)⟩⟩
    | r n => rw [hw] at P0; exact P0.elim
    | n x => rw [hw] at P0; exact P0.elim
    | f x => rw [hw] at P0; exact P0.elim
    | e x => rw [hw] at P0; exact P0.elim
def intOf : W → Option Int
  | .d (.int i) => some i
  | _ => none
theorem intOf_ok {K : PySem.W.Frag} {mg : Str → Option Value} {O : Addr → Prop} {al : List Addr} {H : Hp} {w : W} {v : V} {i : Int} (h : RepW K mg O none al H w v) (e : intOf w = some i) : v = .int i := by
  cases w with
  | d x =>
    cases x <;> first | (simp only [intOf] at e; cases e; done) | skip
    rename_i j
    have e1 : j = i := Option.some.inj e
    have e2 : v = .int j := h.2
    rw [e2, e1]
  | _ => cases e
def rangeD (lo hi : Int) : List D := (List.range (hi - lo).toNat).map fun (k : Nat) => .int (lo + (k : Int))
def midI (i : Int) : Bool := decide (-(2 ^ 62) ≤ i ∧ i < 2 ^ 62)
theorem itD_range {O : Addr → Prop} {H : Hp} (lo : Int) (n : Nat) : ItD X O H (Itr lo n) ((List.range n).map fun (k : Nat) => .int (lo + (k : Int))) where
  go := fun i O' H' g hi => by
    rw [List.length_map, List.length_range] at hi
    exact hi
  yld := fun i O' H' x v H'' g hx hy => by
    obtain ⟨e, hy⟩ := hy
    subst e hy
    rw [List.getElem?_map] at hx
    cases hr : (List.range n)[i]? with
    | none => rw [hr] at hx; cases hx
    | some k =>
      rw [hr] at hx
      cases hx
      obtain ⟨hlt, e⟩ := List.getElem?_eq_some_iff.mp hr
      rw [List.getElem_range] at e
      subst e
      exact ⟨.inl rfl, rfl⟩
  stop := fun O' H' g => by
    show n ≤ _
    rw [List.length_map, List.length_range]
    exact Nat.le_refl _
def mRange1 (a : EM W) : EM (List D) := fun rho m => (mCons a mNil rho m).bind fun ws m1 => match ws with | [x] => (match intOf x with | some j => if midI j then .ok (rangeD 0 j) m1 else .no | none => .no) | _ => .no
def mRange2 (a b : EM W) : EM (List D) := fun rho m => (mCons a (mCons b mNil) rho m).bind fun ws m1 => match ws with | [x, y] => (match intOf x, intOf y with | some i, some j => if midI i && midI j then .ok (rangeD i j) m1 else .no | _, _ => .no) | _ => .no
theorem di_range1 {p : Pos} (hg : Gl X "range") (hm : X.mg "range" = none) (ha : DenA X E [ea] (mCons a mNil)) (hs : starEach [ea] X.env = [(false, eval ea X.env)] := by rfl) : DenI X E tg (.Call (.Name "range" p) [ea] [] pos) (mRange1 a) :=
  PI.imp (pi_range1 hg hm ha hs) fun σ H R q => by
    obtain ⟨Hd, al, rho, m, s, e, P⟩ := q
    refine ⟨Hd, al, rho, m, s, e, (Post.bind P).imp fun ws al1 p1 m1 H1 g s1 k hp vs rv => ?_⟩
    subst hp
    have P1 := k rfl
    split at P1
    · rename_i x
      obtain ⟨v, r, rfl, r1, r2⟩ := rv
      have r2' : r = [] := r2
      subst r2'
      split at P1
      · rename_i j hj
        split at P1
        · rename_i hb
          have hb' := of_decide_eq_true hb
          have e1 : v = .int j := intOf_ok r1 hj
          subst e1
          refine ⟨j, rfl, hb'.1, hb'.2, Post.ok s1 P1 rfl _ ?_⟩
          have z := itD_range (X := X) (O := Own Hd al1 m1 none) (H := H1) 0 j.toNat
          unfold rangeD
          rw [Int.sub_zero]
          exact z
        · exact P1.elim
      · exact P1.elim
    · exact P1.elim
theorem di_range2 {p : Pos} (hg : Gl X "range") (hm : X.mg "range" = none) (ha : DenA X E [ea, eb] (mCons a (mCons b mNil))) (hs : starEach [ea, eb] X.env = [(false, eval ea X.env), (false, eval eb X.env)] := by rfl) (hs2 : starEach [eb] X.env = [(false, eval eb X.env)] := by rfl) :
    DenI X E tg (.Call (.Name "range" p) [ea, eb] [] pos) (mRange2 a b) :=
  PI.imp (pi_range2 hg hm ha hs hs2) fun σ H R q => by
    obtain ⟨Hd, al, rho, m, s, e, P⟩ := q
    refine ⟨Hd, al, rho, m, s, e, (Post.bind P).imp fun ws al1 p1 m1 H1 g s1 k hp vs rv => ?_⟩
    subst hp
    have P1 := k rfl
    split at P1
    · rename_i x y
      obtain ⟨v, r, rfl, r1, v2, r', rfl, r2, r3⟩ := rv
      have r3' : r' = [] := r3
      subst r3'
      split at P1
      · rename_i i j hi hj
        split at P1
        · rename_i hb
          rw [Bool.and_eq_true] at hb
          have hb1 := of_decide_eq_true hb.1
          have hb2 := of_decide_eq_true hb.2
          have e1 : v = .int i := intOf_ok r1 hi
          have e2 : v2 = .int j := intOf_ok r2 hj
          subst e1 e2
          exact ⟨i, j, rfl, ⟨hb1.1, hb1.2, hb2.1, hb2.2⟩, Post.ok s1 P1 rfl _ (itD_range _ _)⟩
        · exact P1.elim
      · exact P1.elim
    · exact P1.elim

/-! ### zip -/
theorem itD_zip {O : Addr → Prop} {H : Hp} {a0 b0 : Addr} {xs ys : List D} {vs us : List V} (hq : ∀ {O' H'}, Ext O H O' H' → SqL X.K H' a0 vs) (hq2 : ∀ {O' H'}, Ext O H O' H' → SqL X.K H' b0 us)
    (r : RepDs X.K O H xs vs) (r2 : RepDs X.K O H ys us) : ItD X O H (Itz X.K a0 b0) ((xs.zip ys).map fun p => .tuple [p.1, p.2]) where
  go := fun i O' H' g hi => by
    have hl := r.len
    have hl2 := r2.len
    rw [List.length_map, List.length_zip] at hi
    exact ⟨vs, us, vs[i]'(by omega), us[i]'(by omega), hq g, hq2 g, List.getElem?_eq_getElem _, List.getElem?_eq_getElem _⟩
  yld := fun i O' H' x v H'' g hx hy => by
    obtain ⟨T, y1, y2, rfl, hn, rfl, h1, h2⟩ := hy
    rw [List.getElem?_map] at hx
    cases hz : (xs.zip ys)[i]? with
    | none => rw [hz] at hx; cases hx
    | some pr =>
      rw [hz] at hx
      cases hx
      obtain ⟨z1, z2⟩ := List.getElem?_zip_eq_some.mp hz
      obtain ⟨v1, w1, q1⟩ := (r.ext g).get z1
      obtain ⟨v2, w2, q2⟩ := (r2.ext g).get z2
      have e1 := h1 vs (hq g)
      have e2 := h2 us (hq2 g)
      rw [w1] at e1; cases e1
      rw [w2] at e2; cases e2
      have f : Fresh H' (upd H' T (.tup [y1, y2])) := .inr ⟨T, _, hn, rfl⟩
      exact ⟨f, T, [y1, y2], rfl, .inl upd_same, y1, [y2], rfl, q1.ext f.ext, y2, [], rfl, q2.ext f.ext, rfl⟩
  stop := fun O' H' g => by
    refine ⟨vs, us, hq g, hq2 g, ?_⟩
    rw [List.length_map, List.length_zip, r.len, r2.len]
    omega
theorem itD_zipT {O : Addr → Prop} {H : Hp} {a0 b0 : Addr} {xs ys : List D} {vs us : List V} (hq : ∀ {O' H'}, Ext O H O' H' → SqT X.K H' a0 vs) (hq2 : ∀ {O' H'}, Ext O H O' H' → SqT X.K H' b0 us)
    (r : RepDs X.K O H xs vs) (r2 : RepDs X.K O H ys us) : ItD X O H (RZ.ItzT X.K a0 b0) ((xs.zip ys).map fun p => .tuple [p.1, p.2]) where
  go := fun i O' H' g hi => by
    have hl := r.len
    have hl2 := r2.len
    rw [List.length_map, List.length_zip] at hi
    exact ⟨vs, us, vs[i]'(by omega), us[i]'(by omega), hq g, hq2 g, List.getElem?_eq_getElem _, List.getElem?_eq_getElem _⟩
  yld := fun i O' H' x v H'' g hx hy => by
    obtain ⟨T, y1, y2, rfl, hn, rfl, h1, h2⟩ := hy
    rw [List.getElem?_map] at hx
    cases hz : (xs.zip ys)[i]? with
    | none => rw [hz] at hx; cases hx
    | some pr =>
      rw [hz] at hx
      cases hx
      obtain ⟨z1, z2⟩ := List.getElem?_zip_eq_some.mp hz
      obtain ⟨v1, w1, q1⟩ := (r.ext g).get z1
      obtain ⟨v2, w2, q2⟩ := (r2.ext g).get z2
      have e1 := h1 vs (hq g)
      have e2 := h2 us (hq2 g)
      rw [w1] at e1; cases e1
      rw [w2] at e2; cases e2
      have f : Fresh H' (upd H' T (.tup [y1, y2])) := .inr ⟨T, _, hn, rfl⟩
      exact ⟨f, T, [y1, y2], rfl, .inl upd_same, y1, [y2], rfl, q1.ext f.ext, y2, [], rfl, q2.ext f.ext, rfl⟩
  stop := fun O' H' g => by
    refine ⟨vs, us, hq g, hq2 g, ?_⟩
    rw [List.length_map, List.length_zip, r.len, r2.len]
    omega
/-- two lists or two tuples -/
def zipD : D → D → Option (List D)
  | .list xs, .list ys => some ((xs.zip ys).map fun p => .tuple [p.1, p.2])
  | .tuple xs, .tuple ys => some ((xs.zip ys).map fun p => .tuple [p.1, p.2])
  | _, _ => none
def mZip (a b : EM W) : EM (List D) := fun rho m => (mCons a (mCons b mNil) rho m).bind fun ws m1 => match ws with | [.d x, .d y] => (match zipD x y with | some ds => .ok ds m1 | none => .no) | _ => .no
theorem di_zip {p pt : Pos} {elts : List Expr} {kk : Nat} (hg : Gl X "zip") (hm : X.mg "zip" = none) (ha : DenA X E [ea, eb] (mCons a (mCons b mNil)))
    (hs : starEach [ea, eb] X.env = (false, eval ea X.env) :: starEach [eb] X.env := by rfl) (hpl : (backTo pos (starEach [eb] X.env)).any (·.1) = false := by rfl) : DenI X E (.Tuple elts kk pt) (.Call (.Name "zip" p) [ea, eb] [] pos) (mZip a b) :=
  PI.imp (RZ.pi_zipA hg hm ha hs hpl) fun σ H R q => by
    obtain ⟨Hd, al, rho, m, s, e, P⟩ := q
    refine ⟨Hd, al, rho, m, s, e, (Post.bind P).imp fun ws al1 p1 m1 H1 g s1 k hp vs rv => ?_⟩
    subst hp
    have P1 := k rfl
    split at P1
    · rename_i x y
      obtain ⟨v, r, rfl, r1, v2, r', rfl, r2, r3⟩ := rv
      have r3' : r' = [] := r3
      subst r3'
      split at P1
      · rename_i ds hz
        cases x with
        | list xs =>
          cases y <;> first | (simp only [zipD] at hz; cases hz; done) | skip
          cases hz
          obtain ⟨a0, vs, rfl, h1, h2⟩ := r1.2
          obtain ⟨b0, us, rfl, h3, h4⟩ := r2.2
          exact ⟨a0, b0, vs, us, rfl, .inl ⟨.inl (.inl h1.1), .inl (.inl h3.1), Post.ok s1 P1 rfl _ (itD_zip (fun g => .inl (.inl (sqF_ext g h1).1)) (fun g => .inl (.inl (sqF_ext g h3).1)) h2 h4)⟩⟩
        | tuple xs =>
          cases y <;> first | (simp only [zipD] at hz; cases hz; done) | skip
          cases hz
          obtain ⟨a0, vs, rfl, h1, h2⟩ := r1.2
          obtain ⟨b0, us, rfl, h3, h4⟩ := r2.2
          exact ⟨a0, b0, vs, us, rfl, .inr ⟨sqP h1, sqP h3, Post.ok s1 P1 rfl _ (itD_zipT (fun g => sqT_ext g (sqP h1)) (fun g => sqT_ext g (sqP h3)) h2 h4)⟩⟩
        | _ => simp only [zipD] at hz; cases hz
      · exact P1.elim
    · exact P1.elim

/-! ### comprehensions -/
def wipeE (rho : Env) : List Nat → Env
  | [] => rho
  | v :: vs => (wipeE rho vs).set v none
theorem EnvOk.wipe {K : PySem.W.Frag} {mg : Str → Option Value} {O : Addr → Prop} {al : List Addr} {H : Hp} {rho : Env} {σ : St} (e : EnvOk K mg O al H rho σ) : ∀ vs : List Nat, EnvOk K mg O al H (wipeE rho vs) (L2.wipe σ vs)
  | [] => e
  | v :: vs => (EnvOk.wipe e vs).drop
theorem wipe_get (σ : St) (j : Nat) : ∀ vs : List Nat, (L2.wipe σ vs)[j]? = if j ∈ vs ∧ j < σ.length then some none else σ[j]?
  | [] => by rw [if_neg (by simp)]; rfl
  | v :: vs => by
    show ((L2.wipe σ vs).set v none)[j]? = _
    by_cases e : v = j
    · subst e
      by_cases hl : v < σ.length
      · rw [List.getElem?_set_self (by rw [wipe_length]; exact hl), if_pos ⟨List.mem_cons_self, hl⟩]
      · rw [if_neg (fun z => hl z.2), List.getElem?_eq_none (by rw [List.length_set, wipe_length]; omega), List.getElem?_eq_none (by omega)]
    · rw [List.getElem?_set_ne e, wipe_get σ j vs]
      by_cases q : j ∈ vs ∧ j < σ.length
      · rw [if_pos q, if_pos ⟨List.mem_cons_of_mem _ q.1, q.2⟩]
      · rw [if_neg q, if_neg fun z => q ⟨(List.mem_cons.mp z.1).resolve_left fun y => e y.symm, z.2⟩]
theorem wipe_off {sl vs : List Nat} {σ σ2 : St} (h : Off sl (L2.wipe σ vs) σ2) (hs : ∀ j ∈ sl, j ∈ vs) : L2.wipe σ2 vs = L2.wipe σ vs := by
  refine List.ext_getElem? fun j => ?_
  rw [wipe_get, wipe_get]
  have hl : σ2.length = σ.length := by rw [h.1, wipe_length]
  rw [hl]
  by_cases q : j ∈ vs ∧ j < σ.length
  · rw [if_pos q, if_pos q]
  · rw [if_neg q, if_neg q]
    by_cases hj : j ∈ sl
    · have : ¬ j < σ.length := fun z => q ⟨hs j hj, z⟩
      rw [List.getElem?_eq_none (by omega), List.getElem?_eq_none (by omega)]
    · rw [h.2 j hj, wipe_get, if_neg q]
/-- the items one after another; acc: what is made so far -/
def compL (vs : List Nat) (g : GM) (t : EM Bool) (a : EM W) : List D → List D → EM (List D)
  | [], acc => fun _ m => .ok acc m
  | x :: xs, acc => fun rho m => match g (.d x) (wipeE rho vs) m with
    | some (r1, m1) => (t r1 m1).bind fun b m2 => if b = true then
        (a r1 m2).bindV fun w m3 => match frz m3 w with | some (y, m4) => compL vs g t a xs (acc ++ [y]) rho m4 | none => .no
      else compL vs g t a xs acc rho m2
    | none => .no
def mComp (it : EM (List D)) (vs : List Nat) (g : GM) (t : EM Bool) (a : EM W) : EM W := fun rho m => (it rho m).bind fun items m1 => if small items.length then (compL vs g t a items [] rho m1).bind fun acc m2 => .ok (.n (.list acc)) m2 else .no
def tYesT : EM Bool := fun _ m => .ok true m
abbrev E0' : St → XK := fun _ _ _ _ => False
abbrev DenTs (X : Cx) (ifs : List Expr) (t : EM Bool) : Prop := PTs X ifs (tT X.K X.mg E0' t)
theorem PTs.imp {ifs : List Expr} {t t' : TT} (h : PTs X ifs t) (k : ∀ σ H Q, t' σ H Q → t σ H Q) : PTs X ifs t' := ⟨fun pins s σ H Q I q => h.run pins s σ H Q I (k σ H Q q)⟩
theorem dts_nil : DenTs X [] tYesT := PTs.imp pts_nil fun σ H Q q => by
  obtain ⟨Hd, al, rho, m, s, e, P⟩ := q
  exact Post.ok s P rfl
theorem dts_one {c : Expr} {t : EM Bool} (h : DenT X E0' c t) : DenTs X [c] t := pts_one h
/-- the outcome is none of ours where an exception would leave -/
def calmR {β : Type} : Rs β → Rs β
  | .ex _ _ => .no
  | r => r
/-- one more hidden object -/
def more (Hd : Addr → Prop) (D0 : Addr) : Addr → Prop := fun a => Hd a ∨ a = D0
theorem own_more {Hd : Addr → Prop} {D0 : Addr} {al : List Addr} {m : Mem} {p : Option Addr} {a : Addr} : Own (more Hd D0) al m p a ↔ Own Hd al m p a ∨ a = D0 := by
  constructor
  · rintro (h | (h | h) | h)
    · exact .inl (.inl h)
    · exact .inl (.inr (.inl h))
    · exact .inr h
    · exact .inl (.inr (.inr h))
  · rintro ((h | h | h) | h)
    · exact .inl h
    · exact .inr (.inl (.inl h))
    · exact .inr (.inr h)
    · exact .inr (.inl (.inr h))
theorem stt_more {K : PySem.W.Frag} {Hd : Addr → Prop} {D0 : Addr} {o : HO} {al : List Addr} {m : Mem} {H : Hp} (s : Stt K Hd al none H m) (hn : H D0 = none) : Stt K (more Hd D0) al none (upd H D0 o) m ∧ Ext (Own Hd al m none) H (Own (more Hd D0) al m none) (upd H D0 o) := by
  have ex : Ext (Own Hd al m none) H (Own (more Hd D0) al m none) (upd H D0 o) := ⟨(go_new (Hd := Hd) (al := al) (m := m) (o := o) hn (.inl rfl)).ext.tup, (go_new (Hd := Hd) (al := al) (m := m) (o := o) hn (.inl rfl)).ext.frz, (go_new (Hd := Hd) (al := al) (m := m) (o := o) hn (.inl rfl)).ext.oth, fun b z => by
    rcases own_more.mp z with z | z
    · exact .inl z
    · subst z; exact .inr hn⟩
  refine ⟨⟨s.len, fun r b x h1 h2 => ?_, s.inj, fun _ _ h => (nomatch h), fun b hb => ?_⟩, ex⟩
  · have h := s.ob r b x h1 h2
    obtain ⟨u, hu, _⟩ := h.some
    exact h.stay ex (upd_ne (ne_of_none hu hn))
  · rcases hb with hb | hb
    · obtain ⟨⟨u, hu⟩, h2, h3⟩ := s.hin b hb
      exact ⟨⟨u, by rw [upd_ne (ne_of_none hu hn)]; exact hu⟩, h2, h3⟩
    · subst hb
      refine ⟨⟨o, upd_same⟩, (fun z => nomatch z), fun r ⟨x, hx⟩ h1 => ?_⟩
      obtain ⟨u, hu, _⟩ := (s.ob r _ x h1 hx).some
      rw [hn] at hu; cases hu
/-- the hidden list grows -/
theorem stt_grow {K : PySem.W.Frag} {Hd : Addr → Prop} {D0 : Addr} {o o' : HO} {al : List Addr} {m : Mem} {H : Hp} (s : Stt K (more Hd D0) al none H m) (hD : H D0 = some o) (ht : Mut (some o)) : Stt K (more Hd D0) al none (upd H D0 o') m ∧
    ∀ ds vs, RepDs K (Own (more Hd D0) al m none) H ds vs → RepDs K (Own (more Hd D0) al m none) (upd H D0 o') ds vs := by
  have nt : ∀ b vs, H b = some (.tup vs) → b ≠ D0 := fun b vs h z => by subst z; rw [hD] at h; cases h; exact ht
  have nf : ∀ b ob u, H b = some (.frz ob u) → b ≠ D0 := fun b ob u h z => by subst z; rw [hD] at h; cases h; exact ht
  have ex : Ext (Own (more Hd D0) al m none) H (Own (more Hd D0) al m none) (upd H D0 o') := .of (fun b vs h => by rw [upd_ne (nt b vs h)]; exact h) (fun b ob u h => by rw [upd_ne (nf b ob u h)]; exact h)
    (fun b ob h n => by rw [upd_ne fun z => n (own_more.mpr (.inr z))]; exact h) fun _ z => .inl z
  refine ⟨⟨s.len, fun r b x h1 h2 => ?_, s.inj, s.pnd, fun b hb => ?_⟩, fun ds vs h => h.ext ex⟩
  · exact (s.ob r b x h1 h2).stay ex (upd_ne fun z => (s.hin D0 (.inr rfl)).2.2 r ⟨x, h2⟩ (z ▸ h1))
  · obtain ⟨⟨u, hu⟩, h2, h3⟩ := s.hin b hb
    refine ⟨?_, h2, h3⟩
    by_cases e : b = D0
    · subst e; exact ⟨o', upd_same⟩
    · exact ⟨u, by rw [upd_ne e]; exact hu⟩
theorem RepW.ext {K : PySem.W.Frag} {mg : Str → Option Value} {O O' : Addr → Prop} {al al1 : List Addr} {H H1 : Hp} {w : W} {v : V} (ex : Ext O H O' H1) (pre : ∀ (r : Nat) a, al[r]? = some a → al1[r]? = some a) (h : RepW K mg O none al H w v) : RepW K mg O' none al1 H1 w v := by
  cases w with
  | d x => exact ⟨rfl, h.2.ext ex⟩
  | r n => obtain ⟨a, h1, h2⟩ := h.2; exact ⟨rfl, a, pre _ _ h1, h2⟩
  | f x => exact ⟨rfl, h.2⟩
  | s xs => obtain ⟨a, vs, h1, h2, h3⟩ := h.2; exact ⟨rfl, a, vs, h1, sqS_ext ex h2, h3.ext ex⟩
  | e a => exact ⟨rfl, h.2⟩
  | n x => obtain ⟨a, h1, h2⟩ := h; cases h1
theorem EnvOk.ext {K : PySem.W.Frag} {mg : Str → Option Value} {O O' : Addr → Prop} {al al1 : List Addr} {H H1 : Hp} {rho : Env} {σ : St} (ex : Ext O H O' H1) (pre : ∀ (r : Nat) a, al[r]? = some a → al1[r]? = some a) (e : EnvOk K mg O al H rho σ) : EnvOk K mg O' al1 H1 rho σ :=
  ⟨e.1, fun i w h => by obtain ⟨v, h1, h2⟩ := e.2 i w h; exact ⟨v, h1, h2.ext ex pre⟩⟩
theorem own_hid {Hd : Addr → Prop} {D0 : Addr} {al : List Addr} {m : Mem} {a : Addr} : Own (more Hd D0) al m none a ↔ Own Hd al m (some D0) a := by
  constructor
  · rintro (h | (h | h) | h)
    · exact .inl h
    · exact .inr (.inl h)
    · subst h; exact .inr (.inr rfl)
    · cases h
  · rintro (h | h | h)
    · exact .inl h
    · exact .inr (.inl (.inl h))
    · cases h; exact .inr (.inl (.inr rfl))
theorem stt_show {K : PySem.W.Frag} {Hd : Addr → Prop} {D0 : Addr} {al : List Addr} {m : Mem} {H : Hp} (s : Stt K (more Hd D0) al none H m) (nh : ¬ Hd D0) : Stt K Hd al (some D0) H m where
  len := s.len
  ob := fun r a o h1 h2 => (s.ob r a o h1 h2).stay (Ext.less fun b h => own_hid.mpr h) rfl
  inj := s.inj
  pnd := fun a r h1 h2 => by cases h1; exact (s.hin D0 (.inr rfl)).2.2 r h2
  hin := fun a h => ⟨(s.hin a (.inl h)).1, fun z => by cases z; exact nh h, (s.hin a (.inl h)).2.2⟩
theorem tM_comp {it : EM (List D)} {g : GM} {sl vs : List Nat} {t : EM Bool} {a : EM W} (hs : ∀ j ∈ sl, j ∈ vs) {σ : St} {H : Hp} {Q : VK} (q : tM X.K X.mg E (mComp it vs g (fun r m => calmR (t r m)) (fun r m => calmR (a r m))) σ H Q) :
    tLc (tI X E it) (tG X.K X.mg g sl) (tT X.K X.mg E0' t) (tM X.K X.mg E0' a) vs σ H Q := by
  obtain ⟨Hd, al, rho, m, s, e, P⟩ := q
  refine ⟨Hd, al, rho, m, s, e, (Post.bind P).imp fun items al1 p1 m1 H1 g1 s1 k hp J hJ D0 hD => ?_⟩
  subst hp
  have P0 := k rfl
  by_cases hsm : small items.length = true
  case neg => rw [if_neg hsm] at P0; exact P0.elim
  rw [if_pos hsm] at P0
  have e1 := e.go g1
  have nh : ¬ Hd D0 := fun z => by obtain ⟨⟨o, ho⟩, _⟩ := s1.hin D0 z; rw [hD] at ho; cases ho
  obtain ⟨sD, exD⟩ := stt_more (o := .lst []) s1 hD
  refine ⟨fun i k H' => k = items.length - i ∧ i ≤ items.length ∧ ∃ al' m' acc vsA, Ext (Own Hd al1 m1 none) H1 (Own (more Hd D0) al' m' none) H' ∧ (∀ (r : Nat) a, al1[r]? = some a → al'[r]? = some a) ∧ (∀ a o, Hd a → H1 a = some o → H' a = some o) ∧
      Stt X.K (more Hd D0) al' none H' m' ∧ H' D0 = some (.lst vsA) ∧ RepDs X.K (Own (more Hd D0) al' m' none) H' acc vsA ∧ acc.length ≤ i ∧
      Post X.K X.mg Hd al1 m1 H1 (E σ) ((compL vs g (fun r m => calmR (t r m)) (fun r m => calmR (a r m)) (items.drop i) acc rho m').bind fun acc m2 => Rs.ok (W.n (PyData.list acc)) m2) fun w al' p m' H' => ∀ v, RepW X.K X.mg (Own Hd al' m' p) p al' H' w v → Q v H',
    ⟨items.length, rfl, Nat.zero_le _, al1, m1, [], [], exD, fun _ _ h => h, fun b o hb h => by rw [upd_ne fun z => nh (by rw [← z]; exact hb)]; exact h, sD, upd_same, rfl, Nat.le_refl _, P0⟩, fun i k H' hk => ?_⟩
  obtain ⟨rfl, hi, al2, m2, acc, vsA, ex2, pre2, hid2, s2, hA, rA, hacc, P2⟩ := hk
  by_cases hlt : i < items.length
  · refine .inr ⟨hJ.go i _ H' ex2 hlt, fun H3 => ∃ al' m' acc vsA, Ext (Own Hd al1 m1 none) H1 (Own (more Hd D0) al' m' none) H3 ∧ (∀ (r : Nat) a, al1[r]? = some a → al'[r]? = some a) ∧ (∀ a o, Hd a → H1 a = some o → H3 a = some o) ∧
      Stt X.K (more Hd D0) al' none H3 m' ∧ H3 D0 = some (.lst vsA) ∧ RepDs X.K (Own (more Hd D0) al' m' none) H3 acc vsA ∧ acc.length ≤ i + 1 ∧
      Post X.K X.mg Hd al1 m1 H1 (E σ) ((compL vs g (fun r m => calmR (t r m)) (fun r m => calmR (a r m)) (items.drop (i + 1)) acc rho m').bind fun acc m2 => Rs.ok (W.n (PyData.list acc)) m2) fun w al' p m' H' => ∀ v, RepW X.K X.mg (Own Hd al' m' p) p al' H' w v → Q v H',
      fun H3 hn => ⟨items.length - (i + 1), by omega, rfl, by omega, hn⟩, fun x H3 hy => ?_⟩
    obtain ⟨f3, r3⟩ := hJ.yld i _ H' items[i] x H3 ex2 (List.getElem?_eq_getElem hlt) hy
    have g3 : Go (more Hd D0) al2 m2 none H' al2 m2 none H3 := f3.go
    have s3 := f3.stt s2
    rw [List.drop_eq_getElem_cons hlt] at P2
    have P4 : Post X.K X.mg Hd al1 m1 H1 (E σ) ((match g (.d items[i]) (wipeE rho vs) m2 with
      | some (r1, m1) => (calmR (t r1 m1)).bind fun b m2 => if b = true then
          (calmR (a r1 m2)).bindV fun w m3 => match frz m3 w with | some (y, m4) => compL vs g (fun r m => calmR (t r m)) (fun r m => calmR (a r m)) (items.drop (i + 1)) (acc ++ [y]) rho m4 | none => .no
        else compL vs g (fun r m => calmR (t r m)) (fun r m => calmR (a r m)) (items.drop (i + 1)) acc rho m2
      | none => .no).bind fun acc m2 => Rs.ok (W.n (PyData.list acc)) m2) fun w al' p m' H' => ∀ v, RepW X.K X.mg (Own Hd al' m' p) p al' H' w v → Q v H' := P2
    refine ⟨more Hd D0, al2, wipeE rho vs, m2, .d items[i], s3, ((e1.ext ex2 pre2).go g3).wipe vs, ⟨rfl, r3⟩, ?_⟩
    cases hg : g (.d items[i]) (wipeE rho vs) m2 with
    | none => rw [hg] at P4; exact P4
    | some z =>
      obtain ⟨r4, m4⟩ := z
      rw [hg] at P4
      dsimp only at P4
      intro al4 H4 σ4 g4 s4 e4 off
      refine ⟨wipe_off off hs, more Hd D0, al4, r4, m4, s4, e4, ?_⟩
      cases ht : t r4 m4 with
      | no => rw [ht] at P4; exact P4.elim
      | ex c m' => rw [ht] at P4; exact P4.elim
      | ok b m5 =>
        rw [ht] at P4
        intro al5 p5 H5 g5 s5 hp5
        subst hp5
        have g35 := (g3.trans g4).trans g5
        have stay : ∀ {al' m' p' H''}, Go (more Hd D0) al2 m2 none H' al' m' p' H'' → H'' D0 = some (.lst vsA) ∧ Ext (Own Hd al1 m1 none) H1 (Own (more Hd D0) al' m' p') H'' ∧ (∀ (r : Nat) a, al1[r]? = some a → al'[r]? = some a) ∧ (∀ a o, Hd a → H1 a = some o → H'' a = some o) :=
          fun g => ⟨g.hid D0 _ (.inr rfl) hA, ex2.trans g.ext, fun r a h => g.pre r a (pre2 r a h), fun a o ha h => g.hid a o (.inl ha) (hid2 a o ha h)⟩
        cases b with
        | false =>
          obtain ⟨z1, z2, z3, z4⟩ := stay g35
          exact ⟨al5, m5, acc, vsA, z2, z3, z4, s5, z1, rA.ext g35.ext, by omega, P4⟩
        | true =>
          refine ⟨more Hd D0, al5, r4, m5, s5, e4.go g5, ?_⟩
          have P7 : Post X.K X.mg Hd al1 m1 H1 (E σ) (((calmR (a r4 m5)).bindV fun w m3 => match frz m3 w with | some (y, m4) => compL vs g (fun r m => calmR (t r m)) (fun r m => calmR (a r m)) (items.drop (i + 1)) (acc ++ [y]) rho m4 | none => .no).bind fun acc m2 => Rs.ok (W.n (PyData.list acc)) m2) fun w al' p m' H' => ∀ v, RepW X.K X.mg (Own Hd al' m' p) p al' H' w v → Q v H' := P4
          cases ha : a r4 m5 with
          | no => rw [ha] at P7; exact P7.elim
          | ex c m' => rw [ha] at P7; exact P7.elim
          | ok w m6 =>
            rw [ha] at P7
            intro al6 p6 H6 g6 s6 v6 rv6
            have s6' := s6.settle
            have g6' := g6.trans (Go.settle (p := p6))
            have rv6' := val_ok s6 rv6
            have P9 : Post X.K X.mg Hd al1 m1 H1 (E σ) ((match frz m6 (val w) with | some (y, m4) => compL vs g (fun r m => calmR (t r m)) (fun r m => calmR (a r m)) (items.drop (i + 1)) (acc ++ [y]) rho m4 | none => .no).bind fun acc m2 => Rs.ok (W.n (PyData.list acc)) m2) fun w al' p m' H' => ∀ v, RepW X.K X.mg (Own Hd al' m' p) p al' H' w v → Q v H' := P7
            cases hf : frz m6 (val w) with
            | none => rw [hf] at P9; exact P9.elim
            | some yz =>
              obtain ⟨y, m7⟩ := yz
              rw [hf] at P9
              obtain ⟨s7, g7, r7⟩ := frz_ok s6' rv6' hf
              have g27 := (g35.trans g6').trans g7
              obtain ⟨z1, z2, z3, z4⟩ := stay g27
              have rA7 := rA.ext g27.ext
              refine ⟨vsA, z1, ?_, ?_⟩
              · rw [rA.len]
                exact Nat.lt_of_lt_of_le (show acc.length < 1000001 by have := of_decide_eq_true hsm; omega) (by decide)
              · obtain ⟨s8, k8⟩ := stt_grow (o' := .lst (vsA ++ [v6])) s7 z1 True.intro
                refine ⟨al6, m7, acc ++ [y], vsA ++ [v6], ⟨fun b us h => ?_, fun b ob u h => ?_, fun b ob h n => ?_, z2.new⟩, z3, fun b o hb h => ?_, s8, upd_same, k8 _ _ (rA7.append (.one r7)), ?_, P9⟩
                · rw [upd_ne fun z => by rw [z, hD] at h; cases h]; exact z2.tup b us h
                · rw [upd_ne fun z => by rw [z, hD] at h; cases h]; exact z2.frz b ob u h
                · rw [upd_ne fun z => by rw [z, hD] at h; cases h]; exact z2.oth b ob h n
                · rw [upd_ne fun z => nh (by rw [← z]; exact hb)]; exact z4 b o hb h
                · rw [List.length_append, List.length_singleton]; omega
  · have e0 : i = items.length := by omega
    subst e0
    rw [List.drop_length] at P2
    refine .inl ⟨hJ.stop _ H' ex2, ?_⟩
    have P3 : Post X.K X.mg Hd al1 m1 H1 (E σ) (Rs.ok (W.n (PyData.list acc)) m2) fun w al' p m' H' => ∀ v, RepW X.K X.mg (Own Hd al' m' p) p al' H' w v → Q v H' := P2
    have exE : Ext (Own Hd al1 m1 none) H1 (Own Hd al2 m2 (some D0)) H' := ex2.weak fun b h => own_hid.mpr h
    exact P3 al2 (some D0) H' ⟨exE, pre2, hid2⟩ (stt_show s2 nh) _ ⟨D0, rfl, rfl, vsA, hA, rA.ext (Ext.less fun b h => own_hid.mpr h)⟩
def mLC (it : EM (List D)) (vs : List Nat) (g : GM) (t : EM Bool) (a : EM W) : EM W := mComp it vs g (fun r m => calmR (t r m)) (fun r m => calmR (a r m))
variable {scope : Scope} {elt tg' : Expr} {ifs : List Expr} {own : List (Str × Nat)} {it : EM (List D)} {g : GM} {sl : List Nat} {t' : EM Bool}
theorem den_lc (own : List (Str × Nat)) (hc : X.calm = true) (hN : X.N.Nodup) (hi : DenI X E tg iter it) (ok : BlkOk X.N X.env.scope scope own)
    (hg : ∀ (s : Shared) (H : Hp) (C : Addr) (cl : List (Str × Addr)) (fp : List Addr), DenG (X.blk s H scope (compEnvC scope cl C X.env) fp) tg g sl) (ht : ∀ (s : Shared) (H : Hp) (C : Addr) (cl : List (Str × Addr)) (fp : List Addr), DenTs (X.blk s H scope (compEnvC scope cl C X.env) fp) ifs t')
    (he : ∀ (s : Shared) (H : Hp) (C : Addr) (cl : List (Str × Addr)) (fp : List Addr), Den (X.blk s H scope (compEnvC scope cl C X.env) fp) E0' elt a) (hsl : ∀ j ∈ sl, j ∈ own.map (·.2) := by decide) (hs : ∀ x, foldedSetIterable iter X.env x = pure x := by intro _; rfl) :
    Den X E (.ListComp elt [⟨tg, iter, ifs, 0⟩] scope pos) (mLC it (own.map (·.2)) g t' a) := PE.imp (pe_lc hc hN hi ok hg ht he hs) fun _ _ _ q => tM_comp hsl q
section
variable {i : Nat} {y : Str} {py spos : Pos}
theorem ds_setLc (i : Nat) (own : List (Str × Nat)) (hc : X.calm = true) (hN : X.N.Nodup) (hi : DenI X E tg iter it) (ok : BlkOk X.N X.env.scope scope own)
    (hg : ∀ (s : Shared) (H : Hp) (C : Addr) (cl : List (Str × Addr)) (fp : List Addr), DenG (X.blk s H scope (compEnvC scope cl C X.env) fp) tg g sl) (ht : ∀ (s : Shared) (H : Hp) (C : Addr) (cl : List (Str × Addr)) (fp : List Addr), DenTs (X.blk s H scope (compEnvC scope cl C X.env) fp) ifs t')
    (he : ∀ (s : Shared) (H : Hp) (C : Addr) (cl : List (Str × Addr)) (fp : List Addr), Den (X.blk s H scope (compEnvC scope cl C X.env) fp) E0' elt a) (hsl : ∀ j ∈ sl, j ∈ own.map (·.2) := by decide)
    (hsw : swapsWith (.ListComp elt [⟨tg, iter, ifs, 0⟩] scope pos) (some (.Name y py)) spos.line X.env = pure true) (hy : X.N[i]? = some y := by rfl) (hyl : X.env.scope.names.lookup y = some .local := by rfl) (hs : ∀ x, foldedSetIterable iter X.env x = pure x := by intro _; rfl) :
    DenS X E (.Assign [.Name y py] (.ListComp elt [⟨tg, iter, ifs, 0⟩] scope pos) spos) (sSet i (mLC it (own.map (·.2)) g t' a)) := PS.imp (ps_setLc hc hN hy hyl hsw hi ok hg ht he hs) fun _ _ _ q => tS_set (fun _ _ _ h => tM_comp hsl h) q
theorem ds_setLcR (i : Nat) (own : List (Str × Nat)) (hc : X.calm = true) (hN : X.N.Nodup) (hi : DenI X E tg iter it) (ok : BlkOk X.N X.env.scope scope own)
    (hg : ∀ (s : Shared) (H : Hp) (C : Addr) (cl : List (Str × Addr)) (fp : List Addr), DenG (X.blk s H scope (compEnvC scope cl C X.env) fp) tg g sl) (ht : ∀ (s : Shared) (H : Hp) (C : Addr) (cl : List (Str × Addr)) (fp : List Addr), DenTs (X.blk s H scope (compEnvC scope cl C X.env) fp) ifs t')
    (he : ∀ (s : Shared) (H : Hp) (C : Addr) (cl : List (Str × Addr)) (fp : List Addr), Den (X.blk s H scope (compEnvC scope cl C X.env) fp) E0' elt a) (hsl : ∀ j ∈ sl, j ∈ own.map (·.2) := by decide)
    (hsw : swapsWith (.ListComp elt [⟨tg, iter, ifs, 0⟩] scope pos) (some (.Name y py)) spos.line X.env = pure true) (hy : X.N[i]? = some y := by rfl) (hyl : X.env.scope.names.lookup y = some .local := by rfl) (hs : ∀ x, foldedSetIterable iter X.env x = pure x := by intro _; rfl) :
    DenS X E (.Assign [.Name y py] (.ListComp elt [⟨tg, iter, ifs, 0⟩] scope pos) spos) (sSetR i (mLC it (own.map (·.2)) g t' a)) := PS.imp (ps_setLc hc hN hy hyl hsw hi ok hg ht he hs) fun _ _ _ q => tS_setR (fun _ _ _ h => tM_comp hsl h) q
end
end
end Den
/-! Den7: defs and their calls, raise, the law's end. -/
namespace Den
open PySem PySem.Spec PyProof.Rows L2

/-! ### what a def promises, where nothing is being shown (no repr around) -/
structure FnG (P : Program) (w : World) (K : PySem.W.Frag) (mg : Str → Option Value) (base : Heap) (k : Nat) (f : Addr) (fd : FuncData) (ps : List Str) (sp : Sp) : Prop where
  len : ∀ vs H Q E, sp vs H Q E → vs.length = ps.length
  run : ∀ (A : Around) (outer : List PySem.Env) (s : Shared) (H : Hp) (args : Args) (us : List Value) (vs : List V) (Q : VK) (E : XK), Room k A → A.guards = some [] → Env0 P w K mg base A outer s H → BindsTo s fd args (ps.zip us) → Vals vs us → sp vs H Q E →
    codeAny (model P w) A (.call (.ref f) args) (CR (L2N.CX P w) outer P w H s Q E) s
theorem FnG.mono {P : Program} {w : World} {K : PySem.W.Frag} {mg : Str → Option Value} {base : Heap} {j k : Nat} {f : Addr} {fd : FuncData} {ps : List Str} {sp : Sp} (F : FnG P w K mg base j f fd ps sp) (h : j ≤ k) : FnG P w K mg base k f fd ps sp :=
  ⟨F.len, fun A outer s H args us vs Q E hr => F.run A outer s H args us vs Q E (hr.mono h)⟩
section
variable {P : Program} {w : World} {K : PySem.W.Frag} {mg : Str → Option Value} {base : Heap} {k : Nat} {f : Addr} {x : Str} {st : Stmt} {fd : FuncData} {N ps : List Str} {sp : Sp}
theorem fn_G (F : Fun K x x st f fd) (S : FnScope N ps (defScope st)) (len : ∀ vs H Q E, sp vs H Q E → vs.length = ps.length)
    (hbody : ∀ (cdv : Value) (A : Around) (outer : List PySem.Env) (s : Shared) (H : Hp) (vs : List V) (Q : VK) (E : XK), Room k (A.deeper (envOfC x (defScope st) s.heap.objs.size f cdv)) → (A.deeper (envOfC x (defScope st) s.heap.objs.size f cdv)).guards = some [] → sp vs H Q E →
      ∃ t, PSs (cxOf (L2N.CX P w) P w K mg base N x (defScope st) f cdv A outer s H E) (defBody st) t ∧ t { nx := fun _ H' => Q .non H', rt := Q } (L2.start N vs) H) : FnG P w K mg base (k + 1) f fd ps sp := by
  obtain ⟨oc, od, kV, doc, pm, an, cdv, ct, osl, rfl, lk, hcd⟩ := F.ex
  refine ⟨len, fun A outer s H args us vs Q E hr hgu e0 hb r hsp => ?_⟩
  have hl := len _ _ _ _ hsp
  have hus : us.length = ps.length := r.length.symm.trans hl
  obtain ⟨t, ht, hq⟩ := hbody cdv A outer s H vs Q E (hr.deeper _) hgu hsp
  refine Att.call_fn (e0.mod.kin.keeps fun b o e => (e0.bs b o e).1) (e0.mod.nolimit.keeps fun b o e => (e0.bs b o e).1) lk hcd hr.depth hb ?_ (fun s1 ic => ?_) S.co S.gen S.kind
  · refine List.all_eq_true.mpr fun y hy => ?_
    rcases S.par y.1 (List.of_mem_zip (a := y.1) (b := y.2) hy).1 with q | q
    · rw [q]; rfl
    · rw [q]; rfl
  · refine wpAny_mono (ht.run [] s1 _ H _ (inv_start (CX := L2N.CX P w) (E := E) (N := N) S hr.hd e0 hl r ic) hq) (fun fl s' h => ?_) fun e s' h => h
    cases fl with
    | ret u => obtain ⟨v, σ', H', J, rv, q⟩ := h; exact ⟨v, H', J.os, J.bare, J.base, J.hok, rv, q⟩
    | next => obtain ⟨σ', H', J, q⟩ := h; exact ⟨.non, H', J.os, J.bare, J.base, J.hok, rfl, q⟩
    | brk => obtain ⟨_, _, _, q⟩ := h; exact q.elim
    | cont => obtain ⟨_, _, _, q⟩ := h; exact q.elim
end

/-! ### a def's computation -/
def fin (n : Nat) (m : Mem) : W → Rs W
  | .d x => .ok (.d x) (m.take n)
  | .n x => .ok (.n x) (m.take n)
  | .r k => if n ≤ k then (match m[k]? with | some (some x) => .ok (.n x) (m.take n) | _ => .no) else .no
  | .f x => .ok (.f x) (m.take n)
  | .s _ => .no
  | .e _ => .no
def startE (N : Nat) (ws : List W) : Env := ws.map some ++ List.replicate (N - ws.length) none
/-- the def with N names and the body c -/
def runF (N : Nat) (c : SM) : List W → Mem → Rs W := fun ws m => match c (startE N ws) m with
  | .nx _ m' => .ok (.d .none) (m'.take m.length)
  | .rt w m' => fin m.length m' w
  | .ex x _ m' => .ex x (m'.take m.length)
  | _ => .no
def spM (K : PySem.W.Frag) (mg : Str → Option Value) (n : Nat) (fm : List W → Mem → Rs W) : Sp := fun vs H Q E => ∃ Hd al ws m, ws.length = n ∧ Stt K Hd al none H m ∧ RepWs K mg (Own Hd al m none) al H ws vs ∧
  Post K mg Hd al m H E (fm ws m) fun w al' p m' H' => ∀ v, RepW K mg (Own Hd al' m' p) p al' H' w v → Q v H'
section
variable {K : PySem.W.Frag} {mg : Str → Option Value} {Hd : Addr → Prop} {al al1 : List Addr} {m m1 : Mem} {p q : Option Addr} {H H1 : Hp} {n : Nat}
theorem RepWs.len {O : Addr → Prop} : ∀ {ws : List W} {vs : List V}, RepWs K mg O al H ws vs → vs.length = ws.length
  | [], _, h => by rw [show _ = [] from h]; rfl
  | w :: ws, _, ⟨v, r, h1, h2, h3⟩ => by rw [h1, List.length_cons, List.length_cons, RepWs.len h3]
theorem live_take {r : Nat} (h : Live (m1.take n) r) : r < n ∧ Live m1 r := by
  obtain ⟨o, h⟩ := h
  obtain ⟨hl, _⟩ := List.getElem?_eq_some_iff.mp h
  rw [List.length_take] at hl
  have hr : r < n := by omega
  exact ⟨hr, o, by rw [List.getElem?_take_of_lt hr] at h; exact h⟩
theorem own_take (hq : ∀ a, q = some a → Own Hd al1 m1 p a) {a : Addr} (h : Own Hd (al1.take n) (m1.take n) q a) : Own Hd al1 m1 p a := by
  rcases h with ⟨r, h1, h2⟩ | h | h
  · obtain ⟨hr, hl⟩ := live_take h2
    exact .inl ⟨r, by rw [List.getElem?_take_of_lt hr] at h1; exact h1, hl⟩
  · exact .inr (.inl h)
  · exact hq a h
theorem stt_take (s : Stt K Hd al1 p H1 m1) (n : Nat) (hq : ∀ a, q = some a → Own Hd al1 m1 p a ∧ ¬ Hd a ∧ ∀ r : Nat, r < n → Live m1 r → al1[r]? ≠ some a) : Stt K Hd (al1.take n) q H1 (m1.take n) where
  len := by rw [List.length_take, List.length_take, s.len]
  ob := fun r a o h1 h2 => by
    obtain ⟨hr, _⟩ := live_take (n := n) ⟨o, h2⟩
    rw [List.getElem?_take_of_lt hr] at h1 h2
    exact (s.ob r a o h1 h2).stay (Ext.less fun b h => own_take (fun a h => (hq a h).1) h) rfl
  inj := fun r r' a h1 h2 h3 h4 => by
    obtain ⟨q1, l1⟩ := live_take h3
    obtain ⟨q2, l2⟩ := live_take h4
    rw [List.getElem?_take_of_lt q1] at h1
    rw [List.getElem?_take_of_lt q2] at h2
    exact s.inj r r' a h1 h2 l1 l2
  pnd := fun a r h1 h2 h3 => by
    obtain ⟨q1, l1⟩ := live_take h2
    rw [List.getElem?_take_of_lt q1] at h3
    exact (hq a h1).2.2 r q1 l1 h3
  hin := fun a h => ⟨(s.hin a h).1, fun z => (hq a z).2.1 h, fun r h1 h2 => by
    obtain ⟨q1, l1⟩ := live_take h1
    rw [List.getElem?_take_of_lt q1] at h2
    exact (s.hin a h).2.2 r l1 h2⟩
theorem go_take (g : Go Hd al m none H al1 m1 p H1) (hl : al.length = n) (hq : ∀ a, q = some a → Own Hd al1 m1 p a) : Go Hd al m none H (al1.take n) (m1.take n) q H1 where
  ext := g.ext.weak fun a h => own_take hq h
  pre := fun r a h => by
    obtain ⟨hr, _⟩ := List.getElem?_eq_some_iff.mp h
    rw [List.getElem?_take_of_lt (by omega)]
    exact g.pre r a h
  hid := g.hid
theorem own_pnd (s : Stt K Hd al1 p H1 m1) : ∀ a, p = some a → Own Hd al1 m1 p a ∧ ¬ Hd a ∧ ∀ r : Nat, r < n → Live m1 r → al1[r]? ≠ some a := fun a h => ⟨.inr (.inr h), fun z => (s.hin a z).2.1 h, fun r _ h1 h2 => s.pnd a r h h1 h2⟩
/-- what a def hands back -/
theorem post_fin {E : XK} {w : W} {R : W → List Addr → Option Addr → Mem → Hp → Prop} (hl : al.length = n) (g : Go Hd al m none H al1 m1 p H1) (s : Stt K Hd al1 p H1 m1) {v : V} (rv : RepW K mg (Own Hd al1 m1 p) p al1 H1 w v) (P : Post K mg Hd al m H E (fin n m1 w) R) :
    ∃ w' al' q m', R w' al' q m' H1 ∧ RepW K mg (Own Hd al' m' q) q al' H1 w' v := by
  cases w with
  | d x =>
    obtain ⟨rfl, r⟩ := rv
    have h0 : ∀ a, (none : Option Addr) = some a → Own Hd al1 m1 none a := fun a h => nomatch h
    exact ⟨_, _, _, _, P (al1.take n) none H1 (go_take g hl h0) (stt_take s n (own_pnd s)), rfl, r.ext (Ext.less fun a h => own_take h0 h)⟩
  | f x =>
    obtain ⟨rfl, r⟩ := rv
    have h0 : ∀ a, (none : Option Addr) = some a → Own Hd al1 m1 none a := fun a h => nomatch h
    exact ⟨_, _, _, _, P (al1.take n) none H1 (go_take g hl h0) (stt_take s n (own_pnd s)), rfl, r⟩
  | n x =>
    obtain ⟨a, rfl, rfl, r⟩ := rv
    have h0 : ∀ b, some a = some b → Own Hd al1 m1 (some a) b := fun b h => .inr (.inr h)
    exact ⟨_, _, _, _, P (al1.take n) (some a) H1 (go_take g hl h0) (stt_take s n (own_pnd s)), a, rfl, rfl, r.stay (Ext.less fun a h => own_take h0 h) rfl⟩
  | s xs => exact P.elim
  | e a => exact P.elim
  | r k =>
    obtain ⟨rfl, a, h1, rfl⟩ := rv
    unfold fin at P
    dsimp only at P
    split at P
    · rename_i hk
      split at P
      · rename_i x hx
        have hq : ∀ b, some a = some b → Own Hd al1 m1 none b ∧ ¬ Hd b ∧ ∀ r : Nat, r < n → Live m1 r → al1[r]? ≠ some b := fun b h => by
          cases h
          refine ⟨.inl ⟨k, h1, x, hx⟩, fun z => (s.hin a z).2.2 k ⟨x, hx⟩ h1, fun r hr l1 h2 => ?_⟩
          have := s.inj r k a h2 h1 l1 ⟨x, hx⟩
          omega
        exact ⟨_, _, _, _, P (al1.take n) (some a) H1 (go_take g hl fun b h => (hq b h).1) (stt_take s n hq), a, rfl, rfl, (s.ob k a x h1 hx).stay (Ext.less fun b h => own_take (fun b h => (hq b h).1) h) rfl⟩
      · exact P.elim
    · exact P.elim
theorem envOk_start {O : Addr → Prop} {N : List Str} : ∀ {ws : List W} {vs : List V}, RepWs K mg O al H ws vs → EnvOk K mg O al H (startE N.length ws) (L2.start N vs) := fun {ws vs} h => by
  have hl := h.len
  refine ⟨by unfold startE L2.start; rw [List.length_append, List.length_append, List.length_map, List.length_map, List.length_replicate, List.length_replicate, hl], fun i w hi => ?_⟩
  unfold startE at hi
  by_cases hw : i < ws.length
  · rw [List.getElem?_append_left (by rw [List.length_map]; exact hw), List.getElem?_map, List.getElem?_eq_getElem hw] at hi
    cases hi
    have q : ∀ {ws : List W} {vs : List V} {i : Nat} (hw : i < ws.length), RepWs K mg O al H ws vs → ∃ v, vs[i]? = some v ∧ RepW K mg O none al H ws[i] v := by
      intro ws
      induction ws with
      | nil => intro vs i hw; exact absurd hw (Nat.not_lt_zero _)
      | cons w ws ih =>
        intro vs i hw ⟨v, r, h1, h2, h3⟩
        subst h1
        cases i with
        | zero => exact ⟨v, rfl, h2⟩
        | succ i => exact ih (Nat.lt_of_succ_lt_succ hw) h3
    obtain ⟨v, h1, h2⟩ := q hw h
    refine ⟨v, ?_, h2⟩
    unfold L2.start
    rw [List.getElem?_append_left (by rw [List.length_map, hl]; exact hw), List.getElem?_map, h1]
    rfl
  · rw [List.getElem?_append_right (by rw [List.length_map]; omega), List.getElem?_replicate] at hi
    split at hi <;> cases hi
end
section
variable {P : Program} {w : World} {K : PySem.W.Frag} {mg : Str → Option Value} {base : Heap} {k : Nat} {f : Addr} {x : Str} {st : Stmt} {fd : FuncData} {N ps : List Str} {c : SM}
/-- the wish about exceptions in a def's body -/
abbrev EK (E : XK) : St → XK := fun _ cls d H => E cls d H
/-- a def keeps the promise of its computation -/
theorem def_ok (F : Fun K x x st f fd) (S : FnScope N ps (defScope st))
    (hbody : ∀ (cdv : Value) (A : Around) (outer : List PySem.Env) (s : Shared) (H : Hp) (E : XK), Room k (A.deeper (envOfC x (defScope st) s.heap.objs.size f cdv)) → (A.deeper (envOfC x (defScope st) s.heap.objs.size f cdv)).guards = some [] →
      DenSs (cxOf (L2N.CX P w) P w K mg base N x (defScope st) f cdv A outer s H E) (EK E) (defBody st) c) : FnG P w K mg base (k + 1) f fd ps (spM K mg ps.length (runF N.length c)) := by
  refine fn_G F S (fun vs H Q E h => ?_) fun cdv A outer s H vs Q E hr hg h => ⟨_, hbody cdv A outer s H E hr hg, ?_⟩
  · obtain ⟨Hd, al, ws, m, hl, _, h, _⟩ := h
    exact h.len.trans hl
  · obtain ⟨Hd, al, ws, m, hl, s, h, P⟩ := h
    refine ⟨Hd, al, startE N.length ws, m, s, envOk_start h, ?_⟩
    unfold runF at P
    cases ho : c (startE N.length ws) m with
    | nx r m' =>
      rw [ho] at P
      intro al' H' σ' g s' e
      obtain ⟨w', al2, q, m2, q1, q2⟩ := post_fin (w := .d .none) (v := .non) s.len g s' ⟨rfl, rfl⟩ P
      exact q1 _ q2
    | rt w m' =>
      rw [ho] at P
      intro al' p H' v g s' rv
      obtain ⟨w', al2, q, m2, q1, q2⟩ := post_fin s.len g s' rv P
      exact q1 _ q2
    | ex y r m' =>
      rw [ho] at P
      intro al' H' σ' cls dd g s' e xo
      have h0 : ∀ a, (none : Option Addr) = some a → Own Hd al' m' none a := fun a h => nomatch h
      exact P (al'.take m.length) H' cls dd (go_take g s.len h0) (stt_take s' m.length (own_pnd s')) (by cases y <;> exact xo)
    | bk r m' => rw [ho] at P; exact P.elim
    | ct r m' => rw [ho] at P; exact P.elim
    | no => rw [ho] at P; exact P.elim

/-! ### calls -/
structure CalG (P : Program) (w : World) (K : PySem.W.Frag) (mg : Str → Option Value) (base : Heap) (k : Nat) (x : Str) (n : Nat) (fm : List W → Mem → Rs W) : Prop where
  ex : ∃ (f : Addr) (fd : FuncData) (ps : List Str), FnG P w K mg base k f fd ps (spM K mg n fm) ∧ mg x = some (.ref f) ∧ PySem.W.keepIn K (.ref f) = true ∧ Binds K fd ps [] ∧ ps.length = n
def mCall (n : Nat) (fm : List W → Mem → Rs W) (c : EM (List W)) : EM W := fun rho m => (c rho m).bind fun ws m1 => if ws.length = n then fm ws m1 else .no
end
section
variable {X : Cx} {E : St → XK} {k j n : Nat} {x : Str} {fm : List W → Mem → Rs W} {p pos : Pos} {e : Expr} {es : List Expr} {c : EM (List W)}
theorem run_G {f : Addr} {fd : FuncData} {ps : List Str} {sp : Sp} {pins : List (Addr × Obj)} {σ : St} {H : Hp} {s : Shared} {Q : VK} {us : List Value} {vs : List V} {E0 : XK} (F : FnG X.prog X.w X.K X.mg X.base k f fd ps sp) (hr : Room k X.A) (hgu : X.A.guards = some []) (hb : Binds X.K fd ps []) (hx : PassesAt (L2N.CX X.prog X.w) X σ E0)
    (I : Inv X pins σ H s) (r : Vals vs us) (h : sp vs H Q E0) : wpAny (model X.prog X.w) X.A (call (.ref f) us) (EP X pins σ Q) X.xe s := by
  have hl : us.length = ps.length := r.length.symm.trans (F.len _ _ _ _ h)
  have b := hb s us I.kIn (by rw [List.append_nil, hl])
  rw [List.append_nil] at b
  refine wpAny_call (codeAny_mono (F.run X.A X.stack s H _ us vs Q E0 hr hgu I.env0 b r h) fun res s' hq => ?_)
  match res, hq with
  | .error e, hq => exact hx pins H s e s' I hq
  | .ok (.ret u), hq => exact I.after hq
/-- f(..) where f keeps the promise sp -/
theorem pe_G {f : Addr} {fd : FuncData} {ps : List Str} {sp : Sp} {t : TA} (F : FnG X.prog X.w X.K X.mg X.base k f fd ps sp) (hm : X.mg x = some (.ref f)) (kp : PySem.W.keepIn X.K (.ref f) = true) (hb : Binds X.K fd ps []) (hr : Room k X.A) (hgu : X.A.guards = some [])
    (hx : ∀ σ, PassesAt (L2N.CX X.prog X.w) X σ (E σ)) (ha : PA X (e :: es) t) (hg : Gl X x)
    (hdb : (x == ("__debug__" : Str)) = false) (he : starEach (e :: es) X.env = (false, eval e X.env) :: starEach es X.env) (hpl : (backTo pos (starEach es X.env)).any (·.1) = false) : PE X (.Call (.Name x p) (e :: es) [] pos) (fun σ H Q => t σ H fun vs H1 => sp vs H1 Q (E σ)) := by
  refine ⟨fun pins s σ H Q I h => wpAny_Call_Name_kw (ld_glob I hg hm ?_ hdb)⟩
  refine PySem.W.callWith_K (h₀ := X.base) I.ok.mod.kin kp (thn (ha.run pos pins s σ H _ I h) fun us s1 hh => ?_) he hpl
  obtain ⟨vs, H1, I1, r, q⟩ := hh
  exact ⟨I1.kIn, run_G F hr hgu hb (hx σ) I1 r q⟩
theorem tM_call {σ : St} {H : Hp} {Q : VK} (q : tM X.K X.mg E (mCall n fm c) σ H Q) : tA X.K X.mg E c σ H fun vs H1 => spM X.K X.mg n fm vs H1 Q (E σ) := by
  obtain ⟨Hd, al, rho, m, s, e, P⟩ := q
  refine ⟨Hd, al, rho, m, s, e, (Post.bind P).imp fun ws al1 p1 m1 H1 g s1 k hp vs rv => ?_⟩
  subst hp
  have P1 := k rfl
  split at P1
  · rename_i hl
    exact ⟨Hd, al1, ws, m1, hl, s1, rv, P1⟩
  · exact P1.elim
theorem den_call (C : CalG X.prog X.w X.K X.mg X.base k x n fm) (hr : Room j X.A) (hgu : X.A.guards = some []) (hx : ∀ σ, PassesAt (L2N.CX X.prog X.w) X σ (E σ)) (ha : DenA X E (e :: es) c) (hk : k ≤ j := by decide) (hg : Gl X x := by rfl)
    (hdb : (x == ("__debug__" : Str)) = false := by decide) (he : starEach (e :: es) X.env = (false, eval e X.env) :: starEach es X.env := by rfl) (hpl : (backTo pos (starEach es X.env)).any (·.1) = false := by rfl) : Den X E (.Call (.Name x p) (e :: es) [] pos) (mCall n fm c) := by
  obtain ⟨f, fd, ps, F, hm, kp, hb, hn⟩ := C.ex
  exact PE.imp (pe_G F hm kp hb (hr.mono hk) hgu hx ha hg hdb he hpl) fun _ _ _ q => tM_call q

/-! ### [f, g, ..][i](..) -/
/-- the callee is picked from written names -/
def mSel (n : Nat) (fs : List (List W → Mem → Rs W)) (i : EM W) (c : EM (List W)) : EM W := fun rho m => (i rho m).bindV fun w m1 => match intOf w with
  | some j => if 0 ≤ j then (match fs[j.toNat]? with | some fm => (c rho m1).bind fun ws m2 => if ws.length = n then fm ws m2 else .no | none => .no) else .no
  | none => .no

/-! ### raise -/
/-- what the written part says of an own exception class without __init__ -/
structure ExcT (K : PySem.W.Frag) (mg : Str → Option Value) (x : Str) : Prop where
  ex : ∃ C, mg x = some (.ref C) ∧ PySem.W.excIn K C [.type "ValueError", .type "Exception", .type "BaseException", .type "object"] "ValueError.__new__" = true ∧ PySem.W.keepIn K (.ref C) = true ∧
    PySem.W.subIn K (.ref C) (.type "BaseException") = some true ∧ PySem.W.typeIn K (.ref C) = some (.type "type")
def sRaise (x : Str) : SM := fun rho m => .ex (.own x) rho m
theorem ds_raise {W0 : WX} {msg : Str} {jk : Nat} {p2 pos2 : Pos} (T : ExcT X.K X.mg x) (hc : X.calm = true) (tk : L2N.Takes X W0) (hE : ∀ σ cls d H, E σ cls d H → W0 cls d σ H) (hg : Gl X x := by rfl) (hdb : (x == ("__debug__" : Str)) = false := by decide) :
    DenS X E (.Raise (some (.Call (.Name x p) [.Constant (.str msg) jk p2] [] pos)) none pos2) (sRaise x) := by
  obtain ⟨C, hm, h1, h2, h3, h4⟩ := T.ex
  refine PS.imp (L2N.ps_raise hc tk (L2N.pmk_own PySem.F.excBase_ValueError h1 hm h2 (raises_own h3 h4) hg hdb)) fun Dn σ H q => ?_
  obtain ⟨Hd, al, rho, m, s, e, P⟩ := q
  exact hE _ _ _ _ (P al H σ _ _ Go.refl s e ⟨rfl, C, hm, rfl⟩)
end
end Den
/-! Den8: calls of built-ins, subscripts, slices, methods of lists. -/
namespace Den
open PySem PySem.Spec PyProof.Rows L2

/-! ### calls of built-ins -/
/-- a rule for a call by values: from what the arguments are to the reading -/
def Ca (X : Cx) (r : List V → Hp → VK → Prop) (f : List W → Mem → Rs W) : Prop := ∀ (E : XK) Hd al m H ws vs (R : W → List Addr → Option Addr → Mem → Hp → Prop) (Q : VK), Stt X.K Hd al none H m → RepWs X.K X.mg (Own Hd al m none) al H ws vs →
  Post X.K X.mg Hd al m H E (f ws m) R → (∀ w' al' p m' H' v', R w' al' p m' H' → RepW X.K X.mg (Own Hd al' m' p) p al' H' w' v' → Q v' H') → r vs H Q
def mB (c : EM (List W)) (f : List W → Mem → Rs W) : EM W := fun rho m => (c rho m).bind f
section
variable {X : Cx} {E : St → XK} {r : List V → Hp → VK → Prop} {f : List W → Mem → Rs W} {id T : String} {x : Str} {p pos : Pos} {e : Expr} {es : List Expr} {c : EM (List W)}
theorem tM_cb (h : Ca X r f) {σ : St} {H : Hp} {Q : VK} (q : tM X.K X.mg E (mB c f) σ H Q) : tCB r (tA X.K X.mg E c) σ H Q := by
  obtain ⟨Hd, al, rho, m, s, e, P⟩ := q
  refine ⟨Hd, al, rho, m, s, e, (Post.bind P).imp fun ws al1 p1 m1 H1 g s1 k hp vs rv => ?_⟩
  subst hp
  exact h _ _ _ _ _ _ _ _ Q s1 rv (k rfl) fun w' al' p m' H' v' q' => q' v'
theorem den_B (h : Ca X r f) (hc : CallR X (.builtin id) r) (hg : Gl X x) (hm : X.mg x = none) (hv : bootBuiltins x = some (.builtin id)) (ha : DenA X E (e :: es) c) (hn : x ≠ "__name__" := by decide) (hdb : (x == ("__debug__" : Str)) = false := by decide)
    (he : starEach (e :: es) X.env = (false, eval e X.env) :: starEach es X.env := by rfl) (hpl : (backTo pos (starEach es X.env)).any (·.1) = false := by rfl) : Den X E (.Call (.Name x p) (e :: es) [] pos) (mB c f) :=
  PE.imp (pe_callB hc hg hm hv ha hn hdb he hpl) fun _ _ _ q => tM_cb h q
theorem den_Ty (h : Ca X r f) (hc : CallR X (.type T) r) (hg : Gl X x) (hm : X.mg x = none) (hv : bootBuiltins x = some (.type T)) (ha : DenA X E (e :: es) c) (hn : x ≠ "__name__" := by decide) (hdb : (x == ("__debug__" : Str)) = false := by decide)
    (he : starEach (e :: es) X.env = (false, eval e X.env) :: starEach es X.env := by rfl) (hpl : (backTo pos (starEach es X.env)).any (·.1) = false := by rfl) : Den X E (.Call (.Name x p) (e :: es) [] pos) (mB c f) :=
  PE.imp (pe_callTy hc hg hm hv ha hn hdb he hpl) fun _ _ _ q => tM_cb h q
end
/-- one argument, data in, data out -/
def fD1 (g : D → Option D) : List W → Mem → Rs W
  | [w], m => (match peek m w with | some x => (match g x with | some y => .ok (.d y) m | none => .no) | none => .no)
  | _, _ => .no
def fD2 (g : D → D → Option D) : List W → Mem → Rs W
  | [w, w2], m => (match peek m w, peek m w2 with | some x, some y => (match g x y with | some z => .ok (.d z) m | none => .no) | _, _ => .no)
  | _, _ => .no
/-- one argument, a new list out -/
def fN1 (g : D → Option (List D)) : List W → Mem → Rs W
  | [w], m => (match peek m w with | some x => (match g x with | some ys => .ok (.n (.list ys)) m | none => .no) | none => .no)
  | _, _ => .no
section
variable {X : Cx} {r : List V → Hp → VK → Prop}
theorem ca_D1 {g : D → Option D} (h : ∀ (O : Addr → Prop) (H : Hp) x v y (Q : VK), RepP X.K O H x v → g x = some y → (∀ v', RepD X.K O H y v' → Q v' H) → r [v] H Q) : Ca X r (fD1 g) := by
  intro E Hd al m H ws vs R Q s rv P k
  match ws, rv with
  | [w], ⟨v, _, h1, h2, h3⟩ =>
    subst h1
    rw [show _ = [] from h3]
    unfold fD1 at P
    dsimp only at P
    split at P
    · rename_i x hx
      split at P
      · rename_i y hy
        exact h _ H x v y Q (peek_ok s h2 hx) hy fun v' rv' => k _ _ _ _ _ _ (P.ok s) ⟨rfl, rv'⟩
      · exact P.elim
    · exact P.elim
  | [], _ => exact P.elim
  | _ :: _ :: _, _ => exact P.elim
theorem ca_D2 {g : D → D → Option D} (h : ∀ (O : Addr → Prop) (H : Hp) x y v v2 z (Q : VK), RepP X.K O H x v → RepP X.K O H y v2 → g x y = some z → (∀ v', RepD X.K O H z v' → Q v' H) → r [v, v2] H Q) : Ca X r (fD2 g) := by
  intro E Hd al m H ws vs R Q s rv P k
  match ws, rv with
  | [w, w2], ⟨v, _, h1, h2, v2, _, h3, h4, h5⟩ =>
    subst h1 h3
    rw [show _ = [] from h5]
    unfold fD2 at P
    dsimp only at P
    split at P
    · rename_i x y hx hy
      split at P
      · rename_i z hz
        exact h _ H x y v v2 z Q (peek_ok s h2 hx) (peek_ok s h4 hy) hz fun v' rv' => k _ _ _ _ _ _ (P.ok s) ⟨rfl, rv'⟩
      · exact P.elim
    · exact P.elim
  | [], _ => exact P.elim
  | [_], _ => exact P.elim
  | _ :: _ :: _ :: _, _ => exact P.elim
theorem ca_N1 {g : D → Option (List D)} (h : ∀ (O : Addr → Prop) (H : Hp) x v ys (Q : VK), RepP X.K O H x v → g x = some ys → (∀ p vs, H p = none → RepDs X.K O H ys vs → Q (.ref p) (upd H p (.lst vs))) → r [v] H Q) : Ca X r (fN1 g) := by
  intro E Hd al m H ws vs R Q s rv P k
  match ws, rv with
  | [w], ⟨v, _, h1, h2, h3⟩ =>
    subst h1
    rw [show _ = [] from h3]
    unfold fN1 at P
    dsimp only at P
    split at P
    · rename_i x hx
      split at P
      · rename_i ys hy
        exact h _ H x v ys Q (peek_ok s h2 hx) hy fun p vs hp rv' => res_list s rv' hp P k
      · exact P.elim
    · exact P.elim
  | [], _ => exact P.elim
  | _ :: _ :: _, _ => exact P.elim
end

def lenD : D → Option D
  | .str y => if small y.length then some (.int (y.length : Nat)) else none
  | .list ds => some (.int (ds.length : Nat))
  | .tuple ds => some (.int (ds.length : Nat))
  | _ => none
theorem ca_len {X : Cx} : Ca X (fun xs H Q => ∃ x n, xs = [x] ∧ LenV X.K x H n ∧ Q (.int n) H) (fD1 lenD) := ca_D1 fun O H x v y Q rv e k => by
  cases x with
  | str z =>
    obtain ⟨c, e⟩ := ite_none e
    cases e; cases rv
    exact ⟨_, _, rfl, ⟨small_line c, rfl⟩, k _ rfl⟩
  | list ds => obtain ⟨a, vs, rfl, h1, h2⟩ := rv; cases e; exact ⟨_, _, rfl, .inl ⟨vs, .inl (.inl h1), rfl⟩, k _ (by rw [h2.len]; rfl)⟩
  | tuple ds => obtain ⟨a, vs, rfl, h1, h2⟩ := rv; cases e; exact ⟨_, _, rfl, .inr ⟨vs, sqP h1, rfl⟩, k _ (by rw [h2.len]; rfl)⟩
  | _ => cases e
def absD : D → Option D
  | .int i => some (.int (if i < 0 then -i else i))
  | _ => none
theorem ca_abs {X : Cx} : Ca X (fun xs H Q => ∃ i, xs = [.int i] ∧ Q (.int (if i < 0 then -i else i)) H) (fD1 absD) := ca_D1 fun O H x v y Q rv e k => by
  cases x with
  | int i => cases e; cases rv; exact ⟨i, rfl, k _ rfl⟩
  | _ => cases e
def intD : D → Option D
  | .int i => some (.int i)
  | .bool b => some (.int (if b then 1 else 0))
  | _ => none
theorem ca_int {X : Cx} : Ca X (fun xs H Q => (∃ i, xs = [.int i] ∧ Q (.int i) H) ∨ ∃ k, xs = [.bl k] ∧ Q (.int (if k then 1 else 0)) H) (fD1 intD) := ca_D1 fun O H x v y Q rv e k => by
  cases x with
  | int i => cases e; cases rv; exact .inl ⟨i, rfl, k _ rfl⟩
  | bool b => cases e; cases rv; exact .inr ⟨b, rfl, k _ rfl⟩
  | _ => cases e
def boolD : D → Option D
  | .int i => some (.bool (i != 0))
  | .bool b => some (.bool b)
  | _ => none
theorem ca_bool {X : Cx} : Ca X (fun xs H Q => (∃ i, xs = [.int i] ∧ Q (.bl (i != 0)) H) ∨ ∃ k, xs = [.bl k] ∧ Q (.bl k) H) (fD1 boolD) := ca_D1 fun O H x v y Q rv e k => by
  cases x with
  | int i => cases e; cases rv; exact .inl ⟨i, rfl, k _ rfl⟩
  | bool b => cases e; cases rv; exact .inr ⟨b, rfl, k _ rfl⟩
  | _ => cases e
def maxD : D → D → Option D
  | .int i, .int j => some (.int (if j > i then j else i))
  | _, _ => none
def minD : D → D → Option D
  | .int i, .int j => some (.int (if j < i then j else i))
  | _, _ => none
theorem ca_max2 {X : Cx} : Ca X (fun xs H Q => ∃ i j, xs = [.int i, .int j] ∧ Q (.int (if j > i then j else i)) H) (fD2 maxD) := ca_D2 fun O H x y v v2 z Q rv rv2 e k => by
  cases x with
  | int i => cases y with
    | int j => cases e; cases rv; cases rv2; exact ⟨i, j, rfl, k _ rfl⟩
    | _ => cases e
  | _ => cases e
theorem ca_min2 {X : Cx} : Ca X (fun xs H Q => ∃ i j, xs = [.int i, .int j] ∧ Q (.int (if j < i then j else i)) H) (fD2 minD) := ca_D2 fun O H x y v v2 z Q rv rv2 e k => by
  cases x with
  | int i => cases y with
    | int j => cases e; cases rv; cases rv2; exact ⟨i, j, rfl, k _ rfl⟩
    | _ => cases e
  | _ => cases e
/-! lists of ints, of bools -/
def intsOf : List D → Option (List Int)
  | [] => some []
  | .int i :: ds => (match intsOf ds with | some ns => some (i :: ns) | none => none)
  | _ :: _ => none
def boolsOf : List D → Option (List Bool)
  | [] => some []
  | .bool i :: ds => (match boolsOf ds with | some ns => some (i :: ns) | none => none)
  | _ :: _ => none
theorem intsOf_eq : ∀ {ds : List D} {ns : List Int}, intsOf ds = some ns → ds = ns.map .int
  | [], _, h => by cases h; rfl
  | .int i :: ds, ns, h => by
    unfold intsOf at h
    split at h
    · rename_i ms hm; cases h; rw [intsOf_eq hm]; rfl
    · cases h
  | .none :: _, _, h => by cases h
  | .bool _ :: _, _, h => by cases h
  | .str _ :: _, _, h => by cases h
  | .list _ :: _, _, h => by cases h
  | .tuple _ :: _, _, h => by cases h
  | .dict _ :: _, _, h => by cases h
theorem intsOf_map : ∀ ns : List Int, intsOf (ns.map .int) = some ns
  | [] => rfl
  | n :: ns => by rw [List.map_cons]; unfold intsOf; rw [intsOf_map ns]
theorem boolsOf_eq : ∀ {ds : List D} {ns : List Bool}, boolsOf ds = some ns → ds = ns.map .bool
  | [], _, h => by cases h; rfl
  | .bool i :: ds, ns, h => by
    unfold boolsOf at h
    split at h
    · rename_i ms hm; cases h; rw [boolsOf_eq hm]; rfl
    · cases h
  | .none :: _, _, h => by cases h
  | .int _ :: _, _, h => by cases h
  | .str _ :: _, _, h => by cases h
  | .list _ :: _, _, h => by cases h
  | .tuple _ :: _, _, h => by cases h
  | .dict _ :: _, _, h => by cases h
theorem boolsOf_map : ∀ ns : List Bool, boolsOf (ns.map .bool) = some ns
  | [] => rfl
  | n :: ns => by rw [List.map_cons]; unfold boolsOf; rw [boolsOf_map ns]
theorem repDs_ints {K : PySem.W.Frag} {O : Addr → Prop} {H : Hp} : ∀ {ns : List Int} {vs : List V}, RepDs K O H (ns.map .int) vs → vs = ns.map V.int
  | [], _, h => h
  | n :: ns, _, ⟨v, r, h1, h2, h3⟩ => by rw [h1, repDs_ints h3, show v = _ from h2]; rfl
theorem repDs_bools {K : PySem.W.Frag} {O : Addr → Prop} {H : Hp} : ∀ {ns : List Bool} {vs : List V}, RepDs K O H (ns.map .bool) vs → vs = ns.map V.bl
  | [], _, h => h
  | n :: ns, _, ⟨v, r, h1, h2, h3⟩ => by rw [h1, repDs_bools h3, show v = _ from h2]; rfl
theorem ints_repDs {K : PySem.W.Frag} {O : Addr → Prop} {H : Hp} : ∀ (ns : List Int), RepDs K O H (ns.map .int) (ns.map V.int)
  | [] => rfl
  | n :: ns => ⟨_, _, rfl, rfl, ints_repDs ns⟩
def sumD : D → Option D
  | .list ds => (match intsOf ds with | some ns => some (.int ns.sum) | none => none)
  | _ => none
def allD : D → Option D
  | .list ds => (match boolsOf ds with | some ns => some (.bool (ns.all id)) | none => none)
  | _ => none
def anyD : D → Option D
  | .list ds => (match boolsOf ds with | some ns => some (.bool (ns.any id)) | none => none)
  | _ => none
theorem ca_sum {X : Cx} : Ca X (rSum X.K) (fD1 sumD) := ca_D1 fun O H x v y Q rv e k => by
  cases x with
  | list ds =>
    obtain ⟨a, vs, rfl, h1, h2⟩ := rv
    unfold sumD at e
    dsimp only at e
    split at e
    · rename_i ns hn
      cases e
      rw [intsOf_eq hn] at h2
      rw [repDs_ints h2] at h1
      exact ⟨a, ns, rfl, .inl (.inl h1), k _ rfl⟩
    · cases e
  | _ => cases e
theorem ca_all {X : Cx} : Ca X (rAll X.K) (fD1 allD) := ca_D1 fun O H x v y Q rv e k => by
  cases x with
  | list ds =>
    obtain ⟨a, vs, rfl, h1, h2⟩ := rv
    unfold allD at e
    dsimp only at e
    split at e
    · rename_i ns hn
      cases e
      rw [boolsOf_eq hn] at h2
      rw [repDs_bools h2] at h1
      exact ⟨a, ns, rfl, .inl (.inl h1), k _ rfl⟩
    · cases e
  | _ => cases e
theorem ca_any {X : Cx} : Ca X (rAny X.K) (fD1 anyD) := ca_D1 fun O H x v y Q rv e k => by
  cases x with
  | list ds =>
    obtain ⟨a, vs, rfl, h1, h2⟩ := rv
    unfold anyD at e
    dsimp only at e
    split at e
    · rename_i ns hn
      cases e
      rw [boolsOf_eq hn] at h2
      rw [repDs_bools h2] at h1
      exact ⟨a, ns, rfl, .inl (.inl h1), k _ rfl⟩
    · cases e
  | _ => cases e
/-! max, min of a list of ints -/
def maxI : List Int → Int
  | [] => 0
  | [x] => x
  | x :: xs => max x (maxI xs)
def minI : List Int → Int
  | [] => 0
  | [x] => x
  | x :: xs => min x (minI xs)
theorem maxI_ok : ∀ {xs : List Int}, xs ≠ [] → maxI xs ∈ xs ∧ ∀ y ∈ xs, y ≤ maxI xs
  | [], h => absurd rfl h
  | [x], _ => ⟨by simp [maxI], by intro y hy; simp at hy; simp [maxI, hy]⟩
  | x :: z :: xs, _ => by
    obtain ⟨h1, h2⟩ := maxI_ok (xs := z :: xs) (by simp)
    refine ⟨?_, fun y hy => ?_⟩
    · show max x (maxI (z :: xs)) ∈ x :: z :: xs
      rcases Int.le_total x (maxI (z :: xs)) with q | q
      · rw [Int.max_eq_right q]; exact List.mem_cons_of_mem _ h1
      · rw [Int.max_eq_left q]; exact List.mem_cons_self
    · show y ≤ max x (maxI (z :: xs))
      rcases List.mem_cons.mp hy with rfl | hy
      · omega
      · have := h2 y hy; omega
theorem minI_ok : ∀ {xs : List Int}, xs ≠ [] → minI xs ∈ xs ∧ ∀ y ∈ xs, minI xs ≤ y
  | [], h => absurd rfl h
  | [x], _ => ⟨by simp [minI], by intro y hy; simp at hy; simp [minI, hy]⟩
  | x :: z :: xs, _ => by
    obtain ⟨h1, h2⟩ := minI_ok (xs := z :: xs) (by simp)
    refine ⟨?_, fun y hy => ?_⟩
    · show min x (minI (z :: xs)) ∈ x :: z :: xs
      rcases Int.le_total x (minI (z :: xs)) with q | q
      · rw [Int.min_eq_left q]; exact List.mem_cons_self
      · rw [Int.min_eq_right q]; exact List.mem_cons_of_mem _ h1
    · show min x (minI (z :: xs)) ≤ y
      rcases List.mem_cons.mp hy with rfl | hy
      · omega
      · have := h2 y hy; omega
def maxLD : D → Option D
  | .list ds => (match intsOf ds with | some (n :: ns) => some (.int (maxI (n :: ns))) | _ => none)
  | _ => none
def minLD : D → Option D
  | .list ds => (match intsOf ds with | some (n :: ns) => some (.int (minI (n :: ns))) | _ => none)
  | _ => none
theorem ca_maxL {X : Cx} : Ca X (rMax X.K) (fD1 maxLD) := ca_D1 fun O H x v y Q rv e k => by
  cases x with
  | list ds =>
    obtain ⟨a, vs, rfl, h1, h2⟩ := rv
    unfold maxLD at e
    dsimp only at e
    split at e
    · rename_i n ns hn
      cases e
      rw [intsOf_eq hn] at h2
      rw [repDs_ints h2] at h1
      refine ⟨a, n :: ns, rfl, .inl (.inl h1), by simp, fun m hm hle => ?_⟩
      obtain ⟨g1, g2⟩ := maxI_ok (xs := n :: ns) (by simp)
      have e1 : m = maxI (n :: ns) := Int.le_antisymm (g2 m hm) (hle _ g1)
      rw [e1]
      exact k _ rfl
    · cases e
  | _ => cases e
theorem ca_minL {X : Cx} : Ca X (rMin X.K) (fD1 minLD) := ca_D1 fun O H x v y Q rv e k => by
  cases x with
  | list ds =>
    obtain ⟨a, vs, rfl, h1, h2⟩ := rv
    unfold minLD at e
    dsimp only at e
    split at e
    · rename_i n ns hn
      cases e
      rw [intsOf_eq hn] at h2
      rw [repDs_ints h2] at h1
      refine ⟨a, n :: ns, rfl, .inl (.inl h1), by simp, fun m hm hle => ?_⟩
      obtain ⟨g1, g2⟩ := minI_ok (xs := n :: ns) (by simp)
      have e1 : m = minI (n :: ns) := Int.le_antisymm (hle _ g1) (g2 m hm)
      rw [e1]
      exact k _ rfl
    · cases e
  | _ => cases e
/-! tuple(x), list(x) -/
/-- tuple(x): a new tuple, or x -/
def fTup : List W → Mem → Rs W
  | [w], m => (match peek m w with | some (.list ds) => .ok (.d (.tuple ds)) m | some (.tuple ds) => .ok (.d (.tuple ds)) m | _ => .no)
  | _, _ => .no
theorem ca_tup {X : Cx} : Ca X (fun xs H Q => ∃ p ys, xs = [.ref p] ∧ ((SqL X.K H p ys ∧ ∀ l, H l = none → Q (.ref l) (upd H l (.tup ys))) ∨ (SqT X.K H p ys ∧ Q (.ref p) H))) fTup := by
  intro E Hd al m H ws vs R Q s rv P k
  match ws, rv with
  | [w], ⟨v, _, h1, h2, h3⟩ =>
    subst h1
    rw [show _ = [] from h3]
    unfold fTup at P
    dsimp only at P
    split at P
    · rename_i ds hx
      obtain ⟨a, vs, rfl, g1, g2⟩ := peek_ok s h2 hx
      exact ⟨a, vs, rfl, .inl ⟨.inl (.inl g1), fun l hl => res_tup s g2 hl P k⟩⟩
    · rename_i ds hx
      obtain ⟨a, vs, rfl, g1, g2⟩ := peek_ok s h2 hx
      exact ⟨a, vs, rfl, .inr ⟨sqP g1, res_d s P ⟨a, vs, rfl, g1, g2⟩ k⟩⟩
    · exact P.elim
  | [], _ => exact P.elim
  | _ :: _ :: _, _ => exact P.elim
def listD : D → Option (List D)
  | .list ds => some ds
  | .tuple ds => some ds
  | _ => none
theorem ca_list {X : Cx} : Ca X (fun xs H Q => ∃ p ys, xs = [.ref p] ∧ (SqL X.K H p ys ∨ SqT X.K H p ys) ∧ ∀ l, H l = none → Q (.ref l) (upd H l (.lst ys))) (fN1 listD) := ca_N1 fun O H x v ys Q rv e k => by
  cases x with
  | list ds => cases e; obtain ⟨a, vs, rfl, g1, g2⟩ := rv; exact ⟨a, vs, rfl, .inl (.inl (.inl g1)), fun l hl => k l vs hl g2⟩
  | tuple ds => cases e; obtain ⟨a, vs, rfl, g1, g2⟩ := rv; exact ⟨a, vs, rfl, .inr (sqP g1), fun l hl => k l vs hl g2⟩
  | _ => cases e
end Den
/-! Den9: subscripts, slices, methods of lists, stores in lists. -/
namespace Den
open PySem PySem.Spec PyProof.Rows L2

/-! ### a[b] -/
def ixD : D → D → Option D
  | .list ds, .int i => atI ds i
  | .tuple ds, .int i => atI ds i
  | .str z, .int i => if small z.length then (match atI z.cps.toList i with | some c => some (.str ⟨#[c]⟩) | none => none) else none
  | _, _ => none
def fIx (w w2 : W) (m : Mem) : Rs W := match peek m w, peek m w2 with | some x, some y => (match ixD x y with | some z => .ok (.d z) m | none => .no) | _, _ => .no
def mIx (a b : EM W) : EM W := mOp2 a b fIx
theorem atI_rep {K : PySem.W.Frag} {O : Addr → Prop} {H : Hp} {ds : List D} {vs : List V} {i : Int} {z : D} (h : RepDs K O H ds vs) (e : atI ds i = some z) : ∃ v, atI vs i = some v ∧ RepD K O H z v := by
  unfold atI at e ⊢
  rw [h.len]
  cases hj : ixN ds.length i with
  | none => rw [hj] at e; cases e
  | some j =>
    rw [hj] at e
    obtain ⟨v, h1, h2⟩ := h.get e
    exact ⟨v, h1, h2⟩
theorem bi_ix {X : Cx} : Bi2 X (rIx X.K) fIx := by
  intro E Hd al m H w v w2 v2 R Q s r1 r2 P k
  unfold fIx at P
  split at P
  · rename_i x y hx hy
    have rx := peek_ok s r1 hx
    have ry := peek_ok s r2 hy
    split at P
    · rename_i z hz
      cases y with
      | int i =>
        cases ry
        cases x with
        | list ds =>
          obtain ⟨a, vs, rfl, g1, g2⟩ := rx
          obtain ⟨u, h1, h2⟩ := atI_rep g2 hz
          exact .inl ⟨a, vs, i, u, rfl, rfl, .inl (.inl g1), h1, res_d s P h2 k⟩
        | tuple ds =>
          obtain ⟨a, vs, rfl, g1, g2⟩ := rx
          obtain ⟨u, h1, h2⟩ := atI_rep g2 hz
          exact .inr (.inl ⟨a, vs, i, u, rfl, rfl, sqP g1, h1, res_d s P h2 k⟩)
        | str t =>
          cases rx
          unfold ixD at hz
          dsimp only at hz
          split at hz
          · rename_i c
            split at hz
            · rename_i u hu
              cases hz
              exact .inr (.inr ⟨t, i, u, rfl, rfl, small_line c, hu, res_d s P rfl k⟩)
            · cases hz
          · cases hz
        | _ => cases hz
      | _ => cases x <;> cases hz
    · exact P.elim
  · exact P.elim
section
variable {X : Cx} {E : St → XK} {ea eb : Expr} {a b : EM W} {pos : Pos}
theorem den_ix (ha : Den X E ea a) (hb : Den X E eb b) (hs : PlainIx eb := by exact fun _ _ => rfl) : Den X E (.Subscript ea eb pos) (mIx a b) := PE.imp (pe_ix ix_seq ha hb hs) fun _ _ _ q => tM_op bi_ix q
end

/-! ### a[lo:hi] -/
def tO (K : PySem.W.Frag) (mg : Str → Option Value) (E : St → XK) (c : EM (Option Int)) : TO := fun σ H Q => ∃ Hd al rho m, Stt K Hd al none H m ∧ EnvOk K mg (Own Hd al m none) al H rho σ ∧
  Post K mg Hd al m H (E σ) (c rho m) fun o al' p m' H' => p = none → Q o H'
abbrev DenO (X : Cx) (E : St → XK) (e : Option Expr) (c : EM (Option Int)) : Prop := PO X e (tO X.K X.mg E c)
def oNone : EM (Option Int) := fun _ m => .ok none m
def oSome (a : EM W) : EM (Option Int) := fun rho m => (a rho m).bindV fun w m1 => match w with | .d (.int i) => .ok (some i) m1 | _ => .no
theorem PO.imp {X : Cx} {e : Option Expr} {t t' : TO} (h : PO X e t) (k : ∀ σ H Q, t' σ H Q → t σ H Q) : PO X e t' := ⟨fun pins s σ H Q I q => h.run pins s σ H Q I (k σ H Q q)⟩
def cutD {α : Type} (xs : List α) (lo hi : Option Int) : List α := (xs.drop (HT.sIx xs.length 0 lo)).take (HT.sIx xs.length xs.length hi - HT.sIx xs.length 0 lo)
def fSl (w : W) (lo hi : Option Int) (m : Mem) : Rs W := match peek m w with
  | some (.list ds) => .ok (.n (.list (cutD ds lo hi))) m
  | some (.tuple ds) => .ok (.d (.tuple (cutD ds lo hi))) m
  | some (.str z) => if small z.length then .ok (.d (.str ⟨(cutD z.cps.toList lo hi).toArray⟩)) m else .no
  | _ => .no
def mSl (a : EM W) (lo hi : EM (Option Int)) : EM W := fun rho m => (a rho m).bindV fun w m1 => (lo rho m1).bind fun l m2 => (hi rho m2).bind fun h m3 => fSl w l h m3
theorem RepDs.cut {K : PySem.W.Frag} {O : Addr → Prop} {H : Hp} {ds : List D} {vs : List V} (h : RepDs K O H ds vs) (lo hi : Option Int) : RepDs K O H (cutD ds lo hi) (cutV vs lo hi) := by
  unfold cutD cutV
  rw [h.len]
  exact (h.drop _).take _
section
variable {X : Cx} {E : St → XK} {ea eb : Expr} {a b : EM W} {pos : Pos} {lo hi : Option Expr} {l h : EM (Option Int)}
theorem do_none : DenO X E none oNone := PO.imp po_none fun σ H Q q => by
  obtain ⟨Hd, al, rho, m, s, e, P⟩ := q
  exact Post.ok s P rfl
theorem do_some (ha : Den X E ea a) : DenO X E (some ea) (oSome a) := PO.imp (po_some ha) fun σ H Q q => by
  obtain ⟨Hd, al, rho, m, s, e, P⟩ := q
  refine ⟨Hd, al, rho, m, s, e, (Post.bindV P).imp fun w al1 p1 m1 H1 g s1 k v rv => ?_⟩
  obtain ⟨g1, s1', rv1, P1⟩ := k v rv
  split at P1
  · rename_i i hw
    rw [hw] at rv1
    exact ⟨i, rv1.2, (P1.ok s1') rfl⟩
  · exact P1.elim
theorem den_sl {p2 : Pos} (ha : Den X E ea a) (hl : DenO X E lo l) (hh : DenO X E hi h) : Den X E (.Subscript ea (.Slice lo hi none p2) pos) (mSl a l h) := PE.imp (pe_slice (sl_list.or (sl_tupA.or sl_str)) ha hl hh) fun σ H Q q => by
  obtain ⟨Hd, al, rho, m, s, e, P⟩ := q
  refine ⟨Hd, al, rho, m, s, e, (Post.bindV P).imp fun w al1 p1 m1 H1 g s1 k v rv => ?_⟩
  obtain ⟨g1, s1', rv1, P1⟩ := k v rv
  refine ⟨Hd, al1, rho, m1, s1', e.go g1, (Post.bind P1).imp fun l al2 p2 m2 H2 g2 s2 k2 hp2 => ?_⟩
  subst hp2
  have P2 := k2 rfl
  refine ⟨Hd, al2, rho, m2, s2, (e.go g1).go g2, (Post.bind P2).imp fun h al3 p3 m3 H3 g3 s3 k3 hp3 => ?_⟩
  subst hp3
  have P3 := k3 rfl
  have rv3 := (rv1.go g2).go g3
  unfold fSl at P3
  split at P3
  · rename_i ds hx
    obtain ⟨a, vs, rfl, q1, q2⟩ := peek_ok s3 rv3 hx
    exact .inl ⟨a, vs, rfl, .inl (.inl q1), fun p hp => res_list s3 (q2.cut l h) hp P3 fun w' al' p m' H' v' q' => q' v'⟩
  · rename_i ds hx
    obtain ⟨a, vs, rfl, q1, q2⟩ := peek_ok s3 rv3 hx
    refine .inr (.inl ⟨a, vs, rfl, sqP q1, fun hw => ?_, fun _ p hp => res_tup s3 (q2.cut l h) hp P3 fun w' al' p m' H' v' q' => q' v'⟩)
    have e1 : cutD ds l h = ds := by
      unfold cutD
      rw [q2.len] at hw
      rw [hw.1, hw.2, List.drop_zero, Nat.sub_zero, List.take_length]
    rw [e1] at P3
    exact (P3.ok s3) _ ⟨rfl, a, vs, rfl, q1, q2⟩
  · rename_i z hx
    have := peek_ok s3 rv3 hx
    cases this
    split at P3
    · rename_i hz
      refine .inr (.inr ⟨z, rfl, small_line hz, ?_⟩)
      have e1 : (⟨(cutD z.cps.toList l h).toArray⟩ : Str) = cutS z l h := by
        unfold cutD cutS
        have : z.cps.toList.length = z.length := by simp [Str.length]
        rw [this]
      rw [← e1]
      exact (P3.ok s3) _ ⟨rfl, rfl⟩
    · exact P3.elim
  · exact P3.elim
end

/-! ### a mutable list is written -/
section
variable {K : PySem.W.Frag} {mg : Str → Option Value} {Hd : Addr → Prop} {al : List Addr} {m : Mem} {H : Hp} {E : XK} {n : Nat} {a : Addr} {x y : D} {o : HO}
theorem live_put (hx : m[n]? = some (some x)) {r : Nat} : Live (m.set n (some y)) r ↔ Live m r := by
  obtain ⟨hn, _⟩ := List.getElem?_eq_some_iff.mp hx
  by_cases e : n = r
  · subst e
    exact ⟨fun _ => ⟨x, hx⟩, fun _ => ⟨y, by rw [List.getElem?_set_self hn]⟩⟩
  · unfold Live
    rw [List.getElem?_set_ne e]
theorem own_put (hx : m[n]? = some (some x)) {b : Addr} : Own Hd al (m.set n (some y)) none b ↔ Own Hd al m none b := by
  unfold Own
  exact ⟨fun h => h.imp (fun ⟨r, h1, h2⟩ => ⟨r, h1, (live_put hx).mp h2⟩) id, fun h => h.imp (fun ⟨r, h1, h2⟩ => ⟨r, h1, (live_put hx).mpr h2⟩) id⟩
theorem go_put (s : Stt K Hd al none H m) (ha : al[n]? = some a) (hx : m[n]? = some (some x)) : Go Hd al m none H al (m.set n (some y)) none (upd H a o) where
  ext := by
    obtain ⟨u, hu, hm⟩ := (s.ob n a x ha hx).some
    refine .of (fun b vs h => ?_) (fun b ob u h => ?_) (fun b ob h nb => ?_) (fun b z => .inl ((own_put hx).mp z))
    · by_cases e : b = a
      · subst e; rw [hu] at h; cases h; exact hm.elim
      · rw [upd_ne e]; exact h
    · by_cases e : b = a
      · subst e; rw [hu] at h; cases h; exact hm.elim
      · rw [upd_ne e]; exact h
    · by_cases e : b = a
      · subst e; exact (nb (.inl ⟨n, ha, x, hx⟩)).elim
      · rw [upd_ne e]; exact h
  pre := fun _ _ h => h
  hid := fun b ob hb h => by
    have : b ≠ a := fun e => by subst e; exact (s.hin b hb).2.2 n ⟨x, hx⟩ ha
    rw [upd_ne this]; exact h
theorem stt_put (s : Stt K Hd al none H m) (ha : al[n]? = some a) (hx : m[n]? = some (some x)) (hy : ObOk K (Own Hd al (m.set n (some y)) none) (upd H a o) y a) : Stt K Hd al none (upd H a o) (m.set n (some y)) where
  len := by rw [List.length_set]; exact s.len
  ob := fun r b z h1 h2 => by
    obtain ⟨hn, _⟩ := List.getElem?_eq_some_iff.mp hx
    by_cases e : n = r
    · subst e
      rw [List.getElem?_set_self hn] at h2
      rw [ha] at h1
      cases h1; cases h2
      exact hy
    · rw [List.getElem?_set_ne e] at h2
      have : b ≠ a := fun eb => by subst eb; exact e (s.inj n r b ha h1 ⟨x, hx⟩ ⟨z, h2⟩)
      exact (s.ob r b z h1 h2).stay (go_put s ha hx).ext (upd_ne this)
  inj := fun r r' b h1 h2 h3 h4 => s.inj r r' b h1 h2 ((live_put hx).mp h3) ((live_put hx).mp h4)
  pnd := fun _ _ h => nomatch h
  hin := fun b hb => by
    obtain ⟨⟨u, hu⟩, h2, h3⟩ := s.hin b hb
    exact ⟨⟨u, (go_put (y := y) (o := o) s ha hx).hid b u hb hu⟩, h2, fun r h => h3 r ((live_put hx).mp h)⟩
/-- a list is written with other items -/
theorem put_list {ds : List D} {vs : List V} (s : Stt K Hd al none H m) (ha : al[n]? = some a) (hx : m[n]? = some (some x)) (h : RepDs K (Own Hd al m none) H ds vs) :
    Go Hd al m none H al (m.set n (some (.list ds))) none (upd H a (.lst vs)) ∧ Stt K Hd al none (upd H a (.lst vs)) (m.set n (some (.list ds))) :=
  have g := go_put (y := .list ds) (o := .lst vs) s ha hx
  ⟨g, stt_put s ha hx ⟨vs, upd_same, h.ext g.ext⟩⟩
end

/-! ### methods -/
/-- a rule for a method by values -/
def Cm (X : Cx) (r : V → List V → Hp → VK → Prop) (f : W → List W → Mem → Rs W) : Prop := ∀ (E : XK) Hd al m H w v ws vs (R : W → List Addr → Option Addr → Mem → Hp → Prop) (Q : VK), Stt X.K Hd al none H m → RepW X.K X.mg (Own Hd al m none) none al H w v → RepWs X.K X.mg (Own Hd al m none) al H ws vs →
  Post X.K X.mg Hd al m H E (f w ws m) R → (∀ w' al' p m' H' v', R w' al' p m' H' → RepW X.K X.mg (Own Hd al' m' p) p al' H' w' v' → Q v' H') → r v vs H Q
/-- the type of what a method is called on -/
inductive Kd where
  | lst | str | dct | int
def Kd.nm : Kd → String
  | .lst => "list" | .str => "str" | .dct => "dict" | .int => "int"
def Kd.ok : Kd → D → Bool
  | .lst, .list _ => true
  | .str, .str _ => true
  | .int, .int _ => true
  | _, _ => false
theorem Kd.ty {K : PySem.W.Frag} {O : Addr → Prop} {H : Hp} {T : Kd} {x : D} {v : V} (h : RepP K O H x v) (e : T.ok x = true) : tyV K T.nm v H := by
  cases T <;> cases x <;> first | (cases e; done) | skip
  · obtain ⟨a, vs, rfl, h1, _⟩ := h; exact .inl ⟨rfl, vs, .inl (.inl h1)⟩
  · cases h; exact rfl
  · cases h; exact rfl
def mM (T : Kd) (o : EM W) (c : EM (List W)) (f : W → List W → Mem → Rs W) : EM W := fun rho m => (o rho m).bindV fun w m1 => match peek m1 w with
  | some x => if T.ok x then (c rho m1).bind fun ws m2 => f w ws m2 else .no
  | none => .no
section
variable {X : Cx} {E : St → XK} {r : V → List V → Hp → VK → Prop} {f : W → List W → Mem → Rs W} {T : Kd} {id : String} {name : Str} {apos cpos : Pos} {o e : Expr} {es : List Expr} {a : EM W} {c : EM (List W)}
theorem tM_m (h : Cm X r f) {σ : St} {H : Hp} {Q : VK} (q : tM X.K X.mg E (mM T a c f) σ H Q) : tBM X.K T.nm r (tM X.K X.mg E a) (tA X.K X.mg E c) σ H Q := by
  obtain ⟨Hd, al, rho, m, s, e, P⟩ := q
  refine ⟨Hd, al, rho, m, s, e, (Post.bindV P).imp fun w al1 p1 m1 H1 g s1 k v rv => ?_⟩
  obtain ⟨g1, s1', rv1, P1⟩ := k v rv
  split at P1
  · rename_i x hx
    split at P1
    · rename_i hT
      refine ⟨Kd.ty (peek_ok s1' rv1 hx) hT, Hd, al1, rho, m1, s1', e.go g1, (Post.bind P1).imp fun ws al2 p2 m2 H2 g2 s2 k2 hp2 vs rvs => ?_⟩
      subst hp2
      exact h _ _ _ _ _ _ _ _ _ _ Q s2 (rv1.go g2) rvs (k2 rfl) fun w' al' p m' H' v' q' => q' v'
    · exact P1.elim
  · exact P1.elim
theorem tM_m0 (h : Cm X r f) {σ : St} {H : Hp} {Q : VK} (q : tM X.K X.mg E (mM T a mNil f) σ H Q) : tBM0 X.K T.nm r (tM X.K X.mg E a) σ H Q := by
  obtain ⟨Hd, al, rho, m, s, e, P⟩ := q
  refine ⟨Hd, al, rho, m, s, e, (Post.bindV P).imp fun w al1 p1 m1 H1 g s1 k v rv => ?_⟩
  obtain ⟨g1, s1', rv1, P1⟩ := k v rv
  split at P1
  · rename_i x hx
    split at P1
    · rename_i hT
      exact ⟨Kd.ty (peek_ok s1' rv1 hx) hT, h _ _ _ _ _ _ _ [] [] _ Q s1' rv1 rfl P1 fun w' al' p m' H' v' q' => q' v'⟩
    · exact P1.elim
  · exact P1.elim
theorem den_m (h : Cm X r f) (pa : PlainAttrs T.nm) (slot : Slot T.nm name id) (hty : typeOf (.builtin id) = pure (.type "method_descriptor")) (hm : MtR X id r) (ho : Den X E o a) (ha : DenA X E (e :: es) c)
    (hbase : attributeBase o name X.env (eval o X.env) = eval o X.env := by rfl)
    (hfew : ((backTo cpos (starEach (e :: es) X.env)).all (fun x => !x.1) && (backToKw cpos (keywordEach [] X.env)).all (fun x => x.1.isSome)
      && decide ((e :: es).length + ([] : List Keyword).length + (if ([] : List Keyword).isEmpty then 0 else 1) < 30)) = true := by rfl)
    (hline : (apos.endLine == cpos.line) = true := by rfl) (hs : starEach (e :: es) X.env = (false, eval e X.env) :: starEach es X.env := by rfl) (hplain : (backTo cpos (starEach es X.env)).any (·.1) = false := by rfl) :
    Den X E (.Call (.Attribute o name apos) (e :: es) [] cpos) (mM T a c f) := PE.imp (pe_bm pa slot hty hm ho ha hbase hfew hline hs hplain) fun _ _ _ q => tM_m h q
theorem den_m0 (h : Cm X r f) (pa : PlainAttrs T.nm) (slot : Slot T.nm name id) (hty : typeOf (.builtin id) = pure (.type "method_descriptor")) (hm : MtR X id r) (ho : Den X E o a)
    (hbase : attributeBase o name X.env (eval o X.env) = eval o X.env := by rfl) (hline : (apos.endLine == cpos.line) = true := by rfl) :
    Den X E (.Call (.Attribute o name apos) [] [] cpos) (mM T a mNil f) := PE.imp (pe_bm0 pa slot hty hm ho hbase hline) fun _ _ _ q => tM_m0 h q
end
def fAppend : W → List W → Mem → Rs W
  | .r n, [w], m => (match frz m w with
    | some (x, m1) => (match m1[n]? with | some (some (.list ds)) => if small (ds.length + 1) then .ok (.d .none) (m1.set n (some (.list (ds ++ [x])))) else .no | _ => .no)
    | none => .no)
  | _, _, _ => .no
theorem repWs1 {K : PySem.W.Frag} {mg : Str → Option Value} {O : Addr → Prop} {al : List Addr} {H : Hp} {w : W} {vs : List V} (h : RepWs K mg O al H [w] vs) : ∃ v, vs = [v] ∧ RepW K mg O none al H w v := by
  obtain ⟨v, r, h1, h2, h3⟩ := h
  rw [show r = [] from h3] at h1
  exact ⟨v, h1, h2⟩
theorem cm_append {X : Cx} : Cm X rAppend fAppend := by
  intro E Hd al m H w v ws vs R Q s r1 r2 P k
  unfold fAppend at P
  split at P
  · rename_i n w1 
    obtain ⟨u, rfl, ru⟩ := repWs1 r2
    split at P
    · rename_i x m1 hx
      obtain ⟨s1, g1, rx⟩ := frz_ok s ru hx
      split at P
      · rename_i ds hd
        split at P
        · rename_i hz
          obtain ⟨a, ha, rfl⟩ := r1.2
          obtain ⟨us, h2, h3⟩ := s1.ob n a _ ha hd
          obtain ⟨g2, s2⟩ := put_list s1 ha hd (h3.append (show RepDs X.K _ H [x] [u] from ⟨u, [], rfl, rx, rfl⟩))
          refine ⟨a, us, u, rfl, rfl, h2, by have := small_line hz; rw [h3.len]; omega, k _ _ _ _ _ _ (P al none _ (g1.trans g2) s2) ⟨rfl, rfl⟩⟩
        · exact P.elim
      · exact P.elim
    · exact P.elim
  · exact P.elim
def fExtend : W → List W → Mem → Rs W
  | .r n, [w], m => (match peek m w with
    | some (.list xs) => (match frz m w with
      | some (_, m1) => (match m1[n]? with | some (some (.list ds)) => if small (ds.length + xs.length) then .ok (.d .none) (m1.set n (some (.list (ds ++ xs)))) else .no | _ => .no)
      | none => .no)
    | _ => .no)
  | _, _, _ => .no
theorem frz_peek {m m1 : Mem} {w : W} {x y : D} (h : frz m w = some (x, m1)) (h2 : peek m w = some y) : x = y := by
  cases w with
  | d z => cases h; cases h2; rfl
  | n z => cases h; cases h2; rfl
  | f z => cases h
  | s z => cases h
  | e z => cases h
  | r n =>
    unfold frz at h
    dsimp only at h
    split at h
    · rename_i z hz
      cases h
      unfold peek at h2
      dsimp only at h2
      rw [hz] at h2
      cases h2; rfl
    · cases h
theorem cm_extend {X : Cx} : Cm X rExtend fExtend := by
  intro E Hd al m H w v ws vs R Q s r1 r2 P k
  unfold fExtend at P
  split at P
  · rename_i n w1 
    obtain ⟨u, rfl, ru⟩ := repWs1 r2
    split at P
    · rename_i xs hp
      split at P
      · rename_i x m1 hx
        obtain ⟨s1, g1, rx⟩ := frz_ok s ru hx
        have e0 := frz_peek hx hp
        subst e0
        obtain ⟨b, zs, rfl, hb, hzs⟩ := rx
        split at P
        · rename_i ds hd
          split at P
          · rename_i hz
            obtain ⟨a, ha, rfl⟩ := r1.2
            obtain ⟨us, h2, h3⟩ := s1.ob n a _ ha hd
            obtain ⟨g2, s2⟩ := put_list s1 ha hd (h3.append hzs)
            exact ⟨a, b, us, zs, rfl, rfl, h2, hb.1, by have := small_line hz; rw [h3.len, hzs.len]; omega, k _ _ _ _ _ _ (P al none _ (g1.trans g2) s2) ⟨rfl, rfl⟩⟩
          · exact P.elim
        · exact P.elim
      · exact P.elim
    · exact P.elim
  · exact P.elim
def fPop : W → List W → Mem → Rs W
  | .r n, [], m => (match m[n]? with | some (some (.list ds)) => (match ds[ds.length - 1]? with | some x => .ok (.d x) (m.set n (some (.list ds.dropLast))) | none => .no) | _ => .no)
  | _, _, _ => .no
theorem RepDs.dropLast {K : PySem.W.Frag} {O : Addr → Prop} {H : Hp} {ds : List D} {vs : List V} (h : RepDs K O H ds vs) : RepDs K O H ds.dropLast vs.dropLast := by
  rw [List.dropLast_eq_take, List.dropLast_eq_take, h.len]
  exact h.take _
theorem cm_pop {X : Cx} : Cm X rPop fPop := by
  intro E Hd al m H w v ws vs R Q s r1 r2 P k
  unfold fPop at P
  split at P
  · rename_i n
    have e0 : vs = [] := r2
    subst e0
    split at P
    · rename_i ds hd
      split at P
      · rename_i x hx
        obtain ⟨a, ha, rfl⟩ := r1.2
        obtain ⟨us, h2, h3⟩ := s.ob n a _ ha hd
        obtain ⟨u, hu, ru⟩ := h3.get hx
        obtain ⟨g2, s2⟩ := put_list s ha hd h3.dropLast
        exact ⟨a, us, u, rfl, rfl, h2, by rw [h3.len]; exact hu, k _ _ _ _ _ _ (P al none _ g2 s2) ⟨rfl, ru.ext g2.ext⟩⟩
      · exact P.elim
    · exact P.elim
  · exact P.elim
def fPopAt : W → List W → Mem → Rs W
  | .r n, [.d (.int i)], m => (match m[n]? with | some (some (.list ds)) => (match ixN ds.length i with
      | some j => (match ds[j]? with | some x => if small ds.length then .ok (.d x) (m.set n (some (.list (ds.eraseIdx j)))) else .no | none => .no) | none => .no) | _ => .no)
  | _, _, _ => .no
theorem RepDs.erase {K : PySem.W.Frag} {O : Addr → Prop} {H : Hp} : ∀ {ds : List D} {vs : List V} (j : Nat), RepDs K O H ds vs → RepDs K O H (ds.eraseIdx j) (vs.eraseIdx j)
  | [], _, _, h => by rw [show _ = [] from h]; exact rfl
  | x :: ds, _, 0, ⟨v, r, h1, h2, h3⟩ => by subst h1; exact h3
  | x :: ds, _, j + 1, ⟨v, r, h1, h2, h3⟩ => by subst h1; exact ⟨v, _, rfl, h2, RepDs.erase j h3⟩
theorem cm_popAt {X : Cx} : Cm X rPopAt fPopAt := by
  intro E Hd al m H w v ws vs R Q s r1 r2 P k
  unfold fPopAt at P
  split at P
  · rename_i n i
    obtain ⟨u0, rfl, ru0⟩ := repWs1 r2
    split at P
    · rename_i ds hd
      split at P
      · rename_i j hj
        split at P
        · rename_i x hx
          split at P
          · rename_i hz
            obtain ⟨a, ha, rfl⟩ := r1.2
            obtain ⟨us, h2, h3⟩ := s.ob n a _ ha hd
            obtain ⟨u, hu, ru⟩ := h3.get hx
            obtain ⟨g2, s2⟩ := put_list s ha hd (h3.erase j)
            obtain ⟨q1, q2, q3, q4⟩ := ixN_seq hj
            have hzz := small_line hz
            have hsl := sizeLine_eq
            have e1 : u0 = .int i := ru0.2
            subst e1
            refine ⟨a, us, i, j, u, rfl, rfl, h2, by omega, by omega, by rw [h3.len]; exact q1, hu, k _ _ _ _ _ _ (P al none _ g2 s2) ⟨rfl, ru.ext g2.ext⟩⟩
          · exact P.elim
        · exact P.elim
      · exact P.elim
    · exact P.elim
  · exact P.elim
def fReverse : W → List W → Mem → Rs W
  | .r n, [], m => (match m[n]? with | some (some (.list ds)) => .ok (.d .none) (m.set n (some (.list ds.reverse))) | _ => .no)
  | _, _, _ => .no
theorem cm_reverse {X : Cx} : Cm X rReverse fReverse := by
  intro E Hd al m H w v ws vs R Q s r1 r2 P k
  unfold fReverse at P
  split at P
  · rename_i n
    have e0 : vs = [] := r2
    subst e0
    split at P
    · rename_i ds hd
      obtain ⟨a, ha, rfl⟩ := r1.2
      obtain ⟨us, h2, h3⟩ := s.ob n a _ ha hd
      obtain ⟨g2, s2⟩ := put_list s ha hd h3.reverse
      exact ⟨a, us, rfl, rfl, h2, k _ _ _ _ _ _ (P al none _ g2 s2) ⟨rfl, rfl⟩⟩
    · exact P.elim
  · exact P.elim
end Den
/-! Den10: sorted of lists and tuples, index, count, stores in lists, name op= e, list(range(..)). -/
namespace Den
open PySem PySem.Spec PyProof.Rows L2

/-! ### sorted -/
section
variable {prog : Program} {w : World} {A : Around} {E : Value → Shared → Prop} {s : Shared}
theorem sorted_seq {T : String} {l : Addr} {o : Obj} {its : List Value} {n : Nat} {Q : Value → Shared → Prop} (hT : T = "list" ∨ T = "tuple") (ho : s.heap.get? l = some o) (hc : o.cls = .type T) (hd : o.data = .seq its.toArray n) (hz : its.length ≤ sizeLine)
    (body : ∀ (h' : Heap) (E' : Value → Shared → Prop), (∀ b u, s.heap.get? b = some u → h'.get? b = some u) → wpAny (model prog w) A.in1.in1 (Builtin.«list.sort» ⟨[.ref h'.objs.size], []⟩) (fun f s' => f = .done (.ret .none) ∧ Q (.ref h'.objs.size) s') E' { s with heap := h'.push (seqObj "list" its.toArray 0) }) :
    wpAny (model prog w) A (call (.builtin "sorted") [.ref l]) Q E s := by
  refine call_function_entry_kw kind_sorted plain_sorted entry_sorted (args_sorted1 _) (show wpAny _ _ (Builtin.«sorted» ⟨[.ref l], []⟩) _ _ _ from ?_)
  unfold Builtin.«sorted»
  refine wpAny_bind (m := checkCount "sorted" 1 1 _) (wpAny_pure (wpAny_bind (wpAny_collect_seq l hT ho hc hd (fun h' hk => ?_) (by rw [List.size_toArray]; exact hz))))
  refine wpAny_bind (wpAny_newList (s := { s with heap := h' }) ?_ (by simpa using hz))
  refine wpAny_bind (wpAny_holding (wpAny_call_entry_kw slot_list_sort ⟨_, Heap.get?_push_size _ rfl, rfl⟩ entry_list_sort (wpAny_mono (body h' _ hk) (fun f s' hf => ⟨.none, hf.1, wpAny_pure ⟨_, rfl, hf.2⟩⟩) fun _ _ e => e) (args_list_sort _)))
end
/-- sorted(xs), xs a list or a tuple of alike data -/
def rSortD (K : PySem.W.Frag) : List V → Hp → VK → Prop := fun xs H Q => ∃ (a : Addr) (bs : List (V × D)), xs = [.ref a] ∧ (SqL K H a (bs.map (·.1)) ∨ SqT K H a (bs.map (·.1))) ∧ (∀ b ∈ bs, Dp K H b.1 b.2) ∧ PySem.W.AllAlike (bs.map (·.2)) ∧ PySem.W.Sortable (bs.map (·.2)) ∧
  (∀ b ∈ bs, b.2.depth ≤ 60) ∧ ∀ p, H p = none → Q (.ref p) (upd H p (.lst ((bs.mergeSort (PySem.W.dataLe false (·.2))).map (·.1))))
section
variable {X : Cx}
theorem each_of {pins : List (Addr × Obj)} {σ : St} {H : Hp} {s : Shared} (I : Inv X pins σ H s) : ∀ {bs : List (V × D)} {us : List Value}, (∀ b ∈ bs, Dp X.K H b.1 b.2) → Vals (bs.map (·.1)) us → PySem.W.EachIs (fun u (b : V × D) => RelV b.1 u ∧ ∃ as, Reads s.heap u b.2 as) us bs
  | [], _, _, .nil => .nil
  | b :: bs, _, h, .cons r t => .cons ⟨r, Dp.reads I _ _ _ (h b (List.mem_cons_self)) r⟩ (each_of I (fun c hc => h c (List.mem_cons_of_mem _ hc)) t)
theorem vals_each : ∀ {us : List Value} {bs : List (V × D)}, PySem.W.EachIs (fun u (b : V × D) => RelV b.1 u) us bs → Vals (bs.map (·.1)) us
  | _, _, .nil => .nil
  | _, _, .cons h t => .cons h (vals_each t)
theorem sort_seq {pins : List (Addr × Obj)} {σ : St} {H : Hp} {s : Shared} {Q : VK} {T : String} {l : Addr} {o : Obj} {its : List Value} {n : Nat} {bs : List (V × D)} (hu : X.A.units + 65 < cLine) (hT : T = "list" ∨ T = "tuple") (ho : s.heap.get? l = some o) (hc : o.cls = .type T)
    (hd : o.data = .seq its.toArray n) (hz : (bs.map (·.1)).length ≤ sizeLine) (I : Inv X pins σ H s) (rv : Vals (bs.map (·.1)) its) (hdp : ∀ b ∈ bs, Dp X.K H b.1 b.2) (hal : PySem.W.AllAlike (bs.map (·.2))) (hk : PySem.W.Sortable (bs.map (·.2))) (hdd : ∀ b ∈ bs, b.2.depth ≤ 60)
    (q : ∀ p, H p = none → Q (.ref p) (upd H p (.lst ((bs.mergeSort (PySem.W.dataLe false (·.2))).map (·.1))))) : wpAny (model X.prog X.w) X.A (call (.builtin "sorted") [.ref l]) (EP X pins σ Q) X.xe s := by
  have hzi : its.length ≤ sizeLine := by rw [← rv.length]; exact hz
  refine sorted_seq hT ho hc hd hzi fun h' E' keep => ?_
  have I1 : Inv X pins σ H { s with heap := h' } := I.kept (t' := s.toks) keep
  have ee := each_of I1 hdp rv
  have atL : (h'.push (seqObj "list" its.toArray 0)).get? h'.objs.size = some (seqObj "list" its.toArray 0) := Heap.get?_push_size _ rfl
  have old : ∀ b u, h'.get? b = some u → (PySem.W.sortingHeap (h'.push (seqObj "list" its.toArray 0)) h'.objs.size its).get? b = some u := fun b u e => PySem.W.sortingHeap_old (Nat.ne_of_lt (Heap.lt_size e)) (Heap.get?_push_of_some _ e)
  have er : PySem.W.EachIs (fun u (b : V × D) => ∃ as, Reads (PySem.W.sortingHeap (h'.push (seqObj "list" its.toArray 0)) h'.objs.size its) u b.2 as) its bs := ee.mono fun u b ⟨_, as, r⟩ => ⟨as, PyProof.Rows.Reads.keeps old r⟩
  have el : its.length = bs.length := by rw [← rv.length, List.length_map]
  refine PySem.W.list_sort_vals (s := { s with heap := h'.push (seqObj "list" its.toArray 0) }) atL (PySem.W.SortsAt.data (s := { s with heap := PySem.W.sortingHeap (h'.push (seqObj "list" its.toArray 0)) h'.objs.size its }) (PySem.W.each_map (R := fun v d => ∃ as, Reads (PySem.W.sortingHeap (h'.push (seqObj "list" its.toArray 0)) h'.objs.size its) v d as) (fun b : V × D => b.2) er) hal hk (fun d hd => ?_)) hzi ⟨rfl, ?_⟩
  · obtain ⟨b, hb, rfl⟩ := List.mem_map.mp hd
    have := hdd b hb
    show X.A.units + 1 + 1 + b.2.depth < cLine
    omega
  · have out := PySem.W.sortVals_data (R := fun u (b : V × D) => RelV b.1 u) false (ee.mono fun _ _ z => z.1) er hal
    have rvo := vals_each out
    obtain ⟨ep, he⟩ := sortedHeap_at (out := (PySem.W.sortVals (PySem.W.dataKind (PySem.W.sortingHeap (h'.push (seqObj "list" its.toArray 0)) h'.objs.size its) (bs.map (·.2))) false its its).toArray) atL
    have hzo : ((bs.mergeSort (PySem.W.dataLe false fun b : V × D => b.2)).map (·.1)).length ≤ sizeLine := by rw [List.length_map, List.length_mergeSort, ← el]; exact hzi
    refine ⟨.ref h'.objs.size, _, I1.laid (t' := s.toks) (a := h'.objs.size) (o := .lst ((bs.mergeSort (PySem.W.dataLe false fun b : V × D => b.2)).map (·.1))) (fun b u e => ?_) (Nat.le_refl _) (show _ ∧ _ from ⟨hzo, _, ep, rvo, he⟩), rfl, q _ (I1.hok.fresh (Nat.le_refl _))⟩
    have hlt : b < h'.objs.size := Heap.lt_size e
    have e2 := Heap.get?_push_of_some (seqObj "list" its.toArray 0) e
    rw [sortedHeap_old (Nat.ne_of_lt hlt) (Heap.lt_size e2)]
    exact e2
theorem cr_sortD (hu : X.A.units + 65 < cLine) : CallR X (.builtin "sorted") (rSortD X.K) := by
  intro pins s σ H vs us Q I r h
  obtain ⟨a, bs, rfl, hs, hdp, hal, hk, hdd, q⟩ := h
  rw [Vals.ref1 r]
  rcases hs with hs | hs
  · obtain ⟨its, rv, ⟨o, n, ho, hc, hdn, hd⟩, hz⟩ := I.list hs
    exact sort_seq hu (.inl rfl) ho hc hd hz I rv hdp hal hk hdd q
  · obtain ⟨its, rv, ⟨o, ho, hc, n, hd⟩, hz⟩ := I.tuple hs
    exact sort_seq hu (.inr rfl) ho hc hd hz I rv hdp hal hk hdd q
end
def alikeAllB (ds : List D) : Bool := ds.all fun d => ds.all fun d' => PySem.W.alike d d'
def tupConsB : D → Bool
  | .tuple (_ :: _) => true
  | _ => false
def plainB : D → Bool
  | .none => false
  | .tuple _ => false
  | _ => true
def sortD : D → Option (List D)
  | .list ds => if alikeAllB ds && (ds.all tupConsB || ds.all plainB) && ds.all (fun d => decide (d.depth ≤ 60) && !d.hasDict) then some (ds.mergeSort (PySem.W.dataLe false id)) else none
  | .tuple ds => if alikeAllB ds && (ds.all tupConsB || ds.all plainB) && ds.all (fun d => decide (d.depth ≤ 60) && !d.hasDict) then some (ds.mergeSort (PySem.W.dataLe false id)) else none
  | _ => none
section
variable {K : PySem.W.Frag} {O : Addr → Prop} {H : Hp}
theorem alikeAllB_ok {ds : List D} (h : alikeAllB ds = true) : PySem.W.AllAlike ds := fun d hd d' hd' => List.all_eq_true.mp (List.all_eq_true.mp h d hd) d' hd'
theorem sortableB_ok {ds : List D} (h : (ds.all tupConsB || ds.all plainB) = true) : PySem.W.Sortable ds := by
  rcases Bool.or_eq_true_iff.mp h with h | h
  · refine .inl fun d hd => ?_
    have := List.all_eq_true.mp h d hd
    cases d with
    | tuple xs => cases xs with
      | nil => cases this
      | cons x r => exact ⟨x, r, rfl⟩
    | _ => cases this
  · refine .inr fun d hd => ?_
    have := List.all_eq_true.mp h d hd
    cases d with
    | none => cases this
    | tuple xs => cases this
    | _ => exact ⟨fun e => (nomatch e), fun xs e => (nomatch e)⟩
theorem repDs_zip : ∀ {ds : List D} {vs : List V}, RepDs K O H ds vs → (vs.zip ds).map (·.1) = vs ∧ (vs.zip ds).map (·.2) = ds ∧ ∀ b ∈ vs.zip ds, RepD K O H b.2 b.1
  | [], _, h => by rw [show _ = [] from h]; exact ⟨rfl, rfl, fun b hb => (nomatch hb)⟩
  | x :: ds, _, ⟨v, r, h1, h2, h3⟩ => by
    subst h1
    obtain ⟨q1, q2, q3⟩ := repDs_zip h3
    refine ⟨by rw [List.zip_cons_cons, List.map_cons, q1], by rw [List.zip_cons_cons, List.map_cons, q2], fun b hb => ?_⟩
    rw [List.zip_cons_cons] at hb
    rcases List.mem_cons.mp hb with rfl | hb
    · exact h2
    · exact q3 b hb
theorem zip_repDs : ∀ {bs : List (V × D)}, (∀ b ∈ bs, RepD K O H b.2 b.1) → RepDs K O H (bs.map (·.2)) (bs.map (·.1))
  | [], _ => rfl
  | b :: bs, h => ⟨_, _, rfl, h b List.mem_cons_self, zip_repDs fun c hc => h c (List.mem_cons_of_mem _ hc)⟩
theorem sort_rep {ds : List D} {vs : List V} (h : RepDs K O H ds vs) : RepDs K O H (ds.mergeSort (PySem.W.dataLe false id)) (((vs.zip ds).mergeSort (PySem.W.dataLe false (·.2))).map (·.1)) := by
  obtain ⟨q1, q2, q3⟩ := repDs_zip h
  have e : ds.mergeSort (PySem.W.dataLe false id) = ((vs.zip ds).mergeSort (PySem.W.dataLe false (·.2))).map (·.2) := by
    have e1 := List.map_mergeSort (r := PySem.W.dataLe false fun b : V × D => b.2) (s := PySem.W.dataLe false id) (f := fun b : V × D => b.2) (l := vs.zip ds) fun a _ b _ => rfl
    rw [e1, q2]
  rw [e]
  exact zip_repDs fun b hb => q3 b (List.mem_mergeSort.mp hb)
theorem ca_sort {X : Cx} : Ca X (rSortD X.K) (fN1 sortD) := ca_N1 fun O H x v ys Q rv e k => by
  have go : ∀ (ds : List D) (vs : List V), RepDs X.K O H ds vs → (if alikeAllB ds && (ds.all tupConsB || ds.all plainB) && ds.all (fun d => decide (d.depth ≤ 60) && !d.hasDict) then some (ds.mergeSort (PySem.W.dataLe false id)) else none) = some ys → ∀ a, (SqL X.K H a vs ∨ SqT X.K H a vs) → rSortD X.K [.ref a] H Q := by
    intro ds vs h2 e a h1
    obtain ⟨c, e⟩ := ite_none e
    cases e
    obtain ⟨q1, q2, q3⟩ := repDs_zip h2
    simp only [Bool.and_eq_true] at c
    obtain ⟨⟨c1, c2⟩, c3⟩ := c
    have c4 := List.all_eq_true.mp c3
    have mem2 : ∀ b ∈ vs.zip ds, b.2 ∈ ds := fun b hb => by rw [← q2]; exact List.mem_map_of_mem hb
    refine ⟨a, vs.zip ds, rfl, by rw [q1]; exact h1, fun b hb => ?_, by rw [q2]; exact alikeAllB_ok c1, by rw [q2]; exact sortableB_ok c2, fun b hb => ?_, fun p hp => k p _ hp (sort_rep h2)⟩
    · have := c4 _ (mem2 b hb)
      simp only [Bool.and_eq_true, Bool.not_eq_true'] at this
      exact RepD.dp _ _ (q3 b hb) this.2
    · have := c4 _ (mem2 b hb)
      simp only [Bool.and_eq_true, decide_eq_true_eq] at this
      exact this.1
  cases x with
  | list ds => obtain ⟨a, vs, rfl, h1, h2⟩ := rv; exact go ds vs h2 e a (.inl (.inl (.inl h1)))
  | tuple ds => obtain ⟨a, vs, rfl, h1, h2⟩ := rv; exact go ds vs h2 e a (.inr (sqP h1))
  | _ => cases e
end

/-! ### l.index(x), l.count(x) -/
def rCntD (K : PySem.W.Frag) : V → List V → Hp → VK → Prop := fun x xs H Q => ∃ (a : Addr) (y : V) (d : D) (ds : List D), x = V.ref a ∧ xs = [y] ∧ Dp K H (V.ref a) (.list ds) ∧ Dp K H y d ∧
  SeqAt.shaped (.list ds) = true ∧ SeqAt.shaped d = true ∧ Q (.int (ds.countP fun z => PyData.eqv z d : Nat)) H
theorem mt_countD {X : Cx} (hu : X.A.units + 65 < cLine) : MtR X "list.count" (rCntD X.K) := by
  intro pins s σ H x xs v us Q I rx rxs h
  obtain ⟨a, y, d, ds, rfl, rfl, hl, hy, sl, sd, q⟩ := h
  cases rx
  obtain ⟨uy, rfl, ry⟩ := rxs.one
  obtain ⟨bs, rd1⟩ := Dp.reads I d y uy hy ry
  cases hl with
  | lst hs ha =>
    obtain ⟨its, rv, ⟨⟨cls, dd, data, sls⟩, n, ho, hc, hdn, hdt⟩, hlen⟩ := I.list hs
    simp only at hc hdt
    subst hc hdt
    obtain ⟨as, rd2⟩ := Dp.readsAll I ds _ its ha rv
    have cl : PyData.canLayAll0 ds = true := SeqAt.canLay_of_shaped sl
    have hm : its.map (SeqAt.readOf s.heap) = ds := SeqAt.readsAll_map ds its as cl rd2
    have ec : its.toArray.toList.countP (fun u => PyData.eqv (SeqAt.readOf s.heap u) d) = ds.countP fun z => PyData.eqv z d := by
      rw [← hm, List.countP_map]; rfl
    refine call_meets PySem.F.slot_list_count ⟨_, ho, rfl⟩ PySem.F.entry_list_count (PySem.F.args_list_count_2 _ _) (SeqAt.list_countAt a its.toArray n dd sls uy fun u => PyData.eqv (SeqAt.readOf s.heap u) d)
      ⟨ho, SeqAt.items_eqAt (vs := its.toArray) (show ReadsAll s.heap its.toArray.toList ds as from rd2) rd1 cl (SeqAt.canLay_of_shaped sd) (room_in_shaped sd hu), .int _, H, I.tok _, ⟨s.toks, ?_⟩, q⟩
    show Value.int ((its.toArray.toList.countP (fun u => PyData.eqv (SeqAt.readOf s.heap u) d) : Nat) : Int) s.toks = Value.int ((ds.countP fun z => PyData.eqv z d : Nat) : Int) s.toks
    rw [ec]
/-- one argument, data: a method that changes nothing -/
def fMD (g : D → D → Option D) : W → List W → Mem → Rs W
  | w, [w2], m => (match peek m w, peek m w2 with | some x, some y => (match g x y with | some z => .ok (.d z) m | none => .no) | _, _ => .no)
  | _, _, _ => .no
theorem cm_D {X : Cx} {r : V → List V → Hp → VK → Prop} {g : D → D → Option D} (h : ∀ (O : Addr → Prop) (H : Hp) x y v v2 z (Q : VK), RepP X.K O H x v → RepP X.K O H y v2 → g x y = some z → (∀ v', RepD X.K O H z v' → Q v' H) → r v [v2] H Q) : Cm X r (fMD g) := by
  intro E Hd al m H w v ws vs R Q s r1 r2 P k
  match ws, r2 with
  | [w2], r2 =>
    obtain ⟨v2, rfl, h2⟩ := repWs1 r2
    unfold fMD at P
    dsimp only at P
    split at P
    · rename_i x y hx hy
      split at P
      · rename_i z hz
        exact h _ H x y v v2 z Q (peek_ok s r1 hx) (peek_ok s h2 hy) hz fun v' rv' => k _ _ _ _ _ _ (P.ok s) ⟨rfl, rv'⟩
      · exact P.elim
    · exact P.elim
  | [], _ => exact P.elim
  | _ :: _ :: _, _ => exact P.elim
def cntD : D → D → Option D
  | .list ds, d => if SeqAt.shaped (.list ds) && SeqAt.shaped d then some (.int (ds.countP fun z => PyData.eqv z d : Nat)) else none
  | _, _ => none
theorem cm_count {X : Cx} : Cm X (rCntD X.K) (fMD cntD) := cm_D fun O H x y v v2 z Q r1 r2 e k => by
  cases x with
  | list ds =>
    obtain ⟨c, e⟩ := ite_none e
    cases e
    simp only [Bool.and_eq_true] at c
    have dl := r1.dp (noDict_shaped c.1)
    obtain ⟨a, vs, rfl, h1, h2⟩ := r1
    exact ⟨a, v2, y, ds, rfl, rfl, dl, r2.dp (noDict_shaped c.2), c.1, c.2, k _ rfl⟩
  | _ => cases e
/-- the first place of an equal one -/
def firstEq (d : D) : List D → Nat → Option Nat
  | [], _ => none
  | z :: ds, j => if PyData.eqv z d = true then some j else firstEq d ds (j + 1)
theorem firstEq_ok {d : D} : ∀ {ds : List D} {k j : Nat}, firstEq d ds k = some j → k ≤ j ∧ ∃ z, ds[j - k]? = some z ∧ PyData.eqv z d = true ∧ ∀ (m : Nat) z', m < j - k → ds[m]? = some z' → PyData.eqv z' d = false
  | [], _, _, h => by cases h
  | z :: ds, k, j, h => by
    unfold firstEq at h
    split at h
    · rename_i hz
      cases h
      exact ⟨Nat.le_refl _, z, by rw [Nat.sub_self]; rfl, hz, fun m z' hm => absurd hm (by omega)⟩
    · rename_i hz
      obtain ⟨q1, z2, q2, q3, q4⟩ := firstEq_ok h
      have ej : j - k = (j - (k + 1)) + 1 := by omega
      refine ⟨by omega, z2, by rw [ej]; exact q2, q3, fun m z' hm hmz => ?_⟩
      cases m with
      | zero => cases hmz; exact Bool.eq_false_iff.mpr hz
      | succ m => exact q4 m z' (by omega) hmz
def indD : D → D → Option D
  | .list ds, d => if SeqAt.shaped (.list ds) && SeqAt.shaped d then (match firstEq d ds 0 with | some j => some (.int (j : Nat)) | none => none) else none
  | _, _ => none
theorem cm_index {X : Cx} : Cm X (rIndexD X.K) (fMD indD) := cm_D fun O H x y v v2 z Q r1 r2 e k => by
  cases x with
  | list ds =>
    unfold indD at e
    dsimp only at e
    split at e
    · rename_i c
      split at e
      · rename_i j hj
        cases e
        simp only [Bool.and_eq_true] at c
        have dl := r1.dp (noDict_shaped c.1)
        obtain ⟨a, vs, rfl, h1, h2⟩ := r1
        obtain ⟨_, z2, q2, q3, q4⟩ := firstEq_ok hj
        rw [Nat.sub_zero] at q2 q4
        exact ⟨a, v2, y, ds, j, z2, rfl, rfl, dl, r2.dp (noDict_shaped c.2), c.1, c.2, q2, q3, q4, k _ rfl⟩
      · cases e
    · cases e
  | _ => cases e

/-! ### list(range(..)) -/
def tRgM (K : PySem.W.Frag) (mg : Str → Option Value) (E : St → XK) (c : EM (Int × Int)) : St → Hp → (Int → Int → Hp → Prop) → Prop := fun σ H Q => ∃ Hd al rho m, Stt K Hd al none H m ∧ EnvOk K mg (Own Hd al m none) al H rho σ ∧
  Post K mg Hd al m H (E σ) (c rho m) fun b al' p m' H' => p = none → Q b.1 b.2 H'
abbrev DenRg (X : Cx) (E : St → XK) (e : Expr) (c : EM (Int × Int)) : Prop := PRg X e (tRgM X.K X.mg E c)
def mRg1 (a : EM W) : EM (Int × Int) := fun rho m => (a rho m).bindV fun w m1 => match w with | .d (.int i) => .ok (0, i) m1 | _ => .no
def mRg2 (a b : EM W) : EM (Int × Int) := fun rho m => (a rho m).bindV fun w m1 => (b rho m1).bindV fun w2 m2 => match w, w2 with | .d (.int i), .d (.int j) => .ok (i, j) m2 | _, _ => .no
def rgOk (i j : Int) : Bool := decide (-(2 ^ 62) ≤ i ∧ i < 2 ^ 62 ∧ -(2 ^ 62) ≤ j ∧ j < 2 ^ 62 ∧ (j - i).toNat ≤ 2 ^ 20)
def mLstRg (c : EM (Int × Int)) : EM W := fun rho m => (c rho m).bind fun b m1 => if rgOk b.1 b.2 then .ok (.n (.list (rangeD b.1 b.2))) m1 else .no
theorem rep_rg {K : PySem.W.Frag} {O : Addr → Prop} {H : Hp} (i j : Int) : RepDs K O H (rangeD i j) (rgV i j) := by
  unfold rangeD rgV
  have : ∀ (l : List Nat) (f : Nat → Int), RepDs K O H (l.map fun k => .int (f k)) (l.map fun k => V.int (f k)) := by
    intro l f
    induction l with
    | nil => exact rfl
    | cons x l ih => exact ⟨_, _, rfl, rfl, ih⟩
  exact this _ fun k => i + (k : Int)
section
variable {X : Cx} {E : St → XK} {ea eb : Expr} {a b : EM W} {c : EM (Int × Int)} {p pos : Pos}
theorem drg_1 (hg : Gl X "range") (hm : X.mg "range" = none) (ha : Den X E ea a) (na : starEach [ea] X.env = (false, eval ea X.env) :: starEach [] X.env := by rfl) : DenRg X E (.Call (.Name "range" p) [ea] [] pos) (mRg1 a) := fun pins s σ H Q I q => by
  refine prg_1 hg hm ha na pins s σ H Q I ?_
  obtain ⟨Hd, al, rho, m, s, e, P⟩ := q
  refine ⟨Hd, al, rho, m, s, e, (Post.bindV P).imp fun w al1 p1 m1 H1 g s1 k v rv => ?_⟩
  obtain ⟨g1, s1', rv1, P1⟩ := k v rv
  split at P1
  · rename_i i hw
    rw [hw] at rv1
    exact ⟨i, rv1.2, (P1.ok s1') rfl⟩
  · exact P1.elim
theorem drg_2 (hg : Gl X "range") (hm : X.mg "range" = none) (ha : Den X E ea a) (hb : Den X E eb b) (na : starEach [ea, eb] X.env = (false, eval ea X.env) :: starEach [eb] X.env := by rfl)
    (nb : starEach [eb] X.env = (false, eval eb X.env) :: starEach [] X.env := by rfl) (hp : (backTo pos (starEach [eb] X.env)).any (·.1) = false := by rfl) : DenRg X E (.Call (.Name "range" p) [ea, eb] [] pos) (mRg2 a b) := fun pins s σ H Q I q => by
  refine prg_2 hg hm ha hb na nb hp pins s σ H Q I ?_
  obtain ⟨Hd, al, rho, m, s, e, P⟩ := q
  refine ⟨Hd, al, rho, m, s, e, (Post.bindV P).imp fun w al1 p1 m1 H1 g s1 k v rv => ?_⟩
  obtain ⟨g1, s1', rv1, P1⟩ := k v rv
  refine ⟨Hd, al1, rho, m1, s1', e.go g1, (Post.bindV P1).imp fun w2 al2 p2 m2 H2 g2 s2 k2 v2 rw2 => ?_⟩
  obtain ⟨g3, s2', rv2, P2⟩ := k2 v2 rw2
  split at P2
  · rename_i i j hw hw2
    rw [hw] at rv1
    rw [hw2] at rv2
    exact ⟨i, j, rv1.2, rv2.2, (P2.ok s2') rfl⟩
  · exact P2.elim
theorem den_lstRg {p2 : Pos} (hc : X.calm = true) (hg : Gl X "list") (hm : X.mg "list" = none) (he : DenRg X E ea c) (na : starEach [ea] X.env = (false, eval ea X.env) :: starEach [] X.env := by rfl) : Den X E (.Call (.Name "list" p2) [ea] [] pos) (mLstRg c) := PE.imp (pe_listRg hc hg hm he na) fun σ H Q q => by
  obtain ⟨Hd, al, rho, m, s, e, P⟩ := q
  refine ⟨Hd, al, rho, m, s, e, (Post.bind P).imp fun b al1 p1 m1 H1 g s1 k hp => ?_⟩
  subst hp
  have P1 := k rfl
  split at P1
  · rename_i hz
    have hz' := of_decide_eq_true hz
    exact ⟨⟨hz'.1, hz'.2.1, hz'.2.2.1, hz'.2.2.2.1, Nat.le_trans hz'.2.2.2.2 (by decide)⟩, fun q hq => res_list s1 (rep_rg _ _) hq P1 fun w' al' p m' H' v' q' => q' v'⟩
  · exact P1.elim
end

/-! ### o[i] = e, name op= e -/
def putD : D → W → D → Option D
  | .list ds, .d (.int k), x => (match ixN ds.length k with | some j => some (.list (ds.set j x)) | none => none)
  | _, _, _ => none
def gSubM (a b : EM W) : GM := fun w rho m => match a rho m with
  | .ok (.r n) m1 => (match b rho m1 with
    | .ok i m2 => (match frz m2 w with
      | some (x, m3) => (match m3[n]? with
        | some (some o) => (match putD o (val i) x with | some o' => some (rho, m3.set n (some o')) | none => none)
        | _ => none)
      | none => none)
    | _ => none)
  | _ => none
theorem RepDs.put {K : PySem.W.Frag} {O : Addr → Prop} {H : Hp} : ∀ {ds : List D} {vs : List V} (j : Nat) {x : D} {v : V}, RepDs K O H ds vs → RepD K O H x v → RepDs K O H (ds.set j x) (vs.set j v)
  | [], _, _, _, _, h, _ => by rw [show _ = [] from h]; exact rfl
  | y :: ds, _, 0, x, v, ⟨u, r, h1, h2, h3⟩, hx => by subst h1; exact ⟨v, r, rfl, hx, h3⟩
  | y :: ds, _, j + 1, x, v, ⟨u, r, h1, h2, h3⟩, hx => by subst h1; exact ⟨u, _, rfl, h2, RepDs.put j h3 hx⟩
section
variable {X : Cx} {E : St → XK} {ea eb : Expr} {a b : EM W} {p pos : Pos}
theorem dg_sub (ha : Den X E ea a) (hb : Den X E eb b) (hs : ∀ v, assign (.Subscript ea eb pos) X.env v = (do
      let ov ← holding [v] (eval ea X.env); let iv ← holding [v, ov] (eval eb X.env)
      standAt pos; holding [v, ov, iv] (setItem ov iv v); release [v, ov, iv] []) := by intro _; rfl) : DenG X (.Subscript ea eb pos) (gSubM a b) [] := PG.imp (pg_sub ha hb set_list hs) fun v σ H Q q => by
  obtain ⟨Hd, al, rho, m, w, s, e, rv, P⟩ := q
  unfold gSubM at P
  split at P
  · rename_i n m1 ho
    split at P
    · rename_i i m2 hi
      split at P
      · rename_i x m3 hx
        split at P
        · rename_i o hn
          split at P
          · rename_i o' hp
            refine ⟨Hd, al, rho, m, s, e, ?_⟩
            rw [ho]
            intro al1 p1 H1 g1 s1 vo ro
            obtain ⟨e1, aa, ha1, rfl⟩ := ro
            subst e1
            refine ⟨Hd, al1, rho, m1, s1, e.go g1, ?_⟩
            rw [hi]
            intro al2 p2 H2 g2 s2 vi ri
            have g2' := g2.trans Go.settle
            have ri' := val_ok s2 ri
            have s2' := s2.settle
            obtain ⟨s3, g3, rx⟩ := frz_ok s2' ((rv.go g1).go g2') hx
            have ha3 : al2[n]? = some aa := g2'.pre _ _ ha1
            cases o with
            | list ds =>
              cases hvi : val i with
              | d y =>
                rw [hvi] at ri' hp
                cases y with
                | int k =>
                  have ev : vi = .int k := ri'.2
                  subst ev
                  unfold putD at hp
                  dsimp only at hp
                  split at hp
                  · rename_i j hj
                    cases hp
                    obtain ⟨us, h2, h3⟩ := s3.ob n aa _ ha3 hn
                    obtain ⟨g4, s4⟩ := put_list s3 ha3 hn (h3.put j rx)
                    exact ⟨aa, us, k, j, rfl, rfl, h2, by rw [h3.len]; exact hj, P _ _ _ (((g1.trans g2').trans g3).trans g4) s4 ((((e.go g1).go g2').go g3).go g4) Off.refl⟩
                  · cases hp
                | _ => cases hp
              | _ => rw [hvi] at hp; cases hp
            | _ => cases hp
          · exact P.elim
        · exact P.elim
      · exact P.elim
    · exact P.elim
  · exact P.elim
/-- name += e, name -= e -/
def sAugI (i : Nat) (f : Int → Int → Int) (a : EM W) : SM := fun rho m => match rho[i]? with
  | some (some (.d (.int x))) => (a rho m).thenV rho fun w m1 => match w with | .d (.int y) => .nx (rho.set i (some (.d (.int (f x y))))) m1 | _ => .no
  | _ => .no
theorem ds_augI {i : Nat} {x : Str} {e : Expr} {op : Operator} {f : Int → Int → Int} {pos' : Pos} (hN : X.N.Nodup) (ho : PIp X op (ipI f)) (he : Den X E e a) (hi : X.N[i]? = some x := by rfl) (hx : Loc X.env.scope x := by first | exact Or.inl rfl | exact Or.inr rfl)
    (hf : X.fn x = true ∨ X.env.scope.names.lookup x = some .local := by first | exact .inl rfl | exact .inr rfl | assumption) : DenS X E (.AugAssign (.Name x pos') op e pos) (sAugI i f a) := PS.imp (ps_aug hN hi hx he ho hf) fun Dn σ H q => by
  obtain ⟨Hd, al, rho, m, s, e, P⟩ := q
  unfold sAugI at P
  split at P
  · rename_i z hz
    obtain ⟨v, h1, h2⟩ := e.2 i _ hz
    have ev : v = .int z := h2.2
    subst ev
    refine ⟨_, h1, Hd, al, rho, m, s, e, (PostS.ofV e P).imp fun w al1 p1 m1 H1 g s1 k v rv => ?_⟩
    obtain ⟨g1, s1', rv1, P1⟩ := k v rv
    split at P1
    · rename_i y hw
      rw [hw] at rv1
      exact ⟨z, y, rfl, rv1.2, P1 al1 H1 _ Go.refl s1' ((e.go g1).set ⟨rfl, rfl⟩)⟩
    · exact P1.elim
  · exact P.elim
end
end Den
/-! Den11: caught errors and their kinds, a callee picked from a list, ghosts. -/
namespace Den
open PySem PySem.Spec PyProof.Rows L2

/-! ### a def called within an except suite, of the caught error -/
abbrev cxE (P : Program) (w : World) (K : PySem.W.Frag) (mg : Str → Option Value) (base : Heap) (N : List Str) (qual : Str) (scope : Scope) (f : Addr) (cd : Value) (A : Around) (outer : List PySem.Env) (s : Shared) (H : Hp) (p : Addr × Obj) : Cx :=
  (cxOf (L2N.CX P w) P w K mg base N qual scope f cd A outer s H fun _ _ _ => False).suite p.1 [p]
section
variable {P : Program} {w : World} {K : PySem.W.Frag} {mg : Str → Option Value} {base : Heap} {k : Nat} {f : Addr} {x : Str} {st : Stmt} {fd : FuncData} {N ps : List Str}
theorem fn_E (F : Fun K x x st f fd) (S : FnScope N ps (defScope st)) {p : Addr × Obj} {A : Around} {outer : List PySem.Env} {s : Shared} {H : Hp} {args : Args} {us : List Value} {vs : List V} {Q : VK} {E : XK}
    (hr : L2H.RoomH (k + 1) A) (hh : A.handled = some (.ref p.1)) (hpin : L2H.PinOk outer H s p) (e0 : Env0 P w K mg base A outer s H) (hb : BindsTo s fd args (ps.zip us)) (r : Vals vs us) (hl : vs.length = ps.length)
    (hbody : ∀ cdv : Value, L2H.RoomH k (A.deeper (envOfC x (defScope st) s.heap.objs.size f cdv)) → ∃ t, PSs (cxE P w K mg base N x (defScope st) f cdv A outer s H p) (defBody st) t ∧ t { nx := fun _ H' => Q .non H', rt := Q } (L2.start N vs) H) :
    codeAny (model P w) A (.call (.ref f) args) (CR (L2N.CX P w) outer P w H s Q E) s := by
  obtain ⟨oc, od, kV, doc, pm, an, cdv, ct, osl, rfl, lk, hcd⟩ := F.ex
  obtain ⟨t, ht, hq⟩ := hbody cdv (hr.deeper _)
  refine Att.call_fn (e0.mod.kin.keeps fun b o e => (e0.bs b o e).1) (e0.mod.nolimit.keeps fun b o e => (e0.bs b o e).1) lk hcd hr.depth hb ?_ (fun s1 ic => ?_) S.co S.gen S.kind
  · refine List.all_eq_true.mpr fun y hy => ?_
    rcases S.par y.1 (List.of_mem_zip (a := y.1) (b := y.2) hy).1 with q | q
    · rw [q]; rfl
    · rw [q]; rfl
  · have I0 := L2H.inv_startH (CX := L2N.CX P w) (E := fun _ _ _ => False) S hpin e0 hl r ic
    have eA : (A.deeper (envOfC x (defScope st) s.heap.objs.size f cdv)).mark (some (.ref p.1)) = A.deeper (envOfC x (defScope st) s.heap.objs.size f cdv) := by
      unfold Around.mark Around.deeper
      rw [Option.some_or, ← hh]
    have eX : cxE P w K mg base N x (defScope st) f cdv A outer s H p = (L2H.cxH (L2N.CX P w) P w K mg base N x (defScope st) f cdv A outer s H (fun _ _ _ => False) p).wish fun _ _ => False := by
      unfold cxE L2H.cxH Cx.suite Cx.wish
      unfold cxOf
      dsimp only
      rw [eA]
    have I1 : L2.Inv (cxE P w K mg base N x (defScope st) f cdv A outer s H p) [] (L2.start N vs) H s1 := by
      rw [eX]; exact I0.wish _
    have run := ht.run [] s1 _ H _ I1 hq
    rw [show (cxE P w K mg base N x (defScope st) f cdv A outer s H p).A = A.deeper (envOfC x (defScope st) s.heap.objs.size f cdv) from eA] at run
    refine wpAny_mono run (fun fl s' h => ?_) fun e s' z => z.elim
    cases fl with
    | ret u => obtain ⟨v, σ', H', J, rv, q⟩ := h; exact ⟨v, H', J.os, J.bare, J.base, J.hok, rv, q⟩
    | next => obtain ⟨σ', H', J, q⟩ := h; exact ⟨.non, H', J.os, J.bare, J.base, J.hok, rfl, q⟩
    | brk => obtain ⟨_, _, _, q⟩ := h; exact q.elim
    | cont => obtain ⟨_, _, _, q⟩ := h; exact q.elim
end
/-- isinstance(error, C) of the error at a, which slot i holds -/
def mIsE (a : Addr) (i : Nat) (b : Bool) : EM W := fun rho m => match rho[i]? with
  | some (some (.e a')) => if a' = a then .ok (.d (.bool b)) m else .no
  | _ => .no
section
variable {X : Cx} {E : St → XK} {a C D : Addr} {oe : Obj} {pn : List (Addr × Obj)} {b : Bool} {x y : Str} {p q q2 pos : Pos}
theorem den_isE (i : Nat) (EC : ExcC X.K C) (hz : Zc (.ref C) none oe) (hf : ∃ vs, oe.data = .fields vs) (hk : PySem.W.kitOne X.K (.ref C) (.ref D) = some b) (gD : X.mg y = some (.ref D)) (hm : X.mg "isinstance" = none) (hgy : Gl (X.suite a ((a, oe) :: pn)) y) (hg : Gl (X.suite a ((a, oe) :: pn)) "isinstance" := by rfl)
    (hN : X.N[i]? = some x := by rfl) (hv : Vis X.env.scope x := by first | exact Or.inl rfl | exact Or.inr (Or.inl rfl) | exact Or.inr (Or.inr rfl)) (hd : (x == ("__debug__" : Str)) = false := by decide) (hd2 : (y == ("__debug__" : Str)) = false := by decide)
    (hcd : (x == ("__classdict__" : Str)) = false := by decide) (he : starEach [.Name x q, .Name y q2] X.env = (false, eval (.Name x q) X.env) :: starEach [.Name y q2] X.env := by rfl) (he2 : starEach [.Name y q2] X.env = [(false, eval (.Name y q2) X.env)] := by rfl)
    (hpl : (backTo pos (starEach [.Name y q2] X.env)).any (·.1) = false := by rfl) : Den (X.suite a ((a, oe) :: pn)) E (.Call (.Name "isinstance" p) [.Name x q, .Name y q2] [] pos) (mIsE a i b) :=
  PE.imp (pe_callB (call_isE EC hz hf) hg hm boot_isinstance (pa_cons (pe_var hN hv hd hcd) (pa_cons (pe_glob (v := .ref D) hgy gD rfl hd2) pa_nil he2) he) (by decide) (by decide) he hpl) fun σ H Q q => by
    obtain ⟨Hd, al, rho, m, s, e, P⟩ := q
    unfold mIsE at P
    split at P
    · rename_i a' ha
      split at P
      · rename_i ea
        subst ea
        obtain ⟨v, h1, h2⟩ := e.2 i _ ha
        have ev : v = .ref a' := h2.2
        subst ev
        exact ⟨_, h1, .ref D, .ref D, b, rfl, fun u hu => hu, hk, (P.ok s) _ ⟨rfl, rfl⟩⟩
      · exact P.elim
    · exact P.elim
end

/-! ### try: .., except QueueError as error: return _law_kind(error) -/
/-- what the def says of an error of each class: kf -/
structure KindOk (P : Program) (w : World) (K : PySem.W.Frag) (mg : Str → Option Value) (base : Heap) (k : Nat) (x : Str) (kf : Str → Option Str) : Prop where
  ex : ∃ (f : Addr) (fd : FuncData), mg x = some (.ref f) ∧ PySem.W.keepIn K (.ref f) = true ∧ Binds K fd ["error"] [] ∧ ∀ (y z : Str) (C : Addr), kf y = some z → mg y = some (.ref C) →
    ∀ (A : Around) (outer : List PySem.Env) (s : Shared) (H : Hp) (args : Args) (Q : VK) (E : XK) (p : Addr × Obj), L2H.RoomH k A → A.handled = some (.ref p.1) → L2H.PinOk outer H s p → Zc (.ref C) none p.2 → (∃ vs, p.2.data = .fields vs) → Env0 P w K mg base A outer s H →
      BindsTo s fd args ([("error" : Str)].zip [Value.ref p.1]) → (∃ Hd al m, Stt K Hd al none H m ∧ ∀ al' H', Go Hd al m none H al' m none H' → Stt K Hd al' none H' m → Q (.str z) H') → codeAny (model P w) A (.call (.ref f) args) (CR (L2N.CX P w) outer P w H s Q E) s
structure CatchOk (K : PySem.W.Frag) (mg : Str → Option Value) (q : Str) (kf : Str → Option Str) : Prop where
  ex : ∃ B : Addr, mg q = some (.ref B) ∧ ∀ y z, kf y = some z → ∃ C, mg y = some (.ref C) ∧ PySem.W.exmOne K (.ref C) (.ref B) = some true
def sTryK (i : Nat) (cb : SM) (kf : Str → Option Str) : SM := fun rho m => match cb rho m with
  | .ex (.own x) rho' m' => (match kf x with | some y => if i < rho'.length then .rt (.d (.str y)) m' else .no | none => .no)
  | .ex (.low _ _ _) _ _ => .no
  | r => r
section
variable {X : Cx} {E : St → XK} {kf : Str → Option Str} {cb : SM} {body : List Stmt} {x n q0 : Str} {k j : Nat} {p q np pos pos' pos2 pos3 : Pos}
/-- the call in the suite -/
def tKindE (K : PySem.W.Frag) (mg : Str → Option Value) (kf : Str → Option Str) (i : Nat) (a : Addr) (cls : Value) (d : Option Addr) : TE := fun σ H Q => ∃ (y z : Str) (C : Addr), kf y = some z ∧ mg y = some (.ref C) ∧ cls = .ref C ∧ d = none ∧ σ[i]? = some (some (.ref a)) ∧
  ∃ Hd al m, Stt K Hd al none H m ∧ ∀ al' H', Go Hd al m none H al' m none H' → Stt K Hd al' none H' m → Q (.str z) H'
theorem pe_kind {i : Nat} {a : Addr} {oe : Obj} {cls : Value} {d : Option Addr} {pn : List (Addr × Obj)} (KO : KindOk X.prog X.w X.K X.mg X.base k x kf) (hr : Room j X.A) (hz : Zc cls d oe) (hf : ∃ vs, oe.data = .fields vs) (hk : k ≤ j) (hg : Gl X x) (hN : X.N[i]? = some n)
    (hln : X.env.kindOf n = some .local) (hd : (n == ("__debug__" : Str)) = false) (hcd : (n == ("__classdict__" : Str)) = false) (hdb : (x == ("__debug__" : Str)) = false) (he : starEach [.Name n q] X.env = [(false, eval (.Name n q) X.env)]) :
    PE (X.suite a ((a, oe) :: pn)) (.Call (.Name x p) [.Name n q] [] pos) (tKindE X.K X.mg kf i a cls d) := by
  obtain ⟨f, fd, hm, kp, hb, run⟩ := KO.ex
  refine ⟨fun pins s σ H Q I h => wpAny_Call_Name_kw (ld_glob I (show Gl (X.suite a ((a, oe) :: pn)) x from hg) hm ?_ hdb)⟩
  obtain ⟨y, z, C, h1, h2, rfl, rfl, h5, h6⟩ := h
  have ha : PA (X.suite a ((a, oe) :: pn)) [.Name n q] (tCons (tVar i) tNil) := pa_cons (pe_var hN (.inl hln) hd hcd) pa_nil he
  refine PySem.W.callWith_K (h₀ := X.base) I.ok.mod.kin kp (thn (ha.run pos pins s σ H (fun vs H1 => vs = [V.ref a] ∧ H1 = H) I ⟨.ref a, h5, rfl, rfl⟩) fun us s1 hh => ?_) he rfl
  obtain ⟨vs, H1, I1, r, rfl, rfl⟩ := hh
  cases r with
  | cons ru rn =>
    cases rn
    cases ru
    have P1 := I1.pin (a, oe) (List.mem_append_left _ List.mem_cons_self)
    have hpin : L2H.PinOk (X.suite a ((a, oe) :: pn)).stack H1 s1 (a, oe) := ⟨P1.1, P1.2.1, fun hm => (List.mem_cons.mp (I1.stkSub a hm)).elim P1.2.2.1 P1.2.2.2.1, P1.2.2.2.2⟩
    have b := hb s1 [.ref a] I1.kIn rfl
    rw [List.append_nil] at b
    have hrr := hr.mono hk
    refine ⟨I1.kIn, wpAny_call (codeAny_mono (run y z C h1 h2 (X.suite a ((a, oe) :: pn)).A _ s1 H1 _ Q (fun _ _ _ => False) (a, oe) ⟨hrr.dp, hrr.un⟩ rfl hpin hz hf I1.env0 b h6) fun res s' hq => ?_)⟩
    match res, hq with
    | .error e, hq => obtain ⟨_, _, _, _, _, _, _, _, _, _, _, _, ⟨⟩⟩ := hq
    | .ok (.ret u), hq => exact I1.after hq
theorem ds_tryK {i : Nat} (KO : KindOk X.prog X.w X.K X.mg X.base k x kf) (CO : CatchOk X.K X.mg q0 kf) (hr : Room j X.A) (hk : k ≤ j) (hs : X.stack = X.env :: X.outer) (hf : X.env.frame = some X.env.locals) (hN : X.N.Nodup) (tk : L2N.Takes X fun cls d σ H => E σ cls d H)
    (hb : ∀ (E' : St → XK) (pn : List (Addr × Obj)) (xe : Value → Shared → Prop), L2N.Takes (X.tr pn xe) (fun cls d σ H => E' σ cls d H) → PassesOwn (model X.prog X.w) X.A X.env xe → DenSs (X.tr pn xe) E' body cb)
    (hi : X.N[i]? = some n := by rfl) (hln : X.env.kindOf n = some .local := by rfl) (hgq : Gl X q0 := by rfl) (hgx : Gl X x := by rfl) (hdq : (q0 == ("__debug__" : Str)) = false := by decide) (hd : (n == ("__debug__" : Str)) = false := by decide) (hcd : (n == ("__classdict__" : Str)) = false := by decide)
    (hdb : (x == ("__debug__" : Str)) = false := by decide) (he : starEach [.Name n q] X.env = [(false, eval (.Name n q) X.env)] := by rfl) :
    DenS X E (.Try body [.ExceptHandler (some (.Name q0 np)) (some n) [.Return (some (.Call (.Name x p) [.Name n q] [] pos)) pos2] pos'] [] [] pos3) (sTryK i cb kf) := by
  obtain ⟨B, hB, hC⟩ := CO.ex
  refine PS.imp (L2N.ps_try_as hs hf hN hi hln ⟨hgq, hdq, .inl hB⟩ tk (tb := fun W => tS X.K X.mg (fun σ cls d H => W cls d σ H) cb) (ts := fun a cls d => tRet (tKindE X.K X.mg kf i a cls d)) (fun W pn xe t hp => hb _ pn xe t hp)
    (fun a oe cls d pn hz hf => pss_one (ps_ret (pe_kind KO hr hz.zc hf hk hgx hi hln hd hcd hdb he)))) fun Dn σ H q => ?_
  obtain ⟨Hd, al, rho, m, s, e, P⟩ := q
  refine ⟨Hd, al, rho, m, s, e, ?_⟩
  unfold sTryK at P
  cases hc : cb rho m with
  | ex c rho' m' =>
    rw [hc] at P
    cases c with
    | low _ _ _ => exact P.elim
    | own y =>
      dsimp only at P
      split at P
      · rename_i z hkz
        split at P
        · rename_i hl
          intro al' H' σ' cls dd g s' e' xo
          obtain ⟨rfl, C, h1, rfl⟩ := xo
          obtain ⟨C', h1', h2⟩ := hC y z hkz
          have eC : C' = C := by rw [h1] at h1'; cases h1'; rfl
          subst eC
          refine ⟨true, h2, fun _ a na => ?_, fun h => (nomatch h)⟩
          exact ⟨y, z, C', hkz, h1, rfl, rfl, List.getElem?_set_self (by rw [← e'.1]; exact hl), Hd, al', m', s', fun al2 H2 g2 s2 => P al2 none H2 _ (g.trans g2) s2 ⟨rfl, rfl⟩⟩
        · exact P.elim
      · exact P.elim
  | nx r m' => rw [hc] at P; exact P
  | rt w m' => rw [hc] at P; exact P
  | bk r m' => rw [hc] at P; exact P
  | ct r m' => rw [hc] at P; exact P
  | no => rw [hc] at P; exact P
end
end Den
/-! Den12: a callee picked from a list of defs; ghosts; repr, str; isinstance of data. -/
namespace Den
open PySem PySem.Spec PyProof.Rows L2

/-! ### [f, g, ..][i](..) -/
abbrev FnM := Str × Nat × (List W → Mem → Rs W)
def mPick (fs : List FnM) (i : EM W) (c : EM (List W)) : EM W := fun rho m => (i rho m).bindV fun w m1 => match intOf w with
  | some j => if 0 ≤ j then (match fs[j.toNat]? with | some t => (c rho m1).bind fun ws m2 => if ws.length = t.2.1 then t.2.2 ws m2 else .no | none => .no) else .no
  | none => .no
def tK (vs : List V) : TA := fun _ H Q => Q vs H
section
variable {X : Cx} {E : St → XK} {k j : Nat} {ei e : Expr} {es : List Expr} {i : EM W} {c : EM (List W)} {p pos lp sp : Pos}
/-- names of defs, in a row -/
structure DefsAt (X : Cx) (ns : List Expr) (fs : List FnM) : Prop where
  ex : ∃ as : List Addr, PA X ns (tK (as.map V.ref)) ∧ as.length = fs.length ∧ ∀ (j : Nat) (t : FnM) (a : Addr), fs[j]? = some t → as[j]? = some a → X.mg t.1 = some (.ref a)
theorem defs_nil : DefsAt X [] [] := ⟨[], pa_nil, rfl, fun j t a h => by cases h⟩
theorem defs_cons {x : Str} {q : Pos} {ns : List Expr} {fs : List FnM} {n : Nat} {fm : List W → Mem → Rs W} (h : DefsAt X ns fs) (C : ∃ f, X.mg x = some (.ref f)) (hg : Gl X x := by rfl) (hd : (x == ("__debug__" : Str)) = false := by decide)
    (hs : starEach (.Name x q :: ns) X.env = (false, eval (.Name x q) X.env) :: starEach ns X.env := by rfl) : DefsAt X (.Name x q :: ns) ((x, n, fm) :: fs) := by
  obtain ⟨as, h1, h2, h3⟩ := h
  obtain ⟨f, hm⟩ := C
  refine ⟨f :: as, PA.imp (pa_cons (pe_glob (v := .ref f) hg hm rfl hd) h1 hs) fun _ _ _ q => q, by rw [List.length_cons, List.length_cons, h2], fun j t a e1 e2 => ?_⟩
  cases j with
  | zero => cases e1; cases e2; exact hm
  | succ j => exact h3 j t a e1 e2
theorem den_pick {ns : List Expr} {fs : List FnM} (Ds : DefsAt X ns fs) (Cs : ∀ t ∈ fs, CalG X.prog X.w X.K X.mg X.base k t.1 t.2.1 t.2.2) (hz : fs.length ≤ 1000) (hi : Den X E ei i) (hr : Room j X.A) (hgu : X.A.guards = some []) (hx : ∀ σ, PassesAt (L2N.CX X.prog X.w) X σ (E σ)) (ha : DenA X E (e :: es) c)
    (hk : k ≤ j := by decide) (hpi : PlainIx ei := by exact fun _ _ => rfl) (he : starEach (e :: es) X.env = (false, eval e X.env) :: starEach es X.env := by rfl) (hpl : (backTo pos (starEach es X.env)).any (·.1) = false := by rfl) :
    Den X E (.Call (.Subscript (.List ns lp) ei sp) (e :: es) [] pos) (mPick fs i c) := by
  obtain ⟨as, h1, h2, h3⟩ := Ds.ex
  refine ⟨fun pins s σ H Q I q => ?_⟩
  show wpAny _ _ (do callWith pos (← eval (.Subscript (.List ns lp) ei sp) X.env) [] (backTo pos (starEach (e :: es) X.env)) (backToKw pos (keywordEach [] X.env))) _ _ _
  obtain ⟨Hd, al, rho, m, st, en, P⟩ := q
  have callee : PE X (.Subscript (.List ns lp) ei sp) _ := pe_ix ix_list (pe_lst h1) hi hpi
  refine wpAny_bind (thn (callee.run pins s σ H (fun v H1 => ∃ (t : FnM) (f : Addr), t ∈ fs ∧ X.mg t.1 = some (.ref f) ∧ v = .ref f ∧ ∃ Hd al rho m, Stt X.K Hd al none H1 m ∧ EnvOk X.K X.mg (Own Hd al m none) al H1 rho σ ∧
    Post X.K X.mg Hd al m H1 (E σ) ((c rho m).bind fun ws m2 => if ws.length = t.2.1 then t.2.2 ws m2 else .no) fun w al' p m' H' => ∀ v, RepW X.K X.mg (Own Hd al' m' p) p al' H' w v → Q v H') I ?_) fun u s1 hh => ?_)
  · refine ⟨by rw [List.length_map, h2]; have := sizeLine_eq; omega, fun b hb => ?_⟩
    have g0 : Go Hd al m none H al m none (upd H b (.lst (as.map V.ref))) := go_new hb (.inl rfl)
    refine ⟨Hd, al, rho, m, stt_new st hb (.inl rfl), en.go g0, (Post.bindV (Post.go g0 P)).imp fun w al1 p1 m1 H1 g s1 k v rv => ?_⟩
    obtain ⟨g1, s1', rv1, P1⟩ := k v rv
    split at P1
    · rename_i jj hj
      have ev := intOf_ok rv1 hj
      subst ev
      split at P1
      · rename_i h0
        split at P1
        · rename_i t ht
          obtain ⟨hl, _⟩ := List.getElem?_eq_some_iff.mp ht
          have hla : jj.toNat < as.length := by rw [h2]; exact hl
          have ga : as[jj.toNat]? = some as[jj.toNat] := List.getElem?_eq_getElem hla
          have hb1 : H1 b = some (.lst (as.map V.ref)) := g.ext.lst upd_same fun z => by
            obtain ⟨o, ho⟩ := st.own z
            rw [hb] at ho; cases ho
          refine ⟨b, as.map V.ref, jj, .ref as[jj.toNat], rfl, rfl, .inl (.inl hb1), ?_, t, as[jj.toNat], List.mem_of_getElem? ht, h3 _ t _ ht ga, rfl, Hd, al1, rho, m1, s1', (en.go g0).go g1, P1⟩
          unfold atI ixN
          rw [if_pos h0, if_pos (by rw [List.length_map]; omega)]
          show (as.map V.ref)[jj.toNat]? = _
          rw [List.getElem?_map, ga]; rfl
        · exact P1.elim
      · exact P1.elim
    · exact P1.elim
  · obtain ⟨v, H1, I1, r1, t, f, tm, hm, rfl, q1⟩ := hh
    cases r1
    obtain ⟨f', fd, ps, F, hm', kp, hb, hn⟩ := (Cs t tm).ex
    have ef : f' = f := by rw [hm] at hm'; cases hm'; rfl
    subst ef
    refine PySem.W.callWith_K (h₀ := X.base) I.ok.mod.kin kp (thn (ha.run pos pins s1 σ H1 (fun vs H2 => spM X.K X.mg t.2.1 t.2.2 vs H2 Q (E σ)) I1 ?_) fun us s2 hh => ?_) he hpl
    · obtain ⟨Hd, al, rho, m, st, en, P⟩ := q1
      refine ⟨Hd, al, rho, m, st, en, (Post.bind P).imp fun ws al1 p1 m1 H1 g s1 k hp vs rv => ?_⟩
      subst hp
      have P1 := k rfl
      split at P1
      · rename_i hl
        exact ⟨Hd, al1, ws, m1, hl, s1, rv, P1⟩
      · exact P1.elim
    · obtain ⟨vs, H2, I2, r, q2⟩ := hh
      exact ⟨I2.kIn, run_G F (hr.mono hk) hgu hb (hx σ) I2 r q2⟩
end

/-! ### a ghost: the list that slot i holds is written no more -/
def frzW (n : Nat) (x : D) : Option W → Option W
  | some (.r k) => if k = n then some (.d x) else some (.r k)
  | w => w
def sFrz (i : Nat) (c : SM) : SM := fun rho m => match rho[i]? with
  | some (some (.r n)) => (match m[n]? with | some (some x) => c (rho.map (frzW n x)) (m.set n none) | _ => .no)
  | _ => c rho m
section
variable {X : Cx} {E : St → XK} {sts : List Stmt} {c : SM}
theorem tS_frz {i : Nat} {Dn : Ends} {σ : St} {H : Hp} (q : tS X.K X.mg E (sFrz i c) Dn σ H) : tS X.K X.mg E c Dn σ H := by
  obtain ⟨Hd, al, rho, m, s, e, P⟩ := q
  unfold sFrz at P
  split at P
  · rename_i n hi
    split at P
    · rename_i x hx
      obtain ⟨v0, h1, h2⟩ := e.2 i _ hi
      have hf : frz m (.r n) = some (x, m.set n none) := by unfold frz; dsimp only; rw [hx]
      obtain ⟨s1, g1, rx⟩ := frz_ok s h2 hf
      refine ⟨Hd, al, rho.map (frzW n x), m.set n none, s1, ⟨by rw [List.length_map]; exact e.1, fun k w hk => ?_⟩, ?_⟩
      · rw [List.getElem?_map] at hk
        cases hr : rho[k]? with
        | none => rw [hr] at hk; cases hk
        | some ow =>
          rw [hr] at hk
          have hk' : frzW n x ow = some w := Option.some.inj hk
          cases ow with
          | none => exact absurd (show (none : Option W) = some w from hk') (fun z => nomatch z)
          | some w0 =>
            obtain ⟨v, q1, q2⟩ := e.2 k w0 hr
            cases w0 with
            | r k2 =>
              unfold frzW at hk'
              dsimp only at hk'
              split at hk'
              · rename_i ek
                subst ek
                cases hk'
                refine ⟨v, q1, rfl, ?_⟩
                obtain ⟨_, a, ha, rfl⟩ := h2
                obtain ⟨_, a', ha', rfl⟩ := q2
                have ea : a' = a := by rw [ha] at ha'; cases ha'; rfl
                rw [ea]; exact rx
              · cases hk'; exact ⟨v, q1, q2.go g1⟩
            | d y => cases (show some (W.d y) = some w from hk'); exact ⟨v, q1, q2.go g1⟩
            | n y => cases (show some (W.n y) = some w from hk'); exact ⟨v, q1, q2.go g1⟩
            | f y => cases (show some (W.f y) = some w from hk'); exact ⟨v, q1, q2.go g1⟩
            | s y => cases (show some (W.s y) = some w from hk'); exact ⟨v, q1, q2.go g1⟩
            | e y => cases (show some (W.e y) = some w from hk'); exact ⟨v, q1, q2.go g1⟩
      · exact PostS.go g1 P
    · exact P.elim
  · exact ⟨Hd, al, rho, m, s, e, P⟩
theorem dss_frz {i : Nat} (h : DenSs X E sts c) : DenSs X E sts (sFrz i c) := PSs.imp h fun _ _ _ q => tS_frz q
end

/-! ### repr of data -/
def rReprD (K : PySem.W.Frag) : List V → Hp → VK → Prop := fun xs H Q => ∃ (y : V) (d : D), xs = [y] ∧ Dp K H y d ∧ d.showable = true ∧ d.hasDict = false ∧ d.depth ≤ 60 ∧ d.shown.length ≤ sizeLine ∧ Q (.str d.shown) H
theorem cr_repr {X : Cx} (hg : X.A.guards = some []) (hu : X.A.units + 65 < cLine) : CallR X (.builtin "repr") (rReprD X.K) := by
  intro pins s σ H vs us Q I r h
  obtain ⟨y, d, rfl, hd, h1, h2, h3, h4, q⟩ := h
  obtain ⟨u, rfl, ru⟩ := r.one
  obtain ⟨as, rd⟩ := Dp.reads I d y u hd ru
  have big : ∀ a, Reads s.heap (.ref a) d as → wpAny (model X.prog X.w) X.A (call (.builtin "repr") [.ref a]) (EP X pins σ Q) X.xe s := fun a rd => repr_of_reads' rd h1 (fun z => by rw [h2] at z; cases z) hg (by omega) (fun _ _ z => z)
    (fun h' u tk keep => ⟨.str d.shown, H, I.kept (t' := tk) keep, ⟨u, rfl⟩, q⟩) h4
  cases rd with
  | none => exact PySem.P.repr_of_none ⟨.str _, H, I.tok _, ⟨_, rfl⟩, q⟩
  | bool b => exact PySem.P.repr_of_bool ⟨.str _, H, I.tok _, ⟨_, rfl⟩, q⟩
  | int i t => exact PySem.P.repr_of_int (of_decide_eq_true h1) ⟨.str _, H, I.tok _, ⟨_, rfl⟩, q⟩
  | str x t => exact PySem.P.repr_of_str ⟨.str _, H, I.tok _, ⟨_, rfl⟩, q⟩ h4
  | list a b c e => exact big _ (.list a b c e)
  | tuple a b c e => exact big _ (.tuple a b c e)
  | dict _ _ _ _ => exact absurd h2 (by simp [PyData.hasDict])
def reprOk (d : D) : Bool := d.showable && !d.hasDict && decide (d.depth ≤ 60) && small d.shown.length
def reprD (d : D) : Option D := if reprOk d then some (.str d.shown) else none
theorem ca_repr {X : Cx} : Ca X (rReprD X.K) (fD1 reprD) := ca_D1 fun O H x v y Q rv e k => by
  obtain ⟨c, e⟩ := ite_none e
  cases e
  unfold reprOk at c
  simp only [Bool.and_eq_true, Bool.not_eq_true', decide_eq_true_eq] at c
  obtain ⟨⟨⟨c1, c2⟩, c3⟩, c4⟩ := c
  exact ⟨v, x, rfl, rv.dp c2, c1, c2, c3, small_line c4, k _ rfl⟩
end Den
/-! Den13: the law's end. -/
namespace Den
open PySem PySem.Spec PyProof.Rows L2
section
variable {P : Program} {w : World} {K : PySem.W.Frag} {mg mb : Str → Option Value} {k : Nat} {fa a : Addr} {fd : FuncData} {x : Str} {s₁ : Shared} {vs : List Value} {ns : List Int} {fm : List W → Mem → Rs W}
/-- what is tracked at the law's call: the script, where it is no object of the module -/
noncomputable def scrH (K : PySem.W.Frag) (a : Addr) (vs : List Value) (ns : List Int) : Hp := fun b => if b = a ∧ K.lookup a = none then some (.frz { cls := .type "list", data := .seq vs.toArray } (.lst (ns.map V.int))) else none
theorem scrH_some {b : Addr} {u : HO} (h : scrH K a vs ns b = some u) : b = a ∧ K.lookup a = none ∧ u = .frz { cls := .type "list", data := .seq vs.toArray } (.lst (ns.map V.int)) := by
  unfold scrH at h
  by_cases c : b = a ∧ K.lookup a = none
  · rw [if_pos c] at h; cases h; exact ⟨c.1, c.2, rfl⟩
  · rw [if_neg c] at h; cases h
theorem law_G (KX : K.In s₁.heap) (hns : s₁.heap.Ns mainGlobals mg) (hb : s₁.heap.Ns builtinsNs mb) (hbb : ∀ x : Str, x ≠ "__name__" → mb x = bootBuiltins x) (hlim : s₁.heap.NoLimit) (hg : s₁.gens = #[])
    (ha : s₁.heap.get? a = some { cls := .type "list", data := .seq vs.toArray }) (hi : IntsAre vs ns) (hl : ns.length ≤ sizeLine) (hr : Room k callerA) (hgu : callerA.guards = some [])
    (F : ∀ base : Heap, K.In base → base.Ns mainGlobals mg → FnG P w K mg base k fa fd [x] (spM K mg 1 fm)) (hbind : ∀ (s : Shared) (u : Value), BindsTo s fd ⟨[u], []⟩ [(x, u)])
    (law : fm [.s (ns.map .int)] [] = .ok (.d (.bool true)) []) :
    codeAny (model P w) callerA (.call (.ref fa) ⟨[.ref a], []⟩) (fun r s' => r = .ok (.ret (.bool true)) ∧ OldK s₁.heap s'.heap ∧ s'.os = s₁.os ∧ AllBare s'.gens) s₁ := by
  have rv := vals_ints hi
  generalize hHp : scrH K a vs ns = H
  have only : ∀ b u, H b = some u → b = a ∧ K.lookup a = none ∧ u = .frz { cls := .type "list", data := .seq vs.toArray } (.lst (ns.map V.int)) := fun b u h => scrH_some (by rw [hHp]; exact h)
  have dictFree : ∀ {b : Addr} {o : Obj} {es : Array DictEntry} {ep : Nat}, s₁.heap.get? b = some o → o.data = .dict es ep → H b = none := fun {b o es ep} e d => by
    cases q : H b with
    | none => rfl
    | some u =>
      have z := only b u q
      rw [z.1, ha] at e
      cases e
      cases (show Data.seq vs.toArray _ = Data.dict es ep from d)
  have keepNs : ∀ {b : Addr} {m : Str → Option Value}, s₁.heap.Ns b m → (hidT s₁.heap H).Ns b m := fun ⟨o, es, ep, e, d, r⟩ => ⟨o, es, ep, hidT_get e (dictFree e d), d, r⟩
  have keepK : K.In (hidT s₁.heap H) := fun b o e => hidT_get (KX b o e) (by
    cases q : H b with
    | none => rfl
    | some u =>
      have z := only b u q
      rw [z.1, z.2.1] at e
      cases e)
  obtain ⟨mc, c1, c2⟩ := id hlim
  have hok : HOk P w H s₁.heap := fun b u e => by
    obtain ⟨rfl, _, rfl⟩ := only b u e
    exact ⟨ha, by rw [List.length_map]; exact hl, vs, _, rv, ha⟩
  have env : Env0 P w K mg (hidT s₁.heap H) callerA [] s₁ H := ⟨rfl, ⟨keepK, keepNs hns, ⟨mb, keepNs hb, hbb⟩, mc, keepNs c1, c2⟩, fun b o e => of_hidT e, Nat.le_of_eq (hidT_size _ _), trivial, fun b z => absurd (show b ∈ ([] : List Addr) from z) (by simp), hok, .of_eq hg⟩
  have script : SqS K H a (ns.map V.int) := by
    cases q : K.lookup a with
    | none => exact .inl ⟨_, by rw [← hHp]; exact if_pos ⟨rfl, q⟩⟩
    | some o =>
      have e := KX a o q
      rw [ha] at e
      cases e
      exact .inr ⟨_, vs.toArray, _, q, rfl, rfl, rfl, by rw [List.size_toArray, hi.length]; exact hl, by simpa using rv⟩
  have st0 : Stt K (fun _ => False) [] none H [] := ⟨rfl, fun r a o h => by simp at h, fun r r' a h => by simp at h, fun a r h => (nomatch h), fun a h => h.elim⟩
  have sp0 : spM K mg 1 fm [.ref a] H (fun v _ => v = .bl true) fun _ _ _ => False := by
    refine ⟨fun _ => False, [], [.s (ns.map .int)], [], rfl, st0, ⟨_, _, rfl, ⟨rfl, a, _, rfl, script, ints_repDs ns⟩, rfl⟩, ?_⟩
    rw [law]
    exact fun al' p H' g s v r => r.2
  refine codeAny_mono ((F _ keepK (keepNs hns)).run callerA [] s₁ H ⟨[.ref a], []⟩ [.ref a] [.ref a] _ _ hr hgu env (hbind s₁ (.ref a)) (.cons rfl .nil) sp0) fun r s' h => ?_
  match r, h with
  | .error e, h => obtain ⟨_, _, _, _, _, _, _, _, _, _, _, _, ⟨⟩⟩ := h
  | .ok (.ret u), ⟨v, H', os, bare, un, hok', r', q⟩ =>
    cases (show v = .bl true from q)
    cases (show u = Value.bool true from r')
    refine ⟨rfl, OldK.of_keep fun b o e => ?_, os, bare⟩
    cases q : H b with
    | none => exact un.keep b o e q (fun z => absurd (show b ∈ ([] : List Addr) from z) (by simp)) (by simp)
    | some u =>
      obtain ⟨rfl, _, rfl⟩ := only b u q
      obtain ⟨z2, _⟩ := hok' b _ (un.frzs b _ _ q)
      rw [ha] at e
      cases e
      exact z2
theorem walk_G {l : PySem.W.OpenLaw} {n k : Nat} {q : Program} {loose : List Str} {XP : (Str → Option Value) → Heap → Prop} {YP : World → Heap → Prop} {d : DefRec} {K : Params → PySem.W.Frag} {x : Str} {fm : List W → Mem → Rs W}
    (hn : l.most = some n) (hn2 : n ≤ sizeLine) (hdf : d.params.defaults = []) (hr : Room k callerA) (hgu : callerA.guards = some []) (hY : ∀ (w : World) (h : Heap), YP w h → (K w.params).In h)
    (F : ∀ (w : World) (mg : Str → Option Value) (fa : Addr) (h : Heap), (K w.params).In h → h.Ns mainGlobals mg → mg d.name = some (.ref fa) →
      ∃ fd : FuncData, (∀ (s : Shared) (u : Value), BindsTo s fd ⟨[u], []⟩ [(x, u)]) ∧ ∀ base : Heap, (K w.params).In base → base.Ns mainGlobals mg → FnG l.prog w (K w.params) mg base k fa fd [x] (spM (K w.params) mg 1 fm))
    (law : ∀ ns : List Int, ns.length ≤ n → fm [.s (ns.map .int)] [] = .ok (.d (.bool true)) []) : PySem.W.WalkO q loose XP YP l.row.toRowW d [] (fun f vs => PySem.call f vs) := by
  refine Att.attach_call hn hdf fun w s₀ s₁ mg mb fa o pm cd doc a vs ns G Y ho hd hcd hmg hobj hints hlen hg => ?_
  obtain ⟨fd, hb, hF⟩ := F w mg fa _ (hY w _ Y) G.T.g hmg
  exact law_G (hY w _ Y) G.T.g G.T.b G.T.builtins G.T.nolimit hg hobj hints (Nat.le_trans hlen hn2) hr hgu hF hb (law ns hlen)
end
end Den
/-! Den14: what the printed texts lean on. -/
namespace Den
open PySem PySem.Spec PyProof.Rows L2
theorem u65 {A : Around} {k : Nat} (hr : Room k A) : A.units + 65 < cLine := by have := hr.un; omega
theorem u64 {A : Around} {k : Nat} (hr : Room k A) : A.units + 64 < cLine := by have := hr.un; omega
theorem passNo {X : Cx} : ∀ σ : St, PassesAt (L2N.CX X.prog X.w) X σ (E0' σ) := fun _ _ _ _ _ _ _ c => by
  obtain ⟨_, _, _, _, _, _, _, _, _, _, _, _, ⟨⟩⟩ := c
section
variable {X : Cx} {E : St → XK} {x : Str} {pos : Pos}
theorem den_gi {i : Int} (hg : Gl X x) (hm : ∃ t, X.mg x = some (.int i t)) (hd : (x == ("__debug__" : Str)) = false := by decide) : Den X E (.Name x pos) (mC (.int i)) := by
  obtain ⟨t, hm⟩ := hm
  exact den_const (pe_glob (v := .int i) hg hm ⟨t, rfl⟩ hd) fun _ _ _ => rfl
theorem den_gs {y : Str} (hg : Gl X x) (hm : ∃ t, X.mg x = some (.str y t)) (hd : (x == ("__debug__" : Str)) = false := by decide) : Den X E (.Name x pos) (mC (.str y)) := by
  obtain ⟨t, hm⟩ := hm
  exact den_const (pe_glob (v := .str y) hg hm ⟨t, rfl⟩ hd) fun _ _ _ => rfl
end
section
variable {P : Program} {w : World} {K : PySem.W.Frag} {mg : Str → Option Value} {base : Heap} {k j n : Nat} {f : Addr} {x : Str} {st : Stmt} {fd : FuncData} {N ps : List Str} {c : SM} {fm : List W → Mem → Rs W}
theorem def_go (F : Fun K x x st f fd) (S : FnScope N ps (defScope st))
    (hbody : ∀ (cdv : Value) (A : Around) (outer : List PySem.Env) (s : Shared) (H : Hp) (E : XK), Room k (A.deeper (envOfC x (defScope st) s.heap.objs.size f cdv)) → (A.deeper (envOfC x (defScope st) s.heap.objs.size f cdv)).guards = some [] →
      L2N.Takes (cxOf (L2N.CX P w) P w K mg base N x (defScope st) f cdv A outer s H E) (fun cls d σ H => EK E σ cls d H) →
      (∀ σ, PassesAt (L2N.CX P w) (cxOf (L2N.CX P w) P w K mg base N x (defScope st) f cdv A outer s H E) σ (EK E σ)) →
      PassesOwn (model P w) (A.deeper (envOfC x (defScope st) s.heap.objs.size f cdv)) (envOfC x (defScope st) s.heap.objs.size f cdv) (cxOf (L2N.CX P w) P w K mg base N x (defScope st) f cdv A outer s H E).xe →
      DenSs (cxOf (L2N.CX P w) P w K mg base N x (defScope st) f cdv A outer s H E) (EK E) (defBody st) c) : FnG P w K mg base (k + 1) f fd ps (spM K mg ps.length (runF N.length c)) :=
  def_ok F S fun cdv A outer s H E hr hgu =>
    have tk : L2N.Takes (cxOf (L2N.CX P w) P w K mg base N x (defScope st) f cdv A outer s H E) (fun cls d σ H => EK E σ cls d H) := L2N.takes_of rfl rfl rfl rfl
    hbody cdv A outer s H E hr hgu tk (fun σ => L2N.passAt tk σ) (passes_of (X := cxOf (L2N.CX P w) P w K mg base N x (defScope st) f cdv A outer s H E) rfl)
theorem CalG.mono (C : CalG P w K mg base j x n fm) (h : j ≤ k) : CalG P w K mg base k x n fm := by
  obtain ⟨f, fd, ps, F, h1, h2, h3, h4⟩ := C.ex
  exact ⟨f, fd, ps, F.mono h, h1, h2, h3, h4⟩
theorem all_nil : ∀ t ∈ ([] : List FnM), CalG P w K mg base k t.1 t.2.1 t.2.2 := fun t h => nomatch h
theorem all_cons {fs : List FnM} (h : CalG P w K mg base k x n fm) (h2 : ∀ t ∈ fs, CalG P w K mg base k t.1 t.2.1 t.2.2) : ∀ t ∈ (x, n, fm) :: fs, CalG P w K mg base k t.1 t.2.1 t.2.2 := fun t ht => by
  rcases List.mem_cons.mp ht with rfl | ht
  · exact h
  · exact h2 t ht
/-- a def as it is called -/
theorem cal_mk (G : FnG P w K mg base k f fd ps (spM K mg n fm)) (F : Fun K x x st f fd) (hm : mg x = some (.ref f)) (hb : Binds K fd ps []) (hn : ps.length = n) : CalG P w K mg base k x n fm := ⟨f, fd, ps, G, hm, F.kp, hb, hn⟩
end
/-- the kinds of errors that the laws' helper tells -/
def kindTab : Str → Option Str := fun x =>
  if x = "NotChain" then some "!chain" else if x = "NotNet" then some "!net" else if x = "NotTrace" then some "!trace" else if x = "NotPaper" then some "!paper" else
  if x = "BadNumber" then some "!number" else if x = "NoAnswer" then some "!none" else if x = "TooLarge" then some "!large" else none
end Den
/-! Den15: the def that tells a caught error's kind. -/
namespace Den
open PySem PySem.Spec PyProof.Rows L2
theorem uH {A : Around} {k : Nat} (hr : L2H.RoomH k A) : A.units + 65 < cLine := by have := hr.un; omega
theorem uH4 {A : Around} {k : Nat} (hr : L2H.RoomH k A) : A.units + 64 < cLine := by have := hr.un; omega
section
variable {P : Program} {w : World} {K : PySem.W.Frag} {mg : Str → Option Value} {base : Heap} {k : Nat} {f : Addr} {x : Str} {st : Stmt} {fd : FuncData} {N : List Str} {kf : Str → Option Str}
theorem kind_mk (F : Fun K x x st f fd) (S : FnScope N ["error"] (defScope st)) (hb : Binds K fd ["error"] []) (hm : mg x = some (.ref f)) (c : Addr → Str → SM)
    (hbody : ∀ (y z : Str) (C : Addr), kf y = some z → mg y = some (.ref C) → ∀ (cdv : Value) (A : Around) (outer : List PySem.Env) (s : Shared) (H : Hp) (a : Addr) (oe : Obj), L2H.RoomH k (A.deeper (envOfC x (defScope st) s.heap.objs.size f cdv)) → Zc (.ref C) none oe → (∃ vs, oe.data = .fields vs) →
      DenSs (cxE P w K mg base N x (defScope st) f cdv A outer s H (a, oe)) E0' (defBody st) (c a y))
    (hval : ∀ y z : Str, kf y = some z → ∀ (a : Addr) (m : Mem), c a y (startE N.length [.e a]) m = .rt (.d (.str z)) m) : KindOk P w K mg base (k + 1) x kf := by
  refine ⟨f, fd, hm, F.kp, hb, fun y z C h1 h2 A outer s H args Q E p hr hh hpin hz hf e0 hbt q => ?_⟩
  obtain ⟨a, oe⟩ := p
  refine fn_E F S (p := (a, oe)) (vs := [V.ref a]) (us := [Value.ref a]) hr hh hpin e0 hbt (.cons rfl .nil) rfl fun cdv hr2 => ⟨_, hbody y z C h1 h2 cdv A outer s H a oe hr2 hz hf, ?_⟩
  obtain ⟨Hd, al, m, st0, q⟩ := q
  have rv : RepWs K mg (Own Hd al m none) al H [.e a] [.ref a] := ⟨_, _, rfl, ⟨rfl, rfl⟩, rfl⟩
  refine ⟨Hd, al, startE N.length [.e a], m, st0, envOk_start rv, ?_⟩
  rw [hval y z h1]
  intro al' p' H' v g s' rv'
  obtain ⟨rfl, e⟩ := rv'
  have e' : v = .str z := e
  subst e'
  exact q al' H' g s'
end
theorem kindTab_cases {y z : Str} (h : kindTab y = some z) : (y = "NotChain" ∧ z = "!chain") ∨ (y = "NotNet" ∧ z = "!net") ∨ (y = "NotTrace" ∧ z = "!trace") ∨ (y = "NotPaper" ∧ z = "!paper") ∨
    (y = "BadNumber" ∧ z = "!number") ∨ (y = "NoAnswer" ∧ z = "!none") ∨ (y = "TooLarge" ∧ z = "!large") := by
  unfold kindTab at h
  repeat' (split at h)
  · rename_i e; cases h; exact .inl ⟨e, rfl⟩
  · rename_i e; cases h; exact .inr (.inl ⟨e, rfl⟩)
  · rename_i e; cases h; exact .inr (.inr (.inl ⟨e, rfl⟩))
  · rename_i e; cases h; exact .inr (.inr (.inr (.inl ⟨e, rfl⟩)))
  · rename_i e; cases h; exact .inr (.inr (.inr (.inr (.inl ⟨e, rfl⟩))))
  · rename_i e; cases h; exact .inr (.inr (.inr (.inr (.inr (.inl ⟨e, rfl⟩)))))
  · rename_i e; cases h; exact .inr (.inr (.inr (.inr (.inr (.inr ⟨e, rfl⟩)))))
  · cases h
/-- what the written part says of the classes of errors -/
structure KindT (K : PySem.W.Frag) (mg : Str → Option Value) : Prop where
  cls : ∀ y z : Str, kindTab y = some z → ∃ C, mg y = some (.ref C) ∧ ExcC K C ∧ ∀ y2 z2 : Str, kindTab y2 = some z2 → ∃ D, mg y2 = some (.ref D) ∧ PySem.W.kitOne K (.ref C) (.ref D) = some (decide (y2 = y))
end Den
/-! Den16: the mirrors evaluated (simp), comprehensions and loops by invariants. -/
namespace Den
open PySem PySem.Spec PyProof.Rows L2
section
variable {β γ : Type} {b : β} {m m1 : Mem} {w w2 : W} {c : Exc} {rho : Env}
@[simp] theorem ev_bind {k : β → Mem → Rs γ} : (Rs.ok b m).bind k = k b m := rfl
@[simp] theorem ev_bindX {k : β → Mem → Rs γ} : (Rs.ex c m : Rs β).bind k = .ex c m := rfl
@[simp] theorem ev_bindN {k : β → Mem → Rs γ} : (Rs.no : Rs β).bind k = .no := rfl
@[simp] theorem ev_bindV {k : W → Mem → Rs γ} : (Rs.ok w m).bindV k = k (val w) m := rfl
@[simp] theorem ev_bindVX {k : W → Mem → Rs γ} : (Rs.ex c m : Rs W).bindV k = .ex c m := rfl
@[simp] theorem ev_thenS {k : β → Mem → Out} : (Rs.ok b m).thenS rho k = k b m := rfl
@[simp] theorem ev_thenSX {k : β → Mem → Out} : (Rs.ex c m : Rs β).thenS rho k = .ex c rho m := rfl
@[simp] theorem ev_thenV {k : W → Mem → Out} : (Rs.ok w m).thenV rho k = k (val w) m := rfl
@[simp] theorem ev_thenVX {k : W → Mem → Out} : (Rs.ex c m : Rs W).thenV rho k = .ex c rho m := rfl
@[simp] theorem val_d {x : D} : val (.d x) = .d x := rfl
@[simp] theorem val_n {x : D} : val (.n x) = .d x := rfl
@[simp] theorem val_r {n : Nat} : val (.r n) = .r n := rfl
@[simp] theorem val_s {xs : List D} : val (.s xs) = .s xs := rfl
@[simp] theorem val_f {x : Str} : val (.f x) = .f x := rfl
@[simp] theorem peek_d {x : D} : peek m (.d x) = some x := rfl
@[simp] theorem peek_n {x : D} : peek m (.n x) = some x := rfl
@[simp] theorem peek_r {n : Nat} : peek m (.r n) = (m[n]?).join := rfl
@[simp] theorem frz_d {x : D} : frz m (.d x) = some (x, m) := rfl
@[simp] theorem frz_n {x : D} : frz m (.n x) = some (x, m) := rfl
@[simp] theorem frzAll_nil : frzAll [] m = some ([], m) := rfl
@[simp] theorem frzAll_d {x : D} {ws : List W} : frzAll (.d x :: ws) m = match frzAll ws m with | some (xs, m2) => some (x :: xs, m2) | none => none := rfl
@[simp] theorem frzAll_n {x : D} {ws : List W} : frzAll (.n x :: ws) m = match frzAll ws m with | some (xs, m2) => some (x :: xs, m2) | none => none := rfl
end
section
variable {rho : Env} {m : Mem} {a b c : EM W} {r : EM (List W)} {t u : EM Bool} {s d : SM} {i n : Nat}
@[simp] theorem e_C {x : D} : mC x rho m = .ok (.d x) m := rfl
@[simp] theorem e_Var : mVar i rho m = match rho[i]? with | some (some w) => .ok w m | _ => .no := rfl
@[simp] theorem e_F {x : Str} : mF x rho m = .ok (.f x) m := rfl
@[simp] theorem e_Nil : mNil rho m = .ok [] m := rfl
@[simp] theorem e_Cons : mCons a r rho m = (a rho m).bindV fun x m1 => (r rho m1).bind fun xs m2 => .ok (x :: xs) m2 := rfl
@[simp] theorem e_Op1 {f : W → Mem → Rs W} : mOp1 a f rho m = (a rho m).bindV f := rfl
@[simp] theorem e_Op2 {f : W → W → Mem → Rs W} : mOp2 a b f rho m = (a rho m).bindV fun x m1 => (b rho m1).bindV fun y m2 => f x y m2 := rfl
@[simp] theorem e_Tup : mTup r rho m = (r rho m).bind fun ws m1 => match frzAll ws m1 with | some (xs, m2) => if small xs.length then .ok (.d (.tuple xs)) m2 else .no | none => .no := rfl
@[simp] theorem e_Lst : mLst r rho m = (r rho m).bind fun ws m1 => match frzAll ws m1 with | some (xs, m2) => if small xs.length then .ok (.n (.list xs)) m2 else .no | none => .no := rfl
@[simp] theorem e_Tru : mTru a rho m = (a rho m).bindV truW := rfl
@[simp] theorem e_Bool : mBool a rho m = (a rho m).bindV fun w m1 => match w with | .d (.bool b) => .ok b m1 | _ => .no := rfl
@[simp] theorem e_AndT : mAndT t u rho m = (t rho m).bind fun b m1 => if b = true then u rho m1 else .ok false m1 := rfl
@[simp] theorem e_OrT : mOrT t u rho m = (t rho m).bind fun b m1 => if b = true then .ok true m1 else u rho m1 := rfl
@[simp] theorem e_NotT : mNotT t rho m = (t rho m).bind fun b m1 => .ok (!b) m1 := rfl
@[simp] theorem e_AndV : mAndV a b rho m = (a rho m).bindV fun w m1 => (truW w m1).bind fun k m2 => if k = true then b rho m2 else .ok w m2 := rfl
@[simp] theorem e_OrV : mOrV a b rho m = (a rho m).bindV fun w m1 => (truW w m1).bind fun k m2 => if k = true then .ok w m2 else b rho m2 := rfl
@[simp] theorem e_NotV : mNotV a rho m = (a rho m).bindV fun w m1 => (truW w m1).bind fun k m2 => .ok (.d (.bool (!k))) m2 := rfl
@[simp] theorem e_If : mIf t a b rho m = (t rho m).bind fun k m1 => if k = true then a rho m1 else b rho m1 := rfl
@[simp] theorem e_Add : mAdd a b rho m = (a rho m).bindV fun x m1 => (b rho m1).bindV fun y m2 => lift2 addD x y m2 := rfl
@[simp] theorem e_Sub : mSub a b rho m = (a rho m).bindV fun x m1 => (b rho m1).bindV fun y m2 => lift2 (onI fun i j => some (.int (i - j))) x y m2 := rfl
@[simp] theorem e_Mul : mMul a b rho m = (a rho m).bindV fun x m1 => (b rho m1).bindV fun y m2 => lift2 mulD x y m2 := rfl
@[simp] theorem e_Fdiv : mFdiv a b rho m = (a rho m).bindV fun x m1 => (b rho m1).bindV fun y m2 => lift2 (onI fdivD) x y m2 := rfl
@[simp] theorem e_Mod : mMod a b rho m = (a rho m).bindV fun x m1 => (b rho m1).bindV fun y m2 => lift2 (onI modD) x y m2 := rfl
@[simp] theorem e_Neg : mNeg a rho m = (a rho m).bindV (lift1 negD) := rfl
@[simp] theorem e_Ix : mIx a b rho m = (a rho m).bindV fun x m1 => (b rho m1).bindV fun y m2 => fIx x y m2 := rfl
@[simp] theorem e_B {f : List W → Mem → Rs W} : mB r f rho m = (r rho m).bind f := rfl
@[simp] theorem e_Call {fm : List W → Mem → Rs W} : mCall n fm r rho m = (r rho m).bind fun ws m1 => if ws.length = n then fm ws m1 else .no := rfl
@[simp] theorem e_M {T : Kd} {f : W → List W → Mem → Rs W} : mM T a r f rho m = (a rho m).bindV fun w m1 => match peek m1 w with | some x => if T.ok x then (r rho m1).bind fun ws m2 => f w ws m2 else .no | none => .no := rfl
@[simp] theorem e_oN : oNone rho m = .ok none m := rfl
@[simp] theorem e_oS : oSome a rho m = (a rho m).bindV fun w m1 => match w with | .d (.int i) => .ok (some i) m1 | _ => .no := rfl
@[simp] theorem e_Sl {l h : EM (Option Int)} : mSl a l h rho m = (a rho m).bindV fun w m1 => (l rho m1).bind fun l m2 => (h rho m2).bind fun h m3 => fSl w l h m3 := rfl
@[simp] theorem e_Chain {f g : W → W → Mem → Rs W} : mChain f g a b c rho m = (a rho m).bindV fun x m1 => (b rho m1).bindV fun y m2 => (f x y m2).bindV fun r m3 =>
  match r with | .d (.bool true) => (c rho m3).bindV fun z m4 => g y z m4 | .d (.bool false) => .ok (.d (.bool false)) m3 | _ => .no := rfl
@[simp] theorem e_Rg1 : mRg1 a rho m = (a rho m).bindV fun w m1 => match w with | .d (.int i) => .ok ((0 : Int), i) m1 | _ => .no := rfl
@[simp] theorem e_Rg2 : mRg2 a b rho m = (a rho m).bindV fun w m1 => (b rho m1).bindV fun w2 m2 => match w, w2 with | .d (.int i), .d (.int j) => .ok (i, j) m2 | _, _ => .no := rfl
@[simp] theorem e_LstRg {q : EM (Int × Int)} : mLstRg q rho m = (q rho m).bind fun b m1 => if rgOk b.1 b.2 then .ok (.n (.list (rangeD b.1 b.2))) m1 else .no := rfl
@[simp] theorem e_tYes : tYesT rho m = .ok true m := rfl
-- statements
@[simp] theorem e_Seq : sSeq s d rho m = match s rho m with | .nx rho' m' => d rho' m' | o => o := rfl
@[simp] theorem e_Skip : sSkip rho m = .nx rho m := rfl
@[simp] theorem e_Set : sSet i a rho m = (a rho m).thenV rho fun w m1 => .nx (rho.set i (some w)) m1 := rfl
@[simp] theorem e_SetR : sSetR i a rho m = (a rho m).thenS rho fun w m1 => match w with | .n x => .nx (rho.set i (some (.r m1.length))) (m1 ++ [some x]) | _ => .no := rfl
@[simp] theorem e_Drop : sDrop a rho m = (a rho m).thenV rho fun _ m1 => .nx rho m1 := rfl
@[simp] theorem e_Ret : sRet a rho m = (a rho m).thenS rho fun w m1 => .rt w m1 := rfl
@[simp] theorem e_IfS : sIf t s d rho m = (t rho m).thenS rho fun b m1 => if b = true then s rho m1 else d rho m1 := rfl
@[simp] theorem e_Raise {x : Str} : sRaise x rho m = .ex (.own x) rho m := rfl
@[simp] theorem e_Break : sBreak rho m = .bk rho m := rfl
@[simp] theorem e_Cont : sCont rho m = .ct rho m := rfl
@[simp] theorem e_For {it : EM (List D)} {g : GM} : sFor it g s rho m = (it rho m).thenS rho fun items m1 => forL g s items rho m1 := rfl
@[simp] theorem e_gN {w : W} : gN i w rho m = some (rho.set i (some w), m) := rfl
@[simp] theorem e_Items : mItems a rho m = (a rho m).bindV fun w m1 => match w with | .d x => (match seqOf x with | some ds => .ok ds m1 | none => .no) | .s ds => .ok ds m1 | _ => .no := rfl
@[simp] theorem seqOf_t {ds : List D} : seqOf (.tuple ds) = some ds := rfl
@[simp] theorem seqOf_l {ds : List D} : seqOf (.list ds) = some ds := rfl
end
section
variable {m : Mem} {w w2 : W} {x y : D} {i j : Int} {ds es : List D} {z : Str}
@[simp] theorem f_lift2 {g : D → D → Option W} : lift2 g w w2 m = match peek m w, peek m w2 with | some a, some b => (match g a b with | some w => .ok w m | none => .no) | _, _ => .no := rfl
@[simp] theorem f_D1 {g : D → Option D} : fD1 g [w] m = match peek m w with | some x => (match g x with | some y => .ok (.d y) m | none => .no) | none => .no := rfl
@[simp] theorem f_D2 {g : D → D → Option D} : fD2 g [w, w2] m = match peek m w, peek m w2 with | some x, some y => (match g x y with | some z => .ok (.d z) m | none => .no) | _, _ => .no := rfl
@[simp] theorem f_N1 {g : D → Option (List D)} : fN1 g [w] m = match peek m w with | some x => (match g x with | some ys => .ok (.n (.list ys)) m | none => .no) | none => .no := rfl
@[simp] theorem f_Tup : fTup [w] m = match peek m w with | some (.list ds) => .ok (.d (.tuple ds)) m | some (.tuple ds) => .ok (.d (.tuple ds)) m | _ => .no := rfl
@[simp] theorem f_MD {g : D → D → Option D} : fMD g w [w2] m = match peek m w, peek m w2 with | some x, some y => (match g x y with | some z => .ok (.d z) m | none => .no) | _, _ => .no := rfl
@[simp] theorem f_Ix : fIx w w2 m = match peek m w, peek m w2 with | some x, some y => (match ixD x y with | some z => .ok (.d z) m | none => .no) | _, _ => .no := rfl
@[simp] theorem f_Sl {lo hi : Option Int} : fSl w lo hi m = match peek m w with
  | some (.list ds) => .ok (.n (.list (cutD ds lo hi))) m | some (.tuple ds) => .ok (.d (.tuple (cutD ds lo hi))) m | some (.str z) => if small z.length then .ok (.d (.str ⟨(cutD z.cps.toList lo hi).toArray⟩)) m else .no | _ => .no := rfl
@[simp] theorem f_pop {n : Nat} : fPop (.r n) [] m = match m[n]? with | some (some (.list ds)) => (match ds[ds.length - 1]? with | some x => .ok (.d x) (m.set n (some (.list ds.dropLast))) | none => .no) | _ => .no := rfl
@[simp] theorem f_rev {n : Nat} : fReverse (.r n) [] m = match m[n]? with | some (some (.list ds)) => .ok (.d .none) (m.set n (some (.list ds.reverse))) | _ => .no := rfl
@[simp] theorem f_app {n : Nat} : fAppend (.r n) [.d x] m = match m[n]? with | some (some (.list ds)) => if small (ds.length + 1) then .ok (.d .none) (m.set n (some (.list (ds ++ [x])))) else .no | _ => .no := rfl
@[simp] theorem f_ext {n : Nat} : fExtend (.r n) [.d (.list es)] m = match m[n]? with | some (some (.list ds)) => if small (ds.length + es.length) then .ok (.d .none) (m.set n (some (.list (ds ++ es)))) else .no | _ => .no := rfl
@[simp] theorem on_ii {f : Int → Int → Option D} : onI f (.int i) (.int j) = (f i j).map W.d := rfl
@[simp] theorem add_i : addD (.int i) (.int j) = some (.d (.int (i + j))) := rfl
@[simp] theorem add_l : addD (.list ds) (.list es) = if small (ds.length + es.length) then some (.n (.list (ds ++ es))) else none := rfl
@[simp] theorem add_t : addD (.tuple ds) (.tuple es) = if small (ds.length + es.length) then some (.d (.tuple (ds ++ es))) else none := rfl
@[simp] theorem neg_i : lift1 negD (.d (.int i)) m = .ok (.d (.int (-i))) m := rfl
@[simp] theorem lt_i : ltD (.int i) (.int j) = some (.d (.bool (decide (i < j)))) := rfl
@[simp] theorem le_i : leD (.int i) (.int j) = some (.d (.bool (decide (i ≤ j)))) := rfl
@[simp] theorem gt_i : gtD (.int i) (.int j) = some (.d (.bool (decide (j < i)))) := rfl
@[simp] theorem ge_i : geD (.int i) (.int j) = some (.d (.bool (decide (j ≤ i)))) := rfl
@[simp] theorem len_l : lenD (.list ds) = some (.int (ds.length : Nat)) := rfl
@[simp] theorem len_t : lenD (.tuple ds) = some (.int (ds.length : Nat)) := rfl
@[simp] theorem abs_i : absD (.int i) = some (.int (if i < 0 then -i else i)) := rfl
@[simp] theorem int_i : intD (.int i) = some (.int i) := rfl
@[simp] theorem int_b {b : Bool} : intD (.bool b) = some (.int (if b then 1 else 0)) := rfl
@[simp] theorem max_i : maxD (.int i) (.int j) = some (.int (if j > i then j else i)) := rfl
@[simp] theorem min_i : minD (.int i) (.int j) = some (.int (if j < i then j else i)) := rfl
@[simp] theorem list_l : listD (.list ds) = some ds := rfl
@[simp] theorem list_t : listD (.tuple ds) = some ds := rfl
@[simp] theorem ix_l : ixD (.list ds) (.int i) = atI ds i := rfl
@[simp] theorem ix_t : ixD (.tuple ds) (.int i) = atI ds i := rfl
@[simp] theorem tru_d : truW (.d x) m = match truD x with | some b => .ok b m | none => .no := rfl
@[simp] theorem tru_b {b : Bool} : truD (.bool b) = some b := rfl
@[simp] theorem tru_l : truD (.list ds) = some (!ds.isEmpty) := rfl
@[simp] theorem tru_t : truD (.tuple ds) = some (!ds.isEmpty) := rfl
@[simp] theorem tru_i : truD (.int i) = some (i != 0) := rfl
@[simp] theorem tru_r {n : Nat} : truW (.r n) m = match (m[n]?).join with | some x => (match truD x with | some b => .ok b m | none => .no) | none => .no := rfl
@[simp] theorem kd_l : Kd.ok .lst (.list ds) = true := rfl
@[simp] theorem kd_s : Kd.ok .str (.str z) = true := rfl
theorem small_le {n : Nat} (h : n ≤ 1000000) : small n = true := decide_eq_true h
theorem sum_ints (ns : List Int) : sumD (.list (ns.map .int)) = some (.int ns.sum) := by unfold sumD; dsimp only; rw [intsOf_map]
theorem all_bools (bs : List Bool) : allD (.list (bs.map .bool)) = some (.bool (bs.all id)) := by unfold allD; dsimp only; rw [boolsOf_map]
theorem any_bools (bs : List Bool) : anyD (.list (bs.map .bool)) = some (.bool (bs.any id)) := by unfold anyD; dsimp only; rw [boolsOf_map]
end
/-! ### comprehensions, loops -/
theorem compL_inv {vs : List Nat} {g : GM} {t : EM Bool} {a : EM W} {rho : Env} (I : Nat → Mem → List D → Prop) : ∀ (items : List D) (k : Nat) (m : Mem) (acc : List D), I k m acc →
    (∀ (i : Nat) (h : i < items.length) m1 acc, I (k + i) m1 acc → ∃ r1 b m2, g (.d items[i]) (wipeE rho vs) m1 = some (r1, m1) ∧ t r1 m1 = .ok b m2 ∧ (b = false → I (k + i + 1) m2 acc) ∧
      (b = true → ∃ w m3 y m4, a r1 m2 = .ok w m3 ∧ frz m3 (val w) = some (y, m4) ∧ I (k + i + 1) m4 (acc ++ [y]))) → ∃ acc' m', compL vs g t a items acc rho m = .ok acc' m' ∧ I (k + items.length) m' acc'
  | [], k, m, acc, h0, _ => ⟨acc, m, rfl, h0⟩
  | x :: items, k, m, acc, h0, H => by
    obtain ⟨r1, b, m2, h1, h2, h3, h4⟩ := H 0 (by simp) m acc h0
    have e : k + (x :: items).length = k + 1 + items.length := by rw [List.length_cons]; omega
    rw [e]
    have H' : ∀ (i : Nat) (h : i < items.length) m1 acc, I (k + 1 + i) m1 acc → ∃ r1 b m2, g (.d items[i]) (wipeE rho vs) m1 = some (r1, m1) ∧ t r1 m1 = .ok b m2 ∧ (b = false → I (k + 1 + i + 1) m2 acc) ∧
        (b = true → ∃ w m3 y m4, a r1 m2 = .ok w m3 ∧ frz m3 (val w) = some (y, m4) ∧ I (k + 1 + i + 1) m4 (acc ++ [y])) := fun i h m1 acc hI => by
      have := H (i + 1) (by simp; omega) m1 acc (by rw [show k + (i + 1) = k + 1 + i by omega]; exact hI)
      rw [show k + (i + 1) = k + 1 + i by omega] at this
      exact this
    unfold compL
    dsimp only [List.getElem_cons_zero] at h1
    rw [h1]
    dsimp only
    rw [h2]
    cases b with
    | false =>
      rw [ev_bind, if_neg Bool.false_ne_true]
      exact compL_inv I items (k + 1) m2 acc (h3 rfl) H'
    | true =>
      obtain ⟨w, m3, y, m4, q1, q2, q3⟩ := h4 rfl
      rw [ev_bind, if_pos rfl, q1, ev_bindV, q2]
      exact compL_inv I items (k + 1) m4 (acc ++ [y]) q3 H'
theorem mLC_inv {it : EM (List D)} {vs : List Nat} {g : GM} {t : EM Bool} {a : EM W} {rho : Env} {m m0 : Mem} {items : List D} (I : Nat → Mem → List D → Prop) (hit : it rho m = .ok items m0) (hs : items.length ≤ 1000000) (h0 : I 0 m0 [])
    (H : ∀ (i : Nat) (h : i < items.length) m1 acc, I i m1 acc → ∃ r1 b m2, g (.d items[i]) (wipeE rho vs) m1 = some (r1, m1) ∧ t r1 m1 = .ok b m2 ∧ (b = false → I (i + 1) m2 acc) ∧
      (b = true → ∃ w m3 y m4, a r1 m2 = .ok w m3 ∧ frz m3 (val w) = some (y, m4) ∧ I (i + 1) m4 (acc ++ [y]))) : ∃ acc m', mLC it vs g t a rho m = .ok (.n (.list acc)) m' ∧ I items.length m' acc := by
  unfold mLC mComp
  rw [hit, ev_bind, if_pos (small_le hs)]
  obtain ⟨acc, m', h1, h2⟩ := compL_inv (vs := vs) (g := g) (t := fun r m => calmR (t r m)) (a := fun r m => calmR (a r m)) (rho := rho) I items 0 m0 [] h0 fun i h m1 acc hI => by
    rw [Nat.zero_add] at hI ⊢
    obtain ⟨r1, b, m2, q1, q2, q3, q4⟩ := H i h m1 acc hI
    refine ⟨r1, b, m2, q1, by rw [q2]; rfl, q3, fun hb => ?_⟩
    obtain ⟨w, m3, y, m4, z1, z2, z3⟩ := q4 hb
    exact ⟨w, m3, y, m4, by rw [z1]; rfl, z2, z3⟩
  rw [Nat.zero_add] at h2
  exact ⟨acc, m', by rw [h1]; rfl, h2⟩
/-- nothing is changed: a filter and a map -/
theorem mLC_map {it : EM (List D)} {vs : List Nat} {g : GM} {t : EM Bool} {a : EM W} {rho : Env} {m m0 : Mem} {items : List D} (p : D → Bool) (f : D → D) (hit : it rho m = .ok items m0) (hs : items.length ≤ 1000000)
    (H : ∀ x ∈ items, ∃ r1, g (.d x) (wipeE rho vs) m0 = some (r1, m0) ∧ t r1 m0 = .ok (p x) m0 ∧ (p x = true → ∃ w, a r1 m0 = .ok w m0 ∧ frz m0 (val w) = some (f x, m0))) : mLC it vs g t a rho m = .ok (.n (.list ((items.filter p).map f))) m0 := by
  obtain ⟨acc, m', h1, rfl, rfl⟩ := mLC_inv (vs := vs) (g := g) (t := t) (a := a) (fun i m1 acc => m1 = m0 ∧ acc = ((items.take i).filter p).map f) hit hs ⟨rfl, rfl⟩ fun i h m1 acc hI => by
    obtain ⟨rfl, rfl⟩ := hI
    obtain ⟨r1, q1, q2, q3⟩ := H items[i] (List.getElem_mem h)
    refine ⟨r1, p items[i], m1, q1, q2, fun hp => ⟨rfl, ?_⟩, fun hp => ?_⟩
    · rw [List.take_succ_eq_append_getElem h, List.filter_append, List.filter_cons_of_neg (by rw [hp]; simp)]; simp
    · obtain ⟨w, z1, z2⟩ := q3 hp
      refine ⟨w, m1, f items[i], m1, z1, z2, rfl, ?_⟩
      rw [List.take_succ_eq_append_getElem h, List.filter_append, List.filter_cons_of_pos hp]; simp
  rw [h1, List.take_length]
theorem forL_inv {g : GM} {c : SM} (I : Nat → Env → Mem → Prop) (J : Env → Mem → Prop) : ∀ (items : List D) (k : Nat) (rho : Env) (m : Mem), I k rho m →
    (∀ (i : Nat) (h : i < items.length) rho m, I (k + i) rho m → ∃ r1 m1, g (.d items[i]) rho m = some (r1, m1) ∧ ((∃ r m', c r1 m1 = .nx r m' ∧ I (k + i + 1) r m') ∨ (∃ r m', c r1 m1 = .ct r m' ∧ I (k + i + 1) r m') ∨ ∃ r m', c r1 m1 = .bk r m' ∧ J r m')) →
    ∃ r m', forL g c items rho m = .nx r m' ∧ (I (k + items.length) r m' ∨ J r m')
  | [], k, rho, m, h0, _ => ⟨rho, m, rfl, .inl h0⟩
  | x :: items, k, rho, m, h0, H => by
    obtain ⟨r1, m1, h1, h2⟩ := H 0 (by simp) rho m h0
    have e : k + (x :: items).length = k + 1 + items.length := by rw [List.length_cons]; omega
    rw [e]
    have H' : ∀ (i : Nat) (h : i < items.length) rho m, I (k + 1 + i) rho m → ∃ r1 m1, g (.d items[i]) rho m = some (r1, m1) ∧ ((∃ r m', c r1 m1 = .nx r m' ∧ I (k + 1 + i + 1) r m') ∨ (∃ r m', c r1 m1 = .ct r m' ∧ I (k + 1 + i + 1) r m') ∨ ∃ r m', c r1 m1 = .bk r m' ∧ J r m') := fun i h rho m hI => by
      have := H (i + 1) (by simp; omega) rho m (by rw [show k + (i + 1) = k + 1 + i by omega]; exact hI)
      rw [show k + (i + 1) = k + 1 + i by omega] at this
      exact this
    unfold forL
    dsimp only [List.getElem_cons_zero] at h1
    rw [h1]
    dsimp only
    rcases h2 with ⟨r, m', q1, q2⟩ | ⟨r, m', q1, q2⟩ | ⟨r, m', q1, q2⟩
    · rw [q1]; exact forL_inv I J items (k + 1) r m' q2 H'
    · rw [q1]; exact forL_inv I J items (k + 1) r m' q2 H'
    · rw [q1]; exact ⟨r, m', rfl, .inr q2⟩
theorem for_inv {g : GM} {c : SM} {rho : Env} {m : Mem} (items : List D) (I : Nat → Env → Mem → Prop) (h0 : I 0 rho m)
    (H : ∀ (i : Nat) (h : i < items.length) rho m, I i rho m → ∃ r1 m1, g (.d items[i]) rho m = some (r1, m1) ∧ ∃ r m', c r1 m1 = .nx r m' ∧ I (i + 1) r m') : ∃ r m', forL g c items rho m = .nx r m' ∧ I items.length r m' := by
  obtain ⟨r, m', h1, h2⟩ := forL_inv (g := g) (c := c) I (fun _ _ => False) items 0 rho m h0 fun i h rho m hI => by
    rw [Nat.zero_add] at hI ⊢
    obtain ⟨r1, m1, q1, q2⟩ := H i h rho m hI
    exact ⟨r1, m1, q1, .inl q2⟩
  rw [Nat.zero_add] at h2
  exact ⟨r, m', h1, h2.resolve_right id⟩
end Den
/-! Den17: arithmetic and comparisons of the mirrors at ints. -/
namespace Den
open PySem PySem.Spec PyProof.Rows L2
@[simp] theorem shaped_i {i : Int} : SeqAt.shaped (.int i) = true := by unfold SeqAt.shaped; simp [PyData.canLay0, PyData.depth]
@[simp] theorem shaped_b {b : Bool} : SeqAt.shaped (.bool b) = true := by unfold SeqAt.shaped; simp [PyData.canLay0, PyData.depth]
@[simp] theorem eq_s {x y : Str} : eqD (.str x) (.str y) = some (.d (.bool (decide (x = y)))) := rfl
@[simp] theorem ne_s {x y : Str} : neD (.str x) (.str y) = some (.d (.bool (!decide (x = y)))) := rfl
@[simp] theorem eq_i {i j : Int} : eqD (.int i) (.int j) = some (.d (.bool (i == j))) := by unfold eqD; simp [PyData.eqv]
@[simp] theorem ne_i {i j : Int} : neD (.int i) (.int j) = some (.d (.bool (!(i == j)))) := by unfold neD; simp [PyData.eqv]
theorem mod_pos {i j : Int} (h : 0 < j) : modD i j = some (.int (i % j)) := by unfold modD; rw [if_pos (decide_eq_true h)]
theorem fdiv_ok {i j : Int} (h : decide (0 < j ∧ j.natAbs.log2 < 9000) = true) : fdivD i j = some (.int (i / j)) := by unfold fdivD; rw [if_pos h]
@[simp] theorem fdiv_1000 {i : Int} : fdivD i 1000 = some (.int (i / 1000)) := fdiv_ok (by decide)
@[simp] theorem fdiv_7 {i : Int} : fdivD i 7 = some (.int (i / 7)) := fdiv_ok (by decide)
@[simp] theorem mod_1000 {i : Int} : modD i 1000 = some (.int (i % 1000)) := mod_pos (by decide)
@[simp] theorem mod_a {i : Int} : modD i 2147483647 = some (.int (i % 2147483647)) := mod_pos (by decide)
@[simp] theorem mod_b {i : Int} : modD i 2147483629 = some (.int (i % 2147483629)) := mod_pos (by decide)
theorem log2_small {n : Nat} (h : n < 2 ^ 100) : n.log2 < 100 := by
  by_cases h0 : n = 0
  · subst h0; decide
  · exact (Nat.log2_lt h0).mpr h
theorem mul_small {i j : Int} (h : i.natAbs < 2 ^ 100) (h2 : j.natAbs < 2 ^ 100) : mulD (.int i) (.int j) = some (.d (.int (i * j))) := by
  have e : mulOk i j = true := by
    unfold mulOk
    have := log2_small h
    have := log2_small h2
    exact decide_eq_true (by omega)
  show (if mulOk i j = true then _ else _) = _
  rw [if_pos e]
theorem range_get {lo hi : Int} {i : Nat} (h : i < (rangeD lo hi).length) : (rangeD lo hi)[i] = .int (lo + (i : Int)) := by
  have e : (rangeD lo hi)[i]? = some (.int (lo + (i : Int))) := by
    have h' : i < (hi - lo).toNat := by unfold rangeD at h; simpa using h
    unfold rangeD
    rw [List.getElem?_map, List.getElem?_range h']; rfl
  exact Option.some.inj ((List.getElem?_eq_getElem h).symm.trans e)
@[simp] theorem range_len {lo hi : Int} : (rangeD lo hi).length = (hi - lo).toNat := by unfold rangeD; rw [List.length_map, List.length_range]
theorem range1_ok {a : EM W} {rho : Env} {m : Mem} {n : Int} (h : a rho m = .ok (.d (.int n)) m) (h0 : 0 ≤ n) (h1 : n ≤ 1000000) : mRange1 a rho m = .ok (rangeD 0 n) m := by
  have hm : midI n = true := decide_eq_true (by omega)
  unfold mRange1
  show (mCons a mNil rho m).bind _ = _
  rw [e_Cons, h]
  simp [intOf, hm]
@[simp] theorem ints_len {ns : List Int} : (ns.map PyData.int).length = ns.length := by simp
@[simp] theorem small_0 : small 0 = true := rfl
@[simp] theorem small_1 : small 1 = true := rfl
@[simp] theorem small_2 : small 2 = true := rfl
@[simp] theorem small_3 : small 3 = true := rfl
@[simp] theorem small_4 : small 4 = true := rfl
@[simp] theorem small_5 : small 5 = true := rfl
@[simp] theorem small_6 : small 6 = true := rfl
@[simp] theorem small_7 : small 7 = true := rfl
@[simp] theorem small_8 : small 8 = true := rfl
@[simp] theorem small_9 : small 9 = true := rfl
@[simp] theorem small_10 : small 10 = true := rfl
@[simp] theorem small_11 : small 11 = true := rfl
@[simp] theorem small_12 : small 12 = true := rfl
@[simp] theorem small_13 : small 13 = true := rfl
@[simp] theorem small_14 : small 14 = true := rfl
@[simp] theorem small_15 : small 15 = true := rfl
@[simp] theorem small_16 : small 16 = true := rfl
@[simp] theorem small_17 : small 17 = true := rfl
@[simp] theorem small_18 : small 18 = true := rfl
@[simp] theorem small_19 : small 19 = true := rfl
@[simp] theorem small_20 : small 20 = true := rfl
@[simp] theorem small_21 : small 21 = true := rfl
@[simp] theorem small_22 : small 22 = true := rfl
@[simp] theorem small_23 : small 23 = true := rfl
@[simp] theorem small_24 : small 24 = true := rfl
end Den
/-! Den18: data that can be shown: a bound of what repr writes. -/
namespace Den
open PySem PySem.Spec PyProof.Rows L2
mutual
/-- ints below 10^30, texts of small signs, lists and tuples of these -/
def tame : D → Bool
  | .none => true
  | .bool _ => true
  | .int i => decide (i.natAbs < 10 ^ 30)
  | .str x => x.cps.toList.all fun c => decide (c < 16 ^ 8)
  | .list xs => tames xs
  | .tuple xs => tames xs
  | .dict _ => false
def tames : List D → Bool
  | [] => true
  | x :: xs => tame x && tames xs
end
mutual
/-- at most so many signs -/
def rsz : D → Nat
  | .none => 4
  | .bool _ => 5
  | .int _ => 31
  | .str x => 10 * x.length + 2
  | .list xs => rszs xs + 3
  | .tuple xs => rszs xs + 3
  | .dict _ => 0
def rszs : List D → Nat
  | [] => 0
  | x :: xs => rsz x + 2 + rszs xs
end
theorem shown_n (xs : List D) : (PyData.shownAll xs).length = xs.length := by
  induction xs with
  | nil => rfl
  | cons x xs ih => simp only [PyData.shownAll, List.length_cons, ih]
mutual
theorem tame_ok : ∀ d : D, tame d = true → d.showable = true ∧ d.hasDict = false ∧ d.shown.length ≤ rsz d
  | .none, _ => ⟨by simp only [PyData.showable], by simp only [PyData.hasDict], by decide⟩
  | .bool b, _ => ⟨by simp only [PyData.showable], by simp only [PyData.hasDict], by cases b <;> decide⟩
  | .int i, h => by
    have hi : i.natAbs < 10 ^ 30 := by unfold tame at h; exact of_decide_eq_true h
    refine ⟨?_, by simp only [PyData.hasDict], ?_⟩
    · simp only [PyData.showable]
      have : i.natAbs.log2 < 100 := log2_small (Nat.lt_trans hi (by decide))
      exact decide_eq_true (by omega)
    · have e := int_text_length_le10 (a := i) (k := 30) (by decide) hi
      simp only [PyData.shown, rsz]
      rw [PySem.ofString_length]
      exact e
  | .str x, h => by
    refine ⟨by simp only [PyData.showable], by simp only [PyData.hasDict], ?_⟩
    have hx : ∀ c ∈ x.cps.toList, c < 16 ^ 8 := by unfold tame at h; exact fun c hc => of_decide_eq_true (List.all_eq_true.mp h c hc)
    simp only [PyData.shown, rsz]
    exact StrLaws.reprText_len x hx
  | .list xs, h => by
    obtain ⟨h1, h2, h3⟩ := tames_ok xs (by unfold tame at h; exact h)
    refine ⟨by simp only [PyData.showable]; exact h1, by simp only [PyData.hasDict]; exact h2, ?_⟩
    have q := listText_len_le (PyData.shownAll xs)
    rw [shown_n] at q
    simp only [PyData.shown, rsz]
    omega
  | .tuple xs, h => by
    obtain ⟨h1, h2, h3⟩ := tames_ok xs (by unfold tame at h; exact h)
    refine ⟨by simp only [PyData.showable]; exact h1, by simp only [PyData.hasDict]; exact h2, ?_⟩
    have q := tupleText_len_le (PyData.shownAll xs)
    rw [shown_n] at q
    simp only [PyData.shown, rsz]
    omega
  | .dict _, h => by unfold tame at h; cases h
theorem tames_ok : ∀ xs : List D, tames xs = true → PyData.showableAll xs = true ∧ PyData.hasDictAll xs = false ∧ ((PyData.shownAll xs).map (·.length)).sum + 2 * xs.length ≤ rszs xs
  | [], _ => ⟨by simp only [PyData.showableAll], by simp only [PyData.hasDictAll], by simp [PyData.shownAll, rszs]⟩
  | x :: xs, h => by
    unfold tames at h
    rw [Bool.and_eq_true] at h
    obtain ⟨a1, a2, a3⟩ := tame_ok x h.1
    obtain ⟨b1, b2, b3⟩ := tames_ok xs h.2
    refine ⟨by simp only [PyData.showableAll]; rw [a1, b1]; rfl, by simp only [PyData.hasDictAll]; rw [a2, b2]; rfl, ?_⟩
    simp only [PyData.shownAll, List.map_cons, List.sum_cons, List.length_cons, rszs]
    omega
end
theorem repr_tame {d : D} (h : tame d = true) (h2 : d.depth ≤ 60) (h3 : rsz d ≤ 1000000) : reprD d = some (.str d.shown) := by
  obtain ⟨a, b, c⟩ := tame_ok d h
  unfold reprD reprOk
  rw [a, b, decide_eq_true h2, small_le (by omega)]
  rfl
theorem tames_map {α : Type} (l : List α) (f : α → D) (h : ∀ x ∈ l, tame (f x) = true) : tames (l.map f) = true := by
  induction l with
  | nil => rfl
  | cons x l ih =>
    rw [List.map_cons]
    unfold tames
    rw [h x List.mem_cons_self, ih fun y hy => h y (List.mem_cons_of_mem _ hy)]
    rfl
theorem rszs_map {α : Type} (l : List α) (f : α → D) (c : Nat) (h : ∀ x ∈ l, rsz (f x) + 2 ≤ c) : rszs (l.map f) ≤ l.length * c := by
  induction l with
  | nil => exact Nat.zero_le _
  | cons x l ih =>
    rw [List.map_cons, List.length_cons]
    unfold rszs
    have := h x List.mem_cons_self
    have := ih fun y hy => h y (List.mem_cons_of_mem _ hy)
    rw [Nat.add_mul, Nat.one_mul]
    omega
theorem depthAll_map {α : Type} (l : List α) (f : α → D) (c : Nat) (h : ∀ x ∈ l, (f x).depth ≤ c) : PyData.depthAll (l.map f) ≤ c := by
  induction l with
  | nil => simp [PyData.depthAll]
  | cons x l ih =>
    rw [List.map_cons]
    simp only [PyData.depthAll]
    exact Nat.max_le.mpr ⟨h x List.mem_cons_self, ih fun y hy => h y (List.mem_cons_of_mem _ hy)⟩
/-- shaped: lists and tuples of ints -/
theorem canLay_map {α : Type} (l : List α) (f : α → D) (h : ∀ x ∈ l, (f x).canLay0 = true) : PyData.canLayAll0 (l.map f) = true := by
  induction l with
  | nil => simp [PyData.canLayAll0]
  | cons x l ih =>
    rw [List.map_cons]
    simp only [PyData.canLayAll0]
    rw [h x List.mem_cons_self, ih fun y hy => h y (List.mem_cons_of_mem _ hy)]
    rfl
theorem shaped_ints (l : List Int) : SeqAt.shaped (.list (l.map .int)) = true := by
  unfold SeqAt.shaped
  have h1 := canLay_map l PyData.int fun x _ => by simp [PyData.canLay0]
  have h2 := depthAll_map l PyData.int 1 fun x _ => by simp [PyData.depth]
  have e1 : (PyData.list (l.map PyData.int)).canLay0 = true := by simp only [PyData.canLay0]; exact h1
  have e2 : (PyData.list (l.map PyData.int)).depth ≤ 64 := by simp only [PyData.depth]; omega
  rw [e1, decide_eq_true e2]
  rfl
theorem shaped_intsT (l : List Int) : SeqAt.shaped (.tuple (l.map .int)) = true := by
  unfold SeqAt.shaped
  have h1 := canLay_map l PyData.int fun x _ => by simp [PyData.canLay0]
  have h2 := depthAll_map l PyData.int 1 fun x _ => by simp [PyData.depth]
  have e1 : (PyData.tuple (l.map PyData.int)).canLay0 = true := by simp only [PyData.canLay0]; exact h1
  have e2 : (PyData.tuple (l.map PyData.int)).depth ≤ 64 := by simp only [PyData.depth]; omega
  rw [e1, decide_eq_true e2]
  rfl
theorem eqvAll_ints (l k : List Int) : PyData.eqvAll (l.map .int) (k.map .int) = decide (l = k) := by
  induction l generalizing k with
  | nil => cases k <;> simp [PyData.eqvAll]
  | cons x l ih =>
    cases k with
    | nil => simp [PyData.eqvAll]
    | cons y k =>
      rw [List.map_cons, List.map_cons]
      simp only [PyData.eqvAll, PyData.eqv]
      rw [ih]
      by_cases h : x = y
      · subst h; simp
      · have : (x == y) = false := beq_eq_false_iff_ne.mpr h
        rw [this]; simp [h]
theorem ne_ints (l k : List Int) : neD (.list (l.map .int)) (.list (k.map .int)) = some (.d (.bool (!decide (l = k)))) := by
  show (if SeqAt.shaped (.list (l.map .int)) && SeqAt.shaped (.list (k.map .int)) then some (W.d (.bool (!PyData.eqv (.list (l.map .int)) (.list (k.map .int))))) else none) = _
  rw [shaped_ints, shaped_ints]
  simp [PyData.eqv, eqvAll_ints]
/-! sorted lists of ints -/
def leI (a b : Int) : Bool := decide (a ≤ b)
theorem sort_ints (l : List Int) : (l.map PyData.int).mergeSort (PySem.W.dataLe false id) = (l.mergeSort leI).map .int := by
  refine (List.map_mergeSort (r := leI) (s := PySem.W.dataLe false id) (f := PyData.int) (l := l) fun a _ b _ => ?_).symm
  show decide (a ≤ b) = (!(decide (b < a) || (!decide (a < b) && false)))
  by_cases h : a ≤ b
  · have h2 : ¬ b < a := by omega
    simp [h, h2]
  · have h2 : b < a := by omega
    simp [h, h2]
theorem leI_tot (a b : Int) : (leI a b || leI b a) = true := by
  unfold leI
  by_cases h : a ≤ b
  · simp [h]
  · have : b ≤ a := by omega
    simp [this]
theorem leI_trans (a b c : Int) (h : leI a b = true) (h2 : leI b c = true) : leI a c = true := by
  unfold leI at *
  have := of_decide_eq_true h
  have := of_decide_eq_true h2
  exact decide_eq_true (by omega)
theorem sorted_le (l : List Int) : (l.mergeSort leI).Pairwise (· ≤ ·) := by
  have h := List.pairwise_mergeSort (le := leI) leI_trans leI_tot l
  exact h.imp fun {a b} q => of_decide_eq_true q
/-- two sorted lists of the same are the same -/
theorem sorted_eq : ∀ {l k : List Int}, l.Pairwise (· ≤ ·) → k.Pairwise (· ≤ ·) → l.Perm k → l = k := fun {l k} h1 h2 p =>
  p.eq_of_pairwise (le := (· ≤ ·)) (fun a b _ _ x y => Int.le_antisymm x y) h1 h2
end Den
/-! Den19: comprehensions over mapped lists, more evaluation. -/
namespace Den
open PySem PySem.Spec PyProof.Rows L2
section
variable {it : EM (List D)} {vs : List Nat} {g : GM} {t : EM Bool} {a : EM W} {rho : Env} {m m0 : Mem}
theorem mLC_of {α : Type} (l : List α) (F : α → D) (p : α → Bool) (f : α → D) (hit : it rho m = .ok (l.map F) m0) (hs : l.length ≤ 1000000)
    (H : ∀ x ∈ l, ∃ r1, g (.d (F x)) (wipeE rho vs) m0 = some (r1, m0) ∧ t r1 m0 = .ok (p x) m0 ∧ (p x = true → ∃ w, a r1 m0 = .ok w m0 ∧ frz m0 (val w) = some (f x, m0))) : mLC it vs g t a rho m = .ok (.n (.list ((l.filter p).map f))) m0 := by
  obtain ⟨acc, m', h1, rfl, rfl⟩ := mLC_inv (vs := vs) (g := g) (t := t) (a := a) (fun i m1 acc => m1 = m0 ∧ acc = ((l.take i).filter p).map f) hit (by rw [List.length_map]; exact hs) ⟨rfl, rfl⟩ fun i h m1 acc hI => by
    obtain ⟨rfl, rfl⟩ := hI
    have h' : i < l.length := by rw [List.length_map] at h; exact h
    have e0 : (l.map F)[i] = F l[i] := by simp
    rw [e0]
    obtain ⟨r1, q1, q2, q3⟩ := H l[i] (List.getElem_mem h')
    refine ⟨r1, p l[i], m1, q1, q2, fun hp => ⟨rfl, ?_⟩, fun hp => ?_⟩
    · rw [List.take_succ_eq_append_getElem h', List.filter_append, List.filter_cons_of_neg (by rw [hp]; simp)]; simp
    · obtain ⟨w, z1, z2⟩ := q3 hp
      refine ⟨w, m1, f l[i], m1, z1, z2, rfl, ?_⟩
      rw [List.take_succ_eq_append_getElem h', List.filter_append, List.filter_cons_of_pos hp]; simp
  rw [h1, List.length_map, List.take_length]
theorem mLC_all {α : Type} (l : List α) (F : α → D) (f : α → D) (hit : it rho m = .ok (l.map F) m0) (hs : l.length ≤ 1000000)
    (H : ∀ x ∈ l, ∃ r1, g (.d (F x)) (wipeE rho vs) m0 = some (r1, m0) ∧ t r1 m0 = .ok true m0 ∧ ∃ w, a r1 m0 = .ok w m0 ∧ frz m0 (val w) = some (f x, m0)) : mLC it vs g t a rho m = .ok (.n (.list (l.map f))) m0 := by
  have h := mLC_of l F (fun _ => true) f hit hs fun x hx => by
    obtain ⟨r1, q1, q2, q3⟩ := H x hx
    exact ⟨r1, q1, q2, fun _ => q3⟩
  rw [h, show l.filter (fun _ => true) = l from List.filter_eq_self.mpr fun _ _ => rfl]
end
def pairIJ (p : Int × Int) : D := .tuple [.int p.1, .int p.2]
theorem zip_ints (a b : List Int) : ((a.map PyData.int).zip (b.map PyData.int)).map (fun p => PyData.tuple [p.1, p.2]) = (a.zip b).map pairIJ := by
  induction a generalizing b with
  | nil => rfl
  | cons x a ih => cases b with
    | nil => rfl
    | cons y b => simp only [List.map_cons, List.zip_cons_cons, ih]; rfl
section
variable {rho : Env} {m : Mem} {a b c : EM W} {r : EM (List W)} {i n : Nat}
@[simp] theorem e_Zip : mZip a b rho m = (mCons a (mCons b mNil) rho m).bind fun ws m1 => match ws with | [.d x, .d y] => (match zipD x y with | some ds => .ok ds m1 | none => .no) | _ => .no := rfl
@[simp] theorem zip_t {xs ys : List D} : zipD (.tuple xs) (.tuple ys) = some ((xs.zip ys).map fun p => .tuple [p.1, p.2]) := rfl
@[simp] theorem zip_l {xs ys : List D} : zipD (.list xs) (.list ys) = some ((xs.zip ys).map fun p => .tuple [p.1, p.2]) := rfl
@[simp] theorem intOf_i {i : Int} : intOf (.d (.int i)) = some i := rfl
@[simp] theorem e_Pick {fs : List FnM} {i : EM W} : mPick fs i r rho m = (i rho m).bindV fun w m1 => match intOf w with
  | some j => if 0 ≤ j then (match fs[j.toNat]? with | some t => (r rho m1).bind fun ws m2 => if ws.length = t.2.1 then t.2.2 ws m2 else .no | none => .no) else .no
  | none => .no := rfl
@[simp] theorem e_TryK {cb : SM} {kf : Str → Option Str} : sTryK i cb kf rho m = match cb rho m with
  | .ex (.own x) rho' m' => (match kf x with | some y => if i < rho'.length then .rt (.d (.str y)) m' else .no | none => .no)
  | .ex (.low _ _ _) _ _ => .no
  | r => r := rfl
@[simp] theorem e_gT {gs : List GM} {w : W} : gT gs w rho m = match (peek m w).bind seqOf with | some ds => if ds.length = gs.length then gAll gs ds rho m else none | none => none := rfl
@[simp] theorem gAll_nil : gAll [] [] rho m = some (rho, m) := rfl
@[simp] theorem gAll_cons {g : GM} {gs : List GM} {x : D} {xs : List D} : gAll (g :: gs) (x :: xs) rho m = match g (.d x) rho m with | some (rho', m') => gAll gs xs rho' m' | none => none := rfl
@[simp] theorem wipe_nil : wipeE rho [] = rho := rfl
@[simp] theorem wipe_cons {v : Nat} {vs : List Nat} : wipeE rho (v :: vs) = (wipeE rho vs).set v none := rfl
@[simp] theorem cut_1 {α : Type} {xs : List α} : cutD xs (some 1) none = xs.drop 1 := by
  unfold cutD
  have h : HT.sIx xs.length 0 (some 1) = min 1 xs.length := HT.sIx_nat xs.length 0 1
  rw [h]
  show (xs.drop (min 1 xs.length)).take (xs.length - min 1 xs.length) = xs.drop 1
  cases xs with
  | nil => rfl
  | cons x xs =>
    rw [show min 1 (x :: xs).length = 1 by rw [List.length_cons]; omega]
    exact List.take_of_length_le (by simp)
@[simp] theorem kind_chain : kindTab "NotChain" = some "!chain" := by decide
@[simp] theorem kind_net : kindTab "NotNet" = some "!net" := by decide
@[simp] theorem kind_trace : kindTab "NotTrace" = some "!trace" := by decide
@[simp] theorem kind_paper : kindTab "NotPaper" = some "!paper" := by decide
@[simp] theorem kind_number : kindTab "BadNumber" = some "!number" := by decide
@[simp] theorem kind_none : kindTab "NoAnswer" = some "!none" := by decide
@[simp] theorem kind_large : kindTab "TooLarge" = some "!large" := by decide
end
theorem all_true {α : Type} (l : List α) : allD (.list (l.map fun _ => .bool true)) = some (.bool true) := by
  have e : l.map (fun _ => PyData.bool true) = (l.map fun _ => true).map PyData.bool := by simp
  rw [e, all_bools]
  simp
end Den
/-! Den20: dicts: keys, tables of data, what stands at a dict's address. -/
namespace Den
open PySem PySem.Spec PyProof.Rows L2

/-! ### keys -/
abbrev K2 := Key ⊕ List Key
def keyK : D → Option Key
  | .int i => some (.inl i)
  | .str x => some (.inr x)
  | _ => none
def keysK : List D → Option (List Key)
  | [] => some []
  | x :: xs => (keyK x).bind fun k => (keysK xs).map (k :: ·)
def keyOf : D → Option K2
  | .tuple ds => (keysK ds).map .inr
  | x => (keyK x).map .inl
theorem keyK_keyD (k : Key) : keyK (keyD k) = some k := by cases k <;> rfl
theorem keyK_inv {x : D} {k : Key} (h : keyK x = some k) : x = keyD k := by cases x <;> cases h <;> rfl
theorem keysK_keyD : ∀ ks : List Key, keysK (ks.map keyD) = some ks
  | [] => rfl
  | k :: ks => by rw [List.map_cons, keysK, keyK_keyD, keysK_keyD ks]; rfl
theorem keysK_inv : ∀ {ds : List D} {ks : List Key}, keysK ds = some ks → ds = ks.map keyD
  | [], _, h => by cases h; rfl
  | x :: xs, ks, h => by
    unfold keysK at h
    cases h1 : keyK x with
    | none => rw [h1] at h; cases h
    | some k =>
      rw [h1] at h
      cases h2 : keysK xs with
      | none => rw [h2] at h; cases h
      | some r =>
        rw [h2] at h
        have e : k :: r = ks := Option.some.inj h
        rw [← e, List.map_cons, ← keyK_inv h1, ← keysK_inv h2]
theorem keyOf_keyD (k : Key) : keyOf (keyD k) = some (.inl k) := by cases k <;> rfl
theorem keyOf_tup (ks : List Key) : keyOf (.tuple (ks.map keyD)) = some (.inr ks) := by
  show (keysK _).map _ = _
  rw [keysK_keyD]; rfl
theorem keyOf_l {x : D} {k : Key} (h : keyOf x = some (.inl k)) : x = keyD k := by
  cases x with
  | tuple ds =>
    have h' : (keysK ds).map Sum.inr = some (Sum.inl k : K2) := h
    cases q : keysK ds with
    | none => rw [q] at h'; cases h'
    | some z => rw [q] at h'; cases h'
  | int i => cases h; rfl
  | str i => cases h; rfl
  | _ => cases h
theorem keyOf_r {x : D} {ks : List Key} (h : keyOf x = some (.inr ks)) : x = .tuple (ks.map keyD) := by
  cases x with
  | tuple ds =>
    have h' : (keysK ds).map Sum.inr = some (Sum.inr ks : K2) := h
    cases q : keysK ds with
    | none => rw [q] at h'; cases h'
    | some z =>
      rw [q] at h'
      have e : z = ks := by cases h'; rfl
      rw [← e, keysK_inv q]
  | _ => cases h

/-! ### tables of data -/
def hasK (k : K2) (p : D × D) : Bool := decide (keyOf p.1 = some k)
def valD (kvs : List (D × D)) (k : K2) : Option D := (kvs.find? (hasK k)).map (·.2)
def putDt (kvs : List (D × D)) (k : K2) (kd v : D) : List (D × D) := if kvs.any (hasK k) = true then kvs.map fun p => if hasK k p = true then (p.1, v) else p else kvs ++ [(kd, v)]
/-- the keys are of the kind of k -/
def okKey : List (D × D) → K2 → Bool
  | [], .inl _ => true
  | [], .inr _ => !ModT
  | p :: _, .inl _ => match keyOf p.1 with | some (.inl _) => true | _ => false
  | p :: _, .inr _ => !ModT && match keyOf p.1 with | some (.inr _) => true | _ => false
theorem okKey_T {kvs : List (D × D)} {k : List Key} (h : okKey kvs (.inr k) = true) : ModT = false := by
  cases kvs with
  | nil => simpa [okKey] using h
  | cons p r =>
    have h' : (!ModT && match keyOf p.1 with | some (.inr _) => true | _ => false) = true := h
    rw [Bool.and_eq_true] at h'
    simpa using h'.1
theorem valD_pos {k : K2} {p : D × D} {r : List (D × D)} (h : hasK k p = true) : valD (p :: r) k = some p.2 := by unfold valD; rw [List.find?_cons, h]; rfl
theorem valD_neg {k : K2} {p : D × D} {r : List (D × D)} (h : hasK k p = false) : valD (p :: r) k = valD r k := by unfold valD; rw [List.find?_cons, h]
theorem hasK_l {k key : Key} {x : D} : hasK (.inl k) (keyD key, x) = decide (key = k) := by
  unfold hasK
  rw [keyOf_keyD]
  by_cases e : key = k
  · rw [e, decide_eq_true rfl, decide_eq_true rfl]
  · rw [decide_eq_false e, decide_eq_false fun z => e (by cases z; rfl)]
theorem hasK_r {k key : List Key} {x : D} : hasK (.inr k) (.tuple (key.map keyD), x) = decide (key = k) := by
  unfold hasK
  rw [keyOf_tup]
  by_cases e : key = k
  · rw [e, decide_eq_true rfl, decide_eq_true rfl]
  · rw [decide_eq_false e, decide_eq_false fun z => e (by cases z; rfl)]

section
variable {K : PySem.W.Frag} {O : Addr → Prop} {H : Hp}
theorem RepK.len : ∀ {kvs : List (D × D)} {kz : List (Key × V)}, RepK K O H kvs kz → kz.length = kvs.length
  | [], _, h => by rw [show _ = [] from h]; rfl
  | (a, b) :: kvs, _, ⟨key, v, r, h1, _, _, h4⟩ => by rw [h1, List.length_cons, List.length_cons, RepK.len h4]
theorem RepT.len : ∀ {kvs : List (D × D)} {kz : List (List Key × V)}, RepT K O H kvs kz → kz.length = kvs.length
  | [], _, h => by rw [show _ = [] from h]; rfl
  | (a, b) :: kvs, _, ⟨key, v, r, h1, _, _, h4⟩ => by rw [h1, List.length_cons, List.length_cons, RepT.len h4]
theorem RepK.val (k : Key) : ∀ {kvs : List (D × D)} {kz : List (Key × V)}, RepK K O H kvs kz → match valD kvs (.inl k) with | some x => ∃ v, valV kz k = some v ∧ RepD K O H x v | none => valV kz k = none
  | [], _, h => by rw [show _ = [] from h]; exact rfl
  | (a, b) :: kvs, _, ⟨key, v, r, h1, h2, h3, h4⟩ => by
    subst h1 h2
    by_cases e : key = k
    · rw [valD_pos (by rw [hasK_l, decide_eq_true e])]
      exact ⟨v, valV_pos (p := (key, v)) e, h3⟩
    · rw [valD_neg (by rw [hasK_l, decide_eq_false e]), valV_neg (p := (key, v)) e]
      exact RepK.val k h4
theorem RepT.val (k : List Key) : ∀ {kvs : List (D × D)} {kz : List (List Key × V)}, RepT K O H kvs kz → match valD kvs (.inr k) with | some x => ∃ v, valV kz k = some v ∧ RepD K O H x v | none => valV kz k = none
  | [], _, h => by rw [show _ = [] from h]; exact rfl
  | (a, b) :: kvs, _, ⟨key, v, r, h1, h2, h3, h4⟩ => by
    subst h1 h2
    by_cases e : key = k
    · rw [valD_pos (by rw [hasK_r, decide_eq_true e])]
      exact ⟨v, valV_pos (p := (key, v)) e, h3⟩
    · rw [valD_neg (by rw [hasK_r, decide_eq_false e]), valV_neg (p := (key, v)) e]
      exact RepT.val k h4
theorem RepK.any (k : Key) : ∀ {kvs : List (D × D)} {kz : List (Key × V)}, RepK K O H kvs kz → (kz.any fun kv => decide (kv.1 = k)) = kvs.any (hasK (.inl k))
  | [], _, h => by rw [show _ = [] from h]; rfl
  | (a, b) :: kvs, _, ⟨key, v, r, h1, h2, _, h4⟩ => by subst h1 h2; rw [List.any_cons, List.any_cons, RepK.any k h4, hasK_l]
theorem RepT.any (k : List Key) : ∀ {kvs : List (D × D)} {kz : List (List Key × V)}, RepT K O H kvs kz → (kz.any fun kv => decide (kv.1 = k)) = kvs.any (hasK (.inr k))
  | [], _, h => by rw [show _ = [] from h]; rfl
  | (a, b) :: kvs, _, ⟨key, v, r, h1, h2, _, h4⟩ => by subst h1 h2; rw [List.any_cons, List.any_cons, RepT.any k h4, hasK_r]
theorem RepK.snoc {k : Key} {x : D} {v : V} (hx : RepD K O H x v) : ∀ {kvs : List (D × D)} {kz : List (Key × V)}, RepK K O H kvs kz → RepK K O H (kvs ++ [(keyD k, x)]) (kz ++ [(k, v)])
  | [], _, h => by rw [show _ = [] from h]; exact ⟨k, v, [], rfl, rfl, hx, rfl⟩
  | (a, b) :: kvs, _, ⟨key, u, r, h1, h2, h3, h4⟩ => by subst h1; exact ⟨key, u, _, rfl, h2, h3, RepK.snoc hx h4⟩
theorem RepT.snoc {k : List Key} {x : D} {v : V} (hx : RepD K O H x v) : ∀ {kvs : List (D × D)} {kz : List (List Key × V)}, RepT K O H kvs kz → RepT K O H (kvs ++ [(.tuple (k.map keyD), x)]) (kz ++ [(k, v)])
  | [], _, h => by rw [show _ = [] from h]; exact ⟨k, v, [], rfl, rfl, hx, rfl⟩
  | (a, b) :: kvs, _, ⟨key, u, r, h1, h2, h3, h4⟩ => by subst h1; exact ⟨key, u, _, rfl, h2, h3, RepT.snoc hx h4⟩
theorem RepK.repl {k : Key} {x : D} {v : V} (hx : RepD K O H x v) : ∀ {kvs : List (D × D)} {kz : List (Key × V)}, RepK K O H kvs kz →
    RepK K O H (kvs.map fun p => if hasK (.inl k) p = true then (p.1, x) else p) (kz.map fun kv => if kv.1 = k then (kv.1, v) else kv)
  | [], _, h => by rw [show _ = [] from h]; exact rfl
  | (a, b) :: kvs, _, ⟨key, u, r, h1, h2, h3, h4⟩ => by
    subst h1 h2
    rw [List.map_cons, List.map_cons, hasK_l]
    by_cases e : key = k
    · rw [if_pos (decide_eq_true e), if_pos e]; exact ⟨key, v, _, rfl, rfl, hx, RepK.repl hx h4⟩
    · rw [if_neg (by rw [decide_eq_false e]; decide), if_neg e]; exact ⟨key, u, _, rfl, rfl, h3, RepK.repl hx h4⟩
theorem RepT.repl {k : List Key} {x : D} {v : V} (hx : RepD K O H x v) : ∀ {kvs : List (D × D)} {kz : List (List Key × V)}, RepT K O H kvs kz →
    RepT K O H (kvs.map fun p => if hasK (.inr k) p = true then (p.1, x) else p) (kz.map fun kv => if kv.1 = k then (kv.1, v) else kv)
  | [], _, h => by rw [show _ = [] from h]; exact rfl
  | (a, b) :: kvs, _, ⟨key, u, r, h1, h2, h3, h4⟩ => by
    subst h1 h2
    rw [List.map_cons, List.map_cons, hasK_r]
    by_cases e : key = k
    · rw [if_pos (decide_eq_true e), if_pos e]; exact ⟨key, v, _, rfl, rfl, hx, RepT.repl hx h4⟩
    · rw [if_neg (by rw [decide_eq_false e]; decide), if_neg e]; exact ⟨key, u, _, rfl, rfl, h3, RepT.repl hx h4⟩
theorem RepK.put {k : Key} {kvs : List (D × D)} {kz : List (Key × V)} {x : D} {v : V} (h : RepK K O H kvs kz) (hx : RepD K O H x v) : RepK K O H (putDt kvs (.inl k) (keyD k) x) (putK kz k v) := by
  unfold putDt putK
  rw [h.any k]
  by_cases e : kvs.any (hasK (.inl k)) = true
  · rw [if_pos e, if_pos e]; exact h.repl hx
  · rw [if_neg e, if_neg e]; exact h.snoc hx
theorem RepT.put {k : List Key} {kvs : List (D × D)} {kz : List (List Key × V)} {x : D} {v : V} (h : RepT K O H kvs kz) (hx : RepD K O H x v) : RepT K O H (putDt kvs (.inr k) (.tuple (k.map keyD)) x) (putK kz k v) := by
  unfold putDt putK
  rw [h.any k]
  by_cases e : kvs.any (hasK (.inr k)) = true
  · rw [if_pos e, if_pos e]; exact h.repl hx
  · rw [if_neg e, if_neg e]; exact h.snoc hx
theorem RepK.kind {kvs : List (D × D)} {kz : List (Key × V)} {k : List Key} (h : RepK K O H kvs kz) (ok : okKey kvs (.inr k) = true) : kvs = [] ∧ kz = [] := by
  cases kvs with
  | nil => exact ⟨rfl, h⟩
  | cons p r =>
    obtain ⟨a, b⟩ := p
    obtain ⟨key, v, q, _, h2, _⟩ := h
    subst h2
    unfold okKey at ok
    dsimp only at ok
    rw [keyOf_keyD] at ok
    cases ok
theorem RepT.kind {kvs : List (D × D)} {kz : List (List Key × V)} {k : Key} (h : RepT K O H kvs kz) (ok : okKey kvs (.inl k) = true) : kvs = [] ∧ kz = [] := by
  cases kvs with
  | nil => exact ⟨rfl, h⟩
  | cons p r =>
    obtain ⟨a, b⟩ := p
    obtain ⟨key, v, q, _, h2, _⟩ := h
    subst h2
    unfold okKey at ok
    dsimp only at ok
    rw [keyOf_tup] at ok
    cases ok
end

/-! ### an empty dict is of any kind -/
inductive Conv (a : Addr) : Hp → Hp → Prop where
  | refl (H : Hp) : Conv a H H
  | t (H : Hp) (h : H a = some (.dK [])) : Conv a H (upd H a (.dT []))
  | k (H : Hp) (h : H a = some (.dT [])) : Conv a H (upd H a (.dK []))
section
variable {X : Cx} {pins : List (Addr × Obj)} {σ : St} {H H' : Hp} {s : Shared} {a : Addr}
theorem inv_conv (I : Inv X pins σ H s) (c : Conv a H H') : Inv X pins σ H' s := by
  cases c with
  | refl => exact I
  | t h =>
    obtain ⟨z, hd, vs, rel, o, es, ep, ho, hx, hdt, hk, hp, hn⟩ := dk_of I.hok h
    cases rel
    have he : es.toList = [] := by cases q : es.toList with
      | nil => rfl
      | cons x r => rw [q] at hp; cases hp
    exact I.write (x := a) (e := a) (t' := s.toks) (h' := s.heap) (by rw [h]; exact True.intro) (.inl rfl) (fun b v _ q => q) ⟨o, ho⟩
      (show ObjOk X.prog X.w _ _ a (.dT []) from ⟨Nat.zero_le _, hd, [], .nil, o, es, ep, ho, hx, hdt, he, List.nodup_nil⟩)
  | k h =>
    obtain ⟨z, hd, xs, rel, o, es, ep, ho, hx, hdt, he, _⟩ := (show ObjOk X.prog X.w H s.heap a (.dT []) from I.hok a _ h)
    cases rel
    have he2 : es = #[] := by rw [← Array.toList_eq_nil_iff]; exact he
    subst he2
    refine I.write (x := a) (e := a) (t' := s.toks) (h' := s.heap) (by rw [h]; exact True.intro) (.inl rfl) (fun b v _ q => q) ⟨o, ho⟩
      (show ObjOk X.prog X.w _ _ a (.dK []) from ⟨Nat.zero_le _, hd, [], .nil, o, #[], ep, ho, hx, hdt, ?_, .nil, List.nodup_nil⟩)
    intro e hm
    simp at hm
end
section
variable {X : Cx} {e : Expr} {t : TE}
def tConv (t : TE) : TE := fun σ H Q => t σ H fun v H1 => ∃ a H2, Conv a H1 H2 ∧ Q v H2
theorem pe_conv (h : PE X e t) : PE X e (tConv t) := ⟨fun pins s σ H Q I q => thn (h.run pins s σ H _ I q) fun u s1 hh => by
  obtain ⟨x, H1, I1, r, a, H2, c, q2⟩ := hh
  exact ⟨x, H2, inv_conv I1 c, r, q2⟩⟩
end

/-! ### what stands at a dict's address -/
def dictAt (m : Mem) (w : W) : Option (List (D × D)) := match peek m w with
  | some (.dict kvs) => some kvs
  | _ => none
def isR : W → Bool
  | .r _ => true
  | _ => false
def keyFor (w : W) (kvs : List (D × D)) (k : K2) : Bool := okKey kvs k && (isR w || !kvs.isEmpty)
/-- the table at a, with keys of the kind of k -/
def TabK (K : PySem.W.Frag) (O : Addr → Prop) (H : Hp) (a : Addr) (kvs : List (D × D)) : K2 → Prop
  | .inl _ => ∃ kz, Rd H a (.dK kz) ∧ RepK K O H kvs kz
  | .inr _ => ModT = false ∧ ∃ kz, Rd H a (.dT kz) ∧ RepT K O H kvs kz
section
variable {K : PySem.W.Frag} {mg : Str → Option Value} {Hd : Addr → Prop} {al : List Addr} {m : Mem} {H : Hp}
theorem set_self {n : Nat} {x : D} (h : m[n]? = some (some x)) : m.set n (some x) = m := by
  apply List.ext_getElem?
  intro i
  by_cases e : n = i
  · subst e
    obtain ⟨hl, _⟩ := List.getElem?_eq_some_iff.mp h
    rw [List.getElem?_set_self hl, h]
  · rw [List.getElem?_set_ne e]
theorem handle_conv {n : Nat} {a : Addr} {u : HO} (s : Stt K Hd al none H m) (ha : al[n]? = some a) (hm : m[n]? = some (some (.dict []))) (hu : (∃ kz, u = .dK kz ∧ kz = []) ∨ ∃ kz, u = .dT kz ∧ kz = []) :
    Go Hd al m none H al m none (upd H a u) ∧ Stt K Hd al none (upd H a u) m := by
  have g := go_put (y := .dict []) (o := u) s ha hm
  have st := stt_put (y := .dict []) (o := u) s ha hm (by
    rcases hu with ⟨kz, rfl, rfl⟩ | ⟨kz, rfl, rfl⟩
    · exact .inl ⟨[], upd_same, rfl⟩
    · exact .inr ⟨[], upd_same, rfl⟩)
  rw [set_self hm] at g st
  exact ⟨g, st⟩
theorem peekR {n : Nat} {x : D} (h : peek m (.r n) = some x) : m[n]? = some (some x) := by
  have e' : (m[n]?).join = some x := h
  cases q : m[n]? with
  | none => rw [q] at e'; cases e'
  | some o => rw [q] at e'; have z : o = some x := e'; rw [z]
theorem dictAt_peek {w : W} {kvs : List (D × D)} (h : dictAt m w = some kvs) : peek m w = some (.dict kvs) := by
  unfold dictAt at h
  split at h
  · rename_i z hz; cases h; exact hz
  · cases h
theorem tab_at {w : W} {v : V} {kvs : List (D × D)} {k : K2} (s : Stt K Hd al none H m) (rw' : RepW K mg (Own Hd al m none) none al H w v) (h : dictAt m w = some kvs) (ok : keyFor w kvs k = true) :
    ∃ a H', v = .ref a ∧ Conv a H H' ∧ Go Hd al m none H al m none H' ∧ Stt K Hd al none H' m ∧ TabK K (Own Hd al m none) H' a kvs k := by
  unfold keyFor at ok
  rw [Bool.and_eq_true] at ok
  obtain ⟨ok1, ok2⟩ := ok
  have hp := dictAt_peek h
  obtain ⟨a, rfl, q⟩ := peek_ok s rw' hp
  by_cases e0 : kvs = []
  · subst e0
    cases w with
    | r n =>
      have hm := peekR hp
      obtain ⟨_, a', ha, e⟩ := rw'
      cases e
      have ob := s.ob n a _ ha hm
      cases k with
      | inl k =>
        rcases ob with ⟨kz, hk, r⟩ | ⟨kz, hk, r⟩
        · exact ⟨a, H, rfl, .refl H, Go.refl, s, kz, .inl hk, r⟩
        · have r' : kz = [] := r
          subst r'
          obtain ⟨g, st⟩ := handle_conv (u := .dK []) s ha hm (.inl ⟨[], rfl, rfl⟩)
          exact ⟨a, _, rfl, .k H hk, g, st, [], .inl upd_same, rfl⟩
      | inr k =>
        rcases ob with ⟨kz, hk, r⟩ | ⟨kz, hk, r⟩
        · have r' : kz = [] := r
          subst r'
          obtain ⟨g, st⟩ := handle_conv (u := .dT []) s ha hm (.inr ⟨[], rfl, rfl⟩)
          exact ⟨a, _, rfl, .t H hk, g, st, okKey_T ok1, [], .inl upd_same, rfl⟩
        · exact ⟨a, H, rfl, .refl H, Go.refl, s, okKey_T ok1, kz, .inl hk, r⟩
    | _ => cases ok2
  · refine ⟨a, H, rfl, .refl H, Go.refl, s, ?_⟩
    cases k with
    | inl k =>
      rcases q with ⟨kz, hk, r⟩ | ⟨kz, hk, r⟩
      · exact ⟨kz, hk, r⟩
      · exact (e0 (r.kind ok1).1).elim
    | inr k =>
      rcases q with ⟨kz, hk, r⟩ | ⟨kz, hk, r⟩
      · exact (e0 (r.kind ok1).1).elim
      · exact ⟨okKey_T ok1, kz, hk, r⟩
/-- a key's value -/
theorem key_kV {O : Addr → Prop} {k : Key} {v : V} (h : RepD K O H (keyD k) v) : v = kV k := by cases k <;> exact h
theorem keys_kV {O : Addr → Prop} : ∀ {ks : List Key} {vs : List V}, RepDs K O H (ks.map keyD) vs → vs = ks.map kV
  | [], _, h => h
  | k :: ks, _, ⟨v, r, h1, h2, h3⟩ => by rw [h1, List.map_cons, key_kV h2, keys_kV h3]
theorem kV_rep {O : Addr → Prop} (k : Key) : RepD K O H (keyD k) (kV k) := by cases k <;> rfl
theorem kVs_rep {O : Addr → Prop} : ∀ (ks : List Key), RepDs K O H (ks.map keyD) (ks.map kV)
  | [] => rfl
  | k :: ks => ⟨kV k, _, rfl, kV_rep k, kVs_rep ks⟩
/-- a lookup -/
theorem tab_get {O : Addr → Prop} {a : Addr} {kvs : List (D × D)} {k : K2} {xk : D} {y : V} (t : TabK K O H a kvs k) (hk : keyOf xk = some k) (hy : RepD K O H xk y) :
    match valD kvs k with | some x => ∃ v, DGet H a y (some v) ∧ RepD K O H x v | none => DGet H a y none := by
  cases k with
  | inl k =>
    obtain ⟨kz, h1, h2⟩ := t
    rw [keyOf_l hk] at hy
    have q := h2.val k
    cases e : valD kvs (.inl k) with
    | none => rw [e] at q; exact .inl ⟨kz, k, h1, key_kV hy, q.symm⟩
    | some x => rw [e] at q; obtain ⟨v, q1, q2⟩ := q; exact ⟨v, .inl ⟨kz, k, h1, key_kV hy, q1.symm⟩, q2⟩
  | inr k =>
    obtain ⟨hT, kz, h1, h2⟩ := t
    rw [keyOf_r hk] at hy
    obtain ⟨b, vs, rfl, g1, g2⟩ := hy
    have g1 := tupA_plain hT g1
    rw [keys_kV g2] at g1
    have q := h2.val k
    cases e : valD kvs (.inr k) with
    | none => rw [e] at q; exact .inr ⟨kz, k, b, h1, rfl, g1, q.symm⟩
    | some x => rw [e] at q; obtain ⟨v, q1, q2⟩ := q; exact ⟨v, .inr ⟨kz, k, b, h1, rfl, g1, q1.symm⟩, q2⟩
theorem tab_isD {O : Addr → Prop} {a : Addr} {kvs : List (D × D)} {w : W} {v : V} (s : Stt K Hd al none H m) (rw' : RepW K mg (Own Hd al m none) none al H w v) (h : dictAt m w = some kvs) : ∃ a, v = .ref a ∧ IsD H a := by
  obtain ⟨a, rfl, q⟩ := peek_ok s rw' (dictAt_peek h)
  refine ⟨a, rfl, ?_⟩
  rcases q with ⟨kz, hk, _⟩ | ⟨kz, hk, _⟩
  · exact .inl ⟨kz, hk⟩
  · exact .inr ⟨kz, hk⟩
end
end Den
/-! Den21: dicts: {}, d[k], d.get(k, x), d[k] = v, for k in d, list(d), sorted(d), dict(pairs); calls without arguments. -/
namespace Den
open PySem PySem.Spec PyProof.Rows L2

/-! ### {} -/
def mDNew : EM W := fun _ m => .ok (.n (.dict [])) m
theorem den_dnew {X : Cx} {E : St → XK} {pos : Pos} : Den X E (.Dict [] [] pos) mDNew := PE.imp pe_dnewK fun σ H Q q => by
  obtain ⟨Hd, al, rho, m, s, e, P⟩ := q
  intro p hp
  exact (Post.made s hp P) _ ⟨p, rfl, rfl, .inl ⟨[], upd_same, rfl⟩⟩

/-! ### d[k] -/
def fDGet (w y : W) (m : Mem) : Rs W := match dictAt m w, y with
  | some kvs, .d xk => (match keyOf xk with
    | some k => if keyFor w kvs k = true then (match valD kvs k with | some v => .ok (.d v) m | none => .no) else .no
    | none => .no)
  | _, _ => .no
def mDGet (a b : EM W) : EM W := mOp2 a b fDGet
def rDGetC : R2 := fun x y H Q => ∃ a0 H3, Conv a0 H H3 ∧ ∃ a v, x = .ref a ∧ DGet H3 a y (some v) ∧ Q v H3
theorem bi_dget {X : Cx} : Bi2 X rDGetC fDGet := by
  intro E Hd al m H w v w2 v2 R Q s r1 r2 P k'
  unfold fDGet at P
  split at P
  · rename_i kvs xk hd
    split at P
    · rename_i k hk
      split at P
      · rename_i ok
        obtain ⟨a, H3, rfl, c, g, st, t⟩ := tab_at s r1 hd ok
        have q := tab_get t hk (r2.2.ext g.ext)
        split at P
        · rename_i x hx
          rw [hx] at q
          obtain ⟨u, q1, q2⟩ := q
          exact ⟨a, H3, c, a, u, rfl, q1, k' _ _ _ _ _ _ (P al none H3 g st) ⟨rfl, q2⟩⟩
        · exact P.elim
      · exact P.elim
    · exact P.elim
  · exact P.elim
section
variable {X : Cx} {E : St → XK} {ea eb ec : Expr} {a b c : EM W} {pos apos cpos : Pos}
theorem den_dget (hu : X.A.units + 65 < cLine) (ha : Den X E ea a) (hb : Den X E eb b) (hs : NoSl eb := by exact fun _ _ => rfl) : Den X E (.Subscript ea eb pos) (mDGet a b) := PE.imp (pe_dget (by omega) ha (pe_conv hb) hs) fun σ H Q q => by
  have z : tOp rDGetC (tM X.K X.mg E a) (tM X.K X.mg E b) σ H Q := tM_op bi_dget q
  obtain ⟨Hd, al, rho, m, s, e, P⟩ := z
  refine ⟨Hd, al, rho, m, s, e, P.imp fun w al1 p1 m1 H1 g s1 k v rv => ?_⟩
  obtain ⟨Hd, al, rho, m, s, e, P⟩ := k v rv
  exact ⟨Hd, al, rho, m, s, e, P.imp fun w2 al2 p2 m2 H2 g2 s2 k2 v2 rv2 => k2 v2 rv2⟩

/-! ### d.get(k, x) -/
def fDGet2 (w y z : W) (m : Mem) : Rs W := match dictAt m w, y with
  | some kvs, .d xk => (match keyOf xk with
    | some k => if keyFor w kvs k = true then (match valD kvs k with | some v => .ok (.d v) m | none => .ok z m) else .no
    | none => .no)
  | _, _ => .no
def mDGet2 (a b c : EM W) : EM W := fun rho m => (a rho m).bindV fun w m1 => match dictAt m1 w with
  | some _ => (b rho m1).bindV fun y m2 => (c rho m2).bindV fun z m3 => fDGet2 w y z m3
  | none => .no
theorem dget2_core {E : XK} {Hd : Addr → Prop} {al : List Addr} {m : Mem} {H : Hp} {w y z : W} {v2 v3 : V} {a : Addr} {Q : VK} (s : Stt X.K Hd al none H m) (r1 : RepW X.K X.mg (Own Hd al m none) none al H w (.ref a)) (r2 : RepW X.K X.mg (Own Hd al m none) none al H y v2)
    (r3 : RepW X.K X.mg (Own Hd al m none) none al H z v3) (P : Post X.K X.mg Hd al m H E (fDGet2 w y z m) fun w al' p m' H' => ∀ v, RepW X.K X.mg (Own Hd al' m' p) p al' H' w v → Q v H') : ∃ a0 H3, Conv a0 H H3 ∧ ∃ o, DGet H3 a v2 o ∧ Q (o.getD v3) H3 := by
  unfold fDGet2 at P
  split at P
  · rename_i kvs xk hd
    split at P
    · rename_i k hk
      split at P
      · rename_i ok
        obtain ⟨a', H3, e, c, g, st, t⟩ := tab_at s r1 hd ok
        cases e
        have q := tab_get t hk (r2.2.ext g.ext)
        split at P
        · rename_i x hx
          rw [hx] at q
          obtain ⟨u, q1, q2⟩ := q
          exact ⟨a, H3, c, some u, q1, P al none H3 g st _ ⟨rfl, q2⟩⟩
        · rename_i hx
          rw [hx] at q
          exact ⟨a, H3, c, none, q, P al none H3 g st _ (r3.go g)⟩
      · exact P.elim
    · exact P.elim
  · exact P.elim
theorem den_dget2 (hu : X.A.units + 65 < cLine) (ha : Den X E ea a) (hb : Den X E eb b) (hc : Den X E ec c) (mm : M2 X ea "get" apos eb ec cpos := by exact ⟨rfl, rfl, rfl, rfl⟩) : Den X E (.Call (.Attribute ea "get" apos) [eb, ec] [] cpos) (mDGet2 a b c) :=
  PE.imp (pe_dget2 (by omega) ha hb (pe_conv hc) mm) fun σ H Q q => by
    obtain ⟨Hd, al, rho, m, s, e, P⟩ := q
    refine ⟨Hd, al, rho, m, s, e, (Post.bindV P).imp fun w al1 p1 m1 H1 g s1 k v rv => ?_⟩
    obtain ⟨g1, s1', rv1, P1⟩ := k v rv
    split at P1
    · rename_i kvs hd
      obtain ⟨a0, e0, hD⟩ := tab_isD (O := fun _ => True) (a := 0) (kvs := kvs) s1' rv1 hd
      subst e0
      refine ⟨a0, rfl, hD, Hd, al1, rho, m1, s1', e.go g1, (Post.bindV P1).imp fun w2 al2 p2 m2 H2 g2 s2 k2 v2 rw2 => ?_⟩
      obtain ⟨g3, s2', rv2, P2⟩ := k2 v2 rw2
      refine ⟨Hd, al2, rho, m2, s2', (e.go g1).go g3, (Post.bindV P2).imp fun w3 al3 p3 m3 H3 g4 s3 k3 v3 rw3 => ?_⟩
      obtain ⟨g5, s3', rv3, P3⟩ := k3 v3 rw3
      obtain ⟨b0, H4, cv, o, z1, z2⟩ := dget2_core s3' ((rv1.go g3).go g5) (rv2.go g5) rv3 P3
      exact ⟨b0, H4, cv, o, z1, z2⟩
    · exact P1.elim

/-! ### d[k] = v -/
def fDPut (w y v : W) (m : Mem) (rho : Env) : Out := match w, y, frz m v with
  | .r n, .d xk, some (x, m1) => (match m1[n]?, keyOf xk with
    | some (some (.dict kvs)), some k => if okKey kvs k && small (kvs.length + 1) then .nx rho (m1.set n (some (.dict (putDt kvs k xk x)))) else .no
    | _, _ => .no)
  | _, _, _ => .no
def sDPutM (a b c : EM W) : SM := fun rho m => (c rho m).thenV rho fun v m1 => (a rho m1).thenV rho fun w m2 => (b rho m2).thenV rho fun y m3 => fDPut w y v m3 rho
theorem put_dict {K : PySem.W.Frag} {Hd : Addr → Prop} {al : List Addr} {m : Mem} {H : Hp} {n : Nat} {a : Addr} {x : D} {u : HO} {kvs : List (D × D)} (s : Stt K Hd al none H m) (ha : al[n]? = some a) (hx : m[n]? = some (some x))
    (h : (∃ kz, u = .dK kz ∧ RepK K (Own Hd al m none) H kvs kz) ∨ ∃ kz, u = .dT kz ∧ RepT K (Own Hd al m none) H kvs kz) :
    Go Hd al m none H al (m.set n (some (.dict kvs))) none (upd H a u) ∧ Stt K Hd al none (upd H a u) (m.set n (some (.dict kvs))) := by
  have g := go_put (y := .dict kvs) (o := u) s ha hx
  refine ⟨g, stt_put s ha hx ?_⟩
  rcases h with ⟨kz, rfl, r⟩ | ⟨kz, rfl, r⟩
  · exact .inl ⟨kz, upd_same, RepK.ext g.ext _ _ r⟩
  · exact .inr ⟨kz, upd_same, RepT.ext g.ext _ _ r⟩
theorem dput_core {E : St → XK} {Dn : Ends} {σ : St} {Hd : Addr → Prop} {al : List Addr} {m : Mem} {H : Hp} {rho : Env} {w y z : W} {v1 v2 v3 : V} (s : Stt X.K Hd al none H m) (e : EnvOk X.K X.mg (Own Hd al m none) al H rho σ) (r1 : RepW X.K X.mg (Own Hd al m none) none al H w v1)
    (r2 : RepW X.K X.mg (Own Hd al m none) none al H y v2) (r3 : RepW X.K X.mg (Own Hd al m none) none al H z v3) (P : PostS X.K X.mg Hd al m H E Dn (fDPut w y z m rho)) :
    ∃ a0 H3, Conv a0 H H3 ∧ ∃ a H4, v1 = .ref a ∧ DPut H3 a v2 v3 H4 ∧ Dn.nx σ H4 := by
  unfold fDPut at P
  split at P
  · rename_i n xk x m1 hf
    split at P
    · rename_i kvs k hm hk
      split at P
      · rename_i ok
        rw [Bool.and_eq_true] at ok
        obtain ⟨s1, g1, rx⟩ := frz_ok s r3 hf
        obtain ⟨a, ha, rfl⟩ := r1.2
        have hd : dictAt m1 (.r n) = some kvs := by unfold dictAt peek; dsimp only; rw [hm]; rfl
        obtain ⟨a', H3, e0, c, g2, s2, t⟩ := tab_at (mg := X.mg) s1 (w := .r n) (v := .ref a) ⟨rfl, a, ha, rfl⟩ hd (by unfold keyFor; rw [ok.1]; rfl)
        cases e0
        have rx2 := rx.ext g2.ext
        have hy := (r2.2.ext g1.ext).ext g2.ext
        have hsz := small_line ok.2
        have ob := s2.ob n a _ ha hm
        have ee := (e.go g1).go g2
        cases k with
        | inl k =>
          obtain ⟨kz, h1, h2⟩ := t
          have h1' : H3 a = some (.dK kz) := by
            rcases h1 with h1 | ⟨o, h1⟩
            · exact h1
            · rcases ob with ⟨kz', q, _⟩ | ⟨kz', q, _⟩ <;> (rw [h1] at q; cases q)
          obtain ⟨g3, s3⟩ := put_dict (u := .dK (putK kz k v3)) s2 ha hm (.inl ⟨_, rfl, h2.put rx2⟩)
          rw [keyOf_l hk] at P hy
          refine ⟨a, H3, c, a, _, rfl, .inl ⟨kz, k, h1', key_kV hy, by rw [h2.len]; omega, rfl⟩, P al _ σ ((g1.trans g2).trans g3) s3 (ee.go g3)⟩
        | inr k =>
          obtain ⟨hT, kz, h1, h2⟩ := t
          have h1' : H3 a = some (.dT kz) := by
            rcases h1 with h1 | ⟨o, h1⟩
            · exact h1
            · rcases ob with ⟨kz', q, _⟩ | ⟨kz', q, _⟩ <;> (rw [h1] at q; cases q)
          obtain ⟨g3, s3⟩ := put_dict (u := .dT (putK kz k v3)) s2 ha hm (.inr ⟨_, rfl, h2.put rx2⟩)
          rw [keyOf_r hk] at P hy
          obtain ⟨b, vs, rfl, q1, q2⟩ := hy
          have q1 := tupA_plain hT q1
          rw [keys_kV q2] at q1
          refine ⟨a, H3, c, a, _, rfl, .inr ⟨kz, k, b, h1', rfl, q1, by rw [h2.len]; omega, rfl⟩, P al _ σ ((g1.trans g2).trans g3) s3 (ee.go g3)⟩
      · exact P.elim
    · exact P.elim
  · exact P.elim
theorem ds_dput {p2 : Pos} (hu : X.A.units + 65 < cLine) (ha : Den X E ea a) (hb : Den X E eb b) (hc : Den X E ec c) (hs : swapsWith ec (some (.Subscript ea eb p2)) pos.line X.env = pure false := by rfl) : DenS X E (.Assign [.Subscript ea eb p2] ec pos) (sDPutM a b c) :=
  PS.imp (ps_dput (by omega) ha (pe_conv hb) hc hs) fun Dn σ H q => by
    obtain ⟨Hd, al, rho, m, s, e, P⟩ := q
    refine ⟨Hd, al, rho, m, s, e, (PostS.ofV e P).imp fun z al1 p1 m1 H1 g s1 k v3 rv => ?_⟩
    obtain ⟨g1, s1', rv1, P1⟩ := k v3 rv
    refine ⟨Hd, al1, rho, m1, s1', e.go g1, (PostS.ofV (e.go g1) P1).imp fun w al2 p2 m2 H2 g2 s2 k2 v1 rw2 => ?_⟩
    obtain ⟨g3, s2', rv2, P2⟩ := k2 v1 rw2
    refine ⟨Hd, al2, rho, m2, s2', (e.go g1).go g3, (PostS.ofV ((e.go g1).go g3) P2).imp fun y al3 p3 m3 H3 g4 s3 k3 v2 rw3 => ?_⟩
    obtain ⟨g5, s3', rv3, P3⟩ := k3 v2 rw3
    obtain ⟨a0, H4, cv, d, H5, z1, z2, z3⟩ := dput_core s3' (((e.go g1).go g3).go g5) (rv2.go g5) rv3 ((rv1.go g3).go g5) P3
    exact ⟨a0, H4, cv, d, H5, z1, z2, z3⟩
end

/-! ### for k in d: the dict is locked from then on -/
def LockTo (d : Addr) (u : HO) (H H2 : Hp) (o : Obj) : Prop := H2 d = some (.frz o u) ∧ (H2 = H ∨ (H d = some u ∧ H2 = upd H d (.frz o u)))
def tGLock (t : TE) : TE := fun σ H Q => t σ H fun v H1 => ∃ d u, v = .ref d ∧ Rd H1 d u ∧ Mut (some u) ∧ ∀ o H2, LockTo d u H1 H2 o → Q v H2
theorem pe_glock {X : Cx} {e : Expr} {t : TE} (h : PE X e t) : PE X e (tGLock t) := ⟨fun pins s σ H Q I q => thn (h.run pins s σ H _ I q) fun u s1 hh => by
  obtain ⟨x, H1, I1, r, d, ob, rfl, hd, mu, q2⟩ := hh
  rcases hd with hd | ⟨o, hd⟩
  · obtain ⟨od, I2⟩ := I1.lock hd mu
    exact ⟨.ref d, _, I2, r, q2 od _ ⟨upd_same, .inr ⟨hd, rfl⟩⟩⟩
  · exact ⟨.ref d, H1, I1, r, q2 o H1 ⟨hd, .inl rfl⟩⟩⟩
section
variable {K : PySem.W.Frag} {Hd : Addr → Prop} {al : List Addr} {m : Mem} {H H2 : Hp} {d : Addr} {o : Obj} {u : HO}
theorem lock_ok (s : Stt K Hd al none H m) (nd : ¬ Own Hd al m none d) (l : LockTo d u H H2 o) (lk : Lk u (.frz o u)) (nt : ∀ vs, u ≠ .tup vs) (nf : ∀ o' u', u ≠ .frz o' u') : Go Hd al m none H al m none H2 ∧ Stt K Hd al none H2 m := by
  obtain ⟨_, rfl | ⟨h, rfl⟩⟩ := l
  · exact ⟨Go.refl, s⟩
  · have ex : Ext (Own Hd al m none) H (Own Hd al m none) (upd H d (.frz o u)) := by
      refine ⟨fun b vs hb => ?_, fun b ob w hb => ?_, fun b ob hb nb => ?_, fun b z => .inl z⟩
      · by_cases e : b = d
        · subst e; rw [h] at hb; cases hb; exact (nt _ rfl).elim
        · rw [upd_ne e]; exact hb
      · by_cases e : b = d
        · subst e; rw [h] at hb; cases hb; exact (nf _ _ rfl).elim
        · rw [upd_ne e]; exact hb
      · by_cases e : b = d
        · subst e; rw [h] at hb; cases hb; exact ⟨_, upd_same, lk⟩
        · exact ⟨ob, by rw [upd_ne e]; exact hb, .refl ob⟩
    have ne : ∀ {b : Addr}, Own Hd al m none b → b ≠ d := fun hb e => nd (e ▸ hb)
    refine ⟨⟨ex, fun _ _ h => h, fun b ob hb hh => by rw [upd_ne (ne (.inr (.inl hb)))]; exact hh⟩, ⟨s.len, fun r b x h1 h2 => ?_, s.inj, s.pnd, fun b hb => ?_⟩⟩
    · exact (s.ob r b x h1 h2).stay ex (upd_ne (ne (.inl ⟨r, h1, x, h2⟩)))
    · obtain ⟨⟨w, hw⟩, q2, q3⟩ := s.hin b hb
      exact ⟨⟨w, by rw [upd_ne (ne (.inr (.inl hb)))]; exact hw⟩, q2, q3⟩
theorem RepK.keyAt {O : Addr → Prop} : ∀ {kvs : List (D × D)} {kz : List (Key × V)} {i : Nat} {k : Key} {v : V}, RepK K O H kvs kz → kz[i]? = some (k, v) → (kvs.map (·.1))[i]? = some (keyD k)
  | [], _, _, _, _, h, e => by rw [show _ = [] from h] at e; simp at e
  | (a, b) :: kvs, _, 0, k, v, ⟨key, u, r, h1, h2, _, _⟩, e => by
    subst h1 h2; simp at e; obtain ⟨rfl, rfl⟩ := e; rfl
  | (a, b) :: kvs, _, i + 1, k, v, ⟨key, u, r, h1, _, _, h4⟩, e => by
    subst h1
    rw [List.map_cons, List.getElem?_cons_succ]
    exact RepK.keyAt h4 (by simpa using e)
theorem RepT.keyAt {O : Addr → Prop} : ∀ {kvs : List (D × D)} {kz : List (List Key × V)} {i : Nat} {k : List Key} {v : V}, RepT K O H kvs kz → kz[i]? = some (k, v) → (kvs.map (·.1))[i]? = some (.tuple (k.map keyD))
  | [], _, _, _, _, h, e => by rw [show _ = [] from h] at e; simp at e
  | (a, b) :: kvs, _, 0, k, v, ⟨key, u, r, h1, h2, _, _⟩, e => by
    subst h1 h2; simp at e; obtain ⟨rfl, rfl⟩ := e; rfl
  | (a, b) :: kvs, _, i + 1, k, v, ⟨key, u, r, h1, _, _, h4⟩, e => by
    subst h1
    rw [List.map_cons, List.getElem?_cons_succ]
    exact RepT.keyAt h4 (by simpa using e)
end
theorem itD_keysK {X : Cx} {O : Addr → Prop} {H : Hp} {d : Addr} {o : Obj} {kvs : List (D × D)} {kz : List (Key × V)} (hf : H d = some (.frz o (.dK kz))) (r : RepK X.K O H kvs kz) : ItD X O H (Itk d o kz) (kvs.map (·.1)) where
  go := fun i O' H' e hi => ⟨e.frz _ _ _ hf, by rw [r.len]; rwa [List.length_map] at hi⟩
  yld := fun i O' H' x v H'' e hx hy => by
    obtain ⟨e1, k, u, h1, h2⟩ := hy
    subst e1 h2
    rw [r.keyAt h1] at hx
    cases hx
    exact ⟨.inl rfl, kV_rep k⟩
  stop := fun O' H' e => ⟨e.frz _ _ _ hf, by rw [r.len, List.length_map]; exact Nat.le_refl _⟩
theorem itD_keysT {X : Cx} {O : Addr → Prop} {H : Hp} {d : Addr} {o : Obj} {kvs : List (D × D)} {kz : List (List Key × V)} (hf : H d = some (.frz o (.dT kz))) (r : RepT X.K O H kvs kz) : ItD X O H (Itkt d o kz) (kvs.map (·.1)) where
  go := fun i O' H' e hi => ⟨e.frz _ _ _ hf, by rw [r.len]; rwa [List.length_map] at hi⟩
  yld := fun i O' H' x v H'' e hx hy => by
    obtain ⟨e1, k, u, q, h1, h2, h3⟩ := hy
    subst e1 h2
    rw [r.keyAt h1] at hx
    cases hx
    exact ⟨.inl rfl, q, _, rfl, .inl h3, kVs_rep k⟩
  stop := fun O' H' e => ⟨e.frz _ _ _ hf, by rw [r.len, List.length_map]; exact Nat.le_refl _⟩
def mKeys (a : EM W) : EM (List D) := fun rho m => (a rho m).bindV fun w m1 => match w with | .d (.dict kvs) => .ok (kvs.map (·.1)) m1 | _ => .no
theorem di_keys {X : Cx} {E : St → XK} {tg iter : Expr} {a : EM W} (h : Den X E iter a) : DenI X E tg iter (mKeys a) := PI.imp (pi_keys (pe_glock h)) fun σ H R q => by
  obtain ⟨Hd, al, rho, m, s, e, P⟩ := q
  refine ⟨Hd, al, rho, m, s, e, (Post.bindV P).imp fun w al1 p1 m1 H1 g s1 k v rv => ?_⟩
  obtain ⟨g1, s1', rv1, P1⟩ := k v rv
  split at P1
  · rename_i kvs hw
    rw [hw] at rv1
    obtain ⟨_, d, rfl, nd, q⟩ := rv1
    rcases q with ⟨kz, hk, r⟩ | ⟨kz, hk, r⟩
    · refine ⟨d, .dK kz, rfl, hk, True.intro, fun o H2 l => ?_⟩
      obtain ⟨g2, s2⟩ := lock_ok s1' nd l (.k o kz) (fun _ z => nomatch z) (fun _ _ z => nomatch z)
      exact ⟨d, o, rfl, .inl ⟨kz, l.1, P1 al1 none H2 g2 s2 rfl _ (itD_keysK l.1 (RepK.ext g2.ext _ _ r))⟩⟩
    · refine ⟨d, .dT kz, rfl, hk, True.intro, fun o H2 l => ?_⟩
      obtain ⟨g2, s2⟩ := lock_ok s1' nd l (.t o kz) (fun _ z => nomatch z) (fun _ _ z => nomatch z)
      exact ⟨d, o, rfl, .inr ⟨kz, l.1, P1 al1 none H2 g2 s2 rfl _ (itD_keysT l.1 (RepT.ext g2.ext _ _ r))⟩⟩
  · exact P1.elim

/-! ### dict(pairs), keys ints and texts -/
def pairsK : List D → Option (List (Key × D))
  | [] => some []
  | .tuple [a, b] :: ds => (match keyK a, pairsK ds with | some k, some r => some ((k, b) :: r) | _, _ => none)
  | _ => none
def mergeD (acc : List (D × D)) (kds : List (Key × D)) : List (D × D) := kds.foldl (fun acc kd => putDt acc (.inl kd.1) (keyD kd.1) kd.2) acc
def fDictP : List W → Mem → Rs W
  | [w], m => (match peek m w with | some (.list ds) => (match pairsK ds with | some kds => .ok (.n (.dict (mergeD [] kds))) m | none => .no) | _ => .no)
  | _, _ => .no
section
variable {K : PySem.W.Frag} {O : Addr → Prop} {H : Hp}
theorem pairs_rep : ∀ {ds : List D} {vs : List V} {kds : List (Key × D)}, RepDs K O H ds vs → pairsK ds = some kds →
    ∃ (ps : List Addr) (kvs : List (Key × V)), vs = ps.map V.ref ∧ Paired (fun p (kv : Key × V) => SqT K H p [kV kv.1, kv.2]) ps kvs ∧ Paired (fun (kd : Key × D) (kv : Key × V) => kd.1 = kv.1 ∧ RepD K O H kd.2 kv.2) kds kvs
  | [], _, _, h, e => by cases e; rw [show _ = [] from h]; exact ⟨[], [], rfl, .nil, .nil⟩
  | x :: ds, _, kds, ⟨v, r, h1, h2, h3⟩, e => by
    unfold pairsK at e
    split at e
    · cases ‹x :: ds = []›
    · rename_i a b ds' ex
      cases ex
      split at e
      · rename_i k r' hk hr
        cases e
        obtain ⟨t, us, rfl, q1, u1, _, rfl, w1, u2, _, rfl, w2, q2⟩ := h2
        rw [show _ = [] from q2] at q1
        rw [keyK_inv hk] at w1
        rw [key_kV w1] at q1
        obtain ⟨ps, kvs, e1, e2, e3⟩ := pairs_rep h3 hr
        exact ⟨t :: ps, (k, u2) :: kvs, by rw [h1, e1]; rfl, .cons (sqP q1) e2, .cons ⟨rfl, w2⟩ e3⟩
      · cases e
    · cases e
theorem merge_rep : ∀ {kds : List (Key × D)} {kvs : List (Key × V)} {acc : List (D × D)} {kz : List (Key × V)}, Paired (fun (kd : Key × D) (kv : Key × V) => kd.1 = kv.1 ∧ RepD K O H kd.2 kv.2) kds kvs → RepK K O H acc kz → RepK K O H (mergeD acc kds) (mergeK kz kvs)
  | _, _, _, _, .nil, h => h
  | (k, x) :: kds, (k', v) :: kvs, acc, kz, .cons ⟨e, hx⟩ t, h => by
    cases (show k = k' from e)
    exact merge_rep (kds := kds) (kvs := kvs) t (h.put hx)
end
theorem ca_dictP {X : Cx} : Ca X (fun xs H Q => ∃ (a : Addr) (ps : List Addr) (kvs : List (Key × V)), xs = [.ref a] ∧ SqL X.K H a (ps.map V.ref) ∧ Paired (fun p kv => SqT X.K H p [kV kv.1, kv.2]) ps kvs ∧
    ∀ p, H p = none → Q (.ref p) (upd H p (.dK (mergeK [] kvs)))) fDictP := by
  intro E Hd al m H ws vs R Q s rv P k
  match ws, rv with
  | [w], ⟨v, _, h1, h2, h3⟩ =>
    subst h1
    rw [show _ = [] from h3]
    unfold fDictP at P
    dsimp only at P
    split at P
    · rename_i ds hx
      split at P
      · rename_i kds hk
        obtain ⟨a, us, rfl, q1, q2⟩ := peek_ok s h2 hx
        obtain ⟨ps, kvs, e1, e2, e3⟩ := pairs_rep q2 hk
        subst e1
        refine ⟨a, ps, kvs, rfl, .inl (.inl q1), e2, fun p hp => k _ _ _ _ _ _ (P.made s hp) ⟨p, rfl, rfl, .inl ⟨_, upd_same, RepK.ext (go_new hp (.inr rfl)).ext _ _ (merge_rep e3 (show RepK X.K _ H [] [] from rfl))⟩⟩⟩
      · exact P.elim
    · exact P.elim
  | [], _ => exact P.elim
  | _ :: _ :: _, _ => exact P.elim

/-! ### a call without arguments -/
section
variable {X : Cx} {E : St → XK} {k j : Nat} {x : Str} {fm : List W → Mem → Rs W} {p pos : Pos}
theorem den_call0 (C : CalG X.prog X.w X.K X.mg X.base k x 0 fm) (hr : Room j X.A) (hgu : X.A.guards = some []) (hx : ∀ σ, PassesAt (L2N.CX X.prog X.w) X σ (E σ)) (hk : k ≤ j := by decide) (hg : Gl X x := by rfl)
    (hdb : (x == ("__debug__" : Str)) = false := by decide) : Den X E (.Call (.Name x p) [] [] pos) (mCall 0 fm mNil) := by
  obtain ⟨f, fd, ps, F, hm, kp, hb, hn⟩ := C.ex
  refine ⟨fun pins s σ H Q I q => wpAny_Call_Name_kw (ld_glob I hg hm ?_ hdb)⟩
  refine PySem.W.callWith_K0 I.kIn kp ?_
  obtain ⟨Hd, al, rho, m, st, e, P⟩ := q
  exact run_G (vs := []) F (hr.mono hk) hgu hb (hx σ) I .nil ⟨Hd, al, [], m, rfl, st, rfl, P⟩
end
end Den
/-! Den22: list(d), sorted(d). -/
namespace Den
open PySem PySem.Spec PyProof.Rows L2

section
variable {prog : Program} {w : World} {A : Around} {d : Addr} {od : Obj} {es : Array DictEntry} {ep : Nat}
/-- a dict's entries as they lie, walked -/
theorem walks_raw {it : Addr} (hh : A.handled = none) (ne : d ≠ it) (hdt : od.data = .dict es ep) :
    Walks prog w A it [it, d] [it] es.size (fun i v => ∃ en, es[i]? = some en ∧ en.key = v) (fun i h => h.IsKeyIter it d i es.size ep ∧ h.get? d = some od) where
  sub := fun b hb => by rw [List.mem_singleton] at hb; rw [hb]; exact List.mem_cons_self
  frame := fun i h h' st k => ⟨st.1.at fun o e => k it List.mem_cons_self o e, k d (List.mem_cons_of_mem _ List.mem_cons_self) od st.2⟩
  item := fun i s Q E hi st hQ => by
    refine next_key_item st.1 st.2 hdt rfl (Array.getElem?_eq_getElem hi) fun h' st' sb => ?_
    have keep : ∀ b o, b ∉ [it] → s.heap.get? b = some o → h'.get? b = some o := fun b o hb e => (sb.2 b (fun z => hb (by rw [z]; exact List.mem_cons_self))).trans e
    exact hQ _ h' s.toks ⟨es[i], Array.getElem?_eq_getElem hi, rfl⟩ ⟨st', keep d od (fun z => ne (List.mem_singleton.mp z)) st.2⟩ keep
  done := fun s Q E st hQ => next_key_end hh st.1 st.2 hdt rfl (Nat.le_refl _) fun h' eb => hQ h' s.toks fun b o hb e => eb b o (fun z => hb (by rw [z]; exact List.mem_cons_self)) e
  self := fun i s Q E st hQ => wpAny_pyIter_keyiter st.1 hQ
theorem src_raw (lo : (d == sysModules) = false) (hx : od.ExactDict) (hdt : od.data = .dict es ep) :
    PySem.W.KdlSrc prog w "dict" d d es.size (fun i v => ∃ en, es[i]? = some en ∧ en.key = v) (fun h => h.get? d = some od) where
  type := fun s e => ⟨od, e, hx.1⟩
  there := fun h e => ⟨Heap.lt_size e, Heap.lt_size e⟩
  keep := fun h h' e k => k d (.inl rfl) od e
  notList := by decide
  notTuple := by decide
  hint := fun A E s Q e hq => PySem.W.kdl_hint_dict ⟨od, e, hx.1⟩ hq
  iter := fun A s hh e => ⟨_, _, fun E Q hq => iter_keys lo e hx hdt hq, walks_raw hh (Nat.ne_of_lt (Heap.lt_size e)) hdt, ⟨⟨_, Heap.get?_push_size _ rfl, rfl, rfl⟩, Heap.get?_push_of_some _ e⟩⟩
end

/-! ### what the entries are -/
theorem paired_of {α β : Type} {G : α → β → Prop} : ∀ {xs : List α} {ys : List β}, xs.length = ys.length → (∀ (i : Nat) a b, xs[i]? = some a → ys[i]? = some b → G a b) → Paired G xs ys
  | [], [], _, _ => .nil
  | x :: xs, y :: ys, hl, h => .cons (h 0 x y rfl rfl) (paired_of (by simpa using hl) fun i a b e1 e2 => h (i + 1) a b (by simpa using e1) (by simpa using e2))
  | [], _ :: _, hl, _ => by simp at hl
  | _ :: _, [], hl, _ => by simp at hl
/-- the keys of the dict at d as values -/
def KeysV (H : Hp) (d : Addr) (ys : List V) : Prop :=
  (∃ kz : List (Key × V), Rd H d (.dK kz) ∧ ys = kz.map fun p => kV p.1) ∨ ∃ kz : List (List Key × V), Rd H d (.dT kz) ∧ Paired (fun (p : List Key × V) y => ∃ q, y = .ref q ∧ H q = some (.tup (p.1.map kV))) kz ys
section
variable {X : Cx} {pins : List (Addr × Obj)} {σ : St} {H : Hp} {s : Shared} {d : Addr}
theorem keys_raw (I : Inv X pins σ H s) (h : IsD H d) : (d == sysModules) = false ∧ ∃ (od : Obj) (es : Array DictEntry) (ep : Nat), s.heap.get? d = some od ∧ od.ExactDict ∧ od.data = .dict es ep ∧ es.size ≤ sizeLine ∧
    ∀ its : List Value, its.length = es.size → (∀ (j : Nat) v, its[j]? = some v → ∃ en, es[j]? = some en ∧ en.key = v) → ∃ ys, KeysV H d ys ∧ Vals ys its := by
  rcases h with ⟨kz, h⟩ | ⟨kz, h⟩
  · obtain ⟨z, hd, vs, kv, od, es, ep, ho, hx, hdt, hk, hp, hn⟩ := dk_rd I.hok h
    have l1 : es.toList.length = vs.length := hp.length
    have l2 : kz.length = vs.length := Paired.length kv
    rw [Array.length_toList] at l1
    refine ⟨hd, od, es, ep, ho, hx, hdt, by omega, fun its hl hi => ⟨kz.map fun p => kV p.1, .inl ⟨kz, h, rfl⟩, paired_of (by rw [List.length_map]; omega) fun i a b e1 e2 => ?_⟩⟩
    obtain ⟨en, q1, q2⟩ := hi i b e2
    rw [List.getElem?_map] at e1
    cases e3 : kz[i]? with
    | none => rw [e3] at e1; cases e1
    | some p =>
      obtain ⟨k, v⟩ := p
      rw [e3] at e1
      cases e1
      obtain ⟨u, hu, ru⟩ := kv_get kv e3
      have key : ∀ {l : List DictEntry} {m : List (Key × Value)}, Pairs (mixKind X.prog X.w) l m → ∀ {i : Nat} {en : DictEntry} {k : Key} {u : Value}, l[i]? = some en → m[i]? = some (k, u) → keyIs k en.key = true := by
        intro l m hp
        induction hp with
        | nil => intro i en k u e; simp at e
        | cons h1 h2 h3 ih =>
          intro i en k u e e'
          cases i with
          | zero => simp at e e'; subst e e'; exact h1
          | succ i => exact ih (by simpa using e) (by simpa using e')
      rw [← q2]
      exact relV_key (key hp (by rw [Array.getElem?_toList]; exact q1) hu)
  · obtain ⟨z, hd, xs, pr, od, es, ep, ho, hx, hdt, he, hn⟩ := (show ObjOk X.prog X.w H s.heap d (.dT kz) from rd_of I.hok h)
    have l1 : es.size = xs.length := size_of_entries he
    have l2 : kz.length = xs.length := Paired.length pr
    refine ⟨hd, od, es, ep, ho, hx, hdt, by omega, fun its hl hi => ⟨xs.map fun p => V.ref p.2.1, .inr ⟨kz, h, paired_of (by rw [List.length_map]; omega) fun i a b e1 e2 => ?_⟩, paired_of (by rw [List.length_map]; omega) fun i a b e1 e2 => ?_⟩⟩
    · obtain ⟨q, hq, _, g2, _⟩ := paired_get pr e1
      rw [List.getElem?_map, hq] at e2
      cases e2
      exact ⟨q.2.1, rfl, g2⟩
    · obtain ⟨en, q1, q2⟩ := hi i b e2
      rw [List.getElem?_map] at e1
      cases e3 : xs[i]? with
      | none => rw [e3] at e1; cases e1
      | some p =>
        rw [e3] at e1
        cases e1
        have q := entry_at he i
        rw [e3, q1] at q
        have q' : en = entryOfKey (tupleKind (mixKind X.prog X.w)) p := Option.some.inj q
        rw [← q2, q']
        exact rfl
end

/-! ### list(d) -/
def rListK : List V → Hp → VK → Prop := fun xs H Q => ∃ d, xs = [.ref d] ∧ IsD H d ∧ ∀ ys, KeysV H d ys → ∀ p, H p = none → Q (.ref p) (upd H p (.lst ys))
theorem cr_listK {X : Cx} (hc : X.calm = true) : CallR X (.type "list") rListK := by
  intro pins s σ H xs us Q I r q
  obtain ⟨d, rfl, hD, q⟩ := q
  rw [Vals.ref1 r]
  obtain ⟨lo, od, es, ep, ho, hx, hdt, hz, hk⟩ := keys_raw I hD
  refine PySem.W.kdl_call (src_raw lo hx hdt) (I.ok.hd hc) ho hz fun h' tk acc c' keep hL hi => ?_
  obtain ⟨ys, ky, rv⟩ := hk acc.toList (by rw [Array.length_toList]; exact hi.1) fun j v e => hi.2 j v (by rw [← Array.getElem?_toList]; exact e)
  have hl : ys.length = acc.toList.length := rv.length
  have i1 := hi.1
  exact ⟨.ref s.heap.objs.size, _, I.laid (t' := tk) (a := s.heap.objs.size) (o := .lst ys) keep (Nat.le_refl _) (show _ ∧ _ from ⟨by rw [hl, Array.length_toList]; omega, acc.toList, c', rv, by rw [Array.toArray_toList]; exact hL⟩), rfl, q ys ky _ (I.hok.fresh (Nat.le_refl _))⟩
section
variable {K : PySem.W.Frag} {O : Addr → Prop} {H : Hp}
theorem keysV_repK : ∀ {kvs : List (D × D)} {kz : List (Key × V)}, RepK K O H kvs kz → RepDs K O H (kvs.map (·.1)) (kz.map fun p => kV p.1)
  | [], _, h => by rw [show _ = [] from h]; exact rfl
  | (a, b) :: kvs, _, ⟨key, v, r, h1, h2, _, h4⟩ => by subst h1 h2; exact ⟨_, _, rfl, kV_rep key, keysV_repK h4⟩
theorem keysV_repT : ∀ {kvs : List (D × D)} {kz : List (List Key × V)} {ys : List V}, RepT K O H kvs kz → Paired (fun (p : List Key × V) y => ∃ q, y = .ref q ∧ H q = some (.tup (p.1.map kV))) kz ys → RepDs K O H (kvs.map (·.1)) ys
  | [], _, _, h, p => by rw [show _ = [] from h] at p; cases p; exact rfl
  | (a, b) :: kvs, _, _, ⟨key, v, r, h1, h2, _, h4⟩, p => by
    subst h1 h2
    cases p with
    | cons g t =>
      obtain ⟨q, rfl, g⟩ := g
      exact ⟨_, _, rfl, ⟨q, _, rfl, .inl g, kVs_rep key⟩, keysV_repT h4 t⟩
theorem rd_one {d : Addr} {u u' : HO} (h : Rd H d u) (h' : Rd H d u') (n : ∀ o v, u ≠ .frz o v) (n' : ∀ o v, u' ≠ .frz o v) : u = u' := by
  rcases h with h | ⟨o, h⟩ <;> rcases h' with h' | ⟨o', h'⟩ <;> rw [h] at h' <;> cases h'
  · rfl
  · exact (n _ _ rfl).elim
  · exact (n' _ _ rfl).elim
  · rfl
theorem keysV_rep {d : Addr} {kvs : List (D × D)} {ys : List V} (h : (∃ kz, Rd H d (.dK kz) ∧ RepK K O H kvs kz) ∨ ∃ kz, Rd H d (.dT kz) ∧ RepT K O H kvs kz) (k : KeysV H d ys) : RepDs K O H (kvs.map (·.1)) ys := by
  rcases h with ⟨kz, h1, h2⟩ | ⟨kz, h1, h2⟩ <;> rcases k with ⟨kz', k1, k2⟩ | ⟨kz', k1, k2⟩
  · cases rd_one h1 k1 (fun _ _ z => nomatch z) (fun _ _ z => nomatch z)
    rw [k2]; exact keysV_repK h2
  · cases rd_one h1 k1 (fun _ _ z => nomatch z) (fun _ _ z => nomatch z)
  · cases rd_one h1 k1 (fun _ _ z => nomatch z) (fun _ _ z => nomatch z)
  · cases rd_one h1 k1 (fun _ _ z => nomatch z) (fun _ _ z => nomatch z)
    exact keysV_repT h2 k2
end
def keysD : D → Option (List D)
  | .dict kvs => some (kvs.map (·.1))
  | _ => none
theorem ca_listK {X : Cx} : Ca X rListK (fN1 keysD) := ca_N1 fun O H x v ys Q rv e k => by
  cases x with
  | dict kvs =>
    cases e
    obtain ⟨d, rfl, h⟩ := rv
    exact ⟨d, rfl, h.imp (fun ⟨kz, h, _⟩ => ⟨kz, h⟩) fun ⟨kz, h, _⟩ => ⟨kz, h⟩, fun us ku p hp => k p us hp (keysV_rep h ku)⟩
  | _ => cases e

/-! ### sorted(d) -/
section
variable {prog : Program} {w : World} {A : Around} {E : Value → Shared → Prop} {s : Shared}
theorem collect_src {T : String} {r d : Addr} {n : Nat} {P : Nat → Value → Prop} {OK : Heap → Prop} {Q : List Value → Shared → Prop} (S : PySem.W.KdlSrc prog w T r d n P OK) (hh : A.handled = none) (ok : OK s.heap) (hn : n ≤ sizeLine)
    (hQ : ∀ h' tk (its : List Value), (∀ b o, s.heap.get? b = some o → h'.get? b = some o) → its.length = n → (∀ (j : Nat) v, its[j]? = some v → P j v) → Q its { s with heap := h', toks := tk }) : wpAny (model prog w) A (collect (.ref r)) Q E s := by
  unfold collect
  refine wpAny_bind (wpAny_runValue (codeAny_builtin PySem.F.entry_proto_collect ?_))
  rw [Around.under_plainId PySem.F.plain_proto_collect _]
  show wpAny _ A.in1 (newList [] >>= fun fresh => again (.builtin "list.__iadd__" ⟨[fresh, .ref r], []⟩)) _ _ s
  refine wpAny_bind (wpAny_newObj_type (wpAny_pure ⟨plainId_quiet PySem.F.plain_list_iadd _, codeAny_builtin PySem.F.entry_list_iadd ?_⟩))
  rw [Around.under_plainId PySem.F.plain_list_iadd _]
  have lt := S.there _ ok
  have at0 : (s.heap.push { cls := .type "list", data := .seq ([] : List Value).toArray }).get? s.heap.objs.size = some { cls := .type "list", data := .seq #[] 0 } := Heap.get?_push_size _ rfl
  have end' : ∀ h' tk acc c', (∀ b o, s.heap.get? b = some o → h'.get? b = some o) → h'.get? s.heap.objs.size = some { cls := .type "list", dict := none, data := .seq acc c', slots := #[] } → ItemsOf P acc n →
      wpAny (model prog w) A (match Value.ref s.heap.objs.size with
        | Value.ref b => do
          match (← load b).data with
            | Data.seq us _ => pure us.toList
            | _ => unsupported "internal:collect"
        | _ => unsupported "internal:collect") Q E { s with heap := h', toks := tk } := by
    intro h' tk acc c' keep hL hi
    show wpAny _ A (load s.heap.objs.size >>= _) _ _ _
    refine wpAny_bind (wpAny_load hL (wpAny_pure (hQ h' tk acc.toList keep (by rw [Array.length_toList]; exact hi.1) fun j v e => hi.2 j v (by rw [← Array.getElem?_toList]; exact e))))
  show wpAny _ A.in1 (Builtin.List.listExtendWith (.ref s.heap.objs.size) (.ref r) (.ref s.heap.objs.size)) _ _ _
  refine wpAny_mono (PySem.W.kdl_extend (A := A) (s := { s with heap := s.heap.push { cls := .type "list", data := .seq ([] : List Value).toArray } })
    (R := fun res s' => ∃ h' tk acc c', res = .ok (.ret (.ref s.heap.objs.size)) ∧ s' = { s with heap := h', toks := tk } ∧ (∀ b o, s.heap.get? b = some o → h'.get? b = some o) ∧ h'.get? s.heap.objs.size = some { cls := .type "list", dict := none, data := .seq acc c', slots := #[] } ∧ ItemsOf P acc n)
    S hh (S.keep _ _ ok fun b _ o e => Heap.get?_push_of_some _ e) s.heap.objs.size (Nat.ne_of_gt lt.1) (Nat.ne_of_gt lt.2) (.ref s.heap.objs.size) 0 at0
    (fun h' tk acc c' keep hL hi => ⟨h', tk, acc, c', rfl, rfl, fun b o e => keep b o (Nat.ne_of_lt (Heap.lt_size e)) (Heap.get?_push_of_some _ e), hL, hi⟩) hn) (fun fin s' h => ?_) fun e s' h => ?_
  · cases fin with
    | done f =>
      obtain ⟨h', tk, acc, c', e, rfl, q1, q2, q3⟩ := h
      cases e
      exact end' h' tk acc c' q1 q2 q3
    | again code => exact ⟨h.1, codeAny_mono h.2 fun res s'' hr => by
        obtain ⟨h', tk, acc, c', rfl, rfl, q1, q2, q3⟩ := hr
        exact end' h' tk acc c' q1 q2 q3⟩
  · obtain ⟨_, _, _, _, e, _⟩ := h
    cases e
theorem sorted_src {T : String} {r d : Addr} {n : Nat} {P : Nat → Value → Prop} {OK : Heap → Prop} {Q : Value → Shared → Prop} (S : PySem.W.KdlSrc prog w T r d n P OK) (hh : A.in1.handled = none) (ok : OK s.heap) (hn : n ≤ sizeLine)
    (body : ∀ (h' : Heap) tk (its : List Value) (E' : Value → Shared → Prop), (∀ b o, s.heap.get? b = some o → h'.get? b = some o) → its.length = n → (∀ (j : Nat) v, its[j]? = some v → P j v) →
      wpAny (model prog w) A.in1.in1 (Builtin.«list.sort» ⟨[.ref h'.objs.size], []⟩) (fun f s' => f = .done (.ret .none) ∧ Q (.ref h'.objs.size) s') E' { s with heap := h'.push (seqObj "list" its.toArray 0), toks := tk }) :
    wpAny (model prog w) A (call (.builtin "sorted") [.ref r]) Q E s := by
  refine call_function_entry_kw kind_sorted plain_sorted entry_sorted (args_sorted1 _) (show wpAny _ _ (Builtin.«sorted» ⟨[.ref r], []⟩) _ _ _ from ?_)
  unfold Builtin.«sorted»
  refine wpAny_bind (m := checkCount "sorted" 1 1 _) (wpAny_pure (wpAny_bind (collect_src S hh ok hn fun h' tk its keep hl hi => ?_)))
  refine wpAny_bind (wpAny_newList (s := { s with heap := h', toks := tk }) ?_ (by rw [hl]; exact hn))
  exact wpAny_bind (wpAny_holding (wpAny_call_entry_kw slot_list_sort ⟨_, Heap.get?_push_size _ rfl, rfl⟩ entry_list_sort (wpAny_mono (body h' tk its _ keep hl hi) (fun f s' hf => ⟨.none, hf.1, wpAny_pure ⟨_, rfl, hf.2⟩⟩) fun _ _ e => e) (args_list_sort _)))
end
def rSortK (K : PySem.W.Frag) : List V → Hp → VK → Prop := fun xs H Q => ∃ d, xs = [.ref d] ∧ IsD H d ∧ ∀ ys, KeysV H d ys → ∃ bs : List (V × D), bs.map (·.1) = ys ∧ (∀ b ∈ bs, Dp K H b.1 b.2) ∧ PySem.W.AllAlike (bs.map (·.2)) ∧ PySem.W.Sortable (bs.map (·.2)) ∧
  (∀ b ∈ bs, b.2.depth ≤ 60) ∧ ∀ p, H p = none → Q (.ref p) (upd H p (.lst ((bs.mergeSort (PySem.W.dataLe false (·.2))).map (·.1))))
theorem cr_sortK {X : Cx} (hu : X.A.units + 65 < cLine) (hc : X.calm = true) : CallR X (.builtin "sorted") (rSortK X.K) := by
  intro pins s σ H vs us Q I r q
  obtain ⟨d, rfl, hD, q⟩ := q
  rw [Vals.ref1 r]
  obtain ⟨lo, od, es, ep, ho, hx, hdt, hz, hk⟩ := keys_raw I hD
  refine sorted_src (src_raw lo hx hdt) (I.ok.hd hc) ho hz fun h' tk its E' keep hl hi => ?_
  obtain ⟨ys, ky, rv⟩ := hk its hl hi
  obtain ⟨bs, rfl, hdp, hal, hsb, hdd, q⟩ := q ys ky
  have hzi : its.length ≤ sizeLine := by rw [hl]; exact hz
  have I1 : Inv X pins σ H { s with heap := h', toks := tk } := I.kept (t' := tk) keep
  have ee := each_of I1 hdp rv
  have atL : (h'.push (seqObj "list" its.toArray 0)).get? h'.objs.size = some (seqObj "list" its.toArray 0) := Heap.get?_push_size _ rfl
  have old : ∀ b u, h'.get? b = some u → (PySem.W.sortingHeap (h'.push (seqObj "list" its.toArray 0)) h'.objs.size its).get? b = some u := fun b u e => PySem.W.sortingHeap_old (Nat.ne_of_lt (Heap.lt_size e)) (Heap.get?_push_of_some _ e)
  have er : PySem.W.EachIs (fun u (b : V × D) => ∃ as, Reads (PySem.W.sortingHeap (h'.push (seqObj "list" its.toArray 0)) h'.objs.size its) u b.2 as) its bs := ee.mono fun u b ⟨_, as, r⟩ => ⟨as, PyProof.Rows.Reads.keeps old r⟩
  have el : its.length = bs.length := by rw [← rv.length, List.length_map]
  refine PySem.W.list_sort_vals (s := { s with heap := h'.push (seqObj "list" its.toArray 0), toks := tk }) atL (PySem.W.SortsAt.data (s := { s with heap := PySem.W.sortingHeap (h'.push (seqObj "list" its.toArray 0)) h'.objs.size its, toks := tk }) (PySem.W.each_map (R := fun v d => ∃ as, Reads (PySem.W.sortingHeap (h'.push (seqObj "list" its.toArray 0)) h'.objs.size its) v d as) (fun b : V × D => b.2) er) hal hsb (fun d hd => ?_)) hzi ⟨rfl, ?_⟩
  · obtain ⟨b, hb, rfl⟩ := List.mem_map.mp hd
    have := hdd b hb
    show X.A.units + 1 + 1 + b.2.depth < cLine
    omega
  · have out := PySem.W.sortVals_data (R := fun u (b : V × D) => RelV b.1 u) false (ee.mono fun _ _ z => z.1) er hal
    have rvo := vals_each out
    obtain ⟨ep, he⟩ := sortedHeap_at (out := (PySem.W.sortVals (PySem.W.dataKind (PySem.W.sortingHeap (h'.push (seqObj "list" its.toArray 0)) h'.objs.size its) (bs.map (·.2))) false its its).toArray) atL
    have hzo : ((bs.mergeSort (PySem.W.dataLe false fun b : V × D => b.2)).map (·.1)).length ≤ sizeLine := by rw [List.length_map, List.length_mergeSort, ← el]; exact hzi
    refine ⟨.ref h'.objs.size, _, I1.laid (t' := tk) (a := h'.objs.size) (o := .lst ((bs.mergeSort (PySem.W.dataLe false fun b : V × D => b.2)).map (·.1))) (fun b u e => ?_) (Nat.le_refl _) (show _ ∧ _ from ⟨hzo, _, ep, rvo, he⟩), rfl, q _ (I1.hok.fresh (Nat.le_refl _))⟩
    have hlt : b < h'.objs.size := Heap.lt_size e
    have e2 := Heap.get?_push_of_some (seqObj "list" its.toArray 0) e
    rw [sortedHeap_old (Nat.ne_of_lt hlt) (Heap.lt_size e2)]
    exact e2
def sortKD : D → Option (List D)
  | .dict kvs => sortD (.list (kvs.map (·.1)))
  | _ => none
theorem ca_sortK {X : Cx} : Ca X (rSortK X.K) (fN1 sortKD) := ca_N1 fun O H x v ys Q rv e k => by
  cases x with
  | dict kvs =>
    obtain ⟨d, rfl, h⟩ := rv
    obtain ⟨c, e⟩ := ite_none (show (if alikeAllB (kvs.map (·.1)) && ((kvs.map (·.1)).all tupConsB || (kvs.map (·.1)).all plainB) && (kvs.map (·.1)).all (fun d => decide (d.depth ≤ 60) && !d.hasDict) then some ((kvs.map (·.1)).mergeSort (PySem.W.dataLe false id)) else none) = some ys from e)
    cases e
    refine ⟨d, rfl, h.imp (fun ⟨kz, h, _⟩ => ⟨kz, h⟩) fun ⟨kz, h, _⟩ => ⟨kz, h⟩, fun us ku => ?_⟩
    have h2 := keysV_rep h ku
    obtain ⟨q1, q2, q3⟩ := repDs_zip h2
    simp only [Bool.and_eq_true] at c
    obtain ⟨⟨c1, c2⟩, c3⟩ := c
    have c4 := List.all_eq_true.mp c3
    have mem2 : ∀ b ∈ us.zip (kvs.map (·.1)), b.2 ∈ kvs.map (·.1) := fun b hb => by
      have := List.mem_map_of_mem (f := fun z : V × D => z.2) hb
      rw [q2] at this
      exact this
    refine ⟨us.zip (kvs.map (·.1)), q1, fun b hb => ?_, by rw [q2]; exact alikeAllB_ok c1, by rw [q2]; exact sortableB_ok c2, fun b hb => ?_, fun p hp => k p _ hp (sort_rep h2)⟩
    · have := c4 _ (mem2 b hb)
      simp only [Bool.and_eq_true, Bool.not_eq_true'] at this
      exact RepD.dp _ _ (q3 b hb) this.2
    · have := c4 _ (mem2 b hb)
      simp only [Bool.and_eq_true, decide_eq_true_eq] at this
      exact this.1
  | _ => cases e
/-! ### is True, is False, of bools -/
def isBD : D → D → Option W
  | .bool a, .bool b => some (.d (.bool (decide (a = b))))
  | _, _ => none
def isntBD : D → D → Option W
  | .bool a, .bool b => some (.d (.bool (!decide (a = b))))
  | _, _ => none
theorem bi_isB {X : Cx} : Bi2 X rIsB (lift2 isBD) := bi_lift fun E Hd al m H x v y u w R Q s rx ry hg P k => by
  unfold isBD at hg
  split at hg
  · cases hg
    exact ⟨_, _, rx, ry, res_d s P rfl k⟩
  · cases hg
theorem bi_isntB {X : Cx} : Bi2 X rNotB (lift2 isntBD) := bi_lift fun E Hd al m H x v y u w R Q s rx ry hg P k => by
  unfold isntBD at hg
  split at hg
  · cases hg
    exact ⟨_, _, rx, ry, res_d s P rfl k⟩
  · cases hg
@[simp] theorem is_bb {a b : Bool} : isBD (.bool a) (.bool b) = some (.d (.bool (decide (a = b)))) := rfl
@[simp] theorem isnt_bb {a b : Bool} : isntBD (.bool a) (.bool b) = some (.d (.bool (!decide (a = b)))) := rfl
end Den
/-! Den23: isinstance(x, tuple) of data. -/
namespace Den
open PySem PySem.Spec PyProof.Rows L2

def isTupD : D → Option Bool
  | .tuple _ => if ModT then none else some true
  | .list _ => some false
  | .int _ => some false
  | .str _ => some false
  | .bool _ => some false
  | .none => some false
  | .dict _ => none
def mIsTup (a : EM W) : EM W := fun rho m => (a rho m).bindV fun w m1 => match peek m1 w with
  | some x => (match isTupD x with | some b => .ok (.d (.bool b)) m1 | none => .no)
  | none => .no
theorem isTup_ty {K : PySem.W.Frag} {O : Addr → Prop} {H : Hp} {x : D} {v : V} {b : Bool} (h : RepP K O H x v) (hb : isTupD x = some b) : ∃ t, TyX K H v t ∧ PySem.W.kitOne K t (.type "tuple") = some b := by
  cases x with
  | tuple ds =>
    obtain ⟨a, vs, rfl, h1, _⟩ := h
    have hb' : (if ModT then none else some true) = some b := hb
    cases hT : ModT with
    | true => rw [hT] at hb'; cases hb'
    | false =>
      rw [hT] at hb'
      cases hb'
      exact ⟨_, .base (.tup (tupA_plain hT h1)), kit_ty (by decide +kernel)⟩
  | list ds => cases hb; obtain ⟨a, vs, rfl, h1, _⟩ := h; exact ⟨_, .base (.lst h1), kit_ty (by decide +kernel)⟩
  | int i => cases hb; cases h; exact ⟨_, .base (.int _), kit_ty (by decide +kernel)⟩
  | str i => cases hb; cases h; exact ⟨_, .base (.str _), kit_ty (by decide +kernel)⟩
  | bool i => cases hb; cases h; exact ⟨_, .base (.bl _), kit_ty (by decide +kernel)⟩
  | none => cases hb; cases h; exact ⟨_, .base .non, kit_ty (by decide +kernel)⟩
  | dict _ => cases hb
section
variable {X : Cx} {E : St → XK} {ea : Expr} {a : EM W} {p q pos : Pos}
theorem den_isTup (h : Den X E ea a) (hg : Gl X "isinstance") (hm : X.mg "isinstance" = none) (hgt : Gl X "tuple") (hmt : X.mg "tuple" = none)
    (he : starEach [ea, .Name "tuple" q] X.env = (false, eval ea X.env) :: starEach [.Name "tuple" q] X.env := by rfl) (he2 : starEach [.Name "tuple" q] X.env = [(false, eval (.Name "tuple" q) X.env)] := by rfl)
    (hpl : (backTo pos (starEach [.Name "tuple" q] X.env)).any (·.1) = false := by rfl) : Den X E (.Call (.Name "isinstance" p) [ea, .Name "tuple" q] [] pos) (mIsTup a) :=
  PE.imp (pe_callB call_isi hg hm boot_isinstance (pa_cons h (pa_cons (pe_bltn (v := .ty "tuple") (u := .type "tuple") hgt hmt (by decide +kernel) rfl) pa_nil he2) he) (by decide) (by decide) he hpl) fun σ H Q q => by
    obtain ⟨Hd, al, rho, m, s, e, P⟩ := q
    refine ⟨Hd, al, rho, m, s, e, (Post.bindV P).imp fun w al1 p1 m1 H1 g s1 k v rv => ?_⟩
    obtain ⟨g1, s1', rv1, P1⟩ := k v rv
    split at P1
    · rename_i x hx
      split at P1
      · rename_i b hb
        obtain ⟨t, h1, h2⟩ := isTup_ty (peek_ok s1' rv1 hx) hb
        exact ⟨v, .ty "tuple", t, .type "tuple", b, rfl, .ty _, h1, h2, (P1.ok s1') _ ⟨rfl, rfl⟩⟩
      · exact P1.elim
    · exact P1.elim
end
@[simp] theorem e_IsTup {a : EM W} {rho : Env} {m : Mem} : mIsTup a rho m = (a rho m).bindV fun w m1 => match peek m1 w with
  | some x => (match isTupD x with | some b => .ok (.d (.bool b)) m1 | none => .no)
  | none => .no := rfl
end Den
/-! Den24: enumerate of lists and tuples, zip of any two of them, starred items. -/
namespace Den
open PySem PySem.Spec PyProof.Rows L2

/-! ### what is walked: a list (true) or a tuple (false) -/
def SqB (K : PySem.W.Frag) (k : Bool) (H : Hp) (a : Addr) (xs : List V) : Prop := match k with
  | true => SqL K H a xs
  | false => SqT K H a xs
def IterB (k : Bool) (h : Heap) (it a : Addr) (i : Nat) : Prop := match k with
  | true => h.IsListIter it a i
  | false => h.IsTupleIter it a i
def SeqB (k : Bool) (h : Heap) (a : Addr) (its : Array Value) : Prop := match k with
  | true => h.IsList a its
  | false => h.IsTuple a its
theorem drawsB {prog : Program} {w : World} {A : Around} (hh : A.handled = none) (k : Bool) {it a : Addr} (hne : a ≠ it) (items : Array Value) :
    Draws prog w A it [it, a] items.size (fun i v => items[i]? = some v) (fun i h => IterB k h it a i ∧ SeqB k h a items) := by
  cases k
  · exact Draws.tuple hh it a hne items
  · exact Draws.list hh it a hne items
theorem beginsB (k : Bool) (a : Addr) (items : Array Value) : ∃ o : Obj, Begins (.ref a) o (fun h => SeqB k h a items) ∧ ∀ (h : Heap) (it : Addr), h.get? it = some o → IterB k h it a 0 := by
  cases k
  · exact ⟨_, begins_tuple a items, fun h it e => ⟨_, e, rfl, rfl⟩⟩
  · exact ⟨_, begins_list a items, fun h it e => ⟨_, e, rfl, rfl⟩⟩
theorem IterB.at {k : Bool} {h h' : Heap} {it a : Addr} {i : Nat} (st : IterB k h it a i) (e : ∀ o, h.get? it = some o → h'.get? it = some o) : IterB k h' it a i := by
  cases k
  · exact Heap.IsTupleIter.at st e
  · exact Heap.IsListIter.at st e
theorem IterB.obj {k : Bool} {h : Heap} {it a : Addr} {i : Nat} (st : IterB k h it a i) : ∃ o, h.get? it = some o ∧ ∀ v, o.data ≠ .cell v := by
  cases k
  · obtain ⟨o, e, c, d⟩ := st; exact ⟨o, e, fun v q => by rw [d] at q; cases q⟩
  · obtain ⟨o, e, c, d⟩ := st; exact ⟨o, e, fun v q => by rw [d] at q; cases q⟩
section
variable {X : Cx} {pins : List (Addr × Obj)} {σ : L2.St} {H : Hp} {s : Shared} {a : Addr} {xs : List V} {k : Bool}
theorem inv_B (I : Inv X pins σ H s) (h : SqB X.K k H a xs) : ∃ its : List Value, Vals xs its ∧ SeqB k s.heap a its.toArray := by
  cases k
  · obtain ⟨its, rv, p, hz⟩ := I.tuple h
    exact ⟨its, rv, (show s.heap.IsTuple a its.toArray from p)⟩
  · obtain ⟨its, rv, p, hz⟩ := I.list h
    exact ⟨its, rv, (show s.heap.IsList a its.toArray from p.isList)⟩
theorem inv_inj {ys : List V} (I : Inv X pins σ H s) (h : SqB X.K k H a xs) (h2 : SqB X.K k H a ys) : xs = ys := by
  cases k
  · exact I.tuple_inj h h2
  · exact I.list_inj h h2
theorem seqB_lt {its : Array Value} {h : Heap} (p : SeqB k h a its) : a < h.objs.size := by
  cases k
  · obtain ⟨o, e, _⟩ := p; exact Heap.lt_size e
  · obtain ⟨o, e, _⟩ := p; exact Heap.lt_size e
end
/-! ### enumerate -/
def IteB (K : PySem.W.Frag) (k : Bool) (a : Addr) : It :=
  ⟨fun i H => ∃ (xs : List V) (x : V), SqB K k H a xs ∧ xs[i]? = some x, fun i H v H' => ∃ T x, v = .ref T ∧ H T = none ∧ H' = upd H T (.tup [.int (i : Nat), x]) ∧ ∀ xs, SqB K k H a xs → xs[i]? = some x, fun i H => ∃ xs : List V, SqB K k H a xs ∧ xs.length = i⟩
theorem turn_enumB {P : Program} {w : World} {K : PySem.W.Frag} {elts : List Expr} {kk : Nat} {tpos : Pos} (k : Bool) (a e it : Addr) :
    Turn P w K (.Tuple elts kk tpos) (IteB K k a) [e, it] e (fun i h => (∃ old, IsEnum h e it ((i : Nat) : Int) old) ∧ IterB k h it a i ∧ e ≠ it ∧ a ≠ it ∧ a ≠ e) where
  mem := by simp
  obj := fun i h st b hb => by
    obtain ⟨⟨old, he⟩, hi, _⟩ := st
    have e' : b = e ∨ b = it := by simpa using hb
    rcases e' with z | z
    · rw [z]; exact ⟨_, he, fun v q => nomatch q⟩
    · rw [z]; exact hi.obj
  keep := fun i h h' st k' => let ⟨⟨old, he⟩, hi, hne⟩ := st; ⟨⟨old, k' e (by simp) _ he⟩, hi.at fun o q => k' it (by simp) o q, hne⟩
  item := by
    intro X hP hw hK hc i pins s σ H E I hf st hg
    subst hP hw hK
    obtain ⟨⟨old, he⟩, hit, hne, hai, hae⟩ := st
    obtain ⟨xs, x, hq, hx⟩ := hg
    obtain ⟨its, rv, p⟩ := inv_B I hq
    obtain ⟨u, hu, ru⟩ := rv.get hx
    have hel : e < s.heap.objs.size := Heap.lt_size he
    have hil : it < s.heap.objs.size := by obtain ⟨_, q, _⟩ := hit.obj; exact Heap.lt_size q
    have hlt : i < its.toArray.size := by
      rw [List.size_toArray]
      exact (List.getElem?_eq_some_iff.mp hu).1
    refine wpAny_pyNext_enum_itemD (drawsB (A := X.A.in1) (I.ok.hd hc) k hai its.toArray) he ⟨hit, p⟩ hlt hne (by simp [hne, Ne.symm hae]) fun y h' tk hy ho st' hT hsz hk => ?_
    have ey : y = u := by
      have hy' : its[i]? = some y := by simpa using hy
      rw [hu] at hy'
      exact (Option.some.inj hy').symm
    subst ey
    refine ⟨_, rfl, wpAny_letOwnedTupleGo_enum (s := { s with heap := h', toks := tk + 1 }) ho fun h'' he' sb => ?_⟩
    have hT2 : h''.get? s.heap.objs.size = some { cls := .type "tuple", data := .seq #[.int i tk, y] } := (sb.2 _ (Nat.ne_of_gt hel)).trans hT
    have new : ObjOk X.prog X.w (upd H s.heap.objs.size (.tup [.int (i : Nat), x])) h'' s.heap.objs.size (.tup [.int (i : Nat), x]) :=
      ⟨by show 2 ≤ sizeLine; decide, [.int i tk, y], .cons ⟨_, rfl⟩ (.cons ru .nil), ⟨_, hT2, rfl, _, rfl⟩⟩
    have I1 : Inv X pins σ (upd H s.heap.objs.size (.tup [.int (i : Nat), x])) { s with heap := h'', toks := tk + 1 } :=
      I.turnedNew (ch := [e, it]) (fun b ob hb q => (sb.2 b (fun z => hb (by simp [z]))).trans (hk b ob (fun z => hb (by simp [z])) (fun z => hb (by simp [z])) q)) hf (Nat.le_refl _) new
    refine ⟨.ref s.heap.objs.size, _, I1, rfl, ⟨_, x, rfl, I.hok.fresh (Nat.le_refl _), rfl, fun ys hy => by rw [inv_inj I hy hq]; exact hx⟩, ⟨⟨y, ?_⟩, st'.1.at fun o q => (sb.2 it (Ne.symm hne)).trans q, hne, hai, hae⟩, fun b hb => ?_⟩
    · have e1 : ((i + 1 : Nat) : Int) = (i : Int) + 1 := by omega
      rw [e1]; exact he'
    · have hb' : b < s.heap.objs.size := by
        have e' : b = e ∨ b = it := by simpa using hb
        rcases e' with z | z
        · rw [z]; exact hel
        · rw [z]; exact hil
      rw [upd_ne (Nat.ne_of_lt hb')]
      exact (hf b hb).1
  done := by
    intro X hP hw hK hc i pins s σ H E I hf st hg
    subst hP hw hK
    obtain ⟨⟨old, he⟩, hit, hne, hai, hae⟩ := st
    obtain ⟨xs, hq, hx⟩ := hg
    obtain ⟨its, rv, p⟩ := inv_B I hq
    obtain ⟨f0, f1, f2, f3, f4, f5⟩ := hf it (by simp)
    have hl := rv.length
    have hi : IterB k s.heap it a its.toArray.size := by
      rw [List.size_toArray, ← hl, hx]; exact hit
    exact wpAny_pyNext_enum_endD (drawsB (A := X.A.in1) (I.ok.hd hc) k hai its.toArray) he ⟨hi, p⟩ fun h' eb => ⟨rfl, I.turned (t' := s.toks) (fun b o hb q => eb b o hb q) f0 f1 f3 f4 f5⟩
  self := fun A i s Q E st h => let ⟨⟨_, he⟩, _⟩ := st; wpAny_pyIter_enum he h
open PySem in
set_option maxHeartbeats 1000000 in
theorem meets_enum_new1 {v : Value} {o : Obj} {H : Heap → Prop} (B : Begins v o H) :
    Meets (Builtin.«enumerate.__new__» ⟨[.type "enumerate", v], []⟩) (fun _ R s => H s.heap ∧
      R (.ok (.ret (.ref (s.heap.push o).objs.size))) { s with heap := (s.heap.push o).push { cls := .type "enumerate", data := .fields #[.none, .bool false, .ref s.heap.objs.size, rawInt 0, .none, .none] } }) :=
  .of_wp fun prog w A R s h => by
    obtain ⟨hp, g, d, tk, os⟩ := s; obtain ⟨h1, h⟩ := h
    have hsub := sub_enumerate
    have q1 : ∀ {A' : Around} {E : Value → Shared → Prop} {Q : Value → Shared → Prop}, Q (.ref hp.objs.size) ⟨hp.push o, g, d, tk, os⟩ → wpAny (model prog w) A' (pyIter v) Q E ⟨hp, g, d, tk, os⟩ :=
      fun q => B.iter prog w _ _ ⟨hp, g, d, tk, os⟩ _ h1 q
    wp_walk using q1
    refine wpAny_stack_any fun st => wpAny_pure ?_
    split
    · rename_i c _ _ _ _ _
      cases (c == Value.type "enumerate")
      · wp_walk using q1
        exact ⟨_, rfl, h⟩
      · wp_walk using q1
        exact ⟨_, rfl, h⟩
    · wp_walk using q1
      exact ⟨_, rfl, h⟩
section
variable {prog : Program} {w : World} {A : Around} {E : Value → Shared → Prop} {s : Shared}
theorem enum_begins1 {v : Value} {o : Obj} {H : Heap → Prop} {Q : Value → Shared → Prop} (B : Begins v o H) (h1 : H s.heap)
    (h : ∀ h', IsEnum h' (s.heap.objs.size + 1) s.heap.objs.size 0 .none → h'.get? s.heap.objs.size = some o → h'.objs.size = s.heap.objs.size + 2 →
      (∀ b o, s.heap.get? b = some o → h'.get? b = some o) → Q (.ref (s.heap.objs.size + 1)) { s with heap := h' }) :
    wpAny (model prog w) A (call (.type "enumerate") [v]) Q E s := by
  refine callType_new F.called_enumerate (by decide) (F.typeCall_enumerate_1 _) (F.newCall_enumerate_1 _) (fun obj => F.args_object_init_2 obj _) F.entry_enumerate_new
    (meets_enum_new1 B) ⟨h1, ?_⟩
  have hz : (s.heap.push o).objs.size = s.heap.objs.size + 1 := Heap.size_push ..
  show _ ∧ _
  rw [hz]
  have he : IsEnum ((s.heap.push o).push { cls := .type "enumerate", data := .fields #[.none, .bool false, .ref s.heap.objs.size, rawInt 0, .none, .none] }) (s.heap.objs.size + 1) s.heap.objs.size 0 .none := by
    have := Heap.get?_push_size (s.heap.push o) (o := { cls := .type "enumerate", data := .fields #[.none, .bool false, .ref s.heap.objs.size, rawInt 0, .none, .none] }) rfl
    rw [hz] at this; exact this
  refine ⟨⟨_, he, rfl⟩, h _ he (Heap.get?_push_of_some _ (Heap.get?_push_size _ B.free)) (by rw [Heap.size_push, hz]) fun b o x => Heap.get?_push_of_some _ (Heap.get?_push_of_some _ x)⟩
end
def iEnumB (K : PySem.W.Frag) (ta : TA) : TI := fun σ H R => ta σ H fun vs H1 => ∃ a xs k, vs = [.ref a] ∧ SqB K k H1 a xs ∧ R (IteB K k a) H1
theorem pi_enumB {X : Cx} {e : Expr} {ta : TA} {p pos tpos : Pos} {elts : List Expr} {kk : Nat} (hg : Gl X "enumerate") (hm : X.mg "enumerate" = none) (ha : PA X [e] ta) (hs : starEach [e] X.env = [(false, eval e X.env)] := by rfl) :
    PI X (.Tuple elts kk tpos) (.Call (.Name "enumerate" p) [e] [] pos) (iEnumB X.K ta) := by
  refine ⟨fun pins s σ H R I h => ?_⟩
  refine Call_ (ld_blt I hg hm boot_enumerate (PyProof.Rows.callWith_type1 (thn (ha.run pos pins s σ H _ I h) fun us s1 ⟨vs, H1, I1, r1, q1⟩ => ?_) hs rfl))
  obtain ⟨a, xs, k, ex, hq, q⟩ := q1
  subst ex
  cases r1 with
  | cons r rr =>
    cases rr
    cases r
    obtain ⟨its, rv, p'⟩ := inv_B I1 hq
    obtain ⟨o, B, hB⟩ := beginsB k a its.toArray
    refine enum_begins1 B p' fun h' he hit hsz hk => wpAny_pyIter_enum he ?_
    have I2 : Inv X pins σ H1 { s1 with heap := h' } := I1.kept (t' := s1.toks) hk
    have hal := seqB_lt p'
    refine ⟨s1.heap.objs.size + 1, [s1.heap.objs.size + 1, s1.heap.objs.size], _, _, H1, rfl, I2, turn_enumB k a (s1.heap.objs.size + 1) s1.heap.objs.size, ⟨⟨.none, he⟩, hB _ _ hit, Nat.succ_ne_self _, Nat.ne_of_lt hal, Nat.ne_of_lt (Nat.lt_succ_of_lt hal)⟩, fun b hb => ?_, q⟩
    have e' : b = s1.heap.objs.size + 1 ∨ b = s1.heap.objs.size := by simpa using hb
    have hle : s1.heap.objs.size ≤ b := by
      rcases e' with z | z
      · rw [z]; exact Nat.le_add_right _ _
      · rw [z]; exact Nat.le_refl _
    exact I1.fpOk hle (I1.hok.fresh hle)
end Den
/-! Den25: zip of any two, enumerate, starred items: the mirrors. -/
namespace Den
open PySem PySem.Spec PyProof.Rows L2

/-! ### zip of a list or a tuple with a list or a tuple -/
def ItzB (K : PySem.W.Frag) (k1 k2 : Bool) (a b : Addr) : It :=
  ⟨fun i H => ∃ (xs ys : List V) (x y : V), SqB K k1 H a xs ∧ SqB K k2 H b ys ∧ xs[i]? = some x ∧ ys[i]? = some y,
    fun i H v H' => ∃ T x y, v = .ref T ∧ H T = none ∧ H' = upd H T (.tup [x, y]) ∧ (∀ xs, SqB K k1 H a xs → xs[i]? = some x) ∧ ∀ ys, SqB K k2 H b ys → ys[i]? = some y,
    fun i H => ∃ xs ys : List V, SqB K k1 H a xs ∧ SqB K k2 H b ys ∧ i = min xs.length ys.length⟩
theorem turn_zipB {P : Program} {w : World} {K : PySem.W.Frag} {elts : List Expr} {kk : Nat} {tpos : Pos} (k1 k2 : Bool) {a b z TI TO i1 i2 : Addr} (S : ZipSep2 z TI TO i1 i2 [i1, a] [i2, b]) (hai : a ≠ i1) (hbi : b ≠ i2) :
    Turn P w K (.Tuple elts kk tpos) (ItzB K k1 k2 a b) [z, TI, TO, i1, i2] z (fun i h => IsZip h z TI TO .none ∧ IsTupOf2 h TI (.ref i1) (.ref i2) ∧ (∃ x y, IsTupOf2 h TO x y) ∧ IterB k1 h i1 a i ∧ IterB k2 h i2 b i) where
  mem := by simp
  obj := fun i h st c hc => by
    obtain ⟨hz, hTI, ⟨x, y, hTO⟩, h1, h2⟩ := st
    have e' : c = z ∨ c = TI ∨ c = TO ∨ c = i1 ∨ c = i2 := by simpa using hc
    rcases e' with q | q | q | q | q
    · rw [q]; exact ⟨_, hz, fun v q => nomatch q⟩
    · rw [q]; exact ⟨_, hTI, fun v q => nomatch q⟩
    · rw [q]; exact ⟨_, hTO, fun v q => nomatch q⟩
    · rw [q]; exact h1.obj
    · rw [q]; exact h2.obj
  keep := fun i h h' st k => by
    obtain ⟨hz, hTI, ⟨x, y, hTO⟩, h1, h2⟩ := st
    exact ⟨k z (by simp) _ hz, k TI (by simp) _ hTI, ⟨x, y, k TO (by simp) _ hTO⟩, h1.at fun o q => k i1 (by simp) o q, h2.at fun o q => k i2 (by simp) o q⟩
  item := by
    intro X hP hw hK hc i pins s σ H E I hf st hg
    subst hP hw hK
    obtain ⟨hz, hTI, ⟨x0, y0, hTO⟩, h1, h2⟩ := st
    obtain ⟨xs, ys, x, y, hqx, hqy, hx, hy⟩ := hg
    obtain ⟨its, rv, p⟩ := inv_B I hqx
    obtain ⟨its2, rv2, p2⟩ := inv_B I hqy
    obtain ⟨u, hu, ru⟩ := rv.get hx
    obtain ⟨u2, hu2, ru2⟩ := rv2.get hy
    have hzl : z < s.heap.objs.size := Heap.lt_size hz
    have hl1 : i < its.toArray.size := by rw [List.size_toArray]; exact (List.getElem?_eq_some_iff.mp hu).1
    have hl2 : i < its2.toArray.size := by rw [List.size_toArray]; exact (List.getElem?_eq_some_iff.mp hu2).1
    refine wpAny_pyNext_zipD2_item S (drawsB (A := X.A.in1) (I.ok.hd hc) k1 hai its.toArray) (drawsB (A := X.A.in1) (I.ok.hd hc) k2 hbi its2.toArray) hz hTI hTO ⟨h1, p⟩ ⟨h2, p2⟩ hl1 hl2 fun v1 v2 h' tk q1 q2 z' TO' st1 st2 hT hsz hk => ?_
    have e1 : v1 = u := by
      have h : its[i]? = some v1 := by simpa using q1
      rw [hu] at h; exact (Option.some.inj h).symm
    have e2 : v2 = u2 := by
      have h : its2[i]? = some v2 := by simpa using q2
      rw [hu2] at h; exact (Option.some.inj h).symm
    subst e1 e2
    refine ⟨_, rfl, wpAny_letOwnedTupleGo_zip (s := { s with heap := h', toks := tk }) z' fun h'' z'' sb => ?_⟩
    have hT2 : h''.get? s.heap.objs.size = some { cls := .type "tuple", data := .seq #[v1, v2] } := (sb.2 _ (Nat.ne_of_gt hzl)).trans hT
    have new : ObjOk X.prog X.w (upd H s.heap.objs.size (.tup [x, y])) h'' s.heap.objs.size (.tup [x, y]) :=
      ⟨by show 2 ≤ sizeLine; decide, [v1, v2], .cons ru (.cons ru2 .nil), ⟨_, hT2, rfl, _, rfl⟩⟩
    have I1 : Inv X pins σ (upd H s.heap.objs.size (.tup [x, y])) { s with heap := h'', toks := tk } :=
      I.turnedNew (t' := tk) (ch := [z, TI, TO, i1, i2]) (fun c o hb q => (sb.2 c (fun q' => hb (by simp [q']))).trans (hk c o (fun q' => hb (by simp [q'])) (fun q' => hb (by simp [q'])) (fun q' => hb (by simp [q'])) (fun q' => hb (by simp [q'])) q)) hf (Nat.le_refl _) new
    refine ⟨.ref s.heap.objs.size, _, I1, rfl, ⟨_, x, y, rfl, I.hok.fresh (Nat.le_refl _), rfl, fun l hl => by rw [inv_inj I hl hqx]; exact hx, fun l hl => by rw [inv_inj I hl hqy]; exact hy⟩, ⟨z'', ?_, ⟨v1, v2, ?_⟩, ?_, ?_⟩, fun c hcm => ?_⟩
    · exact (sb.2 _ S.TIz).trans (hk _ _ S.TIz S.TITO S.TIi1 S.TIi2 hTI)
    · exact (sb.2 _ S.TOz).trans TO'
    · exact st1.1.at fun o q => (sb.2 _ (Ne.symm S.zi1)).trans q
    · exact st2.1.at fun o q => (sb.2 _ (Ne.symm S.zi2)).trans q
    · have hlt : c < s.heap.objs.size := by
        have e' : c = z ∨ c = TI ∨ c = TO ∨ c = i1 ∨ c = i2 := by simpa using hcm
        rcases e' with q | q | q | q | q
        · rw [q]; exact hzl
        · rw [q]; exact Heap.lt_size hTI
        · rw [q]; exact Heap.lt_size hTO
        · rw [q]; obtain ⟨_, e1, _⟩ := h1.obj; exact Heap.lt_size e1
        · rw [q]; obtain ⟨_, e2, _⟩ := h2.obj; exact Heap.lt_size e2
      rw [upd_ne (Nat.ne_of_lt hlt)]
      exact (hf c hcm).1
  done := by
    intro X hP hw hK hc i pins s σ H E I hf st hg
    subst hP hw hK
    obtain ⟨hz, hTI, ⟨x0, y0, hTO⟩, h1, h2⟩ := st
    obtain ⟨xs, ys, hqx, hqy, hend⟩ := hg
    obtain ⟨its, rv, p⟩ := inv_B I hqx
    obtain ⟨its2, rv2, p2⟩ := inv_B I hqy
    have l1 := rv.length
    have l2 := rv2.length
    have s1 : its.toArray.size = xs.length := by rw [List.size_toArray]; exact l1.symm
    have s2 : its2.toArray.size = ys.length := by rw [List.size_toArray]; exact l2.symm
    exact wpAny_pyNext_zipD2_end S (drawsB (A := X.A.in1) (I.ok.hd hc) k1 hai its.toArray) (drawsB (A := X.A.in1) (I.ok.hd hc) k2 hbi its2.toArray) hz hTI hTO ⟨h1, p⟩ ⟨h2, p2⟩ (by omega) (by omega) (by omega) fun h' tk hk => ⟨rfl, I.turnedL (t' := tk) (ch := [z, TI, TO, i1, i2]) (fun c o hb q =>
      hk c o (fun q' => hb (by simp [q'])) (fun q' => hb (by simp [q'])) (fun q' => hb (by simp [q'])) (fun q' => hb (by simp [q'])) q) hf⟩
  self := fun A i s Q E st h => wpAny_pyIter_zip st.1 h
theorem zip_sep {N a b : Nat} (ha : a < N) (hb : b < N) : ZipSep2 (N + 4) (N + 2) (N + 3) N (N + 1) [N, a] [N + 1, b] where
  TIz := show (N + 2 : Nat) ≠ N + 4 by omega
  TOz := show (N + 3 : Nat) ≠ N + 4 by omega
  TITO := show (N + 2 : Nat) ≠ N + 3 by omega
  TIi1 := show (N + 2 : Nat) ≠ N by omega
  mem1 := by simp
  zf1 := fun h => by
    have h' : (N + 4 : Nat) = N ∨ (N + 4 : Nat) = a := by simpa using h
    omega
  Tf1 := fun h => by
    have h' : (N + 3 : Nat) = N ∨ (N + 3 : Nat) = a := by simpa using h
    omega
  TIi2 := show (N + 2 : Nat) ≠ N + 1 by omega
  mem2 := by simp
  zf2 := fun h => by
    have h' : (N + 4 : Nat) = N + 1 ∨ (N + 4 : Nat) = b := by simpa using h
    omega
  Tf2 := fun h => by
    have h' : (N + 3 : Nat) = N + 1 ∨ (N + 3 : Nat) = b := by simpa using h
    omega
  sep1_2 := fun h => by
    have h' : (N : Nat) = N + 1 ∨ (N : Nat) = b := by simpa using h
    omega
  sep2_1 := fun h => by
    have h' : (N + 1 : Nat) = N ∨ (N + 1 : Nat) = a := by simpa using h
    omega
def iZipB (K : PySem.W.Frag) (ta : TA) : TI := fun σ H R => ta σ H fun vs H1 => ∃ a b xs ys k1 k2, vs = [.ref a, .ref b] ∧ SqB K k1 H1 a xs ∧ SqB K k2 H1 b ys ∧ R (ItzB K k1 k2 a b) H1
theorem pi_zipB {X : Cx} {e e2 : Expr} {ta : TA} {p pos tpos : Pos} {elts : List Expr} {kk : Nat} (hg : Gl X "zip") (hm : X.mg "zip" = none) (ha : PA X [e, e2] ta)
    (hs : starEach [e, e2] X.env = (false, eval e X.env) :: starEach [e2] X.env := by rfl) (hpl : (backTo pos (starEach [e2] X.env)).any (·.1) = false := by rfl) :
    PI X (.Tuple elts kk tpos) (.Call (.Name "zip" p) [e, e2] [] pos) (iZipB X.K ta) := by
  refine ⟨fun pins s σ H R I h => ?_⟩
  refine Call_ (ld_blt I hg hm PyProof.Rows.boot_zip (PyProof.Rows.callWith_type1 (thn (ha.run pos pins s σ H _ I h) fun us s1 ⟨vs, H1, I1, r1, q1⟩ => ?_) hs hpl))
  obtain ⟨a, b, xs, ys, k1, k2, ex, hqx, hqy, q⟩ := q1
  subst ex
  cases r1 with
  | cons r rr =>
    cases rr with
    | cons r' rr =>
      cases rr
      cases r
      cases r'
      have fresh5 : ∀ c, c ∈ [s1.heap.objs.size + 4, s1.heap.objs.size + 2, s1.heap.objs.size + 3, s1.heap.objs.size, s1.heap.objs.size + 1] → FpOk X pins H1 c := fun c hcm => by
        have e' : c = s1.heap.objs.size + 4 ∨ c = s1.heap.objs.size + 2 ∨ c = s1.heap.objs.size + 3 ∨ c = s1.heap.objs.size ∨ c = s1.heap.objs.size + 1 := by simpa using hcm
        have hle : s1.heap.objs.size ≤ c := by
          rcases e' with z | z | z | z | z
          · rw [z]; exact Nat.le_add_right _ _
          · rw [z]; exact Nat.le_add_right _ _
          · rw [z]; exact Nat.le_add_right _ _
          · rw [z]; exact Nat.le_refl _
          · rw [z]; exact Nat.le_add_right _ _
        exact I1.fpOk hle (I1.hok.fresh hle)
      obtain ⟨its, rv, p1⟩ := inv_B I1 hqx
      obtain ⟨its2, rv2, p2⟩ := inv_B I1 hqy
      obtain ⟨o1, B1, hB1⟩ := beginsB k1 a its.toArray
      obtain ⟨o2, B2, hB2⟩ := beginsB k2 b its2.toArray
      have ha1 := seqB_lt p1
      have hb1 := seqB_lt p2
      refine zip_begins2 B1 B2 p1 p2 fun h' hz hTI hTO h1 h2 hsz hk => wpAny_pyIter_zip hz ?_
      have I2 : Inv X pins σ H1 { s1 with heap := h' } := I1.kept (t' := s1.toks) hk
      exact ⟨s1.heap.objs.size + 4, [s1.heap.objs.size + 4, s1.heap.objs.size + 2, s1.heap.objs.size + 3, s1.heap.objs.size, s1.heap.objs.size + 1], _, _, H1, rfl, I2, turn_zipB k1 k2 (zip_sep ha1 hb1) (Nat.ne_of_lt ha1) (Nat.ne_of_lt (Nat.lt_succ_of_lt hb1)), ⟨hz, hTI, ⟨_, _, hTO⟩, hB1 _ _ h1, hB2 _ _ h2⟩, fresh5, q⟩

/-! ### the mirrors -/
section
variable {X : Cx} {E : St → XK} {ea eb tg : Expr} {a b : EM W} {pos : Pos}
theorem itD_zipB {O : Addr → Prop} {H : Hp} {a0 b0 : Addr} {k1 k2 : Bool} {xs ys : List D} {vs us : List V} (hq : ∀ {O' H'}, Ext O H O' H' → SqB X.K k1 H' a0 vs) (hq2 : ∀ {O' H'}, Ext O H O' H' → SqB X.K k2 H' b0 us)
    (r : RepDs X.K O H xs vs) (r2 : RepDs X.K O H ys us) : ItD X O H (ItzB X.K k1 k2 a0 b0) ((xs.zip ys).map fun p => .tuple [p.1, p.2]) where
  go := fun i O' H' g hi => by
    have hl := r.len
    have hl2 := r2.len
    rw [List.length_map, List.length_zip] at hi
    exact ⟨vs, us, vs[i]'(by omega), us[i]'(by omega), hq g, hq2 g, List.getElem?_eq_getElem _, List.getElem?_eq_getElem _⟩
  yld := fun i O' H' x v H'' g hx hy => by
    obtain ⟨T, y1, y2, rfl, hn, rfl, h1, h2⟩ := hy
    rw [List.getElem?_map] at hx
    cases hz : (xs.zip ys)[i]? with
    | none => rw [hz] at hx; cases hx
    | some pr =>
      rw [hz] at hx
      cases hx
      obtain ⟨z1, z2⟩ := List.getElem?_zip_eq_some.mp hz
      obtain ⟨v1, w1, q1⟩ := (r.ext g).get z1
      obtain ⟨v2, w2, q2⟩ := (r2.ext g).get z2
      have e1 := h1 vs (hq g)
      have e2 := h2 us (hq2 g)
      rw [w1] at e1; cases e1
      rw [w2] at e2; cases e2
      have f : Fresh H' (upd H' T (.tup [y1, y2])) := .inr ⟨T, _, hn, rfl⟩
      exact ⟨f, T, [y1, y2], rfl, .inl upd_same, y1, [y2], rfl, q1.ext f.ext, y2, [], rfl, q2.ext f.ext, rfl⟩
  stop := fun O' H' g => by
    refine ⟨vs, us, hq g, hq2 g, ?_⟩
    rw [List.length_map, List.length_zip, r.len, r2.len]
def enumL (xs : List D) : List D := xs.zipIdx.map fun p => .tuple [.int (p.2 : Nat), p.1]
theorem itD_enumB {O : Addr → Prop} {H : Hp} {a0 : Addr} {k : Bool} {xs : List D} {vs : List V} (hq : ∀ {O' H'}, Ext O H O' H' → SqB X.K k H' a0 vs) (r : RepDs X.K O H xs vs) : ItD X O H (IteB X.K k a0) (enumL xs) where
  go := fun i O' H' g hi => by
    have hl := r.len
    unfold enumL at hi
    rw [List.length_map, List.length_zipIdx] at hi
    exact ⟨vs, vs[i]'(by omega), hq g, List.getElem?_eq_getElem _⟩
  yld := fun i O' H' x v H'' g hx hy => by
    obtain ⟨T, y, rfl, hn, rfl, h1⟩ := hy
    unfold enumL at hx
    rw [List.getElem?_map, List.getElem?_zipIdx] at hx
    cases hz : xs[i]? with
    | none => rw [hz] at hx; cases hx
    | some u =>
      rw [hz] at hx
      cases hx
      obtain ⟨v1, w1, q1⟩ := (r.ext g).get hz
      have e1 := h1 vs (hq g)
      rw [w1] at e1; cases e1
      have f : Fresh H' (upd H' T (.tup [.int (i : Nat), y])) := .inr ⟨T, _, hn, rfl⟩
      refine ⟨f, T, [.int (i : Nat), y], rfl, .inl upd_same, .int (i : Nat), [y], rfl, ?_, y, [], rfl, q1.ext f.ext, rfl⟩
      show V.int _ = V.int _
      rw [Nat.zero_add]
  stop := fun O' H' g => by
    refine ⟨vs, hq g, ?_⟩
    unfold enumL
    rw [List.length_map, List.length_zipIdx, r.len]
theorem sqB_of {O : Addr → Prop} {H : Hp} {x : D} {v : V} {ds : List D} (r : RepD X.K O H x v) (h : seqOf x = some ds) : ∃ a0 k vs, v = .ref a0 ∧ (∀ {O' H'}, Ext O H O' H' → SqB X.K k H' a0 vs) ∧ RepDs X.K O H ds vs := by
  cases x with
  | list xs =>
    cases h
    obtain ⟨a0, vs, rfl, h1, h2⟩ := r
    exact ⟨a0, true, vs, rfl, fun g => (.inl (.inl (sqF_ext g h1).1) : SqL X.K _ a0 vs), h2⟩
  | tuple xs =>
    cases h
    obtain ⟨a0, vs, rfl, h1, h2⟩ := r
    exact ⟨a0, false, vs, rfl, fun g => (sqT_ext g (sqP h1) : SqT X.K _ a0 vs), h2⟩
  | _ => cases h
def mZipB (a b : EM W) : EM (List D) := fun rho m => (mCons a (mCons b mNil) rho m).bind fun ws m1 => match ws with
  | [.d x, .d y] => (match seqOf x, seqOf y with | some xs, some ys => .ok ((xs.zip ys).map fun p => .tuple [p.1, p.2]) m1 | _, _ => .no)
  | _ => .no
theorem di_zipB {p pt : Pos} {elts : List Expr} {kk : Nat} (hg : Gl X "zip") (hm : X.mg "zip" = none) (ha : DenA X E [ea, eb] (mCons a (mCons b mNil)))
    (hs : starEach [ea, eb] X.env = (false, eval ea X.env) :: starEach [eb] X.env := by rfl) (hpl : (backTo pos (starEach [eb] X.env)).any (·.1) = false := by rfl) : DenI X E (.Tuple elts kk pt) (.Call (.Name "zip" p) [ea, eb] [] pos) (mZipB a b) :=
  PI.imp (pi_zipB hg hm ha hs hpl) fun σ H R q => by
    obtain ⟨Hd, al, rho, m, s, e, P⟩ := q
    refine ⟨Hd, al, rho, m, s, e, (Post.bind P).imp fun ws al1 p1 m1 H1 g s1 k hp vs rv => ?_⟩
    subst hp
    have P1 := k rfl
    split at P1
    · rename_i x y
      obtain ⟨v, r, rfl, r1, v2, r', rfl, r2, r3⟩ := rv
      have r3' : r' = [] := r3
      subst r3'
      split at P1
      · rename_i xs ys hx hy
        obtain ⟨a0, k1, vs, rfl, h1, h2⟩ := sqB_of r1.2 hx
        obtain ⟨b0, k2, us, rfl, h3, h4⟩ := sqB_of r2.2 hy
        exact ⟨a0, b0, vs, us, k1, k2, rfl, h1 Ext.refl, h3 Ext.refl, Post.ok s1 P1 rfl _ (itD_zipB h1 h3 h2 h4)⟩
      · exact P1.elim
    · exact P1.elim
def mEnum (a : EM W) : EM (List D) := fun rho m => (mCons a mNil rho m).bind fun ws m1 => match ws with
  | [.d x] => (match seqOf x with | some xs => .ok (enumL xs) m1 | none => .no)
  | _ => .no
theorem di_enum {p pt : Pos} {elts : List Expr} {kk : Nat} (hg : Gl X "enumerate") (hm : X.mg "enumerate" = none) (ha : DenA X E [ea] (mCons a mNil)) (hs : starEach [ea] X.env = [(false, eval ea X.env)] := by rfl) :
    DenI X E (.Tuple elts kk pt) (.Call (.Name "enumerate" p) [ea] [] pos) (mEnum a) :=
  PI.imp (pi_enumB hg hm ha hs) fun σ H R q => by
    obtain ⟨Hd, al, rho, m, s, e, P⟩ := q
    refine ⟨Hd, al, rho, m, s, e, (Post.bind P).imp fun ws al1 p1 m1 H1 g s1 k hp vs rv => ?_⟩
    subst hp
    have P1 := k rfl
    split at P1
    · rename_i x
      obtain ⟨v, r, rfl, r1, r3⟩ := rv
      have r3' : r = [] := r3
      subst r3'
      split at P1
      · rename_i xs hx
        obtain ⟨a0, k1, vs, rfl, h1, h2⟩ := sqB_of r1.2 hx
        exact ⟨a0, vs, k1, rfl, h1 Ext.refl, Post.ok s1 P1 rfl _ (itD_enumB h1 h2)⟩
      · exact P1.elim
    · exact P1.elim
/-- *a, .. in a display -/
def mStar (a : EM W) (r : EM (List W)) : EM (List W) := fun rho m => (a rho m).bindV fun w m1 => match w with
  | .d x => (match seqOf x with | some xs => (r rho m1).bind fun ws m2 => .ok (xs.map W.d ++ ws) m2 | none => .no)
  | _ => .no
theorem repWs_app {K : PySem.W.Frag} {mg : Str → Option Value} {O : Addr → Prop} {al : List Addr} {H : Hp} : ∀ {xs : List D} {vs : List V} {ws : List W} {us : List V}, RepDs K O H xs vs → RepWs K mg O al H ws us → RepWs K mg O al H (xs.map W.d ++ ws) (vs ++ us)
  | [], _, _, _, h, h2 => by rw [show _ = [] from h]; exact h2
  | x :: xs, _, _, _, ⟨v, r, h1, h3, h4⟩, h2 => by subst h1; exact ⟨v, _, rfl, ⟨rfl, h3⟩, repWs_app h4 h2⟩
theorem da_star {es : List Expr} {r : EM (List W)} {p : Pos} (ha : Den X E ea a) (hr : DenA X E es r) (hs : starEach (.Starred ea p :: es) X.env = (true, eval ea X.env) :: starEach es X.env := by rfl) : DenA X E (.Starred ea p :: es) (mStar a r) := PA.imp (StX.pa_star ha hr hs) fun σ H Q q => by
  obtain ⟨Hd, al, rho, m, s, e, P⟩ := q
  refine ⟨Hd, al, rho, m, s, e, (Post.bindV P).imp fun w al1 p1 m1 H1 g s1 k v rv => ?_⟩
  obtain ⟨g1, s1', rv1, P1⟩ := k v rv
  generalize val w = y at rv1 P1
  split at P1
  · rename_i x
    split at P1
    · rename_i xs hx
      obtain ⟨a0, k1, vs, rfl, h1, h2⟩ := sqB_of rv1.2 hx
      refine ⟨a0, vs, rfl, ?_, Hd, al1, rho, m1, s1', e.go g1, (Post.bind P1).imp fun ws al2 p2 m2 H2 g2 s2 k2 hp us rw2 => ?_⟩
      · have hq := h1 Ext.refl
        cases k1
        · exact .inl hq
        · exact .inr hq
      · subst hp
        exact Post.ok s2 (k2 rfl) rfl _ (repWs_app (h2.ext g2.ext) rw2)
    · exact P1.elim
  · exact P1.elim
end
end Den
/-! Den26: k in d, k not in d; evaluation of the new mirrors. -/
namespace Den
open PySem PySem.Spec PyProof.Rows L2
def fDIn (neg : Bool) (y w : W) (m : Mem) : Rs W := match dictAt m w, y with
  | some kvs, .d xk => (match keyOf xk with
    | some k => if keyFor w kvs k = true then .ok (.d (.bool (if neg = true then !(valD kvs k).isSome else (valD kvs k).isSome))) m else .no
    | none => .no)
  | _, _ => .no
def rDInC (neg : Bool) : R2 := fun y x H Q => ∃ a0 H3, Conv a0 H H3 ∧ ∃ a o, x = .ref a ∧ DGet H3 a y o ∧ Q (.bl (if neg = true then !o.isSome else o.isSome)) H3
theorem bi_din {X : Cx} (neg : Bool) : Bi2 X (rDInC neg) (fDIn neg) := by
  intro E Hd al m H w v w2 v2 R Q s r1 r2 P k'
  unfold fDIn at P
  split at P
  · rename_i kvs xk hd
    split at P
    · rename_i k hk
      split at P
      · rename_i ok
        obtain ⟨a, H3, rfl, c, g, st, t⟩ := tab_at s r2 hd ok
        have q := tab_get t hk (r1.2.ext g.ext)
        cases hx : valD kvs k with
        | none =>
          rw [hx] at q P
          exact ⟨a, H3, c, a, none, rfl, q, k' _ _ _ _ _ _ (P al none H3 g st) ⟨rfl, rfl⟩⟩
        | some x =>
          rw [hx] at q P
          obtain ⟨u, q1, q2⟩ := q
          exact ⟨a, H3, c, a, some u, rfl, q1, k' _ _ _ _ _ _ (P al none H3 g st) ⟨rfl, rfl⟩⟩
      · exact P.elim
    · exact P.elim
  · exact P.elim
section
variable {X : Cx} {E : St → XK} {ea eb : Expr} {a b : EM W} {pos : Pos}
theorem tm_din {neg : Bool} {σ : L2.St} {H : Hp} {Q : VK} (q : tM X.K X.mg E (mOp2 a b (fDIn neg)) σ H Q) : (if neg = true then tDNotIn (tM X.K X.mg E a) (tConv (tM X.K X.mg E b)) else tDIn (tM X.K X.mg E a) (tConv (tM X.K X.mg E b))) σ H Q := by
  have z : tOp (rDInC neg) (tM X.K X.mg E a) (tM X.K X.mg E b) σ H Q := tM_op (bi_din neg) q
  obtain ⟨Hd, al, rho, m, s, e, P⟩ := z
  cases neg with
  | true =>
    refine ⟨Hd, al, rho, m, s, e, P.imp fun w al1 p1 m1 H1 g s1 k v rv => ?_⟩
    obtain ⟨Hd, al, rho, m, s, e, P⟩ := k v rv
    exact ⟨Hd, al, rho, m, s, e, P.imp fun w2 al2 p2 m2 H2 g2 s2 k2 v2 rv2 => k2 v2 rv2⟩
  | false =>
    refine ⟨Hd, al, rho, m, s, e, P.imp fun w al1 p1 m1 H1 g s1 k v rv => ?_⟩
    obtain ⟨Hd, al, rho, m, s, e, P⟩ := k v rv
    exact ⟨Hd, al, rho, m, s, e, P.imp fun w2 al2 p2 m2 H2 g2 s2 k2 v2 rv2 => k2 v2 rv2⟩
theorem den_din (hu : X.A.units + 65 < cLine) (ha : Den X E ea a) (hb : Den X E eb b) (hm : behindInMarks .In eb = false) : Den X E (.Compare ea [.In] [eb] pos) (mOp2 a b (fDIn false)) :=
  PE.imp (pe_cmp (pc_din (by omega) ha (pe_conv hb)) hm) fun _ _ _ q => tm_din q
theorem den_dnin (hu : X.A.units + 65 < cLine) (ha : Den X E ea a) (hb : Den X E eb b) (hm : behindInMarks .NotIn eb = false) : Den X E (.Compare ea [.NotIn] [eb] pos) (mOp2 a b (fDIn true)) :=
  PE.imp (pe_cmp (pc_dnotin (by omega) ha (pe_conv hb)) hm) fun _ _ _ q => tm_din q
theorem dt_din (hu : X.A.units + 65 < cLine) (ha : Den X E ea a) (hb : Den X E eb b) (hm : behindInMarks .In eb = false) : DenT X E (.Compare ea [.In] [eb] pos) (mBool (mOp2 a b (fDIn false))) :=
  PT.imp (pt_cmp (pc_din (by omega) ha (pe_conv hb)) hm) fun _ _ _ q => tT_bool (fun _ _ _ q => tm_din q) q
theorem dt_dnin (hu : X.A.units + 65 < cLine) (ha : Den X E ea a) (hb : Den X E eb b) (hm : behindInMarks .NotIn eb = false) : DenT X E (.Compare ea [.NotIn] [eb] pos) (mBool (mOp2 a b (fDIn true))) :=
  PT.imp (pt_cmp (pc_dnotin (by omega) ha (pe_conv hb)) hm) fun _ _ _ q => tT_bool (fun _ _ _ q => tm_din q) q
end
section
variable {rho : Env} {m : Mem} {a b : EM W} {r : EM (List W)}
@[simp] theorem e_Enum : mEnum a rho m = (mCons a mNil rho m).bind fun ws m1 => match ws with
  | [.d x] => (match seqOf x with | some xs => .ok (enumL xs) m1 | none => .no)
  | _ => .no := rfl
@[simp] theorem e_ZipB : mZipB a b rho m = (mCons a (mCons b mNil) rho m).bind fun ws m1 => match ws with
  | [.d x, .d y] => (match seqOf x, seqOf y with | some xs, some ys => .ok ((xs.zip ys).map fun p => .tuple [p.1, p.2]) m1 | _, _ => .no)
  | _ => .no := rfl
@[simp] theorem e_Star : mStar a r rho m = (a rho m).bindV fun w m1 => match w with
  | .d x => (match seqOf x with | some xs => (r rho m1).bind fun ws m2 => .ok (xs.map W.d ++ ws) m2 | none => .no)
  | _ => .no := rfl
end
end Den
/-! Den27: max of a tuple of ints. -/
namespace Den
open PySem PySem.Spec PyProof.Rows L2
section
variable {prog : Program} {w : World} {A : Around} {E : Value → Shared → Prop} {s : Shared} {l : Addr}
theorem max_intTuple {xs : Array (Int × Tok)} {Q : Value → Shared → Prop} (hh : A.handled = none) (hl : s.heap.IsTuple l (intItems xs)) (hne : 0 < xs.size)
    (h : ∀ v h' tk, (intItems xs)[argBest (fun i j => decide (numAt xs i > numAt xs j)) (xs.size - 1)]? = some v → (∀ b o, s.heap.get? b = some o → h'.get? b = some o) → Q v { s with heap := h', toks := tk }) :
    wpAny (model prog w) A (call (.builtin "max") [.ref l]) Q E s := by
  have hlt : l < s.heap.objs.size := by obtain ⟨_, e, _⟩ := hl; exact Heap.lt_size e
  refine call_max_walk (wpAny_pyIter_tuple hl ?_)
  refine ⟨s.heap.objs.size, _, _, _, _, _, _, rfl, Walks.tuple (A := A.in1) hh _ l (Nat.ne_of_lt hlt) (intItems xs), ⟨⟨_, Heap.get?_push_size _ rfl, rfl, rfl⟩, hl.push _⟩, fun b hb => ?_, by simpa [intItems] using hne, CmpOf.ints_gt (numAt xs) (fun _ _ => intItems_at), fun v h' tk hP hk => ?_⟩
  · show b < (s.heap.push _).objs.size
    rw [Heap.size_push]
    rcases List.mem_cons.mp hb with rfl | hb
    · exact Nat.lt_succ_self _
    · rcases List.mem_cons.mp hb with rfl | hb
      · exact Nat.lt_succ_of_lt hlt
      · cases hb
  · refine h v h' tk (by simpa [intItems] using hP) fun b o e => hk b o (fun hb => ?_) (Heap.get?_push_of_some _ e)
    exact absurd (Heap.lt_size e) ((List.mem_singleton.mp hb) ▸ Nat.lt_irrefl _)
theorem max_rawT {its : List Value} {ns : List Int} {Q : Value → Shared → Prop} (hh : A.handled = none) (hl : s.heap.IsTuple l its.toArray) (hi : IntsAre its ns) (hne : 0 < ns.length)
    (h : ∀ h' tk M t', (∀ b o, s.heap.get? b = some o → h'.get? b = some o) → M ∈ ns → (∀ a, a ∈ ns → a ≤ M) → Q (.int M t') { s with heap := h', toks := tk }) : wpAny (model prog w) A (call (.builtin "max") [.ref l]) Q E s := by
  obtain ⟨xs, e⟩ := hi.allInts.items
  have hn : numsOf (intItems xs).toList = ns := by rw [← e]; exact hi.numsOf
  rw [nums_intItems] at hn
  subst hn
  rw [e] at hl
  have hsz : 0 < xs.size := by simpa using hne
  refine max_intTuple hh hl hsz fun v h' tk hv hk => ?_
  obtain ⟨t, rfl⟩ := intItems_at hv
  obtain ⟨h1, h2⟩ := argBest_gt (numAt xs) (xs.size - 1)
  refine h h' tk _ t hk ?_ fun a ha => ?_
  · rw [numAt_eq]; exact PySem.getD_mem (by rw [List.length_map, Array.length_toList]; omega)
  · obtain ⟨j, hj, rfl⟩ := mem_getD ha
    rw [List.length_map, Array.length_toList] at hj
    rw [← numAt_eq]; exact h2 j (by omega)
end
def rMaxB (K : PySem.W.Frag) : List V → Hp → VK → Prop := fun vs H Q => ∃ (a : Addr) (ns : List Int) (k : Bool), vs = [V.ref a] ∧ SqB K k H a (ns.map V.int) ∧ 0 < ns.length ∧ ∀ m, m ∈ ns → (∀ y, y ∈ ns → y ≤ m) → Q (.int m) H
theorem cr_maxB {X : Cx} (hc : X.calm = true) : CallR X (.builtin "max") (rMaxB X.K) := by
  intro pins s σ H vs us Q I r h
  obtain ⟨a, ns, k, rfl, hs, hne, q⟩ := h
  rw [Vals.ref1 r]
  cases k with
  | true =>
    obtain ⟨its, rv, hl, _⟩ := I.list hs
    exact max_raw (I.ok.hd hc) hl.isList rv.ints hne fun h' tk m t' hk h1 h2 => ⟨.int _, H, I.kept hk, ⟨_, rfl⟩, q m h1 h2⟩
  | false =>
    obtain ⟨its, rv, hl, _⟩ := I.tuple hs
    exact max_rawT (I.ok.hd hc) (show s.heap.IsTuple a its.toArray from hl) rv.ints hne fun h' tk m t' hk h1 h2 => ⟨.int _, H, I.kept hk, ⟨_, rfl⟩, q m h1 h2⟩
def maxBD (x : D) : Option D := match seqOf x with
  | some ds => (match intsOf ds with | some (n :: ns) => some (.int (maxI (n :: ns))) | _ => none)
  | none => none
theorem sqB_P {X : Cx} {O : Addr → Prop} {H : Hp} {x : D} {v : V} {ds : List D} (r : RepP X.K O H x v) (h : seqOf x = some ds) : ∃ a0 k vs, v = .ref a0 ∧ SqB X.K k H a0 vs ∧ RepDs X.K O H ds vs := by
  cases x with
  | list xs =>
    cases h
    obtain ⟨a0, vs, rfl, h1, h2⟩ := r
    exact ⟨a0, true, vs, rfl, (.inl (.inl h1) : SqL X.K _ a0 vs), h2⟩
  | tuple xs =>
    cases h
    obtain ⟨a0, vs, rfl, h1, h2⟩ := r
    exact ⟨a0, false, vs, rfl, (sqP h1 : SqT X.K _ a0 vs), h2⟩
  | _ => cases h
theorem ca_maxB {X : Cx} : Ca X (rMaxB X.K) (fD1 maxBD) := ca_D1 fun O H x v y Q rv e k => by
  unfold maxBD at e
  split at e
  · rename_i ds hx
    split at e
    · rename_i n ns hn
      cases e
      obtain ⟨a0, kk, vs, rfl, h1, h2⟩ := sqB_P rv hx
      rw [intsOf_eq hn] at h2
      rw [repDs_ints h2] at h1
      refine ⟨a0, n :: ns, kk, rfl, h1, by simp, fun m hm hle => ?_⟩
      obtain ⟨g1, g2⟩ := maxI_ok (xs := n :: ns) (by simp)
      have e1 : m = maxI (n :: ns) := Int.le_antisymm (g2 m hm) (hle _ g1)
      rw [e1]
      exact k _ rfl
    · cases e
  · cases e
end Den
/-! Den28: data that can be shown, with a bound of the length of the text, put together item by item. -/
namespace Den
open PySem PySem.Spec PyProof.Rows L2
structure Shv (d r : Nat) (x : D) : Prop where
  s : x.showable = true
  h : x.hasDict = false
  dp : x.depth ≤ d
  l : x.shown.length ≤ r
theorem Shv.up {d r d2 r2 : Nat} {x : D} (h : Shv d r x) (h1 : d ≤ d2) (h2 : r ≤ r2) : Shv d2 r2 x := ⟨h.s, h.h, Nat.le_trans h.dp h1, Nat.le_trans h.l h2⟩
theorem shv_none {d : Nat} : Shv d 4 .none := ⟨by simp only [PyData.showable], by simp only [PyData.hasDict], by simp [PyData.depth], by decide⟩
theorem shv_bool {d : Nat} {b : Bool} : Shv d 5 (.bool b) := ⟨by simp only [PyData.showable], by simp only [PyData.hasDict], by simp [PyData.depth], by cases b <;> decide⟩
theorem shv_int {d k : Nat} {i : Int} (h : i.natAbs < 10 ^ k) (h0 : 0 < k) (hk : k ≤ 480) : Shv d (k + 1) (.int i) := by
  refine ⟨?_, by simp only [PyData.hasDict], by simp [PyData.depth], ?_⟩
  · simp only [PyData.showable]
    have h1 : i.natAbs < 2 ^ (4 * k) := by
      rw [Nat.pow_mul]
      exact Nat.lt_of_lt_of_le h (Nat.pow_le_pow_left (by decide) k)
    have : i.natAbs.log2 < 4 * k := by
      by_cases h0 : i.natAbs = 0
      · rw [h0]; simp; omega
      · exact (Nat.log2_lt h0).mpr h1
    exact decide_eq_true (by omega)
  · have e := int_text_length_le10 (a := i) (k := k) h0 h
    simp only [PyData.shown]
    rw [PySem.ofString_length]
    exact e
theorem shv_str {d : Nat} {x : Str} (h : (x.cps.toList.all fun c => decide (c < 16 ^ 8)) = true) : Shv d (10 * x.length + 2) (.str x) := by
  refine ⟨by simp only [PyData.showable], by simp only [PyData.hasDict], by simp [PyData.depth], ?_⟩
  simp only [PyData.shown]
  exact StrLaws.reprText_len x fun c hc => of_decide_eq_true (List.all_eq_true.mp h c hc)
theorem shv_all {d r : Nat} : ∀ {xs : List D}, (∀ x ∈ xs, Shv d r x) → PyData.showableAll xs = true ∧ PyData.hasDictAll xs = false ∧ PyData.depthAll xs ≤ d ∧ ((PyData.shownAll xs).map (·.length)).sum + 2 * xs.length ≤ xs.length * (r + 2)
  | [], _ => ⟨by simp only [PyData.showableAll], by simp only [PyData.hasDictAll], by simp [PyData.depthAll], by simp [PyData.shownAll]⟩
  | x :: xs, h => by
    obtain ⟨a1, a2, a3, a4⟩ := h x List.mem_cons_self
    obtain ⟨b1, b2, b3, b4⟩ := shv_all fun y hy => h y (List.mem_cons_of_mem _ hy)
    refine ⟨by simp only [PyData.showableAll]; rw [a1, b1]; rfl, by simp only [PyData.hasDictAll]; rw [a2, b2]; rfl, ?_, ?_⟩
    · simp only [PyData.depthAll]; exact Nat.max_le.mpr ⟨a3, b3⟩
    · simp only [PyData.shownAll, List.map_cons, List.sum_cons, List.length_cons]
      rw [Nat.add_mul, Nat.one_mul]; omega
theorem shv_list {d r : Nat} {xs : List D} (h : ∀ x ∈ xs, Shv d r x) : Shv (d + 1) (xs.length * (r + 2) + 3) (.list xs) := by
  obtain ⟨h1, h2, h3, h4⟩ := shv_all h
  have q := listText_len_le (PyData.shownAll xs)
  rw [shown_n] at q
  refine ⟨by simp only [PyData.showable]; exact h1, by simp only [PyData.hasDict]; exact h2, by simp only [PyData.depth]; omega, ?_⟩
  simp only [PyData.shown]; omega
theorem shv_tuple {d r : Nat} {xs : List D} (h : ∀ x ∈ xs, Shv d r x) : Shv (d + 1) (xs.length * (r + 2) + 3) (.tuple xs) := by
  obtain ⟨h1, h2, h3, h4⟩ := shv_all h
  have q := tupleText_len_le (PyData.shownAll xs)
  rw [shown_n] at q
  refine ⟨by simp only [PyData.showable]; exact h1, by simp only [PyData.hasDict]; exact h2, by simp only [PyData.depth]; omega, ?_⟩
  simp only [PyData.shown]; omega
theorem shv_two {d r : Nat} {x y : D} (h : Shv d r x) (h2 : Shv d r y) : Shv (d + 1) (2 * (r + 2) + 3) (.tuple [x, y]) := shv_tuple (xs := [x, y]) fun z hz => by
  rcases List.mem_cons.mp hz with rfl | hz
  · exact h
  · rw [List.mem_singleton] at hz; subst hz; exact h2
theorem repr_shv {d r : Nat} {x : D} (h : Shv d r x) (h2 : d ≤ 60) (h3 : r ≤ 1000000) : reprD x = some (.str x.shown) := by
  unfold reprD reprOk
  rw [h.s, h.h, decide_eq_true (Nat.le_trans h.dp h2), small_le (Nat.le_trans h.l h3)]
  rfl
/-- texts of two data: the tests == and != of them -/
theorem eq_texts {x y : D} {b : Bool} (h : b = decide (x.shown = y.shown)) : eqD (.str x.shown) (.str y.shown) = some (.d (.bool b)) := by rw [eq_s, h]
end Den
/-! Den29: comparisons of four. -/
namespace Den
open PySem PySem.Spec PyProof.Rows L2
def kLast (r : R2) (tb : TE) : V → TE := fun x σ H Q => tb σ H fun y H2 => r x y H2 Q
def kLink (r : R2) (tb : TE) (rest : V → TE) : V → TE := fun x σ H Q => tb σ H fun y H2 => r x y H2 fun z H3 => ∃ k, z = .bl k ∧ (if k = true then rest y σ H3 Q else Q (.bl false) H3)
def tChain3 (r r' r'' : R2) (ta tb tc td : TE) : TE := fun σ H Q => ta σ H fun x H1 => kLink r tb (kLink r' tc (kLast r'' td)) x σ H1 Q
section
variable {X : Cx} {a b c d : Expr} {ta tb tc td : TE} {pos : Pos}
theorem pe_chain3 {op op' op'' : CmpOp} {r r' r'' : R2} (ho : OpR X (compareOp op) r) (ho' : OpR X (compareOp op') r') (ho'' : OpR X (compareOp op'') r'') (ha : PE X a ta) (hb : PE X b tb) (hc : PE X c tc) (hd : PE X d td)
    (hm : lastMarks [op, op', op''] [b, c, d] = false := by with_unfolding_all rfl) : PE X (.Compare a [op, op', op''] [b, c, d] pos) (tChain3 r r' r'' ta tb tc td) := by
  refine ⟨fun pins s σ H Q I h => ?_⟩
  refine Compare_chain (thn (ha.run pins s σ H _ I h) fun v s1 ⟨x, H1, I1, r1, q1⟩ => chain_link (thn (hb.run pins s1 σ H1 _ I1 q1) fun u s2 ⟨y, H2, I2, r2, q2⟩ =>
    thn (ho pins s2 σ H2 x y v u _ I2 r1 r2 q2) fun e s3 ⟨z, H3, I3, r3, k, ez, q3⟩ => ?_)) hm
  subst ez
  cases r3
  refine wpAny_truthy_bool ?_
  cases k with
  | false => exact ite_ff ⟨.bl false, H3, I3, rfl, q3⟩
  | true =>
    refine ite_tt (chain_link (thn (hc.run pins s3 σ H3 _ I3 q3) fun w' s4 ⟨z', H4, I4, r4, q4⟩ => thn (ho' pins s4 σ H4 y z' u w' _ I4 r2 r4 q4) fun e2 s5 ⟨z2, H5, I5, r5, k2, ez2, q5⟩ => ?_))
    subst ez2
    cases r5
    refine wpAny_truthy_bool ?_
    cases k2 with
    | false => exact ite_ff ⟨.bl false, H5, I5, rfl, q5⟩
    | true =>
      exact ite_tt (chain_last (thn (hd.run pins s5 σ H5 _ I5 q5) fun w2 s6 ⟨z3, H6, I6, r6, q6⟩ => ho'' pins s6 σ H6 z' z3 w' w2 Q I6 r4 r6 q6))
theorem pt_chain3 {op op' op'' : CmpOp} {r r' r'' : R2} (ho : OpR X (compareOp op) r) (ho' : OpR X (compareOp op') r') (ho'' : OpR X (compareOp op'') r'') (ha : PE X a ta) (hb : PE X b tb) (hc : PE X c tc) (hd : PE X d td)
    (hm : lastMarks [op, op', op''] [b, c, d] = false := by with_unfolding_all rfl) : PT X (.Compare a [op, op', op''] [b, c, d] pos) (tTest (tChain3 r r' r'' ta tb tc td)) := by
  refine ⟨fun pins s σ H Q I h => ?_⟩
  refine isTrue_chain (thn (ha.run pins s σ H _ I h) fun v s1 ⟨x, H1, I1, r1, q1⟩ => test_link (thn (hb.run pins s1 σ H1 _ I1 q1) fun u s2 ⟨y, H2, I2, r2, q2⟩ =>
    thn (ho pins s2 σ H2 x y v u _ I2 r1 r2 q2) fun e s3 ⟨z, H3, I3, r3, k, ez, q3⟩ => ?_)) hm
  subst ez
  cases r3
  refine wpAny_truthy_bool ?_
  cases k with
  | false =>
    obtain ⟨k', e', q'⟩ := q3
    cases e'
    exact ite_ff ⟨H3, I3, q'⟩
  | true =>
    refine ite_tt (test_link (thn (hc.run pins s3 σ H3 _ I3 q3) fun w' s4 ⟨z', H4, I4, r4, q4⟩ => thn (ho' pins s4 σ H4 y z' u w' _ I4 r2 r4 q4) fun e2 s5 ⟨z2, H5, I5, r5, k2, ez2, q5⟩ => ?_))
    subst ez2
    cases r5
    refine wpAny_truthy_bool ?_
    cases k2 with
    | false =>
      obtain ⟨k', e', q'⟩ := q5
      cases e'
      exact ite_ff ⟨H5, I5, q'⟩
    | true =>
      refine ite_tt (test_last (thn (hd.run pins s5 σ H5 _ I5 q5) fun w2 s6 ⟨z3, H6, I6, r6, q6⟩ => thn (ho'' pins s6 σ H6 z' z3 w' w2 _ I6 r4 r6 q6) fun d' s7 ⟨z4, H7, I7, r7, k3, e3, q7⟩ => ?_))
      subst e3
      cases r7
      exact wpAny_truthy_bool ⟨H7, I7, q7⟩
end
def mChain3 (f g h : W → W → Mem → Rs W) (a b c d : EM W) : EM W := fun rho m => (a rho m).bindV fun x m1 => (b rho m1).bindV fun y m2 => (f x y m2).bindV fun r m3 =>
  match r with
  | .d (.bool true) => (c rho m3).bindV fun z m4 => (g y z m4).bindV fun r2 m5 => match r2 with
    | .d (.bool true) => (d rho m5).bindV fun u m6 => h z u m6
    | .d (.bool false) => .ok (.d (.bool false)) m5
    | _ => .no
  | .d (.bool false) => .ok (.d (.bool false)) m3
  | _ => .no
section
variable {X : Cx} {E : St → XK} {ea eb ec ed : Expr} {a b c d : EM W} {pos : Pos}
theorem tM_chain3 {r r' r'' : R2} {f g h : W → W → Mem → Rs W} (hf : Bi2 X r f) (hg : Bi2 X r' g) (hh : Bi2 X r'' h) {σ : L2.St} {H : Hp} {Q : VK} (q : tM X.K X.mg E (mChain3 f g h a b c d) σ H Q) : tChain3 r r' r'' (tM X.K X.mg E a) (tM X.K X.mg E b) (tM X.K X.mg E c) (tM X.K X.mg E d) σ H Q := by
  obtain ⟨Hd, al, rho, m, s, e, P⟩ := q
  refine ⟨Hd, al, rho, m, s, e, (Post.bindV P).imp fun w al1 p1 m1 H1 g1 s1 k v rv => ?_⟩
  obtain ⟨g1, s1', rv1, P1⟩ := k v rv
  refine ⟨Hd, al1, rho, m1, s1', e.go g1, (Post.bindV P1).imp fun w2 al2 p2 m2 H2 g2 s2 k2 v2 rw2 => ?_⟩
  obtain ⟨g2, s2', rv2, P2⟩ := k2 v2 rw2
  refine hf _ _ _ _ _ _ _ _ _ _ _ s2' (rv1.go g2) rv2 (Post.bindV P2) fun w' al' p m' H' v' q' rw' => ?_
  obtain ⟨g3, s3, rv3, P3⟩ := q' v' rw'
  generalize val w' = wr at rv3 P3
  split at P3
  · have e3 : v' = .bl true := rv3.2
    refine ⟨true, e3, ?_⟩
    refine ⟨Hd, al', rho, m', s3, (e.go (g1.trans g2)).go g3, (Post.bindV P3).imp fun w4 al4 p4 m4 H4 g4 s4 k4 v4 rw4 => ?_⟩
    obtain ⟨g4, s4', rv4, P4⟩ := k4 v4 rw4
    refine hg _ _ _ _ _ _ _ _ _ _ _ s4' (rv2.go (g3.trans g4)) rv4 (Post.bindV P4) fun w5 al5 p5 m5 H5 v5 q5 rw5 => ?_
    obtain ⟨g5, s5, rv5, P5⟩ := q5 v5 rw5
    generalize val w5 = wr at rv5 P5
    split at P5
    · have e5 : v5 = .bl true := rv5.2
      refine ⟨true, e5, ?_⟩
      refine ⟨Hd, al5, rho, m5, s5, ((e.go (g1.trans g2)).go (g3.trans g4)).go g5, (Post.bindV P5).imp fun w6 al6 p6 m6 H6 g6 s6 k6 v6 rw6 => ?_⟩
      obtain ⟨g6, s6', rv6, P6⟩ := k6 v6 rw6
      exact hh _ _ _ _ _ _ _ _ _ _ Q s6' (rv4.go (g5.trans g6)) rv6 P6 fun w' al' p m' H' v' q' => q' v'
    · have e5 : v5 = .bl false := rv5.2
      exact ⟨false, e5, (Post.ok s5 P5) _ ⟨rfl, rfl⟩⟩
    · exact P5.elim
  · have e3 : v' = .bl false := rv3.2
    exact ⟨false, e3, (Post.ok s3 P3) _ ⟨rfl, rfl⟩⟩
  · exact P3.elim
theorem den_chain3 {op op' op'' : CmpOp} {r r' r'' : R2} {f g h : W → W → Mem → Rs W} (ho : OpR X (compareOp op) r) (hf : Bi2 X r f) (ho' : OpR X (compareOp op') r') (hg : Bi2 X r' g) (ho'' : OpR X (compareOp op'') r'') (hh : Bi2 X r'' h) (ha : Den X E ea a) (hb : Den X E eb b) (hc : Den X E ec c) (hd : Den X E ed d)
    (hm : lastMarks [op, op', op''] [eb, ec, ed] = false := by with_unfolding_all rfl) : Den X E (.Compare ea [op, op', op''] [eb, ec, ed] pos) (mChain3 f g h a b c d) := PE.imp (pe_chain3 ho ho' ho'' ha hb hc hd hm) fun _ _ _ q => tM_chain3 hf hg hh q
theorem dt_chain3 {op op' op'' : CmpOp} {r r' r'' : R2} {f g h : W → W → Mem → Rs W} (ho : OpR X (compareOp op) r) (hf : Bi2 X r f) (ho' : OpR X (compareOp op') r') (hg : Bi2 X r' g) (ho'' : OpR X (compareOp op'') r'') (hh : Bi2 X r'' h) (ha : Den X E ea a) (hb : Den X E eb b) (hc : Den X E ec c) (hd : Den X E ed d)
    (hm : lastMarks [op, op', op''] [eb, ec, ed] = false := by with_unfolding_all rfl) : DenT X E (.Compare ea [op, op', op''] [eb, ec, ed] pos) (mBool (mChain3 f g h a b c d)) := PT.imp (pt_chain3 ho ho' ho'' ha hb hc hd hm) fun _ _ _ q => tT_bool (fun _ _ _ q => tM_chain3 hf hg hh q) q
end
section
variable {rho : Env} {m : Mem} {a b c d : EM W} {f g h : W → W → Mem → Rs W}
@[simp] theorem e_Chain3 : mChain3 f g h a b c d rho m = (a rho m).bindV fun x m1 => (b rho m1).bindV fun y m2 => (f x y m2).bindV fun r m3 =>
  match r with
  | .d (.bool true) => (c rho m3).bindV fun z m4 => (g y z m4).bindV fun r2 m5 => match r2 with
    | .d (.bool true) => (d rho m5).bindV fun u m6 => h z u m6
    | .d (.bool false) => .ok (.d (.bool false)) m5
    | _ => .no
  | .d (.bool false) => .ok (.d (.bool false)) m3
  | _ => .no := rfl
theorem chain3_run {w1 w2 w3 w4 : W} {p q r : Bool} (h1 : a rho m = .ok w1 m) (h2 : b rho m = .ok w2 m) (h3 : c rho m = .ok w3 m) (h4 : d rho m = .ok w4 m) (hf : f (val w1) (val w2) m = .ok (.d (.bool p)) m) (hg : g (val w2) (val w3) m = .ok (.d (.bool q)) m) (hh : h (val w3) (val w4) m = .ok (.d (.bool r)) m) : mChain3 f g h a b c d rho m = .ok (.d (.bool (p && (q && r)))) m := by
  rw [e_Chain3, h1, ev_bindV, h2, ev_bindV, hf, ev_bindV]
  cases p with
  | false => rfl
  | true =>
    show (c rho m).bindV (fun z m4 => (g (val w2) z m4).bindV fun r2 m5 => match r2 with
    | .d (.bool true) => (d rho m5).bindV fun u m6 => h z u m6
    | .d (.bool false) => Rs.ok (W.d (.bool false)) m5
    | _ => Rs.no) = _
    rw [h3, ev_bindV, hg, ev_bindV]
    cases q with
    | false => rfl
    | true =>
      show (d rho m).bindV (fun u m6 => h (val w3) u m6) = _
      rw [h4, ev_bindV, hh]; rfl
end
end Den
/-! Den30: dict(pairs) whose keys are tuples of ints and texts. -/
namespace Den
open PySem PySem.Spec PyProof.Rows L2
def mergeT (kvs more : List (List Key × V)) : List (List Key × V) := more.foldl (fun acc kv => putK acc kv.1 kv.2) kvs
section
variable {X : Cx}
/-- a pair of a tracked tuple, which is a key, and a value -/
def PairT (K : PySem.W.Frag) (H : Hp) (p : Addr) (kv : List Key × V) : Prop := ∃ t, SqT K H p [.ref t, kv.2] ∧ H t = some (.tup (kv.1.map kV))
theorem pairsT_of {pins : List (Addr × Obj)} {σ : L2.St} {H : Hp} {s : Shared} (I : Inv X pins σ H s) : ∀ {ps : List Addr} {kvs : List (List Key × V)}, Paired (PairT X.K H) ps kvs →
    ∃ xs : List (List Key × Addr × Value), KT H kvs xs ∧ xs.length = ps.length ∧ ∀ (j : Nat) (q : List Key × Addr × Value), xs[j]? = some q → ∃ b : Addr, ps[j]? = some b ∧ IsTup s.heap b #[.ref q.2.1, q.2.2]
  | _, _, .nil => ⟨[], .nil, rfl, fun j q e => by simp at e⟩
  | _, _, .cons (a := p) (b := kv) h t => by
    obtain ⟨xs, r, hl, hp⟩ := pairsT_of I t
    obtain ⟨tk, h1, h2⟩ := h
    obtain ⟨its, rv, ht, _⟩ := I.tuple h1
    obtain ⟨u, y, ei, ru, ry⟩ := vals2 rv
    subst ei
    cases ru
    refine ⟨(kv.1, tk, y) :: xs, .cons ⟨rfl, h2, ry⟩ r, by rw [List.length_cons, List.length_cons, hl], fun j q e => ?_⟩
    cases j with
    | zero =>
      have e' : (kv.1, tk, y) = q := Option.some.inj e
      subst e'
      exact ⟨p, rfl, ht⟩
    | succ j =>
      obtain ⟨b, e1, e2⟩ := hp j q (by simpa using e)
      exact ⟨b, by simpa using e1, e2⟩
theorem KT.all {H : Hp} : ∀ {more : List (List Key × V)} {ys : List (List Key × Addr × Value)} {kvs : List (List Key × V)} {xs : List (List Key × Addr × Value)}, KT H more ys → KT H kvs xs → KT H (mergeT kvs more) (storedAllH xs ys)
  | _, _, _, _, .nil, r => r
  | _, _, _, _, .cons (a := p) (b := q) h t, r => by
    obtain ⟨h1, h2, h3⟩ := h
    show KT H (mergeT (putK _ p.1 p.2) _) (storedAllH (storedH _ q.1 q.2.1 q.2.2) _)
    rw [← h1]
    exact KT.all t (KT.put r p.1 h2 h3)
theorem mergeT_length : ∀ (more kvs : List (List Key × V)), (mergeT kvs more).length ≤ kvs.length + more.length
  | [], kvs => Nat.le_refl _
  | p :: more, kvs => by
    have h1 := mergeT_length more (putK kvs p.1 p.2)
    have h2 : (putK kvs p.1 p.2).length ≤ kvs.length + 1 := by
      unfold putK
      split
      · rw [List.length_map]; omega
      · rw [List.length_append]; simp
    show (mergeT (putK kvs p.1 p.2) more).length ≤ _
    rw [List.length_cons]; omega
theorem call_dictPT (hcalm : X.calm = true) (hu : X.A.units + 65 < cLine) : CallR X (.type "dict") (fun xs H Q => ∃ (a : Addr) (ps : List Addr) (kvs : List (List Key × V)), xs = [.ref a] ∧ SqL X.K H a (ps.map V.ref) ∧ Paired (PairT X.K H) ps kvs ∧
    ∀ p, H p = none → Q (.ref p) (upd H p (.dT (mergeT [] kvs)))) := by
  intro pins s σ H xs us Q I r q
  obtain ⟨a, ps, kvs, ex, hq, hp, q⟩ := q
  subst ex
  obtain ⟨u, eu, rx⟩ := vals1 r
  subst eu
  cases rx
  obtain ⟨its, rv, pl, hz⟩ := I.list hq
  have ei := refs_at rv
  subst ei
  rw [List.length_map] at hz
  obtain ⟨ts, rel, hl, hpr⟩ := pairsT_of I hp
  obtain ⟨o, n, ho, hc, hd, hdat⟩ := pl
  have hm : (s.heap.objs.size == sysModules) = false := beq_eq_false_iff_ne.mpr (Nat.ne_of_gt I.big)
  have keyAll : ∀ x ∈ ts, H x.2.1 = some (.tup (x.1.map kV)) := by
    have : ∀ {l : List (List Key × V)} {m : List (List Key × Addr × Value)}, KT H l m → ∀ x ∈ m, H x.2.1 = some (.tup (x.1.map kV)) := by
      intro l m q
      induction q with
      | nil => intro x hx; exact nomatch hx
      | @cons p q ps qs hq t ih =>
        intro x hx
        rcases List.mem_cons.mp hx with e | hx
        · subst e; rw [← hq.1]; exact hq.2.1
        · exact ih x hx
    exact this rel
  have hkt : ∀ x ∈ ts, (tupleKind (mixKind X.prog X.w)).is s.heap x.1 x.2.1 := fun x hx => key_of I.hok (keyAll x hx)
  have P := PairArg.list (prog := X.prog) (w := X.w) a (ps.map Value.ref).toArray (fun j => ps.getD j 0) (ts.map fun q => (Value.ref q.2.1, q.2.2))
  have hitems : PairItems s.heap (ps.map Value.ref).toArray (fun j => ps.getD j 0) (ts.map fun q => (Value.ref q.2.1, q.2.2)) := by
    refine ⟨by simp [hl], fun j k v e => ?_⟩
    rw [List.getElem?_map, Option.map_eq_some_iff] at e
    obtain ⟨q, e1, e2⟩ := e
    cases e2
    obtain ⟨b, e3, e4⟩ := hpr j q e1
    have e5 : ps.getD j 0 = b := by rw [List.getD_eq_getElem?_getD, e3]; rfl
    refine ⟨by simp [e3, e5], .inl ?_⟩
    show s.heap.IsTuple (ps.getD j 0) _
    rw [e5]
    obtain ⟨o, z1, z2, n, z3⟩ := e4
    exact ⟨o, z1, z2, n, z3⟩
  refine call_dict_pairsH (knd := tupleKind (mixKind X.prog X.w)) (ps := ts) (A := X.A) P (I.ok.hd hcalm) (tupleKind_room_in1 (A := X.A.in1) (by show X.A.units + 1 + 1 < cLine; omega)) ⟨⟨o, n, ho, hc, hd, hdat⟩, hitems⟩ ⟨by rw [List.length_map], fun i key v e => ?_⟩ (fun h' hk x hx => ?_) (by rw [List.length_map, hl]; exact hz) fun h' tk hd' hk => ?_
  · rw [show PairRel (ts.map fun q => (Value.ref q.2.1, q.2.2)) i key v = ((ts.map fun q => (Value.ref q.2.1, q.2.2))[i]? = some (key, v)) from rfl, List.getElem?_map, Option.map_eq_some_iff] at e
    obtain ⟨q, e1, e2⟩ := e
    cases e2
    exact ⟨q.1, q.2.1, e1, rfl⟩
  · obtain ⟨o, its, n, z1, z2, z3, z4⟩ := hkt x hx
    exact ⟨o, its, n, hk _ _ (Nat.ne_of_lt (Heap.lt_size z1)) (by simp) z1, z2, z3, z4⟩
  · have hlen : (mergeT [] kvs).length ≤ sizeLine := by
      refine Nat.le_trans (mergeT_length kvs []) ?_
      rw [List.length_nil, Nat.zero_add, Paired.length rel, hl]
      exact hz
    obtain ⟨o', es, ep, w1, w2, w3, w4, w5, w6⟩ := hd'
    have rel' : KT (upd H s.heap.objs.size (.dT (mergeT [] kvs))) (mergeT [] kvs) (storedAllH [] ts) := KT.keeps (KT.all rel .nil) fun b ys e => by
      rw [upd_ne (fun z => by rw [z, I.hok.fresh (Nat.le_refl _)] at e; cases e)]; exact e
    exact ⟨.ref s.heap.objs.size, upd H s.heap.objs.size (.dT (mergeT [] kvs)), I.laid (t' := tk) (fun b u e => hk b u (by simp) e) (Nat.le_refl _) (show ObjOk X.prog X.w _ _ _ (.dT (mergeT [] kvs)) from ⟨hlen, hm, storedAllH [] ts, rel', o', es, ep, w1, w2, w3, w4, w6⟩), rfl, q _ (I.hok.fresh (Nat.le_refl _))⟩
end
def pairsT : List D → Option (List (List Key × D))
  | [] => some []
  | .tuple [.tuple ks, b] :: ds => if ModT then none else (match keysK ks, pairsT ds with | some k, some r => some ((k, b) :: r) | _, _ => none)
  | _ => none
def mergeDT (acc : List (D × D)) (kds : List (List Key × D)) : List (D × D) := kds.foldl (fun acc kd => putDt acc (.inr kd.1) (.tuple (kd.1.map keyD)) kd.2) acc
def fDictP2 : List W → Mem → Rs W
  | [w], m => (match peek m w with
    | some (.list ds) => (match pairsK ds with
      | some kds => .ok (.n (.dict (mergeD [] kds))) m
      | none => (match pairsT ds with | some kds => .ok (.n (.dict (mergeDT [] kds))) m | none => .no))
    | _ => .no)
  | _, _ => .no
section
variable {K : PySem.W.Frag} {O : Addr → Prop} {H : Hp}
theorem pairs_repT : ∀ {ds : List D} {vs : List V} {kds : List (List Key × D)}, RepDs K O H ds vs → pairsT ds = some kds →
    ∃ (ps : List Addr) (kvs : List (List Key × V)), vs = ps.map V.ref ∧ Paired (PairT K H) ps kvs ∧ Paired (fun (kd : List Key × D) (kv : List Key × V) => kd.1 = kv.1 ∧ RepD K O H kd.2 kv.2) kds kvs
  | [], _, _, h, e => by cases e; rw [show _ = [] from h]; exact ⟨[], [], rfl, .nil, .nil⟩
  | x :: ds, _, kds, ⟨v, r, h1, h2, h3⟩, e => by
    unfold pairsT at e
    split at e
    · cases ‹x :: ds = []›
    · rename_i a b ds' ex
      cases ex
      have hT : ModT = false := by
        cases q : ModT with
        | false => rfl
        | true => rw [q] at e; cases e
      rw [hT] at e
      change (match keysK a, pairsT ds with | some k, some r => some ((k, b) :: r) | _, _ => none) = some kds at e
      split at e
      · rename_i k r' hk hr
        cases e
        obtain ⟨t, us, rfl, q1, u1, _, rfl, w1, u2, _, rfl, w2, q2⟩ := h2
        rw [show _ = [] from q2] at q1
        obtain ⟨t1, us1, rfl, z1, z2⟩ := w1
        have z1 := tupA_plain hT z1
        rw [keysK_inv hk] at z2
        rw [keys_kV z2] at z1
        obtain ⟨ps, kvs, e1, e2, e3⟩ := pairs_repT h3 hr
        exact ⟨t :: ps, (k, u2) :: kvs, by rw [h1, e1]; rfl, .cons ⟨t1, sqP q1, z1⟩ e2, .cons ⟨rfl, w2⟩ e3⟩
      · cases e
    · cases e
theorem merge_repT : ∀ {kds : List (List Key × D)} {kvs : List (List Key × V)} {acc : List (D × D)} {kz : List (List Key × V)}, Paired (fun (kd : List Key × D) (kv : List Key × V) => kd.1 = kv.1 ∧ RepD K O H kd.2 kv.2) kds kvs → RepT K O H acc kz → RepT K O H (mergeDT acc kds) (mergeT kz kvs)
  | _, _, _, _, .nil, h => h
  | (k, x) :: kds, (k', v) :: kvs, acc, kz, .cons ⟨e, hx⟩ t, h => by
    cases (show k = k' from e)
    exact merge_repT (kds := kds) (kvs := kvs) t (h.put hx)
end
def rDict1 (K : PySem.W.Frag) : List V → Hp → VK → Prop := fun xs H Q => ∃ (a : Addr) (ps : List Addr) (kvs : List (Key × V)), xs = [.ref a] ∧ SqL K H a (ps.map V.ref) ∧ Paired (fun p kv => SqT K H p [kV kv.1, kv.2]) ps kvs ∧
    ∀ p, H p = none → Q (.ref p) (upd H p (.dK (mergeK [] kvs)))
def rDict2 (K : PySem.W.Frag) : List V → Hp → VK → Prop := fun xs H Q => ∃ (a : Addr) (ps : List Addr) (kvs : List (List Key × V)), xs = [.ref a] ∧ SqL K H a (ps.map V.ref) ∧ Paired (PairT K H) ps kvs ∧
    ∀ p, H p = none → Q (.ref p) (upd H p (.dT (mergeT [] kvs)))
theorem cr_dictP2 {X : Cx} (hcalm : X.calm = true) (hu : X.A.units + 65 < cLine) : CallR X (.type "dict") (fun xs H Q => rDict1 X.K xs H Q ∨ rDict2 X.K xs H Q) := by
  intro pins s σ H xs us Q I r q
  rcases q with q | q
  · exact call_dictP hcalm pins s σ H xs us Q I r q
  · exact call_dictPT hcalm hu pins s σ H xs us Q I r q
theorem ca_dictP2 {X : Cx} : Ca X (fun xs H Q => rDict1 X.K xs H Q ∨ rDict2 X.K xs H Q) fDictP2 := by
  intro E Hd al m H ws vs R Q s rv P k
  match ws, rv with
  | [w], ⟨v, _, h1, h2, h3⟩ =>
    subst h1
    rw [show _ = [] from h3]
    unfold fDictP2 at P
    dsimp only at P
    split at P
    · rename_i ds hx
      split at P
      · rename_i kds hk
        obtain ⟨a, us, rfl, q1, q2⟩ := peek_ok s h2 hx
        obtain ⟨ps, kvs, e1, e2, e3⟩ := pairs_rep q2 hk
        subst e1
        refine .inl ⟨a, ps, kvs, rfl, .inl (.inl q1), e2, fun p hp => k _ _ _ _ _ _ (P.made s hp) ⟨p, rfl, rfl, .inl ⟨_, upd_same, RepK.ext (go_new hp (.inr rfl)).ext _ _ (merge_rep e3 (show RepK X.K _ H [] [] from rfl))⟩⟩⟩
      · split at P
        · rename_i kds hk
          obtain ⟨a, us, rfl, q1, q2⟩ := peek_ok s h2 hx
          obtain ⟨ps, kvs, e1, e2, e3⟩ := pairs_repT q2 hk
          subst e1
          refine .inr ⟨a, ps, kvs, rfl, .inl (.inl q1), e2, fun p hp => k _ _ _ _ _ _ (P.made s hp) ⟨p, rfl, rfl, .inr ⟨_, upd_same, RepT.ext (go_new hp (.inr rfl)).ext _ _ (merge_repT e3 (show RepT X.K _ H [] [] from rfl))⟩⟩⟩
        · exact P.elim
    · exact P.elim
  | [], _ => exact P.elim
  | _ :: _ :: _, _ => exact P.elim
end Den
/-! Den31: list.remove of ints, o[i] op= e, max(l, default=d) -/
namespace Den
open PySem PySem.Spec PyProof.Rows L2
/-! ### l.remove(k), a list of ints with k in it -/
def rRemI : V → List V → Hp → VK → Prop := fun x xs H Q => ∃ (l : Addr) (ns : List Int) (k : Int), x = .ref l ∧ xs = [.int k] ∧ H l = some (.lst (ns.map V.int)) ∧ k ∈ ns ∧ Q .non (upd H l (.lst ((ns.erase k).map V.int)))
theorem mt_removeI {X : Cx} : MtR X "list.remove" rRemI := by
  intro pins s σ H x xs v us Q I rx rxs h
  obtain ⟨l, ns, k, rfl, rfl, hH, hk, q⟩ := h
  cases rx
  obtain ⟨u, rfl, ru⟩ := rxs.one
  obtain ⟨t, rfl⟩ := (show ∃ t, u = Value.int k t from ru)
  obtain ⟨z, its, n, r, hl, e0⟩ := I.lstM hH
  have hi : IntsAre its ns := intsAre_of r
  have heq := eq_isInt k t hi
  have hnl : ns.length = its.length := by rw [← hl, List.length_map]
  have hsz : its.toArray.size ≤ sizeLine := by rw [List.size_toArray, ← hl]; exact z
  obtain ⟨j, j1, j2, j3, j4⟩ := first_at hk
  have hj : j < its.length := by omega
  refine call_meets PySem.F.slot_list_remove ⟨_, e0, rfl⟩ PySem.F.entry_list_remove (PySem.F.args_list_remove_2 _ _)
    (MeetsSeq.list_remove l its.toArray n (.int k t) (isInt k) (fun y hy => heq y (by simpa using hy)) j (by rw [List.size_toArray]; exact hj) ?hit (fun i hi2 hlt => ?hno) hsz) ⟨e0, ?_⟩
  case hit =>
    show isInt k its[j] = true
    exact (L2.isInt_at k hi j hj).mpr j2
  case hno =>
    have hi3 : i < its.length := by rw [List.size_toArray] at hi2; exact hi2
    show isInt k its[i] = false
    rw [Bool.eq_false_iff]
    intro w
    exact j3 i hlt ((L2.isInt_at k hi i hi3).mp w)
  have r2 : Vals ((ns.erase k).map V.int) (its.eraseIdx j) := by
    have w := r.eraseIdx j
    rw [map_eraseIdx', j4] at w
    exact w
  refine ⟨.non, _, I.lset (its' := its.eraseIdx j) hH e0 ?_ r2 ?_, rfl, q⟩
  · show its.toArray.eraseIdxIfInBounds j = (its.eraseIdx j).toArray
    rw [List.eraseIdxIfInBounds_toArray]
  · rw [List.length_map]
    have := List.length_erase_le (a := k) (l := ns)
    rw [List.length_map] at z
    omega
def fRemove : W → List W → Mem → Rs W
  | .r n, [.d (.int k)], m => (match m[n]? with
    | some (some (.list ds)) => (match intsOf ds with | some is => if k ∈ is then .ok (.d .none) (m.set n (some (.list ((is.erase k).map .int)))) else .no | none => .no)
    | _ => .no)
  | _, _, _ => .no
theorem cm_remove {X : Cx} : Cm X rRemI fRemove := by
  intro E Hd al m H w v ws vs R Q s r1 r2 P k
  unfold fRemove at P
  split at P
  · rename_i n j
    obtain ⟨v1, e0, rv⟩ := repWs1 r2
    subst e0
    split at P
    · rename_i ds hd
      split at P
      · rename_i is hx
        split at P
        · rename_i hk
          obtain ⟨a, ha, rfl⟩ := r1.2
          obtain ⟨us, h2, h3⟩ := s.ob n a _ ha hd
          rw [intsOf_eq hx] at h3
          obtain rfl := repDs_ints h3
          obtain ⟨g2, s2⟩ := put_list s ha hd (ints_repDs (is.erase j))
          have hv : v1 = V.int j := rv.2
          subst hv
          exact ⟨a, is, j, rfl, rfl, h2, hk, k _ _ _ _ _ _ (P al none _ g2 s2) ⟨rfl, rfl⟩⟩
        · exact P.elim
      · exact P.elim
    · exact P.elim
  · exact P.elim

/-! ### o[i] op= e, a list of ints -/
theorem get_list {X : Cx} : PGet X (rIxL X.K) := by
  intro pins s σ H x y v u Q I rx ry h
  obtain ⟨p, xs, i, z, rfl, rfl, hq, he, q⟩ := h
  cases rx
  obtain ⟨t, rfl⟩ := ry
  obtain ⟨its, r, pl, hz⟩ := I.list hq
  obtain ⟨j, h1, h2, h3, h4, h5⟩ := atI_get he
  obtain ⟨w, ew, rw'⟩ := r.get h2
  have hl := r.length
  have hn := line63
  have fin : EP X pins σ Q w s := ⟨z, H, I, rw', q⟩
  by_cases h0 : 0 ≤ i
  · have hj : i.toNat = j := by
      rw [seqIndex_of h0 h5] at h1
      exact Option.some.inj h1
    exact wpAny_getItem_list pl.isList h0 (by omega) (by rw [hj]; simpa using ew) fin
  · have hj : (i + (its.toArray.size : Int)).toNat = j := by
      rw [seqIndex_neg (by omega) h4] at h1
      rw [List.size_toArray, ← hl]
      exact Option.some.inj h1
    exact wpAny_getItem_list_neg pl.isList (by omega) (by rw [List.size_toArray] <;> omega) (by omega) (by rw [hj]; simpa using ew) fin
def sAugX (f : Int → Int → Int) (a b c : EM W) : SM := fun rho m => (a rho m).thenV rho fun w m1 => match w with
  | .r n => (b rho m1).thenV rho fun w2 m2 => match w2 with
    | .d (.int k) => (match m2[n]? with
      | some (some (.list ds)) => (match atI ds k with
        | some (.int x) => (c rho m2).thenV rho fun w3 m3 => (match w3 with
          | .d (.int y) => (match m3[n]? with
            | some (some (.list es)) => (match ixN es.length k with | some j => .nx rho (m3.set n (some (.list (es.set j (.int (f x y)))))) | none => .no)
            | _ => .no)
          | _ => .no)
        | _ => .no)
      | _ => .no)
    | _ => .no
  | _ => .no
section
variable {X : Cx} {E : St → XK} {ea eb ec : Expr} {a b c : EM W} {p pos : Pos}
theorem ds_augX {op : Operator} {f : Int → Int → Int} (ho : PIp X op (ipI f)) (ha : Den X E ea a) (hb : Den X E eb b) (hc : Den X E ec c)
    (hs : ∀ ov iv new, augStore eb ov iv new = (do holding [new, ov, iv] (setItem ov iv new); release [new, ov, iv] []; pure .next) := by intros; rfl) : DenS X E (.AugAssign (.Subscript ea eb p) op ec pos) (sAugX f a b c) := PS.imp (ps_augS ha hb get_list hc ho set_list hs) fun Dn σ H q => by
  obtain ⟨Hd, al, rho, m, s, e, P⟩ := q
  unfold sAugX at P
  refine ⟨Hd, al, rho, m, s, e, (PostS.ofV e P).imp fun w al1 p1 m1 H1 g1 s1 k1 v1 r1 => ?_⟩
  obtain ⟨g1', s1', rv1, P1⟩ := k1 v1 r1
  split at P1
  · rename_i n hw1
    rw [hw1] at rv1
    obtain ⟨a1, ha1, rfl⟩ := rv1.2
    refine ⟨Hd, al1, rho, m1, s1', e.go g1', (PostS.ofV (e.go g1') P1).imp fun w2 al2 p2 m2 H2 g2 s2 k2 v2 r2 => ?_⟩
    obtain ⟨g2', s2', rv2, P2⟩ := k2 v2 r2
    split at P2
    · rename_i k hw2
      rw [hw2] at rv2
      have e2 : v2 = .int k := rv2.2
      subst e2
      split at P2
      · rename_i ds hd
        split at P2
        · rename_i x hx
          have ha2 : al2[n]? = some a1 := g2'.pre _ _ ha1
          obtain ⟨us, h2, h3⟩ := s2'.ob n a1 _ ha2 hd
          obtain ⟨u, hu, ru⟩ := atI_rep h3 hx
          have eu : u = .int x := ru
          subst eu
          refine ⟨a1, us, k, .int x, rfl, rfl, .inl (.inl h2), hu, ?_⟩
          refine ⟨Hd, al2, rho, m2, s2', (e.go g1').go g2', (PostS.ofV ((e.go g1').go g2') P2).imp fun w3 al3 p3 m3 H3 g3 s3 k3 v3 r3 => ?_⟩
          obtain ⟨g3', s3', rv3, P3⟩ := k3 v3 r3
          split at P3
          · rename_i y hw3
            rw [hw3] at rv3
            have e3 : v3 = .int y := rv3.2
            subst e3
            refine ⟨x, y, rfl, rfl, ?_⟩
            split at P3
            · rename_i es hd3
              split at P3
              · rename_i j hj
                have ha3 : al3[n]? = some a1 := g3'.pre _ _ ha2
                obtain ⟨us3, h23, h33⟩ := s3'.ob n a1 _ ha3 hd3
                obtain ⟨g4, s4⟩ := put_list s3' ha3 hd3 (h33.put j (show RepD X.K _ _ (.int (f x y)) (.int (f x y)) from rfl))
                exact ⟨a1, us3, k, j, rfl, rfl, h23, by rw [h33.len]; exact hj, P3 al3 _ _ g4 s4 ((((e.go g1').go g2').go g3').go g4)⟩
              · exact P3.elim
            · exact P3.elim
          · exact P3.elim
        · exact P2.elim
      · exact P2.elim
    · exact P2.elim
  · exact P1.elim
end
end Den
/-! Den32: max(l, default=d), a list of ints -/
namespace Den
open PySem PySem.Spec PyProof.Rows L2
abbrev dfltK (d : Value) : List (Str × Value) := [(Str.ofString "default", d)]
theorem args_maxD (a d : Value) : argsOk "max" ⟨[a], dfltK d⟩ := by unfold argsOk; kernel_rfl
theorem max_name : (toString "max" ++ toString ".loop" : String) = "max.loop" := by decide
section
variable {prog : Program} {w : World} {A : Around} {R : PySem.Result → Shared → Prop} {I : Addr} {fp wr : List Addr} {n : Nat} {P : Nat → Value → Prop} {St : Nat → Heap → Prop}
/-- the loop of max with a default: something is found already -/
theorem loopD (W : Walks prog w A.in1 I fp wr n P St) (bt : Nat → Nat → Bool) (hcmp : CmpOf prog w A.in1 .Gt P bt) (S : Addr) (hSf : S ∉ fp) (d : Value) :
    ∀ (k j : Nat) (s : Shared) (vb : Value) (c : Nat), n - (j + 1) = k → j + 1 ≤ n → St (j + 1) s.heap → P (argBest bt j) vb →
    s.heap.get? S = some { cls := .type "list", dict := none, data := .seq #[vb, vb] c, slots := #[] } →
    (∀ v h' tk, P (argBest bt (n - 1)) v → (∀ b o, b ∉ wr → b ≠ S → s.heap.get? b = some o → h'.get? b = some o) → R (.ok (.ret v)) { s with heap := h', toks := tk }) →
    codeAny (model prog w) A (.builtin "max.loop" ⟨[.ref I, .none, .ref S], dfltK d⟩) R s := by
  have hSw : S ∉ wr := fun h => hSf (W.sub _ h)
  intro k
  induction k with
  | zero =>
    intro j s vb c hk hj hst hPb hS hR
    have hin : j + 1 = n := by omega
    refine codeAny_builtin F.entry_max_loop ?_
    rw [Around.under_plainId F.plain_max_loop _]
    show wpAny _ A.in1 (seqItems? (.ref S) >>= _) _ _ s
    refine wpAny_bind (wpAny_seqItems hS rfl ?_)
    show wpAny _ A.in1 (tryCatch (pyNext (.ref I)) _ >>= _) _ _ s
    refine wpAny_bind (wpAny_tryCatch (W.done s _ _ (hin ▸ hst) fun h' tk hk' => ?_))
    have hS' := hk' S _ hSw hS
    show wpAny _ A.in1 (updateSeq S (fun _ => #[]) >>= _) _ _ _
    refine wpAny_bind ?_
    refine wpAny_updateSeq hS' rfl (wpAny_bind (wpAny_letGo (wpAny_pure ?_)))
    refine hR vb _ tk (by rw [← hin]; exact hPb) fun b o hbw hbS e => (Heap.get?_update_other _ _ (Ne.symm hbS)).trans (hk' b o hbw e)
  | succ k ih =>
    intro j s vb c hk hj hst hPb hS hR
    have hlt : j + 1 < n := by omega
    refine codeAny_builtin F.entry_max_loop ?_
    rw [Around.under_plainId F.plain_max_loop _]
    show wpAny _ A.in1 (seqItems? (.ref S) >>= _) _ _ s
    refine wpAny_bind (wpAny_seqItems hS rfl ?_)
    show wpAny _ A.in1 (tryCatch (pyNext (.ref I)) _ >>= _) _ _ s
    refine wpAny_bind (wpAny_tryCatch (W.item (j + 1) s _ _ hlt hst fun v h' tk hP hst' hk' => ?_))
    have hS' := hk' S _ hSw hS
    show wpAny _ A.in1 (tryCatch (holding [v, v] (richCompare .Gt v vb >>= _)) _ >>= _) _ _ _
    refine wpAny_bind (wpAny_tryCatch (wpAny_holding (wpAny_bind (hcmp (j + 1) (argBest bt j) v vb _ _ _ hP hPb ?_))))
    refine wpAny_bind (wpAny_holding (wpAny_truthy_bool ?_))
    refine wpAny_bind (wpAny_letGo (wpAny_pure ?_))
    cases hb : bt (j + 1) (argBest bt j) with
    | true =>
      simp only [if_true]
      refine wpAny_bind ?_
      refine wpAny_updateSeq hS' rfl (wpAny_bind (wpAny_letGo ?_))
      rw [max_name]
      refine wpAny_pure ⟨plainId_quiet F.plain_max_loop _, ih (j + 1) _ v _ (by omega) hlt (W.frame _ _ _ hst' fun b hbf o e => ?_) (by simp only [argBest, hb, if_true]; exact hP) (Heap.get?_update_self _ hS' rfl)
        fun v' h'' tk'' hP' hk'' => ?_⟩
      · exact (Heap.get?_update_other _ _ (fun h : S = b => hSf (by rw [h]; exact hbf))).trans e
      · exact hR v' h'' tk'' hP' fun b o hbw hbS e => hk'' b o hbw hbS ((Heap.get?_update_other _ _ (Ne.symm hbS)).trans (hk' b o hbw e))
    | false =>
      simp only [Bool.false_eq_true, if_false]
      refine wpAny_bind (wpAny_letGo ?_)
      rw [max_name]
      refine wpAny_pure ⟨plainId_quiet F.plain_max_loop _, ih (j + 1) _ vb c (by omega) hlt hst' (by simp only [argBest, hb, Bool.false_eq_true, if_false]; exact hPb) hS' fun v' h'' tk'' hP' hk'' => ?_⟩
      exact hR v' h'' tk'' hP' fun b o hbw hbS e => hk'' b o hbw hbS (hk' b o hbw e)
/-- its first turn: an item, or none -/
theorem loopD_first (W : Walks prog w A.in1 I fp wr n P St) (bt : Nat → Nat → Bool) (hcmp : CmpOf prog w A.in1 .Gt P bt) (S : Addr) (hSf : S ∉ fp) (d : Value) {s : Shared} {c : Nat} (hst : St 0 s.heap)
    (hS : s.heap.get? S = some { cls := .type "list", dict := none, data := .seq #[] c, slots := #[] })
    (h0 : n = 0 → ∀ h' tk, (∀ b o, b ∉ wr → b ≠ S → s.heap.get? b = some o → h'.get? b = some o) → R (.ok (.ret d)) { s with heap := h', toks := tk })
    (hR : 0 < n → ∀ v h' tk, P (argBest bt (n - 1)) v → (∀ b o, b ∉ wr → b ≠ S → s.heap.get? b = some o → h'.get? b = some o) → R (.ok (.ret v)) { s with heap := h', toks := tk }) :
    codeAny (model prog w) A (.builtin "max.loop" ⟨[.ref I, .none, .ref S], dfltK d⟩) R s := by
  have hSw : S ∉ wr := fun h => hSf (W.sub _ h)
  refine codeAny_builtin F.entry_max_loop ?_
  rw [Around.under_plainId F.plain_max_loop _]
  show wpAny _ A.in1 (seqItems? (.ref S) >>= _) _ _ s
  refine wpAny_bind (wpAny_seqItems hS rfl ?_)
  show wpAny _ A.in1 (tryCatch (pyNext (.ref I)) _ >>= _) _ _ s
  by_cases hn : n = 0
  · refine wpAny_bind (wpAny_tryCatch (W.done s _ _ (hn ▸ hst) fun h' tk hk' => ?_))
    show wpAny _ A.in1 (rule _ >>= _) _ _ _
    refine wpAny_bind (wpAny_rule (wpAny_pure ?_))
    exact h0 hn h' tk fun b o hbw _ e => hk' b o hbw e
  · have hn : 0 < n := by omega
    refine wpAny_bind (wpAny_tryCatch (W.item 0 s _ _ hn hst fun v h' tk hP hst' hk' => ?_))
    have hS' := hk' S _ hSw hS
    show wpAny _ A.in1 (updateSeq S (fun _ => #[v, v]) >>= _) _ _ _
    refine wpAny_bind ?_
    refine wpAny_updateSeq hS' rfl ?_
    rw [max_name]
    refine wpAny_pure ⟨plainId_quiet F.plain_max_loop _, loopD W bt hcmp S hSf d _ 0 _ v _ rfl hn (W.frame _ _ _ hst' fun b hbf o e => ?_) hP (Heap.get?_update_self _ hS' rfl) fun v' h'' tk'' hP' hk'' => ?_⟩
    · exact (Heap.get?_update_other _ _ (fun h : S = b => hSf (by rw [h]; exact hbf))).trans e
    · exact hR hn v' h'' tk'' hP' fun b o hbw hbS e => hk'' b o hbw hbS ((Heap.get?_update_other _ _ (Ne.symm hbS)).trans (hk' b o hbw e))
end
section
variable {prog : Program} {w : World} {A : Around} {E : Value → Shared → Prop} {s : Shared}
theorem call_tree_kw {id : String} {b : Builtin} {args : List Value} {kw : List (Str × Value)} {Q : Value → Shared → Prop} (hk : builtinKind id = none) (hp : plainId id = true) (hb : entryFor table id = some b) (ha : argsOk id ⟨args, kw⟩)
    (hc : wpAny (model prog w) A.in1 (b ⟨args, kw⟩) (fun fin s' => match fin with
      | .done f => (match (Except.ok f : PySem.Result) with | .ok (.ret v) => Q v s' | .ok _ => False | .error e => E e s')
      | .again c' => c'.quiet = true ∧ codeAny (model prog w) A c' (fun r s' => match r with | .ok (.ret v) => Q v s' | .ok _ => False | .error e => E e s') s') E s) :
    wpAny (model prog w) A (call (.builtin id) args kw) Q E s := by
  refine wpAny_call (codeAny_call_builtin hp hb ?_)
  simp only [checkBuiltinCall, hk]
  cases hsig : Manifest.signature? id with
  | none => exact wpAny_pure hc
  | some sig =>
    have ha' : Bind.checkArgs id sig ⟨args, kw⟩ = pure () := by simpa only [argsOk, hsig] using ha
    simp only [ha']
    exact wpAny_pure hc
theorem call_maxD {x d : Value} {Q : Value → Shared → Prop}
    (h : wpAny (model prog w) A.in1 (pyIter x) (fun it s₂ => ∃ I fp wr n P St bt, it = .ref I ∧ Walks prog w A.in1 I fp wr n P St ∧ St 0 s₂.heap ∧ (∀ b ∈ fp, b < s₂.heap.objs.size) ∧ CmpOf prog w A.in1 .Gt P bt ∧
      (n = 0 → ∀ h' tk, (∀ b o, b ∉ wr → s₂.heap.get? b = some o → h'.get? b = some o) → Q d { s₂ with heap := h', toks := tk }) ∧
      (0 < n → ∀ v h' tk, P (argBest bt (n - 1)) v → (∀ b o, b ∉ wr → s₂.heap.get? b = some o → h'.get? b = some o) → Q v { s₂ with heap := h', toks := tk })) E s) :
    wpAny (model prog w) A (call (.builtin "max") [x] (dfltK d)) Q E s := by
  refine call_tree_kw F.kind_max F.plain_max F.entry_max (args_maxD _ _) ?_
  show wpAny _ A.in1 (Builtin.Builtins.bindParams "max" ["key", "default"] 0 ⟨[], dfltK d⟩ >>= _) _ _ s
  refine wpAny_bind (wpAny_of_eq (show Builtin.Builtins.bindParams "max" ["key", "default"] 0 ⟨[], dfltK d⟩ = pure [none, some d] from rfl) ?_)
  refine wpAny_bind (wpAny_pure ?_)
  refine wpAny_bind (wpAny_mono h (fun it s₂ h₂ => ?_) fun _ _ e => e)
  obtain ⟨I, fp, wr, n, P, St, bt, rfl, W, hst, hfp, hcmp, hQ0, hQ⟩ := h₂
  refine wpAny_bind (wpAny_newObj_type ?_)
  have hSf : s₂.heap.objs.size ∉ fp := fun hm => Nat.lt_irrefl _ (hfp _ hm)
  rw [max_name]
  refine wpAny_pure ⟨plainId_quiet F.plain_max_loop _, loopD_first W bt hcmp s₂.heap.objs.size hSf d (W.frame _ _ _ hst fun b _ o e => Heap.get?_push_of_some _ e) (Heap.get?_push_size _ rfl) (fun hz h' tk hk => ?_) fun hz v h' tk hP hk => ?_⟩
  · exact hQ0 hz h' tk fun b o hbw e => hk b o hbw (Nat.ne_of_lt (Heap.lt_size e)) (Heap.get?_push_of_some _ e)
  · exact hQ hz v h' tk hP fun b o hbw e => hk b o hbw (Nat.ne_of_lt (Heap.lt_size e)) (Heap.get?_push_of_some _ e)
/-- a list of ints -/
theorem maxD_raw {l : Addr} {its : List Value} {ns : List Int} {d : Value} {Q : Value → Shared → Prop} (hh : A.handled = none) (hl : s.heap.IsList l its.toArray) (hi : IntsAre its ns)
    (h0 : ns = [] → ∀ h' tk, (∀ b o, s.heap.get? b = some o → h'.get? b = some o) → Q d { s with heap := h', toks := tk })
    (h : ∀ h' tk M t', (∀ b o, s.heap.get? b = some o → h'.get? b = some o) → M ∈ ns → (∀ a, a ∈ ns → a ≤ M) → Q (.int M t') { s with heap := h', toks := tk }) : wpAny (model prog w) A (call (.builtin "max") [.ref l] (dfltK d)) Q E s := by
  obtain ⟨xs, e⟩ := hi.allInts.items
  have hn : numsOf (intItems xs).toList = ns := by rw [← e]; exact hi.numsOf
  rw [nums_intItems] at hn
  subst hn
  rw [e] at hl
  refine call_maxD (iter_intList hl fun s₂ e st hfp hlI => ?_)
  subst e
  refine ⟨_, _, _, _, _, _, _, rfl, Walks.list (A := A.in1) hh _ l hlI (intItems xs), st, hfp, CmpOf.ints_gt (numAt xs) (fun _ _ => intItems_at), fun hz h' tk hk => ?_, fun hz v h' tk hP hk => ?_⟩
  · have : xs.toList = [] := by
      have : xs.size = 0 := by simpa [intItems] using hz
      simpa using this
    exact h0 (by rw [this]; rfl) h' tk (old_kept hk)
  · have hv : (intItems xs)[argBest (fun i j => decide (numAt xs i > numAt xs j)) (xs.size - 1)]? = some v := by simpa [intItems] using hP
    have hsz : 0 < xs.size := by simpa [intItems] using hz
    obtain ⟨t, rfl⟩ := intItems_at hv
    obtain ⟨h1, h2⟩ := argBest_gt (numAt xs) (xs.size - 1)
    refine h h' tk _ t (old_kept hk) ?_ fun a ha => ?_
    · rw [numAt_eq]; exact PySem.getD_mem (by rw [List.length_map, Array.length_toList]; omega)
    · obtain ⟨j, hj, rfl⟩ := mem_getD ha
      rw [List.length_map, Array.length_toList] at hj
      rw [← numAt_eq]; exact h2 j (by omega)
end

def rMaxDf (K : PySem.W.Frag) : List V → List V → Hp → VK → Prop := fun xs zs H Q => ∃ (a : Addr) (ns : List Int) (d : Int), xs = [V.ref a] ∧ zs = [V.int d] ∧ SqL K H a (ns.map V.int) ∧ (ns = [] → Q (.int d) H) ∧ ∀ m, m ∈ ns → (∀ y, y ∈ ns → y ≤ m) → Q (.int m) H
theorem cr_maxDf {X : Cx} (hc : X.calm = true) : CallRK X (.builtin "max") [Str.ofString "default"] (rMaxDf X.K) := by
  intro pins s σ H xs zs us ws Q I r rz h
  obtain ⟨a, ns, d, rfl, rfl, hs, q0, q⟩ := h
  obtain ⟨its, rv, hl, _⟩ := I.list hs
  rw [Vals.ref1 r]
  obtain ⟨u, rfl, ru⟩ := rz.one
  obtain ⟨t, rfl⟩ := (show ∃ t, u = Value.int d t from ru)
  exact maxD_raw (I.ok.hd hc) hl.isList rv.ints (fun e h' tk hk => ⟨.int _, H, I.kept hk, ⟨_, rfl⟩, q0 e⟩) fun h' tk m t' hk h1 h2 => ⟨.int _, H, I.kept hk, ⟨_, rfl⟩, q m h1 h2⟩
def maxDfD : D → D → Option D
  | .list ds, .int d => (match intsOf ds with | some [] => some (.int d) | some (n :: ns) => some (.int (maxI (n :: ns))) | none => none)
  | _, _ => none
def mMaxDf (a b : EM W) : EM W := fun rho m => (a rho m).bindV fun w m1 => (b rho m1).bindV fun w2 m2 => fD2 maxDfD [w, w2] m2
theorem ca_maxDf {X : Cx} : Ca X (fun xs H Q => ∃ x z, xs = [x, z] ∧ rMaxDf X.K [x] [z] H Q) (fD2 maxDfD) := ca_D2 fun O H x y v v2 z Q rv rv2 e k => by
  refine ⟨v, v2, rfl, ?_⟩
  cases x with
  | list ds =>
    cases y with
    | int d =>
      obtain ⟨a, vs, rfl, h1, h2⟩ := rv
      cases rv2
      unfold maxDfD at e
      dsimp only at e
      split at e
      · rename_i hn
        cases e
        rw [intsOf_eq hn] at h2
        rw [repDs_ints h2] at h1
        exact ⟨a, [], d, rfl, rfl, .inl (.inl h1), fun _ => k _ rfl, fun m hm => (nomatch hm)⟩
      · rename_i n ns hn
        cases e
        rw [intsOf_eq hn] at h2
        rw [repDs_ints h2] at h1
        refine ⟨a, n :: ns, d, rfl, rfl, .inl (.inl h1), (fun q => (nomatch q)), fun m hm hle => ?_⟩
        obtain ⟨g1, g2⟩ := maxI_ok (xs := n :: ns) (by simp)
        have e1 : m = maxI (n :: ns) := Int.le_antisymm (g2 m hm) (hle _ g1)
        rw [e1]
        exact k _ rfl
      · cases e
    | _ => cases e
  | _ => cases e
section
variable {X : Cx} {E : St → XK} {ea eb : Expr} {a b : EM W} {p kp pos : Pos}
theorem den_maxDf (hc : X.calm = true) (hg : Gl X "max") (hm : X.mg "max" = none) (ha : Den X E ea a) (hb : Den X E eb b)
    (hs : starEach [ea] X.env = (false, eval ea X.env) :: starEach [] X.env := by rfl)
    (he : backTo pos (starEach [ea] X.env) = (false, eval ea X.env) :: backTo pos (starEach [] X.env) := by rfl) (hpl : (backTo pos (starEach [ea] X.env)).any (·.1) = false := by rfl)
    (hall : (backToKw pos (keywordEach [⟨some "default", eb, kp⟩] X.env)).all (·.1.isSome) = true := by rfl) (hnone : (backToKw pos (keywordEach [⟨some "default", eb, kp⟩] X.env)).any (·.1.isNone) = false := by rfl) (hks : (backToKw pos (keywordEach [⟨some "default", eb, kp⟩] X.env)).filterMap (·.1) = [Str.ofString "default"] := by rfl) :
    Den X E (.Call (.Name "max" p) [ea] [⟨some "default", eb, kp⟩] pos) (mMaxDf a b) := PE.imp (pe_callBK (cr_maxDf hc) hg hm rfl (pa_cons ha pa_nil hs) (pk_cons hb pk_nil) (by decide) (by decide) he hpl hall hnone hks) fun σ H Q q => by
  obtain ⟨Hd, al, rho, m, s, e, P⟩ := q
  refine ⟨Hd, al, rho, m, s, e, (Post.bindV P).imp fun w al1 p1 m1 H1 g s1 k v rv => ?_⟩
  obtain ⟨g1, s1', rv1, P1⟩ := k v rv
  refine ⟨Hd, al1, rho, m1, s1', e.go g1, (Post.bindV P1).imp fun w2 al2 p2 m2 H2 g2 s2 k2 v2 rv2 => ?_⟩
  obtain ⟨g2', s2', rv2', P2⟩ := k2 v2 rv2
  obtain ⟨x, z, e0, h⟩ := ca_maxDf (X := X) _ _ _ _ _ [val w, val w2] [v, v2] _ Q s2' ⟨v, _, rfl, rv1.go g2', v2, _, rfl, rv2', rfl⟩ P2 fun w' al' p m' H' v' q' => q' v'
  cases e0
  exact h
end
end Den
/-! Den33: a new container that stays mutable; many names bound at once -/
namespace Den
open PySem PySem.Spec PyProof.Rows L2
/-- a container just made gets a handle -/
def mNew (a : EM W) : EM W := fun rho m => match a rho m with
  | .ok (.n x) m1 => .ok (.r m1.length) (m1 ++ [some x])
  | .ok _ _ => .no
  | .ex c m1 => .ex c m1
  | .no => .no
/-- names, from the left -/
def setAll : Env → List Nat → List W → Env
  | rho, i :: is, w :: ws => setAll (rho.set i (some w)) is ws
  | rho, _, _ => rho
def setAllV : St → List Nat → List V → St
  | σ, i :: is, v :: vs => setAllV (σ.set i (some v)) is vs
  | σ, _, _ => σ
def sParN (is : List Nat) (c : EM (List W)) : SM := fun rho m => (c rho m).thenS rho fun ws m1 => if ws.length = is.length then .nx (setAll rho is ws) m1 else .no
def gNames (is : List Nat) : TGs := fun vs σ H Q => vs.length = is.length ∧ Q (setAllV σ is vs) H
section
variable {X : Cx} {E : St → XK} {ea : Expr} {a : EM W} {pos : Pos}
theorem den_new (ha : Den X E ea a) : Den X E ea (mNew a) := PE.imp ha fun σ H Q q => by
  obtain ⟨Hd, al, rho, m, s, e, P⟩ := q
  refine ⟨Hd, al, rho, m, s, e, ?_⟩
  unfold mNew at P
  cases ho : a rho m with
  | no => rw [ho] at P; exact P
  | ex x m' => rw [ho] at P; exact P
  | ok w m' =>
    rw [ho] at P
    intro al' p H' g s' v rv
    cases w with
    | n x =>
      obtain ⟨a0, hp, rfl, ob⟩ := rv
      subst hp
      have g2 := go_alloc (x := x) s'
      refine P (al' ++ [a0]) none H' (g.trans g2) (stt_alloc s' ob) _ ⟨rfl, a0, ?_, rfl⟩
      rw [← s'.len, List.getElem?_append_right (Nat.le_refl _), Nat.sub_self]; rfl
    | _ => exact P.elim
theorem gns_nil : PGs X [] (gNames []) := PGs.imp pgs_nil fun vs σ H Q q => by
  obtain ⟨q1, q2⟩ := q
  obtain rfl := List.length_eq_zero_iff.mp q1
  exact ⟨rfl, q2⟩
theorem gns_cons {x : Str} {es : List Expr} {is : List Nat} {p2 : Pos} (i : Nat) (hN : X.N.Nodup) (h : PGs X es (gNames is)) (hi : X.N[i]? = some x := by rfl) (hx : Loc X.env.scope x := by first | exact Or.inl rfl | exact Or.inr rfl) (hf : X.fn x = true ∨ X.env.scope.names.lookup x = some .local := by first | exact .inl rfl | exact .inr rfl | assumption)
    (hs : (assignEach (.Name x p2 :: es) X.env).map (·.2) = assign (.Name x p2) X.env :: (assignEach es X.env).map (·.2) := by rfl) : PGs X (.Name x p2 :: es) (gNames (i :: is)) := PGs.imp (pgs_cons (pg_name hN hi hx hf) h hs) fun vs σ H Q q => by
  obtain ⟨q1, q2⟩ := q
  cases vs with
  | nil => cases q1
  | cons v vs => exact ⟨v, vs, rfl, Nat.succ.inj q1, q2⟩
theorem envOk_all {K : PySem.W.Frag} {mg : Str → Option Value} {O : Addr → Prop} {al : List Addr} {H : Hp} : ∀ {is : List Nat} {ws : List W} {vs : List V} {rho : Env} {σ : St}, RepWs K mg O al H ws vs → EnvOk K mg O al H rho σ → EnvOk K mg O al H (setAll rho is ws) (setAllV σ is vs)
  | [], _, _, _, _, _, e => e
  | _ :: _, [], _, _, _, h, e => by rw [show _ = [] from h]; exact e
  | i :: is, w :: ws, _, _, _, ⟨v, r, h1, h2, h3⟩, e => by subst h1; exact envOk_all (is := is) h3 (e.set h2)
theorem repWs_len {K : PySem.W.Frag} {mg : Str → Option Value} {O : Addr → Prop} {al : List Addr} {H : Hp} : ∀ {ws : List W} {vs : List V}, RepWs K mg O al H ws vs → vs.length = ws.length
  | [], _, h => by rw [show _ = [] from h]; rfl
  | w :: ws, _, ⟨v, r, h1, h2, h3⟩ => by rw [h1, List.length_cons, repWs_len h3]; rfl
theorem ds_parN {es ts : List Expr} {is : List Nat} {c : EM (List W)} {kt k2 : Nat} {pt p2 : Pos} (hc : X.calm = true) (ha : DenA X E es c) (h : PGs X ts (gNames is))
    (hz : small is.length = true := by rfl) (hn : (assignEach ts X.env).length = is.length := by rfl) (hst : (assignEach ts X.env).findIdx? (·.1) = none := by rfl)
    (hs : swapsWithSole [.Tuple ts kt pt] (.Tuple es k2 p2) pos.line X.env = pure false := by rfl) (hw : swappedStores [.Tuple ts kt pt] (.Tuple es k2 p2) X.env = pure none := by rfl)
    (h1 : (assignEach [.Tuple ts kt pt] X.env).map (·.2) = [assign (.Tuple ts kt pt) X.env] := by rfl) : DenS X E (.Assign [.Tuple ts kt pt] (.Tuple es k2 p2) pos) (sParN is c) := PS.imp (ps_asg (pe_tup ha) (pg_tup hc h hn hst) hs hw h1) fun Dn σ H q => by
  obtain ⟨Hd, al, rho, m, s, e, P⟩ := q
  unfold sParN at P
  refine ⟨Hd, al, rho, m, s, e, ?_⟩
  cases ho : c rho m with
  | no => rw [ho] at P; exact P
  | ex x m' => rw [ho] at P; exact fun al' H' cls dd g s x => P al' H' σ cls dd g s (e.go g) x
  | ok ws m' =>
    rw [ho] at P
    have P2 : PostS X.K X.mg Hd al m H E Dn (if ws.length = is.length then .nx (setAll rho is ws) m' else .no) := P
    intro al' p H' g s' hp vs rv
    subst hp
    split at P2
    · rename_i hl
      have hv := repWs_len rv
      refine ⟨by rw [hv, hl]; exact small_line hz, fun p hp => ⟨p, vs, rfl, sqR upd_same, by rw [hv, hl], by rw [hv, hl], ?_⟩⟩
      have g2 := go_new (Hd := Hd) (al := al') (m := m') (o := .tup vs) (q := none) hp (.inl rfl)
      exact P2 al' _ _ (g.trans g2) (stt_new s' hp (.inl rfl)) (envOk_all (rv.go g2) (e.go (g.trans g2)))
    · exact P2.elim
end
end Den
/-! Den34: len of a dict. -/
namespace PySem
section
variable {prog : Program} {w : World} {A : Around} {E : Value → Shared → Prop} {s : Shared}
theorem len_body_raw {d : Addr} {es : Array DictEntry} {ep : Nat} {Q : Value → Shared → Prop} (hd : (d == sysModules) = false) (hm : s.heap.DictRaw d es ep) (hfit : (es.size : Int) < 2 ^ 63)
    (h : Q (.int es.size (s.toks + 1)) { s with toks := s.toks + 1 + 1 }) : wpAny (model prog w) A (Builtin.«len» ⟨[.ref d], []⟩) (fun fin s' => ∃ r, fin = .done (.ret r) ∧ Q r s') E s := by
  unfold Builtin.«len»
  refine wpAny_bind (m := oneArg "len" _) (wpAny_pure ?_)
  refine wpAny_bind (m := callSpecial? (.ref d) (Str.ofString "__len__")) (wpAny_callSpecial?_slot (name := Str.ofString "__len__") hm.typeIs F.slot_dict_len
    (call_meetsIn F.slot_dict_len hm.typeIs F.entry_dict_len (F.args_dict_len_1 _) (meets_dict_len_raw d hd) ⟨es, ep, hm, ?_⟩))
  show wpAny _ _ _ _ _ { s with toks := s.toks + 1 }
  refine wpAny_bind (wpAny_holding (wpAny_pure ?_))
  refine wpAny_bind (wpAny_letGo ?_)
  show wpAny _ _ (if ((es.size : Nat) : Int) < 0 then _ else _) _ _ _
  rw [if_neg (by omega)]
  show wpAny _ _ (if ((es.size : Nat) : Int) ≥ 2 ^ 63 then _ else _) _ _ _
  rw [if_neg (by omega)]
  exact wpAny_bind (wpAny_mkInt (wpAny_pure ⟨_, rfl, h⟩))
theorem call_len_rawD {d : Addr} {es : Array DictEntry} {ep : Nat} {Q : Value → Shared → Prop} (hd : (d == sysModules) = false) (hm : s.heap.DictRaw d es ep) (hfit : (es.size : Int) < 2 ^ 63)
    (h : Q (.int es.size (s.toks + 1)) { s with toks := s.toks + 1 + 1 }) : wpAny (model prog w) A (call (.builtin "len") [.ref d]) Q E s :=
  Calls.call_function_entry kind_len plain_len entry_len (args_len1 _) (len_body_raw hd hm hfit h)
end
end PySem
namespace Den
open PySem PySem.Spec PyProof.Rows L2
def rLenK : List V → Hp → VK → Prop := fun xs H Q => ∃ d, xs = [.ref d] ∧ IsD H d ∧ ∀ ys, KeysV H d ys → Q (.int (ys.length : Nat)) H
theorem cr_lenK {X : Cx} : CallR X (.builtin "len") rLenK := by
  intro pins s σ H vs us Q I r q
  obtain ⟨d, rfl, hD, q⟩ := q
  rw [Vals.ref1 r]
  obtain ⟨lo, od, es, ep, ho, hx, hdt, hz, hk⟩ := keys_raw I hD
  have hs : sizeLine = 16777216 := sizeLine_eq
  obtain ⟨ys, ky, rv⟩ := hk (es.toList.map (·.key)) (by simp) (fun j v hv => by
    rw [List.getElem?_map] at hv
    cases e : es.toList[j]? with
    | none => rw [e] at hv; cases hv
    | some en =>
      rw [e] at hv
      cases hv
      exact ⟨en, by rw [← Array.getElem?_toList]; exact e, rfl⟩)
  have hl : ys.length = es.size := by
    have := rv.length
    rw [List.length_map, Array.length_toList] at this
    omega
  refine call_len_rawD lo ⟨od, ho, hx, hdt⟩ (by omega) ⟨.int (ys.length : Nat), H, I.tok _, ⟨_, by rw [hl]⟩, q ys ky⟩
def lenKD : D → Option D
  | .dict kvs => some (.int (kvs.length : Nat))
  | _ => none
theorem ca_lenK {X : Cx} : Ca X rLenK (fD1 lenKD) := ca_D1 fun O H x v y Q rv e k => by
  cases x with
  | dict kvs =>
    cases e
    obtain ⟨d, rfl, h⟩ := rv
    refine ⟨d, rfl, h.imp (fun ⟨kz, h, _⟩ => ⟨kz, h⟩) fun ⟨kz, h, _⟩ => ⟨kz, h⟩, fun us ku => k _ ?_⟩
    have h2 := (keysV_rep h ku).len
    rw [List.length_map] at h2
    rw [h2]; rfl
  | _ => cases e
end Den
/-! Den35: tuples of the module (where ModT is true), a = b = e. -/
namespace Den
open PySem PySem.Spec PyProof.Rows L2
/-- a name of the module that is a tuple of data -/
def GTup (K : PySem.W.Frag) (mg : Str → Option Value) (x : Str) (ds : List D) : Prop :=
  ModT = true ∧ ∃ (A : Addr) (o : Obj) (its : Array Value) (n : Nat) (vs : List V), mg x = some (.ref A) ∧ K.lookup A = some o ∧ o.cls = .type "tuple" ∧ o.data = .seq its n ∧ its.size ≤ sizeLine ∧ Vals vs its.toList ∧ ∀ O H, RepDs K O H ds vs
section
variable {X : Cx} {E : St → XK} {x : Str} {pos : Pos}
theorem den_gt {ds : List D} (hg : Gl X x) (hm : GTup X.K X.mg x ds) (hd : (x == ("__debug__" : Str)) = false := by decide) : Den X E (.Name x pos) (mC (.tuple ds)) := by
  obtain ⟨hT, A, o, its, n, vs, h1, h2, h3, h4, h5, h6, h7⟩ := hm
  refine PE.imp (pe_glob (v := .ref A) hg h1 rfl hd) fun σ H Q q => ?_
  obtain ⟨Hd, al, rho, m, s, e, P⟩ := q
  exact (Post.ok s P) (.ref A) ⟨rfl, A, vs, rfl, .inr ⟨hT, .inr ⟨o, its, n, h2, h3, h4, h5, h6⟩⟩, h7 _ _⟩
theorem gtup_ii {K : PySem.W.Frag} {mg : Str → Option Value} {A : Addr} {od : Option Addr} {i j : Int} {t1 t2 : Tok} {n : Nat} {sl : Array (Option Value)} (hT : ModT = true) (h1 : mg x = some (.ref A)) (h2 : K.lookup A = some ⟨.type "tuple", od, .seq #[.int i t1, .int j t2] n, sl⟩) : GTup K mg x [.int i, .int j] :=
  ⟨hT, A, _, _, _, [.int i, .int j], h1, h2, rfl, rfl, by rw [sizeLine_eq]; show (2 : Nat) ≤ _; decide, .cons ⟨_, rfl⟩ (.cons ⟨_, rfl⟩ .nil), fun _ _ => ⟨_, _, rfl, rfl, ⟨_, _, rfl, rfl, rfl⟩⟩⟩
end
section
variable {X : Cx} {E : St → XK} {e : Expr} {a : EM W} {pos : Pos} {i j : Nat} {x y : Str} {px py : Pos}
/-- x = y = e: names -/
def sAsg2 (i j : Nat) (a : EM W) : SM := fun rho m => (a rho m).thenV rho fun w m1 => .nx ((rho.set i (some w)).set j (some w)) m1
theorem ds_asg2 (i j : Nat) (hN : X.N.Nodup) (he : Den X E e a) (hi : X.N[i]? = some x := by rfl) (hx : Loc X.env.scope x := by first | exact Or.inl rfl | exact Or.inr rfl) (hf : X.fn x = true ∨ X.env.scope.names.lookup x = some .local := by first | exact .inl rfl | exact .inr rfl | assumption)
    (hj : X.N[j]? = some y := by rfl) (hy : Loc X.env.scope y := by first | exact Or.inl rfl | exact Or.inr rfl) (hg : X.fn y = true ∨ X.env.scope.names.lookup y = some .local := by first | exact .inl rfl | exact .inr rfl | assumption)
    (ha : (assignEach [.Name x px, .Name y py] X.env).map (·.2) = [assign (.Name x px) X.env, assign (.Name y py) X.env] := by rfl) (hw : swappedStores [.Name x px, .Name y py] e X.env = pure none := by rfl) :
    DenS X E (.Assign [.Name x px, .Name y py] e pos) (sAsg2 i j a) := PS.imp (ps_asg2 he (pg_name hN hi hx hf) (pg_name hN hj hy hg) ha hw) fun Dn σ H q => by
  obtain ⟨Hd, al, rho, m, s, e, P⟩ := q
  refine ⟨Hd, al, rho, m, s, e, (PostS.ofV e P).imp fun w al1 p1 m1 H1 g s1 k v rv => ?_⟩
  obtain ⟨g1, s1', rv1, P1⟩ := k v rv
  exact P1 al1 H1 _ Go.refl s1' (((e.go g1).set rv1).set rv1)
end
/-- def_go, with the numbers of names told -/
theorem def_goN {P : Program} {w : World} {K : PySem.W.Frag} {mg : Str → Option Value} {base : Heap} {k n nN : Nat} {f : Addr} {x : Str} {st : Stmt} {fd : FuncData} {N ps : List Str} {c : SM} (F : Fun K x x st f fd) (S : FnScope N ps (defScope st)) (hn : ps.length = n) (hNN : N.length = nN)
    (hbody : ∀ (cdv : Value) (A : Around) (outer : List PySem.Env) (s : Shared) (H : Hp) (E : XK), Room k (A.deeper (envOfC x (defScope st) s.heap.objs.size f cdv)) → (A.deeper (envOfC x (defScope st) s.heap.objs.size f cdv)).guards = some [] →
      L2N.Takes (cxOf (L2N.CX P w) P w K mg base N x (defScope st) f cdv A outer s H E) (fun cls d σ H => EK E σ cls d H) →
      (∀ σ, PassesAt (L2N.CX P w) (cxOf (L2N.CX P w) P w K mg base N x (defScope st) f cdv A outer s H E) σ (EK E σ)) →
      PassesOwn (model P w) (A.deeper (envOfC x (defScope st) s.heap.objs.size f cdv)) (envOfC x (defScope st) s.heap.objs.size f cdv) (cxOf (L2N.CX P w) P w K mg base N x (defScope st) f cdv A outer s H E).xe →
      DenSs (cxOf (L2N.CX P w) P w K mg base N x (defScope st) f cdv A outer s H E) (EK E) (defBody st) c) : FnG P w K mg base (k + 1) f fd ps (spM K mg n (runF nN c)) := by
  subst hn hNN
  exact def_go F S hbody
/-- the class above all kinds of errors -/
structure KindQ (K : PySem.W.Frag) (mg : Str → Option Value) : Prop where
  sup : ∃ D, mg "QueueError" = some (.ref D) ∧ ∀ (y z : Str) (C : Addr), kindTab y = some z → mg y = some (.ref C) → PySem.W.kitOne K (.ref C) (.ref D) = some true
end Den
/-! Den36: texts (split, join, str, int, signs of a text), isinstance(x, int), tables of defs with texts as keys. -/
namespace Den
open PySem PySem.Spec PyProof.Rows L2

def strsOf : List D → Option (List Str)
  | [] => some []
  | .str x :: r => (strsOf r).map (x :: ·)
  | _ => none
theorem strsOf_map : ∀ ys : List Str, strsOf (ys.map .str) = some ys
  | [] => rfl
  | y :: ys => by
    show (strsOf (ys.map .str)).map (y :: ·) = _
    rw [strsOf_map ys]; rfl
theorem strsOf_inv : ∀ {ds : List D} {ys : List Str}, strsOf ds = some ys → ds = ys.map .str
  | [], _, h => by cases h; rfl
  | .str x :: r, ys, h => by
    have h' : (strsOf r).map (x :: ·) = some ys := h
    cases q : strsOf r with
    | none => rw [q] at h'; cases h'
    | some z =>
      rw [q] at h'
      cases h'
      rw [List.map_cons, ← strsOf_inv q]
  | .int _ :: _, _, h => by cases h
  | .bool _ :: _, _, h => by cases h
  | .none :: _, _, h => by cases h
  | .list _ :: _, _, h => by cases h
  | .tuple _ :: _, _, h => by cases h
  | .dict _ :: _, _, h => by cases h
section
variable {K : PySem.W.Frag} {O : Addr → Prop} {H : Hp}
theorem strs_rep : ∀ {ys : List Str} {vs : List V}, RepDs K O H (ys.map .str) vs → vs = ys.map V.str
  | [], _, h => h
  | y :: ys, _, ⟨v, r, h1, h2, h3⟩ => by
    subst h1
    cases h2
    rw [List.map_cons, strs_rep h3]
theorem rep_strs : ∀ (ys : List Str), RepDs K O H (ys.map .str) (ys.map V.str)
  | [] => rfl
  | y :: ys => ⟨V.str y, _, rfl, rfl, rep_strs ys⟩
end
/-! ### methods that give a new list, texts put together -/
def fMN (g : D → D → Option (List D)) : W → List W → Mem → Rs W
  | w, [w2], m => (match peek m w, peek m w2 with | some x, some y => (match g x y with | some ys => .ok (.n (.list ys)) m | none => .no) | _, _ => .no)
  | _, _, _ => .no
theorem cm_N {X : Cx} {r : V → List V → Hp → VK → Prop} {g : D → D → Option (List D)} (h : ∀ (O : Addr → Prop) (H : Hp) x y v v2 ys (Q : VK), RepP X.K O H x v → RepP X.K O H y v2 → g x y = some ys → (∀ p vs, H p = none → RepDs X.K O H ys vs → Q (.ref p) (upd H p (.lst vs))) → r v [v2] H Q) : Cm X r (fMN g) := by
  intro E Hd al m H w v ws vs R Q s r1 r2 P k
  match ws, r2 with
  | [w2], r2 =>
    obtain ⟨v2, rfl, h2⟩ := repWs1 r2
    unfold fMN at P
    dsimp only at P
    split at P
    · rename_i x y hx hy
      split at P
      · rename_i ys hz
        exact h _ H x y v v2 ys Q (peek_ok s r1 hx) (peek_ok s h2 hy) hz fun p vs hp rv' => res_list s rv' hp P k
      · exact P.elim
    · exact P.elim
  | [], _ => exact P.elim
  | _ :: _ :: _, _ => exact P.elim
def splitD : D → D → Option (List D)
  | .str a, .str b => if decide (b.length ≠ 0 ∧ a.length ≤ 1000000) = true then some ((Txt.split a b).map .str) else none
  | _, _ => none
theorem cm_split {X : Cx} : Cm X (fun x xs H Q => ∃ a b, x = .str a ∧ xs = [.str b] ∧ (b.length == 0) = false ∧ a.length + 2 ≤ sizeLine ∧ rNewStrs (Txt.split a b) H Q) (fMN splitD) := cm_N fun O H x y v v2 ys Q r1 r2 e k => by
  cases x with
  | str a =>
    cases y with
    | str b =>
      obtain ⟨c, e⟩ := ite_none e
      cases e
      cases r1
      cases r2
      have c' := of_decide_eq_true c
      exact ⟨a, b, rfl, rfl, by rw [beq_eq_false_iff_ne]; exact c'.1, by rw [sizeLine_eq]; omega, fun p hp => k p _ hp (rep_strs _)⟩
    | _ => cases e
  | _ => cases e
def joinD : D → D → Option D
  | .str a, .list ds => (match strsOf ds with | some ys => if decide ((ys.map (·.length)).sum + ys.length * a.length ≤ 1000000) = true then some (.str (Txt.join a ys)) else none | none => none)
  | _, _ => none
theorem cm_join {X : Cx} : Cm X (fun x xs H Q => ∃ a p, ∃ ys : List Str, x = .str a ∧ xs = [.ref p] ∧ (SqL X.K H p (ys.map V.str) ∨ SqT X.K H p (ys.map V.str)) ∧
    (ys.map (·.length)).sum + ys.length * a.length ≤ 16777216 ∧ Q (.str (Txt.join a ys)) H) (fMD joinD) := cm_D fun O H x y v v2 z Q r1 r2 e k => by
  cases x with
  | str a =>
    cases y with
    | list ds =>
      unfold joinD at e
      dsimp only at e
      split at e
      · rename_i ys hys
        obtain ⟨c, e⟩ := ite_none e
        cases e
        have c' := of_decide_eq_true c
        cases r1
        obtain ⟨p, vs, rfl, h1, h2⟩ := r2
        rw [strsOf_inv hys] at h2
        rw [strs_rep h2] at h1
        exact ⟨a, p, ys, rfl, rfl, .inl (.inl (.inl h1)), by omega, k _ rfl⟩
      · cases e
    | _ => cases e
  | _ => cases e
/-! ### str(k), int(text) -/
def strID : D → Option D
  | .int i => if decide (i.natAbs.log2 < 1920) = true then some (.str (toString i)) else none
  | _ => none
theorem ca_strI {X : Cx} : Ca X (fun xs H Q => ∃ i, xs = [.int i] ∧ i.natAbs.log2 < 1920 ∧ Q (.str (toString i)) H) (fD1 strID) := ca_D1 fun O H x v y Q rv e k => by
  cases x with
  | int i =>
    obtain ⟨c, e⟩ := ite_none e
    cases e
    cases rv
    exact ⟨i, rfl, of_decide_eq_true c, k _ rfl⟩
  | _ => cases e
def intSD : D → Option D
  | .str a => (match PySem.intText? a with | some n => if decide (a.length ≤ 640) = true then some (.int n) else none | none => none)
  | _ => none
theorem ca_intS {X : Cx} : Ca X (fun xs H Q => ∃ a n, xs = [.str a] ∧ PySem.intText? a = some n ∧ a.length ≤ 640 ∧ Q (.int n) H) (fD1 intSD) := ca_D1 fun O H x v y Q rv e k => by
  cases x with
  | str a =>
    unfold intSD at e
    dsimp only at e
    split at e
    · rename_i n hn
      obtain ⟨c, e⟩ := ite_none e
      cases e
      cases rv
      exact ⟨a, n, rfl, hn, of_decide_eq_true c, k _ rfl⟩
    · cases e
  | _ => cases e
/-! ### the signs of a text -/
def charsOf (x : Str) : List D := x.cps.toList.map fun c => .str ⟨#[c]⟩
def mChars (a : EM W) : EM (List D) := fun rho m => (a rho m).bindV fun w m1 => match w with | .d (.str x) => .ok (charsOf x) m1 | _ => .no
section
variable {X : Cx} {E : St → XK} {tg iter ea : Expr} {a : EM W} {O : Addr → Prop} {H : Hp} {p q pos : Pos}
theorem itD_str (x : Str) : ItD X O H (Its x) (charsOf x) where
  go := fun i O' H' g hi => by
    unfold charsOf at hi
    rw [List.length_map] at hi
    exact hi
  yld := fun i O' H' d v H'' g hx hy => by
    obtain ⟨e, c, hc, ev⟩ := hy
    subst e
    subst ev
    unfold charsOf at hx
    rw [List.getElem?_map, Array.getElem?_toList, hc] at hx
    cases hx
    exact ⟨.inl rfl, rfl⟩
  stop := fun O' H' g => by
    show x.cps.size ≤ (charsOf x).length
    unfold charsOf
    rw [List.length_map]
    exact Nat.le_refl _
theorem di_chars (h : Den X E iter a) : DenI X E tg iter (mChars a) := PI.imp (pi_str h) fun σ H R q => by
  obtain ⟨Hd, al, rho, m, s, e, P⟩ := q
  refine ⟨Hd, al, rho, m, s, e, (Post.bindV P).imp fun w al1 p1 m1 H1 g s1 k v rv => ?_⟩
  obtain ⟨g1, s1', rv1, P1⟩ := k v rv
  split at P1
  · rename_i x hw
    rw [hw] at rv1
    exact ⟨x, rv1.2, (P1.ok s1') rfl _ (itD_str x)⟩
  · exact P1.elim
/-! ### isinstance(x, int) -/
def isIntD : D → Option Bool
  | .tuple _ => if ModT then none else some false
  | .list _ => some false
  | .int _ => some true
  | .str _ => some false
  | .bool _ => some true
  | .none => some false
  | .dict _ => none
def mIsInt (a : EM W) : EM W := fun rho m => (a rho m).bindV fun w m1 => match peek m1 w with
  | some x => (match isIntD x with | some b => .ok (.d (.bool b)) m1 | none => .no)
  | none => .no
theorem isInt_ty {K : PySem.W.Frag} {x : D} {v : V} {b : Bool} (h : RepP K O H x v) (hb : isIntD x = some b) : ∃ t, TyX K H v t ∧ PySem.W.kitOne K t (.type "int") = some b := by
  cases x with
  | tuple ds =>
    obtain ⟨a, vs, rfl, h1, _⟩ := h
    have hb' : (if ModT then none else some false) = some b := hb
    cases hT : ModT with
    | true => rw [hT] at hb'; cases hb'
    | false =>
      rw [hT] at hb'
      cases hb'
      exact ⟨_, .base (.tup (tupA_plain hT h1)), kit_ty (by decide +kernel)⟩
  | list ds => cases hb; obtain ⟨a, vs, rfl, h1, _⟩ := h; exact ⟨_, .base (.lst h1), kit_ty (by decide +kernel)⟩
  | int i => cases hb; cases h; exact ⟨_, .base (.int _), kit_ty (by decide +kernel)⟩
  | str i => cases hb; cases h; exact ⟨_, .base (.str _), kit_ty (by decide +kernel)⟩
  | bool i => cases hb; cases h; exact ⟨_, .base (.bl _), kit_ty (by decide +kernel)⟩
  | none => cases hb; cases h; exact ⟨_, .base .non, kit_ty (by decide +kernel)⟩
  | dict _ => cases hb
theorem den_isInt (h : Den X E ea a) (hg : Gl X "isinstance") (hm : X.mg "isinstance" = none) (hgt : Gl X "int") (hmt : X.mg "int" = none)
    (he : starEach [ea, .Name "int" q] X.env = (false, eval ea X.env) :: starEach [.Name "int" q] X.env := by rfl) (he2 : starEach [.Name "int" q] X.env = [(false, eval (.Name "int" q) X.env)] := by rfl)
    (hpl : (backTo pos (starEach [.Name "int" q] X.env)).any (·.1) = false := by rfl) : Den X E (.Call (.Name "isinstance" p) [ea, .Name "int" q] [] pos) (mIsInt a) :=
  PE.imp (pe_callB call_isi hg hm boot_isinstance (pa_cons h (pa_cons (pe_bltn (v := .ty "int") (u := .type "int") hgt hmt (by decide +kernel) rfl) pa_nil he2) he) (by decide) (by decide) he hpl) fun σ H Q q => by
    obtain ⟨Hd, al, rho, m, s, e, P⟩ := q
    refine ⟨Hd, al, rho, m, s, e, (Post.bindV P).imp fun w al1 p1 m1 H1 g s1 k v rv => ?_⟩
    obtain ⟨g1, s1', rv1, P1⟩ := k v rv
    split at P1
    · rename_i x hx
      split at P1
      · rename_i b hb
        obtain ⟨t, h1, h2⟩ := isInt_ty (peek_ok s1' rv1 hx) hb
        exact ⟨v, .ty "int", t, .type "int", b, rfl, .ty _, h1, h2, (P1.ok s1') _ ⟨rfl, rfl⟩⟩
      · exact P1.elim
    · exact P1.elim
end
/-! ### tables of defs: a dict of the module with texts as keys -/
/-- what the table says of a text: no entry, or the def of that name -/
abbrev TabF := List (Str × Option FnM)
def tabAt (T : TabF) (z : Str) : Option (Option FnM) := (T.find? fun p => decide (p.1 = z)).map (·.2)
structure TabG (K : PySem.W.Frag) (w : World) (mg : Str → Option Value) (x : Str) (T : TabF) : Prop where
  ex : ∃ A es n, mg x = some (.ref A) ∧ KDict K w A es n ∧ ∀ z, (∀ t, tabAt T z = some (some t) → ∃ f, mg t.1 = some (.ref f) ∧ PySem.W.nsIn K A z = some (some (.ref f))) ∧ (tabAt T z = some none → PySem.W.nsIn K A z = some none)
def mTabNin (T : TabF) (a : EM W) : EM W := fun rho m => (a rho m).bindV fun w m1 => match w with
  | .d (.str z) => (match tabAt T z with | some o => .ok (.d (.bool (!o.isSome))) m1 | none => .no)
  | _ => .no
def mTabCall (T : TabF) (a : EM W) (c : EM (List W)) : EM W := fun rho m => (a rho m).bindV fun w m1 => match w with
  | .d (.str z) => (match tabAt T z with | some (some t) => (c rho m1).bind fun ws m2 => if ws.length = t.2.1 then t.2.2 ws m2 else .no | _ => .no)
  | _ => .no
section
variable {X : Cx} {E : St → XK} {k j : Nat} {T : TabF} {ea e : Expr} {es : List Expr} {a : EM W} {c : EM (List W)} {x : Str} {qp lp sp pos : Pos}
theorem dt_tabNin (G : TabG X.K X.w X.mg x T) (ha : Den X E ea a) (hg : Gl X x := by rfl) (hd : (x == ("__debug__" : Str)) = false := by decide) (hm : behindInMarks .NotIn (.Name x qp) = false := by rfl) : DenT X E (.Compare ea [.NotIn] [.Name x qp] pos) (mBool (mTabNin T a)) := by
  obtain ⟨A, es, n, hA, D, hz⟩ := G.ex
  refine PT.imp (pt_cmpR (op_notIn_kd D) ha (pe_glob (v := .ref A) hg hA rfl hd) hm) fun σ H Q q => tT_bool (fun σ H Q q => ?_) q
  obtain ⟨Hd, al, rho, m, s, e, P⟩ := q
  refine ⟨Hd, al, rho, m, s, e, (Post.bindV P).imp fun w al1 p1 m1 H1 g s1 k v rv => ?_⟩
  obtain ⟨g1, s1', rv1, P1⟩ := k v rv
  split at P1
  · rename_i z hw
    rw [hw] at rv1
    split at P1
    · rename_i o ho
      have ev : v = .str z := rv1.2
      cases o with
      | none => exact ⟨z, none, ev, rfl, (hz z).2 ho, (P1.ok s1') _ ⟨rfl, rfl⟩⟩
      | some t =>
        obtain ⟨f, _, h2⟩ := (hz z).1 t ho
        exact ⟨z, _, ev, rfl, h2, (P1.ok s1') _ ⟨rfl, rfl⟩⟩
    · exact P1.elim
  · exact P1.elim
theorem den_tabCall (G : TabG X.K X.w X.mg x T) (Cs : ∀ z t, tabAt T z = some (some t) → CalG X.prog X.w X.K X.mg X.base k t.1 t.2.1 t.2.2) (hi : Den X E ea a) (hr : Room j X.A) (hgu : X.A.guards = some []) (hx : ∀ σ, PassesAt (L2N.CX X.prog X.w) X σ (E σ)) (ha : DenA X E (e :: es) c)
    (hk : k ≤ j := by decide) (hpi : PlainIx ea := by exact fun _ _ => rfl) (hg : Gl X x := by rfl) (hd : (x == ("__debug__" : Str)) = false := by decide) (he : starEach (e :: es) X.env = (false, eval e X.env) :: starEach es X.env := by rfl) (hpl : (backTo pos (starEach es X.env)).any (·.1) = false := by rfl) :
    Den X E (.Call (.Subscript (.Name x qp) ea sp) (e :: es) [] pos) (mTabCall T a c) := by
  obtain ⟨A, ds, n, hA, D, hz⟩ := G.ex
  refine ⟨fun pins s σ H Q I q => ?_⟩
  show wpAny _ _ (do callWith pos (← eval (.Subscript (.Name x qp) ea sp) X.env) [] (backTo pos (starEach (e :: es) X.env)) (backToKw pos (keywordEach [] X.env))) _ _ _
  obtain ⟨Hd, al, rho, m, st, en, P⟩ := q
  have callee : PE X (.Subscript (.Name x qp) ea sp) _ := pe_ix ix_kdict (pe_glob (v := .ref A) hg hA rfl hd) hi hpi
  refine wpAny_bind (thn (callee.run pins s σ H (fun v H1 => ∃ (t : FnM) (f : Addr), (∃ z, tabAt T z = some (some t)) ∧ X.mg t.1 = some (.ref f) ∧ v = .ref f ∧ ∃ Hd al rho m, Stt X.K Hd al none H1 m ∧ EnvOk X.K X.mg (Own Hd al m none) al H1 rho σ ∧
    Post X.K X.mg Hd al m H1 (E σ) ((c rho m).bind fun ws m2 => if ws.length = t.2.1 then t.2.2 ws m2 else .no) fun w al' p m' H' => ∀ v, RepW X.K X.mg (Own Hd al' m' p) p al' H' w v → Q v H') I ?_) fun u s1 hh => ?_)
  · refine ⟨Hd, al, rho, m, st, en, (Post.bindV P).imp fun w al1 p1 m1 H1 g s1 k v rv => ?_⟩
    obtain ⟨g1, s1', rv1, P1⟩ := k v rv
    split at P1
    · rename_i z hw
      rw [hw] at rv1
      have ev : v = .str z := rv1.2
      split at P1
      · rename_i t ht
        obtain ⟨f, h1, h2⟩ := (hz z).1 t ht
        exact ⟨A, z, .ref f, rfl, ev, ⟨ds, n, .ref f, D.at_, D.lit, h2, rfl⟩, t, f, ⟨z, ht⟩, h1, rfl, Hd, al1, rho, m1, s1', en.go g1, P1⟩
      · exact P1.elim
    · exact P1.elim
  · obtain ⟨v, H1, I1, r1, t, f, ⟨z, tm⟩, hm, rfl, q1⟩ := hh
    cases r1
    obtain ⟨f', fd, ps, F, hm', kp, hb, hn⟩ := (Cs z t tm).ex
    have ef : f' = f := by rw [hm] at hm'; cases hm'; rfl
    subst ef
    refine PySem.W.callWith_K (h₀ := X.base) I.ok.mod.kin kp (thn (ha.run pos pins s1 σ H1 (fun vs H2 => spM X.K X.mg t.2.1 t.2.2 vs H2 Q (E σ)) I1 ?_) fun us s2 hh => ?_) he hpl
    · obtain ⟨Hd, al, rho, m, st, en, P⟩ := q1
      refine ⟨Hd, al, rho, m, st, en, (Post.bind P).imp fun ws al1 p1 m1 H1 g s1 k hp vs rv => ?_⟩
      subst hp
      have P1 := k rfl
      split at P1
      · rename_i hl
        exact ⟨Hd, al1, ws, m1, hl, s1, rv, P1⟩
      · exact P1.elim
    · obtain ⟨vs, H2, I2, r, q2⟩ := hh
      exact ⟨I2.kIn, run_G F (hr.mono hk) hgu hb (hx σ) I2 r q2⟩
end
end Den
/-! Den37: try: .., except QueueError as error: if _law_kind(error) != "..": return False; a def that calls itself. -/
namespace Den
open PySem PySem.Spec PyProof.Rows L2

def sTryN (i : Nat) (cb : SM) (kf : Str → Option Str) (S : Str) : SM := fun rho m => match cb rho m with
  | .ex (.own x) rho' m' => (match kf x with | some y => if i < rho'.length then (if y = S then .nx (rho'.set i none) m' else .rt (.d (.bool false)) m') else .no | none => .no)
  | .ex (.low _ _ _) _ _ => .no
  | r => r
section
variable {X : Cx} {E : St → XK} {kf : Str → Option Str} {cb : SM} {body : List Stmt} {x n q0 S : Str} {k j : Nat} {p q np pos pos' pos2 pos3 pc pr pi pb : Pos} {jk jk2 : Option String}
theorem EnvOk.clr {K : PySem.W.Frag} {mg : Str → Option Value} {O : Addr → Prop} {al : List Addr} {H : Hp} {rho : Env} {σ : St} (e : EnvOk K mg O al H rho σ) (i : Nat) : EnvOk K mg O al H (rho.set i none) (σ.set i none) := by
  refine ⟨by rw [List.length_set, List.length_set]; exact e.1, fun l w h => ?_⟩
  by_cases hl : i = l
  · subst hl
    by_cases hr : i < rho.length
    · rw [List.getElem?_set_self hr] at h; cases h
    · rw [List.getElem?_eq_none (by rw [List.length_set]; omega)] at h; cases h
  · rw [List.getElem?_set_ne hl] at h ⊢
    exact e.2 l w h
/-- what the suite asks -/
def tsN (K : PySem.W.Frag) (mg : Str → Option Value) (kf : Str → Option Str) (i : Nat) (S : Str) (a : Addr) (cls : Value) (d : Option Addr) : TS := fun D σ H =>
  tKindE K mg kf i a cls d σ H fun v H1 => ∃ z, v = .str z ∧ (z = S → D.nx σ H1) ∧ (z ≠ S → D.rt (.bl false) H1)
theorem ds_tryN {i : Nat} {jc1 jc2 : _} (KO : KindOk X.prog X.w X.K X.mg X.base k x kf) (CO : CatchOk X.K X.mg q0 kf) (hr : Room j X.A) (hk : k ≤ j) (hs : X.stack = X.env :: X.outer) (hf : X.env.frame = some X.env.locals) (hN : X.N.Nodup) (tk : L2N.Takes X fun cls d σ H => E σ cls d H)
    (hb : ∀ (E' : St → XK) (pn : List (Addr × Obj)) (xe : Value → Shared → Prop), L2N.Takes (X.tr pn xe) (fun cls d σ H => E' σ cls d H) → PassesOwn (model X.prog X.w) X.A X.env xe → DenSs (X.tr pn xe) E' body cb)
    (hi : X.N[i]? = some n := by rfl) (hln : X.env.kindOf n = some .local := by rfl) (hgq : Gl X q0 := by rfl) (hgx : Gl X x := by rfl) (hdq : (q0 == ("__debug__" : Str)) = false := by decide) (hd : (n == ("__debug__" : Str)) = false := by decide) (hcd : (n == ("__classdict__" : Str)) = false := by decide)
    (hdb : (x == ("__debug__" : Str)) = false := by decide) (he : starEach [.Name n q] X.env = [(false, eval (.Name n q) X.env)] := by rfl) :
    DenS X E (.Try body [.ExceptHandler (some (.Name q0 np)) (some n) [.If (.Compare (.Call (.Name x p) [.Name n q] [] pos) [.NotEq] [.Constant (.str S) jc1 pc] pi) [.Return (some (.Constant (.bool false) jc2 pb)) pr] [] pos2] pos'] [] [] pos3) (sTryN i cb kf S) := by
  obtain ⟨B, hB, hC⟩ := CO.ex
  refine PS.imp (L2N.ps_try_as hs hf hN hi hln ⟨hgq, hdq, .inl hB⟩ tk (tb := fun W => tS X.K X.mg (fun σ cls d H => W cls d σ H) cb) (ts := fun a cls d => tsN X.K X.mg kf i S a cls d) (fun W pn xe t hp => hb _ pn xe t hp)
    (fun a oe cls d pn hz hf => pss_one (PS.imp (ps_if (pt_cmpR op_ne (pe_kind KO hr hz.zc hf hk hgx hi hln hd hcd hdb he) pe_str (by rfl)) (pss_one (ps_ret pe_bl)) pss_nil) fun D σ H w => ?_))) fun Dn σ H q => ?_
  · obtain ⟨y, z, C, h1, h2, h3, h4, h5, Hd, al, m, s, h6⟩ := w
    refine ⟨y, z, C, h1, h2, h3, h4, h5, Hd, al, m, s, fun al' H' g s' => ?_⟩
    obtain ⟨z', e, q1, q2⟩ := h6 al' H' g s'
    cases e
    refine ⟨rfl, _, rfl, ?_⟩
    by_cases hz : z = S
    · subst hz
      have hb : (!decide (V.str z = V.str z)) = false := by rw [decide_eq_true rfl]; rfl
      (try dsimp only)
      rw [hb, if_neg Bool.false_ne_true]
      exact q1 rfl
    · have hb : (!decide (V.str z = V.str S)) = true := by rw [decide_eq_false fun e => hz (by cases e; rfl)]; rfl
      (try dsimp only)
      rw [hb, if_pos rfl]
      exact q2 hz
  obtain ⟨Hd, al, rho, m, s, e, P⟩ := q
  refine ⟨Hd, al, rho, m, s, e, ?_⟩
  unfold sTryN at P
  cases hc : cb rho m with
  | ex c rho' m' =>
    rw [hc] at P
    cases c with
    | low _ _ _ => exact P.elim
    | own y =>
      dsimp only at P
      split at P
      · rename_i z hkz
        split at P
        · rename_i hl
          intro al' H' σ' cls dd g s' e' xo
          obtain ⟨rfl, C, h1, rfl⟩ := xo
          obtain ⟨C', h1', h2⟩ := hC y z hkz
          have eC : C' = C := by rw [h1] at h1'; cases h1'; rfl
          subst eC
          refine ⟨true, h2, fun _ a na => ?_, fun h => (nomatch h)⟩
          refine ⟨y, z, C', hkz, h1, rfl, rfl, List.getElem?_set_self (by rw [← e'.1]; exact hl), Hd, al', m', s', fun al2 H2 g2 s2 => ⟨z, rfl, fun hz => ?_, fun hz => ?_⟩⟩
          · rw [if_pos hz] at P
            show Dn.nx ((σ'.set i (some (V.ref a))).set i none) H2
            rw [List.set_set]
            exact P al2 H2 _ (g.trans g2) s2 ((e'.go g2).clr i)
          · rw [if_neg hz] at P
            exact P al2 none H2 _ (g.trans g2) s2 ⟨rfl, rfl⟩
        · exact P.elim
      · exact P.elim
  | nx r m' => rw [hc] at P; exact P
  | rt w m' => rw [hc] at P; exact P
  | bk r m' => rw [hc] at P; exact P
  | ct r m' => rw [hc] at P; exact P
  | no => rw [hc] at P; exact P
end
/-- a def of which nothing is promised -/
theorem fn_no {P : Program} {w : World} {K : PySem.W.Frag} {mg : Str → Option Value} {base : Heap} {k n : Nat} {f : Addr} {fd : FuncData} {ps : List Str} : FnG P w K mg base k f fd ps (spM K mg n fun _ _ => .no) where
  len := fun vs H Q E h => by
    obtain ⟨Hd, al, ws, m, hl, s, rv, z⟩ := h
    exact z.elim
  run := fun A outer s H args us vs Q E hr hgu e0 hb r h => by
    obtain ⟨Hd, al, ws, m, hl, s, rv, z⟩ := h
    exact z.elim
theorem tab_mem {T : TabF} {z : Str} {t : FnM} (h : tabAt T z = some (some t)) : t ∈ T.filterMap (·.2) := by
  unfold tabAt at h
  cases q : T.find? (fun p => decide (p.1 = z)) with
  | none => rw [q] at h; cases h
  | some p =>
    rw [q] at h
    have e : p.2 = some t := Option.some.inj h
    exact List.mem_filterMap.mpr ⟨p, List.mem_of_find?_eq_some q, e⟩
/-- the table, entry by entry -/
theorem tabg_of {K : PySem.W.Frag} {w : World} {mg : Str → Option Value} {x : Str} {T : TabF} {A : Addr} {es : Array DictEntry} {n : Nat} (hx : mg x = some (.ref A)) (hl : K.lookup A = some ⟨.type "dict", none, .dict es n, #[]⟩) (hk : PySem.W.KeysLit w.params es.toList) (hs : (A == sysModules) = false)
    (h : ∀ p ∈ T, (∀ t, p.2 = some t → ∃ f, mg t.1 = some (.ref f) ∧ PySem.W.nsIn K A p.1 = some (some (.ref f))) ∧ (p.2 = none → PySem.W.nsIn K A p.1 = some none)) : TabG K w mg x T := by
  refine ⟨A, es, n, hx, ⟨hl, hk, hs⟩, fun z => ?_⟩
  unfold tabAt
  cases q : T.find? (fun p => decide (p.1 = z)) with
  | none => exact ⟨(fun t ht => nomatch ht), (fun ht => nomatch ht)⟩
  | some p =>
    have ez : p.1 = z := by
      have := List.find?_some q
      exact of_decide_eq_true this
    obtain ⟨h1, h2⟩ := h p (List.mem_of_find?_eq_some q)
    rw [ez] at h1 h2
    exact ⟨fun t ht => h1 t (Option.some.inj ht), fun ht => h2 (Option.some.inj ht)⟩
theorem tab_none {K : PySem.W.Frag} {mg : Str → Option Value} {A : Addr} : ∀ p ∈ ([] : TabF), (∀ t, p.2 = some t → ∃ f, mg t.1 = some (.ref f) ∧ PySem.W.nsIn K A p.1 = some (some (.ref f))) ∧ (p.2 = none → PySem.W.nsIn K A p.1 = some none) := fun p hp => by cases hp
theorem tab_def {K : PySem.W.Frag} {mg : Str → Option Value} {A f : Addr} {T : TabF} {z : Str} {t : FnM} (h1 : mg t.1 = some (.ref f)) (h2 : PySem.W.nsIn K A z = some (some (.ref f))) (h : ∀ p ∈ T, (∀ t, p.2 = some t → ∃ f, mg t.1 = some (.ref f) ∧ PySem.W.nsIn K A p.1 = some (some (.ref f))) ∧ (p.2 = none → PySem.W.nsIn K A p.1 = some none)) :
    ∀ p ∈ (z, some t) :: T, (∀ t, p.2 = some t → ∃ f, mg t.1 = some (.ref f) ∧ PySem.W.nsIn K A p.1 = some (some (.ref f))) ∧ (p.2 = none → PySem.W.nsIn K A p.1 = some none) := fun p hp => by
  rcases List.mem_cons.mp hp with rfl | hp
  · exact ⟨fun t' ht => by cases ht; exact ⟨f, h1, h2⟩, fun ht => by cases ht⟩
  · exact h p hp
theorem tab_absent {K : PySem.W.Frag} {mg : Str → Option Value} {A : Addr} {T : TabF} {z : Str} (h2 : PySem.W.nsIn K A z = some none) (h : ∀ p ∈ T, (∀ t, p.2 = some t → ∃ f, mg t.1 = some (.ref f) ∧ PySem.W.nsIn K A p.1 = some (some (.ref f))) ∧ (p.2 = none → PySem.W.nsIn K A p.1 = some none)) :
    ∀ p ∈ (z, none) :: T, (∀ t, p.2 = some t → ∃ f, mg t.1 = some (.ref f) ∧ PySem.W.nsIn K A p.1 = some (some (.ref f))) ∧ (p.2 = none → PySem.W.nsIn K A p.1 = some none) := fun p hp => by
  rcases List.mem_cons.mp hp with rfl | hp
  · exact ⟨fun t' ht => (nomatch ht), fun _ => h2⟩
  · exact h p hp
end Den
set_option exponentiation.threshold 10000
namespace Law
open PySem PySem.Spec PyProof.Rows L2 Den
def topS (i : Nat) : Stmt := PySem.Challenge.pw_queuenets_k21_lines_and_forms.main.body.getD i (.Pass ⟨0, 0, 0, 0⟩)
def kindF : Str → Option Str := kindTab
def m_is_integer : SM := sSeq (sRet (mIsInt (mVar 0))) (sSkip)
def F_is_integer : List W → Mem → Rs W := runF 1 m_is_integer
def m_is_row : SM := sSeq (sRet (mAndV (mIsTup (mVar 0)) (mB (mCons (mLC (mItems (mVar 0)) [1] (gN 1) (tYesT) (mCall 1 F_is_integer (mCons (mVar 1) (mNil)))) (mNil)) (fD1 allD)))) (sSkip)
def F_is_row : List W → Mem → Rs W := runF 2 m_is_row
def m_are_pairs : SM := sSeq (sRet (mAndV (mIsTup (mVar 0)) (mB (mCons (mLC (mItems (mVar 0)) [1] (gN 1) (tYesT) (mCall 1 F_is_row (mCons (mVar 1) (mNil)))) (mNil)) (fD1 allD)))) (sSkip)
def F_are_pairs : List W → Mem → Rs W := runF 2 m_are_pairs
def m_is_told_rate : SM := sSeq (sRet (mAndV (mIsTup (mVar 0)) (mAndV (mOp2 (mB (mCons (mVar 0) (mNil)) (fD1 lenD)) (mC (.int 3)) (lift2 eqD)) (mAndV (mCall 1 F_is_row (mCons (mSl (mVar 0) (oNone) (oSome (mC (.int 2)))) (mNil))) (mCall 1 F_is_row (mCons (mIx (mVar 0) (mC (.int 2))) (mNil))))))) (sSkip)
def F_is_told_rate : List W → Mem → Rs W := runF 1 m_is_told_rate
def m_is_told_chain : SM := sSeq (sIf (mOrT (mNotT (mTru (mIsTup (mVar 0)))) (mOrT (mBool (mOp2 (mB (mCons (mVar 0) (mNil)) (fD1 lenD)) (mC (.int 2)) (lift2 neD))) (mOrT (mNotT (mTru (mCall 1 F_is_integer (mCons (mIx (mVar 0) (mC (.int 0))) (mNil))))) (mNotT (mTru (mIsTup (mIx (mVar 0) (mC (.int 1))))))))) (sSeq (sRet (mC (.bool false))) (sSkip)) (sSkip)) (sSeq (sRet (mB (mCons (mLC (mItems (mIx (mVar 0) (mC (.int 1)))) [1] (gN 1) (tYesT) (mCall 1 F_is_told_rate (mCons (mVar 1) (mNil)))) (mNil)) (fD1 allD))) (sSkip))
def F_is_told_chain : List W → Mem → Rs W := runF 2 m_is_told_chain
def m_is_told_station : SM := sSeq (sRet (mAndV (mIsTup (mVar 0)) (mAndV (mOp2 (mB (mCons (mVar 0) (mNil)) (fD1 lenD)) (mC (.int 2)) (lift2 eqD)) (mB (mCons (mLC (mItems (mVar 0)) [1] (gN 1) (tYesT) (mCall 1 F_are_pairs (mCons (mVar 1) (mNil)))) (mNil)) (fD1 allD))))) (sSkip)
def F_is_told_station : List W → Mem → Rs W := runF 2 m_is_told_station
def m_are_steps : SM := sSeq (sRet (mAndV (mIsTup (mVar 0)) (mB (mCons (mLC (mItems (mVar 0)) [1] (gN 1) (tYesT) (mCall 1 F_are_pairs (mCons (mVar 1) (mNil)))) (mNil)) (fD1 allD)))) (sSkip)
def F_are_steps : List W → Mem → Rs W := runF 2 m_are_steps
def m_are_slots : SM := sSeq (sIf (mOrT (mNotT (mTru (mIsTup (mVar 0)))) (mOrT (mBool (mOp2 (mB (mCons (mVar 0) (mNil)) (fD1 lenD)) (mC (.int 3)) (lift2 neD))) (mNotT (mTru (mCall 1 F_is_integer (mCons (mIx (mVar 0) (mC (.int 0))) (mNil))))))) (sSeq (sRet (mC (.bool false))) (sSkip)) (sSkip)) (sSeq (sRet (mAndV (mCall 1 F_are_pairs (mCons (mIx (mVar 0) (mC (.int 1))) (mNil))) (mCall 1 F_are_pairs (mCons (mIx (mVar 0) (mC (.int 2))) (mNil))))) (sSkip))
def F_are_slots : List W → Mem → Rs W := runF 1 m_are_slots
def T_FORMS : TabF := [("chain", some ("is_told_chain", 1, F_is_told_chain)), ("station", some ("is_told_station", 1, F_is_told_station)), ("fractions", some ("are_pairs", 1, F_are_pairs)), ("steps", some ("are_steps", 1, F_are_steps)), ("slots", some ("are_slots", 1, F_are_slots)), ("row", some ("is_row", 1, F_is_row)), ("", none), ("Form", none), ("term", none)]
def m_has_form : SM := sSeq (sIf (mBool (mTabNin T_FORMS (mVar 0))) (sSeq (sRaise "BadNumber") (sSkip)) (sSkip)) (sSeq (sRet (mTabCall T_FORMS (mVar 0) (mCons (mVar 1) (mNil)))) (sSkip))
def F_has_form : List W → Mem → Rs W := runF 2 m_has_form
def m_words_of : SM := sSeq (sSet 1 (mM .str (mVar 0) (mCons (mC (.str " ")) (mNil)) (fMN splitD))) (sSeq (sFor (mItems (mVar 1)) (gN 2) (sSeq (sIf (mOrT (mBool (mOp2 (mVar 2) (mC (.str "")) (lift2 eqD))) (mNotT (mTru (mB (mCons (mLC (mChars (mVar 2)) [3] (gN 3) (tYesT) (mChain (lift2 leD) (lift2 leD) (mC (.str "!")) (mVar 3) (mC (.str "~")))) (mNil)) (fD1 allD))))) (sSeq (sRet (mC .none)) (sSkip)) (sSkip)) (sSkip))) (sSeq (sRet (mVar 1)) (sSkip)))
def F_words_of : List W → Mem → Rs W := runF 4 m_words_of
def m_is_name : SM := sSeq (sRet (mAndV (mChain (lift2 leD) (lift2 leD) (mC (.int 1)) (mB (mCons (mVar 0) (mNil)) (fD1 lenD)) (mC (.int 12))) (mB (mCons (mLC (mChars (mVar 0)) [1] (gN 1) (tYesT) (mOp2 (mVar 1) (mC (.str "abcdefghijklmnopqrstuvwxyz")) (lift2 inD))) (mNil)) (fD1 allD)))) (sSkip)
def F_is_name : List W → Mem → Rs W := runF 2 m_is_name
def m_number_in : SM := sSeq (sIf (mOrT (mNotT (mBool (mChain (lift2 leD) (lift2 leD) (mC (.int 1)) (mB (mCons (mVar 0) (mNil)) (fD1 lenD)) (mC (.int 2))))) (mNotT (mTru (mB (mCons (mLC (mChars (mVar 0)) [1] (gN 1) (tYesT) (mOp2 (mVar 1) (mC (.str "0123456789")) (lift2 inD))) (mNil)) (fD1 allD))))) (sSeq (sRet (mC .none)) (sSkip)) (sSkip)) (sSeq (sIf (mAndT (mBool (mOp2 (mB (mCons (mVar 0) (mNil)) (fD1 lenD)) (mC (.int 2)) (lift2 eqD))) (mBool (mOp2 (mIx (mVar 0) (mC (.int 0))) (mC (.str "0")) (lift2 eqD)))) (sSeq (sRet (mC .none)) (sSkip)) (sSkip)) (sSeq (sRet (mB (mCons (mVar 0) (mNil)) (fD1 intSD))) (sSkip)))
def F_number_in : List W → Mem → Rs W := runF 2 m_number_in
def m__law_number : SM := sSeq (sIf (mBool (mOp2 (mVar 0) (mC (.int 0)) (lift2 ltD))) (sSeq (sRet (mSub (mC (.int 0)) (mVar 0))) (sSkip)) (sSkip)) (sSeq (sRet (mVar 0)) (sSkip))
def F__law_number : List W → Mem → Rs W := runF 1 m__law_number
def m__law_draws : SM := sSeq (sSetR 1 (mLst (mNil))) (sSeq (sFor (mItems (mVar 0)) (gN 2) (sSeq (sSet 3 (mCall 1 F__law_number (mCons (mVar 2) (mNil)))) (sSeq (sIf (mBool (mOp2 (mVar 3) (mC (.int 1000000000000000000)) (lift2 geD))) (sSeq (sFor (mRange1 (mC (.int 60))) (gN 4) (sSeq (sIf (mBool (mOp2 (mVar 3) (mC (.int 0)) (lift2 eqD))) (sSeq (sBreak) (sSkip)) (sSkip)) (sSeq (sDrop (mM .lst (mVar 1) (mCons (mMod (mB (mCons (mVar 3) (mNil)) (fD1 intD)) (mC (.int 1000))) (mNil)) fAppend)) (sSeq (sSet 3 (mFdiv (mVar 3) (mC (.int 1000)))) (sSkip))))) (sSkip)) (sSeq (sSet 5 (mMod (mB (mCons (mAdd (mMul (mVar 3) (mC (.int 48271))) (mC (.int 11))) (mNil)) (fD1 intD)) (mC (.int 2147483647)))) (sSeq (sSet 6 (mMod (mB (mCons (mAdd (mMul (mVar 5) (mC (.int 69621))) (mVar 3)) (mNil)) (fD1 intD)) (mC (.int 2147483629)))) (sSeq (sDrop (mM .lst (mVar 1) (mCons (mLst (mCons (mMod (mB (mCons (mVar 3) (mNil)) (fD1 intD)) (mC (.int 1000))) (mCons (mMod (mB (mCons (mVar 5) (mNil)) (fD1 intD)) (mC (.int 1000))) (mCons (mMod (mB (mCons (mVar 6) (mNil)) (fD1 intD)) (mC (.int 1000))) (mNil))))) (mNil)) fExtend)) (sSkip))))) (sSkip)))) (sSeq (sDrop (mM .lst (mVar 1) mNil fReverse)) (sSeq (sRet (mVar 1)) (sSkip))))
def F__law_draws : List W → Mem → Rs W := runF 7 m__law_draws
def m__law_next : SM := sSeq (sIf (mTru (mVar 0)) (sSeq (sRet (mM .lst (mVar 0) mNil fPop)) (sSkip)) (sSkip)) (sSeq (sRet (mC (.int 0))) (sSkip))
def F__law_next : List W → Mem → Rs W := runF 1 m__law_next
def m__law_more : SM := sSeq (sSet 2 (mAdd (mAdd (mMul (mC (.int 1000)) (mCall 1 F__law_next (mCons (mVar 0) (mNil)))) (mCall 1 F__law_next (mCons (mVar 0) (mNil)))) (mC (.int 1)))) (sSeq (sSetR 3 (mLst (mNil))) (sSeq (sFor (mRange1 (mVar 1)) (gN 4) (sSeq (sSet 2 (mMod (mB (mCons (mAdd (mMul (mVar 2) (mC (.int 48271))) (mC (.int 12345))) (mNil)) (fD1 intD)) (mC (.int 2147483647)))) (sSeq (sDrop (mM .lst (mVar 3) (mCons (mMod (mB (mCons (mFdiv (mVar 2) (mC (.int 7))) (mNil)) (fD1 intD)) (mC (.int 1000))) (mNil)) fAppend)) (sSkip)))) (sSeq (sRet (mAdd (mVar 3) (mVar 0))) (sSkip))))
def F__law_more : List W → Mem → Rs W := runF 5 m__law_more
def m__law_pick : SM := sSeq (sRet (mIx (mVar 1) (mMod (mB (mCons (mCall 1 F__law_next (mCons (mVar 0) (mNil))) (mNil)) (fD1 intD)) (mB (mCons (mVar 1) (mNil)) (fD1 lenD))))) (sSkip)
def F__law_pick : List W → Mem → Rs W := runF 2 m__law_pick
def m__law_kind (a : Addr) (y : Str) : SM := sSeq (sSet 1 (mLst (mCons (mC (.str "chain")) (mCons (mC (.str "net")) (mCons (mC (.str "trace")) (mCons (mC (.str "paper")) (mCons (mC (.str "number")) (mCons (mC (.str "none")) (mCons (mC (.str "large")) (mNil)))))))))) (sSeq (sSet 2 (mLst (mCons (mIsE a 0 (decide (("NotChain" : Str) = y))) (mCons (mIsE a 0 (decide (("NotNet" : Str) = y))) (mCons (mIsE a 0 (decide (("NotTrace" : Str) = y))) (mCons (mIsE a 0 (decide (("NotPaper" : Str) = y))) (mNil))))))) (sSeq (sSet 2 (mAdd (mVar 2) (mLst (mCons (mIsE a 0 (decide (("BadNumber" : Str) = y))) (mCons (mIsE a 0 (decide (("NoAnswer" : Str) = y))) (mCons (mIsE a 0 (decide (("TooLarge" : Str) = y))) (mNil))))))) (sSeq (sRet (mIf (mBool (mOp2 (mM .lst (mVar 2) (mCons (mC (.bool true)) (mNil)) (fMD cntD)) (mC (.int 1)) (lift2 eqD))) (mAdd (mC (.str "!")) (mIx (mVar 1) (mM .lst (mVar 2) (mCons (mC (.bool true)) (mNil)) (fMD indD)))) (mC (.str "!other")))) (sSkip))))
def m__law_line : SM := sSeq (sSet 1 (mM .str (mVar 0) (mCons (mC (.str " ")) (mNil)) (fMN splitD))) (sSeq (sFor (mItems (mVar 1)) (gN 2) (sSeq (sIf (mOrT (mBool (mOp2 (mVar 2) (mC (.str "")) (lift2 eqD))) (mNotT (mTru (mB (mCons (mLC (mChars (mVar 2)) [3] (gN 3) (tYesT) (mChain (lift2 leD) (lift2 leD) (mC (.str "!")) (mVar 3) (mC (.str "~")))) (mNil)) (fD1 allD))))) (sSeq (sRet (mC .none)) (sSkip)) (sSkip)) (sSkip))) (sSeq (sRet (mVar 1)) (sSkip)))
def F__law_line : List W → Mem → Rs W := runF 4 m__law_line
def m__law_number_of : SM := sSeq (sRet (mIf (mBool (mOp2 (mVar 0) (mLC (mRange1 (mC (.int 100))) [1] (gN 1) (tYesT) (mB (mCons (mVar 1) (mNil)) (fD1 strID))) (lift2 inD))) (mB (mCons (mVar 0) (mNil)) (fD1 intSD)) (mC .none))) (sSkip)
def F__law_number_of : List W → Mem → Rs W := runF 2 m__law_number_of
def m__law_is_row : SM := sSeq (sRet (mAndV (mIsTup (mVar 0)) (mB (mCons (mLC (mItems (mVar 0)) [1] (gN 1) (tYesT) (mIsInt (mVar 1))) (mNil)) (fD1 allD)))) (sSkip)
def F__law_is_row : List W → Mem → Rs W := runF 2 m__law_is_row
def m__law_are_pairs : SM := sSeq (sRet (mAndV (mIsTup (mVar 0)) (mB (mCons (mLC (mItems (mVar 0)) [1] (gN 1) (tYesT) (mCall 1 F__law_is_row (mCons (mVar 1) (mNil)))) (mNil)) (fD1 allD)))) (sSkip)
def F__law_are_pairs : List W → Mem → Rs W := runF 2 m__law_are_pairs
def m__law_due : SM := sSeq (sIf (mBool (mOp2 (mVar 0) (mC (.str "row")) (lift2 eqD))) (sSeq (sRet (mCall 1 F__law_is_row (mCons (mVar 1) (mNil)))) (sSkip)) (sSkip)) (sSeq (sIf (mOrT (mBool (mOp2 (mVar 0) (mC (.str "fractions")) (lift2 eqD))) (mNotT (mTru (mIsTup (mVar 1))))) (sSeq (sRet (mCall 1 F__law_are_pairs (mCons (mVar 1) (mNil)))) (sSkip)) (sSkip)) (sSeq (sIf (mBool (mOp2 (mVar 0) (mC (.str "steps")) (lift2 eqD))) (sSeq (sRet (mB (mCons (mLC (mItems (mVar 1)) [2] (gN 2) (tYesT) (mCall 1 F__law_are_pairs (mCons (mVar 2) (mNil)))) (mNil)) (fD1 allD))) (sSkip)) (sSkip)) (sSeq (sIf (mBool (mOp2 (mVar 0) (mC (.str "station")) (lift2 eqD))) (sSeq (sRet (mAndV (mOp2 (mB (mCons (mVar 1) (mNil)) (fD1 lenD)) (mC (.int 2)) (lift2 eqD)) (mB (mCons (mLC (mItems (mVar 1)) [2] (gN 2) (tYesT) (mCall 1 F__law_are_pairs (mCons (mVar 2) (mNil)))) (mNil)) (fD1 allD)))) (sSkip)) (sSkip)) (sSeq (sIf (mBool (mOp2 (mVar 0) (mC (.str "slots")) (lift2 eqD))) (sSeq (sRet (mAndV (mOp2 (mB (mCons (mVar 1) (mNil)) (fD1 lenD)) (mC (.int 3)) (lift2 eqD)) (mAndV (mIsInt (mIx (mVar 1) (mC (.int 0)))) (mAndV (mCall 1 F__law_are_pairs (mCons (mIx (mVar 1) (mC (.int 1))) (mNil))) (mCall 1 F__law_are_pairs (mCons (mIx (mVar 1) (mC (.int 2))) (mNil))))))) (sSkip)) (sSkip)) (sSeq (sIf (mOrT (mBool (mOp2 (mB (mCons (mVar 1) (mNil)) (fD1 lenD)) (mC (.int 2)) (lift2 neD))) (mOrT (mNotT (mTru (mIsInt (mIx (mVar 1) (mC (.int 0)))))) (mNotT (mTru (mIsTup (mIx (mVar 1) (mC (.int 1)))))))) (sSeq (sRet (mC (.bool false))) (sSkip)) (sSkip)) (sSeq (sRet (mB (mCons (mLC (mItems (mIx (mVar 1) (mC (.int 1)))) [2] (gN 2) (tYesT) (mAndV (mIsTup (mVar 2)) (mAndV (mOp2 (mB (mCons (mVar 2) (mNil)) (fD1 lenD)) (mC (.int 3)) (lift2 eqD)) (mAndV (mCall 1 F__law_is_row (mCons (mSl (mVar 2) (oNone) (oSome (mC (.int 2)))) (mNil))) (mCall 1 F__law_is_row (mCons (mIx (mVar 2) (mC (.int 2))) (mNil))))))) (mNil)) (fD1 allD))) (sSkip)))))))
def F__law_due : List W → Mem → Rs W := runF 3 m__law_due
def m__law_spoilt (F : List W → Mem → Rs W) : SM := sSeq (sIf (mOrT (mNotT (mTru (mIsTup (mVar 1)))) (mBool (mOp2 (mMod (mB (mCons (mCall 1 F__law_next (mCons (mVar 0) (mNil))) (mNil)) (fD1 intD)) (mC (.int 6))) (mC (.int 0)) (lift2 eqD)))) (sSeq (sRet (mCall 2 F__law_pick (mCons (mVar 0) (mCons (mLst (mCons (mC .none) (mCons (mC (.str "ada")) (mCons (mC (.str "")) (mCons (mC (.int 5)) (mCons (mTup (mNil)) (mCons (mTup (mCons (mC (.int 1)) (mNil))) (mCons (mTup (mCons (mTup (mNil)) (mNil))) (mCons (mTup (mCons (mC (.str "a")) (mNil))) (mCons (mVar 1) (mNil))))))))))) (mNil))))) (sSkip)) (sSkip)) (sSeq (sIf (mBool (mOp2 (mVar 1) (mTup (mNil)) (lift2 eqD))) (sSeq (sRet (mCall 2 F__law_pick (mCons (mVar 0) (mCons (mLst (mCons (mTup (mCons (mC (.int 0)) (mNil))) (mCons (mTup (mCons (mC (.str "")) (mNil))) (mCons (mTup (mCons (mTup (mNil)) (mNil))) (mCons (mC .none) (mNil)))))) (mNil))))) (sSkip)) (sSkip)) (sSeq (sSet 2 (mMod (mB (mCons (mCall 1 F__law_next (mCons (mVar 0) (mNil))) (mNil)) (fD1 intD)) (mB (mCons (mVar 1) (mNil)) (fD1 lenD)))) (sSeq (sSet 3 (mMod (mB (mCons (mCall 1 F__law_next (mCons (mVar 0) (mNil))) (mNil)) (fD1 intD)) (mC (.int 5)))) (sSeq (sIf (mBool (mOp2 (mVar 3) (mC (.int 0)) (lift2 eqD))) (sSeq (sRet (mAdd (mSl (mVar 1) (oNone) (oSome (mVar 2))) (mSl (mVar 1) (oSome (mAdd (mVar 2) (mC (.int 1)))) (oNone)))) (sSkip)) (sSkip)) (sSeq (sRet (mIf (mBool (mOp2 (mVar 3) (mC (.int 1)) (lift2 eqD))) (mAdd (mVar 1) (mSl (mVar 1) (oSome (mVar 2)) (oSome (mAdd (mVar 2) (mC (.int 1)))))) (mAdd (mAdd (mSl (mVar 1) (oNone) (oSome (mVar 2))) (mTup (mCons (mCall 2 F (mCons (mVar 0) (mCons (mIx (mVar 1) (mVar 2)) (mNil)))) (mNil)))) (mSl (mVar 1) (oSome (mAdd (mVar 2) (mC (.int 1)))) (oNone))))) (sSkip))))))
def F__law_spoilt_0 : List W → Mem → Rs W := fun _ _ => .no
def F__law_spoilt_1 : List W → Mem → Rs W := runF 4 (m__law_spoilt F__law_spoilt_0)
def F__law_spoilt_2 : List W → Mem → Rs W := runF 4 (m__law_spoilt F__law_spoilt_1)
def F__law_spoilt_3 : List W → Mem → Rs W := runF 4 (m__law_spoilt F__law_spoilt_2)
def F__law_spoilt_4 : List W → Mem → Rs W := runF 4 (m__law_spoilt F__law_spoilt_3)
def F__law_spoilt_5 : List W → Mem → Rs W := runF 4 (m__law_spoilt F__law_spoilt_4)
def F__law_spoilt_6 : List W → Mem → Rs W := runF 4 (m__law_spoilt F__law_spoilt_5)
def m_law : SM := sSeq (sSetR 1 (mCall 1 F__law_draws (mCons (mVar 0) (mNil)))) (sSeq (sSetR 1 (mCall 2 F__law_more (mCons (mVar 1) (mCons (mC (.int 200)) (mNil))))) (sSeq (sIf (mBool (mOp2 (mLst (mCons (mCall 1 F_words_of (mCons (mC (.str "a b")) (mNil))) (mCons (mCall 1 F_is_name (mCons (mC (.str "abcdefghijkl")) (mNil))) (mCons (mCall 1 F_is_name (mCons (mC (.str "abcdefghijklm")) (mNil))) (mCons (mCall 1 F_number_in (mCons (mC (.str "07")) (mNil))) (mCons (mCall 1 F_number_in (mCons (mC (.str "99")) (mNil))) (mNil))))))) (mLst (mCons (mLst (mCons (mC (.str "a")) (mCons (mC (.str "b")) (mNil)))) (mCons (mC (.bool true)) (mCons (mC (.bool false)) (mCons (mC .none) (mCons (mC (.int 99)) (mNil))))))) (lift2 neD))) (sSeq (sRet (mC (.bool false))) (sSkip)) (sSkip)) (sSeq (sFor (mRange1 (mC (.int 6))) (gN 2) (sSeq (sSet 3 (mM .str (mC (.str "")) (mCons (mLC (mRange1 (mMod (mB (mCons (mCall 1 F__law_next (mCons (mVar 1) (mNil))) (mNil)) (fD1 intD)) (mC (.int 9)))) [4] (gN 4) (tYesT) (mCall 2 F__law_pick (mCons (mVar 1) (mCons (mLst (mCons (mC (.str "a")) (mCons (mC (.str "b")) (mCons (mC (.str " ")) (mCons (mC (.str "0")) (mCons (mC (.str "7")) (mCons (mC (.str "~")) (mCons (mC (.str "!")) (mCons (mC (.str "(")) (mCons (mC (.str "A")) (mCons (mC (.str "\t")) (mCons (mC (.str "-")) (mCons (mC (.str "z")) (mCons (mC (.str "  ")) (mNil))))))))))))))) (mNil))))) (mNil)) (fMD joinD))) (sSeq (sIf (mBool (mOp2 (mB (mCons (mCall 1 F_words_of (mCons (mVar 3) (mNil))) (mNil)) (fD1 reprD)) (mB (mCons (mCall 1 F__law_line (mCons (mVar 3) (mNil))) (mNil)) (fD1 reprD)) (lift2 neD))) (sSeq (sRet (mC (.bool false))) (sSkip)) (sSkip)) (sSeq (sSet 5 (mM .str (mC (.str "")) (mCons (mLC (mRange1 (mMod (mB (mCons (mCall 1 F__law_next (mCons (mVar 1) (mNil))) (mNil)) (fD1 intD)) (mC (.int 15)))) [4] (gN 4) (tYesT) (mCall 2 F__law_pick (mCons (mVar 1) (mCons (mLst (mCons (mC (.str "a")) (mCons (mC (.str "k")) (mCons (mC (.str "z")) (mCons (mC (.str "9")) (mCons (mC (.str "0")) (mCons (mC (.str "1")) (mCons (mC (.str "")) (mCons (mC (.str "")) (mCons (mC (.str "B")) (mNil))))))))))) (mNil))))) (mNil)) (fMD joinD))) (sSeq (sSet 6 (mAndV (mChain (lift2 leD) (lift2 leD) (mC (.int 1)) (mB (mCons (mVar 5) (mNil)) (fD1 lenD)) (mC (.int 12))) (mB (mCons (mLC (mChars (mVar 5)) [7] (gN 7) (tYesT) (mOp2 (mVar 7) (mC (.str "abcdefghijklmnopqrstuvwxyz")) (lift2 inD))) (mNil)) (fD1 allD)))) (sSeq (sIf (mBool (mOp2 (mB (mCons (mLst (mCons (mCall 1 F_is_name (mCons (mVar 5) (mNil))) (mCons (mCall 1 F_number_in (mCons (mVar 5) (mNil))) (mNil)))) (mNil)) (fD1 reprD)) (mB (mCons (mLst (mCons (mVar 6) (mCons (mCall 1 F__law_number_of (mCons (mVar 5) (mNil))) (mNil)))) (mNil)) (fD1 reprD)) (lift2 neD))) (sSeq (sRet (mC (.bool false))) (sSkip)) (sSkip)) (sSkip))))))) (sSeq (sIf (mBool (mOp2 (mLC (mItems (mLst (mCons (mC (.str "")) (mCons (mC (.str "0")) (mCons (mC (.str "00")) (mCons (mC (.str "100")) (mCons (mC (.str "-1")) (mCons (mC (.str "5")) (mCons (mC (.str "+5")) (mCons (mC (.str " 5")) (mCons (mC (.str "5 ")) (mNil)))))))))))) [5] (gN 5) (tYesT) (mB (mCons (mCall 1 F_number_in (mCons (mVar 5) (mNil))) (mNil)) (fD1 reprD))) (mLst (mCons (mC (.str "None")) (mCons (mC (.str "0")) (mCons (mC (.str "None")) (mCons (mC (.str "None")) (mCons (mC (.str "None")) (mCons (mC (.str "5")) (mCons (mC (.str "None")) (mCons (mC (.str "None")) (mCons (mC (.str "None")) (mNil))))))))))) (lift2 neD))) (sSeq (sRet (mC (.bool false))) (sSkip)) (sSkip)) (sSeq (sSet 8 (mLst (mCons (mTup (mCons (mC (.int 2)) (mCons (mTup (mCons (mTup (mCons (mC (.int 0)) (mCons (mC (.int 1)) (mCons (mTup (mCons (mC (.int 1)) (mCons (mC (.int 2)) (mNil)))) (mNil))))) (mNil))) (mNil)))) (mCons (mTup (mCons (mTup (mCons (mTup (mCons (mC (.int 1)) (mCons (mC (.int 1)) (mNil)))) (mNil))) (mCons (mTup (mCons (mTup (mCons (mC (.int 2)) (mCons (mC (.int 1)) (mNil)))) (mNil))) (mNil)))) (mCons (mTup (mCons (mTup (mCons (mC (.int 0)) (mCons (mC (.int 1)) (mNil)))) (mCons (mTup (mCons (mC (.int 2)) (mCons (mC (.int 0)) (mNil)))) (mNil)))) (mCons (mTup (mCons (mC (.int 0)) (mCons (mC (.int 1)) (mCons (mC (.int 1)) (mNil))))) (mCons (mTup (mCons (mC (.int 2)) (mCons (mTup (mCons (mTup (mCons (mC (.int 1)) (mCons (mC (.int 1)) (mNil)))) (mNil))) (mCons (mTup (mCons (mTup (mCons (mC (.int 1)) (mCons (mC (.int 2)) (mNil)))) (mCons (mTup (mCons (mC (.int 1)) (mCons (mC (.int 2)) (mNil)))) (mNil)))) (mNil))))) (mNil)))))))) (sSeq (sFor (mItems (mAdd (mAdd (mVar 8) (mLC (mRange1 (mC (.int 12))) [2] (gN 2) (tYesT) (mCall 2 F__law_spoilt_6 (mCons (mVar 1) (mCons (mCall 2 F__law_pick (mCons (mVar 1) (mCons (mVar 8) (mNil)))) (mNil)))))) (mLst (mCons (mTup (mNil)) (mCons (mC .none) (mCons (mC (.str "")) (mCons (mC (.int 0)) (mNil)))))))) (gN 9) (sSeq (sSet 10 (mLst (mCons (mC (.str "chain")) (mCons (mC (.str "station")) (mCons (mC (.str "fractions")) (mCons (mC (.str "steps")) (mCons (mC (.str "slots")) (mCons (mC (.str "row")) (mNil))))))))) (sSeq (sIf (mBool (mOp2 (mLC (mItems (mVar 10)) [11] (gN 11) (tYesT) (mCall 2 F_has_form (mCons (mVar 11) (mCons (mVar 9) (mNil))))) (mLC (mItems (mVar 10)) [11] (gN 11) (tYesT) (mCall 2 F__law_due (mCons (mVar 11) (mCons (mVar 9) (mNil))))) (lift2 neD))) (sSeq (sRet (mC (.bool false))) (sSkip)) (sSkip)) (sSkip)))) (sSeq (sFor (mItems (mLst (mCons (mC (.str "")) (mCons (mC (.str "Form")) (mCons (mC (.str "term")) (mNil)))))) (gN 12) (sSeq (sTryN 13 (sSeq (sDrop (mCall 2 F_has_form (mCons (mVar 12) (mCons (mTup (mNil)) (mNil))))) (sSeq (sRet (mC (.bool false))) (sSkip))) kindF "!number") (sSkip))) (sSeq (sRet (mC (.bool true))) (sSkip)))))))))
def F_law : List W → Mem → Rs W := runF 14 m_law
/-- what the module's names are -/
structure MG (K : PySem.W.Frag) (w : World) (mg : Str → Option Value) : Prop where
  b_all : mg "all" = none
  b_int : mg "int" = none
  b_isinstance : mg "isinstance" = none
  b_len : mg "len" = none
  b_range : mg "range" = none
  b_repr : mg "repr" = none
  b_str : mg "str" = none
  b_tuple : mg "tuple" = none
  v_FIGURES : ∃ t, mg "FIGURES" = some (.str "0123456789" t)
  v_SMALL : ∃ t, mg "SMALL" = some (.str "abcdefghijklmnopqrstuvwxyz" t)
  t_FORMS : TabG K w mg "FORMS" T_FORMS
  x_BadNumber : ExcT K mg "BadNumber"
  catch_ : CatchOk K mg "QueueError" kindF
  d_is_integer : ∃ f, mg "is_integer" = some (.ref f)
  d_is_row : ∃ f, mg "is_row" = some (.ref f)
  d_are_pairs : ∃ f, mg "are_pairs" = some (.ref f)
  d_is_told_rate : ∃ f, mg "is_told_rate" = some (.ref f)
  d_is_told_chain : ∃ f, mg "is_told_chain" = some (.ref f)
  d_is_told_station : ∃ f, mg "is_told_station" = some (.ref f)
  d_are_steps : ∃ f, mg "are_steps" = some (.ref f)
  d_are_slots : ∃ f, mg "are_slots" = some (.ref f)
  d_has_form : ∃ f, mg "has_form" = some (.ref f)
  d_words_of : ∃ f, mg "words_of" = some (.ref f)
  d_is_name : ∃ f, mg "is_name" = some (.ref f)
  d_number_in : ∃ f, mg "number_in" = some (.ref f)
  d__law_number : ∃ f, mg "_law_number" = some (.ref f)
  d__law_draws : ∃ f, mg "_law_draws" = some (.ref f)
  d__law_next : ∃ f, mg "_law_next" = some (.ref f)
  d__law_more : ∃ f, mg "_law_more" = some (.ref f)
  d__law_pick : ∃ f, mg "_law_pick" = some (.ref f)
  d__law_kind : ∃ f, mg "_law_kind" = some (.ref f)
  d__law_line : ∃ f, mg "_law_line" = some (.ref f)
  d__law_number_of : ∃ f, mg "_law_number_of" = some (.ref f)
  d__law_is_row : ∃ f, mg "_law_is_row" = some (.ref f)
  d__law_are_pairs : ∃ f, mg "_law_are_pairs" = some (.ref f)
  d__law_due : ∃ f, mg "_law_due" = some (.ref f)
  d__law_spoilt : ∃ f, mg "_law_spoilt" = some (.ref f)
  d_law : ∃ f, mg "law" = some (.ref f)
section
variable {P : Program} {w : World} {K : PySem.W.Frag} {mg : Str → Option Value} {base : Heap} {f : Addr} {fd : FuncData}
def sc_is_integer : FnScope ["term"] ["term"] (defScope (topS 10)) := ⟨rfl, rfl, rfl, by decide +kernel, rfl, by decide +kernel, by decide +kernel⟩
theorem ok_is_integer (F : Fun K "is_integer" "is_integer" (topS 10) f fd) (M : MG K w mg)  : FnG P w K mg base 1 f fd ["term"] (spM K mg 1 F_is_integer) := def_goN F sc_is_integer rfl rfl fun cdv A outer s H E hr hgu tk hx hp => have hN := (sc_is_integer).nd; dss_cons (ds_ret (den_isInt (den_var 0) (by rfl) M.b_isinstance (by rfl) M.b_int)) (dss_nil)
def sc_is_row : FnScope ["term", "entry"] ["term"] (defScope (topS 11)) := ⟨rfl, rfl, rfl, by decide +kernel, rfl, by decide +kernel, by decide +kernel⟩
theorem ok_is_row (F : Fun K "is_row" "is_row" (topS 11) f fd) (M : MG K w mg) (c_is_integer : CalG P w K mg base 1 "is_integer" 1 F_is_integer) : FnG P w K mg base 2 f fd ["term"] (spM K mg 1 F_is_row) := def_goN F sc_is_row rfl rfl fun cdv A outer s H E hr hgu tk hx hp => have hN := (sc_is_row).nd; dss_cons (ds_ret (den_andV (den_isTup (den_var 0) (by rfl) M.b_isinstance (by rfl) M.b_tuple) (den_and1 (den_B ca_all (cr_all rfl) (by rfl) M.b_all (by decide +kernel) (da_cons (den_lc [("entry", 1)] rfl hN (di_seq (den_var 0)) (blkOk_by (by kernel_rfl)) (fun s H C cl fp => dg_name 1 hN) (fun s H C cl fp => dts_nil) (fun s H C cl fp => den_call c_is_integer hr hgu passNo (da_cons (den_var 1) (da_nil)))) (da_nil)))))) (dss_nil)
def sc_are_pairs : FnScope ["term", "entry"] ["term"] (defScope (topS 12)) := ⟨rfl, rfl, rfl, by decide +kernel, rfl, by decide +kernel, by decide +kernel⟩
theorem ok_are_pairs (F : Fun K "are_pairs" "are_pairs" (topS 12) f fd) (M : MG K w mg) (c_is_row : CalG P w K mg base 2 "is_row" 1 F_is_row) : FnG P w K mg base 3 f fd ["term"] (spM K mg 1 F_are_pairs) := def_goN F sc_are_pairs rfl rfl fun cdv A outer s H E hr hgu tk hx hp => have hN := (sc_are_pairs).nd; dss_cons (ds_ret (den_andV (den_isTup (den_var 0) (by rfl) M.b_isinstance (by rfl) M.b_tuple) (den_and1 (den_B ca_all (cr_all rfl) (by rfl) M.b_all (by decide +kernel) (da_cons (den_lc [("entry", 1)] rfl hN (di_seq (den_var 0)) (blkOk_by (by kernel_rfl)) (fun s H C cl fp => dg_name 1 hN) (fun s H C cl fp => dts_nil) (fun s H C cl fp => den_call c_is_row hr hgu passNo (da_cons (den_var 1) (da_nil)))) (da_nil)))))) (dss_nil)
def sc_is_told_rate : FnScope ["term"] ["term"] (defScope (topS 13)) := ⟨rfl, rfl, rfl, by decide +kernel, rfl, by decide +kernel, by decide +kernel⟩
theorem ok_is_told_rate (F : Fun K "is_told_rate" "is_told_rate" (topS 13) f fd) (M : MG K w mg) (c_is_row : CalG P w K mg base 2 "is_row" 1 F_is_row) : FnG P w K mg base 3 f fd ["term"] (spM K mg 1 F_is_told_rate) := def_goN F sc_is_told_rate rfl rfl fun cdv A outer s H E hr hgu tk hx hp => have hN := (sc_is_told_rate).nd; dss_cons (ds_ret (den_andV (den_isTup (den_var 0) (by rfl) M.b_isinstance (by rfl) M.b_tuple) (den_andV (den_cmp (po_eq (u64 hr)) bi_eq (den_B ca_len call_len (by rfl) M.b_len (by decide +kernel) (da_cons (den_var 0) (da_nil))) (den_int) (by with_unfolding_all rfl)) (den_andV (den_call c_is_row hr hgu hx (da_cons (den_sl (den_var 0) (do_none) (do_some (den_int))) (da_nil))) (den_and1 (den_call c_is_row hr hgu hx (da_cons (den_ix (den_var 0) (den_int)) (da_nil)))))))) (dss_nil)
def sc_is_told_chain : FnScope ["term", "entry"] ["term"] (defScope (topS 14)) := ⟨rfl, rfl, rfl, by decide +kernel, rfl, by decide +kernel, by decide +kernel⟩
theorem ok_is_told_chain (F : Fun K "is_told_chain" "is_told_chain" (topS 14) f fd) (M : MG K w mg) (c_is_integer : CalG P w K mg base 1 "is_integer" 1 F_is_integer) (c_is_told_rate : CalG P w K mg base 3 "is_told_rate" 1 F_is_told_rate) : FnG P w K mg base 4 f fd ["term"] (spM K mg 1 F_is_told_chain) := def_goN F sc_is_told_chain rfl rfl fun cdv A outer s H E hr hgu tk hx hp => have hN := (sc_is_told_chain).nd; dss_cons (ds_if (dt_w (dw_or (dt_not (dt_tru (den_isTup (den_var 0) (by rfl) M.b_isinstance (by rfl) M.b_tuple))) (dw_or (dt_cmp (po_ne (u64 hr)) bi_ne (den_B ca_len call_len (by rfl) M.b_len (by decide +kernel) (da_cons (den_var 0) (da_nil))) (den_int) (by with_unfolding_all rfl)) (dw_or (dt_not (dt_tru (den_call c_is_integer hr hgu hx (da_cons (den_ix (den_var 0) (den_int)) (da_nil))))) (dw_or1 (dt_not (dt_tru (den_isTup (den_ix (den_var 0) (den_int)) (by rfl) M.b_isinstance (by rfl) M.b_tuple)))))))) (dss_cons (ds_ret (den_bool)) (dss_nil)) (dss_nil)) (dss_cons (ds_ret (den_B ca_all (cr_all rfl) (by rfl) M.b_all (by decide +kernel) (da_cons (den_lc [("entry", 1)] rfl hN (di_seq (den_ix (den_var 0) (den_int))) (blkOk_by (by kernel_rfl)) (fun s H C cl fp => dg_name 1 hN) (fun s H C cl fp => dts_nil) (fun s H C cl fp => den_call c_is_told_rate hr hgu passNo (da_cons (den_var 1) (da_nil)))) (da_nil)))) (dss_nil))
def sc_is_told_station : FnScope ["term", "entry"] ["term"] (defScope (topS 15)) := ⟨rfl, rfl, rfl, by decide +kernel, rfl, by decide +kernel, by decide +kernel⟩
theorem ok_is_told_station (F : Fun K "is_told_station" "is_told_station" (topS 15) f fd) (M : MG K w mg) (c_are_pairs : CalG P w K mg base 3 "are_pairs" 1 F_are_pairs) : FnG P w K mg base 4 f fd ["term"] (spM K mg 1 F_is_told_station) := def_goN F sc_is_told_station rfl rfl fun cdv A outer s H E hr hgu tk hx hp => have hN := (sc_is_told_station).nd; dss_cons (ds_ret (den_andV (den_isTup (den_var 0) (by rfl) M.b_isinstance (by rfl) M.b_tuple) (den_andV (den_cmp (po_eq (u64 hr)) bi_eq (den_B ca_len call_len (by rfl) M.b_len (by decide +kernel) (da_cons (den_var 0) (da_nil))) (den_int) (by with_unfolding_all rfl)) (den_and1 (den_B ca_all (cr_all rfl) (by rfl) M.b_all (by decide +kernel) (da_cons (den_lc [("entry", 1)] rfl hN (di_seq (den_var 0)) (blkOk_by (by kernel_rfl)) (fun s H C cl fp => dg_name 1 hN) (fun s H C cl fp => dts_nil) (fun s H C cl fp => den_call c_are_pairs hr hgu passNo (da_cons (den_var 1) (da_nil)))) (da_nil))))))) (dss_nil)
def sc_are_steps : FnScope ["term", "entry"] ["term"] (defScope (topS 16)) := ⟨rfl, rfl, rfl, by decide +kernel, rfl, by decide +kernel, by decide +kernel⟩
theorem ok_are_steps (F : Fun K "are_steps" "are_steps" (topS 16) f fd) (M : MG K w mg) (c_are_pairs : CalG P w K mg base 3 "are_pairs" 1 F_are_pairs) : FnG P w K mg base 4 f fd ["term"] (spM K mg 1 F_are_steps) := def_goN F sc_are_steps rfl rfl fun cdv A outer s H E hr hgu tk hx hp => have hN := (sc_are_steps).nd; dss_cons (ds_ret (den_andV (den_isTup (den_var 0) (by rfl) M.b_isinstance (by rfl) M.b_tuple) (den_and1 (den_B ca_all (cr_all rfl) (by rfl) M.b_all (by decide +kernel) (da_cons (den_lc [("entry", 1)] rfl hN (di_seq (den_var 0)) (blkOk_by (by kernel_rfl)) (fun s H C cl fp => dg_name 1 hN) (fun s H C cl fp => dts_nil) (fun s H C cl fp => den_call c_are_pairs hr hgu passNo (da_cons (den_var 1) (da_nil)))) (da_nil)))))) (dss_nil)
def sc_are_slots : FnScope ["term"] ["term"] (defScope (topS 17)) := ⟨rfl, rfl, rfl, by decide +kernel, rfl, by decide +kernel, by decide +kernel⟩
theorem ok_are_slots (F : Fun K "are_slots" "are_slots" (topS 17) f fd) (M : MG K w mg) (c_is_integer : CalG P w K mg base 1 "is_integer" 1 F_is_integer) (c_are_pairs : CalG P w K mg base 3 "are_pairs" 1 F_are_pairs) : FnG P w K mg base 4 f fd ["term"] (spM K mg 1 F_are_slots) := def_goN F sc_are_slots rfl rfl fun cdv A outer s H E hr hgu tk hx hp => have hN := (sc_are_slots).nd; dss_cons (ds_if (dt_w (dw_or (dt_not (dt_tru (den_isTup (den_var 0) (by rfl) M.b_isinstance (by rfl) M.b_tuple))) (dw_or (dt_cmp (po_ne (u64 hr)) bi_ne (den_B ca_len call_len (by rfl) M.b_len (by decide +kernel) (da_cons (den_var 0) (da_nil))) (den_int) (by with_unfolding_all rfl)) (dw_or1 (dt_not (dt_tru (den_call c_is_integer hr hgu hx (da_cons (den_ix (den_var 0) (den_int)) (da_nil))))))))) (dss_cons (ds_ret (den_bool)) (dss_nil)) (dss_nil)) (dss_cons (ds_ret (den_andV (den_call c_are_pairs hr hgu hx (da_cons (den_ix (den_var 0) (den_int)) (da_nil))) (den_and1 (den_call c_are_pairs hr hgu hx (da_cons (den_ix (den_var 0) (den_int)) (da_nil)))))) (dss_nil))
def sc_has_form : FnScope ["thing", "term"] ["thing", "term"] (defScope (topS 19)) := ⟨rfl, rfl, rfl, by decide +kernel, rfl, by decide +kernel, by decide +kernel⟩
theorem ok_has_form (F : Fun K "has_form" "has_form" (topS 19) f fd) (M : MG K w mg) (c_is_row : CalG P w K mg base 2 "is_row" 1 F_is_row) (c_are_pairs : CalG P w K mg base 3 "are_pairs" 1 F_are_pairs) (c_is_told_chain : CalG P w K mg base 4 "is_told_chain" 1 F_is_told_chain) (c_is_told_station : CalG P w K mg base 4 "is_told_station" 1 F_is_told_station) (c_are_steps : CalG P w K mg base 4 "are_steps" 1 F_are_steps) (c_are_slots : CalG P w K mg base 4 "are_slots" 1 F_are_slots) : FnG P w K mg base 5 f fd ["thing", "term"] (spM K mg 2 F_has_form) := def_goN F sc_has_form rfl rfl fun cdv A outer s H E hr hgu tk hx hp => have hN := (sc_has_form).nd; dss_cons (ds_if (dt_tabNin M.t_FORMS (den_var 0)) (dss_cons (ds_raise M.x_BadNumber rfl tk (fun _ _ _ _ h => h)) (dss_nil)) (dss_nil)) (dss_cons (ds_ret (den_tabCall (k := 4) M.t_FORMS (fun z t ht => (show ∀ t ∈ T_FORMS.filterMap (·.2), _ from all_cons (c_is_told_chain.mono (by decide)) (all_cons (c_is_told_station.mono (by decide)) (all_cons (c_are_pairs.mono (by decide)) (all_cons (c_are_steps.mono (by decide)) (all_cons (c_are_slots.mono (by decide)) (all_cons (c_is_row.mono (by decide)) (all_nil))))))) t (tab_mem ht)) (den_var 0) hr hgu hx (da_cons (den_var 1) (da_nil)))) (dss_nil))
def sc_words_of : FnScope ["line", "words", "word", "char"] ["line"] (defScope (topS 23)) := ⟨rfl, rfl, rfl, by decide +kernel, rfl, by decide +kernel, by decide +kernel⟩
theorem ok_words_of (F : Fun K "words_of" "words_of" (topS 23) f fd) (M : MG K w mg)  : FnG P w K mg base 1 f fd ["line"] (spM K mg 1 F_words_of) := def_goN F sc_words_of rfl rfl fun cdv A outer s H E hr hgu tk hx hp => have hN := (sc_words_of).nd; dss_cons (ds_set 1 hN (den_m (T := .str) cm_split PySem.F.plainAttrs_str PySem.F.slot_str_split PySem.F.type_str_split mt_split (den_var 0) (da_cons (den_str) (da_nil)))) (dss_cons (ds_for hp rfl (di_seq (den_var 1)) (dg_name 2 hN) (dss_cons (ds_if (dt_w (dw_or (dt_cmp (po_eq (u64 hr)) bi_eq (den_var 2) (den_str) (by with_unfolding_all rfl)) (dw_or1 (dt_not (dt_tru (den_B ca_all (cr_all rfl) (by rfl) M.b_all (by decide +kernel) (da_cons (den_lc [("char", 3)] rfl hN (di_chars (den_var 2)) (blkOk_by (by kernel_rfl)) (fun s H C cl fp => dg_name 3 hN) (fun s H C cl fp => dts_nil) (fun s H C cl fp => den_chain (po_le (u64 hr)) bi_le (po_le (u64 hr)) bi_le (den_str) (den_var 3) (den_str))) (da_nil)))))))) (dss_cons (ds_ret (den_none)) (dss_nil)) (dss_nil)) (dss_nil))) (dss_cons (ds_ret (den_var 1)) (dss_nil)))
def sc_is_name : FnScope ["word", "char"] ["word"] (defScope (topS 24)) := ⟨rfl, rfl, rfl, by decide +kernel, rfl, by decide +kernel, by decide +kernel⟩
theorem ok_is_name (F : Fun K "is_name" "is_name" (topS 24) f fd) (M : MG K w mg)  : FnG P w K mg base 1 f fd ["word"] (spM K mg 1 F_is_name) := def_goN F sc_is_name rfl rfl fun cdv A outer s H E hr hgu tk hx hp => have hN := (sc_is_name).nd; dss_cons (ds_ret (den_andV (den_chain (po_le (u64 hr)) bi_le (po_le (u64 hr)) bi_le (den_int) (den_B ca_len call_len (by rfl) M.b_len (by decide +kernel) (da_cons (den_var 0) (da_nil))) (den_int)) (den_and1 (den_B ca_all (cr_all rfl) (by rfl) M.b_all (by decide +kernel) (da_cons (den_lc [("char", 1)] rfl hN (di_chars (den_var 0)) (blkOk_by (by kernel_rfl)) (fun s H C cl fp => dg_name 1 hN) (fun s H C cl fp => dts_nil) (fun s H C cl fp => den_cmp (po_in (u65 hr)) bi_in (den_var 1) (den_gs (by rfl) M.v_SMALL) (by with_unfolding_all rfl))) (da_nil)))))) (dss_nil)
def sc_number_in : FnScope ["word", "char"] ["word"] (defScope (topS 25)) := ⟨rfl, rfl, rfl, by decide +kernel, rfl, by decide +kernel, by decide +kernel⟩
theorem ok_number_in (F : Fun K "number_in" "number_in" (topS 25) f fd) (M : MG K w mg)  : FnG P w K mg base 1 f fd ["word"] (spM K mg 1 F_number_in) := def_goN F sc_number_in rfl rfl fun cdv A outer s H E hr hgu tk hx hp => have hN := (sc_number_in).nd; dss_cons (ds_if (dt_w (dw_or (dt_not (dt_chain (po_le (u64 hr)) bi_le (po_le (u64 hr)) bi_le (den_int) (den_B ca_len call_len (by rfl) M.b_len (by decide +kernel) (da_cons (den_var 0) (da_nil))) (den_int))) (dw_or1 (dt_not (dt_tru (den_B ca_all (cr_all rfl) (by rfl) M.b_all (by decide +kernel) (da_cons (den_lc [("char", 1)] rfl hN (di_chars (den_var 0)) (blkOk_by (by kernel_rfl)) (fun s H C cl fp => dg_name 1 hN) (fun s H C cl fp => dts_nil) (fun s H C cl fp => den_cmp (po_in (u65 hr)) bi_in (den_var 1) (den_gs (by rfl) M.v_FIGURES) (by with_unfolding_all rfl))) (da_nil)))))))) (dss_cons (ds_ret (den_none)) (dss_nil)) (dss_nil)) (dss_cons (ds_if (dt_w (dw_and (dt_cmp (po_eq (u64 hr)) bi_eq (den_B ca_len call_len (by rfl) M.b_len (by decide +kernel) (da_cons (den_var 0) (da_nil))) (den_int) (by with_unfolding_all rfl)) (dw_and1 (dt_cmp (po_eq (u64 hr)) bi_eq (den_ix (den_var 0) (den_int)) (den_str) (by with_unfolding_all rfl))))) (dss_cons (ds_ret (den_none)) (dss_nil)) (dss_nil)) (dss_cons (ds_ret (den_Ty ca_intS call_int_str (by rfl) M.b_int (by decide +kernel) (da_cons (den_var 0) (da_nil)))) (dss_nil)))
def sc__law_number : FnScope ["cell"] ["cell"] (defScope (topS 27)) := ⟨rfl, rfl, rfl, by decide +kernel, rfl, by decide +kernel, by decide +kernel⟩
theorem ok__law_number (F : Fun K "_law_number" "_law_number" (topS 27) f fd) (M : MG K w mg)  : FnG P w K mg base 1 f fd ["cell"] (spM K mg 1 F__law_number) := def_goN F sc__law_number rfl rfl fun cdv A outer s H E hr hgu tk hx hp => have hN := (sc__law_number).nd; dss_cons (ds_if (dt_cmp (po_lt (u64 hr)) bi_lt (den_var 0) (den_int) (by with_unfolding_all rfl)) (dss_cons (ds_ret (den_sub (den_int) (den_var 0))) (dss_nil)) (dss_nil)) (dss_cons (ds_ret (den_var 0)) (dss_nil))
def sc__law_draws : FnScope ["script", "draws", "cell", "rest", "k", "once", "twice"] ["script"] (defScope (topS 28)) := ⟨rfl, rfl, rfl, by decide +kernel, rfl, by decide +kernel, by decide +kernel⟩
theorem ok__law_draws (F : Fun K "_law_draws" "_law_draws" (topS 28) f fd) (M : MG K w mg) (c__law_number : CalG P w K mg base 1 "_law_number" 1 F__law_number) : FnG P w K mg base 2 f fd ["script"] (spM K mg 1 F__law_draws) := def_goN F sc__law_draws rfl rfl fun cdv A outer s H E hr hgu tk hx hp => have hN := (sc__law_draws).nd; dss_cons (ds_setR 1 hN (den_lst (da_nil))) (dss_cons (ds_for hp rfl (di_seq (den_var 0)) (dg_name 2 hN) (dss_cons (ds_set 3 hN (den_call c__law_number hr hgu hx (da_cons (den_var 2) (da_nil)))) (dss_cons (ds_if (dt_cmp (po_ge (u64 hr)) bi_ge (den_var 3) (den_int) (by with_unfolding_all rfl)) (dss_cons (ds_for hp rfl (di_range1 (by rfl) M.b_range (da_cons (den_int) (da_nil))) (dg_name 4 hN) (dss_cons (ds_if (dt_cmp (po_eq (u64 hr)) bi_eq (den_var 3) (den_int) (by with_unfolding_all rfl)) (dss_cons (ds_break) (dss_nil)) (dss_nil)) (dss_cons (ds_expr (den_m (T := .lst) cm_append PySem.F.plainAttrs_list PySem.F.slot_list_append PySem.F.type_list_append mt_append (den_var 1) (da_cons (den_mod (den_Ty ca_int call_int1 (by rfl) M.b_int (by decide +kernel) (da_cons (den_var 3) (da_nil))) (den_int)) (da_nil)))) (dss_cons (ds_set 3 hN (den_fdiv (den_var 3) (den_int))) (dss_nil))))) (dss_nil)) (dss_cons (ds_set 5 hN (den_mod (den_Ty ca_int call_int1 (by rfl) M.b_int (by decide +kernel) (da_cons (den_add (den_mul (den_var 3) (den_int)) (den_int)) (da_nil))) (den_int))) (dss_cons (ds_set 6 hN (den_mod (den_Ty ca_int call_int1 (by rfl) M.b_int (by decide +kernel) (da_cons (den_add (den_mul (den_var 5) (den_int)) (den_var 3)) (da_nil))) (den_int))) (dss_cons (ds_expr (den_m (T := .lst) cm_extend PySem.F.plainAttrs_list PySem.F.slot_list_extend PySem.F.type_list_extend mt_extend (den_var 1) (da_cons (den_lst (da_cons (den_mod (den_Ty ca_int call_int1 (by rfl) M.b_int (by decide +kernel) (da_cons (den_var 3) (da_nil))) (den_int)) (da_cons (den_mod (den_Ty ca_int call_int1 (by rfl) M.b_int (by decide +kernel) (da_cons (den_var 5) (da_nil))) (den_int)) (da_cons (den_mod (den_Ty ca_int call_int1 (by rfl) M.b_int (by decide +kernel) (da_cons (den_var 6) (da_nil))) (den_int)) (da_nil))))) (da_nil)))) (dss_nil))))) (dss_nil)))) (dss_cons (ds_expr (den_m0 (T := .lst) cm_reverse PySem.F.plainAttrs_list PySem.F.slot_list_reverse PySem.F.type_list_reverse mt_reverse (den_var 1))) (dss_cons (ds_ret (den_var 1)) (dss_nil))))
def sc__law_next : FnScope ["draws"] ["draws"] (defScope (topS 29)) := ⟨rfl, rfl, rfl, by decide +kernel, rfl, by decide +kernel, by decide +kernel⟩
theorem ok__law_next (F : Fun K "_law_next" "_law_next" (topS 29) f fd) (M : MG K w mg)  : FnG P w K mg base 1 f fd ["draws"] (spM K mg 1 F__law_next) := def_goN F sc__law_next rfl rfl fun cdv A outer s H E hr hgu tk hx hp => have hN := (sc__law_next).nd; dss_cons (ds_if (dt_tru (den_var 0)) (dss_cons (ds_ret (den_m0 (T := .lst) cm_pop PySem.F.plainAttrs_list PySem.F.slot_list_pop PySem.F.type_list_pop mt_pop (den_var 0))) (dss_nil)) (dss_nil)) (dss_cons (ds_ret (den_int)) (dss_nil))
def sc__law_more : FnScope ["draws", "many", "seed", "more", "k"] ["draws", "many"] (defScope (topS 30)) := ⟨rfl, rfl, rfl, by decide +kernel, rfl, by decide +kernel, by decide +kernel⟩
theorem ok__law_more (F : Fun K "_law_more" "_law_more" (topS 30) f fd) (M : MG K w mg) (c__law_next : CalG P w K mg base 1 "_law_next" 1 F__law_next) : FnG P w K mg base 2 f fd ["draws", "many"] (spM K mg 2 F__law_more) := def_goN F sc__law_more rfl rfl fun cdv A outer s H E hr hgu tk hx hp => have hN := (sc__law_more).nd; dss_cons (ds_set 2 hN (den_add (den_add (den_mul (den_int) (den_call c__law_next hr hgu hx (da_cons (den_var 0) (da_nil)))) (den_call c__law_next hr hgu hx (da_cons (den_var 0) (da_nil)))) (den_int))) (dss_cons (ds_setR 3 hN (den_lst (da_nil))) (dss_cons (ds_for hp rfl (di_range1 (by rfl) M.b_range (da_cons (den_var 1) (da_nil))) (dg_name 4 hN) (dss_cons (ds_set 2 hN (den_mod (den_Ty ca_int call_int1 (by rfl) M.b_int (by decide +kernel) (da_cons (den_add (den_mul (den_var 2) (den_int)) (den_int)) (da_nil))) (den_int))) (dss_cons (ds_expr (den_m (T := .lst) cm_append PySem.F.plainAttrs_list PySem.F.slot_list_append PySem.F.type_list_append mt_append (den_var 3) (da_cons (den_mod (den_Ty ca_int call_int1 (by rfl) M.b_int (by decide +kernel) (da_cons (den_fdiv (den_var 2) (den_int)) (da_nil))) (den_int)) (da_nil)))) (dss_nil)))) (dss_cons (ds_ret (den_add (den_var 3) (den_var 0))) (dss_nil))))
def sc__law_pick : FnScope ["draws", "some"] ["draws", "some"] (defScope (topS 31)) := ⟨rfl, rfl, rfl, by decide +kernel, rfl, by decide +kernel, by decide +kernel⟩
theorem ok__law_pick (F : Fun K "_law_pick" "_law_pick" (topS 31) f fd) (M : MG K w mg) (c__law_next : CalG P w K mg base 1 "_law_next" 1 F__law_next) : FnG P w K mg base 2 f fd ["draws", "some"] (spM K mg 2 F__law_pick) := def_goN F sc__law_pick rfl rfl fun cdv A outer s H E hr hgu tk hx hp => have hN := (sc__law_pick).nd; dss_cons (ds_ret (den_ix (den_var 1) (den_mod (den_Ty ca_int call_int1 (by rfl) M.b_int (by decide +kernel) (da_cons (den_call c__law_next hr hgu hx (da_cons (den_var 0) (da_nil))) (da_nil))) (den_B ca_len call_len (by rfl) M.b_len (by decide +kernel) (da_cons (den_var 1) (da_nil)))))) (dss_nil)
def sc__law_kind : FnScope ["error", "names", "found"] ["error"] (defScope (topS 32)) := ⟨rfl, rfl, rfl, by decide +kernel, rfl, by decide +kernel, by decide +kernel⟩
theorem kind_val (y z : Str) (h : kindTab y = some z) (a : Addr) (m : Mem) : m__law_kind a y (startE 3 [.e a]) m = .rt (.d (.str z)) m := by
  rcases kindTab_cases h with ⟨rfl, rfl⟩ | ⟨rfl, rfl⟩ | ⟨rfl, rfl⟩ | ⟨rfl, rfl⟩ | ⟨rfl, rfl⟩ | ⟨rfl, rfl⟩ | ⟨rfl, rfl⟩
  · simp [m__law_kind, sSeq, sSet, sRet, mLst, mCons, mNil, mC, mIsE, startE, Rs.bind, Rs.bindV, val, frzAll, frz, mVar, mAdd, mOp2, lift2, Rs.thenV, small, addD, peek]
    kernel_rfl
  · simp [m__law_kind, sSeq, sSet, sRet, mLst, mCons, mNil, mC, mIsE, startE, Rs.bind, Rs.bindV, val, frzAll, frz, mVar, mAdd, mOp2, lift2, Rs.thenV, small, addD, peek]
    kernel_rfl
  · simp [m__law_kind, sSeq, sSet, sRet, mLst, mCons, mNil, mC, mIsE, startE, Rs.bind, Rs.bindV, val, frzAll, frz, mVar, mAdd, mOp2, lift2, Rs.thenV, small, addD, peek]
    kernel_rfl
  · simp [m__law_kind, sSeq, sSet, sRet, mLst, mCons, mNil, mC, mIsE, startE, Rs.bind, Rs.bindV, val, frzAll, frz, mVar, mAdd, mOp2, lift2, Rs.thenV, small, addD, peek]
    kernel_rfl
  · simp [m__law_kind, sSeq, sSet, sRet, mLst, mCons, mNil, mC, mIsE, startE, Rs.bind, Rs.bindV, val, frzAll, frz, mVar, mAdd, mOp2, lift2, Rs.thenV, small, addD, peek]
    kernel_rfl
  · simp [m__law_kind, sSeq, sSet, sRet, mLst, mCons, mNil, mC, mIsE, startE, Rs.bind, Rs.bindV, val, frzAll, frz, mVar, mAdd, mOp2, lift2, Rs.thenV, small, addD, peek]
    kernel_rfl
  · simp [m__law_kind, sSeq, sSet, sRet, mLst, mCons, mNil, mC, mIsE, startE, Rs.bind, Rs.bindV, val, frzAll, frz, mVar, mAdd, mOp2, lift2, Rs.thenV, small, addD, peek]
    kernel_rfl
theorem kind_body (y z : Str) (C : Addr) (h : kindTab y = some z) (hC : mg y = some (.ref C)) (T : KindT K mg) (bi : mg "isinstance" = none) (cdv : Value) (A : Around) (outer : List PySem.Env) (s : Shared) (H : Hp) (a : Addr) (oe : Obj) (hr : L2H.RoomH 1 (A.deeper (envOfC "_law_kind" (defScope (topS 32)) s.heap.objs.size f cdv)))
    (hz : Zc (.ref C) none oe) (hf : ∃ vs, oe.data = .fields vs) : DenSs (cxE P w K mg base ["error", "names", "found"] "_law_kind" (defScope (topS 32)) f cdv A outer s H (a, oe)) E0' (defBody (topS 32)) (m__law_kind a y) := by
  obtain ⟨C2, hC2, EC, ks⟩ := T.cls y z h
  have eC : C2 = C := by rw [hC] at hC2; cases hC2; rfl
  subst eC
  obtain ⟨D_NotChain, g_NotChain, k_NotChain⟩ := ks "NotChain" "!chain" (by decide)
  obtain ⟨D_NotNet, g_NotNet, k_NotNet⟩ := ks "NotNet" "!net" (by decide)
  obtain ⟨D_NotTrace, g_NotTrace, k_NotTrace⟩ := ks "NotTrace" "!trace" (by decide)
  obtain ⟨D_NotPaper, g_NotPaper, k_NotPaper⟩ := ks "NotPaper" "!paper" (by decide)
  obtain ⟨D_BadNumber, g_BadNumber, k_BadNumber⟩ := ks "BadNumber" "!number" (by decide)
  obtain ⟨D_NoAnswer, g_NoAnswer, k_NoAnswer⟩ := ks "NoAnswer" "!none" (by decide)
  obtain ⟨D_TooLarge, g_TooLarge, k_TooLarge⟩ := ks "TooLarge" "!large" (by decide)
  have hN := (sc__law_kind).nd
  have hr : L2H.RoomH 1 ((A.deeper (envOfC "_law_kind" (defScope (topS 32)) s.heap.objs.size f cdv)).mark (some (.ref a))) := ⟨hr.dp, hr.un⟩
  exact dss_cons (ds_set 1 hN (den_lst (da_cons (den_str) (da_cons (den_str) (da_cons (den_str) (da_cons (den_str) (da_cons (den_str) (da_cons (den_str) (da_cons (den_str) (da_nil)))))))))) (dss_cons (ds_set 2 hN (den_lst (da_cons (den_isE 0 EC hz hf k_NotChain g_NotChain bi (by rfl)) (da_cons (den_isE 0 EC hz hf k_NotNet g_NotNet bi (by rfl)) (da_cons (den_isE 0 EC hz hf k_NotTrace g_NotTrace bi (by rfl)) (da_cons (den_isE 0 EC hz hf k_NotPaper g_NotPaper bi (by rfl)) (da_nil))))))) (dss_cons (ds_set 2 hN (den_add (den_var 2) (den_lst (da_cons (den_isE 0 EC hz hf k_BadNumber g_BadNumber bi (by rfl)) (da_cons (den_isE 0 EC hz hf k_NoAnswer g_NoAnswer bi (by rfl)) (da_cons (den_isE 0 EC hz hf k_TooLarge g_TooLarge bi (by rfl)) (da_nil))))))) (dss_cons (ds_ret (den_if (dt_cmp (po_eq (uH4 hr)) bi_eq (den_m (T := .lst) cm_count PySem.F.plainAttrs_list PySem.F.slot_list_count PySem.F.type_list_count (mt_countD (uH hr)) (den_var 2) (da_cons (den_bool) (da_nil))) (den_int) (by with_unfolding_all rfl)) (den_add (den_str) (den_ix (den_var 1) (den_m (T := .lst) cm_index PySem.F.plainAttrs_list PySem.F.slot_list_index PySem.F.type_list_index (mt_indexD (uH hr)) (den_var 2) (da_cons (den_bool) (da_nil))))) (den_str))) (dss_nil))))
theorem ok__law_kind (F : Fun K "_law_kind" "_law_kind" (topS 32) f fd) (hb : Binds K fd ["error"] []) (hm : mg "_law_kind" = some (.ref f)) (M : MG K w mg) (T : KindT K mg) : KindOk P w K mg base 2 "_law_kind" kindF :=
  kind_mk F sc__law_kind hb hm m__law_kind (fun y z C h1 h2 cdv A outer s H a oe hr hz hf => kind_body y z C h1 h2 T M.b_isinstance cdv A outer s H a oe hr hz hf) kind_val
def sc__law_line : FnScope ["line", "words", "word", "sign"] ["line"] (defScope (topS 33)) := ⟨rfl, rfl, rfl, by decide +kernel, rfl, by decide +kernel, by decide +kernel⟩
theorem ok__law_line (F : Fun K "_law_line" "_law_line" (topS 33) f fd) (M : MG K w mg)  : FnG P w K mg base 1 f fd ["line"] (spM K mg 1 F__law_line) := def_goN F sc__law_line rfl rfl fun cdv A outer s H E hr hgu tk hx hp => have hN := (sc__law_line).nd; dss_cons (ds_set 1 hN (den_m (T := .str) cm_split PySem.F.plainAttrs_str PySem.F.slot_str_split PySem.F.type_str_split mt_split (den_var 0) (da_cons (den_str) (da_nil)))) (dss_cons (ds_for hp rfl (di_seq (den_var 1)) (dg_name 2 hN) (dss_cons (ds_if (dt_w (dw_or (dt_cmp (po_eq (u64 hr)) bi_eq (den_var 2) (den_str) (by with_unfolding_all rfl)) (dw_or1 (dt_not (dt_tru (den_B ca_all (cr_all rfl) (by rfl) M.b_all (by decide +kernel) (da_cons (den_lc [("sign", 3)] rfl hN (di_chars (den_var 2)) (blkOk_by (by kernel_rfl)) (fun s H C cl fp => dg_name 3 hN) (fun s H C cl fp => dts_nil) (fun s H C cl fp => den_chain (po_le (u64 hr)) bi_le (po_le (u64 hr)) bi_le (den_str) (den_var 3) (den_str))) (da_nil)))))))) (dss_cons (ds_ret (den_none)) (dss_nil)) (dss_nil)) (dss_nil))) (dss_cons (ds_ret (den_var 1)) (dss_nil)))
def sc__law_number_of : FnScope ["word", "k"] ["word"] (defScope (topS 34)) := ⟨rfl, rfl, rfl, by decide +kernel, rfl, by decide +kernel, by decide +kernel⟩
theorem ok__law_number_of (F : Fun K "_law_number_of" "_law_number_of" (topS 34) f fd) (M : MG K w mg)  : FnG P w K mg base 1 f fd ["word"] (spM K mg 1 F__law_number_of) := def_goN F sc__law_number_of rfl rfl fun cdv A outer s H E hr hgu tk hx hp => have hN := (sc__law_number_of).nd; dss_cons (ds_ret (den_if (dt_cmp (po_in (u65 hr)) bi_in (den_var 0) (den_lc [("k", 1)] rfl hN (di_range1 (by rfl) M.b_range (da_cons (den_int) (da_nil))) (blkOk_by (by kernel_rfl)) (fun s H C cl fp => dg_name 1 hN) (fun s H C cl fp => dts_nil) (fun s H C cl fp => den_Ty ca_strI call_str_int (by rfl) M.b_str (by decide +kernel) (da_cons (den_var 1) (da_nil)))) (by with_unfolding_all rfl)) (den_Ty ca_intS call_int_str (by rfl) M.b_int (by decide +kernel) (da_cons (den_var 0) (da_nil))) (den_none))) (dss_nil)
def sc__law_is_row : FnScope ["term", "entry"] ["term"] (defScope (topS 35)) := ⟨rfl, rfl, rfl, by decide +kernel, rfl, by decide +kernel, by decide +kernel⟩
theorem ok__law_is_row (F : Fun K "_law_is_row" "_law_is_row" (topS 35) f fd) (M : MG K w mg)  : FnG P w K mg base 1 f fd ["term"] (spM K mg 1 F__law_is_row) := def_goN F sc__law_is_row rfl rfl fun cdv A outer s H E hr hgu tk hx hp => have hN := (sc__law_is_row).nd; dss_cons (ds_ret (den_andV (den_isTup (den_var 0) (by rfl) M.b_isinstance (by rfl) M.b_tuple) (den_and1 (den_B ca_all (cr_all rfl) (by rfl) M.b_all (by decide +kernel) (da_cons (den_lc [("entry", 1)] rfl hN (di_seq (den_var 0)) (blkOk_by (by kernel_rfl)) (fun s H C cl fp => dg_name 1 hN) (fun s H C cl fp => dts_nil) (fun s H C cl fp => den_isInt (den_var 1) (by rfl) M.b_isinstance (by rfl) M.b_int)) (da_nil)))))) (dss_nil)
def sc__law_are_pairs : FnScope ["term", "entry"] ["term"] (defScope (topS 36)) := ⟨rfl, rfl, rfl, by decide +kernel, rfl, by decide +kernel, by decide +kernel⟩
theorem ok__law_are_pairs (F : Fun K "_law_are_pairs" "_law_are_pairs" (topS 36) f fd) (M : MG K w mg) (c__law_is_row : CalG P w K mg base 1 "_law_is_row" 1 F__law_is_row) : FnG P w K mg base 2 f fd ["term"] (spM K mg 1 F__law_are_pairs) := def_goN F sc__law_are_pairs rfl rfl fun cdv A outer s H E hr hgu tk hx hp => have hN := (sc__law_are_pairs).nd; dss_cons (ds_ret (den_andV (den_isTup (den_var 0) (by rfl) M.b_isinstance (by rfl) M.b_tuple) (den_and1 (den_B ca_all (cr_all rfl) (by rfl) M.b_all (by decide +kernel) (da_cons (den_lc [("entry", 1)] rfl hN (di_seq (den_var 0)) (blkOk_by (by kernel_rfl)) (fun s H C cl fp => dg_name 1 hN) (fun s H C cl fp => dts_nil) (fun s H C cl fp => den_call c__law_is_row hr hgu passNo (da_cons (den_var 1) (da_nil)))) (da_nil)))))) (dss_nil)
def sc__law_due : FnScope ["thing", "term", "entry"] ["thing", "term"] (defScope (topS 37)) := ⟨rfl, rfl, rfl, by decide +kernel, rfl, by decide +kernel, by decide +kernel⟩
theorem ok__law_due (F : Fun K "_law_due" "_law_due" (topS 37) f fd) (M : MG K w mg) (c__law_is_row : CalG P w K mg base 1 "_law_is_row" 1 F__law_is_row) (c__law_are_pairs : CalG P w K mg base 2 "_law_are_pairs" 1 F__law_are_pairs) : FnG P w K mg base 3 f fd ["thing", "term"] (spM K mg 2 F__law_due) := def_goN F sc__law_due rfl rfl fun cdv A outer s H E hr hgu tk hx hp => have hN := (sc__law_due).nd; dss_cons (ds_if (dt_cmp (po_eq (u64 hr)) bi_eq (den_var 0) (den_str) (by with_unfolding_all rfl)) (dss_cons (ds_ret (den_call c__law_is_row hr hgu hx (da_cons (den_var 1) (da_nil)))) (dss_nil)) (dss_nil)) (dss_cons (ds_if (dt_w (dw_or (dt_cmp (po_eq (u64 hr)) bi_eq (den_var 0) (den_str) (by with_unfolding_all rfl)) (dw_or1 (dt_not (dt_tru (den_isTup (den_var 1) (by rfl) M.b_isinstance (by rfl) M.b_tuple)))))) (dss_cons (ds_ret (den_call c__law_are_pairs hr hgu hx (da_cons (den_var 1) (da_nil)))) (dss_nil)) (dss_nil)) (dss_cons (ds_if (dt_cmp (po_eq (u64 hr)) bi_eq (den_var 0) (den_str) (by with_unfolding_all rfl)) (dss_cons (ds_ret (den_B ca_all (cr_all rfl) (by rfl) M.b_all (by decide +kernel) (da_cons (den_lc [("entry", 2)] rfl hN (di_seq (den_var 1)) (blkOk_by (by kernel_rfl)) (fun s H C cl fp => dg_name 2 hN) (fun s H C cl fp => dts_nil) (fun s H C cl fp => den_call c__law_are_pairs hr hgu passNo (da_cons (den_var 2) (da_nil)))) (da_nil)))) (dss_nil)) (dss_nil)) (dss_cons (ds_if (dt_cmp (po_eq (u64 hr)) bi_eq (den_var 0) (den_str) (by with_unfolding_all rfl)) (dss_cons (ds_ret (den_andV (den_cmp (po_eq (u64 hr)) bi_eq (den_B ca_len call_len (by rfl) M.b_len (by decide +kernel) (da_cons (den_var 1) (da_nil))) (den_int) (by with_unfolding_all rfl)) (den_and1 (den_B ca_all (cr_all rfl) (by rfl) M.b_all (by decide +kernel) (da_cons (den_lc [("entry", 2)] rfl hN (di_seq (den_var 1)) (blkOk_by (by kernel_rfl)) (fun s H C cl fp => dg_name 2 hN) (fun s H C cl fp => dts_nil) (fun s H C cl fp => den_call c__law_are_pairs hr hgu passNo (da_cons (den_var 2) (da_nil)))) (da_nil)))))) (dss_nil)) (dss_nil)) (dss_cons (ds_if (dt_cmp (po_eq (u64 hr)) bi_eq (den_var 0) (den_str) (by with_unfolding_all rfl)) (dss_cons (ds_ret (den_andV (den_cmp (po_eq (u64 hr)) bi_eq (den_B ca_len call_len (by rfl) M.b_len (by decide +kernel) (da_cons (den_var 1) (da_nil))) (den_int) (by with_unfolding_all rfl)) (den_andV (den_isInt (den_ix (den_var 1) (den_int)) (by rfl) M.b_isinstance (by rfl) M.b_int) (den_andV (den_call c__law_are_pairs hr hgu hx (da_cons (den_ix (den_var 1) (den_int)) (da_nil))) (den_and1 (den_call c__law_are_pairs hr hgu hx (da_cons (den_ix (den_var 1) (den_int)) (da_nil)))))))) (dss_nil)) (dss_nil)) (dss_cons (ds_if (dt_w (dw_or (dt_cmp (po_ne (u64 hr)) bi_ne (den_B ca_len call_len (by rfl) M.b_len (by decide +kernel) (da_cons (den_var 1) (da_nil))) (den_int) (by with_unfolding_all rfl)) (dw_or (dt_not (dt_tru (den_isInt (den_ix (den_var 1) (den_int)) (by rfl) M.b_isinstance (by rfl) M.b_int))) (dw_or1 (dt_not (dt_tru (den_isTup (den_ix (den_var 1) (den_int)) (by rfl) M.b_isinstance (by rfl) M.b_tuple))))))) (dss_cons (ds_ret (den_bool)) (dss_nil)) (dss_nil)) (dss_cons (ds_ret (den_B ca_all (cr_all rfl) (by rfl) M.b_all (by decide +kernel) (da_cons (den_lc [("entry", 2)] rfl hN (di_seq (den_ix (den_var 1) (den_int))) (blkOk_by (by kernel_rfl)) (fun s H C cl fp => dg_name 2 hN) (fun s H C cl fp => dts_nil) (fun s H C cl fp => den_andV (den_isTup (den_var 2) (by rfl) M.b_isinstance (by rfl) M.b_tuple) (den_andV (den_cmp (po_eq (u64 hr)) bi_eq (den_B ca_len call_len (by rfl) M.b_len (by decide +kernel) (da_cons (den_var 2) (da_nil))) (den_int) (by with_unfolding_all rfl)) (den_andV (den_call c__law_is_row hr hgu passNo (da_cons (den_sl (den_var 2) (do_none) (do_some (den_int))) (da_nil))) (den_and1 (den_call c__law_is_row hr hgu passNo (da_cons (den_ix (den_var 2) (den_int)) (da_nil)))))))) (da_nil)))) (dss_nil)))))))
def sc__law_spoilt : FnScope ["draws", "term", "at", "kind"] ["draws", "term"] (defScope (topS 38)) := ⟨rfl, rfl, rfl, by decide +kernel, rfl, by decide +kernel, by decide +kernel⟩
theorem ok__law_spoilt_1 (F : Fun K "_law_spoilt" "_law_spoilt" (topS 38) f fd) (M : MG K w mg) (c__law_next : CalG P w K mg base 1 "_law_next" 1 F__law_next) (c__law_pick : CalG P w K mg base 2 "_law_pick" 2 F__law_pick) (c__law_spoilt : CalG P w K mg base 3 "_law_spoilt" 2 F__law_spoilt_0) : FnG P w K mg base 4 f fd ["draws", "term"] (spM K mg 2 F__law_spoilt_1) := def_goN F sc__law_spoilt rfl rfl fun cdv A outer s H E hr hgu tk hx hp => have hN := (sc__law_spoilt).nd; dss_cons (ds_if (dt_w (dw_or (dt_not (dt_tru (den_isTup (den_var 1) (by rfl) M.b_isinstance (by rfl) M.b_tuple))) (dw_or1 (dt_cmp (po_eq (u64 hr)) bi_eq (den_mod (den_Ty ca_int call_int1 (by rfl) M.b_int (by decide +kernel) (da_cons (den_call c__law_next hr hgu hx (da_cons (den_var 0) (da_nil))) (da_nil))) (den_int)) (den_int) (by with_unfolding_all rfl))))) (dss_cons (ds_ret (den_call c__law_pick hr hgu hx (da_cons (den_var 0) (da_cons (den_lst (da_cons (den_none) (da_cons (den_str) (da_cons (den_str) (da_cons (den_int) (da_cons (den_tup (da_nil)) (da_cons (den_tup (da_cons (den_int) (da_nil))) (da_cons (den_tup (da_cons (den_tup (da_nil)) (da_nil))) (da_cons (den_tup (da_cons (den_str) (da_nil))) (da_cons (den_var 1) (da_nil))))))))))) (da_nil))))) (dss_nil)) (dss_nil)) (dss_cons (ds_if (dt_cmp (po_eq (u64 hr)) bi_eq (den_var 1) (den_tup (da_nil)) (by with_unfolding_all rfl)) (dss_cons (ds_ret (den_call c__law_pick hr hgu hx (da_cons (den_var 0) (da_cons (den_lst (da_cons (den_tup (da_cons (den_int) (da_nil))) (da_cons (den_tup (da_cons (den_str) (da_nil))) (da_cons (den_tup (da_cons (den_tup (da_nil)) (da_nil))) (da_cons (den_none) (da_nil)))))) (da_nil))))) (dss_nil)) (dss_nil)) (dss_cons (ds_set 2 hN (den_mod (den_Ty ca_int call_int1 (by rfl) M.b_int (by decide +kernel) (da_cons (den_call c__law_next hr hgu hx (da_cons (den_var 0) (da_nil))) (da_nil))) (den_B ca_len call_len (by rfl) M.b_len (by decide +kernel) (da_cons (den_var 1) (da_nil))))) (dss_cons (ds_set 3 hN (den_mod (den_Ty ca_int call_int1 (by rfl) M.b_int (by decide +kernel) (da_cons (den_call c__law_next hr hgu hx (da_cons (den_var 0) (da_nil))) (da_nil))) (den_int))) (dss_cons (ds_if (dt_cmp (po_eq (u64 hr)) bi_eq (den_var 3) (den_int) (by with_unfolding_all rfl)) (dss_cons (ds_ret (den_add (den_sl (den_var 1) (do_none) (do_some (den_var 2))) (den_sl (den_var 1) (do_some (den_add (den_var 2) (den_int))) (do_none)))) (dss_nil)) (dss_nil)) (dss_cons (ds_ret (den_if (dt_cmp (po_eq (u64 hr)) bi_eq (den_var 3) (den_int) (by with_unfolding_all rfl)) (den_add (den_var 1) (den_sl (den_var 1) (do_some (den_var 2)) (do_some (den_add (den_var 2) (den_int))))) (den_add (den_add (den_sl (den_var 1) (do_none) (do_some (den_var 2))) (den_tup (da_cons (den_call c__law_spoilt hr hgu hx (da_cons (den_var 0) (da_cons (den_ix (den_var 1) (den_var 2)) (da_nil)))) (da_nil)))) (den_sl (den_var 1) (do_some (den_add (den_var 2) (den_int))) (do_none))))) (dss_nil))))))
theorem ok__law_spoilt_2 (F : Fun K "_law_spoilt" "_law_spoilt" (topS 38) f fd) (M : MG K w mg) (c__law_next : CalG P w K mg base 1 "_law_next" 1 F__law_next) (c__law_pick : CalG P w K mg base 2 "_law_pick" 2 F__law_pick) (c__law_spoilt : CalG P w K mg base 4 "_law_spoilt" 2 F__law_spoilt_1) : FnG P w K mg base 5 f fd ["draws", "term"] (spM K mg 2 F__law_spoilt_2) := def_goN F sc__law_spoilt rfl rfl fun cdv A outer s H E hr hgu tk hx hp => have hN := (sc__law_spoilt).nd; dss_cons (ds_if (dt_w (dw_or (dt_not (dt_tru (den_isTup (den_var 1) (by rfl) M.b_isinstance (by rfl) M.b_tuple))) (dw_or1 (dt_cmp (po_eq (u64 hr)) bi_eq (den_mod (den_Ty ca_int call_int1 (by rfl) M.b_int (by decide +kernel) (da_cons (den_call c__law_next hr hgu hx (da_cons (den_var 0) (da_nil))) (da_nil))) (den_int)) (den_int) (by with_unfolding_all rfl))))) (dss_cons (ds_ret (den_call c__law_pick hr hgu hx (da_cons (den_var 0) (da_cons (den_lst (da_cons (den_none) (da_cons (den_str) (da_cons (den_str) (da_cons (den_int) (da_cons (den_tup (da_nil)) (da_cons (den_tup (da_cons (den_int) (da_nil))) (da_cons (den_tup (da_cons (den_tup (da_nil)) (da_nil))) (da_cons (den_tup (da_cons (den_str) (da_nil))) (da_cons (den_var 1) (da_nil))))))))))) (da_nil))))) (dss_nil)) (dss_nil)) (dss_cons (ds_if (dt_cmp (po_eq (u64 hr)) bi_eq (den_var 1) (den_tup (da_nil)) (by with_unfolding_all rfl)) (dss_cons (ds_ret (den_call c__law_pick hr hgu hx (da_cons (den_var 0) (da_cons (den_lst (da_cons (den_tup (da_cons (den_int) (da_nil))) (da_cons (den_tup (da_cons (den_str) (da_nil))) (da_cons (den_tup (da_cons (den_tup (da_nil)) (da_nil))) (da_cons (den_none) (da_nil)))))) (da_nil))))) (dss_nil)) (dss_nil)) (dss_cons (ds_set 2 hN (den_mod (den_Ty ca_int call_int1 (by rfl) M.b_int (by decide +kernel) (da_cons (den_call c__law_next hr hgu hx (da_cons (den_var 0) (da_nil))) (da_nil))) (den_B ca_len call_len (by rfl) M.b_len (by decide +kernel) (da_cons (den_var 1) (da_nil))))) (dss_cons (ds_set 3 hN (den_mod (den_Ty ca_int call_int1 (by rfl) M.b_int (by decide +kernel) (da_cons (den_call c__law_next hr hgu hx (da_cons (den_var 0) (da_nil))) (da_nil))) (den_int))) (dss_cons (ds_if (dt_cmp (po_eq (u64 hr)) bi_eq (den_var 3) (den_int) (by with_unfolding_all rfl)) (dss_cons (ds_ret (den_add (den_sl (den_var 1) (do_none) (do_some (den_var 2))) (den_sl (den_var 1) (do_some (den_add (den_var 2) (den_int))) (do_none)))) (dss_nil)) (dss_nil)) (dss_cons (ds_ret (den_if (dt_cmp (po_eq (u64 hr)) bi_eq (den_var 3) (den_int) (by with_unfolding_all rfl)) (den_add (den_var 1) (den_sl (den_var 1) (do_some (den_var 2)) (do_some (den_add (den_var 2) (den_int))))) (den_add (den_add (den_sl (den_var 1) (do_none) (do_some (den_var 2))) (den_tup (da_cons (den_call c__law_spoilt hr hgu hx (da_cons (den_var 0) (da_cons (den_ix (den_var 1) (den_var 2)) (da_nil)))) (da_nil)))) (den_sl (den_var 1) (do_some (den_add (den_var 2) (den_int))) (do_none))))) (dss_nil))))))
theorem ok__law_spoilt_3 (F : Fun K "_law_spoilt" "_law_spoilt" (topS 38) f fd) (M : MG K w mg) (c__law_next : CalG P w K mg base 1 "_law_next" 1 F__law_next) (c__law_pick : CalG P w K mg base 2 "_law_pick" 2 F__law_pick) (c__law_spoilt : CalG P w K mg base 5 "_law_spoilt" 2 F__law_spoilt_2) : FnG P w K mg base 6 f fd ["draws", "term"] (spM K mg 2 F__law_spoilt_3) := def_goN F sc__law_spoilt rfl rfl fun cdv A outer s H E hr hgu tk hx hp => have hN := (sc__law_spoilt).nd; dss_cons (ds_if (dt_w (dw_or (dt_not (dt_tru (den_isTup (den_var 1) (by rfl) M.b_isinstance (by rfl) M.b_tuple))) (dw_or1 (dt_cmp (po_eq (u64 hr)) bi_eq (den_mod (den_Ty ca_int call_int1 (by rfl) M.b_int (by decide +kernel) (da_cons (den_call c__law_next hr hgu hx (da_cons (den_var 0) (da_nil))) (da_nil))) (den_int)) (den_int) (by with_unfolding_all rfl))))) (dss_cons (ds_ret (den_call c__law_pick hr hgu hx (da_cons (den_var 0) (da_cons (den_lst (da_cons (den_none) (da_cons (den_str) (da_cons (den_str) (da_cons (den_int) (da_cons (den_tup (da_nil)) (da_cons (den_tup (da_cons (den_int) (da_nil))) (da_cons (den_tup (da_cons (den_tup (da_nil)) (da_nil))) (da_cons (den_tup (da_cons (den_str) (da_nil))) (da_cons (den_var 1) (da_nil))))))))))) (da_nil))))) (dss_nil)) (dss_nil)) (dss_cons (ds_if (dt_cmp (po_eq (u64 hr)) bi_eq (den_var 1) (den_tup (da_nil)) (by with_unfolding_all rfl)) (dss_cons (ds_ret (den_call c__law_pick hr hgu hx (da_cons (den_var 0) (da_cons (den_lst (da_cons (den_tup (da_cons (den_int) (da_nil))) (da_cons (den_tup (da_cons (den_str) (da_nil))) (da_cons (den_tup (da_cons (den_tup (da_nil)) (da_nil))) (da_cons (den_none) (da_nil)))))) (da_nil))))) (dss_nil)) (dss_nil)) (dss_cons (ds_set 2 hN (den_mod (den_Ty ca_int call_int1 (by rfl) M.b_int (by decide +kernel) (da_cons (den_call c__law_next hr hgu hx (da_cons (den_var 0) (da_nil))) (da_nil))) (den_B ca_len call_len (by rfl) M.b_len (by decide +kernel) (da_cons (den_var 1) (da_nil))))) (dss_cons (ds_set 3 hN (den_mod (den_Ty ca_int call_int1 (by rfl) M.b_int (by decide +kernel) (da_cons (den_call c__law_next hr hgu hx (da_cons (den_var 0) (da_nil))) (da_nil))) (den_int))) (dss_cons (ds_if (dt_cmp (po_eq (u64 hr)) bi_eq (den_var 3) (den_int) (by with_unfolding_all rfl)) (dss_cons (ds_ret (den_add (den_sl (den_var 1) (do_none) (do_some (den_var 2))) (den_sl (den_var 1) (do_some (den_add (den_var 2) (den_int))) (do_none)))) (dss_nil)) (dss_nil)) (dss_cons (ds_ret (den_if (dt_cmp (po_eq (u64 hr)) bi_eq (den_var 3) (den_int) (by with_unfolding_all rfl)) (den_add (den_var 1) (den_sl (den_var 1) (do_some (den_var 2)) (do_some (den_add (den_var 2) (den_int))))) (den_add (den_add (den_sl (den_var 1) (do_none) (do_some (den_var 2))) (den_tup (da_cons (den_call c__law_spoilt hr hgu hx (da_cons (den_var 0) (da_cons (den_ix (den_var 1) (den_var 2)) (da_nil)))) (da_nil)))) (den_sl (den_var 1) (do_some (den_add (den_var 2) (den_int))) (do_none))))) (dss_nil))))))
theorem ok__law_spoilt_4 (F : Fun K "_law_spoilt" "_law_spoilt" (topS 38) f fd) (M : MG K w mg) (c__law_next : CalG P w K mg base 1 "_law_next" 1 F__law_next) (c__law_pick : CalG P w K mg base 2 "_law_pick" 2 F__law_pick) (c__law_spoilt : CalG P w K mg base 6 "_law_spoilt" 2 F__law_spoilt_3) : FnG P w K mg base 7 f fd ["draws", "term"] (spM K mg 2 F__law_spoilt_4) := def_goN F sc__law_spoilt rfl rfl fun cdv A outer s H E hr hgu tk hx hp => have hN := (sc__law_spoilt).nd; dss_cons (ds_if (dt_w (dw_or (dt_not (dt_tru (den_isTup (den_var 1) (by rfl) M.b_isinstance (by rfl) M.b_tuple))) (dw_or1 (dt_cmp (po_eq (u64 hr)) bi_eq (den_mod (den_Ty ca_int call_int1 (by rfl) M.b_int (by decide +kernel) (da_cons (den_call c__law_next hr hgu hx (da_cons (den_var 0) (da_nil))) (da_nil))) (den_int)) (den_int) (by with_unfolding_all rfl))))) (dss_cons (ds_ret (den_call c__law_pick hr hgu hx (da_cons (den_var 0) (da_cons (den_lst (da_cons (den_none) (da_cons (den_str) (da_cons (den_str) (da_cons (den_int) (da_cons (den_tup (da_nil)) (da_cons (den_tup (da_cons (den_int) (da_nil))) (da_cons (den_tup (da_cons (den_tup (da_nil)) (da_nil))) (da_cons (den_tup (da_cons (den_str) (da_nil))) (da_cons (den_var 1) (da_nil))))))))))) (da_nil))))) (dss_nil)) (dss_nil)) (dss_cons (ds_if (dt_cmp (po_eq (u64 hr)) bi_eq (den_var 1) (den_tup (da_nil)) (by with_unfolding_all rfl)) (dss_cons (ds_ret (den_call c__law_pick hr hgu hx (da_cons (den_var 0) (da_cons (den_lst (da_cons (den_tup (da_cons (den_int) (da_nil))) (da_cons (den_tup (da_cons (den_str) (da_nil))) (da_cons (den_tup (da_cons (den_tup (da_nil)) (da_nil))) (da_cons (den_none) (da_nil)))))) (da_nil))))) (dss_nil)) (dss_nil)) (dss_cons (ds_set 2 hN (den_mod (den_Ty ca_int call_int1 (by rfl) M.b_int (by decide +kernel) (da_cons (den_call c__law_next hr hgu hx (da_cons (den_var 0) (da_nil))) (da_nil))) (den_B ca_len call_len (by rfl) M.b_len (by decide +kernel) (da_cons (den_var 1) (da_nil))))) (dss_cons (ds_set 3 hN (den_mod (den_Ty ca_int call_int1 (by rfl) M.b_int (by decide +kernel) (da_cons (den_call c__law_next hr hgu hx (da_cons (den_var 0) (da_nil))) (da_nil))) (den_int))) (dss_cons (ds_if (dt_cmp (po_eq (u64 hr)) bi_eq (den_var 3) (den_int) (by with_unfolding_all rfl)) (dss_cons (ds_ret (den_add (den_sl (den_var 1) (do_none) (do_some (den_var 2))) (den_sl (den_var 1) (do_some (den_add (den_var 2) (den_int))) (do_none)))) (dss_nil)) (dss_nil)) (dss_cons (ds_ret (den_if (dt_cmp (po_eq (u64 hr)) bi_eq (den_var 3) (den_int) (by with_unfolding_all rfl)) (den_add (den_var 1) (den_sl (den_var 1) (do_some (den_var 2)) (do_some (den_add (den_var 2) (den_int))))) (den_add (den_add (den_sl (den_var 1) (do_none) (do_some (den_var 2))) (den_tup (da_cons (den_call c__law_spoilt hr hgu hx (da_cons (den_var 0) (da_cons (den_ix (den_var 1) (den_var 2)) (da_nil)))) (da_nil)))) (den_sl (den_var 1) (do_some (den_add (den_var 2) (den_int))) (do_none))))) (dss_nil))))))
theorem ok__law_spoilt_5 (F : Fun K "_law_spoilt" "_law_spoilt" (topS 38) f fd) (M : MG K w mg) (c__law_next : CalG P w K mg base 1 "_law_next" 1 F__law_next) (c__law_pick : CalG P w K mg base 2 "_law_pick" 2 F__law_pick) (c__law_spoilt : CalG P w K mg base 7 "_law_spoilt" 2 F__law_spoilt_4) : FnG P w K mg base 8 f fd ["draws", "term"] (spM K mg 2 F__law_spoilt_5) := def_goN F sc__law_spoilt rfl rfl fun cdv A outer s H E hr hgu tk hx hp => have hN := (sc__law_spoilt).nd; dss_cons (ds_if (dt_w (dw_or (dt_not (dt_tru (den_isTup (den_var 1) (by rfl) M.b_isinstance (by rfl) M.b_tuple))) (dw_or1 (dt_cmp (po_eq (u64 hr)) bi_eq (den_mod (den_Ty ca_int call_int1 (by rfl) M.b_int (by decide +kernel) (da_cons (den_call c__law_next hr hgu hx (da_cons (den_var 0) (da_nil))) (da_nil))) (den_int)) (den_int) (by with_unfolding_all rfl))))) (dss_cons (ds_ret (den_call c__law_pick hr hgu hx (da_cons (den_var 0) (da_cons (den_lst (da_cons (den_none) (da_cons (den_str) (da_cons (den_str) (da_cons (den_int) (da_cons (den_tup (da_nil)) (da_cons (den_tup (da_cons (den_int) (da_nil))) (da_cons (den_tup (da_cons (den_tup (da_nil)) (da_nil))) (da_cons (den_tup (da_cons (den_str) (da_nil))) (da_cons (den_var 1) (da_nil))))))))))) (da_nil))))) (dss_nil)) (dss_nil)) (dss_cons (ds_if (dt_cmp (po_eq (u64 hr)) bi_eq (den_var 1) (den_tup (da_nil)) (by with_unfolding_all rfl)) (dss_cons (ds_ret (den_call c__law_pick hr hgu hx (da_cons (den_var 0) (da_cons (den_lst (da_cons (den_tup (da_cons (den_int) (da_nil))) (da_cons (den_tup (da_cons (den_str) (da_nil))) (da_cons (den_tup (da_cons (den_tup (da_nil)) (da_nil))) (da_cons (den_none) (da_nil)))))) (da_nil))))) (dss_nil)) (dss_nil)) (dss_cons (ds_set 2 hN (den_mod (den_Ty ca_int call_int1 (by rfl) M.b_int (by decide +kernel) (da_cons (den_call c__law_next hr hgu hx (da_cons (den_var 0) (da_nil))) (da_nil))) (den_B ca_len call_len (by rfl) M.b_len (by decide +kernel) (da_cons (den_var 1) (da_nil))))) (dss_cons (ds_set 3 hN (den_mod (den_Ty ca_int call_int1 (by rfl) M.b_int (by decide +kernel) (da_cons (den_call c__law_next hr hgu hx (da_cons (den_var 0) (da_nil))) (da_nil))) (den_int))) (dss_cons (ds_if (dt_cmp (po_eq (u64 hr)) bi_eq (den_var 3) (den_int) (by with_unfolding_all rfl)) (dss_cons (ds_ret (den_add (den_sl (den_var 1) (do_none) (do_some (den_var 2))) (den_sl (den_var 1) (do_some (den_add (den_var 2) (den_int))) (do_none)))) (dss_nil)) (dss_nil)) (dss_cons (ds_ret (den_if (dt_cmp (po_eq (u64 hr)) bi_eq (den_var 3) (den_int) (by with_unfolding_all rfl)) (den_add (den_var 1) (den_sl (den_var 1) (do_some (den_var 2)) (do_some (den_add (den_var 2) (den_int))))) (den_add (den_add (den_sl (den_var 1) (do_none) (do_some (den_var 2))) (den_tup (da_cons (den_call c__law_spoilt hr hgu hx (da_cons (den_var 0) (da_cons (den_ix (den_var 1) (den_var 2)) (da_nil)))) (da_nil)))) (den_sl (den_var 1) (do_some (den_add (den_var 2) (den_int))) (do_none))))) (dss_nil))))))
theorem ok__law_spoilt_6 (F : Fun K "_law_spoilt" "_law_spoilt" (topS 38) f fd) (M : MG K w mg) (c__law_next : CalG P w K mg base 1 "_law_next" 1 F__law_next) (c__law_pick : CalG P w K mg base 2 "_law_pick" 2 F__law_pick) (c__law_spoilt : CalG P w K mg base 8 "_law_spoilt" 2 F__law_spoilt_5) : FnG P w K mg base 9 f fd ["draws", "term"] (spM K mg 2 F__law_spoilt_6) := def_goN F sc__law_spoilt rfl rfl fun cdv A outer s H E hr hgu tk hx hp => have hN := (sc__law_spoilt).nd; dss_cons (ds_if (dt_w (dw_or (dt_not (dt_tru (den_isTup (den_var 1) (by rfl) M.b_isinstance (by rfl) M.b_tuple))) (dw_or1 (dt_cmp (po_eq (u64 hr)) bi_eq (den_mod (den_Ty ca_int call_int1 (by rfl) M.b_int (by decide +kernel) (da_cons (den_call c__law_next hr hgu hx (da_cons (den_var 0) (da_nil))) (da_nil))) (den_int)) (den_int) (by with_unfolding_all rfl))))) (dss_cons (ds_ret (den_call c__law_pick hr hgu hx (da_cons (den_var 0) (da_cons (den_lst (da_cons (den_none) (da_cons (den_str) (da_cons (den_str) (da_cons (den_int) (da_cons (den_tup (da_nil)) (da_cons (den_tup (da_cons (den_int) (da_nil))) (da_cons (den_tup (da_cons (den_tup (da_nil)) (da_nil))) (da_cons (den_tup (da_cons (den_str) (da_nil))) (da_cons (den_var 1) (da_nil))))))))))) (da_nil))))) (dss_nil)) (dss_nil)) (dss_cons (ds_if (dt_cmp (po_eq (u64 hr)) bi_eq (den_var 1) (den_tup (da_nil)) (by with_unfolding_all rfl)) (dss_cons (ds_ret (den_call c__law_pick hr hgu hx (da_cons (den_var 0) (da_cons (den_lst (da_cons (den_tup (da_cons (den_int) (da_nil))) (da_cons (den_tup (da_cons (den_str) (da_nil))) (da_cons (den_tup (da_cons (den_tup (da_nil)) (da_nil))) (da_cons (den_none) (da_nil)))))) (da_nil))))) (dss_nil)) (dss_nil)) (dss_cons (ds_set 2 hN (den_mod (den_Ty ca_int call_int1 (by rfl) M.b_int (by decide +kernel) (da_cons (den_call c__law_next hr hgu hx (da_cons (den_var 0) (da_nil))) (da_nil))) (den_B ca_len call_len (by rfl) M.b_len (by decide +kernel) (da_cons (den_var 1) (da_nil))))) (dss_cons (ds_set 3 hN (den_mod (den_Ty ca_int call_int1 (by rfl) M.b_int (by decide +kernel) (da_cons (den_call c__law_next hr hgu hx (da_cons (den_var 0) (da_nil))) (da_nil))) (den_int))) (dss_cons (ds_if (dt_cmp (po_eq (u64 hr)) bi_eq (den_var 3) (den_int) (by with_unfolding_all rfl)) (dss_cons (ds_ret (den_add (den_sl (den_var 1) (do_none) (do_some (den_var 2))) (den_sl (den_var 1) (do_some (den_add (den_var 2) (den_int))) (do_none)))) (dss_nil)) (dss_nil)) (dss_cons (ds_ret (den_if (dt_cmp (po_eq (u64 hr)) bi_eq (den_var 3) (den_int) (by with_unfolding_all rfl)) (den_add (den_var 1) (den_sl (den_var 1) (do_some (den_var 2)) (do_some (den_add (den_var 2) (den_int))))) (den_add (den_add (den_sl (den_var 1) (do_none) (do_some (den_var 2))) (den_tup (da_cons (den_call c__law_spoilt hr hgu hx (da_cons (den_var 0) (da_cons (den_ix (den_var 1) (den_var 2)) (da_nil)))) (da_nil)))) (den_sl (den_var 1) (do_some (den_add (den_var 2) (den_int))) (do_none))))) (dss_nil))))))
def sc_law : FnScope ["script", "draws", "turn", "line", "at", "word", "small", "sign", "terms", "term", "kinds", "thing", "wrong", "error"] ["script"] (defScope (topS 39)) := ⟨rfl, rfl, rfl, by decide +kernel, rfl, by decide +kernel, by decide +kernel⟩
theorem ok_law (F : Fun K "law" "law" (topS 39) f fd) (M : MG K w mg) (c_has_form : CalG P w K mg base 5 "has_form" 2 F_has_form) (c_words_of : CalG P w K mg base 1 "words_of" 1 F_words_of) (c_is_name : CalG P w K mg base 1 "is_name" 1 F_is_name) (c_number_in : CalG P w K mg base 1 "number_in" 1 F_number_in) (c__law_draws : CalG P w K mg base 2 "_law_draws" 1 F__law_draws) (c__law_next : CalG P w K mg base 1 "_law_next" 1 F__law_next) (c__law_more : CalG P w K mg base 2 "_law_more" 2 F__law_more) (c__law_pick : CalG P w K mg base 2 "_law_pick" 2 F__law_pick) (c__law_kind : KindOk P w K mg base 2 "_law_kind" kindF) (c__law_line : CalG P w K mg base 1 "_law_line" 1 F__law_line) (c__law_number_of : CalG P w K mg base 1 "_law_number_of" 1 F__law_number_of) (c__law_due : CalG P w K mg base 3 "_law_due" 2 F__law_due) (c__law_spoilt : CalG P w K mg base 9 "_law_spoilt" 2 F__law_spoilt_6) : FnG P w K mg base 10 f fd ["script"] (spM K mg 1 F_law) := def_goN F sc_law rfl rfl fun cdv A outer s H E hr hgu tk hx hp => have hN := (sc_law).nd; dss_cons (ds_setR 1 hN (den_call c__law_draws hr hgu hx (da_cons (den_var 0) (da_nil)))) (dss_cons (ds_setR 1 hN (den_call c__law_more hr hgu hx (da_cons (den_var 1) (da_cons (den_int) (da_nil))))) (dss_cons (ds_if (dt_cmp (po_ne (u64 hr)) bi_ne (den_lst (da_cons (den_call c_words_of hr hgu hx (da_cons (den_str) (da_nil))) (da_cons (den_call c_is_name hr hgu hx (da_cons (den_str) (da_nil))) (da_cons (den_call c_is_name hr hgu hx (da_cons (den_str) (da_nil))) (da_cons (den_call c_number_in hr hgu hx (da_cons (den_str) (da_nil))) (da_cons (den_call c_number_in hr hgu hx (da_cons (den_str) (da_nil))) (da_nil))))))) (den_lst (da_cons (den_lst (da_cons (den_str) (da_cons (den_str) (da_nil)))) (da_cons (den_bool) (da_cons (den_bool) (da_cons (den_none) (da_cons (den_int) (da_nil))))))) (by with_unfolding_all rfl)) (dss_cons (ds_ret (den_bool)) (dss_nil)) (dss_nil)) (dss_cons (ds_for hp rfl (di_range1 (by rfl) M.b_range (da_cons (den_int) (da_nil))) (dg_name 2 hN) (dss_cons (ds_set 3 hN (den_m (T := .str) cm_join PySem.F.plainAttrs_str PySem.F.slot_str_join PySem.F.type_str_join mt_join (den_str) (da_cons (den_lc [("at", 4)] rfl hN (di_range1 (by rfl) M.b_range (da_cons (den_mod (den_Ty ca_int call_int1 (by rfl) M.b_int (by decide +kernel) (da_cons (den_call c__law_next hr hgu hx (da_cons (den_var 1) (da_nil))) (da_nil))) (den_int)) (da_nil))) (blkOk_by (by kernel_rfl)) (fun s H C cl fp => dg_name 4 hN) (fun s H C cl fp => dts_nil) (fun s H C cl fp => den_call c__law_pick hr hgu passNo (da_cons (den_var 1) (da_cons (den_lst (da_cons (den_str) (da_cons (den_str) (da_cons (den_str) (da_cons (den_str) (da_cons (den_str) (da_cons (den_str) (da_cons (den_str) (da_cons (den_str) (da_cons (den_str) (da_cons (den_str) (da_cons (den_str) (da_cons (den_str) (da_cons (den_str) (da_nil))))))))))))))) (da_nil))))) (da_nil)))) (dss_cons (ds_if (dt_cmp (po_ne (u64 hr)) bi_ne (den_B ca_repr (cr_repr hgu (u65 hr)) (by rfl) M.b_repr (by decide +kernel) (da_cons (den_call c_words_of hr hgu hx (da_cons (den_var 3) (da_nil))) (da_nil))) (den_B ca_repr (cr_repr hgu (u65 hr)) (by rfl) M.b_repr (by decide +kernel) (da_cons (den_call c__law_line hr hgu hx (da_cons (den_var 3) (da_nil))) (da_nil))) (by with_unfolding_all rfl)) (dss_cons (ds_ret (den_bool)) (dss_nil)) (dss_nil)) (dss_cons (ds_set 5 hN (den_m (T := .str) cm_join PySem.F.plainAttrs_str PySem.F.slot_str_join PySem.F.type_str_join mt_join (den_str) (da_cons (den_lc [("at", 4)] rfl hN (di_range1 (by rfl) M.b_range (da_cons (den_mod (den_Ty ca_int call_int1 (by rfl) M.b_int (by decide +kernel) (da_cons (den_call c__law_next hr hgu hx (da_cons (den_var 1) (da_nil))) (da_nil))) (den_int)) (da_nil))) (blkOk_by (by kernel_rfl)) (fun s H C cl fp => dg_name 4 hN) (fun s H C cl fp => dts_nil) (fun s H C cl fp => den_call c__law_pick hr hgu passNo (da_cons (den_var 1) (da_cons (den_lst (da_cons (den_str) (da_cons (den_str) (da_cons (den_str) (da_cons (den_str) (da_cons (den_str) (da_cons (den_str) (da_cons (den_str) (da_cons (den_str) (da_cons (den_str) (da_nil))))))))))) (da_nil))))) (da_nil)))) (dss_cons (ds_set 6 hN (den_andV (den_chain (po_le (u64 hr)) bi_le (po_le (u64 hr)) bi_le (den_int) (den_B ca_len call_len (by rfl) M.b_len (by decide +kernel) (da_cons (den_var 5) (da_nil))) (den_int)) (den_and1 (den_B ca_all (cr_all rfl) (by rfl) M.b_all (by decide +kernel) (da_cons (den_lc [("sign", 7)] rfl hN (di_chars (den_var 5)) (blkOk_by (by kernel_rfl)) (fun s H C cl fp => dg_name 7 hN) (fun s H C cl fp => dts_nil) (fun s H C cl fp => den_cmp (po_in (u65 hr)) bi_in (den_var 7) (den_str) (by with_unfolding_all rfl))) (da_nil)))))) (dss_cons (ds_if (dt_cmp (po_ne (u64 hr)) bi_ne (den_B ca_repr (cr_repr hgu (u65 hr)) (by rfl) M.b_repr (by decide +kernel) (da_cons (den_lst (da_cons (den_call c_is_name hr hgu hx (da_cons (den_var 5) (da_nil))) (da_cons (den_call c_number_in hr hgu hx (da_cons (den_var 5) (da_nil))) (da_nil)))) (da_nil))) (den_B ca_repr (cr_repr hgu (u65 hr)) (by rfl) M.b_repr (by decide +kernel) (da_cons (den_lst (da_cons (den_var 6) (da_cons (den_call c__law_number_of hr hgu hx (da_cons (den_var 5) (da_nil))) (da_nil)))) (da_nil))) (by with_unfolding_all rfl)) (dss_cons (ds_ret (den_bool)) (dss_nil)) (dss_nil)) (dss_nil))))))) (dss_cons (ds_if (dt_cmp (po_ne (u64 hr)) bi_ne (den_lc [("word", 5)] rfl hN (di_seq (den_lst (da_cons (den_str) (da_cons (den_str) (da_cons (den_str) (da_cons (den_str) (da_cons (den_str) (da_cons (den_str) (da_cons (den_str) (da_cons (den_str) (da_cons (den_str) (da_nil)))))))))))) (blkOk_by (by kernel_rfl)) (fun s H C cl fp => dg_name 5 hN) (fun s H C cl fp => dts_nil) (fun s H C cl fp => den_B ca_repr (cr_repr hgu (u65 hr)) (by rfl) M.b_repr (by decide +kernel) (da_cons (den_call c_number_in hr hgu passNo (da_cons (den_var 5) (da_nil))) (da_nil)))) (den_lst (da_cons (den_str) (da_cons (den_str) (da_cons (den_str) (da_cons (den_str) (da_cons (den_str) (da_cons (den_str) (da_cons (den_str) (da_cons (den_str) (da_cons (den_str) (da_nil))))))))))) (by with_unfolding_all rfl)) (dss_cons (ds_ret (den_bool)) (dss_nil)) (dss_nil)) (dss_cons (ds_set 8 hN (den_lst (da_cons (den_tup (da_cons (den_int) (da_cons (den_tup (da_cons (den_tup (da_cons (den_int) (da_cons (den_int) (da_cons (den_tup (da_cons (den_int) (da_cons (den_int) (da_nil)))) (da_nil))))) (da_nil))) (da_nil)))) (da_cons (den_tup (da_cons (den_tup (da_cons (den_tup (da_cons (den_int) (da_cons (den_int) (da_nil)))) (da_nil))) (da_cons (den_tup (da_cons (den_tup (da_cons (den_int) (da_cons (den_int) (da_nil)))) (da_nil))) (da_nil)))) (da_cons (den_tup (da_cons (den_tup (da_cons (den_int) (da_cons (den_int) (da_nil)))) (da_cons (den_tup (da_cons (den_int) (da_cons (den_int) (da_nil)))) (da_nil)))) (da_cons (den_tup (da_cons (den_int) (da_cons (den_int) (da_cons (den_int) (da_nil))))) (da_cons (den_tup (da_cons (den_int) (da_cons (den_tup (da_cons (den_tup (da_cons (den_int) (da_cons (den_int) (da_nil)))) (da_nil))) (da_cons (den_tup (da_cons (den_tup (da_cons (den_int) (da_cons (den_int) (da_nil)))) (da_cons (den_tup (da_cons (den_int) (da_cons (den_int) (da_nil)))) (da_nil)))) (da_nil))))) (da_nil)))))))) (dss_cons (ds_for hp rfl (di_seq (den_add (den_add (den_var 8) (den_lc [("turn", 2)] rfl hN (di_range1 (by rfl) M.b_range (da_cons (den_int) (da_nil))) (blkOk_by (by kernel_rfl)) (fun s H C cl fp => dg_name 2 hN) (fun s H C cl fp => dts_nil) (fun s H C cl fp => den_call c__law_spoilt hr hgu passNo (da_cons (den_var 1) (da_cons (den_call c__law_pick hr hgu passNo (da_cons (den_var 1) (da_cons (den_var 8) (da_nil)))) (da_nil)))))) (den_lst (da_cons (den_tup (da_nil)) (da_cons (den_none) (da_cons (den_str) (da_cons (den_int) (da_nil)))))))) (dg_name 9 hN) (dss_cons (ds_set 10 hN (den_lst (da_cons (den_str) (da_cons (den_str) (da_cons (den_str) (da_cons (den_str) (da_cons (den_str) (da_cons (den_str) (da_nil))))))))) (dss_cons (ds_if (dt_cmp (po_ne (u64 hr)) bi_ne (den_lc [("thing", 11)] rfl hN (di_seq (den_var 10)) (blkOk_by (by kernel_rfl)) (fun s H C cl fp => dg_name 11 hN) (fun s H C cl fp => dts_nil) (fun s H C cl fp => den_call c_has_form hr hgu passNo (da_cons (den_var 11) (da_cons (den_var 9) (da_nil))))) (den_lc [("thing", 11)] rfl hN (di_seq (den_var 10)) (blkOk_by (by kernel_rfl)) (fun s H C cl fp => dg_name 11 hN) (fun s H C cl fp => dts_nil) (fun s H C cl fp => den_call c__law_due hr hgu passNo (da_cons (den_var 11) (da_cons (den_var 9) (da_nil))))) (by with_unfolding_all rfl)) (dss_cons (ds_ret (den_bool)) (dss_nil)) (dss_nil)) (dss_nil)))) (dss_cons (ds_for hp rfl (di_seq (den_lst (da_cons (den_str) (da_cons (den_str) (da_cons (den_str) (da_nil)))))) (dg_name 12 hN) (dss_cons (ds_tryN (i := 13) c__law_kind M.catch_ hr (by decide) rfl rfl hN tk (fun E1 pn xe tk hp => have hx := fun σ => L2N.passAt tk σ; dss_cons (ds_expr (den_call c_has_form hr hgu hx (da_cons (den_var 12) (da_cons (den_tup (da_nil)) (da_nil))))) (dss_cons (ds_ret (den_bool)) (dss_nil)))) (dss_nil))) (dss_cons (ds_ret (den_bool)) (dss_nil)))))))))
theorem catch_mk {h : Heap} {A_NotChain A_NotNet A_NotTrace A_NotPaper A_BadNumber A_NoAnswer A_TooLarge A_QueueError : Addr} (X : K.In h) (G : h.Ns mainGlobals mg) (g_NotChain : PySem.W.nsIn K mainGlobals "NotChain" = some (some (.ref A_NotChain))) (g_NotNet : PySem.W.nsIn K mainGlobals "NotNet" = some (some (.ref A_NotNet))) (g_NotTrace : PySem.W.nsIn K mainGlobals "NotTrace" = some (some (.ref A_NotTrace))) (g_NotPaper : PySem.W.nsIn K mainGlobals "NotPaper" = some (some (.ref A_NotPaper))) (g_BadNumber : PySem.W.nsIn K mainGlobals "BadNumber" = some (some (.ref A_BadNumber))) (g_NoAnswer : PySem.W.nsIn K mainGlobals "NoAnswer" = some (some (.ref A_NoAnswer))) (g_TooLarge : PySem.W.nsIn K mainGlobals "TooLarge" = some (some (.ref A_TooLarge))) (g_QueueError : PySem.W.nsIn K mainGlobals "QueueError" = some (some (.ref A_QueueError))) (s_QueueError : PySem.W.subIn K (.ref A_QueueError) (.type "BaseException") = some true) (y_QueueError : PySem.W.typeIn K (.ref A_QueueError) = some (.type "type")) (q_h : PySem.W.hasDictIn K A_QueueError = true) (u_NotChain : PySem.W.subIn K (.ref A_NotChain) (.ref A_QueueError) = some true) (u_NotNet : PySem.W.subIn K (.ref A_NotNet) (.ref A_QueueError) = some true) (u_NotTrace : PySem.W.subIn K (.ref A_NotTrace) (.ref A_QueueError) = some true) (u_NotPaper : PySem.W.subIn K (.ref A_NotPaper) (.ref A_QueueError) = some true) (u_BadNumber : PySem.W.subIn K (.ref A_BadNumber) (.ref A_QueueError) = some true) (u_NoAnswer : PySem.W.subIn K (.ref A_NoAnswer) (.ref A_QueueError) = some true) (u_TooLarge : PySem.W.subIn K (.ref A_TooLarge) (.ref A_QueueError) = some true) : CatchOk K mg "QueueError" kindF := by
  refine ⟨A_QueueError, PySem.W.mg_of X G g_QueueError, fun y z h => ?_⟩
  rcases kindTab_cases h with ⟨rfl, rfl⟩ | ⟨rfl, rfl⟩ | ⟨rfl, rfl⟩ | ⟨rfl, rfl⟩ | ⟨rfl, rfl⟩ | ⟨rfl, rfl⟩ | ⟨rfl, rfl⟩
  · exact ⟨A_NotChain, PySem.W.mg_of X G g_NotChain, PySem.W.exm_ref s_QueueError q_h y_QueueError u_NotChain⟩
  · exact ⟨A_NotNet, PySem.W.mg_of X G g_NotNet, PySem.W.exm_ref s_QueueError q_h y_QueueError u_NotNet⟩
  · exact ⟨A_NotTrace, PySem.W.mg_of X G g_NotTrace, PySem.W.exm_ref s_QueueError q_h y_QueueError u_NotTrace⟩
  · exact ⟨A_NotPaper, PySem.W.mg_of X G g_NotPaper, PySem.W.exm_ref s_QueueError q_h y_QueueError u_NotPaper⟩
  · exact ⟨A_BadNumber, PySem.W.mg_of X G g_BadNumber, PySem.W.exm_ref s_QueueError q_h y_QueueError u_BadNumber⟩
  · exact ⟨A_NoAnswer, PySem.W.mg_of X G g_NoAnswer, PySem.W.exm_ref s_QueueError q_h y_QueueError u_NoAnswer⟩
  · exact ⟨A_TooLarge, PySem.W.mg_of X G g_TooLarge, PySem.W.exm_ref s_QueueError q_h y_QueueError u_TooLarge⟩
theorem kindt_mk {h : Heap} {A_NotChain A_NotNet A_NotTrace A_NotPaper A_BadNumber A_NoAnswer A_TooLarge : Addr} (X : K.In h) (G : h.Ns mainGlobals mg) (g_NotChain : PySem.W.nsIn K mainGlobals "NotChain" = some (some (.ref A_NotChain))) (g_NotNet : PySem.W.nsIn K mainGlobals "NotNet" = some (some (.ref A_NotNet))) (g_NotTrace : PySem.W.nsIn K mainGlobals "NotTrace" = some (some (.ref A_NotTrace))) (g_NotPaper : PySem.W.nsIn K mainGlobals "NotPaper" = some (some (.ref A_NotPaper))) (g_BadNumber : PySem.W.nsIn K mainGlobals "BadNumber" = some (some (.ref A_BadNumber))) (g_NoAnswer : PySem.W.nsIn K mainGlobals "NoAnswer" = some (some (.ref A_NoAnswer))) (g_TooLarge : PySem.W.nsIn K mainGlobals "TooLarge" = some (some (.ref A_TooLarge))) (q_n : PySem.W.specialIn K (.builtin "object.__class__") "__get__" = some (some (.builtin "getset_descriptor.__get__"))) (q_t : PySem.W.takesIn K (.builtin "object.__class__") = some true) (s_NotChain : PySem.W.subIn K (.ref A_NotChain) (.type "BaseException") = some true) (n1_NotChain : PySem.W.findIn K (.ref A_NotChain) "__getattribute__" = some (some (.builtin "BaseException.__getattribute__"))) (n2_NotChain : PySem.W.findIn K (.ref A_NotChain) "__getattr__" = some none) (n3_NotChain : PySem.W.hasDictIn K A_NotChain = true) (n4_NotChain : PySem.W.findIn K (.ref A_NotChain) "__class__" = some (some (.builtin "object.__class__"))) (n5_NotChain : PySem.W.mroIn K A_NotChain (.type "object") = some true) (kit_NotChain_NotChain : PySem.W.kitOne K (.ref A_NotChain) (.ref A_NotChain) = some true) (kit_NotChain_NotNet : PySem.W.kitOne K (.ref A_NotChain) (.ref A_NotNet) = some false) (kit_NotChain_NotTrace : PySem.W.kitOne K (.ref A_NotChain) (.ref A_NotTrace) = some false) (kit_NotChain_NotPaper : PySem.W.kitOne K (.ref A_NotChain) (.ref A_NotPaper) = some false) (kit_NotChain_BadNumber : PySem.W.kitOne K (.ref A_NotChain) (.ref A_BadNumber) = some false) (kit_NotChain_NoAnswer : PySem.W.kitOne K (.ref A_NotChain) (.ref A_NoAnswer) = some false) (kit_NotChain_TooLarge : PySem.W.kitOne K (.ref A_NotChain) (.ref A_TooLarge) = some false) (s_NotNet : PySem.W.subIn K (.ref A_NotNet) (.type "BaseException") = some true) (n1_NotNet : PySem.W.findIn K (.ref A_NotNet) "__getattribute__" = some (some (.builtin "BaseException.__getattribute__"))) (n2_NotNet : PySem.W.findIn K (.ref A_NotNet) "__getattr__" = some none) (n3_NotNet : PySem.W.hasDictIn K A_NotNet = true) (n4_NotNet : PySem.W.findIn K (.ref A_NotNet) "__class__" = some (some (.builtin "object.__class__"))) (n5_NotNet : PySem.W.mroIn K A_NotNet (.type "object") = some true) (kit_NotNet_NotChain : PySem.W.kitOne K (.ref A_NotNet) (.ref A_NotChain) = some false) (kit_NotNet_NotNet : PySem.W.kitOne K (.ref A_NotNet) (.ref A_NotNet) = some true) (kit_NotNet_NotTrace : PySem.W.kitOne K (.ref A_NotNet) (.ref A_NotTrace) = some false) (kit_NotNet_NotPaper : PySem.W.kitOne K (.ref A_NotNet) (.ref A_NotPaper) = some false) (kit_NotNet_BadNumber : PySem.W.kitOne K (.ref A_NotNet) (.ref A_BadNumber) = some false) (kit_NotNet_NoAnswer : PySem.W.kitOne K (.ref A_NotNet) (.ref A_NoAnswer) = some false) (kit_NotNet_TooLarge : PySem.W.kitOne K (.ref A_NotNet) (.ref A_TooLarge) = some false) (s_NotTrace : PySem.W.subIn K (.ref A_NotTrace) (.type "BaseException") = some true) (n1_NotTrace : PySem.W.findIn K (.ref A_NotTrace) "__getattribute__" = some (some (.builtin "BaseException.__getattribute__"))) (n2_NotTrace : PySem.W.findIn K (.ref A_NotTrace) "__getattr__" = some none) (n3_NotTrace : PySem.W.hasDictIn K A_NotTrace = true) (n4_NotTrace : PySem.W.findIn K (.ref A_NotTrace) "__class__" = some (some (.builtin "object.__class__"))) (n5_NotTrace : PySem.W.mroIn K A_NotTrace (.type "object") = some true) (kit_NotTrace_NotChain : PySem.W.kitOne K (.ref A_NotTrace) (.ref A_NotChain) = some false) (kit_NotTrace_NotNet : PySem.W.kitOne K (.ref A_NotTrace) (.ref A_NotNet) = some false) (kit_NotTrace_NotTrace : PySem.W.kitOne K (.ref A_NotTrace) (.ref A_NotTrace) = some true) (kit_NotTrace_NotPaper : PySem.W.kitOne K (.ref A_NotTrace) (.ref A_NotPaper) = some false) (kit_NotTrace_BadNumber : PySem.W.kitOne K (.ref A_NotTrace) (.ref A_BadNumber) = some false) (kit_NotTrace_NoAnswer : PySem.W.kitOne K (.ref A_NotTrace) (.ref A_NoAnswer) = some false) (kit_NotTrace_TooLarge : PySem.W.kitOne K (.ref A_NotTrace) (.ref A_TooLarge) = some false) (s_NotPaper : PySem.W.subIn K (.ref A_NotPaper) (.type "BaseException") = some true) (n1_NotPaper : PySem.W.findIn K (.ref A_NotPaper) "__getattribute__" = some (some (.builtin "BaseException.__getattribute__"))) (n2_NotPaper : PySem.W.findIn K (.ref A_NotPaper) "__getattr__" = some none) (n3_NotPaper : PySem.W.hasDictIn K A_NotPaper = true) (n4_NotPaper : PySem.W.findIn K (.ref A_NotPaper) "__class__" = some (some (.builtin "object.__class__"))) (n5_NotPaper : PySem.W.mroIn K A_NotPaper (.type "object") = some true) (kit_NotPaper_NotChain : PySem.W.kitOne K (.ref A_NotPaper) (.ref A_NotChain) = some false) (kit_NotPaper_NotNet : PySem.W.kitOne K (.ref A_NotPaper) (.ref A_NotNet) = some false) (kit_NotPaper_NotTrace : PySem.W.kitOne K (.ref A_NotPaper) (.ref A_NotTrace) = some false) (kit_NotPaper_NotPaper : PySem.W.kitOne K (.ref A_NotPaper) (.ref A_NotPaper) = some true) (kit_NotPaper_BadNumber : PySem.W.kitOne K (.ref A_NotPaper) (.ref A_BadNumber) = some false) (kit_NotPaper_NoAnswer : PySem.W.kitOne K (.ref A_NotPaper) (.ref A_NoAnswer) = some false) (kit_NotPaper_TooLarge : PySem.W.kitOne K (.ref A_NotPaper) (.ref A_TooLarge) = some false) (s_BadNumber : PySem.W.subIn K (.ref A_BadNumber) (.type "BaseException") = some true) (n1_BadNumber : PySem.W.findIn K (.ref A_BadNumber) "__getattribute__" = some (some (.builtin "BaseException.__getattribute__"))) (n2_BadNumber : PySem.W.findIn K (.ref A_BadNumber) "__getattr__" = some none) (n3_BadNumber : PySem.W.hasDictIn K A_BadNumber = true) (n4_BadNumber : PySem.W.findIn K (.ref A_BadNumber) "__class__" = some (some (.builtin "object.__class__"))) (n5_BadNumber : PySem.W.mroIn K A_BadNumber (.type "object") = some true) (kit_BadNumber_NotChain : PySem.W.kitOne K (.ref A_BadNumber) (.ref A_NotChain) = some false) (kit_BadNumber_NotNet : PySem.W.kitOne K (.ref A_BadNumber) (.ref A_NotNet) = some false) (kit_BadNumber_NotTrace : PySem.W.kitOne K (.ref A_BadNumber) (.ref A_NotTrace) = some false) (kit_BadNumber_NotPaper : PySem.W.kitOne K (.ref A_BadNumber) (.ref A_NotPaper) = some false) (kit_BadNumber_BadNumber : PySem.W.kitOne K (.ref A_BadNumber) (.ref A_BadNumber) = some true) (kit_BadNumber_NoAnswer : PySem.W.kitOne K (.ref A_BadNumber) (.ref A_NoAnswer) = some false) (kit_BadNumber_TooLarge : PySem.W.kitOne K (.ref A_BadNumber) (.ref A_TooLarge) = some false) (s_NoAnswer : PySem.W.subIn K (.ref A_NoAnswer) (.type "BaseException") = some true) (n1_NoAnswer : PySem.W.findIn K (.ref A_NoAnswer) "__getattribute__" = some (some (.builtin "BaseException.__getattribute__"))) (n2_NoAnswer : PySem.W.findIn K (.ref A_NoAnswer) "__getattr__" = some none) (n3_NoAnswer : PySem.W.hasDictIn K A_NoAnswer = true) (n4_NoAnswer : PySem.W.findIn K (.ref A_NoAnswer) "__class__" = some (some (.builtin "object.__class__"))) (n5_NoAnswer : PySem.W.mroIn K A_NoAnswer (.type "object") = some true) (kit_NoAnswer_NotChain : PySem.W.kitOne K (.ref A_NoAnswer) (.ref A_NotChain) = some false) (kit_NoAnswer_NotNet : PySem.W.kitOne K (.ref A_NoAnswer) (.ref A_NotNet) = some false) (kit_NoAnswer_NotTrace : PySem.W.kitOne K (.ref A_NoAnswer) (.ref A_NotTrace) = some false) (kit_NoAnswer_NotPaper : PySem.W.kitOne K (.ref A_NoAnswer) (.ref A_NotPaper) = some false) (kit_NoAnswer_BadNumber : PySem.W.kitOne K (.ref A_NoAnswer) (.ref A_BadNumber) = some false) (kit_NoAnswer_NoAnswer : PySem.W.kitOne K (.ref A_NoAnswer) (.ref A_NoAnswer) = some true) (kit_NoAnswer_TooLarge : PySem.W.kitOne K (.ref A_NoAnswer) (.ref A_TooLarge) = some false) (s_TooLarge : PySem.W.subIn K (.ref A_TooLarge) (.type "BaseException") = some true) (n1_TooLarge : PySem.W.findIn K (.ref A_TooLarge) "__getattribute__" = some (some (.builtin "BaseException.__getattribute__"))) (n2_TooLarge : PySem.W.findIn K (.ref A_TooLarge) "__getattr__" = some none) (n3_TooLarge : PySem.W.hasDictIn K A_TooLarge = true) (n4_TooLarge : PySem.W.findIn K (.ref A_TooLarge) "__class__" = some (some (.builtin "object.__class__"))) (n5_TooLarge : PySem.W.mroIn K A_TooLarge (.type "object") = some true) (kit_TooLarge_NotChain : PySem.W.kitOne K (.ref A_TooLarge) (.ref A_NotChain) = some false) (kit_TooLarge_NotNet : PySem.W.kitOne K (.ref A_TooLarge) (.ref A_NotNet) = some false) (kit_TooLarge_NotTrace : PySem.W.kitOne K (.ref A_TooLarge) (.ref A_NotTrace) = some false) (kit_TooLarge_NotPaper : PySem.W.kitOne K (.ref A_TooLarge) (.ref A_NotPaper) = some false) (kit_TooLarge_BadNumber : PySem.W.kitOne K (.ref A_TooLarge) (.ref A_BadNumber) = some false) (kit_TooLarge_NoAnswer : PySem.W.kitOne K (.ref A_TooLarge) (.ref A_NoAnswer) = some false) (kit_TooLarge_TooLarge : PySem.W.kitOne K (.ref A_TooLarge) (.ref A_TooLarge) = some true) : KindT K mg := by
  refine ⟨fun y z h => ?_⟩
  rcases kindTab_cases h with ⟨rfl, rfl⟩ | ⟨rfl, rfl⟩ | ⟨rfl, rfl⟩ | ⟨rfl, rfl⟩ | ⟨rfl, rfl⟩ | ⟨rfl, rfl⟩ | ⟨rfl, rfl⟩
  · refine ⟨A_NotChain, PySem.W.mg_of X G g_NotChain, ⟨n1_NotChain, n2_NotChain, s_NotChain, n3_NotChain, n4_NotChain, q_n, q_t, n5_NotChain⟩, fun y2 z2 h2 => ?_⟩
    rcases kindTab_cases h2 with ⟨rfl, rfl⟩ | ⟨rfl, rfl⟩ | ⟨rfl, rfl⟩ | ⟨rfl, rfl⟩ | ⟨rfl, rfl⟩ | ⟨rfl, rfl⟩ | ⟨rfl, rfl⟩
    · exact ⟨A_NotChain, PySem.W.mg_of X G g_NotChain, kit_NotChain_NotChain.trans (by decide)⟩
    · exact ⟨A_NotNet, PySem.W.mg_of X G g_NotNet, kit_NotChain_NotNet.trans (by decide)⟩
    · exact ⟨A_NotTrace, PySem.W.mg_of X G g_NotTrace, kit_NotChain_NotTrace.trans (by decide)⟩
    · exact ⟨A_NotPaper, PySem.W.mg_of X G g_NotPaper, kit_NotChain_NotPaper.trans (by decide)⟩
    · exact ⟨A_BadNumber, PySem.W.mg_of X G g_BadNumber, kit_NotChain_BadNumber.trans (by decide)⟩
    · exact ⟨A_NoAnswer, PySem.W.mg_of X G g_NoAnswer, kit_NotChain_NoAnswer.trans (by decide)⟩
    · exact ⟨A_TooLarge, PySem.W.mg_of X G g_TooLarge, kit_NotChain_TooLarge.trans (by decide)⟩
  · refine ⟨A_NotNet, PySem.W.mg_of X G g_NotNet, ⟨n1_NotNet, n2_NotNet, s_NotNet, n3_NotNet, n4_NotNet, q_n, q_t, n5_NotNet⟩, fun y2 z2 h2 => ?_⟩
    rcases kindTab_cases h2 with ⟨rfl, rfl⟩ | ⟨rfl, rfl⟩ | ⟨rfl, rfl⟩ | ⟨rfl, rfl⟩ | ⟨rfl, rfl⟩ | ⟨rfl, rfl⟩ | ⟨rfl, rfl⟩
    · exact ⟨A_NotChain, PySem.W.mg_of X G g_NotChain, kit_NotNet_NotChain.trans (by decide)⟩
    · exact ⟨A_NotNet, PySem.W.mg_of X G g_NotNet, kit_NotNet_NotNet.trans (by decide)⟩
    · exact ⟨A_NotTrace, PySem.W.mg_of X G g_NotTrace, kit_NotNet_NotTrace.trans (by decide)⟩
    · exact ⟨A_NotPaper, PySem.W.mg_of X G g_NotPaper, kit_NotNet_NotPaper.trans (by decide)⟩
    · exact ⟨A_BadNumber, PySem.W.mg_of X G g_BadNumber, kit_NotNet_BadNumber.trans (by decide)⟩
    · exact ⟨A_NoAnswer, PySem.W.mg_of X G g_NoAnswer, kit_NotNet_NoAnswer.trans (by decide)⟩
    · exact ⟨A_TooLarge, PySem.W.mg_of X G g_TooLarge, kit_NotNet_TooLarge.trans (by decide)⟩
  · refine ⟨A_NotTrace, PySem.W.mg_of X G g_NotTrace, ⟨n1_NotTrace, n2_NotTrace, s_NotTrace, n3_NotTrace, n4_NotTrace, q_n, q_t, n5_NotTrace⟩, fun y2 z2 h2 => ?_⟩
    rcases kindTab_cases h2 with ⟨rfl, rfl⟩ | ⟨rfl, rfl⟩ | ⟨rfl, rfl⟩ | ⟨rfl, rfl⟩ | ⟨rfl, rfl⟩ | ⟨rfl, rfl⟩ | ⟨rfl, rfl⟩
    · exact ⟨A_NotChain, PySem.W.mg_of X G g_NotChain, kit_NotTrace_NotChain.trans (by decide)⟩
    · exact ⟨A_NotNet, PySem.W.mg_of X G g_NotNet, kit_NotTrace_NotNet.trans (by decide)⟩
    · exact ⟨A_NotTrace, PySem.W.mg_of X G g_NotTrace, kit_NotTrace_NotTrace.trans (by decide)⟩
    · exact ⟨A_NotPaper, PySem.W.mg_of X G g_NotPaper, kit_NotTrace_NotPaper.trans (by decide)⟩
    · exact ⟨A_BadNumber, PySem.W.mg_of X G g_BadNumber, kit_NotTrace_BadNumber.trans (by decide)⟩
    · exact ⟨A_NoAnswer, PySem.W.mg_of X G g_NoAnswer, kit_NotTrace_NoAnswer.trans (by decide)⟩
    · exact ⟨A_TooLarge, PySem.W.mg_of X G g_TooLarge, kit_NotTrace_TooLarge.trans (by decide)⟩
  · refine ⟨A_NotPaper, PySem.W.mg_of X G g_NotPaper, ⟨n1_NotPaper, n2_NotPaper, s_NotPaper, n3_NotPaper, n4_NotPaper, q_n, q_t, n5_NotPaper⟩, fun y2 z2 h2 => ?_⟩
    rcases kindTab_cases h2 with ⟨rfl, rfl⟩ | ⟨rfl, rfl⟩ | ⟨rfl, rfl⟩ | ⟨rfl, rfl⟩ | ⟨rfl, rfl⟩ | ⟨rfl, rfl⟩ | ⟨rfl, rfl⟩
    · exact ⟨A_NotChain, PySem.W.mg_of X G g_NotChain, kit_NotPaper_NotChain.trans (by decide)⟩
    · exact ⟨A_NotNet, PySem.W.mg_of X G g_NotNet, kit_NotPaper_NotNet.trans (by decide)⟩
    · exact ⟨A_NotTrace, PySem.W.mg_of X G g_NotTrace, kit_NotPaper_NotTrace.trans (by decide)⟩
    · exact ⟨A_NotPaper, PySem.W.mg_of X G g_NotPaper, kit_NotPaper_NotPaper.trans (by decide)⟩
    · exact ⟨A_BadNumber, PySem.W.mg_of X G g_BadNumber, kit_NotPaper_BadNumber.trans (by decide)⟩
    · exact ⟨A_NoAnswer, PySem.W.mg_of X G g_NoAnswer, kit_NotPaper_NoAnswer.trans (by decide)⟩
    · exact ⟨A_TooLarge, PySem.W.mg_of X G g_TooLarge, kit_NotPaper_TooLarge.trans (by decide)⟩
  · refine ⟨A_BadNumber, PySem.W.mg_of X G g_BadNumber, ⟨n1_BadNumber, n2_BadNumber, s_BadNumber, n3_BadNumber, n4_BadNumber, q_n, q_t, n5_BadNumber⟩, fun y2 z2 h2 => ?_⟩
    rcases kindTab_cases h2 with ⟨rfl, rfl⟩ | ⟨rfl, rfl⟩ | ⟨rfl, rfl⟩ | ⟨rfl, rfl⟩ | ⟨rfl, rfl⟩ | ⟨rfl, rfl⟩ | ⟨rfl, rfl⟩
    · exact ⟨A_NotChain, PySem.W.mg_of X G g_NotChain, kit_BadNumber_NotChain.trans (by decide)⟩
    · exact ⟨A_NotNet, PySem.W.mg_of X G g_NotNet, kit_BadNumber_NotNet.trans (by decide)⟩
    · exact ⟨A_NotTrace, PySem.W.mg_of X G g_NotTrace, kit_BadNumber_NotTrace.trans (by decide)⟩
    · exact ⟨A_NotPaper, PySem.W.mg_of X G g_NotPaper, kit_BadNumber_NotPaper.trans (by decide)⟩
    · exact ⟨A_BadNumber, PySem.W.mg_of X G g_BadNumber, kit_BadNumber_BadNumber.trans (by decide)⟩
    · exact ⟨A_NoAnswer, PySem.W.mg_of X G g_NoAnswer, kit_BadNumber_NoAnswer.trans (by decide)⟩
    · exact ⟨A_TooLarge, PySem.W.mg_of X G g_TooLarge, kit_BadNumber_TooLarge.trans (by decide)⟩
  · refine ⟨A_NoAnswer, PySem.W.mg_of X G g_NoAnswer, ⟨n1_NoAnswer, n2_NoAnswer, s_NoAnswer, n3_NoAnswer, n4_NoAnswer, q_n, q_t, n5_NoAnswer⟩, fun y2 z2 h2 => ?_⟩
    rcases kindTab_cases h2 with ⟨rfl, rfl⟩ | ⟨rfl, rfl⟩ | ⟨rfl, rfl⟩ | ⟨rfl, rfl⟩ | ⟨rfl, rfl⟩ | ⟨rfl, rfl⟩ | ⟨rfl, rfl⟩
    · exact ⟨A_NotChain, PySem.W.mg_of X G g_NotChain, kit_NoAnswer_NotChain.trans (by decide)⟩
    · exact ⟨A_NotNet, PySem.W.mg_of X G g_NotNet, kit_NoAnswer_NotNet.trans (by decide)⟩
    · exact ⟨A_NotTrace, PySem.W.mg_of X G g_NotTrace, kit_NoAnswer_NotTrace.trans (by decide)⟩
    · exact ⟨A_NotPaper, PySem.W.mg_of X G g_NotPaper, kit_NoAnswer_NotPaper.trans (by decide)⟩
    · exact ⟨A_BadNumber, PySem.W.mg_of X G g_BadNumber, kit_NoAnswer_BadNumber.trans (by decide)⟩
    · exact ⟨A_NoAnswer, PySem.W.mg_of X G g_NoAnswer, kit_NoAnswer_NoAnswer.trans (by decide)⟩
    · exact ⟨A_TooLarge, PySem.W.mg_of X G g_TooLarge, kit_NoAnswer_TooLarge.trans (by decide)⟩
  · refine ⟨A_TooLarge, PySem.W.mg_of X G g_TooLarge, ⟨n1_TooLarge, n2_TooLarge, s_TooLarge, n3_TooLarge, n4_TooLarge, q_n, q_t, n5_TooLarge⟩, fun y2 z2 h2 => ?_⟩
    rcases kindTab_cases h2 with ⟨rfl, rfl⟩ | ⟨rfl, rfl⟩ | ⟨rfl, rfl⟩ | ⟨rfl, rfl⟩ | ⟨rfl, rfl⟩ | ⟨rfl, rfl⟩ | ⟨rfl, rfl⟩
    · exact ⟨A_NotChain, PySem.W.mg_of X G g_NotChain, kit_TooLarge_NotChain.trans (by decide)⟩
    · exact ⟨A_NotNet, PySem.W.mg_of X G g_NotNet, kit_TooLarge_NotNet.trans (by decide)⟩
    · exact ⟨A_NotTrace, PySem.W.mg_of X G g_NotTrace, kit_TooLarge_NotTrace.trans (by decide)⟩
    · exact ⟨A_NotPaper, PySem.W.mg_of X G g_NotPaper, kit_TooLarge_NotPaper.trans (by decide)⟩
    · exact ⟨A_BadNumber, PySem.W.mg_of X G g_BadNumber, kit_TooLarge_BadNumber.trans (by decide)⟩
    · exact ⟨A_NoAnswer, PySem.W.mg_of X G g_NoAnswer, kit_TooLarge_NoAnswer.trans (by decide)⟩
    · exact ⟨A_TooLarge, PySem.W.mg_of X G g_TooLarge, kit_TooLarge_TooLarge.trans (by decide)⟩
theorem all_mk {l : PySem.W.OpenLaw} {h : Heap} {fa : Addr} {f_is_integer : Addr} {od_is_integer an_is_integer : Option Addr} {sl_is_integer : Array (Option Value)} {oc_is_integer kV_is_integer dc_is_integer pm_is_integer cd_is_integer ct_is_integer : Value} {f_is_row : Addr} {od_is_row an_is_row : Option Addr} {sl_is_row : Array (Option Value)} {oc_is_row kV_is_row dc_is_row pm_is_row cd_is_row ct_is_row : Value} {f_are_pairs : Addr} {od_are_pairs an_are_pairs : Option Addr} {sl_are_pairs : Array (Option Value)} {oc_are_pairs kV_are_pairs dc_are_pairs pm_are_pairs cd_are_pairs ct_are_pairs : Value} {f_is_told_rate : Addr} {od_is_told_rate an_is_told_rate : Option Addr} {sl_is_told_rate : Array (Option Value)} {oc_is_told_rate kV_is_told_rate dc_is_told_rate pm_is_told_rate cd_is_told_rate ct_is_told_rate : Value} {f_is_told_chain : Addr} {od_is_told_chain an_is_told_chain : Option Addr} {sl_is_told_chain : Array (Option Value)} {oc_is_told_chain kV_is_told_chain dc_is_told_chain pm_is_told_chain cd_is_told_chain ct_is_told_chain : Value} {f_is_told_station : Addr} {od_is_told_station an_is_told_station : Option Addr} {sl_is_told_station : Array (Option Value)} {oc_is_told_station kV_is_told_station dc_is_told_station pm_is_told_station cd_is_told_station ct_is_told_station : Value} {f_are_steps : Addr} {od_are_steps an_are_steps : Option Addr} {sl_are_steps : Array (Option Value)} {oc_are_steps kV_are_steps dc_are_steps pm_are_steps cd_are_steps ct_are_steps : Value} {f_are_slots : Addr} {od_are_slots an_are_slots : Option Addr} {sl_are_slots : Array (Option Value)} {oc_are_slots kV_are_slots dc_are_slots pm_are_slots cd_are_slots ct_are_slots : Value} {f_has_form : Addr} {od_has_form an_has_form : Option Addr} {sl_has_form : Array (Option Value)} {oc_has_form kV_has_form dc_has_form pm_has_form cd_has_form ct_has_form : Value} {f_words_of : Addr} {od_words_of an_words_of : Option Addr} {sl_words_of : Array (Option Value)} {oc_words_of kV_words_of dc_words_of pm_words_of cd_words_of ct_words_of : Value} {f_is_name : Addr} {od_is_name an_is_name : Option Addr} {sl_is_name : Array (Option Value)} {oc_is_name kV_is_name dc_is_name pm_is_name cd_is_name ct_is_name : Value} {f_number_in : Addr} {od_number_in an_number_in : Option Addr} {sl_number_in : Array (Option Value)} {oc_number_in kV_number_in dc_number_in pm_number_in cd_number_in ct_number_in : Value} {f__law_number : Addr} {od__law_number an__law_number : Option Addr} {sl__law_number : Array (Option Value)} {oc__law_number kV__law_number dc__law_number pm__law_number cd__law_number ct__law_number : Value} {f__law_draws : Addr} {od__law_draws an__law_draws : Option Addr} {sl__law_draws : Array (Option Value)} {oc__law_draws kV__law_draws dc__law_draws pm__law_draws cd__law_draws ct__law_draws : Value} {f__law_next : Addr} {od__law_next an__law_next : Option Addr} {sl__law_next : Array (Option Value)} {oc__law_next kV__law_next dc__law_next pm__law_next cd__law_next ct__law_next : Value} {f__law_more : Addr} {od__law_more an__law_more : Option Addr} {sl__law_more : Array (Option Value)} {oc__law_more kV__law_more dc__law_more pm__law_more cd__law_more ct__law_more : Value} {f__law_pick : Addr} {od__law_pick an__law_pick : Option Addr} {sl__law_pick : Array (Option Value)} {oc__law_pick kV__law_pick dc__law_pick pm__law_pick cd__law_pick ct__law_pick : Value} {f__law_kind : Addr} {od__law_kind an__law_kind : Option Addr} {sl__law_kind : Array (Option Value)} {oc__law_kind kV__law_kind dc__law_kind pm__law_kind cd__law_kind ct__law_kind : Value} {f__law_line : Addr} {od__law_line an__law_line : Option Addr} {sl__law_line : Array (Option Value)} {oc__law_line kV__law_line dc__law_line pm__law_line cd__law_line ct__law_line : Value} {f__law_number_of : Addr} {od__law_number_of an__law_number_of : Option Addr} {sl__law_number_of : Array (Option Value)} {oc__law_number_of kV__law_number_of dc__law_number_of pm__law_number_of cd__law_number_of ct__law_number_of : Value} {f__law_is_row : Addr} {od__law_is_row an__law_is_row : Option Addr} {sl__law_is_row : Array (Option Value)} {oc__law_is_row kV__law_is_row dc__law_is_row pm__law_is_row cd__law_is_row ct__law_is_row : Value} {f__law_are_pairs : Addr} {od__law_are_pairs an__law_are_pairs : Option Addr} {sl__law_are_pairs : Array (Option Value)} {oc__law_are_pairs kV__law_are_pairs dc__law_are_pairs pm__law_are_pairs cd__law_are_pairs ct__law_are_pairs : Value} {f__law_due : Addr} {od__law_due an__law_due : Option Addr} {sl__law_due : Array (Option Value)} {oc__law_due kV__law_due dc__law_due pm__law_due cd__law_due ct__law_due : Value} {f__law_spoilt : Addr} {od__law_spoilt an__law_spoilt : Option Addr} {sl__law_spoilt : Array (Option Value)} {oc__law_spoilt kV__law_spoilt dc__law_spoilt pm__law_spoilt cd__law_spoilt ct__law_spoilt : Value} {f_law : Addr} {od_law an_law : Option Addr} {sl_law : Array (Option Value)} {oc_law kV_law dc_law pm_law cd_law ct_law : Value} {A_FORMS : Addr} {es_FORMS : Array DictEntry} {n_FORMS : Nat} {A_NotChain : Addr} {A_NotNet : Addr} {A_NotTrace : Addr} {A_NotPaper : Addr} {A_BadNumber : Addr} {A_NoAnswer : Addr} {A_TooLarge : Addr} {A_QueueError : Addr} {t_FIGURES : Tok} {t_SMALL : Tok} (X : K.In h) (G : h.Ns mainGlobals mg) (hfa : mg "law" = some (.ref fa))
    (a_is_integer : PySem.W.nsIn K mainGlobals "is_integer" = some (some (.ref f_is_integer)))
    (l_is_integer : K.lookup f_is_integer = some ⟨oc_is_integer, od_is_integer, .func (PySem.W.fnOf "is_integer" "is_integer" (defArgs (topS 10)) (defBody (topS 10)) (defScope (topS 10)) .none kV_is_integer dc_is_integer pm_is_integer an_is_integer cd_is_integer ct_is_integer), sl_is_integer⟩)
    (c_is_integer : PySem.W.codeIn K cd_is_integer "is_integer" = true)
    (k_is_integer : PySem.W.keepIn K (.ref f_is_integer) = true)
    (a_is_row : PySem.W.nsIn K mainGlobals "is_row" = some (some (.ref f_is_row)))
    (l_is_row : K.lookup f_is_row = some ⟨oc_is_row, od_is_row, .func (PySem.W.fnOf "is_row" "is_row" (defArgs (topS 11)) (defBody (topS 11)) (defScope (topS 11)) .none kV_is_row dc_is_row pm_is_row an_is_row cd_is_row ct_is_row), sl_is_row⟩)
    (c_is_row : PySem.W.codeIn K cd_is_row "is_row" = true)
    (k_is_row : PySem.W.keepIn K (.ref f_is_row) = true)
    (a_are_pairs : PySem.W.nsIn K mainGlobals "are_pairs" = some (some (.ref f_are_pairs)))
    (l_are_pairs : K.lookup f_are_pairs = some ⟨oc_are_pairs, od_are_pairs, .func (PySem.W.fnOf "are_pairs" "are_pairs" (defArgs (topS 12)) (defBody (topS 12)) (defScope (topS 12)) .none kV_are_pairs dc_are_pairs pm_are_pairs an_are_pairs cd_are_pairs ct_are_pairs), sl_are_pairs⟩)
    (c_are_pairs : PySem.W.codeIn K cd_are_pairs "are_pairs" = true)
    (k_are_pairs : PySem.W.keepIn K (.ref f_are_pairs) = true)
    (a_is_told_rate : PySem.W.nsIn K mainGlobals "is_told_rate" = some (some (.ref f_is_told_rate)))
    (l_is_told_rate : K.lookup f_is_told_rate = some ⟨oc_is_told_rate, od_is_told_rate, .func (PySem.W.fnOf "is_told_rate" "is_told_rate" (defArgs (topS 13)) (defBody (topS 13)) (defScope (topS 13)) .none kV_is_told_rate dc_is_told_rate pm_is_told_rate an_is_told_rate cd_is_told_rate ct_is_told_rate), sl_is_told_rate⟩)
    (c_is_told_rate : PySem.W.codeIn K cd_is_told_rate "is_told_rate" = true)
    (k_is_told_rate : PySem.W.keepIn K (.ref f_is_told_rate) = true)
    (a_is_told_chain : PySem.W.nsIn K mainGlobals "is_told_chain" = some (some (.ref f_is_told_chain)))
    (l_is_told_chain : K.lookup f_is_told_chain = some ⟨oc_is_told_chain, od_is_told_chain, .func (PySem.W.fnOf "is_told_chain" "is_told_chain" (defArgs (topS 14)) (defBody (topS 14)) (defScope (topS 14)) .none kV_is_told_chain dc_is_told_chain pm_is_told_chain an_is_told_chain cd_is_told_chain ct_is_told_chain), sl_is_told_chain⟩)
    (c_is_told_chain : PySem.W.codeIn K cd_is_told_chain "is_told_chain" = true)
    (k_is_told_chain : PySem.W.keepIn K (.ref f_is_told_chain) = true)
    (a_is_told_station : PySem.W.nsIn K mainGlobals "is_told_station" = some (some (.ref f_is_told_station)))
    (l_is_told_station : K.lookup f_is_told_station = some ⟨oc_is_told_station, od_is_told_station, .func (PySem.W.fnOf "is_told_station" "is_told_station" (defArgs (topS 15)) (defBody (topS 15)) (defScope (topS 15)) .none kV_is_told_station dc_is_told_station pm_is_told_station an_is_told_station cd_is_told_station ct_is_told_station), sl_is_told_station⟩)
    (c_is_told_station : PySem.W.codeIn K cd_is_told_station "is_told_station" = true)
    (k_is_told_station : PySem.W.keepIn K (.ref f_is_told_station) = true)
    (a_are_steps : PySem.W.nsIn K mainGlobals "are_steps" = some (some (.ref f_are_steps)))
    (l_are_steps : K.lookup f_are_steps = some ⟨oc_are_steps, od_are_steps, .func (PySem.W.fnOf "are_steps" "are_steps" (defArgs (topS 16)) (defBody (topS 16)) (defScope (topS 16)) .none kV_are_steps dc_are_steps pm_are_steps an_are_steps cd_are_steps ct_are_steps), sl_are_steps⟩)
    (c_are_steps : PySem.W.codeIn K cd_are_steps "are_steps" = true)
    (k_are_steps : PySem.W.keepIn K (.ref f_are_steps) = true)
    (a_are_slots : PySem.W.nsIn K mainGlobals "are_slots" = some (some (.ref f_are_slots)))
    (l_are_slots : K.lookup f_are_slots = some ⟨oc_are_slots, od_are_slots, .func (PySem.W.fnOf "are_slots" "are_slots" (defArgs (topS 17)) (defBody (topS 17)) (defScope (topS 17)) .none kV_are_slots dc_are_slots pm_are_slots an_are_slots cd_are_slots ct_are_slots), sl_are_slots⟩)
    (c_are_slots : PySem.W.codeIn K cd_are_slots "are_slots" = true)
    (k_are_slots : PySem.W.keepIn K (.ref f_are_slots) = true)
    (a_has_form : PySem.W.nsIn K mainGlobals "has_form" = some (some (.ref f_has_form)))
    (l_has_form : K.lookup f_has_form = some ⟨oc_has_form, od_has_form, .func (PySem.W.fnOf "has_form" "has_form" (defArgs (topS 19)) (defBody (topS 19)) (defScope (topS 19)) .none kV_has_form dc_has_form pm_has_form an_has_form cd_has_form ct_has_form), sl_has_form⟩)
    (c_has_form : PySem.W.codeIn K cd_has_form "has_form" = true)
    (k_has_form : PySem.W.keepIn K (.ref f_has_form) = true)
    (a_words_of : PySem.W.nsIn K mainGlobals "words_of" = some (some (.ref f_words_of)))
    (l_words_of : K.lookup f_words_of = some ⟨oc_words_of, od_words_of, .func (PySem.W.fnOf "words_of" "words_of" (defArgs (topS 23)) (defBody (topS 23)) (defScope (topS 23)) .none kV_words_of dc_words_of pm_words_of an_words_of cd_words_of ct_words_of), sl_words_of⟩)
    (c_words_of : PySem.W.codeIn K cd_words_of "words_of" = true)
    (k_words_of : PySem.W.keepIn K (.ref f_words_of) = true)
    (a_is_name : PySem.W.nsIn K mainGlobals "is_name" = some (some (.ref f_is_name)))
    (l_is_name : K.lookup f_is_name = some ⟨oc_is_name, od_is_name, .func (PySem.W.fnOf "is_name" "is_name" (defArgs (topS 24)) (defBody (topS 24)) (defScope (topS 24)) .none kV_is_name dc_is_name pm_is_name an_is_name cd_is_name ct_is_name), sl_is_name⟩)
    (c_is_name : PySem.W.codeIn K cd_is_name "is_name" = true)
    (k_is_name : PySem.W.keepIn K (.ref f_is_name) = true)
    (a_number_in : PySem.W.nsIn K mainGlobals "number_in" = some (some (.ref f_number_in)))
    (l_number_in : K.lookup f_number_in = some ⟨oc_number_in, od_number_in, .func (PySem.W.fnOf "number_in" "number_in" (defArgs (topS 25)) (defBody (topS 25)) (defScope (topS 25)) .none kV_number_in dc_number_in pm_number_in an_number_in cd_number_in ct_number_in), sl_number_in⟩)
    (c_number_in : PySem.W.codeIn K cd_number_in "number_in" = true)
    (k_number_in : PySem.W.keepIn K (.ref f_number_in) = true)
    (a__law_number : PySem.W.nsIn K mainGlobals "_law_number" = some (some (.ref f__law_number)))
    (l__law_number : K.lookup f__law_number = some ⟨oc__law_number, od__law_number, .func (PySem.W.fnOf "_law_number" "_law_number" (defArgs (topS 27)) (defBody (topS 27)) (defScope (topS 27)) .none kV__law_number dc__law_number pm__law_number an__law_number cd__law_number ct__law_number), sl__law_number⟩)
    (c__law_number : PySem.W.codeIn K cd__law_number "_law_number" = true)
    (k__law_number : PySem.W.keepIn K (.ref f__law_number) = true)
    (a__law_draws : PySem.W.nsIn K mainGlobals "_law_draws" = some (some (.ref f__law_draws)))
    (l__law_draws : K.lookup f__law_draws = some ⟨oc__law_draws, od__law_draws, .func (PySem.W.fnOf "_law_draws" "_law_draws" (defArgs (topS 28)) (defBody (topS 28)) (defScope (topS 28)) .none kV__law_draws dc__law_draws pm__law_draws an__law_draws cd__law_draws ct__law_draws), sl__law_draws⟩)
    (c__law_draws : PySem.W.codeIn K cd__law_draws "_law_draws" = true)
    (k__law_draws : PySem.W.keepIn K (.ref f__law_draws) = true)
    (a__law_next : PySem.W.nsIn K mainGlobals "_law_next" = some (some (.ref f__law_next)))
    (l__law_next : K.lookup f__law_next = some ⟨oc__law_next, od__law_next, .func (PySem.W.fnOf "_law_next" "_law_next" (defArgs (topS 29)) (defBody (topS 29)) (defScope (topS 29)) .none kV__law_next dc__law_next pm__law_next an__law_next cd__law_next ct__law_next), sl__law_next⟩)
    (c__law_next : PySem.W.codeIn K cd__law_next "_law_next" = true)
    (k__law_next : PySem.W.keepIn K (.ref f__law_next) = true)
    (a__law_more : PySem.W.nsIn K mainGlobals "_law_more" = some (some (.ref f__law_more)))
    (l__law_more : K.lookup f__law_more = some ⟨oc__law_more, od__law_more, .func (PySem.W.fnOf "_law_more" "_law_more" (defArgs (topS 30)) (defBody (topS 30)) (defScope (topS 30)) .none kV__law_more dc__law_more pm__law_more an__law_more cd__law_more ct__law_more), sl__law_more⟩)
    (c__law_more : PySem.W.codeIn K cd__law_more "_law_more" = true)
    (k__law_more : PySem.W.keepIn K (.ref f__law_more) = true)
    (a__law_pick : PySem.W.nsIn K mainGlobals "_law_pick" = some (some (.ref f__law_pick)))
    (l__law_pick : K.lookup f__law_pick = some ⟨oc__law_pick, od__law_pick, .func (PySem.W.fnOf "_law_pick" "_law_pick" (defArgs (topS 31)) (defBody (topS 31)) (defScope (topS 31)) .none kV__law_pick dc__law_pick pm__law_pick an__law_pick cd__law_pick ct__law_pick), sl__law_pick⟩)
    (c__law_pick : PySem.W.codeIn K cd__law_pick "_law_pick" = true)
    (k__law_pick : PySem.W.keepIn K (.ref f__law_pick) = true)
    (a__law_kind : PySem.W.nsIn K mainGlobals "_law_kind" = some (some (.ref f__law_kind)))
    (l__law_kind : K.lookup f__law_kind = some ⟨oc__law_kind, od__law_kind, .func (PySem.W.fnOf "_law_kind" "_law_kind" (defArgs (topS 32)) (defBody (topS 32)) (defScope (topS 32)) .none kV__law_kind dc__law_kind pm__law_kind an__law_kind cd__law_kind ct__law_kind), sl__law_kind⟩)
    (c__law_kind : PySem.W.codeIn K cd__law_kind "_law_kind" = true)
    (k__law_kind : PySem.W.keepIn K (.ref f__law_kind) = true)
    (a__law_line : PySem.W.nsIn K mainGlobals "_law_line" = some (some (.ref f__law_line)))
    (l__law_line : K.lookup f__law_line = some ⟨oc__law_line, od__law_line, .func (PySem.W.fnOf "_law_line" "_law_line" (defArgs (topS 33)) (defBody (topS 33)) (defScope (topS 33)) .none kV__law_line dc__law_line pm__law_line an__law_line cd__law_line ct__law_line), sl__law_line⟩)
    (c__law_line : PySem.W.codeIn K cd__law_line "_law_line" = true)
    (k__law_line : PySem.W.keepIn K (.ref f__law_line) = true)
    (a__law_number_of : PySem.W.nsIn K mainGlobals "_law_number_of" = some (some (.ref f__law_number_of)))
    (l__law_number_of : K.lookup f__law_number_of = some ⟨oc__law_number_of, od__law_number_of, .func (PySem.W.fnOf "_law_number_of" "_law_number_of" (defArgs (topS 34)) (defBody (topS 34)) (defScope (topS 34)) .none kV__law_number_of dc__law_number_of pm__law_number_of an__law_number_of cd__law_number_of ct__law_number_of), sl__law_number_of⟩)
    (c__law_number_of : PySem.W.codeIn K cd__law_number_of "_law_number_of" = true)
    (k__law_number_of : PySem.W.keepIn K (.ref f__law_number_of) = true)
    (a__law_is_row : PySem.W.nsIn K mainGlobals "_law_is_row" = some (some (.ref f__law_is_row)))
    (l__law_is_row : K.lookup f__law_is_row = some ⟨oc__law_is_row, od__law_is_row, .func (PySem.W.fnOf "_law_is_row" "_law_is_row" (defArgs (topS 35)) (defBody (topS 35)) (defScope (topS 35)) .none kV__law_is_row dc__law_is_row pm__law_is_row an__law_is_row cd__law_is_row ct__law_is_row), sl__law_is_row⟩)
    (c__law_is_row : PySem.W.codeIn K cd__law_is_row "_law_is_row" = true)
    (k__law_is_row : PySem.W.keepIn K (.ref f__law_is_row) = true)
    (a__law_are_pairs : PySem.W.nsIn K mainGlobals "_law_are_pairs" = some (some (.ref f__law_are_pairs)))
    (l__law_are_pairs : K.lookup f__law_are_pairs = some ⟨oc__law_are_pairs, od__law_are_pairs, .func (PySem.W.fnOf "_law_are_pairs" "_law_are_pairs" (defArgs (topS 36)) (defBody (topS 36)) (defScope (topS 36)) .none kV__law_are_pairs dc__law_are_pairs pm__law_are_pairs an__law_are_pairs cd__law_are_pairs ct__law_are_pairs), sl__law_are_pairs⟩)
    (c__law_are_pairs : PySem.W.codeIn K cd__law_are_pairs "_law_are_pairs" = true)
    (k__law_are_pairs : PySem.W.keepIn K (.ref f__law_are_pairs) = true)
    (a__law_due : PySem.W.nsIn K mainGlobals "_law_due" = some (some (.ref f__law_due)))
    (l__law_due : K.lookup f__law_due = some ⟨oc__law_due, od__law_due, .func (PySem.W.fnOf "_law_due" "_law_due" (defArgs (topS 37)) (defBody (topS 37)) (defScope (topS 37)) .none kV__law_due dc__law_due pm__law_due an__law_due cd__law_due ct__law_due), sl__law_due⟩)
    (c__law_due : PySem.W.codeIn K cd__law_due "_law_due" = true)
    (k__law_due : PySem.W.keepIn K (.ref f__law_due) = true)
    (a__law_spoilt : PySem.W.nsIn K mainGlobals "_law_spoilt" = some (some (.ref f__law_spoilt)))
    (l__law_spoilt : K.lookup f__law_spoilt = some ⟨oc__law_spoilt, od__law_spoilt, .func (PySem.W.fnOf "_law_spoilt" "_law_spoilt" (defArgs (topS 38)) (defBody (topS 38)) (defScope (topS 38)) .none kV__law_spoilt dc__law_spoilt pm__law_spoilt an__law_spoilt cd__law_spoilt ct__law_spoilt), sl__law_spoilt⟩)
    (c__law_spoilt : PySem.W.codeIn K cd__law_spoilt "_law_spoilt" = true)
    (k__law_spoilt : PySem.W.keepIn K (.ref f__law_spoilt) = true)
    (a_law : PySem.W.nsIn K mainGlobals "law" = some (some (.ref f_law)))
    (l_law : K.lookup f_law = some ⟨oc_law, od_law, .func (PySem.W.fnOf "law" "law" (defArgs (topS 39)) (defBody (topS 39)) (defScope (topS 39)) .none kV_law dc_law pm_law an_law cd_law ct_law), sl_law⟩)
    (c_law : PySem.W.codeIn K cd_law "law" = true)
    (k_law : PySem.W.keepIn K (.ref f_law) = true)
    (z_all : PySem.W.nsIn K mainGlobals "all" = some none)
    (z_int : PySem.W.nsIn K mainGlobals "int" = some none)
    (z_isinstance : PySem.W.nsIn K mainGlobals "isinstance" = some none)
    (z_len : PySem.W.nsIn K mainGlobals "len" = some none)
    (z_range : PySem.W.nsIn K mainGlobals "range" = some none)
    (z_repr : PySem.W.nsIn K mainGlobals "repr" = some none)
    (z_str : PySem.W.nsIn K mainGlobals "str" = some none)
    (z_tuple : PySem.W.nsIn K mainGlobals "tuple" = some none)
    (v_FIGURES : PySem.W.nsIn K mainGlobals "FIGURES" = some (some (.str "0123456789" t_FIGURES)))
    (v_SMALL : PySem.W.nsIn K mainGlobals "SMALL" = some (some (.str "abcdefghijklmnopqrstuvwxyz" t_SMALL)))
    (g_NotChain : PySem.W.nsIn K mainGlobals "NotChain" = some (some (.ref A_NotChain)))
    (s_NotChain : PySem.W.subIn K (.ref A_NotChain) (.type "BaseException") = some true)
    (y_NotChain : PySem.W.typeIn K (.ref A_NotChain) = some (.type "type"))
    (g_NotNet : PySem.W.nsIn K mainGlobals "NotNet" = some (some (.ref A_NotNet)))
    (s_NotNet : PySem.W.subIn K (.ref A_NotNet) (.type "BaseException") = some true)
    (y_NotNet : PySem.W.typeIn K (.ref A_NotNet) = some (.type "type"))
    (g_NotTrace : PySem.W.nsIn K mainGlobals "NotTrace" = some (some (.ref A_NotTrace)))
    (s_NotTrace : PySem.W.subIn K (.ref A_NotTrace) (.type "BaseException") = some true)
    (y_NotTrace : PySem.W.typeIn K (.ref A_NotTrace) = some (.type "type"))
    (g_NotPaper : PySem.W.nsIn K mainGlobals "NotPaper" = some (some (.ref A_NotPaper)))
    (s_NotPaper : PySem.W.subIn K (.ref A_NotPaper) (.type "BaseException") = some true)
    (y_NotPaper : PySem.W.typeIn K (.ref A_NotPaper) = some (.type "type"))
    (g_BadNumber : PySem.W.nsIn K mainGlobals "BadNumber" = some (some (.ref A_BadNumber)))
    (s_BadNumber : PySem.W.subIn K (.ref A_BadNumber) (.type "BaseException") = some true)
    (y_BadNumber : PySem.W.typeIn K (.ref A_BadNumber) = some (.type "type"))
    (g_NoAnswer : PySem.W.nsIn K mainGlobals "NoAnswer" = some (some (.ref A_NoAnswer)))
    (s_NoAnswer : PySem.W.subIn K (.ref A_NoAnswer) (.type "BaseException") = some true)
    (y_NoAnswer : PySem.W.typeIn K (.ref A_NoAnswer) = some (.type "type"))
    (g_TooLarge : PySem.W.nsIn K mainGlobals "TooLarge" = some (some (.ref A_TooLarge)))
    (s_TooLarge : PySem.W.subIn K (.ref A_TooLarge) (.type "BaseException") = some true)
    (y_TooLarge : PySem.W.typeIn K (.ref A_TooLarge) = some (.type "type"))
    (g_QueueError : PySem.W.nsIn K mainGlobals "QueueError" = some (some (.ref A_QueueError)))
    (s_QueueError : PySem.W.subIn K (.ref A_QueueError) (.type "BaseException") = some true)
    (y_QueueError : PySem.W.typeIn K (.ref A_QueueError) = some (.type "type"))
    (a_FORMS : PySem.W.nsIn K mainGlobals "FORMS" = some (some (.ref A_FORMS)))
    (l_FORMS : K.lookup A_FORMS = some ⟨.type "dict", none, .dict es_FORMS n_FORMS, #[]⟩)
    (k_FORMS : PySem.W.KeysLit w.params es_FORMS.toList)
    (s_FORMS : (A_FORMS == sysModules) = false)
    (n_FORMS_0 : PySem.W.nsIn K A_FORMS "chain" = some (some (.ref f_is_told_chain)))
    (n_FORMS_1 : PySem.W.nsIn K A_FORMS "station" = some (some (.ref f_is_told_station)))
    (n_FORMS_2 : PySem.W.nsIn K A_FORMS "fractions" = some (some (.ref f_are_pairs)))
    (n_FORMS_3 : PySem.W.nsIn K A_FORMS "steps" = some (some (.ref f_are_steps)))
    (n_FORMS_4 : PySem.W.nsIn K A_FORMS "slots" = some (some (.ref f_are_slots)))
    (n_FORMS_5 : PySem.W.nsIn K A_FORMS "row" = some (some (.ref f_is_row)))
    (z_FORMS_0 : PySem.W.nsIn K A_FORMS "" = some none)
    (z_FORMS_1 : PySem.W.nsIn K A_FORMS "Form" = some none)
    (z_FORMS_2 : PySem.W.nsIn K A_FORMS "term" = some none)
    (e_BadNumber : PySem.W.excIn K A_BadNumber [.type "ValueError", .type "Exception", .type "BaseException", .type "object"] "ValueError.__new__" = true)
    (p_BadNumber : PySem.W.keepIn K (.ref A_BadNumber) = true)
    (q_h : PySem.W.hasDictIn K A_QueueError = true)
    (q_n : PySem.W.specialIn K (.builtin "object.__class__") "__get__" = some (some (.builtin "getset_descriptor.__get__")))
    (q_t : PySem.W.takesIn K (.builtin "object.__class__") = some true)
    (u_NotChain : PySem.W.subIn K (.ref A_NotChain) (.ref A_QueueError) = some true)
    (n1_NotChain : PySem.W.findIn K (.ref A_NotChain) "__getattribute__" = some (some (.builtin "BaseException.__getattribute__")))
    (n2_NotChain : PySem.W.findIn K (.ref A_NotChain) "__getattr__" = some none)
    (n3_NotChain : PySem.W.hasDictIn K A_NotChain = true)
    (n4_NotChain : PySem.W.findIn K (.ref A_NotChain) "__class__" = some (some (.builtin "object.__class__")))
    (n5_NotChain : PySem.W.mroIn K A_NotChain (.type "object") = some true)
    (kit_NotChain_NotChain : PySem.W.kitOne K (.ref A_NotChain) (.ref A_NotChain) = some true)
    (kit_NotChain_NotNet : PySem.W.kitOne K (.ref A_NotChain) (.ref A_NotNet) = some false)
    (kit_NotChain_NotTrace : PySem.W.kitOne K (.ref A_NotChain) (.ref A_NotTrace) = some false)
    (kit_NotChain_NotPaper : PySem.W.kitOne K (.ref A_NotChain) (.ref A_NotPaper) = some false)
    (kit_NotChain_BadNumber : PySem.W.kitOne K (.ref A_NotChain) (.ref A_BadNumber) = some false)
    (kit_NotChain_NoAnswer : PySem.W.kitOne K (.ref A_NotChain) (.ref A_NoAnswer) = some false)
    (kit_NotChain_TooLarge : PySem.W.kitOne K (.ref A_NotChain) (.ref A_TooLarge) = some false)
    (u_NotNet : PySem.W.subIn K (.ref A_NotNet) (.ref A_QueueError) = some true)
    (n1_NotNet : PySem.W.findIn K (.ref A_NotNet) "__getattribute__" = some (some (.builtin "BaseException.__getattribute__")))
    (n2_NotNet : PySem.W.findIn K (.ref A_NotNet) "__getattr__" = some none)
    (n3_NotNet : PySem.W.hasDictIn K A_NotNet = true)
    (n4_NotNet : PySem.W.findIn K (.ref A_NotNet) "__class__" = some (some (.builtin "object.__class__")))
    (n5_NotNet : PySem.W.mroIn K A_NotNet (.type "object") = some true)
    (kit_NotNet_NotChain : PySem.W.kitOne K (.ref A_NotNet) (.ref A_NotChain) = some false)
    (kit_NotNet_NotNet : PySem.W.kitOne K (.ref A_NotNet) (.ref A_NotNet) = some true)
    (kit_NotNet_NotTrace : PySem.W.kitOne K (.ref A_NotNet) (.ref A_NotTrace) = some false)
    (kit_NotNet_NotPaper : PySem.W.kitOne K (.ref A_NotNet) (.ref A_NotPaper) = some false)
    (kit_NotNet_BadNumber : PySem.W.kitOne K (.ref A_NotNet) (.ref A_BadNumber) = some false)
    (kit_NotNet_NoAnswer : PySem.W.kitOne K (.ref A_NotNet) (.ref A_NoAnswer) = some false)
    (kit_NotNet_TooLarge : PySem.W.kitOne K (.ref A_NotNet) (.ref A_TooLarge) = some false)
    (u_NotTrace : PySem.W.subIn K (.ref A_NotTrace) (.ref A_QueueError) = some true)
    (n1_NotTrace : PySem.W.findIn K (.ref A_NotTrace) "__getattribute__" = some (some (.builtin "BaseException.__getattribute__")))
    (n2_NotTrace : PySem.W.findIn K (.ref A_NotTrace) "__getattr__" = some none)
    (n3_NotTrace : PySem.W.hasDictIn K A_NotTrace = true)
    (n4_NotTrace : PySem.W.findIn K (.ref A_NotTrace) "__class__" = some (some (.builtin "object.__class__")))
    (n5_NotTrace : PySem.W.mroIn K A_NotTrace (.type "object") = some true)
    (kit_NotTrace_NotChain : PySem.W.kitOne K (.ref A_NotTrace) (.ref A_NotChain) = some false)
    (kit_NotTrace_NotNet : PySem.W.kitOne K (.ref A_NotTrace) (.ref A_NotNet) = some false)
    (kit_NotTrace_NotTrace : PySem.W.kitOne K (.ref A_NotTrace) (.ref A_NotTrace) = some true)
    (kit_NotTrace_NotPaper : PySem.W.kitOne K (.ref A_NotTrace) (.ref A_NotPaper) = some false)
    (kit_NotTrace_BadNumber : PySem.W.kitOne K (.ref A_NotTrace) (.ref A_BadNumber) = some false)
    (kit_NotTrace_NoAnswer : PySem.W.kitOne K (.ref A_NotTrace) (.ref A_NoAnswer) = some false)
    (kit_NotTrace_TooLarge : PySem.W.kitOne K (.ref A_NotTrace) (.ref A_TooLarge) = some false)
    (u_NotPaper : PySem.W.subIn K (.ref A_NotPaper) (.ref A_QueueError) = some true)
    (n1_NotPaper : PySem.W.findIn K (.ref A_NotPaper) "__getattribute__" = some (some (.builtin "BaseException.__getattribute__")))
    (n2_NotPaper : PySem.W.findIn K (.ref A_NotPaper) "__getattr__" = some none)
    (n3_NotPaper : PySem.W.hasDictIn K A_NotPaper = true)
    (n4_NotPaper : PySem.W.findIn K (.ref A_NotPaper) "__class__" = some (some (.builtin "object.__class__")))
    (n5_NotPaper : PySem.W.mroIn K A_NotPaper (.type "object") = some true)
    (kit_NotPaper_NotChain : PySem.W.kitOne K (.ref A_NotPaper) (.ref A_NotChain) = some false)
    (kit_NotPaper_NotNet : PySem.W.kitOne K (.ref A_NotPaper) (.ref A_NotNet) = some false)
    (kit_NotPaper_NotTrace : PySem.W.kitOne K (.ref A_NotPaper) (.ref A_NotTrace) = some false)
    (kit_NotPaper_NotPaper : PySem.W.kitOne K (.ref A_NotPaper) (.ref A_NotPaper) = some true)
    (kit_NotPaper_BadNumber : PySem.W.kitOne K (.ref A_NotPaper) (.ref A_BadNumber) = some false)
    (kit_NotPaper_NoAnswer : PySem.W.kitOne K (.ref A_NotPaper) (.ref A_NoAnswer) = some false)
    (kit_NotPaper_TooLarge : PySem.W.kitOne K (.ref A_NotPaper) (.ref A_TooLarge) = some false)
    (u_BadNumber : PySem.W.subIn K (.ref A_BadNumber) (.ref A_QueueError) = some true)
    (n1_BadNumber : PySem.W.findIn K (.ref A_BadNumber) "__getattribute__" = some (some (.builtin "BaseException.__getattribute__")))
    (n2_BadNumber : PySem.W.findIn K (.ref A_BadNumber) "__getattr__" = some none)
    (n3_BadNumber : PySem.W.hasDictIn K A_BadNumber = true)
    (n4_BadNumber : PySem.W.findIn K (.ref A_BadNumber) "__class__" = some (some (.builtin "object.__class__")))
    (n5_BadNumber : PySem.W.mroIn K A_BadNumber (.type "object") = some true)
    (kit_BadNumber_NotChain : PySem.W.kitOne K (.ref A_BadNumber) (.ref A_NotChain) = some false)
    (kit_BadNumber_NotNet : PySem.W.kitOne K (.ref A_BadNumber) (.ref A_NotNet) = some false)
    (kit_BadNumber_NotTrace : PySem.W.kitOne K (.ref A_BadNumber) (.ref A_NotTrace) = some false)
    (kit_BadNumber_NotPaper : PySem.W.kitOne K (.ref A_BadNumber) (.ref A_NotPaper) = some false)
    (kit_BadNumber_BadNumber : PySem.W.kitOne K (.ref A_BadNumber) (.ref A_BadNumber) = some true)
    (kit_BadNumber_NoAnswer : PySem.W.kitOne K (.ref A_BadNumber) (.ref A_NoAnswer) = some false)
    (kit_BadNumber_TooLarge : PySem.W.kitOne K (.ref A_BadNumber) (.ref A_TooLarge) = some false)
    (u_NoAnswer : PySem.W.subIn K (.ref A_NoAnswer) (.ref A_QueueError) = some true)
    (n1_NoAnswer : PySem.W.findIn K (.ref A_NoAnswer) "__getattribute__" = some (some (.builtin "BaseException.__getattribute__")))
    (n2_NoAnswer : PySem.W.findIn K (.ref A_NoAnswer) "__getattr__" = some none)
    (n3_NoAnswer : PySem.W.hasDictIn K A_NoAnswer = true)
    (n4_NoAnswer : PySem.W.findIn K (.ref A_NoAnswer) "__class__" = some (some (.builtin "object.__class__")))
    (n5_NoAnswer : PySem.W.mroIn K A_NoAnswer (.type "object") = some true)
    (kit_NoAnswer_NotChain : PySem.W.kitOne K (.ref A_NoAnswer) (.ref A_NotChain) = some false)
    (kit_NoAnswer_NotNet : PySem.W.kitOne K (.ref A_NoAnswer) (.ref A_NotNet) = some false)
    (kit_NoAnswer_NotTrace : PySem.W.kitOne K (.ref A_NoAnswer) (.ref A_NotTrace) = some false)
    (kit_NoAnswer_NotPaper : PySem.W.kitOne K (.ref A_NoAnswer) (.ref A_NotPaper) = some false)
    (kit_NoAnswer_BadNumber : PySem.W.kitOne K (.ref A_NoAnswer) (.ref A_BadNumber) = some false)
    (kit_NoAnswer_NoAnswer : PySem.W.kitOne K (.ref A_NoAnswer) (.ref A_NoAnswer) = some true)
    (kit_NoAnswer_TooLarge : PySem.W.kitOne K (.ref A_NoAnswer) (.ref A_TooLarge) = some false)
    (u_TooLarge : PySem.W.subIn K (.ref A_TooLarge) (.ref A_QueueError) = some true)
    (n1_TooLarge : PySem.W.findIn K (.ref A_TooLarge) "__getattribute__" = some (some (.builtin "BaseException.__getattribute__")))
    (n2_TooLarge : PySem.W.findIn K (.ref A_TooLarge) "__getattr__" = some none)
    (n3_TooLarge : PySem.W.hasDictIn K A_TooLarge = true)
    (n4_TooLarge : PySem.W.findIn K (.ref A_TooLarge) "__class__" = some (some (.builtin "object.__class__")))
    (n5_TooLarge : PySem.W.mroIn K A_TooLarge (.type "object") = some true)
    (kit_TooLarge_NotChain : PySem.W.kitOne K (.ref A_TooLarge) (.ref A_NotChain) = some false)
    (kit_TooLarge_NotNet : PySem.W.kitOne K (.ref A_TooLarge) (.ref A_NotNet) = some false)
    (kit_TooLarge_NotTrace : PySem.W.kitOne K (.ref A_TooLarge) (.ref A_NotTrace) = some false)
    (kit_TooLarge_NotPaper : PySem.W.kitOne K (.ref A_TooLarge) (.ref A_NotPaper) = some false)
    (kit_TooLarge_BadNumber : PySem.W.kitOne K (.ref A_TooLarge) (.ref A_BadNumber) = some false)
    (kit_TooLarge_NoAnswer : PySem.W.kitOne K (.ref A_TooLarge) (.ref A_NoAnswer) = some false)
    (kit_TooLarge_TooLarge : PySem.W.kitOne K (.ref A_TooLarge) (.ref A_TooLarge) = some true)
    : ∃ fd : FuncData, (∀ (s : Shared) (v : Value), BindsTo s fd ⟨[v], []⟩ [("script", v)]) ∧ ∀ base : Heap, K.In base → base.Ns mainGlobals mg → FnG l.prog w K mg base 10 fa fd ["script"] (spM K mg 1 F_law) := by
  have e := hfa.symm.trans (PySem.W.mg_of X G a_law)
  cases e
  have Fu_is_integer := fun_mk (st := topS 10) l_is_integer c_is_integer k_is_integer
  have m_is_integer := PySem.W.mg_of X G a_is_integer
  have b_is_integer := Fu_is_integer.binds (ps := ["term"]) fun _ _ _ _ _ _ us hl => match us, hl with | [_], _ => rfl
  have Fu_is_row := fun_mk (st := topS 11) l_is_row c_is_row k_is_row
  have m_is_row := PySem.W.mg_of X G a_is_row
  have b_is_row := Fu_is_row.binds (ps := ["term"]) fun _ _ _ _ _ _ us hl => match us, hl with | [_], _ => rfl
  have Fu_are_pairs := fun_mk (st := topS 12) l_are_pairs c_are_pairs k_are_pairs
  have m_are_pairs := PySem.W.mg_of X G a_are_pairs
  have b_are_pairs := Fu_are_pairs.binds (ps := ["term"]) fun _ _ _ _ _ _ us hl => match us, hl with | [_], _ => rfl
  have Fu_is_told_rate := fun_mk (st := topS 13) l_is_told_rate c_is_told_rate k_is_told_rate
  have m_is_told_rate := PySem.W.mg_of X G a_is_told_rate
  have b_is_told_rate := Fu_is_told_rate.binds (ps := ["term"]) fun _ _ _ _ _ _ us hl => match us, hl with | [_], _ => rfl
  have Fu_is_told_chain := fun_mk (st := topS 14) l_is_told_chain c_is_told_chain k_is_told_chain
  have m_is_told_chain := PySem.W.mg_of X G a_is_told_chain
  have b_is_told_chain := Fu_is_told_chain.binds (ps := ["term"]) fun _ _ _ _ _ _ us hl => match us, hl with | [_], _ => rfl
  have Fu_is_told_station := fun_mk (st := topS 15) l_is_told_station c_is_told_station k_is_told_station
  have m_is_told_station := PySem.W.mg_of X G a_is_told_station
  have b_is_told_station := Fu_is_told_station.binds (ps := ["term"]) fun _ _ _ _ _ _ us hl => match us, hl with | [_], _ => rfl
  have Fu_are_steps := fun_mk (st := topS 16) l_are_steps c_are_steps k_are_steps
  have m_are_steps := PySem.W.mg_of X G a_are_steps
  have b_are_steps := Fu_are_steps.binds (ps := ["term"]) fun _ _ _ _ _ _ us hl => match us, hl with | [_], _ => rfl
  have Fu_are_slots := fun_mk (st := topS 17) l_are_slots c_are_slots k_are_slots
  have m_are_slots := PySem.W.mg_of X G a_are_slots
  have b_are_slots := Fu_are_slots.binds (ps := ["term"]) fun _ _ _ _ _ _ us hl => match us, hl with | [_], _ => rfl
  have Fu_has_form := fun_mk (st := topS 19) l_has_form c_has_form k_has_form
  have m_has_form := PySem.W.mg_of X G a_has_form
  have b_has_form := Fu_has_form.binds (ps := ["thing", "term"]) fun _ _ _ _ _ _ us hl => match us, hl with | [_, _], _ => rfl
  have Fu_words_of := fun_mk (st := topS 23) l_words_of c_words_of k_words_of
  have m_words_of := PySem.W.mg_of X G a_words_of
  have b_words_of := Fu_words_of.binds (ps := ["line"]) fun _ _ _ _ _ _ us hl => match us, hl with | [_], _ => rfl
  have Fu_is_name := fun_mk (st := topS 24) l_is_name c_is_name k_is_name
  have m_is_name := PySem.W.mg_of X G a_is_name
  have b_is_name := Fu_is_name.binds (ps := ["word"]) fun _ _ _ _ _ _ us hl => match us, hl with | [_], _ => rfl
  have Fu_number_in := fun_mk (st := topS 25) l_number_in c_number_in k_number_in
  have m_number_in := PySem.W.mg_of X G a_number_in
  have b_number_in := Fu_number_in.binds (ps := ["word"]) fun _ _ _ _ _ _ us hl => match us, hl with | [_], _ => rfl
  have Fu__law_number := fun_mk (st := topS 27) l__law_number c__law_number k__law_number
  have m__law_number := PySem.W.mg_of X G a__law_number
  have b__law_number := Fu__law_number.binds (ps := ["cell"]) fun _ _ _ _ _ _ us hl => match us, hl with | [_], _ => rfl
  have Fu__law_draws := fun_mk (st := topS 28) l__law_draws c__law_draws k__law_draws
  have m__law_draws := PySem.W.mg_of X G a__law_draws
  have b__law_draws := Fu__law_draws.binds (ps := ["script"]) fun _ _ _ _ _ _ us hl => match us, hl with | [_], _ => rfl
  have Fu__law_next := fun_mk (st := topS 29) l__law_next c__law_next k__law_next
  have m__law_next := PySem.W.mg_of X G a__law_next
  have b__law_next := Fu__law_next.binds (ps := ["draws"]) fun _ _ _ _ _ _ us hl => match us, hl with | [_], _ => rfl
  have Fu__law_more := fun_mk (st := topS 30) l__law_more c__law_more k__law_more
  have m__law_more := PySem.W.mg_of X G a__law_more
  have b__law_more := Fu__law_more.binds (ps := ["draws", "many"]) fun _ _ _ _ _ _ us hl => match us, hl with | [_, _], _ => rfl
  have Fu__law_pick := fun_mk (st := topS 31) l__law_pick c__law_pick k__law_pick
  have m__law_pick := PySem.W.mg_of X G a__law_pick
  have b__law_pick := Fu__law_pick.binds (ps := ["draws", "some"]) fun _ _ _ _ _ _ us hl => match us, hl with | [_, _], _ => rfl
  have Fu__law_kind := fun_mk (st := topS 32) l__law_kind c__law_kind k__law_kind
  have m__law_kind := PySem.W.mg_of X G a__law_kind
  have b__law_kind := Fu__law_kind.binds (ps := ["error"]) fun _ _ _ _ _ _ us hl => match us, hl with | [_], _ => rfl
  have Fu__law_line := fun_mk (st := topS 33) l__law_line c__law_line k__law_line
  have m__law_line := PySem.W.mg_of X G a__law_line
  have b__law_line := Fu__law_line.binds (ps := ["line"]) fun _ _ _ _ _ _ us hl => match us, hl with | [_], _ => rfl
  have Fu__law_number_of := fun_mk (st := topS 34) l__law_number_of c__law_number_of k__law_number_of
  have m__law_number_of := PySem.W.mg_of X G a__law_number_of
  have b__law_number_of := Fu__law_number_of.binds (ps := ["word"]) fun _ _ _ _ _ _ us hl => match us, hl with | [_], _ => rfl
  have Fu__law_is_row := fun_mk (st := topS 35) l__law_is_row c__law_is_row k__law_is_row
  have m__law_is_row := PySem.W.mg_of X G a__law_is_row
  have b__law_is_row := Fu__law_is_row.binds (ps := ["term"]) fun _ _ _ _ _ _ us hl => match us, hl with | [_], _ => rfl
  have Fu__law_are_pairs := fun_mk (st := topS 36) l__law_are_pairs c__law_are_pairs k__law_are_pairs
  have m__law_are_pairs := PySem.W.mg_of X G a__law_are_pairs
  have b__law_are_pairs := Fu__law_are_pairs.binds (ps := ["term"]) fun _ _ _ _ _ _ us hl => match us, hl with | [_], _ => rfl
  have Fu__law_due := fun_mk (st := topS 37) l__law_due c__law_due k__law_due
  have m__law_due := PySem.W.mg_of X G a__law_due
  have b__law_due := Fu__law_due.binds (ps := ["thing", "term"]) fun _ _ _ _ _ _ us hl => match us, hl with | [_, _], _ => rfl
  have Fu__law_spoilt := fun_mk (st := topS 38) l__law_spoilt c__law_spoilt k__law_spoilt
  have m__law_spoilt := PySem.W.mg_of X G a__law_spoilt
  have b__law_spoilt := Fu__law_spoilt.binds (ps := ["draws", "term"]) fun _ _ _ _ _ _ us hl => match us, hl with | [_, _], _ => rfl
  have Fu_law := fun_mk (st := topS 39) l_law c_law k_law
  have m_law := PySem.W.mg_of X G a_law
  have b_law := Fu_law.binds (ps := ["script"]) fun _ _ _ _ _ _ us hl => match us, hl with | [_], _ => rfl
  have ca : CatchOk K mg "QueueError" kindF := catch_mk X G g_NotChain g_NotNet g_NotTrace g_NotPaper g_BadNumber g_NoAnswer g_TooLarge g_QueueError s_QueueError y_QueueError q_h u_NotChain u_NotNet u_NotTrace u_NotPaper u_BadNumber u_NoAnswer u_TooLarge
  have T : KindT K mg := kindt_mk X G g_NotChain g_NotNet g_NotTrace g_NotPaper g_BadNumber g_NoAnswer g_TooLarge q_n q_t s_NotChain n1_NotChain n2_NotChain n3_NotChain n4_NotChain n5_NotChain kit_NotChain_NotChain kit_NotChain_NotNet kit_NotChain_NotTrace kit_NotChain_NotPaper kit_NotChain_BadNumber kit_NotChain_NoAnswer kit_NotChain_TooLarge s_NotNet n1_NotNet n2_NotNet n3_NotNet n4_NotNet n5_NotNet kit_NotNet_NotChain kit_NotNet_NotNet kit_NotNet_NotTrace kit_NotNet_NotPaper kit_NotNet_BadNumber kit_NotNet_NoAnswer kit_NotNet_TooLarge s_NotTrace n1_NotTrace n2_NotTrace n3_NotTrace n4_NotTrace n5_NotTrace kit_NotTrace_NotChain kit_NotTrace_NotNet kit_NotTrace_NotTrace kit_NotTrace_NotPaper kit_NotTrace_BadNumber kit_NotTrace_NoAnswer kit_NotTrace_TooLarge s_NotPaper n1_NotPaper n2_NotPaper n3_NotPaper n4_NotPaper n5_NotPaper kit_NotPaper_NotChain kit_NotPaper_NotNet kit_NotPaper_NotTrace kit_NotPaper_NotPaper kit_NotPaper_BadNumber kit_NotPaper_NoAnswer kit_NotPaper_TooLarge s_BadNumber n1_BadNumber n2_BadNumber n3_BadNumber n4_BadNumber n5_BadNumber kit_BadNumber_NotChain kit_BadNumber_NotNet kit_BadNumber_NotTrace kit_BadNumber_NotPaper kit_BadNumber_BadNumber kit_BadNumber_NoAnswer kit_BadNumber_TooLarge s_NoAnswer n1_NoAnswer n2_NoAnswer n3_NoAnswer n4_NoAnswer n5_NoAnswer kit_NoAnswer_NotChain kit_NoAnswer_NotNet kit_NoAnswer_NotTrace kit_NoAnswer_NotPaper kit_NoAnswer_BadNumber kit_NoAnswer_NoAnswer kit_NoAnswer_TooLarge s_TooLarge n1_TooLarge n2_TooLarge n3_TooLarge n4_TooLarge n5_TooLarge kit_TooLarge_NotChain kit_TooLarge_NotNet kit_TooLarge_NotTrace kit_TooLarge_NotPaper kit_TooLarge_BadNumber kit_TooLarge_NoAnswer kit_TooLarge_TooLarge
  have M : MG K w mg := { b_all := PySem.W.mg_none_of X G z_all, b_int := PySem.W.mg_none_of X G z_int, b_isinstance := PySem.W.mg_none_of X G z_isinstance, b_len := PySem.W.mg_none_of X G z_len, b_range := PySem.W.mg_none_of X G z_range, b_repr := PySem.W.mg_none_of X G z_repr, b_str := PySem.W.mg_none_of X G z_str, b_tuple := PySem.W.mg_none_of X G z_tuple, v_FIGURES := ⟨_, PySem.W.mg_of X G v_FIGURES⟩, v_SMALL := ⟨_, PySem.W.mg_of X G v_SMALL⟩, x_BadNumber := ⟨A_BadNumber, PySem.W.mg_of X G g_BadNumber, e_BadNumber, p_BadNumber, s_BadNumber, y_BadNumber⟩, d_is_integer := ⟨_, m_is_integer⟩, d_is_row := ⟨_, m_is_row⟩, d_are_pairs := ⟨_, m_are_pairs⟩, d_is_told_rate := ⟨_, m_is_told_rate⟩, d_is_told_chain := ⟨_, m_is_told_chain⟩, d_is_told_station := ⟨_, m_is_told_station⟩, d_are_steps := ⟨_, m_are_steps⟩, d_are_slots := ⟨_, m_are_slots⟩, d_has_form := ⟨_, m_has_form⟩, d_words_of := ⟨_, m_words_of⟩, d_is_name := ⟨_, m_is_name⟩, d_number_in := ⟨_, m_number_in⟩, d__law_number := ⟨_, m__law_number⟩, d__law_draws := ⟨_, m__law_draws⟩, d__law_next := ⟨_, m__law_next⟩, d__law_more := ⟨_, m__law_more⟩, d__law_pick := ⟨_, m__law_pick⟩, d__law_kind := ⟨_, m__law_kind⟩, d__law_line := ⟨_, m__law_line⟩, d__law_number_of := ⟨_, m__law_number_of⟩, d__law_is_row := ⟨_, m__law_is_row⟩, d__law_are_pairs := ⟨_, m__law_are_pairs⟩, d__law_due := ⟨_, m__law_due⟩, d__law_spoilt := ⟨_, m__law_spoilt⟩, d_law := ⟨_, m_law⟩, t_FORMS := tabg_of (PySem.W.mg_of X G a_FORMS) l_FORMS k_FORMS s_FORMS (tab_def m_is_told_chain n_FORMS_0 (tab_def m_is_told_station n_FORMS_1 (tab_def m_are_pairs n_FORMS_2 (tab_def m_are_steps n_FORMS_3 (tab_def m_are_slots n_FORMS_4 (tab_def m_is_row n_FORMS_5 (tab_absent z_FORMS_0 (tab_absent z_FORMS_1 (tab_absent z_FORMS_2 (tab_none)))))))))), catch_ := ca }
  refine ⟨PySem.W.fnOf "law" "law" (defArgs (topS 39)) (defBody (topS 39)) (defScope (topS 39)) .none kV_law dc_law pm_law an_law cd_law ct_law, fun s v => .of_eq rfl, fun base _ _ => ?_⟩
  have C_is_integer : CalG l.prog w K mg base 1 "is_integer" 1 F_is_integer := cal_mk (ok_is_integer Fu_is_integer M ) Fu_is_integer m_is_integer b_is_integer rfl
  have C_is_row : CalG l.prog w K mg base 2 "is_row" 1 F_is_row := cal_mk (ok_is_row Fu_is_row M C_is_integer) Fu_is_row m_is_row b_is_row rfl
  have C_are_pairs : CalG l.prog w K mg base 3 "are_pairs" 1 F_are_pairs := cal_mk (ok_are_pairs Fu_are_pairs M C_is_row) Fu_are_pairs m_are_pairs b_are_pairs rfl
  have C_is_told_rate : CalG l.prog w K mg base 3 "is_told_rate" 1 F_is_told_rate := cal_mk (ok_is_told_rate Fu_is_told_rate M C_is_row) Fu_is_told_rate m_is_told_rate b_is_told_rate rfl
  have C_is_told_chain : CalG l.prog w K mg base 4 "is_told_chain" 1 F_is_told_chain := cal_mk (ok_is_told_chain Fu_is_told_chain M C_is_integer C_is_told_rate) Fu_is_told_chain m_is_told_chain b_is_told_chain rfl
  have C_is_told_station : CalG l.prog w K mg base 4 "is_told_station" 1 F_is_told_station := cal_mk (ok_is_told_station Fu_is_told_station M C_are_pairs) Fu_is_told_station m_is_told_station b_is_told_station rfl
  have C_are_steps : CalG l.prog w K mg base 4 "are_steps" 1 F_are_steps := cal_mk (ok_are_steps Fu_are_steps M C_are_pairs) Fu_are_steps m_are_steps b_are_steps rfl
  have C_are_slots : CalG l.prog w K mg base 4 "are_slots" 1 F_are_slots := cal_mk (ok_are_slots Fu_are_slots M C_is_integer C_are_pairs) Fu_are_slots m_are_slots b_are_slots rfl
  have C_has_form : CalG l.prog w K mg base 5 "has_form" 2 F_has_form := cal_mk (ok_has_form Fu_has_form M C_is_row C_are_pairs C_is_told_chain C_is_told_station C_are_steps C_are_slots) Fu_has_form m_has_form b_has_form rfl
  have C_words_of : CalG l.prog w K mg base 1 "words_of" 1 F_words_of := cal_mk (ok_words_of Fu_words_of M ) Fu_words_of m_words_of b_words_of rfl
  have C_is_name : CalG l.prog w K mg base 1 "is_name" 1 F_is_name := cal_mk (ok_is_name Fu_is_name M ) Fu_is_name m_is_name b_is_name rfl
  have C_number_in : CalG l.prog w K mg base 1 "number_in" 1 F_number_in := cal_mk (ok_number_in Fu_number_in M ) Fu_number_in m_number_in b_number_in rfl
  have C__law_number : CalG l.prog w K mg base 1 "_law_number" 1 F__law_number := cal_mk (ok__law_number Fu__law_number M ) Fu__law_number m__law_number b__law_number rfl
  have C__law_draws : CalG l.prog w K mg base 2 "_law_draws" 1 F__law_draws := cal_mk (ok__law_draws Fu__law_draws M C__law_number) Fu__law_draws m__law_draws b__law_draws rfl
  have C__law_next : CalG l.prog w K mg base 1 "_law_next" 1 F__law_next := cal_mk (ok__law_next Fu__law_next M ) Fu__law_next m__law_next b__law_next rfl
  have C__law_more : CalG l.prog w K mg base 2 "_law_more" 2 F__law_more := cal_mk (ok__law_more Fu__law_more M C__law_next) Fu__law_more m__law_more b__law_more rfl
  have C__law_pick : CalG l.prog w K mg base 2 "_law_pick" 2 F__law_pick := cal_mk (ok__law_pick Fu__law_pick M C__law_next) Fu__law_pick m__law_pick b__law_pick rfl
  have C__law_kind : KindOk l.prog w K mg base 2 "_law_kind" kindF := ok__law_kind Fu__law_kind b__law_kind m__law_kind M T
  have C__law_line : CalG l.prog w K mg base 1 "_law_line" 1 F__law_line := cal_mk (ok__law_line Fu__law_line M ) Fu__law_line m__law_line b__law_line rfl
  have C__law_number_of : CalG l.prog w K mg base 1 "_law_number_of" 1 F__law_number_of := cal_mk (ok__law_number_of Fu__law_number_of M ) Fu__law_number_of m__law_number_of b__law_number_of rfl
  have C__law_is_row : CalG l.prog w K mg base 1 "_law_is_row" 1 F__law_is_row := cal_mk (ok__law_is_row Fu__law_is_row M ) Fu__law_is_row m__law_is_row b__law_is_row rfl
  have C__law_are_pairs : CalG l.prog w K mg base 2 "_law_are_pairs" 1 F__law_are_pairs := cal_mk (ok__law_are_pairs Fu__law_are_pairs M C__law_is_row) Fu__law_are_pairs m__law_are_pairs b__law_are_pairs rfl
  have C__law_due : CalG l.prog w K mg base 3 "_law_due" 2 F__law_due := cal_mk (ok__law_due Fu__law_due M C__law_is_row C__law_are_pairs) Fu__law_due m__law_due b__law_due rfl
  have C__law_spoilt_0 : CalG l.prog w K mg base 3 "_law_spoilt" 2 F__law_spoilt_0 := cal_mk fn_no Fu__law_spoilt m__law_spoilt b__law_spoilt rfl
  have C__law_spoilt_1 : CalG l.prog w K mg base 4 "_law_spoilt" 2 F__law_spoilt_1 := cal_mk (ok__law_spoilt_1 Fu__law_spoilt M C__law_next C__law_pick C__law_spoilt_0) Fu__law_spoilt m__law_spoilt b__law_spoilt rfl
  have C__law_spoilt_2 : CalG l.prog w K mg base 5 "_law_spoilt" 2 F__law_spoilt_2 := cal_mk (ok__law_spoilt_2 Fu__law_spoilt M C__law_next C__law_pick C__law_spoilt_1) Fu__law_spoilt m__law_spoilt b__law_spoilt rfl
  have C__law_spoilt_3 : CalG l.prog w K mg base 6 "_law_spoilt" 2 F__law_spoilt_3 := cal_mk (ok__law_spoilt_3 Fu__law_spoilt M C__law_next C__law_pick C__law_spoilt_2) Fu__law_spoilt m__law_spoilt b__law_spoilt rfl
  have C__law_spoilt_4 : CalG l.prog w K mg base 7 "_law_spoilt" 2 F__law_spoilt_4 := cal_mk (ok__law_spoilt_4 Fu__law_spoilt M C__law_next C__law_pick C__law_spoilt_3) Fu__law_spoilt m__law_spoilt b__law_spoilt rfl
  have C__law_spoilt_5 : CalG l.prog w K mg base 8 "_law_spoilt" 2 F__law_spoilt_5 := cal_mk (ok__law_spoilt_5 Fu__law_spoilt M C__law_next C__law_pick C__law_spoilt_4) Fu__law_spoilt m__law_spoilt b__law_spoilt rfl
  have C__law_spoilt_6 : CalG l.prog w K mg base 9 "_law_spoilt" 2 F__law_spoilt_6 := cal_mk (ok__law_spoilt_6 Fu__law_spoilt M C__law_next C__law_pick C__law_spoilt_5) Fu__law_spoilt m__law_spoilt b__law_spoilt rfl
  have C__law_spoilt := C__law_spoilt_6
  exact ok_law Fu_law M C_has_form C_words_of C_is_name C_number_in C__law_draws C__law_next C__law_more C__law_pick C__law_kind C__law_line C__law_number_of C__law_due C__law_spoilt
end
end Law
set_option exponentiation.threshold 10000
namespace Law
open PySem PySem.Spec PyProof.Rows L2 Den
/-! the base of the laws on fractions (mkbase.py) -/
/-! fractions: what the program and the law reckon on pairs in lowest terms -/
def rq (q : Rat) : D := .tuple [.int q.num, .int (q.den : Int)]
/-- both parts have at most b bits -/
def sz (b : Nat) (q : Rat) : Prop := q.num.natAbs < 2 ^ b ∧ q.den < 2 ^ b
theorem sz.mono {a b : Nat} {q : Rat} (h : sz a q) (l : a ≤ b) : sz b q := ⟨Nat.lt_of_lt_of_le h.1 (Nat.pow_le_pow_right (by decide) l), Nat.lt_of_lt_of_le h.2 (Nat.pow_le_pow_right (by decide) l)⟩
theorem log2_lt {b n : Nat} (h : n < 2 ^ b) (hb : 0 < b) : n.log2 < b := by
  by_cases h0 : n = 0
  · subst h0; simpa using hb
  · exact (Nat.log2_lt h0).mpr h
theorem mul_fit {i j : Int} {a b : Nat} (h : i.natAbs < 2 ^ a) (h2 : j.natAbs < 2 ^ b) (ha : a ≤ 9000) (hb : b ≤ 9000) : mulD (.int i) (.int j) = some (.d (.int (i * j))) := by
  have e : mulOk i j = true := by
    unfold mulOk
    have := log2_lt (Nat.lt_of_lt_of_le h (Nat.pow_le_pow_right (by decide) (show a ≤ a + 1 by omega))) (by omega)
    have := log2_lt (Nat.lt_of_lt_of_le h2 (Nat.pow_le_pow_right (by decide) (show b ≤ b + 1 by omega))) (by omega)
    exact decide_eq_true (by omega)
  show (if mulOk i j = true then _ else _) = _
  rw [if_pos e]
/-! Euclid -/
theorem half {a b k : Nat} (hb : b < 2 ^ (k + 1)) (h : a % b ≠ 0) (b0 : b ≠ 0) : b % (a % b) < 2 ^ k := by
  have h1 := Nat.mod_lt a (Nat.pos_of_ne_zero b0)
  have h2 := Nat.mod_lt b (Nat.pos_of_ne_zero h)
  rw [Nat.pow_succ] at hb
  by_cases h3 : a % b ≤ b / 2
  · omega
  · have h4 : b % (a % b) = b - a % b := by
      rw [Nat.mod_eq_sub_mod (Nat.le_of_lt h1), Nat.mod_eq_of_lt (by omega)]
    omega
theorem while_step {t : EM Bool} {c : SM} {n : Nat} {rho r : Den.Env} {m m1 m' : Mem} (h : t rho m = .ok true m1) (h2 : c rho m1 = .nx r m') : whileN t c (n + 1) rho m = whileN t c n r m' := by
  show (t rho m).thenS rho _ = _
  rw [h]
  show (match c rho m1 with | .nx r m' => whileN t c n r m' | .ct r m' => whileN t c n r m' | .bk r m' => .nx r m' | o => o) = _
  rw [h2]
theorem while_end {t : EM Bool} {c : SM} {n : Nat} {rho : Den.Env} {m m1 : Mem} (h : t rho m = .ok false m1) : whileN t c (n + 1) rho m = .nx rho m1 := by
  show (t rho m).thenS rho _ = _
  rw [h]; rfl
abbrev wC : SM := sSeq (sPar 0 1 (mVar 1) (mMod (mVar 0) (mVar 1))) (sSkip)
theorem wC_ok {a b : Nat} {m : Mem} (h : b ≠ 0) : wC [some (.d (.int a)), some (.d (.int b))] m = .nx [some (.d (.int b)), some (.d (.int ((a % b : Nat) : Int)))] m := by
  have e1 : modD (a : Int) (b : Int) = some (.int ((a % b : Nat) : Int)) := by rw [mod_pos (by omega)]; rfl
  simp only [e_Seq]
  unfold sPar
  simp only [e_Var, List.getElem?_cons_zero, List.getElem?_cons_succ, ev_thenV, e_Mod, ev_bindV, val_d, f_lift2, peek_d, on_ii, e1, Option.map_some]
  rfl
theorem wT_ok {x : Option W} {b : Nat} {m : Mem} : mTru (mVar 1) [x, some (.d (.int b))] m = .ok (decide (b ≠ 0)) m := by
  by_cases h : b = 0 <;> simp [h]
theorem common_go : ∀ (k fuel a b : Nat) (m : Mem), b < 2 ^ k → 2 * k + 1 ≤ fuel → whileN (mTru (mVar 1)) wC fuel [some (.d (.int a)), some (.d (.int b))] m = .nx [some (.d (.int (Nat.gcd a b : Nat))), some (.d (.int (0 : Nat)))] m
  | k, 0, a, b, m, _, hf => by omega
  | k, fuel + 1, a, b, m, hb, hf => by
    by_cases b0 : b = 0
    · subst b0
      rw [while_end (by rw [wT_ok]; rfl), Nat.gcd_zero_right]
    · rw [while_step (by rw [wT_ok, decide_eq_true b0]) (wC_ok b0)]
      obtain ⟨k, rfl⟩ : ∃ j, k = j + 1 := ⟨k - 1, by
        rcases Nat.eq_zero_or_pos k with h | h
        · subst h; simp at hb; omega
        · omega⟩
      obtain ⟨fuel, rfl⟩ : ∃ f, fuel = f + 1 := ⟨fuel - 1, by omega⟩
      have eg : Nat.gcd a b = Nat.gcd b (a % b) := by rw [Nat.gcd_comm a b, Nat.gcd_rec b a, Nat.gcd_comm]
      rw [eg]
      by_cases r0 : a % b = 0
      · rw [r0, while_end (by rw [wT_ok]; rfl), Nat.gcd_zero_right]
      · rw [while_step (by rw [wT_ok, decide_eq_true r0]) (wC_ok r0)]
        have eg2 : Nat.gcd b (a % b) = Nat.gcd (a % b) (b % (a % b)) := by rw [Nat.gcd_comm b (a % b), Nat.gcd_rec (a % b) b, Nat.gcd_comm]
        rw [eg2]
        exact common_go k fuel (a % b) (b % (a % b)) m (half hb r0 b0) (by omega)
/-- the law's own Euclid: a loop of many turns that returns -/
abbrev lC : SM := sSeq (sIf (mBool (mOp2 (mVar 1) (mC (.int 0)) (lift2 eqD))) (sSeq (sRet (mVar 0)) (sSkip)) (sSkip)) (sSeq (sPar 0 1 (mVar 1) (mMod (mB (mCons (mVar 0) (mNil)) (fD1 intD)) (mB (mCons (mVar 1) (mNil)) (fD1 intD)))) (sSkip))
theorem lC_ok {a b : Nat} {x : Option W} {m : Mem} (h : b ≠ 0) : lC [some (.d (.int a)), some (.d (.int b)), x] m = .nx [some (.d (.int b)), some (.d (.int ((a % b : Nat) : Int))), x] m := by
  have e1 : modD (a : Int) (b : Int) = some (.int ((a % b : Nat) : Int)) := by rw [mod_pos (by omega)]; rfl
  have h2 : ((b : Int) == 0) = false := by rw [beq_eq_false_iff_ne]; omega
  simp only [e_Seq, e_IfS, e_Bool, e_Op2, e_Var, e_C, List.getElem?_cons_zero, List.getElem?_cons_succ, ev_bindV, val_d, f_lift2, peek_d, eq_i, h2, tru_d, tru_b, ev_thenS, Bool.false_eq_true, if_false, e_Skip]
  show (match sPar 0 1 _ _ _ m with | .nx rho' m' => sSkip rho' m' | o => o) = _
  unfold sPar
  simp only [e_Var, List.getElem?_cons_zero, List.getElem?_cons_succ, ev_thenV, e_Mod, e_B, e_Cons, e_Nil, ev_bind, ev_bindV, val_d, val_n, f_D1, int_i, f_lift2, peek_d, on_ii, e1, Option.map_some]
  rfl
theorem lC_end {a : Nat} {x : Option W} {m : Mem} : lC [some (.d (.int a)), some (.d (.int (0 : Nat))), x] m = .rt (.d (.int a)) m := by
  simp
theorem for_step {g : GM} {c : SM} {x : D} {xs : List D} {rho r1 r : Den.Env} {m m1 m' : Mem} (h : g (.d x) rho m = some (r1, m1)) (h2 : c r1 m1 = .nx r m') : forL g c (x :: xs) rho m = forL g c xs r m' := by
  show (match g (.d x) rho m with | some (r1, m1) => _ | none => _) = _
  rw [h]
  show (match c r1 m1 with | .nx r m' => forL g c xs r m' | .ct r m' => forL g c xs r m' | .bk r m' => .nx r m' | o => o) = _
  rw [h2]
theorem for_ret {g : GM} {c : SM} {x : D} {xs : List D} {rho r1 : Den.Env} {m m1 m' : Mem} {w : W} (h : g (.d x) rho m = some (r1, m1)) (h2 : c r1 m1 = .rt w m') : forL g c (x :: xs) rho m = .rt w m' := by
  show (match g (.d x) rho m with | some (r1, m1) => _ | none => _) = _
  rw [h]
  show (match c r1 m1 with | .nx r m' => forL g c xs r m' | .ct r m' => forL g c xs r m' | .bk r m' => .nx r m' | o => o) = _
  rw [h2]
theorem lcommon_go : ∀ (k : Nat) (items : List D) (a b : Nat) (x : Option W) (m : Mem), b < 2 ^ k → 2 * k + 1 ≤ items.length → forL (gN 2) lC items [some (.d (.int a)), some (.d (.int b)), x] m = .rt (.d (.int (Nat.gcd a b : Nat))) m
  | k, [], a, b, x, m, _, hf => by simp at hf
  | k, i :: items, a, b, x, m, hb, hf => by
    rw [List.length_cons] at hf
    by_cases b0 : b = 0
    · subst b0
      rw [for_ret (r1 := [some (.d (.int a)), some (.d (.int (0 : Nat))), some (.d i)]) rfl lC_end, Nat.gcd_zero_right]
    · rw [for_step (r1 := [some (.d (.int a)), some (.d (.int b)), some (.d i)]) rfl (lC_ok b0)]
      obtain ⟨k, rfl⟩ : ∃ j, k = j + 1 := ⟨k - 1, by
        rcases Nat.eq_zero_or_pos k with h | h
        · subst h; simp at hb; omega
        · omega⟩
      have eg : Nat.gcd a b = Nat.gcd b (a % b) := by rw [Nat.gcd_comm a b, Nat.gcd_rec b a, Nat.gcd_comm]
      rw [eg]
      match items, hf with
      | [], hf => simp at hf
      | j :: items, hf =>
        rw [List.length_cons] at hf
        by_cases r0 : a % b = 0
        · rw [r0, for_ret (r1 := [some (.d (.int b)), some (.d (.int (0 : Nat))), some (.d j)]) rfl lC_end, Nat.gcd_zero_right]
        · rw [for_step (r1 := [some (.d (.int b)), some (.d (.int ((a % b : Nat) : Int))), some (.d j)]) rfl (lC_ok r0)]
          have eg2 : Nat.gcd b (a % b) = Nat.gcd (a % b) (b % (a % b)) := by rw [Nat.gcd_comm b (a % b), Nat.gcd_rec (a % b) b, Nat.gcd_comm]
          rw [eg2]
          exact lcommon_go k items (a % b) (b % (a % b)) (some (.d j)) m (half hb r0 b0) (by omega)
/-! lowest terms -/
theorem rq_div {n : Int} {d : Nat} (hd : 0 < d) : rq (Rat.divInt n d) = .tuple [.int (n / (Nat.gcd n.natAbs d : Nat)), .int ((d : Int) / (Nat.gcd n.natAbs d : Nat))] := by
  have h1 : Rat.divInt n (d : Int) = Rat.normalize n d (by omega) := by rw [Rat.divInt_ofNat, Rat.normalize_eq_mkRat]
  unfold rq
  rw [h1, Rat.normalize_eq]
  rfl
theorem abs_nat (n : Int) : (if n < 0 then -n else n) = (n.natAbs : Int) := by split <;> omega
theorem gcd_fit {n : Int} {d : Nat} (hd : 0 < d) (h : d < 2 ^ 4400) : decide (0 < ((Nat.gcd n.natAbs d : Nat) : Int) ∧ ((Nat.gcd n.natAbs d : Nat) : Int).natAbs.log2 < 9000) = true := by
  have g0 : 0 < Nat.gcd n.natAbs d := Nat.gcd_pos_of_pos_right _ hd
  have g1 : Nat.gcd n.natAbs d ≤ d := Nat.le_of_dvd hd (Nat.gcd_dvd_right _ _)
  have g2 : (Nat.gcd n.natAbs d).log2 < 4400 := log2_lt (Nat.lt_of_le_of_lt g1 h) (by decide)
  refine decide_eq_true ⟨by omega, ?_⟩
  rw [Int.natAbs_natCast]
  omega
theorem le44 {n a : Nat} (h : n < 2 ^ a) (ha : a ≤ 4400) : n < 2 ^ 4400 := Nat.lt_of_lt_of_le h (Nat.pow_le_pow_right (by decide) ha)
theorem mul_lt {i j a b : Nat} (h : i < 2 ^ a) (h2 : j < 2 ^ b) : i * j < 2 ^ (a + b) := by
  rw [Nat.pow_add]
  exact Nat.mul_lt_mul'' h h2
theorem natAbs_mul_lt {i j : Int} {a b : Nat} (h : i.natAbs < 2 ^ a) (h2 : j.natAbs < 2 ^ b) : (i * j).natAbs < 2 ^ (a + b) := by
  rw [Int.natAbs_mul]; exact mul_lt h h2
theorem divInt_sz {n : Int} {d b : Nat} (hd : 0 < d) (hn : n.natAbs < 2 ^ b) (h : d < 2 ^ b) : sz b (Rat.divInt n d) := by
  have h1 : Rat.divInt n (d : Int) = Rat.normalize n d (by omega) := by rw [Rat.divInt_ofNat, Rat.normalize_eq_mkRat]
  rw [h1, Rat.normalize_eq]
  have g0 : 0 < Nat.gcd n.natAbs d := Nat.gcd_pos_of_pos_right _ hd
  refine ⟨?_, Nat.lt_of_le_of_lt (Nat.div_le_self _ _) h⟩
  show (n / (Nat.gcd n.natAbs d : Nat)).natAbs < 2 ^ b
  refine Nat.lt_of_le_of_lt ?_ hn
  have hdv := Int.ofNat_dvd_left.mpr (Nat.gcd_dvd_left n.natAbs d)
  generalize Nat.gcd n.natAbs d = g at *
  obtain ⟨k, hk⟩ := hdv
  rw [hk, Int.mul_ediv_cancel_left _ (by omega), Int.natAbs_mul, Int.natAbs_natCast]
  exact Nat.le_mul_of_pos_left _ g0
theorem add_div (p q : Rat) : p + q = Rat.divInt (p.num * (q.den : Int) + q.num * (p.den : Int)) ((p.den * q.den : Nat) : Int) := by
  rw [Rat.add_def, Rat.divInt_ofNat, Rat.normalize_eq_mkRat]
theorem sub_div (p q : Rat) : p - q = Rat.divInt (p.num * (q.den : Int) - q.num * (p.den : Int)) ((p.den * q.den : Nat) : Int) := by
  rw [Rat.sub_def, Rat.divInt_ofNat, Rat.normalize_eq_mkRat]
theorem mul_div (p q : Rat) : p * q = Rat.divInt (p.num * q.num) ((p.den * q.den : Nat) : Int) := by
  rw [Rat.mul_def, Rat.divInt_ofNat, Rat.normalize_eq_mkRat]
theorem den0 (p q : Rat) : 0 < p.den * q.den := Nat.mul_pos p.den_pos q.den_pos
theorem add_lt' {i j : Int} {b : Nat} (h : i.natAbs < 2 ^ b) (h2 : j.natAbs < 2 ^ b) : (i + j).natAbs < 2 ^ (b + 1) := by
  have := Int.natAbs_add_le i j
  rw [Nat.pow_succ]; omega
theorem sub_lt' {i j : Int} {b : Nat} (h : i.natAbs < 2 ^ b) (h2 : j.natAbs < 2 ^ b) : (i - j).natAbs < 2 ^ (b + 1) := by
  have := Int.natAbs_sub_le i j
  rw [Nat.pow_succ]; omega
theorem sz_add {a b : Nat} {p q : Rat} (hp : sz a p) (hq : sz b q) : sz (a + b + 1) (p + q) := by
  rw [add_div]
  have h1 : (p.num * (q.den : Int)).natAbs < 2 ^ (a + b) := natAbs_mul_lt hp.1 (by rw [Int.natAbs_natCast]; exact hq.2)
  have h2 : (q.num * (p.den : Int)).natAbs < 2 ^ (a + b) := by rw [Nat.add_comm a b]; exact natAbs_mul_lt hq.1 (by rw [Int.natAbs_natCast]; exact hp.2)
  exact divInt_sz (den0 p q) (add_lt' h1 h2) (Nat.lt_of_lt_of_le (mul_lt hp.2 hq.2) (Nat.pow_le_pow_right (by decide) (by omega)))
theorem sz_sub {a b : Nat} {p q : Rat} (hp : sz a p) (hq : sz b q) : sz (a + b + 1) (p - q) := by
  rw [sub_div]
  have h1 : (p.num * (q.den : Int)).natAbs < 2 ^ (a + b) := natAbs_mul_lt hp.1 (by rw [Int.natAbs_natCast]; exact hq.2)
  have h2 : (q.num * (p.den : Int)).natAbs < 2 ^ (a + b) := by rw [Nat.add_comm a b]; exact natAbs_mul_lt hq.1 (by rw [Int.natAbs_natCast]; exact hp.2)
  exact divInt_sz (den0 p q) (sub_lt' h1 h2) (Nat.lt_of_lt_of_le (mul_lt hp.2 hq.2) (Nat.pow_le_pow_right (by decide) (by omega)))
theorem sz_mul {a b : Nat} {p q : Rat} (hp : sz a p) (hq : sz b q) : sz (a + b) (p * q) := by
  rw [mul_div]
  exact divInt_sz (den0 p q) (natAbs_mul_lt hp.1 hq.1) (mul_lt hp.2 hq.2)
theorem inv_sz {b : Nat} {q : Rat} (h : sz b q) (h0 : q ≠ 0) : sz b q⁻¹ := by
  have hn : q.num ≠ 0 := fun z => h0 (Rat.num_eq_zero.mp z)
  rw [Rat.inv_def]
  by_cases hs : 0 < q.num
  · have e : q.num = ((q.num.natAbs : Nat) : Int) := by omega
    rw [e]
    exact divInt_sz (by omega) (by rw [Int.natAbs_natCast]; exact h.2) h.1
  · have e : Rat.divInt (q.den : Int) q.num = Rat.divInt (-(q.den : Int)) ((q.num.natAbs : Nat) : Int) := by
      rw [Rat.divInt_eq_divInt_iff hn (by omega)]
      have : ((q.num.natAbs : Nat) : Int) = - q.num := by omega
      rw [this]; grind
    rw [e]
    exact divInt_sz (by omega) (by rw [Int.natAbs_neg, Int.natAbs_natCast]; exact h.2) h.1
theorem sz_div {a b : Nat} {p q : Rat} (hp : sz a p) (hq : sz b q) (h0 : q ≠ 0) : sz (a + b) (p / q) := by
  rw [Rat.div_def]; exact sz_mul hp (inv_sz hq h0)
section
variable {a b : Nat} {p q : Rat} {m : Mem}
@[simp] theorem at_0 {x y : D} : atI [x, y] 0 = some x := rfl
@[simp] theorem at_1 {x y : D} : atI [x, y] 1 = some y := rfl
theorem nd (q : Rat) (h : q.den < 2 ^ b) : (q.den : Int).natAbs < 2 ^ b := by rw [Int.natAbs_natCast]; exact h
theorem div_div (p q : Rat) (h0 : q ≠ 0) : p / q = Rat.divInt ((if 0 < q.num then 1 else -1) * p.num * (q.den : Int)) ((p.den * q.num.natAbs : Nat) : Int) := by
  have hn : q.num ≠ 0 := fun z => h0 (Rat.num_eq_zero.mp z)
  have hd := p.den_pos
  have e : p / q = Rat.divInt (p.num * (q.den : Int)) ((p.den : Int) * q.num) := by
    conv => lhs; rw [← Rat.num_divInt_den p, Rat.div_def, Rat.inv_def, Rat.divInt_mul_divInt]
  have h1 : ((p.den * q.num.natAbs : Nat) : Int) ≠ 0 := by
    have := Nat.mul_pos hd (show 0 < q.num.natAbs by omega)
    omega
  have h2 : (p.den : Int) * q.num ≠ 0 := Int.mul_ne_zero (by omega) hn
  rw [e, Rat.divInt_eq_divInt_iff h2 h1, Int.natCast_mul]
  by_cases hs : 0 < q.num
  · rw [if_pos hs]
    have : ((q.num.natAbs : Nat) : Int) = q.num := by omega
    rw [this]; grind
  · rw [if_neg hs]
    have : ((q.num.natAbs : Nat) : Int) = - q.num := by omega
    rw [this]; grind
end
theorem rq_0 : PyData.tuple [.int 0, .int 1] = rq 0 := by kernel_rfl
theorem rq_1 : PyData.tuple [.int 1, .int 1] = rq 1 := by kernel_rfl
theorem rq_2 : PyData.tuple [.int 2, .int 1] = rq 2 := by kernel_rfl
theorem rq_3 : PyData.tuple [.int 3, .int 1] = rq 3 := by kernel_rfl
theorem sz_0 : sz 1 0 := ⟨by decide, by decide⟩
theorem sz_1 : sz 1 1 := ⟨by decide, by decide⟩
theorem sz_2 : sz 2 2 := ⟨by decide, by decide⟩
theorem sz_3 : sz 2 3 := ⟨by decide, by decide⟩
theorem tup_rq {q : Rat} {m : Mem} : fTup [.d (rq q)] m = .ok (.d (rq q)) m := rfl
def isRate (q : Rat) : Bool := decide (0 < q.num) && (decide (q.num ≤ 1000) && decide ((q.den : Int) ≤ 1000))
def isCh (q : Rat) : Bool := decide (0 ≤ q.num) && decide (q.num ≤ (q.den : Int))
/-- what an operation on pairs does, up to so many bits -/
def OpL (L : Nat) (F : List W → Mem → Rs W) (op : Rat → Rat → Rat) : Prop := ∀ (a b : Nat) (p q : Rat) (m : Mem), sz a p → sz b q → a + b ≤ L → F [.d (rq p), .d (rq q)] m = .ok (.d (rq (op p q))) m
theorem le89 {n a : Nat} (h : n < 2 ^ a) (ha : a ≤ 8900) : n < 2 ^ 8900 := Nat.lt_of_lt_of_le h (Nat.pow_le_pow_right (by decide) ha)
/-! one step at a time -/
section
variable {rho : Den.Env} {m m1 m2 : Mem} {a c : EM W} {r : EM (List W)} {w w2 x : W} {ws : List W} {n i : Nat} {fm : List W → Mem → Rs W} {g : GM} {d : SM} {t u : EM Bool}
theorem nil_run : mNil rho m = .ok [] m := rfl
theorem cons_run (h1 : a rho m = .ok w m1) (h2 : r rho m1 = .ok ws m2) : mCons a r rho m = .ok (val w :: ws) m2 := by rw [e_Cons, h1, ev_bindV, h2, ev_bind]
theorem var_run (h : rho[i]? = some (some w)) : mVar i rho m = .ok w m := by rw [e_Var, h]
theorem call_run (h1 : r rho m = .ok ws m1) (hl : ws.length = n) (h2 : fm ws m1 = .ok w m2) : mCall n fm r rho m = .ok w m2 := by rw [e_Call, h1, ev_bind, if_pos hl, h2]
theorem tup_run {xs : List D} (h1 : r rho m = .ok ws m1) (hf : frzAll ws m1 = some (xs, m2)) (hs : small xs.length = true) : mTup r rho m = .ok (.d (.tuple xs)) m2 := by
  unfold mTup
  rw [h1, ev_bind, hf]
  show (if small xs.length = true then _ else _) = _
  rw [if_pos hs]
theorem lst_run {xs : List D} (h1 : r rho m = .ok ws m1) (hf : frzAll ws m1 = some (xs, m2)) (hs : small xs.length = true) : mLst r rho m = .ok (.n (.list xs)) m2 := by
  unfold mLst
  rw [h1, ev_bind, hf]
  show (if small xs.length = true then _ else _) = _
  rw [if_pos hs]
theorem asg_run {rho' : Den.Env} (h1 : a rho m = .ok w m1) (h2 : g (val w) rho m1 = some (rho', m2)) : sAsg g a rho m = .nx rho' m2 := by
  unfold sAsg
  rw [h1]
  show (match g (val w) rho m1 with | some (r, m') => Out.nx r m' | none => .no) = _
  rw [h2]
theorem add_run (h1 : a rho m = .ok w m1) (h2 : c rho m1 = .ok w2 m2) (h3 : lift2 addD (val w) (val w2) m2 = .ok x m2) : mAdd a c rho m = .ok x m2 := by
  show (a rho m).bindV _ = _
  rw [h1, ev_bindV, h2, ev_bindV, h3]
theorem op_run {f : W → W → Mem → Rs W} (h1 : a rho m = .ok w m1) (h2 : c rho m1 = .ok w2 m2) (h3 : f (val w) (val w2) m2 = .ok x m2) : mOp2 a c f rho m = .ok x m2 := by
  rw [e_Op2, h1, ev_bindV, h2, ev_bindV, h3]
theorem lift2_run {f : D → D → Option W} {y z : D} (h1 : peek m w = some y) (h2 : peek m w2 = some z) (h3 : f y z = some x) : lift2 f w w2 m = .ok x m := by
  rw [f_lift2, h1, h2]
  show (match f y z with | some w => Rs.ok w m | none => .no) = _
  rw [h3]
theorem bool_run {k : Bool} (h : a rho m = .ok (.d (.bool k)) m1) : mBool a rho m = .ok k m1 := by rw [e_Bool, h]; rfl
theorem tru_run {k : Bool} (h : a rho m = .ok w m1) (h2 : truW (val w) m1 = .ok k m2) : mTru a rho m = .ok k m2 := by rw [e_Tru, h, ev_bindV, h2]
theorem or_no (h1 : t rho m = .ok false m1) (h2 : u rho m1 = .ok false m2) : mOrT t u rho m = .ok false m2 := by rw [e_OrT, h1, ev_bind, if_neg Bool.false_ne_true, h2]
theorem and_run {k : Bool} (h1 : t rho m = .ok true m1) (h2 : u rho m1 = .ok k m2) : mAndT t u rho m = .ok k m2 := by rw [e_AndT, h1, ev_bind, if_pos rfl, h2]
theorem and_no (h1 : t rho m = .ok false m1) : mAndT t u rho m = .ok false m1 := by rw [e_AndT, h1, ev_bind, if_neg Bool.false_ne_true]
theorem if_no (h : t rho m = .ok false m1) : sIf t d (sSkip) rho m = .nx rho m1 := by rw [e_IfS, h, ev_thenS, if_neg Bool.false_ne_true]; rfl
theorem if_yes {d2 : SM} (h : t rho m = .ok true m1) : sIf t d d2 rho m = d rho m1 := by rw [e_IfS, h, ev_thenS, if_pos rfl]
theorem if_else {d2 : SM} (h : t rho m = .ok false m1) : sIf t d d2 rho m = d2 rho m1 := by rw [e_IfS, h, ev_thenS, if_neg Bool.false_ne_true]
theorem ix_run (h1 : a rho m = .ok w m1) (h2 : c rho m1 = .ok w2 m2) (h3 : fIx (val w) (val w2) m2 = .ok x m2) : mIx a c rho m = .ok x m2 := by rw [e_Ix, h1, ev_bindV, h2, ev_bindV, h3]
theorem b_run (h1 : r rho m = .ok ws m1) (h2 : fm ws m1 = .ok w m2) : mB r fm rho m = .ok w m2 := by rw [e_B, h1, ev_bind, h2]
theorem ifE_yes {b2 : EM W} (h : t rho m = .ok true m1) : mIf t a b2 rho m = a rho m1 := by rw [e_If, h, ev_bind, if_pos rfl]
theorem ifE_no {b2 : EM W} (h : t rho m = .ok false m1) : mIf t a b2 rho m = b2 rho m1 := by rw [e_If, h, ev_bind, if_neg Bool.false_ne_true]
theorem par_run {j : Nat} (h1 : a rho m = .ok w m1) (h2 : c rho m1 = .ok w2 m2) : sPar i j a c rho m = .nx ((rho.set i (some (val w))).set j (some (val w2))) m2 := by
  unfold sPar
  rw [h1]
  show ((c rho m1).thenV rho fun y m2 => Out.nx ((rho.set i (some (val w))).set j (some y)) m2) = _
  rw [h2]; rfl
theorem const_run {v : D} : mC v rho m = .ok (.d v) m := rfl
theorem r17 : mRange2 (mC (.int 1)) (mC (.int 7)) rho m = .ok ((List.range 6).map fun k : Nat => PyData.int ((k : Int) + 1)) m := rfl
theorem r07 : mRange1 (mC (.int 7)) rho m = .ok ((List.range 7).map fun k : Nat => PyData.int (k : Int)) m := rfl
theorem mod_9 {i : Int} : modD i 9 = some (.int (i % 9)) := mod_pos (by decide)
end
def sR : Nat → (Nat → Rat) → Rat
  | 0, _ => 0
  | n + 1, f => sR n f + f n
theorem sR_congr {f g : Nat → Rat} : ∀ {n : Nat}, (∀ i, i < n → f i = g i) → sR n f = sR n g
  | 0, _ => rfl
  | n + 1, h => by
    show sR n f + f n = sR n g + g n
    rw [sR_congr (n := n) fun i hi => h i (by omega), h n (by omega)]
theorem sR_le {f g : Nat → Rat} : ∀ {n : Nat}, (∀ i, i < n → f i ≤ g i) → sR n f ≤ sR n g
  | 0, _ => by show (0 : Rat) ≤ 0; grind
  | n + 1, h => by
    have h1 := sR_le (n := n) fun i hi => h i (by omega)
    have h2 := h n (by omega)
    show sR n f + f n ≤ sR n g + g n
    grind
theorem sR_lin (a b : Rat) (f g : Nat → Rat) : ∀ n : Nat, sR n (fun i => a * f i + b * g i) = a * sR n f + b * sR n g
  | 0 => by show (0 : Rat) = a * 0 + b * 0; grind
  | n + 1 => by
    have := sR_lin a b f g n
    show sR n (fun i => a * f i + b * g i) + (a * f n + b * g n) = a * (sR n f + f n) + b * (sR n g + g n)
    grind
theorem sR_0 : ∀ n : Nat, sR n (fun _ => 0) = 0
  | 0 => rfl
  | n + 1 => by have := sR_0 n; show sR n (fun _ => 0) + 0 = 0; grind
theorem sR_nn {f : Nat → Rat} {n : Nat} (h : ∀ i, i < n → 0 ≤ f i) : 0 ≤ sR n f := by
  have := sR_le (f := fun _ => 0) h
  rw [sR_0] at this
  exact this
theorem sR_shift (f : Nat → Rat) : ∀ n : Nat, sR (n + 1) f = f 0 + sR n (fun i => f (i + 1))
  | 0 => by show 0 + f 0 = f 0 + 0; grind
  | n + 1 => by
    have := sR_shift f n
    show sR (n + 1) f + f (n + 1) = f 0 + (sR n (fun i => f (i + 1)) + f (n + 1))
    grind
theorem nonneg_of_mul {a b : Rat} (hb : 0 < b) (h : 0 ≤ a * b) : 0 ≤ a := by
  by_cases z : 0 ≤ a
  · exact z
  · have h1 : 0 < -a := by grind
    have h2 := Rat.mul_pos h1 hb
    grind
theorem le_of_mul {a b c : Rat} (hc : 0 < c) (h : a * c ≤ b * c) : a ≤ b := by
  have := nonneg_of_mul (a := b - a) hc (by grind)
  grind
theorem mul_le {a b c : Rat} (hc : 0 ≤ c) (h : a ≤ b) : c * a ≤ c * b := by
  have := Rat.mul_nonneg hc (show 0 ≤ b - a by grind)
  grind
theorem cast_S (n : Nat) : ((n + 1 : Nat) : Rat) = (n : Rat) + 1 := by rw [Rat.natCast_add]; rfl
theorem nat_nn (n : Nat) : (0 : Rat) ≤ (n : Rat) := by exact_mod_cast Nat.zero_le n
theorem all_eq {α : Type} (l : List α) (f : α → Bool) : allD (.list (l.map fun x => .bool (f x))) = some (.bool (l.all f)) := by
  have e : l.map (fun x => PyData.bool (f x)) = (l.map f).map PyData.bool := by rw [List.map_map]; rfl
  rw [e, all_bools, List.all_map]
  rfl
theorem shaped_rq (q : Rat) : SeqAt.shaped (rq q) = true := by
  unfold rq
  exact shaped_intsT [q.num, (q.den : Int)]
theorem eqv_rq (p q : Rat) : PyData.eqv (rq p) (rq q) = decide (p = q) := by
  unfold rq
  have h := eqvAll_ints [p.num, (p.den : Int)] [q.num, (q.den : Int)]
  simp only [List.map_cons, List.map_nil] at h
  simp only [PyData.eqv]
  rw [h]
  by_cases e : p = q
  · subst e; simp
  · rw [decide_eq_false e, decide_eq_false fun z => e (by
      injection z with z1 z2
      injection z2 with z2 _
      exact Rat.ext z1 (by omega))]
theorem eq_rq (p q : Rat) : eqD (rq p) (rq q) = some (.d (.bool (decide (p = q)))) := by
  show (if SeqAt.shaped (rq p) && SeqAt.shaped (rq q) then some (W.d (.bool (PyData.eqv (rq p) (rq q)))) else none) = _
  rw [shaped_rq, shaped_rq, eqv_rq]; rfl
theorem ne_rq (p q : Rat) : neD (rq p) (rq q) = some (.d (.bool (!decide (p = q)))) := by
  show (if SeqAt.shaped (rq p) && SeqAt.shaped (rq q) then some (W.d (.bool (!PyData.eqv (rq p) (rq q)))) else none) = _
  rw [shaped_rq, shaped_rq, eqv_rq]; rfl
@[simp] theorem ix_rq0 {q : Rat} : ixD (rq q) (.int 0) = some (.int q.num) := rfl
@[simp] theorem ix_rq1 {q : Rat} : ixD (rq q) (.int 1) = some (.int (q.den : Int)) := rfl
theorem gT2 {i j : Nat} {x y : D} {rho : Den.Env} {m : Mem} : gT [gN i, gN j] (.d (.tuple [x, y])) rho m = some ((rho.set i (some (.d x))).set j (some (.d y)), m) := rfl
theorem num_pos {q : Rat} : 0 < q.num ↔ 0 < q := by
  have h1 : 0 ≤ q.num ↔ 0 ≤ q := Rat.num_nonneg
  have h2 : q.num = 0 ↔ q = 0 := Rat.num_eq_zero
  constructor
  · intro h
    have a := h1.mp (by omega)
    have b : q ≠ 0 := fun z => by have := h2.mpr z; omega
    grind
  · intro h
    have a := h1.mpr (by grind)
    have b : q.num ≠ 0 := fun z => by have := h2.mp z; grind
    omega
theorem all_trueL {α : Type} (l : List α) : allD (.list (l.map fun _ => .bool true)) = some (.bool true) := by
  rw [all_eq l fun _ => true]; simp
theorem rq_int (n : Int) : rq (n : Rat) = .tuple [.int n, .int 1] := rfl


/-! steps and sums that any law can use (pulled out of DRAWB) -/
theorem div_rat (n : Int) (d : Nat) : Rat.divInt n (d : Int) = (n : Rat) / (d : Rat) := by
  rw [Rat.divInt_eq_div]; rfl
theorem nat_pos {d : Nat} (h : 0 < d) : (0 : Rat) < (d : Rat) := by exact_mod_cast h
theorem div_pos' {n : Int} {d : Nat} (hn : 0 < n) (hd : 0 < d) : 0 < Rat.divInt n (d : Int) := by
  rw [← num_pos]
  have h1 : Rat.divInt n (d : Int) = Rat.normalize n d (by omega) := by rw [Rat.divInt_ofNat, Rat.normalize_eq_mkRat]
  rw [h1, Rat.normalize_eq]
  have g0 : 0 < Nat.gcd n.natAbs d := Nat.gcd_pos_of_pos_right _ hd
  have hdv := Int.ofNat_dvd_left.mpr (Nat.gcd_dvd_left n.natAbs d)
  show 0 < n / (Nat.gcd n.natAbs d : Nat)
  generalize Nat.gcd n.natAbs d = g at *
  obtain ⟨k, hk⟩ := hdv
  rw [hk, Int.mul_ediv_cancel_left _ (by omega)]
  have : 0 < (g : Int) * k := by rw [← hk]; exact hn
  exact Int.pos_of_mul_pos_right this (by omega)
theorem div_lt' {a b : Int} {d : Nat} (h : a < b) (hd : 0 < d) : Rat.divInt a (d : Int) < Rat.divInt b (d : Int) := by
  have h1 : Rat.divInt b (d : Int) - Rat.divInt a (d : Int) = Rat.divInt (b - a) (d : Int) := by
    have hd' : ((d : Nat) : Rat) ≠ 0 := by have := nat_pos hd; grind
    rw [div_rat, div_rat, div_rat, Rat.intCast_sub]
    grind
  have h2 := div_pos' (n := b - a) (by omega) hd
  rw [← h1] at h2
  grind
theorem small_sz {n : Int} {d : Nat} (h0 : 0 < d) (hn : n.natAbs < 32) (hd : d < 32) : sz 5 (Rat.divInt n (d : Int)) := divInt_sz h0 (by simpa using hn) (by simpa using hd)
theorem le_sumI {P : List Int} (h : ∀ y ∈ P, 0 < y) : ∀ y ∈ P, y ≤ P.sum := by
  induction P with
  | nil => intro y hy; cases hy
  | cons x P ih =>
    intro y hy
    have hs : 0 ≤ P.sum := by
      clear ih hy
      induction P with
      | nil => simp
      | cons z P ih =>
        have := ih fun y hy => h y (by rcases List.mem_cons.mp hy with rfl | hy <;> simp [*])
        have := h z (by simp)
        rw [List.sum_cons]; omega
    have hx := h x List.mem_cons_self
    rw [List.sum_cons]
    rcases List.mem_cons.mp hy with rfl | hy
    · omega
    · have := ih (fun z hz => h z (List.mem_cons_of_mem _ hz)) y hy; omega
theorem sum_le {P : List Int} {k : Int} (h : ∀ y ∈ P, y ≤ k) : P.sum ≤ k * (P.length : Nat) := by
  induction P with
  | nil => simp
  | cons x P ih =>
    have h1 := h x List.mem_cons_self
    have h2 := ih fun y hy => h y (List.mem_cons_of_mem _ hy)
    rw [List.sum_cons, List.length_cons, Int.natCast_add, Int.mul_add]
    omega
theorem mod_rng (v M : Int) (h : 0 < M) : 1 ≤ 1 + v % M ∧ 1 + v % M ≤ M := by
  have := Int.emod_nonneg v (Int.ne_of_gt h)
  have := Int.emod_lt_of_pos v h
  omega
theorem at_natI {l : List Int} {k : Nat} (h : k < l.length) : atI (l.map PyData.int) (k : Int) = some (.int l[k]) := by
  unfold atI ixN
  rw [if_pos (by omega), if_pos (by rw [List.length_map]; omega)]
  simp [h]
theorem sumD_ints (l : List Int) : sumD (.list (l.map .int)) = some (.int l.sum) := sum_ints l
theorem seq_run {c d : SM} {rho r : Den.Env} {m m' : Mem} (h : c rho m = .nx r m') : sSeq c d rho m = d r m' := by rw [e_Seq, h]
theorem set_run {i : Nat} {a : EM W} {rho : Den.Env} {m m' : Mem} {w : W} (h : a rho m = .ok w m') : sSet i a rho m = .nx (rho.set i (some (val w))) m' := by rw [e_Set, h]; rfl
theorem ret_run {a : EM W} {d : SM} {rho : Den.Env} {m m' : Mem} {w : W} (h : a rho m = .ok w m') : sSeq (sRet a) d rho m = .rt w m' := by rw [e_Seq, e_Ret, h]; rfl
theorem run_d {N : Nat} {c : SM} {ws : List W} {m m' : Mem} {x : D} (h : c (startE N ws) m = .rt (.d x) m') (hl : m'.length = m.length) : runF N c ws m = .ok (.d x) m' := by
  unfold runF
  rw [h]
  show Rs.ok (W.d x) (m'.take m.length) = _
  rw [List.take_of_length_le (by omega)]
/-- q has a denominator that divides M -/
def dv (M : Nat) (q : Rat) : Prop := ∃ n : Int, q * (M : Rat) = (n : Rat)
section
variable {M N : Nat} {p q : Rat}
theorem dv_add (h : dv M p) (h2 : dv M q) : dv M (p + q) := by
  obtain ⟨a, ha⟩ := h; obtain ⟨b, hb⟩ := h2
  exact ⟨a + b, by rw [Rat.intCast_add]; grind⟩
theorem dv_sub (h : dv M p) (h2 : dv M q) : dv M (p - q) := by
  obtain ⟨a, ha⟩ := h; obtain ⟨b, hb⟩ := h2
  exact ⟨a - b, by rw [Rat.intCast_sub]; grind⟩
theorem dv_mul (h : dv M p) (h2 : dv N q) : dv (M * N) (p * q) := by
  obtain ⟨a, ha⟩ := h; obtain ⟨b, hb⟩ := h2
  refine ⟨a * b, ?_⟩
  rw [Rat.natCast_mul, Rat.intCast_mul, ← ha, ← hb]; grind
theorem dv_up (h : dv M p) (hd : M ∣ N) : dv N p := by
  obtain ⟨a, ha⟩ := h; obtain ⟨k, rfl⟩ := hd
  refine ⟨a * (k : Int), ?_⟩
  rw [Rat.natCast_mul, Rat.intCast_mul, ← ha, Rat.intCast_natCast]; grind
theorem dv_int (n : Int) : dv 1 (n : Rat) := ⟨n, by show (n : Rat) * 1 = n; grind⟩
theorem num_of (q : Rat) : q * (q.den : Rat) = (q.num : Rat) := by
  have h := Rat.num_divInt_den q
  have hp : ((q.den : Nat) : Rat) ≠ 0 := by
    have : (0 : Rat) < (q.den : Rat) := by exact_mod_cast q.den_pos
    grind
  have e : Rat.divInt q.num (q.den : Int) = (q.num : Rat) / (q.den : Rat) := by rw [Rat.divInt_eq_div]; rfl
  rw [e] at h
  conv => lhs; arg 1; rw [← h]
  exact Rat.div_mul_cancel hp
theorem dv_den (q : Rat) : dv q.den q := ⟨q.num, num_of q⟩
theorem dv_1 : dv 1 1 := dv_int 1
theorem dv_0 : dv M 0 := ⟨0, by show (0 : Rat) * _ = 0; grind⟩
theorem dv_le (h : dv M q) (hM : 0 < M) : q.den ≤ M := by
  obtain ⟨n, hn⟩ := h
  have h1 := num_of q
  have h2 : ((q.num * (M : Int) : Int) : Rat) = ((n * (q.den : Int) : Int) : Rat) := by
    rw [Rat.intCast_mul, Rat.intCast_mul, ← h1, ← hn, Rat.intCast_natCast, Rat.intCast_natCast]; grind
  have h3 : q.num * (M : Int) = n * (q.den : Int) := Rat.intCast_inj.mp h2
  have h4 : (q.num.natAbs) * M = n.natAbs * q.den := by
    have := congrArg Int.natAbs h3
    rw [Int.natAbs_mul, Int.natAbs_mul, Int.natAbs_natCast, Int.natAbs_natCast] at this
    exact this
  have h5 : q.den ∣ q.num.natAbs * M := ⟨n.natAbs, by rw [h4, Nat.mul_comm]⟩
  exact Nat.le_of_dvd hM (Nat.Coprime.dvd_of_dvd_mul_left (Nat.Coprime.symm q.reduced) h5)
theorem sz_dv {b e : Nat} (h : dv M q) (hM : 0 < M) (hb : M < 2 ^ b) (h1 : q ≤ ((2 ^ e : Nat) : Rat)) (h2 : -((2 ^ e : Nat) : Rat) ≤ q) : sz (b + e) q := by
  have hd := dv_le h hM
  have hn := num_of q
  have hp : (0 : Rat) < (q.den : Rat) := by exact_mod_cast q.den_pos
  have k1 : (q.num : Rat) ≤ (((2 ^ e * q.den : Nat) : Int) : Rat) := by
    have := mul_le (c := (q.den : Rat)) (by grind) h1
    rw [Rat.intCast_natCast, Rat.natCast_mul, ← hn]; grind
  have k2 : ((-((2 ^ e * q.den : Nat) : Int) : Int) : Rat) ≤ (q.num : Rat) := by
    have := mul_le (c := (q.den : Rat)) (by grind) h2
    rw [Rat.intCast_neg, Rat.intCast_natCast, Rat.natCast_mul, ← hn]; grind
  have k1' := Rat.intCast_le_intCast.mp k1
  have k2' := Rat.intCast_le_intCast.mp k2
  have k3 : 2 ^ e * q.den < 2 ^ (b + e) := by
    rw [Nat.pow_add, Nat.mul_comm]
    exact Nat.mul_lt_mul_of_pos_right (Nat.lt_of_le_of_lt hd hb) (Nat.pow_pos (by decide))
  refine ⟨by omega, Nat.lt_of_lt_of_le (Nat.lt_of_le_of_lt hd hb) (Nat.pow_le_pow_right (by decide) (by omega))⟩
end
/-! steps that any law can use (pulled out of the texts of k33) -/
theorem two_nn (e : Nat) : (0 : Rat) ≤ ((2 ^ e : Nat) : Rat) := nat_nn _
theorem cast1 : ((2 ^ 0 : Nat) : Rat) = 1 := rfl
theorem cast4 : ((2 ^ 4 : Nat) : Rat) = 16 := rfl
theorem cast8 : ((2 ^ 8 : Nat) : Rat) = 256 := rfl
theorem sR_1 : ∀ n : Nat, sR n (fun _ => 1) = (n : Rat)
  | 0 => rfl
  | n + 1 => by have := sR_1 n; show sR n (fun _ => 1) + 1 = _; rw [this, cast_S]
theorem sR_rng {f : Nat → Rat} {n k : Nat} (hn : n ≤ k) (h : ∀ i, i < n → 0 ≤ f i ∧ f i ≤ 1) : 0 ≤ sR n f ∧ sR n f ≤ (k : Rat) := by
  have h1 := sR_nn (f := f) (n := n) fun i hi => (h i hi).1
  have h2 := sR_le (f := f) (g := fun _ => 1) (n := n) fun i hi => (h i hi).2
  rw [sR_1] at h2
  have h3 : (n : Rat) ≤ (k : Rat) := by exact_mod_cast hn
  exact ⟨h1, by grind⟩
theorem at_map {n k : Nat} {f : Nat → D} (h : k < n) : atI ((List.range n).map f) (k : Int) = some (f k) := by
  unfold atI ixN
  rw [if_pos (by omega), if_pos (by rw [List.length_map, List.length_range]; omega)]
  simp [h]
theorem zip_rg {n : Nat} {f g : Nat → D} : (((List.range n).map f).zip ((List.range n).map g)).map (fun p => PyData.tuple [p.1, p.2]) = (List.range n).map fun k => .tuple [f k, g k] := by
  rw [List.zip_map', List.map_map]; rfl
theorem range1_any {a : EM W} {rho : Den.Env} {m : Mem} {n : Nat} (h : a rho m = .ok (.d (.int (n : Int))) m) (h1 : n ≤ 1000000) : mRange1 a rho m = .ok ((List.range n).map fun k : Nat => PyData.int (k : Int)) m := by
  rw [range1_ok h (by omega) (by omega)]
  simp [rangeD]
theorem set_run2 {i : Nat} {a : EM W} {rho rho' : Den.Env} {m m' : Mem} {w : W} (h : a rho m = .ok w m') (hr : rho.set i (some (val w)) = rho') : sSet i a rho m = .nx rho' m' := by rw [set_run h, hr]
theorem mul_run {rho : Den.Env} {m m1 m2 : Mem} {a c : EM W} {w w2 x : W} (h1 : a rho m = .ok w m1) (h2 : c rho m1 = .ok w2 m2) (h3 : lift2 mulD (val w) (val w2) m2 = .ok x m2) : mMul a c rho m = .ok x m2 := by
  show (a rho m).bindV _ = _
  rw [h1, ev_bindV, h2, ev_bindV, h3]
theorem while_def {n : Nat} {t : EM Bool} {c : SM} : sWhile n t c = whileN t c n := rfl
theorem rep_map {x : D} : ∀ n : Nat, (List.replicate n [x]).flatten = (List.range n).map fun _ => x
  | 0 => rfl
  | n + 1 => by
    rw [List.replicate_succ', List.flatten_append, rep_map n, List.range_succ, List.map_append]; rfl
theorem mul_l {x : D} {n : Nat} (h : n ≤ 1000) : mulD (.list [x]) (.int (n : Int)) = some (.n (.list ((List.range n).map fun _ => x))) := by
  have e : (decide (-1000000 ≤ (n : Int) ∧ (n : Int) ≤ 1000000) && small ([x].length * (n : Int).toNat)) = true := by
    rw [decide_eq_true (by omega), Bool.true_and]
    exact small_le (by simp; omega)
  show (if (decide (-1000000 ≤ (n : Int) ∧ (n : Int) ≤ 1000000) && small ([x].length * (n : Int).toNat)) = true then _ else _) = _
  rw [if_pos e, Int.toNat_natCast, rep_map]
theorem ix_r {i k h : Nat} {a : EM W} {rho : Den.Env} {m : Mem} {n : Nat} {f : Nat → D} (hv : rho[i]? = some (some (.r h))) (hm : m[h]? = some (some (.list ((List.range n).map f)))) (ha : a rho m = .ok (.d (.int (k : Int))) m) (hk : k < n) : mIx (mVar i) a rho m = .ok (.d (f k)) m := by
  refine ix_run (w := .r h) (w2 := .d (.int (k : Int))) (var_run hv) ha ?_
  show fIx (.r h) (.d (.int (k : Int))) m = _
  rw [f_Ix, peek_r, hm, peek_d]
  show (match ixD (.list ((List.range n).map f)) (.int (k : Int)) with | some z => Rs.ok (W.d z) m | none => .no) = _
  rw [ix_l, at_map hk]
theorem ix_d {i k : Nat} {a : EM W} {rho : Den.Env} {m : Mem} {n : Nat} {f : Nat → D} (hv : rho[i]? = some (some (.d (.list ((List.range n).map f))))) (ha : a rho m = .ok (.d (.int (k : Int))) m) (hk : k < n) : mIx (mVar i) a rho m = .ok (.d (f k)) m := by
  refine ix_run (w := .d (.list ((List.range n).map f))) (w2 := .d (.int (k : Int))) (var_run hv) ha ?_
  show fIx (.d (.list ((List.range n).map f))) (.d (.int (k : Int))) m = _
  rw [f_Ix, peek_d, peek_d]
  show (match ixD (.list ((List.range n).map f)) (.int (k : Int)) with | some z => Rs.ok (W.d z) m | none => .no) = _
  rw [ix_l, at_map hk]
theorem call2_run {rho : Den.Env} {m m1 m2 m3 : Mem} {a b : EM W} {fm : List W → Mem → Rs W} {w w1 w2 : W} (h1 : a rho m = .ok w1 m1) (h2 : b rho m1 = .ok w2 m2) (h3 : fm [val w1, val w2] m2 = .ok w m3) : mCall 2 fm (mCons a (mCons b (mNil))) rho m = .ok w m3 :=
  call_run (cons_run h1 (cons_run h2 nil_run)) rfl h3
theorem range2_any {a b : EM W} {rho : Den.Env} {m : Mem} {i : Int} {n : Nat} (h : a rho m = .ok (.d (.int i)) m) (h2 : b rho m = .ok (.d (.int (i + (n : Int)))) m) (hi : 0 ≤ i) (h1 : i + (n : Int) ≤ 1000000) : mRange2 a b rho m = .ok ((List.range n).map fun k : Nat => PyData.int (i + (k : Int))) m := by
  have hm1 : midI i = true := decide_eq_true (by omega)
  have hm2 : midI (i + (n : Int)) = true := decide_eq_true (by omega)
  unfold mRange2
  rw [cons_run h (cons_run h2 nil_run), ev_bind]
  show (if (midI i && midI (i + (n : Int))) = true then Rs.ok (rangeD i (i + (n : Int))) m else .no) = _
  rw [hm1, hm2, if_pos (show (true && true) = true from rfl)]
  unfold rangeD
  rw [show (i + (n : Int) - i).toNat = n by omega]
theorem app_run {rho : Den.Env} {m : Mem} {i h : Nat} {a : EM W} {ds : List D} {x : D} (hv : rho[i]? = some (some (.r h))) (hm : m[h]? = some (some (.list ds))) (ha : a rho m = .ok (.d x) m) (hl : ds.length + 1 ≤ 1000000) : sDrop (mM .lst (mVar i) (mCons a (mNil)) fAppend) rho m = .nx rho (m.set h (some (.list (ds ++ [x])))) := by
  have hs : small (ds.length + 1) = true := small_le hl
  rw [e_Drop, e_M, var_run hv, ev_bindV, val_r, peek_r, hm]
  show (((if Kd.ok .lst (.list ds) = true then (mCons a mNil rho m).bind fun ws m2 => fAppend (.r h) ws m2 else Rs.no) : Rs W).thenV rho fun _ m1 => Out.nx rho m1) = _
  rw [kd_l, if_pos rfl, cons_run ha nil_run, ev_bind, val_d, f_app, hm]
  show (((if small (ds.length + 1) = true then Rs.ok (W.d .none) (m.set h (some (.list (ds ++ [x])))) else Rs.no) : Rs W).thenV rho fun _ m1 => Out.nx rho m1) = _
  rw [if_pos hs]
  rfl
theorem frz_run {i n : Nat} {x : D} {c : SM} {rho : Den.Env} {m : Mem} (hv : rho[i]? = some (some (.r n))) (hm : m[n]? = some (some x)) : sFrz i c rho m = c (rho.map (frzW n x)) (m.set n none) := by
  unfold sFrz
  rw [hv]
  show (match m[n]? with | some (some x) => c (rho.map (frzW n x)) (m.set n none) | _ => Out.no) = _
  rw [hm]
theorem get_mid (m : Mem) (x : Option D) (js : Mem) : (m ++ x :: js)[m.length]? = some x := by
  rw [List.getElem?_append_right (Nat.le_refl _), Nat.sub_self]; rfl
theorem set_mid (m : Mem) (x y : Option D) (js : Mem) : (m ++ x :: js).set m.length y = m ++ y :: js := by
  rw [List.set_append_right _ _ (Nat.le_refl _), Nat.sub_self]; rfl
theorem fin_r {n : Nat} {m' : Mem} {x : D} (h : m'[n]? = some (some x)) : fin n m' (.r n) = .ok (.n x) (m'.take n) := by
  show (if n ≤ n then (match m'[n]? with | some (some x) => Rs.ok (W.n x) (m'.take n) | _ => .no) else .no) = _
  rw [if_pos (Nat.le_refl n), h]
theorem run_r {N : Nat} {c : SM} {ws : List W} {m m' : Mem} {x : D} {rho : Den.Env} (h0 : startE N ws = rho) (h : c rho m = .rt (.r m.length) m') (hx : m'[m.length]? = some (some x)) : runF N c ws m = .ok (.n x) (m'.take m.length) := by
  unfold runF
  rw [h0, h]
  exact fin_r hx
theorem dv_div {y : Int} {S : Nat} (hS : 0 < S) : dv S (Rat.divInt y (S : Int)) := by
  refine ⟨y, ?_⟩
  rw [div_rat]
  exact Rat.div_mul_cancel (by have := nat_pos hS; grind)
section
variable {n b : Nat} {m : Mem}
theorem mod_run {rho : Den.Env} {m m1 m2 : Mem} {a c : EM W} {i j : Int} (h1 : a rho m = .ok (.d (.int i)) m1) (h2 : c rho m1 = .ok (.d (.int j)) m2) (hj : 0 < j) : mMod a c rho m = .ok (.d (.int (i % j))) m2 := by
  rw [e_Mod, h1, ev_bindV, h2, ev_bindV, val_d, val_d, f_lift2, peek_d, peek_d]
  show (match onI modD (.int i) (.int j) with | some w => Rs.ok w m2 | none => .no) = _
  rw [on_ii, mod_pos hj]; rfl
end
theorem ix_t0 {i k : Nat} {a : EM W} {rho : Den.Env} {m : Mem} {n : Nat} {f : Nat → D} (hv : rho[i]? = some (some (.d (.tuple ((List.range n).map f))))) (ha : a rho m = .ok (.d (.int (k : Int))) m) (hk : k < n) : mIx (mVar i) a rho m = .ok (.d (f k)) m := by
  refine ix_run (w := .d (.tuple ((List.range n).map f))) (w2 := .d (.int (k : Int))) (var_run hv) ha ?_
  show fIx (.d (.tuple ((List.range n).map f))) (.d (.int (k : Int))) m = _
  rw [f_Ix, peek_d, peek_d]
  show (match ixD (.tuple ((List.range n).map f)) (.int (k : Int)) with | some z => Rs.ok (W.d z) m | none => .no) = _
  rw [ix_t, at_map hk]
theorem any_falseL {α : Type} (l : List α) : anyD (.list (l.map fun _ => .bool false)) = some (.bool false) := by
  have e : l.map (fun _ => PyData.bool false) = (l.map fun _ => false).map PyData.bool := by rw [List.map_map]; rfl
  rw [e, any_bools]
  simp
theorem two_mem {m : Mem} (h : m.length = 2) : ∃ x y, m = [x, y] := by
  match m, h with
  | [x, y], _ => exact ⟨x, y, rfl⟩

def Fine (o : Out) : Prop := ∃ m, o = .rt (.d (.bool true)) m
theorem seq_step {c d : SM} {rho rho' : Den.Env} {m m' : Mem} (h : c rho m = .nx rho' m') (h2 : Fine (d rho' m')) : Fine (sSeq c d rho m) := by
  rw [e_Seq, h]; exact h2
theorem nat_pos1 (n : Nat) : (0 : Rat) < ((n + 1 : Nat) : Rat) := nat_pos (Nat.succ_pos n)
def sL {α : Type} (f : α → Rat) : List α → Rat
  | [] => 0
  | x :: l => f x + sL f l
theorem sL_app {α : Type} (f : α → Rat) : ∀ l k : List α, sL f (l ++ k) = sL f l + sL f k
  | [], k => by show sL f k = 0 + sL f k; grind
  | x :: l, k => by have := sL_app f l k; show f x + sL f (l ++ k) = f x + sL f l + sL f k; grind
theorem sL_congr {α : Type} {f g : α → Rat} : ∀ {l : List α}, (∀ x ∈ l, f x = g x) → sL f l = sL g l
  | [], _ => rfl
  | x :: l, h => by
    show f x + sL f l = g x + sL g l
    rw [h x List.mem_cons_self, sL_congr fun y hy => h y (List.mem_cons_of_mem _ hy)]
theorem sL_le {α : Type} {f g : α → Rat} : ∀ {l : List α}, (∀ x ∈ l, f x ≤ g x) → sL f l ≤ sL g l
  | [], _ => by show (0 : Rat) ≤ 0; grind
  | x :: l, h => by
    have h1 := h x List.mem_cons_self
    have h2 := sL_le fun y hy => h y (List.mem_cons_of_mem x hy)
    show f x + sL f l ≤ g x + sL g l
    grind
theorem sL_mul {α : Type} (c : Rat) (f : α → Rat) : ∀ l : List α, sL (fun x => c * f x) l = c * sL f l
  | [] => by show (0 : Rat) = c * 0; grind
  | x :: l => by have := sL_mul c f l; show c * f x + sL (fun x => c * f x) l = c * (f x + sL f l); grind
theorem sL_const {α : Type} (c : Rat) : ∀ l : List α, sL (fun _ => c) l = (l.length : Rat) * c
  | [] => by show (0 : Rat) = 0 * c; grind
  | x :: l => by
    have := sL_const c l
    show c + sL (fun _ => c) l = ((l.length + 1 : Nat) : Rat) * c
    rw [this, cast_S]; grind
theorem sL_nn {α : Type} {f : α → Rat} {l : List α} (h : ∀ x ∈ l, 0 ≤ f x) : 0 ≤ sL f l := by
  have := sL_le (f := fun _ => 0) h
  rw [sL_const] at this
  grind
theorem sL_flat {α β : Type} (f : β → Rat) (g : α → List β) : ∀ l : List α, sL f (l.flatMap g) = sL (fun x => sL f (g x)) l
  | [] => rfl
  | x :: l => by rw [List.flatMap_cons, sL_app, sL_flat f g l]; rfl
theorem sL_map {α β : Type} (f : β → Rat) (g : α → β) : ∀ l : List α, sL f (l.map g) = sL (fun x => f (g x)) l
  | [] => rfl
  | x :: l => by show f (g x) + sL f (l.map g) = _; rw [sL_map f g l]; rfl
theorem sL_filter {α : Type} (p : α → Bool) (f : α → Rat) : ∀ l : List α, sL f (l.filter p) = sL (fun x => if p x = true then f x else 0) l
  | [] => rfl
  | x :: l => by
    have := sL_filter p f l
    cases h : p x with
    | true =>
      rw [List.filter_cons_of_pos h]
      show f x + sL f (l.filter p) = (if p x = true then f x else 0) + _
      rw [this, if_pos h]
    | false =>
      rw [List.filter_cons_of_neg (by rw [h]; simp)]
      show sL f (l.filter p) = (if p x = true then f x else 0) + _
      rw [this, if_neg (by rw [h]; simp)]; grind
theorem sL_range (f : Nat → Rat) : ∀ n, sL f (List.range n) = sR n f
  | 0 => rfl
  | n + 1 => by
    rw [List.range_succ, sL_app, sL_range f n]
    show sR n f + (f n + 0) = sR n f + f n
    grind
theorem totG {LL : Nat} {FA : List W → Mem → Rs W} (hA : OpL LL FA (· + ·)) {b : Nat} {x0 : Option W} {m : Mem} (hb : b + b ≤ LL) : ∀ (l : List Rat) (acc : Rat) (x2 : Option W), (∀ i, i ≤ l.length → sz b (acc + sL (fun x => x) (l.take i))) → (∀ x ∈ l, sz b x) →
    ∃ y, forL (gN 2) (sSeq (sSet 1 (mCall 2 FA (mCons (mVar 1) (mCons (mVar 2) (mNil))))) (sSkip)) (l.map rq) [x0, some (.d (rq acc)), x2] m = .nx [x0, some (.d (rq (acc + sL (fun x => x) l))), y] m
  | [], acc, x2, _, _ => ⟨x2, by show Out.nx [x0, some (W.d (rq acc)), x2] m = .nx [x0, some (W.d (rq (acc + 0))), x2] m; rw [show acc + 0 = acc by grind]⟩
  | x :: l, acc, x2, h, hx => by
    have h0 := h 0 (Nat.zero_le _)
    have h0' : sz b acc := by
      have e : acc + sL (fun x => x) ((x :: l).take 0) = acc := by show acc + 0 = acc; grind
      rw [e] at h0; exact h0
    have e1 := hA _ _ acc x m h0' (hx x List.mem_cons_self) hb
    obtain ⟨y, e2⟩ := totG hA (x0 := x0) (m := m) hb l (acc + x) (some (.d (rq x))) (fun i hi => by
      have := h (i + 1) (by rw [List.length_cons]; omega)
      rw [List.take_succ_cons] at this
      have e : acc + (x + sL (fun x => x) (l.take i)) = acc + x + sL (fun x => x) (l.take i) := by grind
      have this : sz b (acc + (x + sL (fun x => x) (l.take i))) := this
      rw [e] at this; exact this) (fun y hy => hx y (List.mem_cons_of_mem _ hy))
    refine ⟨y, ?_⟩
    rw [List.map_cons, for_step (r1 := [x0, some (.d (rq acc)), some (.d (rq x))]) (r := [x0, some (.d (rq (acc + x))), some (.d (rq x))]) (m1 := m) (m' := m) rfl (by simp [e1]), e2]
    have e : acc + x + sL (fun x => x) l = acc + sL (fun x => x) (x :: l) := by show _ = acc + (x + _); grind
    rw [e]
theorem pre_sz {l : List Rat} {M b e : Nat} (h : ∀ y ∈ l, dv M y ∧ 0 ≤ y) (hs : sL (fun x => x) l ≤ ((2 ^ e : Nat) : Rat)) (hM : 0 < M) (hb : M < 2 ^ b) : (∀ i, i ≤ l.length → sz (b + e) (0 + sL (fun x => x) (l.take i))) ∧ ∀ x ∈ l, sz (b + e) x := by
  have dvL : ∀ l : List Rat, (∀ y ∈ l, dv M y ∧ 0 ≤ y) → dv M (sL (fun x => x) l) := by
    intro l
    induction l with
    | nil => intro _; exact dv_0
    | cons x l ih => intro h; exact dv_add (h x List.mem_cons_self).1 (ih fun y hy => h y (List.mem_cons_of_mem _ hy))
  have two : -((2 ^ e : Nat) : Rat) ≤ 0 := by have := nat_nn (2 ^ e); grind
  constructor
  · intro i hi
    have e1 : 0 + sL (fun x => x) (l.take i) = sL (fun x => x) (l.take i) := by grind
    rw [e1]
    have hl := sL_app (fun x : Rat => x) (l.take i) (l.drop i)
    rw [List.take_append_drop] at hl
    have n1 : 0 ≤ sL (fun x : Rat => x) (l.take i) := sL_nn fun x hx => (h x (List.mem_of_mem_take hx)).2
    have n2 : 0 ≤ sL (fun x : Rat => x) (l.drop i) := sL_nn fun x hx => (h x (List.mem_of_mem_drop hx)).2
    exact sz_dv (dvL _ fun y hy => h y (List.mem_of_mem_take hy)) hM hb (by grind) (by grind)
  · intro x hx
    have key : ∀ l : List Rat, (∀ y ∈ l, 0 ≤ y) → ∀ x ∈ l, x ≤ sL (fun x => x) l := by
      intro l
      induction l with
      | nil => intro _ x hx; cases hx
      | cons z l ih =>
        intro h x hx
        have n2 : 0 ≤ sL (fun x : Rat => x) l := sL_nn fun y hy => h y (List.mem_cons_of_mem _ hy)
        have n1 := h z List.mem_cons_self
        show x ≤ z + sL (fun x => x) l
        rcases List.mem_cons.mp hx with rfl | hx
        · grind
        · have := ih (fun y hy => h y (List.mem_cons_of_mem _ hy)) x hx
          grind
    have := key l (fun y hy => (h y hy).2) x hx
    exact sz_dv (h x hx).1 hM hb (by grind) (by have := (h x hx).2; grind)
@[reducible] def nD (n : Nat) : D := .int (n : Int)
theorem sIx_n (n e k : Nat) : HT.sIx n e (some (k : Int)) = min k n := HT.sIx_nat n e k
theorem cut_to {α : Type} {xs : List α} (k : Nat) : Den.cutD xs none (some (k : Int)) = xs.take k := by
  unfold Den.cutD
  rw [sIx_n]
  show (xs.drop 0).take (min k xs.length - 0) = xs.take k
  rw [List.drop_zero, Nat.sub_zero]
  by_cases h : k ≤ xs.length
  · rw [Nat.min_eq_left h]
  · rw [Nat.min_eq_right (by omega), List.take_length, List.take_of_length_le (by omega)]
theorem cut_from {α : Type} {xs : List α} (k : Nat) : Den.cutD xs (some (k : Int)) none = xs.drop k := by
  unfold Den.cutD
  rw [sIx_n]
  show (xs.drop (min k xs.length)).take (xs.length - min k xs.length) = xs.drop k
  by_cases h : k ≤ xs.length
  · rw [Nat.min_eq_left h, List.take_of_length_le (by rw [List.length_drop]; exact Nat.le_refl _)]
  · rw [Nat.min_eq_right (by omega), List.drop_length, List.drop_eq_nil_of_le (by omega), List.take_nil]
theorem sl_to {rho : Den.Env} {m : Mem} {a b : EM W} {xs : List D} {k : Nat} (h : a rho m = .ok (.d (.tuple xs)) m) (h2 : b rho m = .ok (.d (.int (k : Int))) m) : mSl a oNone (oSome b) rho m = .ok (.d (.tuple (xs.take k))) m := by
  rw [e_Sl, h, ev_bindV, e_oN, ev_bind, e_oS, h2, ev_bindV, val_d, ev_bind, val_d, f_Sl, peek_d]
  show Rs.ok (W.d (.tuple (Den.cutD xs none (some (k : Int))))) m = _
  rw [cut_to]
theorem sl_from {rho : Den.Env} {m : Mem} {a b : EM W} {xs : List D} {k : Nat} (h : a rho m = .ok (.d (.tuple xs)) m) (h2 : b rho m = .ok (.d (.int (k : Int))) m) : mSl a (oSome b) oNone rho m = .ok (.d (.tuple (xs.drop k))) m := by
  rw [e_Sl, h, ev_bindV, e_oS, h2, ev_bindV, val_d, ev_bind, e_oN, ev_bind, val_d, f_Sl, peek_d]
  show Rs.ok (W.d (.tuple (Den.cutD xs (some (k : Int)) none))) m = _
  rw [cut_from]
theorem star_run {rho : Den.Env} {m m1 m2 : Mem} {a : EM W} {r : EM (List W)} {xs : List D} {ws : List W} (h : a rho m = .ok (.d (.tuple xs)) m1) (h2 : r rho m1 = .ok ws m2) : mStar a r rho m = .ok (xs.map W.d ++ ws) m2 := by
  rw [e_Star, h, ev_bindV, val_d]
  show (r rho m1).bind (fun ws m2 => Rs.ok (xs.map W.d ++ ws) m2) = _
  rw [h2, ev_bind]
theorem frz_ds {m : Mem} : ∀ xs : List D, frzAll (xs.map W.d) m = some (xs, m)
  | [] => rfl
  | x :: xs => by rw [List.map_cons, frzAll_d, frz_ds xs]
theorem tup_ds {rho : Den.Env} {m m1 : Mem} {r : EM (List W)} {xs : List D} (h : r rho m = .ok (xs.map W.d) m1) (hs : xs.length ≤ 1000000) : mTup r rho m = .ok (.d (.tuple xs)) m1 := tup_run h (frz_ds xs) (small_le hs)
theorem run_dt {N : Nat} {c : SM} {ws : List W} {m m' : Mem} {x : D} {rho : Den.Env} (h0 : startE N ws = rho) (h : c rho m = .rt (.d x) m') (hl : m'.take m.length = m) : runF N c ws m = .ok (.d x) m := by
  unfold runF
  rw [h0, h]
  show Rs.ok (W.d x) (m'.take m.length) = _
  rw [hl]
section
variable {m : Mem}
theorem aug_run {i : Nat} {f : Int → Int → Int} {rho : Den.Env} {x y : Int} (h : rho[i]? = some (some (.d (.int x)))) : sAugI i f (mC (.int y)) rho m = .nx (rho.set i (some (.d (.int (f x y))))) m := by
  unfold sAugI
  rw [h]; rfl
end
theorem chain_run {f g : W → W → Mem → Rs W} {a b c : EM W} {rho : Den.Env} {m : Mem} {w1 w2 w3 : W} {p q : Bool} (h1 : a rho m = .ok w1 m) (h2 : b rho m = .ok w2 m) (h3 : c rho m = .ok w3 m) (hf : f (val w1) (val w2) m = .ok (.d (.bool p)) m) (hg : g (val w2) (val w3) m = .ok (.d (.bool q)) m) : mChain f g a b c rho m = .ok (.d (.bool (p && q))) m := by
  rw [e_Chain, h1, ev_bindV, h2, ev_bindV, hf, ev_bindV]
  cases p with
  | false => rfl
  | true =>
    show (c rho m).bindV (fun z m4 => g (val w2) z m4) = _
    rw [h3, ev_bindV, hg]; rfl
theorem for_run {it : EM (List D)} {g : GM} {c : SM} {items : List D} {rho : Den.Env} {m m1 : Mem} {o : Out} (hi : it rho m = .ok items m1) (h : forL g c items rho m1 = o) : sFor it g c rho m = o := by rw [e_For, hi, ev_thenS, h]
theorem forN_step {i : Nat} {c : SM} {x : D} {xs : List D} {rho r : Den.Env} {m m' : Mem} (h2 : c (rho.set i (some (.d x))) m = .nx r m') : forL (gN i) c (x :: xs) rho m = forL (gN i) c xs r m' := for_step (show gN i (.d x) rho m = some (rho.set i (some (.d x)), m) from rfl) h2
theorem forT2_step {i j : Nat} {c : SM} {x y : D} {xs : List D} {rho r : Den.Env} {m m' : Mem} (h2 : c ((rho.set i (some (.d x))).set j (some (.d y))) m = .nx r m') : forL (gT [gN i, gN j]) c (.tuple [x, y] :: xs) rho m = forL (gT [gN i, gN j]) c xs r m' := for_step gT2 h2
theorem sz_nat {n b : Nat} (h : n < 2 ^ b) (hb : 0 < b) : sz b (n : Rat) := ⟨by show ((n : Nat) : Int).natAbs < 2 ^ b; rw [Int.natAbs_natCast]; exact h, by show (1 : Nat) < 2 ^ b; exact Nat.one_lt_two_pow (by omega)⟩
theorem rq_nat (n : Nat) : rq (n : Rat) = .tuple [nD n, .int 1] := rfl
theorem sL_pos {α : Type} {f : α → Rat} {l : List α} (h : ∀ x ∈ l, 0 ≤ f x) {x : α} (hx : x ∈ l) (hp : 0 < f x) : 0 < sL f l := by
  induction l with
  | nil => cases hx
  | cons y l ih =>
    have h1 := h y List.mem_cons_self
    have h2 := sL_nn fun z hz => h z (List.mem_cons_of_mem y hz)
    show 0 < f y + sL f l
    rcases List.mem_cons.mp hx with rfl | hx
    · grind
    · have := ih (fun z hz => h z (List.mem_cons_of_mem y hz)) hx
      grind
theorem dv_sL {α : Type} {M : Nat} {f : α → Rat} : ∀ {l : List α}, (∀ x ∈ l, dv M (f x)) → dv M (sL f l)
  | [], _ => dv_0
  | x :: l, h => dv_add (h x List.mem_cons_self) (dv_sL fun y hy => h y (List.mem_cons_of_mem _ hy))
theorem div_le_1 {p q : Rat} (hq : 0 < q) (h : p ≤ q) : p / q ≤ 1 := by
  have hc := Rat.div_mul_cancel (a := p) (b := q) (by grind)
  refine le_of_mul hq ?_
  rw [hc]; grind
theorem div_nn {p q : Rat} (hq : 0 < q) (h : 0 ≤ p) : 0 ≤ p / q := nonneg_of_mul hq (by rw [Rat.div_mul_cancel (by grind)]; exact h)
theorem sL_div {α : Type} (f : α → Rat) (q : Rat) (l : List α) : sL (fun x => f x / q) l = sL f l / q := by
  have h := sL_mul q⁻¹ f l
  have e : ∀ x : Rat, x / q = q⁻¹ * x := fun x => by rw [Rat.div_def]; grind
  rw [e, ← h]
  exact sL_congr fun x _ => e _
section
variable {m : Mem}
theorem le_b {i j : Int} (h : i ≤ j) : lift2 leD (.d (.int i)) (.d (.int j)) m = .ok (.d (.bool true)) m := lift2_run rfl rfl (by rw [le_i, decide_eq_true h])
theorem lt_b {i j : Int} (h : i < j) : lift2 ltD (.d (.int i)) (.d (.int j)) m = .ok (.d (.bool true)) m := lift2_run rfl rfl (by rw [lt_i, decide_eq_true h])
theorem len_b {i : Nat} {rho : Den.Env} {xs : List D} (h : rho[i]? = some (some (.d (.tuple xs)))) : mB (mCons (mVar i) (mNil)) (fD1 lenD) rho m = .ok (.d (nD xs.length)) m := b_run (cons_run (var_run h) nil_run) rfl
theorem D1_run {g : D → Option D} {x y : D} (h : g x = some y) : fD1 g [.d x] m = .ok (.d y) m := by
  rw [f_D1, peek_d]
  show (match g x with | some y => Rs.ok (W.d y) m | none => .no) = _
  rw [h]
theorem not_run {t : EM Bool} {rho : Den.Env} {m1 : Mem} {b : Bool} (h : t rho m = .ok b m1) : mNotT t rho m = .ok (!b) m1 := by rw [e_NotT, h, ev_bind]
end
theorem at_nD {st : List Nat} {a : Nat} (h : a < st.length) : atI (st.map nD) (a : Int) = some (nD (st.getD a 0)) := by
  unfold atI ixN
  rw [if_pos (by omega), if_pos (by rw [List.length_map]; omega)]
  simp [h]
theorem seq_ret {c d : SM} {rho : Den.Env} {m m' : Mem} {w : W} (h : c rho m = .rt w m') : sSeq c d rho m = .rt w m' := by rw [e_Seq, h]
section
variable {m : Mem}
theorem ix_tup {rho : Den.Env} {a b : EM W} {xs : List D} {i : Int} {y : D} (h1 : a rho m = .ok (.d (.tuple xs)) m) (h2 : b rho m = .ok (.d (.int i)) m) (h3 : atI xs i = some y) : mIx a b rho m = .ok (.d y) m := ix_run h1 h2 (by
  rw [val_d, val_d, f_Ix, peek_d, peek_d]
  show (match ixD (.tuple xs) (.int i) with | some z => Rs.ok (W.d z) m | none => .no) = _
  rw [ix_t, h3])
theorem ext_run {rho : Den.Env} {i h : Nat} {a : EM W} {ds xs : List D} {w : W} (hv : rho[i]? = some (some (.r h))) (hm : m[h]? = some (some (.list ds))) (ha : a rho m = .ok w m) (hw : val w = .d (.list xs)) (hl : ds.length + xs.length ≤ 1000000) : sDrop (mM .lst (mVar i) (mCons a (mNil)) fExtend) rho m = .nx rho (m.set h (some (.list (ds ++ xs)))) := by
  have hs : small (ds.length + xs.length) = true := small_le hl
  rw [e_Drop, e_M, var_run hv, ev_bindV, val_r, peek_r, hm]
  show (((if Kd.ok .lst (.list ds) = true then (mCons a mNil rho m).bind fun ws m2 => fExtend (.r h) ws m2 else Rs.no) : Rs W).thenV rho fun _ m1 => Out.nx rho m1) = _
  rw [kd_l, if_pos rfl, cons_run ha nil_run, ev_bind, hw, f_ext, hm]
  show (((if small (ds.length + xs.length) = true then Rs.ok (W.d .none) (m.set h (some (.list (ds ++ xs)))) else Rs.no) : Rs W).thenV rho fun _ m1 => Out.nx rho m1) = _
  rw [if_pos hs]
  rfl
theorem filter_flat {α β : Type} (p : β → Bool) (g : α → List β) : ∀ l : List α, (l.flatMap g).filter p = l.flatMap fun x => (g x).filter p
  | [] => rfl
  | x :: l => by rw [List.flatMap_cons, List.filter_append, filter_flat p g l]; rfl
end
section
variable {m : Mem}
theorem range1_mm {a : EM W} {rho : Den.Env} {m m0 : Mem} {n : Nat} (h : a rho m = .ok (.d (nD n)) m0) (h1 : n ≤ 1000000) : mRange1 a rho m = .ok ((List.range n).map fun k : Nat => PyData.int (k : Int)) m0 := by
  unfold mRange1
  rw [cons_run h nil_run, ev_bind]
  have hm : midI (n : Int) = true := decide_eq_true (by omega)
  show (if midI (n : Int) = true then Rs.ok (rangeD 0 (n : Int)) m0 else .no) = .ok ((List.range n).map fun k : Nat => PyData.int (k : Int)) m0
  rw [hm, if_pos rfl]
  simp [rangeD]
theorem tup_of {rho : Den.Env} {a : EM W} {m' : Mem} {xs : List D} (h : a rho m = .ok (.n (.list xs)) m') : mB (mCons a (mNil)) fTup rho m = .ok (.d (.tuple xs)) m' := b_run (cons_run h nil_run) rfl
end
/-! sorted lists of tuples of ints -/
def lexI : List Int → List Int → Bool
  | [], [] => false
  | [], _ :: _ => true
  | _ :: _, [] => false
  | x :: xs, y :: ys => decide (x < y) || (!decide (y < x) && lexI xs ys)
theorem toks_lex : ∀ l k : List Int, PyProof.Rows.lexLt itemOrd (PySem.W.keyToksAll (l.map PyData.int)) (PySem.W.keyToksAll (k.map PyData.int)) = lexI l k
  | [], [] => rfl
  | [], y :: ys => by
    rw [List.map_cons, List.map_nil]
    simp only [PySem.W.keyToksAll]
    rw [PyProof.Rows.lex_cons]; rfl
  | x :: xs, [] => by
    rw [List.map_cons, List.map_nil]
    simp only [PySem.W.keyToksAll]
    rw [PyProof.Rows.lex_cons]; rfl
  | x :: xs, y :: ys => by
    rw [List.map_cons, List.map_cons]
    simp only [PySem.W.keyToks, PySem.W.keyToksAll, List.cons_append, List.nil_append]
    rw [PyProof.Rows.lex_cons, PyProof.Rows.lex_cons, toks_lex xs ys]
    show (decide ((1 : Int) < 1) || (!decide ((1 : Int) < 1) && (decide (x < y) || (!decide (y < x) && _)))) = _
    simp [lexI]
theorem dataLt_T (l k : List Int) : PySem.W.dataLt (.tuple (l.map PyData.int)) (.tuple (k.map PyData.int)) = lexI l k := by
  unfold PySem.W.dataLt
  simp only [PySem.W.keyToks]
  exact toks_lex l k
theorem dataLe_T (l k : List Int) : PySem.W.dataLe false id (PyData.tuple (l.map PyData.int)) (PyData.tuple (k.map PyData.int)) = !lexI k l := by
  show (!PySem.W.dataLt (.tuple (k.map PyData.int)) (.tuple (l.map PyData.int))) = _
  rw [dataLt_T]
theorem lexI_asymm : ∀ l k : List Int, lexI l k = true → lexI k l = false
  | [], [], h => nomatch h
  | [], y :: ys, _ => rfl
  | x :: xs, [], h => nomatch h
  | x :: xs, y :: ys, h => by
    simp only [lexI, Bool.or_eq_true, Bool.and_eq_true, Bool.not_eq_true', decide_eq_true_eq, decide_eq_false_iff_not] at h
    simp only [lexI, Bool.or_eq_false_iff, Bool.and_eq_false_iff, Bool.not_eq_false', decide_eq_true_eq, decide_eq_false_iff_not]
    rcases h with h | ⟨h1, h2⟩
    · exact ⟨by omega, .inl h⟩
    · exact ⟨h1, .inr (lexI_asymm xs ys h2)⟩
theorem alike_T : ∀ l k : List Int, PySem.W.alikeAll (l.map PyData.int) (k.map PyData.int) = true
  | [], k => by simp [PySem.W.alikeAll]
  | x :: xs, [] => by simp [PySem.W.alikeAll]
  | x :: xs, y :: ys => by
    rw [List.map_cons, List.map_cons]
    simp only [PySem.W.alikeAll, PySem.W.alike, Bool.true_and]
    exact alike_T xs ys
theorem hasDict_ints : ∀ l : List Int, PyData.hasDictAll (l.map PyData.int) = false
  | [] => by simp [PyData.hasDictAll]
  | x :: l => by
    rw [List.map_cons]
    simp only [PyData.hasDictAll, PyData.hasDict, Bool.false_or]
    exact hasDict_ints l
theorem sortOk_T {L : List (List Int)} (h : ∀ l ∈ L, l ≠ []) : (alikeAllB (L.map fun l => PyData.tuple (l.map PyData.int)) && ((L.map fun l => PyData.tuple (l.map PyData.int)).all tupConsB || (L.map fun l => PyData.tuple (l.map PyData.int)).all plainB) && (L.map fun l => PyData.tuple (l.map PyData.int)).all (fun d => decide (d.depth ≤ 60) && !d.hasDict)) = true := by
  have c1 : alikeAllB (L.map fun l => PyData.tuple (l.map PyData.int)) = true := by
    unfold alikeAllB
    rw [List.all_eq_true]
    intro x hx
    rw [List.all_eq_true]
    intro y hy
    obtain ⟨e, _, rfl⟩ := List.mem_map.mp hx
    obtain ⟨f, _, rfl⟩ := List.mem_map.mp hy
    simp only [PySem.W.alike]
    exact alike_T e f
  have c2 : (L.map fun l => PyData.tuple (l.map PyData.int)).all tupConsB = true := by
    rw [List.all_eq_true]
    intro x hx
    obtain ⟨e, he, rfl⟩ := List.mem_map.mp hx
    cases e with
    | nil => exact absurd rfl (h _ he)
    | cons a r => rfl
  have c3 : (L.map fun l => PyData.tuple (l.map PyData.int)).all (fun d => decide (d.depth ≤ 60) && !d.hasDict) = true := by
    rw [List.all_eq_true]
    intro x hx
    obtain ⟨e, _, rfl⟩ := List.mem_map.mp hx
    have hd := depthAll_map e PyData.int 1 fun x _ => by simp [PyData.depth]
    rw [Bool.and_eq_true]
    refine ⟨decide_eq_true (by simp only [PyData.depth]; omega), ?_⟩
    simp only [PyData.hasDict]
    rw [hasDict_ints]; rfl
  rw [c1, c2, c3]; rfl
/-- what grows already stays as it is -/
theorem sortD_grow {L : List (List Int)} (h : ∀ l ∈ L, l ≠ []) (hp : L.Pairwise fun a b => lexI a b = true) : sortD (.list (L.map fun l => PyData.tuple (l.map PyData.int))) = some (L.map fun l => PyData.tuple (l.map PyData.int)) := by
  unfold sortD
  dsimp only
  rw [if_pos (sortOk_T h), List.mergeSort_of_pairwise]
  rw [List.pairwise_map]
  exact hp.imp fun {a b} hab => by
    rw [dataLe_T, lexI_asymm _ _ hab]; rfl
theorem lexI_app : ∀ (a b x y : List Int), a.length = b.length → lexI a b = true → lexI (a ++ x) (b ++ y) = true
  | [], [], x, y, _, h => nomatch h
  | [], b :: bs, x, y, h, _ => by simp at h
  | a :: as, [], x, y, h, _ => by simp at h
  | a :: as, b :: bs, x, y, h, h2 => by
    simp only [lexI, List.cons_append, Bool.or_eq_true, Bool.and_eq_true] at h2 ⊢
    rcases h2 with h2 | ⟨h2, h3⟩
    · exact .inl h2
    · exact .inr ⟨h2, lexI_app as bs x y (by simpa using h) h3⟩
theorem lexI_same : ∀ (a x y : List Int), lexI (a ++ x) (a ++ y) = lexI x y
  | [], x, y => rfl
  | a :: as, x, y => by
    simp only [lexI, List.cons_append, lexI_same as x y]
    simp
section
variable {m : Mem}
theorem dput_run {i j k h : Nat} {kvs : List (D × D)} {xk v : D} {K : K2} {rho : Den.Env} (h1 : rho[i]? = some (some (.r h))) (h2 : rho[j]? = some (some (.d xk))) (h3 : rho[k]? = some (some (.d v))) (hm : m[h]? = some (some (.dict kvs))) (hk : keyOf xk = some K) (ok : okKey kvs K = true) (hl : kvs.length + 1 ≤ 1000000) : sDPutM (mVar i) (mVar j) (mVar k) rho m = .nx rho (m.set h (some (.dict (putDt kvs K xk v)))) := by
  unfold sDPutM
  rw [var_run h3, ev_thenV, var_run h1, ev_thenV, var_run h2, ev_thenV, val_d, val_d, val_r]
  show (match m[h]?, keyOf xk with
    | some (some (.dict kvs)), some k => if (okKey kvs k && small (kvs.length + 1)) = true then Out.nx rho (m.set h (some (.dict (putDt kvs k xk v)))) else .no
    | _, _ => .no) = _
  rw [hm, hk]
  show (if (okKey kvs K && small (kvs.length + 1)) = true then Out.nx rho (m.set h (some (.dict (putDt kvs K xk v)))) else .no) = _
  rw [ok, small_le hl]; rfl
end
theorem sR_mulc (c : Rat) (f : Nat → Rat) : ∀ n, sR n (fun i => c * f i) = c * sR n f
  | 0 => by show (0 : Rat) = c * 0; grind
  | n + 1 => by have := sR_mulc c f n; show sR n (fun i => c * f i) + c * f n = c * (sR n f + f n); grind
theorem sR_addf (f g : Nat → Rat) : ∀ n, sR n (fun i => f i + g i) = sR n f + sR n g
  | 0 => by show (0 : Rat) = 0 + 0; grind
  | n + 1 => by have := sR_addf f g n; show sR n (fun i => f i + g i) + (f n + g n) = sR n f + f n + (sR n g + g n); grind
theorem sR_ind (c : Nat) (f : Nat → Rat) : ∀ n, sR n (fun i => if i = c then f i else 0) = if c < n then f c else 0
  | 0 => rfl
  | n + 1 => by
    show sR n (fun i => if i = c then f i else 0) + (if n = c then f n else 0) = _
    rw [sR_ind c f n]
    by_cases h : n = c
    · subst h
      rw [if_neg (by omega), if_pos rfl, if_pos (by omega)]; grind
    · rw [if_neg h]
      by_cases h2 : c < n
      · rw [if_pos h2, if_pos (by omega)]; grind
      · rw [if_neg h2, if_neg (by omega)]; grind
/-- triangles -/
theorem tri_sum (f : Nat → Nat → Rat) : ∀ c, sR (c + 1) (fun n => sR (c + 1 - n) (f n)) = sR (c + 1) fun j => sR (j + 1) fun n => f n (j - n)
  | 0 => by show 0 + (0 + f 0 0) = 0 + (0 + f 0 (0 - 0)); rfl
  | c + 1 => by
    have ih := tri_sum f c
    have e : sR (c + 2) (fun n => sR (c + 2 - n) (f n)) = sR (c + 1) (fun n => sR (c + 1 - n) (f n)) + sR (c + 2) fun n => f n (c + 1 - n) := by
      show sR (c + 1) (fun n => sR (c + 2 - n) (f n)) + sR (c + 2 - (c + 1)) (f (c + 1)) = _ + (sR (c + 1) (fun n => f n (c + 1 - n)) + f (c + 1) (c + 1 - (c + 1)))
      have e1 : sR (c + 1) (fun n => sR (c + 2 - n) (f n)) = sR (c + 1) (fun n => sR (c + 1 - n) (f n) + f n (c + 1 - n)) := sR_congr fun n hn => by
        rw [show c + 2 - n = (c + 1 - n) + 1 by omega]; rfl
      have e2 : sR (c + 2 - (c + 1)) (f (c + 1)) = f (c + 1) (c + 1 - (c + 1)) := by
        rw [show c + 2 - (c + 1) = 1 by omega, show c + 1 - (c + 1) = 0 by omega]
        show 0 + f (c + 1) 0 = _
        grind
      rw [e1, sR_addf, e2]; grind
    rw [e, ih]; rfl
theorem shaped_rqs (l : List Rat) : SeqAt.shaped (.tuple (l.map rq)) = true := by
  unfold SeqAt.shaped
  have h1 := canLay_map l rq fun q _ => by
    have := shaped_rq q
    unfold SeqAt.shaped at this
    exact (Bool.and_eq_true_iff.mp this).1
  have h2 := depthAll_map l rq 1 fun q _ => by simp [rq, PyData.depth, PyData.depthAll]
  have e1 : (PyData.tuple (l.map rq)).canLay0 = true := by simp only [PyData.canLay0]; exact h1
  have e2 : (PyData.tuple (l.map rq)).depth ≤ 64 := by simp only [PyData.depth]; omega
  rw [e1, decide_eq_true e2]
  rfl
theorem eqvAll_rqs : ∀ l : List Rat, PyData.eqvAll (l.map rq) (l.map rq) = true
  | [] => by simp [PyData.eqvAll]
  | q :: l => by
    rw [List.map_cons]
    simp only [PyData.eqvAll]
    rw [eqv_rq, decide_eq_true rfl, eqvAll_rqs l]; rfl
theorem ne_rqs (l : List Rat) : neD (.tuple (l.map rq)) (.tuple (l.map rq)) = some (.d (.bool false)) := by
  show (if SeqAt.shaped (.tuple (l.map rq)) && SeqAt.shaped (.tuple (l.map rq)) then some (W.d (.bool (!PyData.eqv (.tuple (l.map rq)) (.tuple (l.map rq))))) else none) = _
  rw [shaped_rqs]
  simp only [PyData.eqv, eqvAll_rqs]
  rfl
theorem andV_t {rho : Den.Env} {m m1 m2 : Mem} {a b : EM W} {w : W} (h1 : a rho m = .ok (.d (.bool true)) m1) (h2 : b rho m1 = .ok w m2) : mAndV a b rho m = .ok w m2 := by
  rw [e_AndV, h1, ev_bindV]
  exact h2
theorem frz_step {i n : Nat} {x : D} {c : SM} {rho : Den.Env} {m : Mem} (hv : rho[i]? = some (some (.r n))) (hm : m[n]? = some (some x)) (h : Fine (c (rho.map (frzW n x)) (m.set n none))) : Fine (sFrz i c rho m) := by
  rw [frz_run hv hm]; exact h
theorem four_mem {m : Mem} (h : m.length = 4) : ∃ x y z w, m = [x, y, z, w] := by
  match m, h with
  | [x, y, z, w], _ => exact ⟨x, y, z, w, rfl⟩
theorem while_ex {t : EM Bool} {c : SM} {n : Nat} {rho r : Den.Env} {m m1 m' : Mem} {x : Exc} (h : t rho m = .ok true m1) (h2 : c rho m1 = .ex x r m') : whileN t c (n + 1) rho m = .ex x r m' := by
  show (t rho m).thenS rho _ = _
  rw [h]
  show (match c rho m1 with | .nx r m' => whileN t c n r m' | .ct r m' => whileN t c n r m' | .bk r m' => .nx r m' | o => o) = _
  rw [h2]
theorem for_ex {g : GM} {c : SM} {x : D} {xs : List D} {rho r1 r : Den.Env} {m m1 m' : Mem} {e : Exc} (h : g (.d x) rho m = some (r1, m1)) (h2 : c r1 m1 = .ex e r m') : forL g c (x :: xs) rho m = .ex e r m' := by
  show (match g (.d x) rho m with | some (r1, m1) => _ | none => _) = _
  rw [h]
  show (match c r1 m1 with | .nx r m' => forL g c xs r m' | .ct r m' => forL g c xs r m' | .bk r m' => .nx r m' | o => o) = _
  rw [h2]
theorem seq_ex {c d : SM} {rho r : Den.Env} {m m' : Mem} {x : Exc} (h : c rho m = .ex x r m') : sSeq c d rho m = .ex x r m' := by rw [e_Seq, h]
theorem run_ex {N : Nat} {c : SM} {ws : List W} {m m' : Mem} {x : Exc} {rho r : Den.Env} (h0 : startE N ws = rho) (h : c rho m = .ex x r m') (hl : m'.take m.length = m) : runF N c ws m = .ex x m := by
  unfold runF
  rw [h0, h]
  show Rs.ex x (m'.take m.length) = _
  rw [hl]
theorem callX {rho : Den.Env} {m m1 m2 m3 : Mem} {a b : EM W} {fm : List W → Mem → Rs W} {w1 w2 : W} {x : Exc} (h1 : a rho m = .ok w1 m1) (h2 : b rho m1 = .ok w2 m2) (h3 : fm [val w1, val w2] m2 = .ex x m3) : mCall 2 fm (mCons a (mCons b (mNil))) rho m = .ex x m3 := by
  rw [e_Call, cons_run h1 (cons_run h2 nil_run), ev_bind, if_pos (show [val w1, val w2].length = 2 from rfl), h3]
end Law
set_option exponentiation.threshold 10000
namespace Law
open PySem PySem.Spec PyProof.Rows L2 Den
/-- the draws that are left lie at n -/
def Dr (b n : Nat) (m : Mem) : Prop := ∃ ds : List Int, m[n]? = some (some (.list (ds.map .int))) ∧ (∀ d ∈ ds, 0 ≤ d ∧ d < 1000) ∧ ds.length ≤ b
theorem Dr.lt {b n : Nat} {m : Mem} (h : Dr b n m) : n < m.length := by
  obtain ⟨ds, h1, _⟩ := h
  exact (List.getElem?_eq_some_iff.mp h1).1
theorem next_ok {b n : Nat} {m : Mem} (h : Dr b n m) : ∃ (v : Int) (m' : Mem), F__law_next [.r n] m = .ok (.d (.int v)) m' ∧ 0 ≤ v ∧ v < 1000 ∧ Dr b n m' ∧ m'.length = m.length ∧ ∀ k, k ≠ n → m'[k]? = m[k]? := by
  obtain ⟨ds, h1, h2, h3⟩ := h
  obtain ⟨hn, _⟩ := List.getElem?_eq_some_iff.mp h1
  by_cases hd : ds = []
  · subst hd
    refine ⟨0, m, ?_, by omega, by omega, ⟨[], h1, h2, h3⟩, rfl, fun _ _ => rfl⟩
    simp [F__law_next, runF, m__law_next, startE, h1, fin]
  · obtain ⟨es, e, rfl⟩ : ∃ es e, ds = es ++ [e] := ⟨ds.dropLast, ds.getLast hd, (List.dropLast_concat_getLast hd).symm⟩
    have he := h2 e (by simp)
    refine ⟨e, m.set n (some (.list (es.map .int))), ?_, he.1, he.2, ⟨es, by rw [List.getElem?_set_self hn], fun d hd => h2 d (by simp [hd]), by simp at h3; omega⟩, by simp, fun k hk => List.getElem?_set_ne (Ne.symm hk)⟩
    have tk : (m.set n (some (.list (es.map .int)))).take m.length = m.set n (some (.list (es.map .int))) := List.take_of_length_le (by simp)
    simp [F__law_next, runF, m__law_next, startE, h1, fin, tk]
theorem number_ok {c : Int} {m : Mem} : F__law_number [.d (.int c)] m = .ok (.d (.int (c.natAbs : Int))) m := by
  by_cases h : c < 0
  · simp [F__law_number, runF, m__law_number, startE, fin, h]; omega
  · simp [F__law_number, runF, m__law_number, startE, fin, h]; omega
theorem pick_ok {b n : Nat} {m : Mem} {some_ : List D} (h : Dr b n m) (h0 : some_ ≠ []) : ∃ (x : D) (m' : Mem), F__law_pick [.r n, .d (.list some_)] m = .ok (.d x) m' ∧ x ∈ some_ ∧ Dr b n m' ∧ m'.length = m.length := by
  obtain ⟨v, m', e, v0, v1, d, l, _⟩ := next_ok h
  have hp : 0 < (some_.length : Int) := by
    cases some_ with
    | nil => exact absurd rfl h0
    | cons a r => rw [List.length_cons]; omega
  have r0 := Int.emod_nonneg v (Int.ne_of_gt hp)
  have r1 := Int.emod_lt_of_pos v hp
  have hi : (v % (some_.length : Int)).toNat < some_.length := by omega
  have ha : atI some_ (v % (some_.length : Int)) = some some_[(v % (some_.length : Int)).toNat] := by
    unfold atI ixN
    rw [if_pos r0, if_pos r1]
    exact List.getElem?_eq_getElem hi
  refine ⟨some_[(v % (some_.length : Int)).toNat], m', ?_, List.getElem_mem hi, d, l⟩
  have tk : m'.take m.length = m' := List.take_of_length_le (by omega)
  simp [F__law_pick, runF, m__law_pick, startE, fin, e, mod_pos hp, ha, tk]
theorem set_last (m : Mem) (x y : Option D) : (m ++ [x]).set m.length y = m ++ [y] := by
  rw [List.set_append_right _ _ (Nat.le_refl _), Nat.sub_self]; rfl
theorem get_last (m : Mem) (x : Option D) : (m ++ [x])[m.length]? = some x := by
  rw [List.getElem?_append_right (Nat.le_refl _), Nat.sub_self]; rfl
theorem more_ok {b n : Nat} {m : Mem} {k : Int} (h : Dr b n m) (hb : b ≤ 10000) (k0 : 0 ≤ k) (k1 : k ≤ 1000) : ∃ (es : List Int) (m' : Mem), F__law_more [.r n, .d (.int k)] m = .ok (.n (.list (es.map .int))) m' ∧ (∀ d ∈ es, 0 ≤ d ∧ d < 1000) ∧ es.length ≤ b + k.toNat ∧ m'.length = m.length := by
  obtain ⟨v1, m1, e1, a1, b1, d1, l1, _⟩ := next_ok h
  obtain ⟨v2, m2, e2, a2, b2, d2, l2, _⟩ := next_ok d1
  have hm : mulD (.int 1000) (.int v1) = some (.d (.int (1000 * v1))) := mul_small (by decide) (by omega)
  have hr : ∀ rho : Den.Env, rho[1]? = some (some (.d (.int k))) → ∀ m : Mem, mRange1 (mVar 1) rho m = .ok (rangeD 0 k) m := fun rho hrho m => range1_ok (by rw [e_Var, hrho]) k0 (by omega)
  have hn2 := d2.lt
  obtain ⟨r, m', f1, es, f2, f3, f4, f5, seed, f6⟩ := for_inv (g := gN 4) (c := sSeq (sSet 2 (mMod (mB (mCons (mAdd (mMul (mVar 2) (mC (.int 48271))) (mC (.int 12345))) (mNil)) (fD1 intD)) (mC (.int 2147483647)))) (sSeq (sDrop (mM .lst (mVar 3) (mCons (mMod (mB (mCons (mFdiv (mVar 2) (mC (.int 7))) (mNil)) (fD1 intD)) (mC (.int 1000))) (mNil)) fAppend)) (sSkip)))
    (rho := [some (.r n), some (.d (.int k)), some (.d (.int (1000 * v1 + v2 + 1))), some (.r m2.length), none]) (m := m2 ++ [some (.list [])]) (rangeD 0 k)
    (fun i rho m => ∃ es : List Int, m = m2 ++ [some (.list (es.map .int))] ∧ (∀ d ∈ es, 0 ≤ d ∧ d < 1000) ∧ es.length ≤ i ∧ rho.length = 5 ∧ ∃ seed : Int, (rho[0]? = some (some (.r n)) ∧ rho[1]? = some (some (.d (.int k))) ∧ rho[2]? = some (some (.d (.int seed))) ∧ rho[3]? = some (some (.r m2.length))) ∧ 0 ≤ seed ∧ seed < 2 ^ 40)
    (by refine ⟨[], rfl, by simp, Nat.le_refl _, rfl, 1000 * v1 + v2 + 1, ⟨rfl, rfl, rfl, rfl⟩, by omega, by omega⟩) (fun i hi rho m hI => by
      obtain ⟨es, rfl, q2, q3, q4, seed, ⟨z0, z1, z2, z3⟩, q6, q7⟩ := hI
      refine ⟨_, _, rfl, ?_⟩
      rw [range_len] at hi
      match rho, q4, z0, z1, z2, z3 with
      | [w0, w1, w2, w3, w4], _, z0, z1, z2, z3 =>
        simp only [List.getElem?_cons_zero, List.getElem?_cons_succ, Option.some.injEq] at z0 z1 z2 z3
        subst z0 z1 z2 z3
        have hm2 : mulD (.int seed) (.int 48271) = some (.d (.int (seed * 48271))) := mul_small (by omega) (by decide)
        have hs : small (es.length + 1) = true := small_le (by omega)
        refine ⟨[some (.r n), some (.d (.int k)), some (.d (.int ((seed * 48271 + 12345) % 2147483647))), some (.r m2.length), some (.d (rangeD 0 k)[i])], m2 ++ [some (.list ((es ++ [(seed * 48271 + 12345) % 2147483647 / 7 % 1000]).map .int))], ?_, es ++ [(seed * 48271 + 12345) % 2147483647 / 7 % 1000], rfl, ?_, ?_, ?_, (seed * 48271 + 12345) % 2147483647, ⟨rfl, rfl, rfl, rfl⟩, ?_, ?_⟩
        · simp [hm2, hs, set_last, get_last]
        · intro d hd
          rcases List.mem_append.mp hd with hd | hd
          · exact q2 d hd
          · rw [List.mem_singleton] at hd; omega
        · rw [List.length_append]; simp; omega
        · rfl
        · omega
        · omega)
  obtain ⟨ds, g1, g2, g3⟩ := d2
  subst f2
  match r, f5, f6 with
  | [w0, w1, w2, w3, w4], _, ⟨⟨z0, z1, z2, z3⟩, f7, f8⟩ =>
    simp only [List.getElem?_cons_zero, List.getElem?_cons_succ, Option.some.injEq] at z0 z1 z2 z3
    subst z0 z1 z2 z3
    have g1' : (m2 ++ [some (.list (es.map .int))])[n]? = some (some (.list (ds.map .int))) := by rw [List.getElem?_append_left hn2]; exact g1
    rw [range_len] at f4
    have hs : small (es.length + ds.length) = true := small_le (by omega)
    refine ⟨es ++ ds, m2, ?_, ?_, ?_, by omega⟩
    · have tk : (m2 ++ [some (PyData.list (es.map .int))] : Mem).take m.length = m2 := by
        rw [List.take_append_of_le_length (by omega), List.take_of_length_le (by omega)]
      unfold F__law_more runF m__law_more startE
      simp [e1, e2, hm, hr, f1, g1', get_last, hs, fin, tk]
    · intro d hd
      rcases List.mem_append.mp hd with hd | hd
      · exact f3 d hd
      · exact g2 d hd
    · rw [List.length_append]; omega
theorem draws_in (x0 x2 x4 x5 x6 : Option W) (rest : Int) (ds : List Int) (h0 : 0 ≤ rest) (hd : ∀ d ∈ ds, 0 ≤ d ∧ d < 1000) (hlen : ds.length ≤ 3720) : ∃ (rho' : Den.Env) (m' : Mem), forL (gN 4) (sSeq (sIf (mBool (mOp2 (mVar 3) (mC (.int 0)) (lift2 eqD))) (sSeq (sBreak) (sSkip)) (sSkip)) (sSeq (sDrop (mM .lst (mVar 1) (mCons (mMod (mB (mCons (mVar 3) (mNil)) (fD1 intD)) (mC (.int 1000))) (mNil)) fAppend)) (sSeq (sSet 3 (mFdiv (mVar 3) (mC (.int 1000)))) (sSkip)))) (rangeD 0 60)
      [x0, some (.r 0), x2, some (.d (.int rest)), x4, x5, x6] [some (.list (ds.map .int))] = .nx rho' m' ∧ ∃ (es : List Int) (y2 y3 y4 y5 y6 : Option W), rho' = [x0, some (.r 0), y2, y3, y4, y5, y6] ∧ m' = [some (.list (es.map .int))] ∧ (∀ d ∈ es, 0 ≤ d ∧ d < 1000) ∧ es.length ≤ ds.length + 60 := by
  obtain ⟨r, m', e, hI⟩ := forL_inv (g := gN 4) (c := sSeq (sIf (mBool (mOp2 (mVar 3) (mC (.int 0)) (lift2 eqD))) (sSeq (sBreak) (sSkip)) (sSkip)) (sSeq (sDrop (mM .lst (mVar 1) (mCons (mMod (mB (mCons (mVar 3) (mNil)) (fD1 intD)) (mC (.int 1000))) (mNil)) fAppend)) (sSeq (sSet 3 (mFdiv (mVar 3) (mC (.int 1000)))) (sSkip))))
    (fun i rho m => ∃ (rest : Int) (es : List Int) (y4 : Option W), rho = [x0, some (.r 0), x2, some (.d (.int rest)), y4, x5, x6] ∧ 0 ≤ rest ∧ m = [some (.list (es.map .int))] ∧ (∀ d ∈ es, 0 ≤ d ∧ d < 1000) ∧ es.length ≤ ds.length + i)
    (fun rho m => ∃ (es : List Int) (y2 y3 y4 y5 y6 : Option W), rho = [x0, some (.r 0), y2, y3, y4, y5, y6] ∧ m = [some (.list (es.map .int))] ∧ (∀ d ∈ es, 0 ≤ d ∧ d < 1000) ∧ es.length ≤ ds.length + 60)
    (rangeD 0 60) 0 [x0, some (.r 0), x2, some (.d (.int rest)), x4, x5, x6] [some (.list (ds.map .int))] ⟨rest, ds, x4, rfl, h0, rfl, hd, Nat.le_refl _⟩ (fun i hi rho m hI => by
      obtain ⟨rest, es, y4, rfl, q1, rfl, q2, q3⟩ := hI
      have hi2 : i < 60 := by simpa using hi
      refine ⟨_, _, rfl, ?_⟩
      generalize (rangeD 0 60)[i] = xi
      by_cases hz : rest = 0
      · refine .inr (.inr ⟨[x0, some (.r 0), x2, some (.d (.int rest)), some (.d xi), x5, x6], [some (.list (es.map .int))], ?_, es, x2, some (.d (.int rest)), some (.d xi), x5, x6, rfl, rfl, q2, by omega⟩)
        simp [hz]
      · refine .inl ⟨[x0, some (.r 0), x2, some (.d (.int (rest / 1000))), some (.d xi), x5, x6], [some (.list ((es ++ [rest % 1000]).map .int))], ?_, rest / 1000, es ++ [rest % 1000], _, rfl, by omega, rfl, ?_, by rw [List.length_append]; simp; omega⟩
        · have hs : small (es.length + 1) = true := small_le (by omega)
          simp [hz, hs]
        · intro d hd
          rcases List.mem_append.mp hd with hd | hd
          · exact q2 d hd
          · rw [List.mem_singleton] at hd; omega)
  rcases hI with ⟨rest', es, y4, rfl, _, rfl, q2, q3⟩ | hJ
  · rw [range_len] at q3
    exact ⟨_, _, e, es, x2, _, y4, x5, x6, rfl, rfl, q2, by omega⟩
  · exact ⟨_, _, e, hJ⟩
theorem draws_ok (ns : List Int) (hl : ns.length ≤ 63) : ∃ es : List Int, F__law_draws [.s (ns.map .int)] [] = .ok (.n (.list (es.map .int))) [] ∧ (∀ d ∈ es, 0 ≤ d ∧ d < 1000) ∧ es.length ≤ 3780 := by
  have hr : ∀ rho m, mRange1 (mC (.int 60)) rho m = .ok (rangeD 0 60) m := fun rho m => range1_ok rfl (by decide) (by decide)
  obtain ⟨r, m', e, es, y2, y3, y4, y5, y6, rfl, rfl, q2, q3⟩ := for_inv (g := gN 2) (c := sSeq (sSet 3 (mCall 1 F__law_number (mCons (mVar 2) (mNil)))) (sSeq (sIf (mBool (mOp2 (mVar 3) (mC (.int 1000000000000000000)) (lift2 geD))) (sSeq (sFor (mRange1 (mC (.int 60))) (gN 4) (sSeq (sIf (mBool (mOp2 (mVar 3) (mC (.int 0)) (lift2 eqD))) (sSeq (sBreak) (sSkip)) (sSkip)) (sSeq (sDrop (mM .lst (mVar 1) (mCons (mMod (mB (mCons (mVar 3) (mNil)) (fD1 intD)) (mC (.int 1000))) (mNil)) fAppend)) (sSeq (sSet 3 (mFdiv (mVar 3) (mC (.int 1000)))) (sSkip))))) (sSkip)) (sSeq (sSet 5 (mMod (mB (mCons (mAdd (mMul (mVar 3) (mC (.int 48271))) (mC (.int 11))) (mNil)) (fD1 intD)) (mC (.int 2147483647)))) (sSeq (sSet 6 (mMod (mB (mCons (mAdd (mMul (mVar 5) (mC (.int 69621))) (mVar 3)) (mNil)) (fD1 intD)) (mC (.int 2147483629)))) (sSeq (sDrop (mM .lst (mVar 1) (mCons (mLst (mCons (mMod (mB (mCons (mVar 3) (mNil)) (fD1 intD)) (mC (.int 1000))) (mCons (mMod (mB (mCons (mVar 5) (mNil)) (fD1 intD)) (mC (.int 1000))) (mCons (mMod (mB (mCons (mVar 6) (mNil)) (fD1 intD)) (mC (.int 1000))) (mNil))))) (mNil)) fExtend)) (sSkip))))) (sSkip)))
    (rho := [some (.s (ns.map .int)), some (.r 0), none, none, none, none, none]) (m := [some (.list [])]) (ns.map .int)
    (fun i rho m => ∃ (es : List Int) (y2 y3 y4 y5 y6 : Option W), rho = [some (.s (ns.map .int)), some (.r 0), y2, y3, y4, y5, y6] ∧ m = [some (.list (es.map .int))] ∧ (∀ d ∈ es, 0 ≤ d ∧ d < 1000) ∧ es.length ≤ 60 * i)
    ⟨[], none, none, none, none, none, rfl, rfl, by simp, Nat.le_refl _⟩ (fun i hi rho m hI => by
      obtain ⟨es, y2, y3, y4, y5, y6, rfl, rfl, q2, q3⟩ := hI
      have hi' : i < ns.length := by simpa using hi
      have hcell : (ns.map PyData.int)[i] = .int ns[i] := by simp
      rw [hcell]
      refine ⟨_, _, rfl, ?_⟩
      by_cases hb : (1000000000000000000 : Int) ≤ (ns[i].natAbs : Int)
      · obtain ⟨rho', m', e1, es1, z2, z3, z4, z5, z6, rfl, rfl, w2, w3⟩ := draws_in (some (.s (ns.map .int))) (some (.d (.int ns[i]))) y4 y5 y6 (ns[i].natAbs : Int) es (by omega) q2 (by omega)
        exact ⟨[some (.s (ns.map .int)), some (.r 0), z2, z3, z4, z5, z6], [some (.list (es1.map .int))], by simp [number_ok, hb, hr, e1], es1, z2, z3, z4, z5, z6, rfl, rfl, w2, by omega⟩
      · generalize hR : (ns[i].natAbs : Int) = R at hb
        have r0 : 0 ≤ R := by omega
        have r1 : R < 1000000000000000000 := by omega
        have m1 : mulD (.int R) (.int 48271) = some (.d (.int (R * 48271))) := mul_small (by omega) (by decide)
        generalize hO : (R * 48271 + 11) % 2147483647 = O
        have o0 : 0 ≤ O ∧ O < 2147483647 := by omega
        have m2 : mulD (.int O) (.int 69621) = some (.d (.int (O * 69621))) := mul_small (by omega) (by decide)
        have hs : small (es.length + 3) = true := small_le (by omega)
        refine ⟨[some (.s (ns.map .int)), some (.r 0), some (.d (.int ns[i])), some (.d (.int R)), y4, some (.d (.int O)), some (.d (.int ((O * 69621 + R) % 2147483629)))], [some (.list ((es ++ [R % 1000, O % 1000, (O * 69621 + R) % 2147483629 % 1000]).map .int))], ?_, es ++ [R % 1000, O % 1000, (O * 69621 + R) % 2147483629 % 1000], _, _, _, _, _, rfl, rfl, ?_, by rw [List.length_append]; simp; omega⟩
        · simp [number_ok, hR, hb, m1, hO, m2, hs]
        · intro d hd
          rcases List.mem_append.mp hd with hd | hd
          · exact q2 d hd
          · simp at hd; omega)
  rw [ints_len] at q3
  refine ⟨es.reverse, ?_, fun d hd => q2 d (List.mem_reverse.mp hd), by rw [List.length_reverse]; omega⟩
  unfold F__law_draws runF m__law_draws startE
  simp [e, fin]
section
variable {n b : Nat} {m : Mem}
theorem drw_ok {k : Nat} {rho : Den.Env} (h : Dr b n m) (hv : rho[k]? = some (some (.r n))) : ∃ (v : Int) (m' : Mem), mB (mCons (mCall 1 F__law_next (mCons (mVar k) (mNil))) (mNil)) (fD1 intD) rho m = .ok (.d (.int v)) m' ∧ 0 ≤ v ∧ v < 1000 ∧ Dr b n m' ∧ m'.length = m.length := by
  obtain ⟨v, m', e, h0, h1, d, l, _⟩ := next_ok h
  exact ⟨v, m', b_run (cons_run (call_run (cons_run (var_run hv) nil_run) rfl e) nil_run) rfl, h0, h1, d, l⟩
theorem pk_ok {k : Nat} {rho : Den.Env} {c : EM (List W)} {xs : List D} (h : Dr b n m) (hv : rho[k]? = some (some (.r n))) (hl : mLst c rho m = .ok (.n (.list xs)) m) (h0 : xs ≠ []) : ∃ (x : D) (m' : Mem), mCall 2 F__law_pick (mCons (mVar k) (mCons (mLst c) (mNil))) rho m = .ok (.d x) m' ∧ x ∈ xs ∧ Dr b n m' ∧ m'.length = m.length := by
  obtain ⟨x, m', e, hx, d, l⟩ := pick_ok h h0
  exact ⟨x, m', call2_run (var_run hv) hl e, hx, d, l⟩
theorem draw1 {k : Nat} {c : Int} (hc : 0 < c) {rho : Den.Env} (h : Dr b n m) (hv : rho[k]? = some (some (.r n))) : ∃ (v : Nat) (m' : Mem), mAdd (mC (.int 1)) (mMod (mB (mCons (mCall 1 F__law_next (mCons (mVar k) (mNil))) (mNil)) (fD1 intD)) (mC (.int c))) rho m = .ok (.d (nD v)) m' ∧ 1 ≤ v ∧ (v : Int) ≤ c ∧ Dr b n m' ∧ m'.length = m.length := by
  obtain ⟨v1, m1, e1, _, _, d1, l1⟩ := drw_ok (k := k) (rho := rho) h hv
  have r1 := mod_rng v1 c hc
  have t1 := add_run (a := mC (.int 1)) (w := .d (.int 1)) const_run (mod_run e1 (c := mC (.int c)) (j := c) const_run hc) (x := .d (.int (1 + v1 % c))) rfl
  refine ⟨(1 + v1 % c).toNat, m1, ?_, by omega, by omega, d1, l1⟩
  rw [t1]
  show _ = Rs.ok (W.d (.int (((1 + v1 % c).toNat : Nat) : Int))) m1
  rw [show (((1 + v1 % c).toNat : Nat) : Int) = 1 + v1 % c by omega]
end
theorem Dr.app {b n : Nat} {m js : Mem} (h : Dr b n m) : Dr b n (m ++ js) := by
  obtain ⟨ds, h1, h2⟩ := h
  obtain ⟨hn, _⟩ := List.getElem?_eq_some_iff.mp h1
  exact ⟨ds, by rw [List.getElem?_append_left hn]; exact h1, h2⟩
end Law
set_option exponentiation.threshold 10000
namespace Law
open PySem PySem.Spec PyProof.Rows L2 Den
/-! EV: an executor. «array_get_dec» runs expressions, «array_mem_dec» runs statements; what they cannot close is left.
  Results are told by metavariables: c rho m = .ok ?w ?m1, c rho m = .nx ?r ?m1. -/
section
variable {rho rho' : Den.Env} {m m0 m1 m2 m3 : Mem} {a b c e : EM W} {r : EM (List W)} {w w1 w2 w3 x y : W} {ws : List W} {n i j : Nat} {fm : List W → Mem → Rs W} {g : GM} {d d' : SM} {t u : EM Bool}
theorem x_call (h1 : r rho m = .ok ws m1) (h2 : fm ws m1 = .ok w m2) (hl : ws.length = n) : mCall n fm r rho m = .ok w m2 := call_run h1 hl h2
theorem x_bool {k : Bool} (h : a rho m = .ok (.d (.bool k)) m1) : mBool a rho m = .ok k m1 := bool_run h
theorem x_tru {k : Bool} (h : a rho m = .ok w m1) (h2 : truW (val w) m1 = .ok k m1) : mTru a rho m = .ok k m1 := tru_run h h2
theorem x_notT {k : Bool} (h : t rho m = .ok k m1) : mNotT t rho m = .ok (!k) m1 := not_run h
theorem x_andT {p q : Bool} (h1 : t rho m = .ok p m1) (h2 : p = true → u rho m1 = .ok q m1) : mAndT t u rho m = .ok (p && q) m1 := by
  rw [e_AndT, h1, ev_bind]
  cases p with
  | false => rfl
  | true => rw [if_pos rfl, h2 rfl]; rfl
theorem x_orT {p q : Bool} (h1 : t rho m = .ok p m1) (h2 : p = false → u rho m1 = .ok q m1) : mOrT t u rho m = .ok (p || q) m1 := by
  rw [e_OrT, h1, ev_bind]
  cases p with
  | true => rfl
  | false => rw [if_neg Bool.false_ne_true, h2 rfl]; rfl
theorem x_andV {p q : Bool} (h1 : a rho m = .ok (.d (.bool p)) m1) (h2 : p = true → b rho m1 = .ok (.d (.bool q)) m1) : mAndV a b rho m = .ok (.d (.bool (p && q))) m1 := by
  rw [e_AndV, h1, ev_bindV]
  cases p with
  | false => rfl
  | true => rw [val_d, tru_d]; exact h2 rfl
theorem x_orV {p q : Bool} (h1 : a rho m = .ok (.d (.bool p)) m1) (h2 : p = false → b rho m1 = .ok (.d (.bool q)) m1) : mOrV a b rho m = .ok (.d (.bool (p || q))) m1 := by
  rw [e_OrV, h1, ev_bindV]
  cases p with
  | true => rfl
  | false => rw [val_d, tru_d]; exact h2 rfl
theorem x_notV {p : Bool} (h1 : a rho m = .ok w m1) (h2 : truW (val w) m1 = .ok p m1) : mNotV a rho m = .ok (.d (.bool (!p))) m1 := by
  rw [e_NotV, h1, ev_bindV, h2]; rfl
theorem x_if {k : Bool} {x y : D} (h : t rho m = .ok k m1) (h1 : k = true → a rho m1 = .ok (.d x) m1) (h2 : k = false → b rho m1 = .ok (.d y) m1) : mIf t a b rho m = .ok (.d (if k = true then x else y)) m1 := by
  rw [e_If, h, ev_bind]
  cases k with
  | true => rw [if_pos rfl, if_pos rfl, h1 rfl]
  | false => rw [if_neg Bool.false_ne_true, if_neg Bool.false_ne_true, h2 rfl]
theorem x_chain {f g : W → W → Mem → Rs W} {p q : Bool} (h1 : a rho m = .ok w1 m) (h2 : b rho m = .ok w2 m) (hf : f (val w1) (val w2) m = .ok (.d (.bool p)) m) (h3 : c rho m = .ok w3 m) (hg : g (val w2) (val w3) m = .ok (.d (.bool q)) m) : mChain f g a b c rho m = .ok (.d (.bool (p && q))) m := chain_run h1 h2 h3 hf hg
theorem x_chain3 {f g h : W → W → Mem → Rs W} {w4 : W} {p q s : Bool} (h1 : a rho m = .ok w1 m) (h2 : b rho m = .ok w2 m) (hf : f (val w1) (val w2) m = .ok (.d (.bool p)) m) (h3 : c rho m = .ok w3 m) (hg : g (val w2) (val w3) m = .ok (.d (.bool q)) m) (h4 : e rho m = .ok w4 m) (hh : h (val w3) (val w4) m = .ok (.d (.bool s)) m) : mChain3 f g h a b c e rho m = .ok (.d (.bool (p && (q && s)))) m := by
  unfold mChain3
  rw [h1, ev_bindV, h2, ev_bindV, hf, ev_bindV]
  cases p with
  | false => rfl
  | true =>
    show (c rho m).bindV _ = _
    rw [h3, ev_bindV, hg, ev_bindV]
    cases q with
    | false => rfl
    | true =>
      show (e rho m).bindV _ = _
      rw [h4, ev_bindV, hh]; rfl
theorem x_lc {it : EM (List D)} {vs : List Nat} {α : Type} {l : List α} {F f : α → D} {R1 : α → Den.Env} {wv : α → W} (hit : it rho m = .ok (l.map F) m0) (hs : l.length ≤ 1000000) (hg : ∀ x ∈ l, g (.d (F x)) (wipeE rho vs) m0 = some (R1 x, m0)) (ha : ∀ x ∈ l, a (R1 x) m0 = .ok (wv x) m0) (hw : ∀ x ∈ l, frz m0 (val (wv x)) = some (f x, m0)) :
    mLC it vs g tYesT a rho m = .ok (.n (.list (l.map f))) m0 := mLC_all l F f hit hs fun x hx => ⟨R1 x, hg x hx, rfl, wv x, ha x hx, hw x hx⟩
theorem x_lcF {it : EM (List D)} {vs : List Nat} {α : Type} {l : List α} {F f : α → D} {p : α → Bool} {R1 : α → Den.Env} {wv : α → W} (hit : it rho m = .ok (l.map F) m0) (hs : l.length ≤ 1000000) (hg : ∀ x ∈ l, g (.d (F x)) (wipeE rho vs) m0 = some (R1 x, m0)) (ht : ∀ x ∈ l, t (R1 x) m0 = .ok (p x) m0) (ha : ∀ x ∈ l, p x = true → a (R1 x) m0 = .ok (wv x) m0) (hw : ∀ x ∈ l, frz m0 (val (wv x)) = some (f x, m0)) :
    mLC it vs g t a rho m = .ok (.n (.list ((l.filter p).map f))) m0 := mLC_of l F p f hit hs fun x hx => ⟨R1 x, hg x hx, ht x hx, fun hp => ⟨wv x, ha x hx hp, hw x hx⟩⟩
theorem x_items {z : D} {xs : List D} (h : a rho m = .ok w m1) (h2 : val w = .d z) (h3 : seqOf z = some xs) : mItems a rho m = .ok xs m1 := by
  rw [e_Items, h, ev_bindV, h2]
  show (match seqOf z with | some ds => Rs.ok ds m1 | none => .no) = _
  rw [h3]
theorem zip_maps {α β : Type} {f : α → D} {g : β → D} : ∀ (l : List α) (k : List β), ((l.map f).zip (k.map g)).map (fun p : D × D => PyData.tuple [p.1, p.2]) = (l.zip k).map fun p : α × β => PyData.tuple [f p.1, g p.2]
  | [], _ => rfl
  | _ :: _, [] => rfl
  | x :: l, y :: k => by rw [List.map_cons, List.map_cons, List.zip_cons_cons, List.map_cons, zip_maps l k]; rfl
theorem x_zipB {α β : Type} {f : α → D} {g : β → D} {l : List α} {k : List β} {z1 z2 : D} (h1 : a rho m = .ok w1 m1) (h2 : b rho m1 = .ok w2 m2) (e1 : val w1 = .d z1) (e2 : val w2 = .d z2) (s1 : seqOf z1 = some (l.map f)) (s2 : seqOf z2 = some (k.map g)) : mZipB a b rho m = .ok ((l.zip k).map fun p : α × β => PyData.tuple [f p.1, g p.2]) m2 := by
  unfold mZipB
  rw [e_Cons, h1, ev_bindV, e_Cons, h2, ev_bindV, e_Nil, ev_bind, ev_bind, ev_bind, e1, e2]
  show (match seqOf z1, seqOf z2 with | some xs, some ys => Rs.ok ((xs.zip ys).map fun p : D × D => PyData.tuple [p.1, p.2]) m2 | _, _ => .no) = _
  rw [s1, s2, ← zip_maps]
theorem enum_map {α : Type} {f : α → D} (l : List α) : enumL (l.map f) = l.zipIdx.map fun p : α × Nat => PyData.tuple [nD p.2, f p.1] := by
  unfold enumL
  rw [List.zipIdx_map, List.map_map]
  rfl
theorem x_enum {α : Type} {f : α → D} {l : List α} {z1 : D} (h1 : a rho m = .ok w1 m1) (e1 : val w1 = .d z1) (s1 : seqOf z1 = some (l.map f)) : mEnum a rho m = .ok (l.zipIdx.map fun p : α × Nat => PyData.tuple [nD p.2, f p.1]) m1 := by
  unfold mEnum
  rw [e_Cons, h1, ev_bindV, e_Nil, ev_bind, ev_bind, e1]
  show (match seqOf z1 with | some xs => Rs.ok (enumL xs) m1 | none => .no) = _
  rw [s1, ← enum_map]
theorem x_range {i : Int} (h : a rho m = .ok (.d (.int i)) m1) (h0 : 0 ≤ i) (h1 : i ≤ 1000000) : mRange1 a rho m = .ok ((List.range i.toNat).map fun k : Nat => nD k) m1 := by
  have e : i = ((i.toNat : Nat) : Int) := by omega
  rw [e] at h
  exact range1_mm h (by omega)
theorem range_cast {n : Nat} : (List.range ((n : Int)).toNat) = List.range n := by rw [Int.toNat_natCast]
theorem x_rangeN {n : Nat} (h : a rho m = .ok (.d (.int (n : Int))) m1) (h1 : n ≤ 1000000) : mRange1 a rho m = .ok ((List.range n).map fun k : Nat => nD k) m1 := range1_mm h h1
theorem x_mul {i j : Int} (h1 : a rho m = .ok (.d (.int i)) m1) (h2 : b rho m1 = .ok (.d (.int j)) m2) (hi : i.natAbs < 2 ^ 100) (hj : j.natAbs < 2 ^ 100) : mMul a b rho m = .ok (.d (.int (i * j))) m2 := mul_run h1 h2 (lift2_run rfl rfl (mul_small hi hj))
theorem x_mod {i j : Int} (h1 : a rho m = .ok (.d (.int i)) m1) (h2 : b rho m1 = .ok (.d (.int j)) m2) (hj : 0 < j) : mMod a b rho m = .ok (.d (.int (i % j))) m2 := mod_run h1 h2 hj
theorem x_sub {i j : Int} (h1 : a rho m = .ok (.d (.int i)) m1) (h2 : b rho m1 = .ok (.d (.int j)) m2) : mSub a b rho m = .ok (.d (.int (i - j))) m2 := by
  show (a rho m).bindV _ = _
  rw [h1, ev_bindV, h2, ev_bindV]; rfl
theorem x_neg {i : Int} (h1 : a rho m = .ok (.d (.int i)) m1) : mNeg a rho m = .ok (.d (.int (-i))) m1 := by
  show (a rho m).bindV _ = _
  rw [h1, ev_bindV]; rfl
theorem wipe_ne {vs : List Nat} {i : Nat} {rho : Den.Env} (h : i ∉ vs) : (wipeE rho vs)[i]? = rho[i]? := by
  induction vs with
  | nil => rfl
  | cons v vs ih =>
    rw [wipe_cons, List.getElem?_set_ne (fun e => h (by rw [e]; exact List.mem_cons_self)), ih fun z => h (List.mem_cons_of_mem _ z)]
theorem wipe_len {vs : List Nat} {rho : Den.Env} : (wipeE rho vs).length = rho.length := by
  induction vs with
  | nil => rfl
  | cons v vs ih => rw [wipe_cons, List.length_set, ih]
theorem x_fun {N : Nat} {c : SM} {ws : List W} {x y : D} {rho : Den.Env} (h0 : startE N ws = rho) (h : c rho m = .rt (.d y) m1) (e : y = x) (hl : m1.take m.length = m) : runF N c ws m = .ok (.d x) m := by subst e; exact run_dt h0 h hl
theorem x_funN {N : Nat} {c : SM} {ws : List W} {x y : D} {rho : Den.Env} (h0 : startE N ws = rho) (h : c rho m = .rt (.n y) m1) (e : y = x) (hl : m1.take m.length = m) : runF N c ws m = .ok (.n x) m := by
  subst e
  unfold runF
  rw [h0, h]
  show Rs.ok (W.n y) (m1.take m.length) = _
  rw [hl]
theorem x_funE {N : Nat} {c : SM} {ws : List W} {x : Exc} {rho r : Den.Env} (h0 : startE N ws = rho) (h : c rho m = .ex x r m1) (hl : m1.take m.length = m) : runF N c ws m = .ex x m := run_ex h0 h hl
/-- a def that ends without a return -/
theorem x_fun0 {N : Nat} {c : SM} {ws : List W} {rho r : Den.Env} (h0 : startE N ws = rho) (h : c rho m = .nx r m1) (hl : m1.take m.length = m) : runF N c ws m = .ok (.d .none) m := by
  unfold runF
  rw [h0, h]
  show Rs.ok (W.d .none) (m1.take m.length) = _
  rw [hl]
theorem take_len : m.take m.length = m := List.take_length
theorem take_app {k : Mem} : (m ++ k).take m.length = m := by rw [List.take_append_of_le_length (Nat.le_refl _), List.take_length]
/-- another name for what is found -/
theorem x_to {β : Type} {v v' : β} {c : EM β} (h : c rho m = .ok v m1) (e : v = v') : c rho m = .ok v' m1 := by rw [h, e]
theorem x_D1 {f : D → Option D} {x y : D} (h : peek m w = some x) (h2 : f x = some y) : fD1 f [w] m = .ok (.d y) m := by rw [f_D1, h]; dsimp only; rw [h2]
theorem x_tup {z : D} {xs : List D} (h : peek m w = some z) (h2 : seqOf z = some xs) : fTup [w] m = .ok (.d (.tuple xs)) m := by
  rw [f_Tup, h]
  cases z with
  | list ds => cases h2; rfl
  | tuple ds => cases h2; rfl
  | _ => cases h2
theorem all_map {α : Type} {l : List α} {f : α → Bool} : allD (.list (l.map fun x => .bool (f x))) = some (.bool (l.all f)) := all_eq l f
theorem any_map {α : Type} {l : List α} {f : α → Bool} : anyD (.list (l.map fun x => .bool (f x))) = some (.bool (l.any f)) := by
  have e : l.map (fun x => PyData.bool (f x)) = (l.map f).map PyData.bool := by rw [List.map_map]; rfl
  rw [e, any_bools, List.any_map]; rfl
theorem sum_map {α : Type} {l : List α} {f : α → Int} : sumD (.list (l.map fun x => .int (f x))) = some (.int (l.map f).sum) := by
  have e : l.map (fun x => PyData.int (f x)) = (l.map f).map PyData.int := by rw [List.map_map]; rfl
  rw [e, sumD_ints]
theorem set_ne' {v : Option W} (h : i ≠ j) (k : rho[j]? = some (some w)) : (rho.set i v)[j]? = some (some w) := by rw [List.getElem?_set_ne h]; exact k
theorem wipe_ne' {vs : List Nat} (h : i ∉ vs) (k : rho[i]? = some (some w)) : (wipeE rho vs)[i]? = some (some w) := by rw [wipe_ne h]; exact k
theorem set_self' (h : i < rho.length) : (rho.set i (some w))[i]? = some (some w) := List.getElem?_set_self h
theorem set_eq' {w' : W} (h : i < rho.length) (e : w = w') : (rho.set i (some w))[i]? = some (some w') := by rw [← e]; exact List.getElem?_set_self h
-- slices of tuples of maps
theorem x_slFrom {α : Type} {f : α → D} {l : List α} {k : Nat} (h : a rho m = .ok (.d (.tuple (l.map f))) m) (h2 : b rho m = .ok (.d (.int (k : Int))) m) : mSl a (oSome b) oNone rho m = .ok (.d (.tuple ((l.drop k).map f))) m := by
  rw [sl_from h h2, List.map_drop]
theorem x_slTo {α : Type} {f : α → D} {l : List α} {k : Nat} (h : a rho m = .ok (.d (.tuple (l.map f))) m) (h2 : b rho m = .ok (.d (.int (k : Int))) m) : mSl a oNone (oSome b) rho m = .ok (.d (.tuple ((l.take k).map f))) m := by
  rw [sl_to h h2, List.map_take]
theorem lit1 : (1 : Int) = ((1 : Nat) : Int) := rfl
theorem at_mapG {α : Type} {f : α → D} {l : List α} {k : Nat} {x : α} (h : l[k]? = some x) : atI (l.map f) (k : Int) = some (f x) := by
  have hk : k < l.length := (List.getElem?_eq_some_iff.mp h).1
  unfold atI ixN
  rw [if_pos (by omega), if_pos (by rw [List.length_map]; omega)]
  show (l.map f)[((k : Int)).toNat]? = _
  rw [Int.toNat_natCast, List.getElem?_map, h]; rfl
theorem x_ixT {α : Type} {f : α → D} {l : List α} {k : Nat} {x : α} (h : l[k]? = some x) : fIx (.d (.tuple (l.map f))) (.d (.int (k : Int))) m = .ok (.d (f x)) m := by
  rw [f_Ix, peek_d, peek_d]; dsimp only; rw [ix_t, at_mapG h]
theorem x_ixL {α : Type} {f : α → D} {l : List α} {k : Nat} {x : α} (h : l[k]? = some x) : fIx (.d (.list (l.map f))) (.d (.int (k : Int))) m = .ok (.d (f x)) m := by
  rw [f_Ix, peek_d, peek_d]; dsimp only; rw [ix_l, at_mapG h]
theorem x_ixR {α : Type} {f : α → D} {l : List α} {k h0 : Nat} {x : α} (hm : m[h0]? = some (some (.list (l.map f)))) (h : l[k]? = some x) : fIx (.r h0) (.d (.int (k : Int))) m = .ok (.d (f x)) m := by
  rw [f_Ix, peek_r, hm, peek_d]; show (match ixD (.list (l.map f)) (.int (k : Int)) with | some z => Rs.ok (W.d z) m | none => .no) = _; rw [ix_l, at_mapG h]
theorem rg_get {n k : Nat} (h : k < n) : (List.range n)[k]? = some k := by rw [List.getElem?_range h]
-- statements
theorem s_seq {o : Out} (h : d rho m = .nx rho' m1) (h2 : d' rho' m1 = o) : sSeq d d' rho m = o := by rw [seq_run h, h2]
theorem s_ret (h : a rho m = .ok w m1) : sSeq (sRet a) d rho m = .rt w m1 := ret_run h
theorem s_if_t {k : Bool} {o : Out} (h : t rho m = .ok k m1) (hk : k = true) (h2 : d rho m1 = o) : sIf t d d' rho m = o := by subst hk; rw [if_yes h, h2]
theorem s_if_f {k : Bool} {o : Out} (h : t rho m = .ok k m1) (hk : k = false) (h2 : d' rho m1 = o) : sIf t d d' rho m = o := by subst hk; rw [if_else h, h2]
theorem s_drop (h : a rho m = .ok w m1) : sDrop a rho m = .nx rho m1 := by rw [e_Drop, h]; rfl
theorem s_skip : sSkip rho m = .nx rho m := rfl
theorem s_asg {i : Nat} (h : a rho m = .ok w m1) (h2 : rho.set i (some (val w)) = rho') : sSet i a rho m = .nx rho' m1 := by rw [set_run h, h2]
theorem s_asgR {i : Nat} {z : D} (h : a rho m = .ok (.n z) m1) (h2 : rho.set i (some (.r m1.length)) = rho') (h3 : m1 ++ [some z] = m2) : sSetR i a rho m = .nx rho' m2 := by rw [e_SetR, h, ev_thenS]; dsimp only; rw [h2, h3]
theorem s_app {i h : Nat} {ds : List D} {z : D} (hv : rho[i]? = some (some (.r h))) (ha : a rho m = .ok w m) (hw : val w = .d z) (hm : m[h]? = some (some (.list ds))) (hl : ds.length + 1 ≤ 1000000) (h2 : m.set h (some (.list (ds ++ [z]))) = m2) : sDrop (mM .lst (mVar i) (mCons a (mNil)) fAppend) rho m = .nx rho m2 := by
  have e1 : mCons a (mNil) rho m = .ok [.d z] m := by rw [e_Cons, ha, ev_bindV, e_Nil, ev_bind, hw]
  have e2 : fAppend (.r h) [.d z] m = .ok (.d .none) (m.set h (some (.list (ds ++ [z])))) := by
    rw [f_app, hm]
    show (if small (ds.length + 1) = true then _ else _) = _
    rw [small_le hl, if_pos rfl]
  rw [e_Drop, e_M, var_run hv, ev_bindV, val_r, peek_r, hm]
  show ((mCons a mNil rho m).bind fun ws m2 => fAppend (W.r h) ws m2).thenV rho _ = _
  rw [e1, ev_bind, e2, ← h2]; rfl
theorem s_par {i j : Nat} {r1 : Den.Env} (h1 : a rho m = .ok w1 m1) (h2 : b rho m1 = .ok w2 m2) (h3 : rho.set i (some (val w1)) = r1) (h4 : r1.set j (some (val w2)) = rho') : sPar i j a b rho m = .nx rho' m2 := by rw [par_run h1 h2, h3, h4]
theorem s_tup {g : GM} (h1 : a rho m = .ok w m1) (h2 : g (val w) rho m1 = some (rho', m2)) : sAsg g a rho m = .nx rho' m2 := asg_run h1 h2
theorem s_aug {i : Nat} {f : Int → Int → Int} {x y : Int} (h1 : rho[i]? = some (some (.d (.int x)))) (h2 : a rho m = .ok (.d (.int y)) m1) (h3 : rho.set i (some (.d (.int (f x y)))) = rho') : sAugI i f a rho m = .nx rho' m1 := by
  unfold sAugI
  rw [h1]
  dsimp only
  rw [h2, ← h3]; rfl
end

theorem set_Z {v y : Option W} {xs : Den.Env} : (y :: xs).set 0 v = v :: xs := rfl
theorem set_S {v y : Option W} {xs r : Den.Env} {n : Nat} (h : xs.set n v = r) : (y :: xs).set (n + 1) v = y :: r := by rw [← h]; rfl
theorem x_gT2 {i j : Nat} {z : D} {a b : D} {rho r1 r : Den.Env} {m : Mem} (h : z = .tuple [a, b]) (h1 : rho.set i (some (.d a)) = r1) (h2 : r1.set j (some (.d b)) = r) : gT [gN i, gN j] (.d z) rho m = some (r, m) := by rw [h, ← h2, ← h1]; rfl
theorem x_gN {i : Nat} {z : D} {rho r : Den.Env} {m : Mem} (h2 : rho.set i (some (.d z)) = r) : gN i (.d z) rho m = some (r, m) := by rw [← h2]; rfl
/-! ranges: tuples and lists told by functions of the place -/
section
variable {rho rho' : Den.Env} {m m0 m1 m2 : Mem} {a b c : EM W} {r : EM (List W)} {w w1 w2 : W} {ws : List W} {n i j k h : Nat} {g : GM} {d : SM} {f f2 : Nat → D} {z z1 z2 : D}
theorem zipIdx_rg : ((List.range n).map f).zipIdx = (List.range n).map fun k => (f k, k) := by
  apply List.ext_getElem?
  intro i
  rw [List.getElem?_zipIdx, List.getElem?_map, List.getElem?_map]
  by_cases hi : i < n
  · rw [List.getElem?_range hi]; simp
  · rw [List.getElem?_eq_none (by simp; omega)]; rfl
theorem drop_rg : ((List.range n).map f).drop k = (List.range (n - k)).map fun i => f (i + k) := by
  apply List.ext_getElem?
  intro i
  rw [List.getElem?_drop, List.getElem?_map, List.getElem?_map]
  by_cases hi : i < n - k
  · rw [List.getElem?_range hi, List.getElem?_range (by omega), Nat.add_comm]; rfl
  · rw [List.getElem?_eq_none (by simp; omega), List.getElem?_eq_none (by simp; omega)]; rfl
theorem take_rg (hk : k ≤ n) : ((List.range n).map f).take k = (List.range k).map f := by
  rw [← List.map_take, List.take_range, Nat.min_eq_left hk]
theorem zip_rg2 : (((List.range n).map f).zip ((List.range k).map f2)).map (fun p : D × D => PyData.tuple [p.1, p.2]) = (List.range (min n k)).map fun i => PyData.tuple [f i, f2 i] := by
  have e : (List.range n).zip (List.range k) = (List.range (min n k)).map fun i => (i, i) := by
    apply List.ext_getElem
    · simp
    · intro i h1 h2; simp
  rw [List.zip_map, e, List.map_map, List.map_map]; rfl
theorem x_zipR (h1 : a rho m = .ok w1 m1) (h2 : b rho m1 = .ok w2 m2) (e1 : val w1 = .d z1) (e2 : val w2 = .d z2) (s1 : seqOf z1 = some ((List.range n).map f)) (s2 : seqOf z2 = some ((List.range k).map f2)) : mZipB a b rho m = .ok ((List.range (min n k)).map fun i => PyData.tuple [f i, f2 i]) m2 := by
  unfold mZipB
  rw [e_Cons, h1, ev_bindV, e_Cons, h2, ev_bindV, e_Nil, ev_bind, ev_bind, ev_bind, e1, e2]
  show (match seqOf z1, seqOf z2 with | some xs, some ys => Rs.ok ((xs.zip ys).map fun p : D × D => PyData.tuple [p.1, p.2]) m2 | _, _ => .no) = _
  rw [s1, s2, ← zip_rg2]
theorem x_enumR (h1 : a rho m = .ok w1 m1) (e1 : val w1 = .d z1) (s1 : seqOf z1 = some ((List.range n).map f)) : mEnum a rho m = .ok ((List.range n).map fun k => PyData.tuple [nD k, f k]) m1 := by
  unfold mEnum
  rw [e_Cons, h1, ev_bindV, e_Nil, ev_bind, ev_bind, e1]
  show (match seqOf z1 with | some xs => Rs.ok (enumL xs) m1 | none => .no) = _
  rw [s1]
  show Rs.ok (enumL _) m1 = _
  unfold enumL
  rw [zipIdx_rg, List.map_map]; rfl
theorem x_slFromR (h : a rho m = .ok (.d (.tuple ((List.range n).map f))) m) (h2 : b rho m = .ok (.d (.int (k : Int))) m) : mSl a (oSome b) oNone rho m = .ok (.d (.tuple ((List.range (n - k)).map fun i => f (i + k)))) m := by
  rw [sl_from h h2, drop_rg]
theorem x_slFromS (h : a rho m = .ok (.d (.tuple ((List.range n).map f))) m) (h2 : b rho m = .ok (.d (.int (k : Int))) m) : mSl a (oSome (mAdd b (mC (.int 1)))) oNone rho m = .ok (.d (.tuple ((List.range (n - (k + 1))).map fun i => f (i + (k + 1))))) m := by
  have e : mAdd b (mC (.int 1)) rho m = .ok (.d (.int ((k + 1 : Nat) : Int))) m := by
    rw [add_run h2 const_run (x := .d (.int ((k : Int) + 1))) rfl]; rfl
  rw [sl_from h e, drop_rg]
theorem x_slToR (h : a rho m = .ok (.d (.tuple ((List.range n).map f))) m) (h2 : b rho m = .ok (.d (.int (k : Int))) m) (hk : k ≤ n) : mSl a oNone (oSome b) rho m = .ok (.d (.tuple ((List.range k).map f))) m := by
  rw [sl_to h h2, take_rg hk]
theorem x_gT {gs : List GM} {ds : List D} (h : seqOf z = some ds) (hl : ds.length = gs.length) (h2 : gAll gs ds rho m = some (rho', m)) : gT gs (.d z) rho m = some (rho', m) := by
  unfold gT
  rw [peek_d]
  show (match seqOf z with | some ds => (if ds.length = gs.length then gAll gs ds rho m else none) | none => none) = _
  rw [h]
  dsimp only
  rw [if_pos hl, h2]
theorem x_gA {g : GM} {gs : List GM} {x : D} {xs : List D} {r1 : Den.Env} (h1 : g (.d x) rho m = some (r1, m)) (h2 : gAll gs xs r1 m = some (rho', m)) : gAll (g :: gs) (x :: xs) rho m = some (rho', m) := by
  rw [gAll_cons, h1]; exact h2
theorem x_gA0 : gAll [] [] rho m = some (rho, m) := rfl
/-- one round of a loop -/
def Step (g : GM) (c : SM) (x : D) (rho : Den.Env) (m : Mem) (J : Den.Env → Mem → Prop) : Prop := ∃ r1 r2 m2, g (.d x) rho m = some (r1, m) ∧ c r1 m = .nx r2 m2 ∧ J r2 m2
theorem step_mk {g : GM} {c : SM} {x : D} {rho : Den.Env} {m : Mem} {J : Den.Env → Mem → Prop} {r1 r2 : Den.Env} {m2 : Mem} (h1 : g (.d x) rho m = some (r1, m)) (h2 : c r1 m = .nx r2 m2) (h3 : J r2 m2) : Step g c x rho m J := ⟨r1, r2, m2, h1, h2, h3⟩
theorem for_rg {c : SM} {F : Nat → D} (I : Nat → Den.Env → Mem → Prop) (h0 : I 0 rho m) (H : ∀ i, i < n → ∀ rho m, I i rho m → Step g c (F i) rho m (I (i + 1))) : ∃ r m', forL g c ((List.range n).map F) rho m = .nx r m' ∧ I n r m' := by
  obtain ⟨r, m', h1, h2⟩ := for_inv (g := g) (c := c) (rho := rho) (m := m) ((List.range n).map F) I h0 fun i hi rho m hI => by
    have hi' : i < n := by simpa using hi
    obtain ⟨r1, r2, m2, q1, q2, q3⟩ := H i hi' rho m hI
    have e : ((List.range n).map F)[i] = F i := by simp
    rw [e]
    exact ⟨r1, m, q1, r2, m2, q2, q3⟩
  rw [List.length_map, List.length_range] at h2
  exact ⟨r, m', h1, h2⟩
/-- a loop that ends early with a value -/
theorem for_find {c : SM} {F : Nat → D} {bad : Nat → Bool} (I : Den.Env → Prop) (hw : ∀ i, i < n → ∀ rho, I rho → ∃ r1, g (.d (F i)) rho m = some (r1, m) ∧ (bad i = true → c r1 m = .rt w m) ∧ (bad i = false → ∃ r2, c r1 m = .nx r2 m ∧ I r2)) (h0 : I rho) :
    ((List.range n).any bad = true → forL g c ((List.range n).map F) rho m = .rt w m) ∧ ((List.range n).any bad = false → ∃ r, forL g c ((List.range n).map F) rho m = .nx r m ∧ I r) := by
  have key : ∀ (l : List Nat), (∀ x ∈ l, x < n) → ∀ rho, I rho → (l.any bad = true → forL g c (l.map F) rho m = .rt w m) ∧ (l.any bad = false → ∃ r, forL g c (l.map F) rho m = .nx r m ∧ I r) := by
    intro l
    induction l with
    | nil => exact fun _ rho hI => ⟨fun z => by simp at z, fun _ => ⟨rho, rfl, hI⟩⟩
    | cons x l ih =>
      intro hl rho hI
      obtain ⟨r1, q1, q2, q3⟩ := hw x (hl x List.mem_cons_self) rho hI
      rw [List.any_cons, List.map_cons]
      cases hb : bad x with
      | true => exact ⟨fun _ => for_ret q1 (q2 hb), fun z => by simp at z⟩
      | false =>
        obtain ⟨r2, q4, q5⟩ := q3 hb
        rw [Bool.false_or, for_step q1 q4]
        exact ih (fun y hy => hl y (List.mem_cons_of_mem _ hy)) r2 q5
  exact key _ (fun x hx => List.mem_range.mp hx) rho h0
theorem s_for {it : EM (List D)} {c : SM} {items : List D} {o : Out} (hi : it rho m = .ok items m1) (h : forL g c items rho m1 = o) : sFor it g c rho m = o := for_run hi h
theorem s_loop {it : EM (List D)} {g : GM} {c d : SM} {F : Nat → D} {o : Out} (I : Nat → Den.Env → Mem → Prop) (hit : it rho m = .ok ((List.range n).map F) m1) (h0 : I 0 rho m1) (H : ∀ i, i < n → ∀ rho m, I i rho m → Step g c (F i) rho m (I (i + 1))) (k : ∀ r m', I n r m' → d r m' = o) : sSeq (sFor it g c) d rho m = o := by
  obtain ⟨r, m', h1, h2⟩ := for_rg (g := g) (c := c) (F := F) I h0 H
  rw [seq_run (s_for hit h1)]
  exact k r m' h2
/-- the same, about any outcome -/
theorem s_loopP {P : Out → Prop} {it : EM (List D)} {g : GM} {c d : SM} {F : Nat → D} (I : Nat → Den.Env → Mem → Prop) (hit : it rho m = .ok ((List.range n).map F) m1) (h0 : I 0 rho m1) (H : ∀ i, i < n → ∀ rho m, I i rho m → Step g c (F i) rho m (I (i + 1))) (k : ∀ r m', I n r m' → P (d r m')) : P (sSeq (sFor it g c) d rho m) := by
  obtain ⟨r, m', h1, h2⟩ := for_rg (g := g) (c := c) (F := F) I h0 H
  rw [seq_run (s_for hit h1)]
  exact k r m' h2
theorem s_seqP {P : Out → Prop} {d d' : SM} (h : d rho m = .nx rho' m1) (h2 : P (d' rho' m1)) : P (sSeq d d' rho m) := by rw [seq_run h]; exact h2
theorem m_get (m js : Mem) (k : Nat) : (m ++ js)[m.length + k]? = js[k]? := by
  rw [List.getElem?_append_right (Nat.le_add_right _ _), Nat.add_sub_cancel_left]
theorem m_set (m js : Mem) (k : Nat) (y : Option D) : (m ++ js).set (m.length + k) y = m ++ js.set k y := by
  rw [List.set_append_right _ _ (Nat.le_add_right _ _), Nat.add_sub_cancel_left]
theorem m_get0 (m js : Mem) (x : Option D) : (m ++ x :: js)[m.length]? = some x := m_get m (x :: js) 0
theorem m_get1 (m js : Mem) (x y : Option D) : (m ++ x :: y :: js)[m.length + 1]? = some y := m_get m (x :: y :: js) 1
theorem m_get2 (m js : Mem) (x y z : Option D) : (m ++ x :: y :: z :: js)[m.length + 2]? = some z := m_get m (x :: y :: z :: js) 2
theorem m_get3 (m js : Mem) (x y z u : Option D) : (m ++ x :: y :: z :: u :: js)[m.length + 3]? = some u := m_get m (x :: y :: z :: u :: js) 3
theorem m_set0 (m js : Mem) (x v : Option D) : (m ++ x :: js).set m.length v = m ++ v :: js := m_set m (x :: js) 0 v
theorem m_set1 (m js : Mem) (x y v : Option D) : (m ++ x :: y :: js).set (m.length + 1) v = m ++ x :: v :: js := m_set m (x :: y :: js) 1 v
theorem m_set2 (m js : Mem) (x y z v : Option D) : (m ++ x :: y :: z :: js).set (m.length + 2) v = m ++ x :: y :: v :: js := m_set m (x :: y :: z :: js) 2 v
theorem m_set3 (m js : Mem) (x y z u v : Option D) : (m ++ x :: y :: z :: u :: js).set (m.length + 3) v = m ++ x :: y :: z :: v :: js := m_set m (x :: y :: z :: u :: js) 3 v
theorem x_N1 {gg : D → Option (List D)} {x : D} {ys : List D} (h : peek m w = some x) (h2 : gg x = some ys) : fN1 gg [w] m = .ok (.n (.list ys)) m := by
  rw [f_N1, h]
  show (match gg x with | some ys => Rs.ok (W.n (.list ys)) m | none => .no) = _
  rw [h2]
theorem peek_of {h : Nat} {x : D} (hm : m[h]? = some (some x)) : peek m (.r h) = some x := by rw [peek_r, hm]; rfl
theorem x_dnew : mDNew rho m = .ok (.n (.dict [])) m := rfl
theorem x_starL {xs : List D} {a : EM W} {r : EM (List W)} {w : W} {z : D} {ws : List W} (h : a rho m = .ok w m1) (hw : val w = .d z) (hz : seqOf z = some xs) (h2 : r rho m1 = .ok ws m2) : mStar a r rho m = .ok (xs.map W.d ++ ws) m2 := by
  unfold mStar
  rw [h, ev_bindV, hw]
  show (match seqOf z with | some xs => (r rho m1).bind fun ws m2 => Rs.ok (xs.map W.d ++ ws) m2 | none => .no) = _
  rw [hz]
  show (r rho m1).bind (fun ws m2 => Rs.ok (xs.map W.d ++ ws) m2) = _
  rw [h2, ev_bind]
theorem x_slFromRL (h : a rho m = .ok (.d (.list ((List.range n).map f))) m) (h2 : b rho m = .ok (.d (.int (k : Int))) m) : mSl a (oSome b) oNone rho m = .ok (.n (.list ((List.range (n - k)).map fun i => f (i + k)))) m := by
  rw [e_Sl, h, ev_bindV, e_oS, h2, ev_bindV, val_d, ev_bind, e_oN, ev_bind, val_d, f_Sl, peek_d]
  show Rs.ok (W.n (.list (Den.cutD ((List.range n).map f) (some (k : Int)) none))) m = _
  rw [cut_from, drop_rg]
/-- for ..: if ..: return .. -/
def Find (g : GM) (t : EM Bool) (ra : EM W) (x : D) (rho : Den.Env) (m : Mem) (b : Bool) (w : W) (J : Den.Env → Prop) : Prop := ∃ r1, g (.d x) rho m = some (r1, m) ∧ t r1 m = .ok b m ∧ (b = true → ra r1 m = .ok w m) ∧ J r1
theorem find_mk {g : GM} {t : EM Bool} {ra : EM W} {x : D} {b b' : Bool} {J : Den.Env → Prop} {r1 : Den.Env} (h1 : g (.d x) rho m = some (r1, m)) (h2 : t r1 m = .ok b' m) (e : b' = b) (h3 : b = true → ra r1 m = .ok w m) (h4 : J r1) : Find g t ra x rho m b w J := ⟨r1, h1, by rw [h2, e], h3, h4⟩
theorem s_find {it : EM (List D)} {g : GM} {t : EM Bool} {ra : EM W} {d : SM} {F : Nat → D} {o : Out} (bad : Nat → Bool) (w : W) (J : Den.Env → Prop) (hit : it rho m = .ok ((List.range n).map F) m) (h0 : J rho) (H : ∀ i, i < n → ∀ rho, J rho → Find g t ra (F i) rho m (bad i) w J)
    (k1 : (List.range n).any bad = true → .rt w m = o) (k2 : (List.range n).any bad = false → ∀ r, J r → d r m = o) : sSeq (sFor it g (sSeq (sIf t (sSeq (sRet ra) (sSkip)) (sSkip)) (sSkip))) d rho m = o := by
  obtain ⟨q1, q2⟩ := for_find (g := g) (c := sSeq (sIf t (sSeq (sRet ra) (sSkip)) (sSkip)) (sSkip)) (F := F) (w := w) (m := m) (bad := bad) J (fun i hi rho hI => by
    obtain ⟨r1, e1, e2, e3, e4⟩ := H i hi rho hI
    refine ⟨r1, e1, fun hb => ?_, fun hb => ⟨r1, ?_, e4⟩⟩
    · rw [hb] at e2
      exact seq_ret (by rw [if_yes e2, ret_run (e3 hb)])
    · rw [hb] at e2
      rw [seq_run (if_no e2)]; rfl) h0
  cases hb : (List.range n).any bad with
  | true =>
    rw [← k1 hb]
    exact seq_ret (s_for hit (q1 hb))
  | false =>
    obtain ⟨r, e1, e2⟩ := q2 hb
    rw [seq_run (s_for hit e1)]
    exact k2 hb r e2
/-- a loop whose body may return -/
def Retn (b : Bool) (w : W) (m : Mem) (J : Den.Env → Prop) (o : Out) : Prop := (b = true ∧ o = .rt w m) ∨ (b = false ∧ ∃ r, o = .nx r m ∧ J r)
theorem s_findG {it : EM (List D)} {g : GM} {c d : SM} {F : Nat → D} {o : Out} (bad : Nat → Bool) (w : W) (J : Den.Env → Prop) (hit : it rho m = .ok ((List.range n).map F) m) (h0 : J rho) (H : ∀ i, i < n → ∀ rho, J rho → ∃ r1, g (.d (F i)) rho m = some (r1, m) ∧ Retn (bad i) w m J (c r1 m))
    (k1 : (List.range n).any bad = true → .rt w m = o) (k2 : (List.range n).any bad = false → ∀ r, J r → d r m = o) : sSeq (sFor it g c) d rho m = o := by
  obtain ⟨q1, q2⟩ := for_find (g := g) (c := c) (F := F) (w := w) (m := m) (bad := bad) J (fun i hi rho hI => by
    obtain ⟨r1, e1, e2⟩ := H i hi rho hI
    refine ⟨r1, e1, fun hb => ?_, fun hb => ?_⟩
    · rcases e2 with ⟨_, e2⟩ | ⟨e2, _⟩
      · exact e2
      · rw [hb] at e2; cases e2
    · rcases e2 with ⟨e2, _⟩ | ⟨_, e2⟩
      · rw [hb] at e2; cases e2
      · exact e2) h0
  cases hb : (List.range n).any bad with
  | true =>
    rw [← k1 hb]
    exact seq_ret (s_for hit (q1 hb))
  | false =>
    obtain ⟨r, e1, e2⟩ := q2 hb
    rw [seq_run (s_for hit e1)]
    exact k2 hb r e2
theorem s_findP {P : Out → Prop} {it : EM (List D)} {g : GM} {t : EM Bool} {ra : EM W} {d : SM} {F : Nat → D} (bad : Nat → Bool) (w : W) (J : Den.Env → Prop) (hit : it rho m = .ok ((List.range n).map F) m) (h0 : J rho) (H : ∀ i, i < n → ∀ rho, J rho → Find g t ra (F i) rho m (bad i) w J)
    (k1 : (List.range n).any bad = true → P (.rt w m)) (k2 : (List.range n).any bad = false → ∀ r, J r → P (d r m)) : P (sSeq (sFor it g (sSeq (sIf t (sSeq (sRet ra) (sSkip)) (sSkip)) (sSkip))) d rho m) := by
  obtain ⟨q1, q2⟩ := for_find (g := g) (c := sSeq (sIf t (sSeq (sRet ra) (sSkip)) (sSkip)) (sSkip)) (F := F) (w := w) (m := m) (bad := bad) J (fun i hi rho hI => by
    obtain ⟨r1, e1, e2, e3, e4⟩ := H i hi rho hI
    refine ⟨r1, e1, fun hb => ?_, fun hb => ⟨r1, ?_, e4⟩⟩
    · rw [hb] at e2
      exact seq_ret (by rw [if_yes e2, ret_run (e3 hb)])
    · rw [hb] at e2
      rw [seq_run (if_no e2)]; rfl) h0
  cases hb : (List.range n).any bad with
  | true =>
    rw [seq_ret (s_for hit (q1 hb))]
    exact k1 hb
  | false =>
    obtain ⟨r, e1, e2⟩ := q2 hb
    rw [seq_run (s_for hit e1)]
    exact k2 hb r e2
theorem x_range2 {x y : Int} {p q : Nat} (h : a rho m = .ok (.d (.int x)) m) (h2 : b rho m = .ok (.d (.int y)) m) (hx : x = (p : Int)) (hy : y = (q : Int)) (hpq : p ≤ q) (hq : q ≤ 1000000) : mRange2 a b rho m = .ok ((List.range (q - p)).map fun k => nD (k + p)) m := by
  subst hx hy
  have e := range2_any (b := b) (n := q - p) h (by rw [h2]; congr 3; omega) (by omega) (by omega)
  rw [e]
  congr 1
  refine List.map_congr_left fun k _ => ?_
  show PyData.int _ = PyData.int _
  congr 1; omega
theorem any_eqv {i : Int} {l : List Nat} : ((l.map nD).any fun z => PyData.eqv z (.int i)) = l.any fun k => decide ((k : Int) = i) := by
  rw [List.any_map]
  congr 1
theorem shaped_nats (l : List Nat) : SeqAt.shaped (.list (l.map nD)) = true := by
  have e : l.map nD = (l.map fun n : Nat => (n : Int)).map PyData.int := by rw [List.map_map]; rfl
  rw [e]; exact shaped_ints _
theorem in_nats {i : Int} {l : List Nat} : inD (.int i) (.list (l.map nD)) = some (.d (.bool (l.any fun k => decide ((k : Int) = i)))) := by
  show (if SeqAt.shaped (.int i) && SeqAt.shaped (.list (l.map nD)) then some (W.d (.bool ((l.map nD).any fun z => PyData.eqv z (.int i)))) else none) = _
  rw [shaped_i, shaped_nats, any_eqv]; rfl
theorem s_while {t : EM Bool} {c d : SM} {o : Out} {N : Nat} (I : Nat → Den.Env → Mem → Prop) (K : Nat) (hK : K < N) (h0 : I 0 rho m) (H : ∀ i, i < K → ∀ rho m, I i rho m → t rho m = .ok true m ∧ ∃ r m', c rho m = .nx r m' ∧ I (i + 1) r m') (hE : ∀ rho m, I K rho m → t rho m = .ok false m) (k : ∀ r m', I K r m' → d r m' = o) : sSeq (sWhile N t c) d rho m = o := by
  have key : ∀ j i N rho m, i + j = K → j < N → I i rho m → ∃ r m', whileN t c N rho m = .nx r m' ∧ I K r m' := by
    intro j
    induction j with
    | zero =>
      intro i N rho m hi hN hI
      obtain ⟨N, rfl⟩ : ∃ M, N = M + 1 := ⟨N - 1, by omega⟩
      have e : i = K := by omega
      subst e
      exact ⟨rho, m, while_end (hE rho m hI), hI⟩
    | succ j ih =>
      intro i N rho m hi hN hI
      obtain ⟨N, rfl⟩ : ∃ M, N = M + 1 := ⟨N - 1, by omega⟩
      obtain ⟨h1, r, m', h2, h3⟩ := H i (by omega) rho m hI
      rw [while_step h1 h2]
      exact ih (i + 1) N r m' (by omega) (by omega) h3
  obtain ⟨r, m', h1, h2⟩ := key K 0 N rho m (by omega) hK h0
  rw [seq_run (show sWhile N t c rho m = .nx r m' from h1)]
  exact k r m' h2
theorem ex_nx {c : SM} {r : Den.Env} {m' : Mem} {J : Den.Env → Mem → Prop} (h : c rho m = .nx r m') (h2 : J r m') : ∃ r m', c rho m = .nx r m' ∧ J r m' := ⟨r, m', h, h2⟩
/-- sums over ranges -/
def sumR (n : Nat) (f : Nat → Int) : Int := ((List.range n).map f).sum
theorem sumR_succ {n : Nat} {f : Nat → Int} : sumR (n + 1) f = sumR n f + f n := by
  unfold sumR
  rw [List.range_succ, List.map_append, List.sum_append]
  simp
theorem sumR_congr {n : Nat} {f f' : Nat → Int} (h : ∀ k, k < n → f k = f' k) : sumR n f = sumR n f' := by
  unfold sumR
  congr 1
  exact List.map_congr_left fun k hk => h k (List.mem_range.mp hk)
theorem m_last (m : Mem) (x : Option D) : (m ++ [x])[m.length]? = some x := by
  rw [List.getElem?_append_right (Nat.le_refl _), Nat.sub_self]; rfl
theorem m_setL (m : Mem) (x y : Option D) : (m ++ [x]).set m.length y = m ++ [y] := by
  rw [List.set_append_right _ _ (Nat.le_refl _), Nat.sub_self]; rfl
theorem x_tupR {ds : List D} (hm : m[h]? = some (some (.list ds))) : fTup [.r h] m = .ok (.d (.tuple ds)) m := by rw [f_Tup, peek_r, hm]; rfl
theorem x_lenR {ds : List D} (hm : m[h]? = some (some (.list ds))) : fD1 lenD [.r h] m = .ok (.d (nD ds.length)) m := by rw [f_D1, peek_r, hm]; rfl
theorem x_runR {N : Nat} {c : SM} {ws : List W} {x y : D} {rho r : Den.Env} (h0 : startE N ws = rho) (h : c rho m = .rt (.r m.length) m1) (hm : m1[m.length]? = some (some y)) (e : y = x) (hl : m1.take m.length = m) : runF N c ws m = .ok (.n x) m := by
  subst e
  rw [run_r h0 h hm, hl]
theorem x_runH {N : Nat} {c : SM} {ws : List W} {x : D} {h : Nat} {rho : Den.Env} (h0 : startE N ws = rho) (h1 : c rho m = .rt (.r h) m1) (hm : m1[h]? = some (some x)) (hl : m1.take m.length = m) (hh : m.length ≤ h) : runF N c ws m = .ok (.n x) m := by
  unfold runF
  rw [h0, h1]
  show (if m.length ≤ h then (match m1[h]? with | some (some x) => Rs.ok (W.n x) (m1.take m.length) | _ => .no) else .no) = _
  rw [if_pos hh, hm, hl]
theorem x_maxDf {x y d : D} (h1 : a rho m = .ok w m1) (hw : val w = .d x) (h2 : b rho m1 = .ok (.d d) m1) (h3 : maxDfD x d = some y) : mMaxDf a b rho m = .ok (.d y) m1 := by
  unfold mMaxDf
  rw [h1, ev_bindV, h2, ev_bindV, hw, val_d, f_D2, peek_d, peek_d]
  show (match maxDfD x d with | some z => Rs.ok (W.d z) m1 | none => .no) = _
  rw [h3]
theorem rg_snoc {α : Type} {f : Nat → α} : (List.range n).map f ++ [f n] = (List.range (n + 1)).map f := by rw [List.range_succ, List.map_append]; rfl
theorem pairOk {a b c d : Int} : cmpOk (.tuple [.int a, .int b]) (.tuple [.int c, .int d]) = true := by
  unfold cmpOk
  simp [PySem.W.alike, PySem.W.alikeAll, PyData.depth, PyData.depthAll, PyData.hasDict, PyData.hasDictAll]
theorem pair_gt {a b c d : Int} : gtD (.tuple [.int a, .int b]) (.tuple [.int c, .int d]) = some (.d (.bool (decide (c < a ∨ (c = a ∧ d < b))))) := by
  unfold gtD
  dsimp only
  rw [if_pos pairOk, PySem.W.dataLt_ii]
theorem pair_lt {a b c d : Int} : ltD (.tuple [.int a, .int b]) (.tuple [.int c, .int d]) = some (.d (.bool (decide (a < c ∨ (a = c ∧ b < d))))) := by
  unfold ltD
  dsimp only
  rw [if_pos pairOk, PySem.W.dataLt_ii]
end
end Law
set_option exponentiation.threshold 10000
namespace Law
open PySem PySem.Spec PyProof.Rows L2 Den
/-! more of the executor: outcomes told by what they are -/
section
variable {rho rho' : Den.Env} {m m1 m2 : Mem} {c d : SM} {n : Nat} {J : Den.Env → Mem → Prop}
def NX (J : Den.Env → Mem → Prop) (o : Out) : Prop := ∃ r m', o = .nx r m' ∧ J r m'
theorem nx_mk {r : Den.Env} (h : c rho m = .nx r m2) (h2 : J r m2) : NX J (c rho m) := ⟨r, m2, h, h2⟩
theorem step_P {g : GM} {x : D} {r1 : Den.Env} (h1 : g (.d x) rho m = some (r1, m)) (h2 : NX J (c r1 m)) : Step g c x rho m J := by
  obtain ⟨r, m', e, j⟩ := h2
  exact ⟨r1, r, m', h1, e, j⟩
theorem s_whileP {P : Out → Prop} {t : EM Bool} {N : Nat} (I : Nat → Den.Env → Mem → Prop) (K : Nat) (hK : K < N) (h0 : I 0 rho m) (H : ∀ i, i < K → ∀ rho m, I i rho m → t rho m = .ok true m ∧ NX (I (i + 1)) (c rho m)) (hE : ∀ rho m, I K rho m → t rho m = .ok false m) (k : ∀ r m', I K r m' → P (d r m')) : P (sSeq (sWhile N t c) d rho m) := by
  have key : ∀ j i N rho m, i + j = K → j < N → I i rho m → ∃ r m', whileN t c N rho m = .nx r m' ∧ I K r m' := by
    intro j
    induction j with
    | zero =>
      intro i N rho m hi hN hI
      obtain ⟨N, rfl⟩ : ∃ M, N = M + 1 := ⟨N - 1, by omega⟩
      have e : i = K := by omega
      subst e
      exact ⟨rho, m, while_end (hE rho m hI), hI⟩
    | succ j ih =>
      intro i N rho m hi hN hI
      obtain ⟨N, rfl⟩ : ∃ M, N = M + 1 := ⟨N - 1, by omega⟩
      obtain ⟨h1, r, m', h2, h3⟩ := H i (by omega) rho m hI
      rw [while_step h1 h2]
      exact ih (i + 1) N r m' (by omega) (by omega) h3
  obtain ⟨r, m', h1, h2⟩ := key K 0 N rho m (by omega) hK h0
  rw [seq_run (show sWhile N t c rho m = .nx r m' from h1)]
  exact k r m' h2
theorem x_eqT {a : EM Bool} {b b' : Bool} (h : a rho m = .ok b' m) (e : b' = b) : a rho m = .ok b m := by rw [h, e]
theorem any_mem {i : Nat} {l : List Nat} : (l.any fun k => decide ((k : Int) = (i : Int))) = decide (i ∈ l) := by
  rw [Bool.eq_iff_iff, List.any_eq_true, decide_eq_true_eq]
  constructor
  · rintro ⟨x, hx, e⟩
    rw [decide_eq_true_eq] at e
    have : x = i := by omega
    exact this ▸ hx
  · intro h
    exact ⟨i, h, by simp⟩
theorem in_natsN {i : Nat} {l : List Nat} : inD (.int (i : Int)) (.list (l.map nD)) = some (.d (.bool (decide (i ∈ l)))) := by rw [in_nats, any_mem]
theorem ifS_t {t : EM Bool} {P : Out → Prop} (h : t rho m = .ok true m1) (h2 : P (c rho m1)) : P (sIf t c d rho m) := by rw [if_yes h]; exact h2
theorem ifS_f {t : EM Bool} {P : Out → Prop} (h : t rho m = .ok false m1) (h2 : P (d rho m1)) : P (sIf t c d rho m) := by rw [if_else h]; exact h2
end
theorem x_addL {xs ys : List D} {m : Mem} (h : xs.length + ys.length ≤ 1000000) : lift2 addD (.d (.list xs)) (.d (.list ys)) m = .ok (.n (.list (xs ++ ys))) m := lift2_run rfl rfl (by rw [add_l, if_pos (small_le h)])
theorem x_addT {xs ys : List D} {m : Mem} (h : xs.length + ys.length ≤ 1000000) : lift2 addD (.d (.tuple xs)) (.d (.tuple ys)) m = .ok (.d (.tuple (xs ++ ys))) m := lift2_run rfl rfl (by rw [add_t, if_pos (small_le h)])
theorem x_new {a : EM W} {rho : Den.Env} {m m1 : Mem} {x : D} (h : a rho m = .ok (.n x) m1) : mNew a rho m = .ok (.r m1.length) (m1 ++ [some x]) := by
  unfold mNew
  rw [h]
theorem s_parN {is : List Nat} {c : EM (List W)} {rho r : Den.Env} {m m1 : Mem} {ws : List W} (h : c rho m = .ok ws m1) (hl : ws.length = is.length) (hr : setAll rho is ws = r) : sParN is c rho m = .nx r m1 := by
  unfold sParN
  rw [h]
  show (if ws.length = is.length then Out.nx (setAll rho is ws) m1 else .no) = _
  rw [if_pos hl, hr]
theorem x_lenRgT {n : Nat} {f : Nat → D} {m : Mem} : fD1 lenD [.d (.tuple ((List.range n).map f))] m = .ok (.d (nD n)) m := by
  rw [f_D1, peek_d]
  show (match some (PyData.int (((List.range n).map f).length : Nat)) with | some y => Rs.ok (W.d y) m | none => .no) = _
  rw [List.length_map, List.length_range]
theorem x_lenRgL {n : Nat} {f : Nat → D} {m : Mem} : fD1 lenD [.d (.list ((List.range n).map f))] m = .ok (.d (nD n)) m := by
  rw [f_D1, peek_d]
  show (match some (PyData.int (((List.range n).map f).length : Nat)) with | some y => Rs.ok (W.d y) m | none => .no) = _
  rw [List.length_map, List.length_range]
theorem x_constE {v v' : D} {rho : Den.Env} {m : Mem} (h : v = v') : mC v rho m = .ok (.d v') m := by rw [h]; rfl
theorem look_Z {w : W} {xs : Den.Env} : (some w :: xs)[0]? = some (some w) := rfl
theorem look_S {w : W} {y : Option W} {xs : Den.Env} {n : Nat} (h : xs[n]? = some (some w)) : (y :: xs)[n + 1]? = some (some w) := by rw [List.getElem?_cons_succ]; exact h
/-- it returns x and leaves what was there -/
def RtD (x : D) (m : Mem) (o : Out) : Prop := ∃ m1, o = .rt (.d x) m1 ∧ m1.take m.length = m
def RtN (x : D) (m : Mem) (o : Out) : Prop := ∃ m1, o = .rt (.n x) m1 ∧ m1.take m.length = m
theorem x_funP {N : Nat} {c : SM} {ws : List W} {x : D} {rho : Den.Env} {m : Mem} (h0 : startE N ws = rho) (h : RtD x m (c rho m)) : runF N c ws m = .ok (.d x) m := by
  obtain ⟨m1, h1, h2⟩ := h
  exact x_fun h0 h1 rfl h2
theorem x_funNP {N : Nat} {c : SM} {ws : List W} {x : D} {rho : Den.Env} {m : Mem} (h0 : startE N ws = rho) (h : RtN x m (c rho m)) : runF N c ws m = .ok (.n x) m := by
  obtain ⟨m1, h1, h2⟩ := h
  exact x_funN h0 h1 rfl h2
theorem rtD_mk {a : EM W} {d : SM} {x y : D} {rho : Den.Env} {m m1 m2 : Mem} (h : a rho m1 = .ok (.d y) m2) (e : y = x) (hl : m2.take m.length = m) : RtD x m (sSeq (sRet a) d rho m1) := ⟨m2, by rw [ret_run h, e], hl⟩
theorem rtN_mk {a : EM W} {d : SM} {x y : D} {rho : Den.Env} {m m1 m2 : Mem} (h : a rho m1 = .ok (.n y) m2) (e : y = x) (hl : m2.take m.length = m) : RtN x m (sSeq (sRet a) d rho m1) := ⟨m2, by rw [ret_run h, e], hl⟩
section
variable {m : Mem} {i j : Int} {a b c d : Int} {x y : Str}
theorem l2_add : lift2 addD (.d (.int i)) (.d (.int j)) m = .ok (.d (.int (i + j))) m := lift2_run rfl rfl add_i
theorem l2_le : lift2 leD (.d (.int i)) (.d (.int j)) m = .ok (.d (.bool (decide (i ≤ j)))) m := lift2_run rfl rfl le_i
theorem l2_lt : lift2 ltD (.d (.int i)) (.d (.int j)) m = .ok (.d (.bool (decide (i < j)))) m := lift2_run rfl rfl lt_i
theorem l2_gt : lift2 gtD (.d (.int i)) (.d (.int j)) m = .ok (.d (.bool (decide (j < i)))) m := lift2_run rfl rfl gt_i
theorem l2_ge : lift2 geD (.d (.int i)) (.d (.int j)) m = .ok (.d (.bool (decide (j ≤ i)))) m := lift2_run rfl rfl ge_i
theorem l2_eq : lift2 eqD (.d (.int i)) (.d (.int j)) m = .ok (.d (.bool (i == j))) m := lift2_run rfl rfl eq_i
theorem l2_ne : lift2 neD (.d (.int i)) (.d (.int j)) m = .ok (.d (.bool (!(i == j)))) m := lift2_run rfl rfl ne_i
theorem l2_eqS : lift2 eqD (.d (.str x)) (.d (.str y)) m = .ok (.d (.bool (decide (x = y)))) m := lift2_run rfl rfl eq_s
theorem l2_neS : lift2 neD (.d (.str x)) (.d (.str y)) m = .ok (.d (.bool (!decide (x = y)))) m := lift2_run rfl rfl ne_s
theorem l2_gtP : lift2 gtD (.d (.tuple [.int a, .int b])) (.d (.tuple [.int c, .int d])) m = .ok (.d (.bool (decide (c < a ∨ (c = a ∧ d < b))))) m := lift2_run rfl rfl pair_gt
theorem l2_ltP : lift2 ltD (.d (.tuple [.int a, .int b])) (.d (.tuple [.int c, .int d])) m = .ok (.d (.bool (decide (a < c ∨ (a = c ∧ b < d))))) m := lift2_run rfl rfl pair_lt
theorem l2_inN {i : Nat} {l : List Nat} : lift2 inD (.d (.int (i : Int))) (.d (.list (l.map nD))) m = .ok (.d (.bool (decide (i ∈ l)))) m := lift2_run rfl rfl in_natsN
end
theorem pick_eq {fs : List FnM} {i : EM W} {c : EM (List W)} {rho : Den.Env} {m : Mem} {k n : Nat} {nm : Str} {F : List W → Mem → Rs W} {ws : List W} (hi : i rho m = .ok (.d (nD k)) m) (hf : fs[k]? = some (nm, n, F)) (hc : c rho m = .ok ws m) (hl : ws.length = n) : mPick fs i c rho m = F ws m := by
  rw [e_Pick, hi, ev_bindV, val_d]
  show (if 0 ≤ ((k : Nat) : Int) then (match fs[((k : Nat) : Int).toNat]? with | some t => (c rho m).bind fun ws m2 => if ws.length = t.2.1 then t.2.2 ws m2 else .no | none => .no) else .no) = _
  rw [if_pos (by omega), Int.toNat_natCast, hf]
  show ((c rho m).bind fun ws m2 => if ws.length = n then F ws m2 else .no) = _
  rw [hc, ev_bind, if_pos hl]
theorem ret_ex {a : EM W} {d : SM} {rho : Den.Env} {m m1 : Mem} {x : Exc} (h : a rho m = .ex x m1) : sSeq (sRet a) d rho m = .ex x rho m1 := by
  rw [e_Seq, e_Ret, h]; rfl
theorem call_ex {n : Nat} {fm : List W → Mem → Rs W} {r : EM (List W)} {rho : Den.Env} {m m1 m2 : Mem} {ws : List W} {x : Exc} (h1 : r rho m = .ok ws m1) (h2 : fm ws m1 = .ex x m2) (hl : ws.length = n) : mCall n fm r rho m = .ex x m2 := by
  rw [e_Call, h1, ev_bind, if_pos hl, h2]
theorem drop_ex {a : EM W} {rho : Den.Env} {m m1 : Mem} {x : Exc} (h : a rho m = .ex x m1) : sDrop a rho m = .ex x rho m1 := by
  rw [e_Drop, h]; rfl
theorem try_rt {i : Nat} {cb : SM} {kf : Str → Option Str} {rho : Den.Env} {m m1 : Mem} {w : W} (h : cb rho m = .rt w m1) : sTryK i cb kf rho m = .rt w m1 := by rw [e_TryK, h]
theorem try_ex {i : Nat} {cb : SM} {kf : Str → Option Str} {rho r : Den.Env} {m m1 : Mem} {x y : Str} (h : cb rho m = .ex (.own x) r m1) (hk : kf x = some y) (hl : i < r.length) : sTryK i cb kf rho m = .rt (.d (.str y)) m1 := by
  rw [e_TryK, h]
  show (match kf x with | some y => (if i < r.length then Out.rt (W.d (.str y)) m1 else .no) | none => .no) = _
  rw [hk]
  show (if i < r.length then Out.rt (W.d (.str y)) m1 else .no) = _
  rw [if_pos hl]
/-- the texts of the same -/
theorem repr_same {a b : EM W} {rho : Den.Env} {m : Mem} {w1 w2 : W} {x : D} {d r : Nat} (h1 : a rho m = .ok w1 m) (h2 : b rho m = .ok w2 m) (e1 : val w1 = .d x) (e2 : val w2 = .d x) (S : Shv d r x) (hd : d ≤ 60) (hr : r ≤ 1000000) : mBool (mOp2 (mB (mCons a (mNil)) (fD1 reprD)) (mB (mCons b (mNil)) (fD1 reprD)) (lift2 neD)) rho m = .ok false m := by
  have q := repr_shv S hd hr
  have k1 := b_run (fm := fD1 reprD) (cons_run h1 nil_run) (m2 := m) (w := .d (.str x.shown)) (by rw [e1]; exact D1_run q)
  have k2 := b_run (fm := fD1 reprD) (cons_run h2 nil_run) (m2 := m) (w := .d (.str x.shown)) (by rw [e2]; exact D1_run q)
  refine bool_run (op_run (f := lift2 neD) k1 k2 (lift2_run rfl rfl ?_))
  rw [ne_s, decide_eq_true rfl]; rfl
theorem shv_listL {d r L : Nat} {xs : List D} (h : ∀ x ∈ xs, Shv d r x) (hl : xs.length ≤ L) : Shv (d + 1) (L * (r + 2) + 3) (.list xs) := (shv_list h).up (Nat.le_refl _) (by have := Nat.mul_le_mul_right (r + 2) hl; omega)
theorem shv_tupL {d r L : Nat} {xs : List D} (h : ∀ x ∈ xs, Shv d r x) (hl : xs.length ≤ L) : Shv (d + 1) (L * (r + 2) + 3) (.tuple xs) := (shv_tuple h).up (Nat.le_refl _) (by have := Nat.mul_le_mul_right (r + 2) hl; omega)
theorem shv_nat {d k : Nat} {n : Nat} (h : n < 10 ^ k) (h0 : 0 < k) (hk : k ≤ 480) : Shv d (k + 1) (nD n) := shv_int (by rw [Int.natAbs_natCast]; exact h) h0 hk
theorem shv_pair {d k : Nat} {i j : Int} (h : i.natAbs < 10 ^ k) (h2 : j.natAbs < 10 ^ k) (h0 : 0 < k) (hk : k ≤ 480) : Shv (d + 1) (2 * (k + 1 + 2) + 3) (.tuple [.int i, .int j]) := shv_two (shv_int h h0 hk) (shv_int h2 h0 hk)
theorem l2_ninN {i : Nat} {l : List Nat} {m : Mem} : lift2 ninD (.d (.int (i : Int))) (.d (.list (l.map nD))) m = .ok (.d (.bool (decide (i ∉ l)))) m := by
  refine lift2_run rfl rfl ?_
  unfold ninD
  rw [in_natsN]
  show some (W.d (.bool (!decide (i ∈ l)))) = _
  rw [decide_not]
/-- all slots but some are as before -/
theorem fr_set {rho : Den.Env} {i j : Nat} {v : Option W} {x : Option (Option W)} (h : i ≠ j) (k : rho[j]? = x) : (rho.set i v)[j]? = x := by rw [List.getElem?_set_ne h]; exact k
theorem x_count {a b : EM W} {rho : Den.Env} {m : Mem} {ds : List D} {w : W} {y z : D} (h1 : a rho m = .ok (.d (.list ds)) m) (h2 : b rho m = .ok w m) (hw : val w = .d y) (h3 : cntD (.list ds) y = some z) : mM .lst a (mCons b (mNil)) (fMD cntD) rho m = .ok (.d z) m := by
  have e1 : mCons b (mNil) rho m = .ok [.d y] m := by rw [e_Cons, h2, ev_bindV, e_Nil, ev_bind, hw]
  rw [e_M, h1, ev_bindV, val_d, peek_d]
  show ((mCons b mNil rho m).bind fun ws m2 => fMD cntD (.d (.list ds)) ws m2) = _
  rw [e1, ev_bind]
  show (match cntD (.list ds) y with | some z => Rs.ok (W.d z) m | none => .no) = _
  rw [h3]
theorem cnt_nats {l : List Nat} {j : Nat} : cntD (.list (l.map nD)) (nD j) = some (nD (l.countP fun k => decide (k = j))) := by
  show (if SeqAt.shaped (.list (l.map nD)) && SeqAt.shaped (.int (j : Int)) then some (PyData.int (((l.map nD).countP fun z => PyData.eqv z (.int (j : Int)) : Nat) : Int)) else none) = _
  rw [shaped_nats, shaped_i]
  show some (PyData.int (((l.map nD).countP fun z => PyData.eqv z (.int (j : Int)) : Nat) : Int)) = _
  rw [List.countP_map]
  congr 3
  refine List.countP_congr fun k _ => ?_
  show (((k : Int) == (j : Int)) = true) ↔ _
  rw [decide_eq_true_eq, beq_iff_eq]
  omega
end Law
set_option exponentiation.threshold 10000
namespace Law
open PySem PySem.Spec PyProof.Rows L2 Den
/-! draws: law-independent helpers (behind BASEH, EV2) -/
theorem drwN {k n b : Nat} {m : Mem} {rho : Den.Env} (h : Dr b n m) (hv : rho[k]? = some (some (.r n))) : ∃ v m', mB (mCons (mCall 1 F__law_next (mCons (mVar k) (mNil))) (mNil)) (fD1 intD) rho m = .ok (.d (nD v)) m' ∧ v < 1000 ∧ Dr b n m' ∧ m'.length = m.length ∧ ∀ j, j ≠ n → m'[j]? = m[j]? := by
  obtain ⟨v, m', e, h0, h1, d, l, q⟩ := next_ok h
  have ev : v = ((v.toNat : Nat) : Int) := by omega
  refine ⟨v.toNat, m', ?_, by omega, d, l, q⟩
  have := b_run (fm := fD1 intD) (w := .d (.int v)) (m2 := m') (cons_run (call_run (n := 1) (cons_run (var_run hv) nil_run) rfl e) nil_run) rfl
  rw [this]
  show _ = Rs.ok (W.d (.int ((v.toNat : Nat) : Int))) m'
  rw [← ev]
theorem x_modN {a c : EM W} {rho : Den.Env} {m m1 m2 : Mem} {i j : Nat} (h1 : a rho m = .ok (.d (nD i)) m1) (h2 : c rho m1 = .ok (.d (nD j)) m2) (hj : 0 < j) : mMod a c rho m = .ok (.d (nD (i % j))) m2 := by
  rw [x_mod h1 h2 (by omega)]; rfl
theorem x_addN {a c : EM W} {rho : Den.Env} {m m1 m2 : Mem} {i j : Nat} (h1 : a rho m = .ok (.d (nD i)) m1) (h2 : c rho m1 = .ok (.d (nD j)) m2) : mAdd a c rho m = .ok (.d (nD (i + j))) m2 := by
  rw [add_run h1 h2 l2_add]; rfl
theorem s_appM {i h : Nat} {a : EM W} {w : W} {z : D} {ds : List D} {rho : Den.Env} {m m1 m2 : Mem} (hv : rho[i]? = some (some (.r h))) (h0 : m[h]? = some (some (.list ds))) (ha : a rho m = .ok w m1) (hw : val w = .d z) (hm : m1[h]? = some (some (.list ds))) (hl : ds.length + 1 ≤ 1000000) (h2 : m1.set h (some (.list (ds ++ [z]))) = m2) : sDrop (mM .lst (mVar i) (mCons a (mNil)) fAppend) rho m = .nx rho m2 := by
  have e1 : mCons a (mNil) rho m = .ok [.d z] m1 := by rw [e_Cons, ha, ev_bindV, e_Nil, ev_bind, hw]
  have e2 : fAppend (.r h) [.d z] m1 = .ok (.d .none) (m1.set h (some (.list (ds ++ [z])))) := by
    rw [f_app, hm]
    show (if small (ds.length + 1) = true then _ else _) = _
    rw [small_le hl, if_pos rfl]
  rw [e_Drop, e_M, var_run hv, ev_bindV, val_r, peek_r, h0]
  show ((mCons a mNil rho m).bind fun ws m2 => fAppend (W.r h) ws m2).thenV rho _ = _
  rw [e1, ev_bind, e2, ← h2]; rfl
theorem Dr.set {b n h : Nat} {m : Mem} {x : Option D} (d : Dr b n m) (hn : h ≠ n) : Dr b n (m.set h x) := by
  obtain ⟨ds, h1, h2⟩ := d
  exact ⟨ds, by rw [List.getElem?_set_ne hn]; exact h1, h2⟩
theorem Dr.of {b n : Nat} {m m' : Mem} (d : Dr b n m) (h : m'[n]? = m[n]?) : Dr b n m' := by
  obtain ⟨ds, h1, h2⟩ := d
  exact ⟨ds, by rw [h]; exact h1, h2⟩
theorem m_setG {m : Mem} {h : Nat} {x : Option D} (hh : h < m.length) : (m.set h x)[h]? = some x := List.getElem?_set_self hh
theorem list_rg {α : Type} {β : Type} {l : List α} {d : α} {f : α → β} : l.map f = (List.range l.length).map fun i => f (l.getD i d) := by
  apply List.ext_getElem?
  intro i
  rw [List.getElem?_map, List.getElem?_map]
  by_cases h : i < l.length
  · rw [List.getElem?_range h, List.getElem?_eq_getElem h]
    simp [h]
  · rw [List.getElem?_eq_none (by omega), List.getElem?_eq_none (by simpa using h)]; rfl
theorem list_choose {α : Type} [Inhabited α] {l : List D} {F : α → D} {P : α → Prop} (h : ∀ z ∈ l, ∃ x, z = F x ∧ P x) : ∃ f : Nat → α, l = ((List.range l.length).map fun i => F (f i)) ∧ ∀ i, i < l.length → P (f i) := by
  classical
  refine ⟨fun i => if hi : i < l.length then Classical.choose (h l[i] (List.getElem_mem hi)) else default, ?_, fun i hi => ?_⟩
  · apply List.ext_getElem?
    intro i
    rw [List.getElem?_map]
    by_cases hi : i < l.length
    · rw [List.getElem?_range hi, List.getElem?_eq_getElem hi, Option.map_some]
      dsimp only
      rw [dif_pos hi]
      exact congrArg some (Classical.choose_spec (h l[i] (List.getElem_mem hi))).1
    · rw [List.getElem?_eq_none (by omega), List.getElem?_eq_none (by simpa using hi)]; rfl
  · dsimp only
    rw [dif_pos hi]
    exact (Classical.choose_spec (h l[i] (List.getElem_mem hi))).2
/-- a list whose items are drawn -/
theorem lc_draw {b n : Nat} {it : EM (List D)} {vs : List Nat} {g : GM} {a : EM W} {rho : Den.Env} {m m0 : Mem} {N : Nat} {F : Nat → D} (Q : D → Prop) (R1 : Nat → Den.Env) (hit : it rho m = .ok ((List.range N).map F) m0) (hN : N ≤ 1000000) (d : Dr b n m0)
    (hg : ∀ i, i < N → ∀ m, g (.d (F i)) (wipeE rho vs) m = some (R1 i, m))
    (H : ∀ i, i < N → ∀ m, Dr b n m → m.length = m0.length → ∃ w m' z, a (R1 i) m = .ok w m' ∧ frz m' (val w) = some (z, m') ∧ Q z ∧ Dr b n m' ∧ m'.length = m.length ∧ ∀ j, j ≠ n → m'[j]? = m[j]?) :
    ∃ l m', mLC it vs g tYesT a rho m = .ok (.n (.list l)) m' ∧ l.length = N ∧ (∀ z ∈ l, Q z) ∧ Dr b n m' ∧ m'.length = m0.length ∧ ∀ j, j ≠ n → m'[j]? = m0[j]? := by
  obtain ⟨acc, m', e, d', l', q', h1, h2⟩ := mLC_inv (it := it) (vs := vs) (g := g) (t := tYesT) (a := a) (rho := rho) (m := m) (m0 := m0) (items := (List.range N).map F)
    (fun i m' acc => Dr b n m' ∧ m'.length = m0.length ∧ (∀ j, j ≠ n → m'[j]? = m0[j]?) ∧ acc.length = i ∧ ∀ z ∈ acc, Q z) hit (by rw [List.length_map, List.length_range]; exact hN) ⟨d, rfl, fun _ _ => rfl, rfl, fun z hz => by cases hz⟩ (fun i hi m1 acc ⟨d1, l1, q1, a1, a2⟩ => by
      have hi' : i < N := by simpa using hi
      have ei : ((List.range N).map F)[i] = F i := by simp
      rw [ei]
      obtain ⟨w, m2, z, e1, e2, e3, d2, l2, q2⟩ := H i hi' m1 d1 l1
      exact ⟨R1 i, true, m1, hg i hi' m1, rfl, (fun z => nomatch z), fun _ => ⟨w, m2, z, m2, e1, e2, d2, by omega, (fun j hj => by rw [q2 j hj, q1 j hj]), by simp [a1], fun y hy => by
        rcases List.mem_append.mp hy with hy | hy
        · exact a2 y hy
        · rw [List.mem_singleton.mp hy]; exact e3⟩⟩)
  rw [List.length_map, List.length_range] at h1
  exact ⟨acc, m', e, h1, h2, d', l', q'⟩
/-- what is drawn in a def -/
theorem run_draw {N : Nat} {c : SM} {ws : List W} {m m' : Mem} {x : D} {rho : Den.Env} (h0 : startE N ws = rho) (h : c rho m = .rt (.d x) m') (hl : m'.length = m.length) : runF N c ws m = .ok (.d x) m' := by
  subst h0
  exact run_d h hl
theorem mul_t {x : D} {n : Nat} (h : n ≤ 1000) : mulD (.tuple [x]) (.int (n : Int)) = some (.d (.tuple ((List.range n).map fun _ => x))) := by
  have e : decide (-1000000 ≤ (n : Int) ∧ (n : Int) ≤ 1000 ∧ [x].length ≤ 1000) = true := decide_eq_true ⟨by omega, by omega, by simp⟩
  show (if decide (-1000000 ≤ (n : Int) ∧ (n : Int) ≤ 1000 ∧ [x].length ≤ 1000) = true then some (W.d (.tuple (List.replicate (n : Int).toNat [x]).flatten)) else none) = _
  rw [if_pos e, Int.toNat_natCast, rep_map]
theorem pickF {b n : Nat} {m : Mem} {some_ : List D} (h : Dr b n m) (h0 : some_ ≠ []) : ∃ (x : D) (m' : Mem), F__law_pick [.r n, .d (.list some_)] m = .ok (.d x) m' ∧ x ∈ some_ ∧ Dr b n m' ∧ m'.length = m.length ∧ ∀ j, j ≠ n → m'[j]? = m[j]? := by
  obtain ⟨v, m', e, v0, v1, d, l, q⟩ := next_ok h
  have hp : 0 < (some_.length : Int) := by
    cases some_ with
    | nil => exact absurd rfl h0
    | cons a r => rw [List.length_cons]; omega
  have r0 := Int.emod_nonneg v (Int.ne_of_gt hp)
  have r1 := Int.emod_lt_of_pos v hp
  have hi : (v % (some_.length : Int)).toNat < some_.length := by omega
  have ha : atI some_ (v % (some_.length : Int)) = some some_[(v % (some_.length : Int)).toNat] := by
    unfold atI ixN
    rw [if_pos r0, if_pos r1]
    exact List.getElem?_eq_getElem hi
  refine ⟨some_[(v % (some_.length : Int)).toNat], m', ?_, List.getElem_mem hi, d, l, q⟩
  have tk : m'.take m.length = m' := List.take_of_length_le (by omega)
  simp [F__law_pick, runF, m__law_pick, startE, fin, e, mod_pos hp, ha, tk]
theorem pkF {b n : Nat} {m : Mem} {rho : Den.Env} {k : Nat} {c : EM (List W)} {xs : List D} (h : Dr b n m) (hv : rho[k]? = some (some (.r n))) (hl : mLst c rho m = .ok (.n (.list xs)) m) (h0 : xs ≠ []) : ∃ (x : D) (m' : Mem), mCall 2 F__law_pick (mCons (mVar k) (mCons (mLst c) (mNil))) rho m = .ok (.d x) m' ∧ x ∈ xs ∧ Dr b n m' ∧ m'.length = m.length ∧ ∀ j, j ≠ n → m'[j]? = m[j]? := by
  obtain ⟨x, m', e, r⟩ := pickF h h0
  exact ⟨x, m', call2_run (var_run hv) hl e, r⟩
end Law
set_option exponentiation.threshold 10000
namespace Law
open PySem PySem.Spec PyProof.Rows L2 Den
/-! the executor: lookups (sizeOf_list_dec), calls of the program's functions (array_mem_dec, to be told more), all else (array_get_dec) -/
local macro_rules | `(tactic| sizeOf_list_dec) => `(tactic| repeat' (first
  | (with_reducible (show _ = _; assumption))
  | ((with_reducible apply set_ne'); · decide)
  | ((with_reducible apply wipe_ne'); · decide)
  | ((with_reducible apply set_eq'); · ((try simp only [List.length_set, wipe_len, List.length_cons, List.length_nil]); omega))
  | with_reducible exact look_Z
  | with_reducible apply look_S
  | rfl))
local macro_rules | `(tactic| array_get_dec) => `(tactic| repeat' (first
  | with_reducible exact const_run
  | ((with_reducible apply x_constE); rfl)
  | with_reducible (show _ = _; assumption)
  | ((with_reducible apply var_run); sizeOf_list_dec)
  | ((with_reducible apply set_ne'); · decide)
  | ((with_reducible apply wipe_ne'); · decide)
  | ((with_reducible apply set_eq'); · ((try simp only [List.length_set, wipe_len, List.length_cons, List.length_nil]); omega))
  | with_reducible exact look_Z
  | with_reducible apply look_S
  | with_reducible exact nil_run
  | with_reducible apply cons_run
  | with_reducible apply x_bool
  | with_reducible apply x_tru
  | with_reducible apply x_notT
  | with_reducible apply x_andT
  | with_reducible apply x_orT
  | with_reducible apply x_andV
  | with_reducible apply x_orV
  | with_reducible apply x_notV
  | with_reducible apply x_if
  | with_reducible apply x_chain
  | with_reducible apply x_chain3
  | with_reducible apply add_run
  | with_reducible apply x_sub
  | with_reducible apply x_mul
  | with_reducible apply x_mod
  | with_reducible apply x_neg
  | with_reducible apply ix_run
  | with_reducible apply op_run
  | with_reducible apply b_run
  | with_reducible apply x_call
  | with_reducible exact x_dnew
  | with_reducible apply x_new
  | with_reducible apply x_maxDf
  | with_reducible apply x_starL
  | with_reducible apply tup_run
  | with_reducible apply lst_run
  | with_reducible apply x_items
  | with_reducible apply x_zipR
  | with_reducible apply x_zipB
  | with_reducible apply x_enumR
  | with_reducible apply x_enum
  | with_reducible apply x_rangeN
  | with_reducible apply x_range
  | with_reducible apply x_lc
  | with_reducible apply x_lcF
  | ((with_reducible apply x_slFromS); · array_get_dec)
  | ((with_reducible apply x_slFromR); · array_get_dec)
  | ((with_reducible apply x_slFromRL); · array_get_dec)
  | ((with_reducible apply x_slToR); · array_get_dec)
  | ((with_reducible apply x_slFrom); · array_get_dec)
  | ((with_reducible apply x_slTo); · array_get_dec)
  | with_reducible apply s_ret
  | with_reducible apply s_seq
  | with_reducible apply s_asg
  | with_reducible apply s_asgR
  | with_reducible apply s_par
  | with_reducible apply s_tup
  | with_reducible apply s_aug
  | with_reducible apply s_app
  | with_reducible apply s_drop
  | with_reducible exact s_skip
  | simp only [val_d, val_n, val_r, val_s]
  | with_reducible exact set_Z
  | with_reducible apply set_S
  | with_reducible apply x_gT2
  | with_reducible apply x_gN
  | with_reducible apply x_gT
  | with_reducible exact x_gA0
  | with_reducible apply x_gA
  | array_mem_dec
  | with_reducible apply x_addL
  | with_reducible apply x_addT
  | with_reducible exact l2_add
  | with_reducible exact l2_le
  | with_reducible exact l2_lt
  | with_reducible exact l2_gt
  | with_reducible exact l2_ge
  | with_reducible exact l2_eq
  | with_reducible exact l2_ne
  | with_reducible exact l2_inN
  | with_reducible exact l2_ninN
  | with_reducible exact l2_gtP
  | with_reducible exact l2_ltP
  | with_reducible exact l2_eqS
  | with_reducible exact l2_neS
  | ((with_reducible show lift2 _ _ _ _ = _); rfl)
  | with_reducible apply x_ixT
  | with_reducible apply x_ixL
  | with_reducible apply x_ixR
  | ((with_reducible show fIx _ _ _ = _); rfl)
  | with_reducible exact x_lenRgT
  | with_reducible exact x_lenRgL
  | ((with_reducible show fD1 _ _ _ = _); exact x_D1 rfl all_map)
  | with_reducible apply x_N1
  | with_reducible apply peek_of
  | ((with_reducible show fD1 _ _ _ = _); exact x_D1 rfl any_map)
  | ((with_reducible show fD1 _ _ _ = _); exact x_D1 rfl sum_map)
  | ((with_reducible show fTup _ _ = _); exact x_tup rfl rfl)
  | with_reducible apply x_tupR
  | with_reducible apply x_lenR
  | with_reducible exact m_get0 _ _ _
  | with_reducible exact m_get1 _ _ _ _
  | with_reducible exact m_get2 _ _ _ _ _
  | with_reducible exact m_get3 _ _ _ _ _ _
  | with_reducible exact m_set0 _ _ _ _
  | with_reducible exact m_set1 _ _ _ _ _
  | with_reducible exact m_set2 _ _ _ _ _ _
  | with_reducible exact m_set3 _ _ _ _ _ _ _
  | with_reducible exact m_last _ _
  | with_reducible exact m_setL _ _ _
  | ((with_reducible show fD1 _ _ _ = _); rfl)
  | ((with_reducible show truW _ _ = _); rfl)
  | ((with_reducible show _ = PyData.tuple [_, _]); rfl)
  | ((with_reducible show frz _ _ = _); rfl)
  | ((with_reducible show frzAll _ _ = _); rfl)
  | ((with_reducible show seqOf _ = _); rfl)
  | ((with_reducible show peek _ (W.d _) = _); rfl)
  | ((with_reducible show List.length (_ :: _) = _); rfl)
  | ((with_reducible show List.length [] = _); rfl)
  | ((with_reducible show small _ = _); rfl)
  | (apply small_le; simp only [List.length_map, List.length_cons, List.length_nil, List.length_range, List.length_zip, List.length_zipIdx, List.length_drop, List.length_take, List.length_append]; omega)
  | with_reducible rfl
  | (show _ < _; assumption)
  | (show _ ≤ _; assumption)
  | (apply rg_get; first | assumption | omega | (simp only [List.mem_range] at *; omega))
  | (show ∀ x ∈ _, _; intro x hx)
  | (show _ = true → _; intro hp)
  | (show _ = false → _; intro hp)
  | (simp only [List.length_map, List.length_cons, List.length_nil, List.length_range, List.length_zip, List.length_zipIdx, List.length_drop, List.length_take, List.length_append, Nat.reduceLeDiff, Nat.reduceAdd]; done)
  | (simp only [List.length_map, List.length_cons, List.length_nil, List.length_range, List.length_zip, List.length_zipIdx, List.length_drop, List.length_take, List.length_append]; omega)
  | omega
  | (simp only [List.mem_range, List.length_map, List.length_range, List.length_cons, List.length_nil, List.length_append] at *; omega)))
/-! k21: forms of terms: the program's and the law's functions say the same -/
inductive Tm : D → Prop
  | none : Tm .none
  | int (i : Int) : Tm (.int i)
  | str (s : Str) : Tm (.str s)
  | tup (ds : List D) (hl : ds.length ≤ 100) (h : ∀ d ∈ ds, Tm d) : Tm (.tuple ds)
def isI : D → Bool
  | .int _ => true
  | _ => false
def isT : D → Bool
  | .tuple _ => true
  | _ => false
def rowB : D → Bool
  | .tuple ds => ds.all isI
  | _ => false
def prB : D → Bool
  | .tuple ds => ds.all rowB
  | _ => false
def rateB : D → Bool
  | .tuple [a, b, c] => isI a && isI b && rowB c
  | _ => false
def chainB : D → Bool
  | .tuple [a, .tuple ds] => isI a && ds.all rateB
  | _ => false
def stationB : D → Bool
  | .tuple [a, b] => prB a && prB b
  | _ => false
def stepsB : D → Bool
  | .tuple ds => ds.all prB
  | _ => false
def slotsB : D → Bool
  | .tuple [a, b, c] => isI a && prB b && prB c
  | _ => false
section
variable {m : Mem} {rho : Den.Env} {a : EM W}
theorem isint_e {t : D} (h : a rho m = .ok (.d t) m) (ht : Tm t) : mIsInt a rho m = .ok (.d (.bool (isI t))) m := by
  unfold mIsInt
  rw [h, ev_bindV, val_d, peek_d]
  cases ht <;> rfl
theorem istup_e {t : D} (h : a rho m = .ok (.d t) m) (ht : Tm t) : mIsTup a rho m = .ok (.d (.bool (isT t))) m := by
  unfold mIsTup
  rw [h, ev_bindV, val_d, peek_d]
  cases ht <;> rfl
/-- all entries of a tuple are so -/
theorem lc_pred {it : EM D} {i v : Nat} {ds : List D} {p : D → Bool} (h : rho[i]? = some (some (.d (.tuple ds)))) (hl : ds.length ≤ 1000000) (ha : ∀ d ∈ ds, a ((wipeE rho [v]).set v (some (.d d))) m = .ok (.d (.bool (p d))) m) : mB (mCons (mLC (mItems (mVar i)) [v] (gN v) (tYesT) a) (mNil)) (fD1 allD) rho m = .ok (.d (.bool (ds.all p))) m := by
  refine b_run (cons_run (w := .n (.list (ds.map fun d => .bool (p d)))) (m1 := m) (x_lc (l := ds) (F := id) (R1 := fun d => (wipeE rho [v]).set v (some (.d d))) (wv := fun d => .d (.bool (p d))) ?_ hl (fun d _ => rfl) ha fun d _ => rfl) nil_run) (x_D1 rfl (all_eq ds p))
  rw [List.map_id]
  exact x_items (var_run h) rfl rfl
theorem lc_predI {b c : EM W} {v : Nat} {ds : List D} {p : D → Bool} (h : mIx b c rho m = .ok (.d (.tuple ds)) m) (hl : ds.length ≤ 1000000) (ha : ∀ d ∈ ds, a ((wipeE rho [v]).set v (some (.d d))) m = .ok (.d (.bool (p d))) m) : mB (mCons (mLC (mItems (mIx b c)) [v] (gN v) (tYesT) a) (mNil)) (fD1 allD) rho m = .ok (.d (.bool (ds.all p))) m := by
  refine b_run (cons_run (w := .n (.list (ds.map fun d => .bool (p d)))) (m1 := m) (x_lc (l := ds) (F := id) (R1 := fun d => (wipeE rho [v]).set v (some (.d d))) (wv := fun d => .d (.bool (p d))) ?_ hl (fun d _ => rfl) ha fun d _ => rfl) nil_run) (x_D1 rfl (all_eq ds p))
  rw [List.map_id]
  exact x_items h rfl rfl
theorem isinteger_ok {t : D} (ht : Tm t) : F_is_integer [.d t] m = .ok (.d (.bool (isI t))) m := by
  unfold F_is_integer
  refine x_fun (rho := [some (.d t)]) rfl (y := .bool (isI t)) ?_ rfl take_len
  unfold m_is_integer
  exact s_ret (isint_e (var_run rfl) ht)
theorem isrow_ok {t : D} (ht : Tm t) : F_is_row [.d t] m = .ok (.d (.bool (rowB t))) m := by
  unfold F_is_row
  refine x_fun (rho := [some (.d t), none]) rfl (y := .bool (isT t && rowB t)) ?_ (by cases ht <;> rfl) take_len
  unfold m_is_row
  refine s_ret (x_andV (istup_e (var_run rfl) ht) fun hp => ?_)
  cases ht with
  | tup ds hl h => exact lc_pred (it := fun _ _ => .no) (p := isI) rfl (by omega) fun d hd => x_call (cons_run (w := .d d) (var_run rfl) nil_run) (isinteger_ok (h d hd)) rfl
  | _ => cases hp
theorem lrow_ok {t : D} (ht : Tm t) : F__law_is_row [.d t] m = .ok (.d (.bool (rowB t))) m := by
  unfold F__law_is_row
  refine x_fun (rho := [some (.d t), none]) rfl (y := .bool (isT t && rowB t)) ?_ (by cases ht <;> rfl) take_len
  unfold m__law_is_row
  refine s_ret (x_andV (istup_e (var_run rfl) ht) fun hp => ?_)
  cases ht with
  | tup ds hl h => exact lc_pred (it := fun _ _ => .no) (p := isI) rfl (by omega) fun d hd => isint_e (var_run rfl) (h d hd)
  | _ => cases hp
theorem pairs_ok {t : D} (ht : Tm t) : F_are_pairs [.d t] m = .ok (.d (.bool (prB t))) m := by
  unfold F_are_pairs
  refine x_fun (rho := [some (.d t), none]) rfl (y := .bool (isT t && prB t)) ?_ (by cases ht <;> rfl) take_len
  unfold m_are_pairs
  refine s_ret (x_andV (istup_e (var_run rfl) ht) fun hp => ?_)
  cases ht with
  | tup ds hl h => exact lc_pred (it := fun _ _ => .no) (p := rowB) rfl (by omega) fun d hd => x_call (cons_run (w := .d d) (var_run rfl) nil_run) (isrow_ok (h d hd)) rfl
  | _ => cases hp
theorem lpairs_ok {t : D} (ht : Tm t) : F__law_are_pairs [.d t] m = .ok (.d (.bool (prB t))) m := by
  unfold F__law_are_pairs
  refine x_fun (rho := [some (.d t), none]) rfl (y := .bool (isT t && prB t)) ?_ (by cases ht <;> rfl) take_len
  unfold m__law_are_pairs
  refine s_ret (x_andV (istup_e (var_run rfl) ht) fun hp => ?_)
  cases ht with
  | tup ds hl h => exact lc_pred (it := fun _ _ => .no) (p := rowB) rfl (by omega) fun d hd => x_call (cons_run (w := .d d) (var_run rfl) nil_run) (lrow_ok (h d hd)) rfl
  | _ => cases hp
theorem steps_ok {t : D} (ht : Tm t) : F_are_steps [.d t] m = .ok (.d (.bool (stepsB t))) m := by
  unfold F_are_steps
  refine x_fun (rho := [some (.d t), none]) rfl (y := .bool (isT t && stepsB t)) ?_ (by cases ht <;> rfl) take_len
  unfold m_are_steps
  refine s_ret (x_andV (istup_e (var_run rfl) ht) fun hp => ?_)
  cases ht with
  | tup ds hl h => exact lc_pred (it := fun _ _ => .no) (p := prB) rfl (by omega) fun d hd => x_call (cons_run (w := .d d) (var_run rfl) nil_run) (pairs_ok (h d hd)) rfl
  | _ => cases hp
theorem len_e {i : Nat} {ds : List D} (h : rho[i]? = some (some (.d (.tuple ds)))) : mB (mCons (mVar i) (mNil)) (fD1 lenD) rho m = .ok (.d (nD ds.length)) m := len_b h
theorem ix_e {i k : Nat} {ds : List D} {x : D} (h : rho[i]? = some (some (.d (.tuple ds)))) (hx : ds[k]? = some x) : mIx (mVar i) (mC (.int (k : Int))) rho m = .ok (.d x) m := by
  refine ix_run (var_run h) const_run ?_
  have := x_ixT (m := m) (f := id) (l := ds) (k := k) (x := x) hx
  rw [List.map_id] at this
  exact this
theorem Tm.mem {ds : List D} (h : Tm (.tuple ds)) : ∀ d ∈ ds, Tm d := by
  cases h with
  | tup ds hl h => exact h
theorem Tm.len {ds : List D} (h : Tm (.tuple ds)) : ds.length ≤ 100 := by
  cases h with
  | tup ds hl h => exact hl
theorem rate_ok {t : D} (ht : Tm t) : F_is_told_rate [.d t] m = .ok (.d (.bool (rateB t))) m := by
  unfold F_is_told_rate
  have key : ∃ q : Bool, m_is_told_rate [some (.d t)] m = .rt (.d (.bool q)) m ∧ q = rateB t := by
    unfold m_is_told_rate
    by_cases h3 : ∃ a b c, t = .tuple [a, b, c]
    · obtain ⟨a, b, c, rfl⟩ := h3
      have ha := ht.mem a (by simp)
      have hb := ht.mem b (by simp)
      have hc := ht.mem c (by simp)
      have h2 : Tm (.tuple [a, b]) := .tup _ (show 2 ≤ 100 by decide) fun d hd => ht.mem d (by simp at hd ⊢; rcases hd with rfl | rfl <;> simp)
      refine ⟨true && (true && (rowB (.tuple [a, b]) && rowB c)), s_ret (x_andV (istup_e (var_run rfl) ht) fun _ => x_andV (op_run (len_e rfl) const_run rfl) fun _ => x_andV ?_ fun _ => ?_), ?_⟩
      · refine x_call (ws := [.d (.tuple [a, b])]) (cons_run (w := .d (.tuple [a, b])) (m1 := m) ?_ nil_run) (isrow_ok h2) rfl
        exact sl_to (xs := [a, b, c]) (k := 2) (var_run rfl) const_run
      · exact x_call (ws := [.d c]) (cons_run (w := .d c) (m1 := m) (ix_e (k := 2) rfl rfl) nil_run) (isrow_ok hc) rfl
      · simp [rowB, rateB, Bool.and_assoc]
    · refine ⟨false, ?_, ?_⟩
      · cases ht with
        | tup ds hl h =>
          have hl3 : ds.length ≠ 3 := fun z => h3 (by
            match ds, z with
            | [a, b, c], _ => exact ⟨a, b, c, rfl⟩)
          refine s_ret (x_to (x_andV (p := true) (q := false) (istup_e (var_run rfl) (.tup ds hl h)) fun _ => x_andV (p := false) (q := false) (op_run (len_e rfl) const_run (l2_eq.trans ?_)) fun z => by cases z) rfl)
          rw [show ((ds.length : Int) == 3) = false by rw [beq_eq_false_iff_ne]; omega]
        | none => exact s_ret (x_andV (p := false) (q := false) (istup_e (var_run rfl) .none) fun z => by cases z)
        | int i => exact s_ret (x_andV (p := false) (q := false) (istup_e (var_run rfl) (.int i)) fun z => by cases z)
        | str i => exact s_ret (x_andV (p := false) (q := false) (istup_e (var_run rfl) (.str i)) fun z => by cases z)
      · unfold rateB
        split
        · rename_i a b c
          exact absurd ⟨a, b, c, rfl⟩ h3
        · rfl
  obtain ⟨q, h1, h2⟩ := key
  exact x_fun (rho := [some (.d t)]) rfl h1 (by rw [h2]) take_len
/-- the outcome of a body -/
theorem run_bool {N : Nat} {c : SM} {ws : List W} {rho : Den.Env} {b b' : Bool} (h0 : startE N ws = rho) (h : ∃ q : Bool, c rho m = .rt (.d (.bool q)) m ∧ q = b) : runF N c ws m = .ok (.d (.bool b)) m := by
  obtain ⟨q, h1, rfl⟩ := h
  exact x_fun h0 h1 rfl take_len
theorem andF {c d : EM W} (h : c rho m = .ok (.d (.bool false)) m) : mAndV c d rho m = .ok (.d (.bool false)) m := x_andV (p := false) (q := false) h fun z => by cases z
theorem andT {c d : EM W} {q : Bool} (h : c rho m = .ok (.d (.bool true)) m) (h2 : d rho m = .ok (.d (.bool q)) m) : mAndV c d rho m = .ok (.d (.bool q)) m := (x_andV (p := true) (q := q) h fun _ => h2).trans (by rw [Bool.true_and])
theorem eqLen {i : Nat} {ds : List D} {k : Nat} (h : rho[i]? = some (some (.d (.tuple ds)))) : mOp2 (mB (mCons (mVar i) (mNil)) (fD1 lenD)) (mC (.int (k : Int))) (lift2 eqD) rho m = .ok (.d (.bool (decide (ds.length = k)))) m := by
  refine op_run (len_e h) const_run (l2_eq.trans ?_)
  congr 3
  rw [Bool.eq_iff_iff, beq_iff_eq, decide_eq_true_eq]
  omega
theorem neLen {i : Nat} {ds : List D} {k : Nat} (h : rho[i]? = some (some (.d (.tuple ds)))) : mBool (mOp2 (mB (mCons (mVar i) (mNil)) (fD1 lenD)) (mC (.int (k : Int))) (lift2 neD)) rho m = .ok (!decide (ds.length = k)) m := by
  refine bool_run (op_run (len_e h) const_run (l2_ne.trans ?_))
  congr 4
  rw [Bool.eq_iff_iff, beq_iff_eq, decide_eq_true_eq]
  omega
theorem orF {t u : EM Bool} {q : Bool} (h : t rho m = .ok false m) (h2 : u rho m = .ok q m) : mOrT t u rho m = .ok q m := (x_orT (p := false) (q := q) h fun _ => h2).trans (by rw [Bool.false_or])
theorem orT {t u : EM Bool} (h : t rho m = .ok true m) : mOrT t u rho m = .ok true m := x_orT (p := true) (q := true) h fun z => by cases z
theorem truB {b : Bool} (h : a rho m = .ok (.d (.bool b)) m) : mTru a rho m = .ok b m := x_tru h rfl
theorem ntruB {b : Bool} (h : a rho m = .ok (.d (.bool b)) m) : mNotT (mTru a) rho m = .ok (!b) m := x_notT (truB h)
theorem two_or {t : D} (ht : Tm t) : (∃ a b, t = .tuple [a, b]) ∨ (isT t = false) ∨ ∃ ds, t = .tuple ds ∧ ds.length ≠ 2 := by
  cases ht with
  | tup ds hl h =>
    by_cases h2 : ds.length = 2
    · match ds, h2 with
      | [a, b], _ => exact .inl ⟨a, b, rfl⟩
    · exact .inr (.inr ⟨ds, rfl, h2⟩)
  | _ => exact .inr (.inl rfl)
theorem three_or {t : D} (ht : Tm t) : (∃ a b c, t = .tuple [a, b, c]) ∨ (isT t = false) ∨ ∃ ds, t = .tuple ds ∧ ds.length ≠ 3 := by
  cases ht with
  | tup ds hl h =>
    by_cases h2 : ds.length = 3
    · match ds, h2 with
      | [a, b, c], _ => exact .inl ⟨a, b, c, rfl⟩
    · exact .inr (.inr ⟨ds, rfl, h2⟩)
  | _ => exact .inr (.inl rfl)
theorem chain_noT {t : D} (h : isT t = false) : chainB t = false ∧ stationB t = false ∧ slotsB t = false := by
  cases t <;> first | (cases h; done) | exact ⟨rfl, rfl, rfl⟩
theorem chain_no2 {ds : List D} (h : ds.length ≠ 2) : chainB (.tuple ds) = false ∧ stationB (.tuple ds) = false := by
  match ds, h with
  | [], _ => exact ⟨rfl, rfl⟩
  | [_], _ => exact ⟨rfl, rfl⟩
  | [_, _], h => exact absurd rfl h
  | _ :: y :: _ :: _, _ => exact ⟨by cases y <;> rfl, rfl⟩
theorem slots_no3 {ds : List D} (h : ds.length ≠ 3) : slotsB (.tuple ds) = false := by
  match ds, h with
  | [], _ => rfl
  | [_], _ => rfl
  | [_, _], _ => rfl
  | [_, _, _], h => exact absurd rfl h
  | _ :: _ :: _ :: _ :: _, _ => rfl
theorem chainB_noT {a b : D} (h : isT b = false) : chainB (.tuple [a, b]) = false := by
  cases b <;> first | (cases h; done) | rfl
/-- the test of is_told_chain and of the law's own -/
theorem chain_ok {t : D} (ht : Tm t) : F_is_told_chain [.d t] m = .ok (.d (.bool (chainB t))) m := by
  unfold F_is_told_chain
  refine run_bool (b' := true) (rho := [some (.d t), none]) rfl ?_
  unfold m_is_told_chain
  have e1 := istup_e (m := m) (rho := [some (.d t), none]) (var_run (i := 0) rfl) ht
  rcases two_or ht with ⟨a, b, rfl⟩ | h | ⟨ds, rfl, h⟩
  · have ha := ht.mem a (by simp)
    have hb := ht.mem b (by simp)
    have e2 : mIx (mVar 0) (mC (.int 0)) [some (.d (.tuple [a, b])), none] m = .ok (.d a) m := ix_e (k := 0) rfl rfl
    have e3 : mIx (mVar 0) (mC (.int 1)) [some (.d (.tuple [a, b])), none] m = .ok (.d b) m := ix_e (k := 1) rfl rfl
    have e4 : mCall 1 F_is_integer (mCons (mIx (mVar 0) (mC (.int 0))) (mNil)) [some (.d (.tuple [a, b])), none] m = .ok (.d (.bool (isI a))) m := x_call (cons_run e2 nil_run) (isinteger_ok ha) rfl
    have e5 := istup_e e3 hb
    have e6 : mBool (mOp2 (mB (mCons (mVar 0) (mNil)) (fD1 lenD)) (mC (.int 2)) (lift2 neD)) [some (.d (.tuple [a, b])), none] m = .ok false m := (neLen (k := 2) rfl).trans rfl
    by_cases hi : isI a = true
    · rw [hi] at e4
      by_cases hT : isT b = true
      · rw [hT] at e5
        refine ⟨chainB (.tuple [a, b]), s_seq (s_if_f (k := false) (m1 := m) (orF (ntruB e1) (orF e6 (orF (ntruB e4) (ntruB e5)))) rfl s_skip) ?_, ?_⟩
        · cases hb with
          | tup ds hl h =>
            refine (s_ret (lc_predI (p := rateB) e3 (by omega) fun d hd => x_call (cons_run (w := .d d) (var_run rfl) nil_run) (rate_ok (h d hd)) rfl)).trans ?_
            show _ = Out.rt (.d (.bool (isI a && ds.all rateB))) m
            rw [hi, Bool.true_and]
          | _ => cases hT
        · rfl
      · have hT' : isT b = false := by simpa using hT
        rw [hT'] at e5
        exact ⟨false, s_seq_rt (s_if_t (k := true) (m1 := m) (orF (ntruB e1) (orF e6 (orF (ntruB e4) (ntruB e5)))) rfl (s_ret const_run)), (chainB_noT hT').symm⟩
    · have hi' : isI a = false := by simpa using hi
      rw [hi'] at e4
      refine ⟨false, s_seq_rt (s_if_t (k := true) (m1 := m) (orF (ntruB e1) (orF e6 (orT (ntruB e4)))) rfl (s_ret const_run)), ?_⟩
      cases b <;> simp [chainB, hi']
  · rw [h] at e1
    exact ⟨false, s_seq_rt (s_if_t (k := true) (m1 := m) (orT (ntruB e1)) rfl (s_ret const_run)), (chain_noT h).1.symm⟩
  · refine ⟨false, s_seq_rt (s_if_t (k := true) (m1 := m) (orF (ntruB e1) (orT ((neLen (k := 2) rfl).trans (by rw [decide_eq_false h]; rfl)))) rfl (s_ret const_run)), (chain_no2 h).1.symm⟩
  where s_seq_rt {c d : SM} {rho : Den.Env} {m m1 : Mem} {w : W} (h : c rho m = .rt w m1) : sSeq c d rho m = .rt w m1 := by rw [e_Seq, h]
end
end Law
set_option exponentiation.threshold 10000
namespace Law
open PySem PySem.Spec PyProof.Rows L2 Den
/-! the executor: lookups (sizeOf_list_dec), calls of the program's functions (array_mem_dec, to be told more), all else (array_get_dec) -/
local macro_rules | `(tactic| sizeOf_list_dec) => `(tactic| repeat' (first
  | (with_reducible (show _ = _; assumption))
  | ((with_reducible apply set_ne'); · decide)
  | ((with_reducible apply wipe_ne'); · decide)
  | ((with_reducible apply set_eq'); · ((try simp only [List.length_set, wipe_len, List.length_cons, List.length_nil]); omega))
  | with_reducible exact look_Z
  | with_reducible apply look_S
  | rfl))
local macro_rules | `(tactic| array_get_dec) => `(tactic| repeat' (first
  | with_reducible exact const_run
  | ((with_reducible apply x_constE); rfl)
  | with_reducible (show _ = _; assumption)
  | ((with_reducible apply var_run); sizeOf_list_dec)
  | ((with_reducible apply set_ne'); · decide)
  | ((with_reducible apply wipe_ne'); · decide)
  | ((with_reducible apply set_eq'); · ((try simp only [List.length_set, wipe_len, List.length_cons, List.length_nil]); omega))
  | with_reducible exact look_Z
  | with_reducible apply look_S
  | with_reducible exact nil_run
  | with_reducible apply cons_run
  | with_reducible apply x_bool
  | with_reducible apply x_tru
  | with_reducible apply x_notT
  | with_reducible apply x_andT
  | with_reducible apply x_orT
  | with_reducible apply x_andV
  | with_reducible apply x_orV
  | with_reducible apply x_notV
  | with_reducible apply x_if
  | with_reducible apply x_chain
  | with_reducible apply x_chain3
  | with_reducible apply add_run
  | with_reducible apply x_sub
  | with_reducible apply x_mul
  | with_reducible apply x_mod
  | with_reducible apply x_neg
  | with_reducible apply ix_run
  | with_reducible apply op_run
  | with_reducible apply b_run
  | with_reducible apply x_call
  | with_reducible exact x_dnew
  | with_reducible apply x_new
  | with_reducible apply x_maxDf
  | with_reducible apply x_starL
  | with_reducible apply tup_run
  | with_reducible apply lst_run
  | with_reducible apply x_items
  | with_reducible apply x_zipR
  | with_reducible apply x_zipB
  | with_reducible apply x_enumR
  | with_reducible apply x_enum
  | with_reducible apply x_rangeN
  | with_reducible apply x_range
  | with_reducible apply x_lc
  | with_reducible apply x_lcF
  | ((with_reducible apply x_slFromS); · array_get_dec)
  | ((with_reducible apply x_slFromR); · array_get_dec)
  | ((with_reducible apply x_slFromRL); · array_get_dec)
  | ((with_reducible apply x_slToR); · array_get_dec)
  | ((with_reducible apply x_slFrom); · array_get_dec)
  | ((with_reducible apply x_slTo); · array_get_dec)
  | with_reducible apply s_ret
  | with_reducible apply s_seq
  | with_reducible apply s_asg
  | with_reducible apply s_asgR
  | with_reducible apply s_par
  | with_reducible apply s_tup
  | with_reducible apply s_aug
  | with_reducible apply s_app
  | with_reducible apply s_drop
  | with_reducible exact s_skip
  | simp only [val_d, val_n, val_r, val_s]
  | with_reducible exact set_Z
  | with_reducible apply set_S
  | with_reducible apply x_gT2
  | with_reducible apply x_gN
  | with_reducible apply x_gT
  | with_reducible exact x_gA0
  | with_reducible apply x_gA
  | array_mem_dec
  | with_reducible apply x_addL
  | with_reducible apply x_addT
  | with_reducible exact l2_add
  | with_reducible exact l2_le
  | with_reducible exact l2_lt
  | with_reducible exact l2_gt
  | with_reducible exact l2_ge
  | with_reducible exact l2_eq
  | with_reducible exact l2_ne
  | with_reducible exact l2_inN
  | with_reducible exact l2_ninN
  | with_reducible exact l2_gtP
  | with_reducible exact l2_ltP
  | with_reducible exact l2_eqS
  | with_reducible exact l2_neS
  | ((with_reducible show lift2 _ _ _ _ = _); rfl)
  | with_reducible apply x_ixT
  | with_reducible apply x_ixL
  | with_reducible apply x_ixR
  | ((with_reducible show fIx _ _ _ = _); rfl)
  | with_reducible exact x_lenRgT
  | with_reducible exact x_lenRgL
  | ((with_reducible show fD1 _ _ _ = _); exact x_D1 rfl all_map)
  | with_reducible apply x_N1
  | with_reducible apply peek_of
  | ((with_reducible show fD1 _ _ _ = _); exact x_D1 rfl any_map)
  | ((with_reducible show fD1 _ _ _ = _); exact x_D1 rfl sum_map)
  | ((with_reducible show fTup _ _ = _); exact x_tup rfl rfl)
  | with_reducible apply x_tupR
  | with_reducible apply x_lenR
  | with_reducible exact m_get0 _ _ _
  | with_reducible exact m_get1 _ _ _ _
  | with_reducible exact m_get2 _ _ _ _ _
  | with_reducible exact m_get3 _ _ _ _ _ _
  | with_reducible exact m_set0 _ _ _ _
  | with_reducible exact m_set1 _ _ _ _ _
  | with_reducible exact m_set2 _ _ _ _ _ _
  | with_reducible exact m_set3 _ _ _ _ _ _ _
  | with_reducible exact m_last _ _
  | with_reducible exact m_setL _ _ _
  | ((with_reducible show fD1 _ _ _ = _); rfl)
  | ((with_reducible show truW _ _ = _); rfl)
  | ((with_reducible show _ = PyData.tuple [_, _]); rfl)
  | ((with_reducible show frz _ _ = _); rfl)
  | ((with_reducible show frzAll _ _ = _); rfl)
  | ((with_reducible show seqOf _ = _); rfl)
  | ((with_reducible show peek _ (W.d _) = _); rfl)
  | ((with_reducible show List.length (_ :: _) = _); rfl)
  | ((with_reducible show List.length [] = _); rfl)
  | ((with_reducible show small _ = _); rfl)
  | (apply small_le; simp only [List.length_map, List.length_cons, List.length_nil, List.length_range, List.length_zip, List.length_zipIdx, List.length_drop, List.length_take, List.length_append]; omega)
  | with_reducible rfl
  | (show _ < _; assumption)
  | (show _ ≤ _; assumption)
  | (apply rg_get; first | assumption | omega | (simp only [List.mem_range] at *; omega))
  | (show ∀ x ∈ _, _; intro x hx)
  | (show _ = true → _; intro hp)
  | (show _ = false → _; intro hp)
  | (simp only [List.length_map, List.length_cons, List.length_nil, List.length_range, List.length_zip, List.length_zipIdx, List.length_drop, List.length_take, List.length_append, Nat.reduceLeDiff, Nat.reduceAdd]; done)
  | (simp only [List.length_map, List.length_cons, List.length_nil, List.length_range, List.length_zip, List.length_zipIdx, List.length_drop, List.length_take, List.length_append]; omega)
  | omega
  | (simp only [List.mem_range, List.length_map, List.length_range, List.length_cons, List.length_nil, List.length_append] at *; omega)))
/-! k21: has_form, what is due -/
section
variable {m : Mem} {rho : Den.Env} {a : EM W}
theorem rt_of {c d : SM} {rho : Den.Env} {m m1 : Mem} {w : W} (h : c rho m = .rt w m1) : sSeq c d rho m = .rt w m1 := by rw [e_Seq, h]
theorem eqLenY {i : Nat} {ds : List D} {k : Nat} (h : rho[i]? = some (some (.d (.tuple ds)))) (hk : ds.length = k) : mOp2 (mB (mCons (mVar i) (mNil)) (fD1 lenD)) (mC (.int (k : Int))) (lift2 eqD) rho m = .ok (.d (.bool true)) m := (eqLen h).trans (by rw [decide_eq_true hk])
theorem all2 {a b : D} {p : D → Bool} : [a, b].all p = (p a && p b) := by simp
theorem station_ok {t : D} (ht : Tm t) : F_is_told_station [.d t] m = .ok (.d (.bool (stationB t))) m := by
  unfold F_is_told_station
  refine run_bool (b' := true) (rho := [some (.d t), none]) rfl ?_
  unfold m_is_told_station
  have e1 := istup_e (m := m) (rho := [some (.d t), none]) (var_run (i := 0) rfl) ht
  rcases two_or ht with ⟨a, b, rfl⟩ | h | ⟨ds, rfl, h⟩
  · refine ⟨stationB (.tuple [a, b]), s_ret (andT e1 (andT (eqLenY (k := 2) rfl rfl) ?_)), rfl⟩
    have q := lc_pred (m := m) (rho := [some (.d (.tuple [a, b])), none]) (it := fun _ _ => .no) (i := 0) (v := 1) (a := mCall 1 F_are_pairs (mCons (mVar 1) (mNil))) (p := prB) rfl (show 2 ≤ 1000000 by decide) fun d hd => x_call (cons_run (w := .d d) (var_run rfl) nil_run) (pairs_ok (ht.mem d hd)) rfl
    rw [all2] at q
    exact q
  · rw [h] at e1
    exact ⟨false, s_ret (andF e1), (chain_noT h).2.1.symm⟩
  · exact ⟨false, s_ret (andT e1 (andF ((eqLen (k := 2) rfl).trans (by rw [decide_eq_false h])))), (chain_no2 h).2.symm⟩
theorem slots_ok {t : D} (ht : Tm t) : F_are_slots [.d t] m = .ok (.d (.bool (slotsB t))) m := by
  unfold F_are_slots
  refine run_bool (b' := true) (rho := [some (.d t)]) rfl ?_
  unfold m_are_slots
  have e1 := istup_e (m := m) (rho := [some (.d t)]) (var_run (i := 0) rfl) ht
  rcases three_or ht with ⟨a, b, c, rfl⟩ | h | ⟨ds, rfl, h⟩
  · have ha := ht.mem a (by simp)
    have hb := ht.mem b (by simp)
    have hc := ht.mem c (by simp)
    have e2 : mIx (mVar 0) (mC (.int 0)) [some (.d (.tuple [a, b, c]))] m = .ok (.d a) m := ix_e (k := 0) rfl rfl
    have e3 : mIx (mVar 0) (mC (.int 1)) [some (.d (.tuple [a, b, c]))] m = .ok (.d b) m := ix_e (k := 1) rfl rfl
    have e7 : mIx (mVar 0) (mC (.int 2)) [some (.d (.tuple [a, b, c]))] m = .ok (.d c) m := ix_e (k := 2) rfl rfl
    have e4 : mCall 1 F_is_integer (mCons (mIx (mVar 0) (mC (.int 0))) (mNil)) [some (.d (.tuple [a, b, c]))] m = .ok (.d (.bool (isI a))) m := x_call (cons_run e2 nil_run) (isinteger_ok ha) rfl
    have e6 : mBool (mOp2 (mB (mCons (mVar 0) (mNil)) (fD1 lenD)) (mC (.int 3)) (lift2 neD)) [some (.d (.tuple [a, b, c]))] m = .ok false m := (neLen (k := 3) rfl).trans rfl
    cases hi : isI a with
    | true =>
      rw [hi] at e4
      refine ⟨prB b && prB c, s_seq (s_if_f (k := false) (m1 := m) (orF (ntruB e1) (orF e6 (ntruB e4))) rfl s_skip) (s_ret (x_andV (x_call (cons_run e3 nil_run) (pairs_ok hb) rfl) fun _ => x_call (cons_run e7 nil_run) (pairs_ok hc) rfl)), ?_⟩
      simp [slotsB, hi]
    | false =>
      rw [hi] at e4
      refine ⟨false, rt_of (s_if_t (k := true) (m1 := m) (orF (ntruB e1) (orF e6 (ntruB e4))) rfl (s_ret const_run)), ?_⟩
      simp [slotsB, hi]
  · rw [h] at e1
    exact ⟨false, rt_of (s_if_t (k := true) (m1 := m) (orT (ntruB e1)) rfl (s_ret const_run)), (chain_noT h).2.2.symm⟩
  · exact ⟨false, rt_of (s_if_t (k := true) (m1 := m) (orF (ntruB e1) (orT ((neLen (k := 3) rfl).trans (by rw [decide_eq_false h]; rfl)))) rfl (s_ret const_run)), (slots_no3 h).symm⟩
/-- the forms by names -/
def formB (thing : Str) (t : D) : Bool := if thing = "chain" then chainB t else if thing = "station" then stationB t else if thing = "fractions" then prB t else if thing = "steps" then stepsB t else if thing = "slots" then slotsB t else rowB t
def kindsL : List Str := ["chain", "station", "fractions", "steps", "slots", "row"]
theorem tab_call {z : Str} {fm : List W → Mem → Rs W} {nm : Str} {t : D} {q : Bool} (hz : tabAt T_FORMS z = some (some (nm, 1, fm))) (h : fm [.d t] m = .ok (.d (.bool q)) m) : F_has_form [.d (.str z), .d t] m = .ok (.d (.bool q)) m := by
  unfold F_has_form
  refine x_fun (rho := [some (.d (.str z)), some (.d t)]) rfl (y := .bool q) ?_ rfl take_len
  unfold m_has_form
  refine s_seq (rho' := [some (.d (.str z)), some (.d t)]) (m1 := m) (s_if_f (k := false) (m1 := m) (bool_run ?_) rfl s_skip) (s_ret ?_)
  · unfold mTabNin
    rw [var_run (i := 0) (w := .d (.str z)) rfl, ev_bindV, val_d]
    show (match tabAt T_FORMS z with | some o => Rs.ok (W.d (.bool (!o.isSome))) m | none => .no) = _
    rw [hz]; rfl
  · unfold mTabCall
    rw [var_run (i := 0) (w := .d (.str z)) rfl, ev_bindV, val_d]
    show (match tabAt T_FORMS z with | some (some t) => ((mCons (mVar 1) (mNil)) _ m).bind fun ws m2 => if ws.length = t.2.1 then t.2.2 ws m2 else .no | _ => .no) = _
    rw [hz]
    show ((mCons (mVar 1) (mNil)) _ m).bind (fun ws m2 => if ws.length = 1 then fm ws m2 else .no) = _
    rw [cons_run (w := .d t) (var_run rfl) nil_run, ev_bind]
    exact (if_pos rfl).trans h
theorem form_ok {thing : Str} (hk : thing ∈ kindsL) {t : D} (ht : Tm t) : F_has_form [.d (.str thing), .d t] m = .ok (.d (.bool (formB thing t))) m := by
  unfold kindsL at hk
  simp only [List.mem_cons, List.not_mem_nil, or_false] at hk
  rcases hk with rfl | rfl | rfl | rfl | rfl | rfl
  · exact tab_call (z := "chain") (nm := "is_told_chain") (fm := F_is_told_chain) rfl (chain_ok ht)
  · exact tab_call (z := "station") (nm := "is_told_station") (fm := F_is_told_station) rfl (station_ok ht)
  · exact tab_call (z := "fractions") (nm := "are_pairs") (fm := F_are_pairs) rfl (pairs_ok ht)
  · exact tab_call (z := "steps") (nm := "are_steps") (fm := F_are_steps) rfl (steps_ok ht)
  · exact tab_call (z := "slots") (nm := "are_slots") (fm := F_are_slots) rfl (slots_ok ht)
  · exact tab_call (z := "row") (nm := "is_row") (fm := F_is_row) rfl (isrow_ok ht)
theorem form_no {z : Str} (hz : tabAt T_FORMS z = some none) {t : D} : F_has_form [.d (.str z), .d t] m = .ex (.own "BadNumber") m := by
  unfold F_has_form
  refine x_funE (rho := [some (.d (.str z)), some (.d t)]) (r := [some (.d (.str z)), some (.d t)]) (m1 := m) rfl ?_ take_len
  unfold m_has_form
  refine seq_ex (s_if_t (k := true) (m1 := m) (bool_run ?_) rfl rfl)
  unfold mTabNin
  rw [var_run (i := 0) (w := .d (.str z)) rfl, ev_bindV, val_d]
  show (match tabAt T_FORMS z with | some o => Rs.ok (W.d (.bool (!o.isSome))) m | none => .no) = _
  rw [hz]; rfl
/-- a word compared with a name -/
theorem word_is {i : Nat} {x y : Str} (h : rho[i]? = some (some (.d (.str x)))) : mBool (mOp2 (mVar i) (mC (.str y)) (lift2 eqD)) rho m = .ok (decide (x = y)) m := bool_run (op_run (var_run h) const_run l2_eqS)
theorem w_yes' {x y : Str} (h : x = y) {i : Nat} {c : SM} {w : W} {rho : Den.Env} (hv : rho[i]? = some (some (.d (.str x)))) {b : SM} (h2 : b rho m = .rt w m) : sSeq (sIf (mBool (mOp2 (mVar i) (mC (.str y)) (lift2 eqD))) b (sSkip)) c rho m = .rt w m := rt_of (s_if_t (k := true) (m1 := m) ((word_is hv).trans (by rw [decide_eq_true h])) rfl h2)
theorem due_row {t : D} (ht : Tm t) : F__law_due [.d (.str "row"), .d t] m = .ok (.d (.bool (rowB t))) m := by
  unfold F__law_due
  refine x_fun (rho := [some (.d (.str "row")), some (.d t), none]) rfl (y := .bool (rowB t)) ?_ rfl take_len
  unfold m__law_due
  exact w_yes' rfl rfl (s_ret (x_call (cons_run (w := .d t) (var_run rfl) nil_run) (lrow_ok ht) rfl))
theorem due_pairs {t : D} (ht : Tm t) {z : Str} (hz : z ≠ "row") (h : z = "fractions" ∨ isT t = false) : F__law_due [.d (.str z), .d t] m = .ok (.d (.bool (prB t))) m := by
  unfold F__law_due
  refine x_fun (rho := [some (.d (.str z)), some (.d t), none]) rfl (y := .bool (prB t)) ?_ rfl take_len
  unfold m__law_due
  have e1 := istup_e (m := m) (rho := [some (.d (.str z)), some (.d t), none]) (var_run (i := 1) rfl) ht
  refine s_seq (rho' := [some (.d (.str z)), some (.d t), none]) (m1 := m) (s_if_f (k := false) (m1 := m) ((word_is rfl).trans (by rw [decide_eq_false hz])) rfl s_skip) (rt_of (s_if_t (k := true) (m1 := m) ?_ rfl (s_ret (x_call (cons_run (w := .d t) (var_run rfl) nil_run) (lpairs_ok ht) rfl))))
  by_cases hf : z = "fractions"
  · exact orT ((word_is rfl).trans (by rw [decide_eq_true hf]))
  · rcases h with h | h
    · exact absurd h hf
    · rw [h] at e1
      exact orF ((word_is rfl).trans (by rw [decide_eq_false hf])) (ntruB e1)
/-- behind the first two tests -/
theorem due_rest {t : D} (ht : Tm t) {z : Str} (hz : z ≠ "row") (hf : z ≠ "fractions") (hT : isT t = true) {q : Bool} {c : SM} (hm : ∃ d, m__law_due = sSeq (sIf (mBool (mOp2 (mVar 0) (mC (.str "row")) (lift2 eqD))) (sSeq (sRet (mCall 1 F__law_is_row (mCons (mVar 1) (mNil)))) (sSkip)) (sSkip)) (sSeq (sIf (mOrT (mBool (mOp2 (mVar 0) (mC (.str "fractions")) (lift2 eqD))) (mNotT (mTru (mIsTup (mVar 1))))) (sSeq (sRet (mCall 1 F__law_are_pairs (mCons (mVar 1) (mNil)))) (sSkip)) (sSkip)) d) ∧ d = c) (h : c [some (.d (.str z)), some (.d t), none] m = .rt (.d (.bool q)) m) : F__law_due [.d (.str z), .d t] m = .ok (.d (.bool q)) m := by
  obtain ⟨d, hm, rfl⟩ := hm
  unfold F__law_due
  refine x_fun (rho := [some (.d (.str z)), some (.d t), none]) rfl (y := .bool q) ?_ rfl take_len
  rw [hm]
  have e1 := istup_e (m := m) (rho := [some (.d (.str z)), some (.d t), none]) (var_run (i := 1) rfl) ht
  rw [hT] at e1
  exact s_seq (rho' := [some (.d (.str z)), some (.d t), none]) (m1 := m) (s_if_f (k := false) (m1 := m) ((word_is rfl).trans (by rw [decide_eq_false hz])) rfl s_skip) (s_seq (rho' := [some (.d (.str z)), some (.d t), none]) (m1 := m) (s_if_f (k := false) (m1 := m) (orF ((word_is rfl).trans (by rw [decide_eq_false hf])) (ntruB e1)) rfl s_skip) h)
theorem w_no {x y : Str} (h : x ≠ y) {i : Nat} {c : SM} {o : Out} {rho : Den.Env} (hv : rho[i]? = some (some (.d (.str x)))) {b : SM} (h2 : c rho m = o) : sSeq (sIf (mBool (mOp2 (mVar i) (mC (.str y)) (lift2 eqD))) b (sSkip)) c rho m = o := s_seq (s_if_f (k := false) (m1 := m) ((word_is hv).trans (by rw [decide_eq_false h])) rfl s_skip) h2
theorem w_yes {x y : Str} (h : x = y) {i : Nat} {c : SM} {w : W} {rho : Den.Env} (hv : rho[i]? = some (some (.d (.str x)))) {b : SM} (h2 : b rho m = .rt w m) : sSeq (sIf (mBool (mOp2 (mVar i) (mC (.str y)) (lift2 eqD))) b (sSkip)) c rho m = .rt w m := rt_of (s_if_t (k := true) (m1 := m) ((word_is hv).trans (by rw [decide_eq_true h])) rfl h2)
theorem due_steps {t : D} (ht : Tm t) (hT : isT t = true) : F__law_due [.d (.str "steps"), .d t] m = .ok (.d (.bool (stepsB t))) m := by
  refine due_rest ht (by decide) (by decide) hT ⟨_, rfl, rfl⟩ (w_yes rfl rfl ?_)
  cases ht with
  | tup ds hl h => exact s_ret (lc_pred (it := fun _ _ => .no) (p := prB) rfl (by omega) fun d hd => x_call (cons_run (w := .d d) (var_run rfl) nil_run) (lpairs_ok (h d hd)) rfl)
  | _ => cases hT
theorem due_station {t : D} (ht : Tm t) (hT : isT t = true) : F__law_due [.d (.str "station"), .d t] m = .ok (.d (.bool (stationB t))) m := by
  have key : ∃ q : Bool, F__law_due [.d (.str "station"), .d t] m = .ok (.d (.bool q)) m ∧ q = stationB t := by
    rcases two_or ht with ⟨a, b, rfl⟩ | h | ⟨ds, rfl, h⟩
    · refine ⟨stationB (.tuple [a, b]), due_rest ht (by decide) (by decide) hT ⟨_, rfl, rfl⟩ (w_no (by decide) rfl (w_yes rfl rfl (s_ret (andT (eqLenY (k := 2) rfl rfl) ?_)))), rfl⟩
      have q := lc_pred (m := m) (rho := [some (.d (.str "station")), some (.d (.tuple [a, b])), none]) (it := fun _ _ => .no) (i := 1) (v := 2) (a := mCall 1 F__law_are_pairs (mCons (mVar 2) (mNil))) (p := prB) rfl (show 2 ≤ 1000000 by decide) fun d hd => x_call (cons_run (w := .d d) (var_run rfl) nil_run) (lpairs_ok (ht.mem d hd)) rfl
      rw [all2] at q
      exact q
    · rw [h] at hT; cases hT
    · exact ⟨false, due_rest ht (by decide) (by decide) hT ⟨_, rfl, rfl⟩ (w_no (by decide) rfl (w_yes rfl rfl (s_ret (andF ((eqLen (k := 2) rfl).trans (by rw [decide_eq_false h])))))), (chain_no2 h).2.symm⟩
  obtain ⟨q, h1, rfl⟩ := key
  exact h1
theorem due_slots {t : D} (ht : Tm t) (hT : isT t = true) : F__law_due [.d (.str "slots"), .d t] m = .ok (.d (.bool (slotsB t))) m := by
  have key : ∃ q : Bool, F__law_due [.d (.str "slots"), .d t] m = .ok (.d (.bool q)) m ∧ q = slotsB t := by
    rcases three_or ht with ⟨a, b, c, rfl⟩ | h | ⟨ds, rfl, h⟩
    · have ha := ht.mem a (by simp)
      have hb := ht.mem b (by simp)
      have hc := ht.mem c (by simp)
      refine ⟨isI a && (prB b && prB c), due_rest ht (by decide) (by decide) hT ⟨_, rfl, rfl⟩ (w_no (by decide) rfl (w_no (by decide) rfl (w_yes rfl rfl (s_ret (andT (eqLenY (k := 3) rfl rfl) (x_andV (isint_e (ix_e (k := 0) rfl rfl) ha) fun _ => x_andV (x_call (cons_run (ix_e (k := 1) rfl rfl) nil_run) (lpairs_ok hb) rfl) fun _ => x_call (cons_run (ix_e (k := 2) rfl rfl) nil_run) (lpairs_ok hc) rfl)))))), ?_⟩
      simp [slotsB, Bool.and_assoc]
    · rw [h] at hT; cases hT
    · exact ⟨false, due_rest ht (by decide) (by decide) hT ⟨_, rfl, rfl⟩ (w_no (by decide) rfl (w_no (by decide) rfl (w_yes rfl rfl (s_ret (andF ((eqLen (k := 3) rfl).trans (by rw [decide_eq_false h]))))))), (slots_no3 h).symm⟩
  obtain ⟨q, h1, rfl⟩ := key
  exact h1
/-- the law's own test of an entry of a chain -/
theorem lrate_e {rho : Den.Env} {t : D} (ht : Tm t) (h2 : rho[2]? = some (some (.d t))) : mAndV (mIsTup (mVar 2)) (mAndV (mOp2 (mB (mCons (mVar 2) (mNil)) (fD1 lenD)) (mC (.int 3)) (lift2 eqD)) (mAndV (mCall 1 F__law_is_row (mCons (mSl (mVar 2) (oNone) (oSome (mC (.int 2)))) (mNil))) (mCall 1 F__law_is_row (mCons (mIx (mVar 2) (mC (.int 2))) (mNil))))) rho m = .ok (.d (.bool (rateB t))) m := by
  have e1 := istup_e (m := m) (var_run h2) ht
  rcases three_or ht with ⟨a, b, c, rfl⟩ | h | ⟨ds, rfl, h⟩
  · have h2' : Tm (.tuple [a, b]) := .tup _ (show 2 ≤ 100 by decide) fun d hd => ht.mem d (by simp at hd ⊢; rcases hd with rfl | rfl <;> simp)
    have hc := ht.mem c (by simp)
    refine (andT e1 (andT (eqLenY (k := 3) h2 rfl) (x_andV (p := rowB (.tuple [a, b])) (q := rowB c) ?_ fun _ => ?_))).trans ?_
    · exact x_call (ws := [.d (.tuple [a, b])]) (cons_run (w := .d (.tuple [a, b])) (m1 := m) (sl_to (xs := [a, b, c]) (k := 2) (var_run h2) const_run) nil_run) (lrow_ok h2') rfl
    · exact x_call (ws := [.d c]) (cons_run (w := .d c) (m1 := m) (ix_e (k := 2) h2 rfl) nil_run) (lrow_ok hc) rfl
    · simp [rowB, rateB]
  · rw [h] at e1
    refine (andF e1).trans ?_
    cases t <;> first | (cases h; done) | rfl
  · refine (andT e1 (andF ((eqLen (k := 3) h2).trans (by rw [decide_eq_false h])))).trans ?_
    match ds, h with
    | [], _ => rfl
    | [_], _ => rfl
    | [_, _], _ => rfl
    | [_, _, _], h => exact absurd rfl h
    | _ :: _ :: _ :: _ :: _, _ => rfl
theorem due_chain {t : D} (ht : Tm t) (hT : isT t = true) : F__law_due [.d (.str "chain"), .d t] m = .ok (.d (.bool (chainB t))) m := by
  have key : ∃ q : Bool, F__law_due [.d (.str "chain"), .d t] m = .ok (.d (.bool q)) m ∧ q = chainB t := by
    rcases two_or ht with ⟨a, b, rfl⟩ | h | ⟨ds, rfl, h⟩
    · have ha := ht.mem a (by simp)
      have hb := ht.mem b (by simp)
      have e2 : mIx (mVar 1) (mC (.int 0)) [some (.d (.str "chain")), some (.d (.tuple [a, b])), none] m = .ok (.d a) m := ix_e (k := 0) rfl rfl
      have e3 : mIx (mVar 1) (mC (.int 1)) [some (.d (.str "chain")), some (.d (.tuple [a, b])), none] m = .ok (.d b) m := ix_e (k := 1) rfl rfl
      have e4 := isint_e e2 ha
      have e5 := istup_e e3 hb
      have e6 : mBool (mOp2 (mB (mCons (mVar 1) (mNil)) (fD1 lenD)) (mC (.int 2)) (lift2 neD)) [some (.d (.str "chain")), some (.d (.tuple [a, b])), none] m = .ok false m := (neLen (k := 2) rfl).trans rfl
      cases hi : isI a with
      | false =>
        rw [hi] at e4
        refine ⟨false, due_rest ht (by decide) (by decide) hT ⟨_, rfl, rfl⟩ (w_no (by decide) rfl (w_no (by decide) rfl (w_no (by decide) rfl (rt_of (s_if_t (k := true) (m1 := m) (orF e6 (orT (ntruB e4))) rfl (s_ret const_run)))))), ?_⟩
        cases b <;> simp [chainB, hi]
      | true =>
        rw [hi] at e4
        cases hTb : isT b with
        | false =>
          rw [hTb] at e5
          exact ⟨false, due_rest ht (by decide) (by decide) hT ⟨_, rfl, rfl⟩ (w_no (by decide) rfl (w_no (by decide) rfl (w_no (by decide) rfl (rt_of (s_if_t (k := true) (m1 := m) (orF e6 (orF (ntruB e4) (ntruB e5))) rfl (s_ret const_run)))))), (chainB_noT hTb).symm⟩
        | true =>
          rw [hTb] at e5
          refine ⟨chainB (.tuple [a, b]), due_rest ht (by decide) (by decide) hT ⟨_, rfl, rfl⟩ (w_no (by decide) rfl (w_no (by decide) rfl (w_no (by decide) rfl (s_seq (s_if_f (k := false) (m1 := m) (orF e6 (orF (ntruB e4) (ntruB e5))) rfl s_skip) ?_)))), rfl⟩
          cases hb with
          | tup ds hl h =>
            refine (s_ret (lc_predI (p := rateB) e3 (by omega) fun d hd => lrate_e (h d hd) rfl)).trans ?_
            show _ = Out.rt (.d (.bool (isI a && ds.all rateB))) m
            rw [hi, Bool.true_and]
          | _ => cases hTb
    · rw [h] at hT; cases hT
    · exact ⟨false, due_rest ht (by decide) (by decide) hT ⟨_, rfl, rfl⟩ (w_no (by decide) rfl (w_no (by decide) rfl (w_no (by decide) rfl (rt_of (s_if_t (k := true) (m1 := m) (orT ((neLen (k := 2) rfl).trans (by rw [decide_eq_false h]; rfl))) rfl (s_ret const_run)))))), (chain_no2 h).1.symm⟩
  obtain ⟨q, h1, rfl⟩ := key
  exact h1
theorem due_ok {thing : Str} (hk : thing ∈ kindsL) {t : D} (ht : Tm t) : F__law_due [.d (.str thing), .d t] m = .ok (.d (.bool (formB thing t))) m := by
  unfold kindsL at hk
  simp only [List.mem_cons, List.not_mem_nil, or_false] at hk
  cases hT : isT t with
  | true =>
    rcases hk with rfl | rfl | rfl | rfl | rfl | rfl
    · exact due_chain ht hT
    · exact due_station ht hT
    · exact due_pairs ht (by decide) (.inl rfl)
    · exact due_steps ht hT
    · exact due_slots ht hT
    · exact due_row ht
  | false =>
    have hp : prB t = false ∧ stepsB t = false := by cases t <;> first | (cases hT; done) | exact ⟨rfl, rfl⟩
    have hc := chain_noT hT
    rcases hk with rfl | rfl | rfl | rfl | rfl | rfl
    · have := due_pairs (m := m) ht (z := "chain") (by decide) (.inr hT)
      rw [hp.1, ← hc.1] at this; exact this
    · have := due_pairs (m := m) ht (z := "station") (by decide) (.inr hT)
      rw [hp.1, ← hc.2.1] at this; exact this
    · exact due_pairs ht (by decide) (.inl rfl)
    · have := due_pairs (m := m) ht (z := "steps") (by decide) (.inr hT)
      rw [hp.1, ← hp.2] at this; exact this
    · have := due_pairs (m := m) ht (z := "slots") (by decide) (.inr hT)
      rw [hp.1, ← hc.2.2] at this; exact this
    · exact due_row ht
end
end Law
set_option exponentiation.threshold 10000
namespace Law
open PySem PySem.Spec PyProof.Rows L2 Den
/-! the executor: lookups (sizeOf_list_dec), calls of the program's functions (array_mem_dec, to be told more), all else (array_get_dec) -/
local macro_rules | `(tactic| sizeOf_list_dec) => `(tactic| repeat' (first
  | (with_reducible (show _ = _; assumption))
  | ((with_reducible apply set_ne'); · decide)
  | ((with_reducible apply wipe_ne'); · decide)
  | ((with_reducible apply set_eq'); · ((try simp only [List.length_set, wipe_len, List.length_cons, List.length_nil]); omega))
  | with_reducible exact look_Z
  | with_reducible apply look_S
  | rfl))
local macro_rules | `(tactic| array_get_dec) => `(tactic| repeat' (first
  | with_reducible exact const_run
  | ((with_reducible apply x_constE); rfl)
  | with_reducible (show _ = _; assumption)
  | ((with_reducible apply var_run); sizeOf_list_dec)
  | ((with_reducible apply set_ne'); · decide)
  | ((with_reducible apply wipe_ne'); · decide)
  | ((with_reducible apply set_eq'); · ((try simp only [List.length_set, wipe_len, List.length_cons, List.length_nil]); omega))
  | with_reducible exact look_Z
  | with_reducible apply look_S
  | with_reducible exact nil_run
  | with_reducible apply cons_run
  | with_reducible apply x_bool
  | with_reducible apply x_tru
  | with_reducible apply x_notT
  | with_reducible apply x_andT
  | with_reducible apply x_orT
  | with_reducible apply x_andV
  | with_reducible apply x_orV
  | with_reducible apply x_notV
  | with_reducible apply x_if
  | with_reducible apply x_chain
  | with_reducible apply x_chain3
  | with_reducible apply add_run
  | with_reducible apply x_sub
  | with_reducible apply x_mul
  | with_reducible apply x_mod
  | with_reducible apply x_neg
  | with_reducible apply ix_run
  | with_reducible apply op_run
  | with_reducible apply b_run
  | with_reducible apply x_call
  | with_reducible exact x_dnew
  | with_reducible apply x_new
  | with_reducible apply x_maxDf
  | with_reducible apply x_starL
  | with_reducible apply tup_run
  | with_reducible apply lst_run
  | with_reducible apply x_items
  | with_reducible apply x_zipR
  | with_reducible apply x_zipB
  | with_reducible apply x_enumR
  | with_reducible apply x_enum
  | with_reducible apply x_rangeN
  | with_reducible apply x_range
  | with_reducible apply x_lc
  | with_reducible apply x_lcF
  | ((with_reducible apply x_slFromS); · array_get_dec)
  | ((with_reducible apply x_slFromR); · array_get_dec)
  | ((with_reducible apply x_slFromRL); · array_get_dec)
  | ((with_reducible apply x_slToR); · array_get_dec)
  | ((with_reducible apply x_slFrom); · array_get_dec)
  | ((with_reducible apply x_slTo); · array_get_dec)
  | with_reducible apply s_ret
  | with_reducible apply s_seq
  | with_reducible apply s_asg
  | with_reducible apply s_asgR
  | with_reducible apply s_par
  | with_reducible apply s_tup
  | with_reducible apply s_aug
  | with_reducible apply s_app
  | with_reducible apply s_drop
  | with_reducible exact s_skip
  | simp only [val_d, val_n, val_r, val_s]
  | with_reducible exact set_Z
  | with_reducible apply set_S
  | with_reducible apply x_gT2
  | with_reducible apply x_gN
  | with_reducible apply x_gT
  | with_reducible exact x_gA0
  | with_reducible apply x_gA
  | array_mem_dec
  | with_reducible apply x_addL
  | with_reducible apply x_addT
  | with_reducible exact l2_add
  | with_reducible exact l2_le
  | with_reducible exact l2_lt
  | with_reducible exact l2_gt
  | with_reducible exact l2_ge
  | with_reducible exact l2_eq
  | with_reducible exact l2_ne
  | with_reducible exact l2_inN
  | with_reducible exact l2_ninN
  | with_reducible exact l2_gtP
  | with_reducible exact l2_ltP
  | with_reducible exact l2_eqS
  | with_reducible exact l2_neS
  | ((with_reducible show lift2 _ _ _ _ = _); rfl)
  | with_reducible apply x_ixT
  | with_reducible apply x_ixL
  | with_reducible apply x_ixR
  | ((with_reducible show fIx _ _ _ = _); rfl)
  | with_reducible exact x_lenRgT
  | with_reducible exact x_lenRgL
  | ((with_reducible show fD1 _ _ _ = _); exact x_D1 rfl all_map)
  | with_reducible apply x_N1
  | with_reducible apply peek_of
  | ((with_reducible show fD1 _ _ _ = _); exact x_D1 rfl any_map)
  | ((with_reducible show fD1 _ _ _ = _); exact x_D1 rfl sum_map)
  | ((with_reducible show fTup _ _ = _); exact x_tup rfl rfl)
  | with_reducible apply x_tupR
  | with_reducible apply x_lenR
  | with_reducible exact m_get0 _ _ _
  | with_reducible exact m_get1 _ _ _ _
  | with_reducible exact m_get2 _ _ _ _ _
  | with_reducible exact m_get3 _ _ _ _ _ _
  | with_reducible exact m_set0 _ _ _ _
  | with_reducible exact m_set1 _ _ _ _ _
  | with_reducible exact m_set2 _ _ _ _ _ _
  | with_reducible exact m_set3 _ _ _ _ _ _ _
  | with_reducible exact m_last _ _
  | with_reducible exact m_setL _ _ _
  | ((with_reducible show fD1 _ _ _ = _); rfl)
  | ((with_reducible show truW _ _ = _); rfl)
  | ((with_reducible show _ = PyData.tuple [_, _]); rfl)
  | ((with_reducible show frz _ _ = _); rfl)
  | ((with_reducible show frzAll _ _ = _); rfl)
  | ((with_reducible show seqOf _ = _); rfl)
  | ((with_reducible show peek _ (W.d _) = _); rfl)
  | ((with_reducible show List.length (_ :: _) = _); rfl)
  | ((with_reducible show List.length [] = _); rfl)
  | ((with_reducible show small _ = _); rfl)
  | (apply small_le; simp only [List.length_map, List.length_cons, List.length_nil, List.length_range, List.length_zip, List.length_zipIdx, List.length_drop, List.length_take, List.length_append]; omega)
  | with_reducible rfl
  | (show _ < _; assumption)
  | (show _ ≤ _; assumption)
  | (apply rg_get; first | assumption | omega | (simp only [List.mem_range] at *; omega))
  | (show ∀ x ∈ _, _; intro x hx)
  | (show _ = true → _; intro hp)
  | (show _ = false → _; intro hp)
  | (simp only [List.length_map, List.length_cons, List.length_nil, List.length_range, List.length_zip, List.length_zipIdx, List.length_drop, List.length_take, List.length_append, Nat.reduceLeDiff, Nat.reduceAdd]; done)
  | (simp only [List.length_map, List.length_cons, List.length_nil, List.length_range, List.length_zip, List.length_zipIdx, List.length_drop, List.length_take, List.length_append]; omega)
  | omega
  | (simp only [List.mem_range, List.length_map, List.length_range, List.length_cons, List.length_nil, List.length_append] at *; omega)))
/-! k21: lines and words -/
section
variable {m : Mem} {rho : Den.Env} {a : EM W}
theorem chars_run {i : Nat} {x : Str} (h : rho[i]? = some (some (.d (.str x)))) : mChars (mVar i) rho m = .ok (x.cps.toList.map fun c => .str ⟨#[c]⟩) m := by
  unfold mChars
  rw [var_run h, ev_bindV, val_d]
  rfl
theorem lc_chars {i v : Nat} {x : Str} {p : Nat → Bool} (h : rho[i]? = some (some (.d (.str x)))) (hl : x.length ≤ 1000) (ha : ∀ c, a ((wipeE rho [v]).set v (some (.d (.str ⟨#[c]⟩)))) m = .ok (.d (.bool (p c))) m) : mB (mCons (mLC (mChars (mVar i)) [v] (gN v) (tYesT) a) (mNil)) (fD1 allD) rho m = .ok (.d (.bool (x.cps.toList.all p))) m := by
  refine b_run (cons_run (w := .n (.list (x.cps.toList.map fun c => .bool (p c)))) (m1 := m) (x_lc (l := x.cps.toList) (F := fun c => .str ⟨#[c]⟩) (R1 := fun c => (wipeE rho [v]).set v (some (.d (.str ⟨#[c]⟩)))) (wv := fun c => .d (.bool (p c))) (chars_run h) ?_ (fun c _ => rfl) (fun c _ => ha c) fun c _ => rfl) nil_run) (x_D1 rfl (all_eq x.cps.toList p))
  have : x.cps.toList.length = x.length := by rw [Array.length_toList]; rfl
  omega
theorem l2_leS {x y : Str} : lift2 leD (.d (.str x)) (.d (.str y)) m = .ok (.d (.bool (!decide (y.cps.toList < x.cps.toList)))) m := lift2_run rfl rfl rfl
theorem l2_inS {x y : Str} : lift2 inD (.d (.str x)) (.d (.str y)) m = .ok (.d (.bool (!(Builtin.Str.occurrences y x 0 y.length 1).isEmpty))) m := lift2_run rfl rfl rfl
theorem len_s {i : Nat} {x : Str} (h : rho[i]? = some (some (.d (.str x)))) (hl : x.length ≤ 1000) : mB (mCons (mVar i) (mNil)) (fD1 lenD) rho m = .ok (.d (nD x.length)) m := by
  refine b_run (cons_run (w := .d (.str x)) (var_run h) nil_run) (x_D1 rfl ?_)
  show (if small x.length = true then some (PyData.int (x.length : Nat)) else none) = _
  rw [small_le (by omega), if_pos rfl]
/-- a sign that may stand in a line's word -/
def signB (c : Nat) : Bool := !decide ((⟨#[c]⟩ : Str).cps.toList < ("!" : Str).cps.toList) && !decide (("~" : Str).cps.toList < (⟨#[c]⟩ : Str).cps.toList)
def badW (w : Str) : Bool := decide (w = "") || !(w.cps.toList.all signB)
def wordsL (l : List Nat) : List Str := (TL.spl [32] 0 [] l).map SX.S
def wordsD (l : List Nat) : D := if (wordsL l).any badW = true then .none else .list ((wordsL l).map .str)
theorem spl_len (S : List Nat) : ∀ (l : List Nat) (k : Nat) (acc : List Nat), (TL.spl S k acc l).length ≤ l.length + 1
  | [], k, acc => by rw [TL.spl_nil]; simp
  | c :: r, 0, acc => by
    unfold TL.spl
    split
    · have := spl_len S r (S.length - 1) []
      simp only [List.length_cons] at this ⊢
      omega
    · have := spl_len S r 0 (acc ++ [c])
      simp only [List.length_cons] at this ⊢
      omega
  | c :: r, k + 1, acc => by
    have := spl_len S r k acc
    show (TL.spl S k acc r).length ≤ _
    simp only [List.length_cons] at this ⊢
    omega
theorem spl_mem (S : List Nat) : ∀ (l : List Nat) (k : Nat) (acc p : List Nat), p ∈ TL.spl S k acc l → p.length ≤ acc.length + l.length ∧ ∀ c ∈ p, c ∈ acc ∨ c ∈ l
  | [], k, acc, p, h => by
    rw [TL.spl_nil, List.mem_singleton] at h
    rw [h]
    exact ⟨by simp, fun c hc => .inl hc⟩
  | x :: r, 0, acc, p, h => by
    unfold TL.spl at h
    split at h
    · rcases List.mem_cons.mp h with e | h
      · rw [e]
        exact ⟨by simp, fun c hc => .inl hc⟩
      · obtain ⟨h1, h2⟩ := spl_mem S r _ [] p h
        refine ⟨by simp only [List.length_cons, List.length_nil] at h1 ⊢; omega, fun c hc => ?_⟩
        rcases h2 c hc with z | z
        · cases z
        · exact .inr (List.mem_cons_of_mem _ z)
    · obtain ⟨h1, h2⟩ := spl_mem S r 0 (acc ++ [x]) p h
      refine ⟨by simp only [List.length_append, List.length_cons, List.length_nil] at h1 ⊢; omega, fun c hc => ?_⟩
      rcases h2 c hc with z | z
      · rcases List.mem_append.mp z with z | z
        · exact .inl z
        · rw [List.mem_singleton] at z
          exact .inr (by rw [z]; exact List.mem_cons_self)
      · exact .inr (List.mem_cons_of_mem _ z)
  | x :: r, k + 1, acc, p, h => by
    obtain ⟨h1, h2⟩ := spl_mem S r k acc p h
    refine ⟨by simp only [List.length_cons] at h1 ⊢; omega, fun c hc => ?_⟩
    rcases h2 c hc with z | z
    · exact .inl z
    · exact .inr (List.mem_cons_of_mem _ z)
theorem wordsL_len {l : List Nat} : (wordsL l).length ≤ l.length + 1 := by
  unfold wordsL
  rw [List.length_map]
  exact spl_len _ _ _ _
theorem wordsL_mem {l : List Nat} {w : Str} (h : w ∈ wordsL l) : w.length ≤ l.length ∧ ∀ c ∈ w.cps.toList, c ∈ l := by
  unfold wordsL at h
  obtain ⟨p, hp, rfl⟩ := List.mem_map.mp h
  obtain ⟨h1, h2⟩ := spl_mem _ _ _ _ _ hp
  rw [SX.S_len]
  refine ⟨by simpa using h1, fun c hc => ?_⟩
  rcases h2 c hc with z | z
  · cases z
  · exact z
theorem split_run {i : Nat} {l : List Nat} (h : rho[i]? = some (some (.d (.str (SX.S l))))) (hl : l.length ≤ 1000) : mM .str (mVar i) (mCons (mC (.str " ")) (mNil)) (fMN splitD) rho m = .ok (.n (.list ((wordsL l).map .str))) m := by
  have e1 : mCons (mC (.str " ")) (mNil) rho m = .ok [.d (.str " ")] m := cons_run (w := .d (.str " ")) const_run nil_run
  rw [e_M, var_run h, ev_bindV, val_d, peek_d]
  show ((mCons (mC (.str " ")) mNil rho m).bind fun ws m2 => fMN splitD (.d (.str (SX.S l))) ws m2) = _
  rw [e1, ev_bind]
  have es : splitD (PyData.str (SX.S l)) (PyData.str " ") = some ((wordsL l).map PyData.str) := by
    show (if decide ((" " : Str).length ≠ 0 ∧ (SX.S l).length ≤ 1000000) = true then some ((Txt.split (SX.S l) " ").map PyData.str) else none) = _
    rw [if_pos (decide_eq_true ⟨by decide, by have := SX.S_len l; omega⟩)]
    have : (" " : Str) = SX.S [32] := by decide
    rw [this, SX.split_S (by decide) (by decide)]
    rfl
  show (match splitD (.str (SX.S l)) (.str " ") with | some ys => Rs.ok (W.n (.list ys)) m | none => .no) = _
  rw [es]
theorem words_ok {l : List Nat} (hl : l.length ≤ 100) : F_words_of [.d (.str (SX.S l))] m = .ok (.d (wordsD l)) m := by
  unfold F_words_of
  have hw := wordsL_len (l := l)
  have key : ∃ v, m_words_of [some (.d (.str (SX.S l))), none, none, none] m = .rt (.d v) m ∧ v = wordsD l := by
    refine ⟨wordsD l, ?_, rfl⟩
    unfold m_words_of
    refine s_seq (rho' := [some (.d (.str (SX.S l))), some (.d (.list ((wordsL l).map .str))), none, none]) (m1 := m) (s_asg (split_run rfl (by omega)) rfl) ?_
    refine s_find (n := (wordsL l).length) (F := fun i => .str ((wordsL l).getD i "")) (fun i => badW ((wordsL l).getD i "")) (.d .none) (fun rho => rho.length = 4 ∧ rho[1]? = some (some (.d (.list ((wordsL l).map .str))))) ?_ ⟨rfl, rfl⟩ ?_ ?_ ?_
    · rw [← list_rg (l := wordsL l) (d := "") (f := PyData.str)]
      exact x_items (var_run rfl) rfl rfl
    · rintro i hi rho ⟨hlr, h1⟩
      have hm : (wordsL l).getD i "" ∈ wordsL l := by
        rw [List.getD_eq_getElem?_getD, List.getElem?_eq_getElem hi]
        exact List.getElem_mem hi
      have hlen := (wordsL_mem hm).1
      generalize (wordsL l).getD i "" = w at hlen
      have h2 : (rho.set 2 (some (.d (.str w))))[2]? = some (some (.d (.str w))) := by simp [hlr]
      refine find_mk (r1 := rho.set 2 (some (.d (.str w)))) rfl (b' := decide (w = "") || !(w.cps.toList.all signB)) (x_orT (bool_run (op_run (var_run h2) const_run l2_eqS)) fun _ => x_notT (x_tru (lc_chars (p := signB) h2 (by omega) fun c => ?_) rfl)) rfl (fun _ => const_run) ⟨by simp [hlr], by simp [h1]⟩
      have hc : ((wipeE (rho.set 2 (some (.d (.str w)))) [3]).set 3 (some (.d (.str ⟨#[c]⟩))))[3]? = some (some (.d (.str ⟨#[c]⟩))) := List.getElem?_set_self (by rw [wipe_len, List.length_set]; omega)
      exact chain_run const_run (var_run hc) const_run l2_leS l2_leS
    · intro hb
      have : (wordsL l).any badW = true := by
        rw [List.any_eq_true] at hb ⊢
        obtain ⟨i, hi, h⟩ := hb
        have hi := List.mem_range.mp hi
        exact ⟨_, by rw [List.getD_eq_getElem?_getD, List.getElem?_eq_getElem hi]; exact List.getElem_mem hi, h⟩
      unfold wordsD
      rw [if_pos this]
    · rintro hb rho ⟨hlr, h1⟩
      have : ¬ (wordsL l).any badW = true := fun z => by
        rw [List.any_eq_true] at z
        obtain ⟨w, hw, h⟩ := z
        obtain ⟨i, hi, e⟩ := List.mem_iff_getElem.mp hw
        have : (List.range (wordsL l).length).any (fun i => badW ((wordsL l).getD i "")) = true := by
          rw [List.any_eq_true]
          refine ⟨i, List.mem_range.mpr hi, ?_⟩
          rw [List.getD_eq_getElem?_getD, List.getElem?_eq_getElem hi, Option.getD_some, e]
          exact h
        rw [this] at hb
        cases hb
      unfold wordsD
      rw [if_neg this]
      exact s_ret (var_run h1)
  obtain ⟨v, h1, h2⟩ := key
  exact x_fun rfl h1 h2 take_len
theorem line_same : F__law_line = F_words_of := rfl
theorem wordsD_shv {l : List Nat} (hl : l.length ≤ 20) (hc : ∀ c ∈ l, c < 128) : Shv 10 10000 (wordsD l) := by
  unfold wordsD
  split
  · exact (shv_none (d := 10)).up (by decide) (by decide)
  · have hw := wordsL_len (l := l)
    refine (shv_listL (d := 5) (r := 210) (L := 30) (fun x hx => ?_) (by rw [List.length_map]; omega)).up (by decide) (by decide)
    obtain ⟨w, hw, rfl⟩ := List.mem_map.mp hx
    obtain ⟨h1, h2⟩ := wordsL_mem hw
    exact (shv_str (d := 5) (x := w) (List.all_eq_true.mpr fun c hcw => decide_eq_true (Nat.lt_trans (hc c (h2 c hcw)) (by decide)))).up (by decide) (by omega)
/-! ### names and numbers -/
def smallB (c : Nat) : Bool := !(Builtin.Str.occurrences "abcdefghijklmnopqrstuvwxyz" ⟨#[c]⟩ 0 ("abcdefghijklmnopqrstuvwxyz" : Str).length 1).isEmpty
def figB (c : Nat) : Bool := !(Builtin.Str.occurrences "0123456789" ⟨#[c]⟩ 0 ("0123456789" : Str).length 1).isEmpty
def nameB (w : Str) : Bool := (decide ((1 : Int) ≤ (w.length : Int)) && decide ((w.length : Int) ≤ 12)) && w.cps.toList.all smallB
theorem name_e {i v : Nat} {w : Str} (h : rho[i]? = some (some (.d (.str w)))) (hl : w.length ≤ 1000) (hv : v < rho.length) : mAndV (mChain (lift2 leD) (lift2 leD) (mC (.int 1)) (mB (mCons (mVar i) (mNil)) (fD1 lenD)) (mC (.int 12))) (mB (mCons (mLC (mChars (mVar i)) [v] (gN v) (tYesT) (mOp2 (mVar v) (mC (.str "abcdefghijklmnopqrstuvwxyz")) (lift2 inD))) (mNil)) (fD1 allD)) rho m = .ok (.d (.bool (nameB w))) m := by
  refine x_andV (chain_run const_run (len_s h hl) const_run l2_le l2_le) fun _ => lc_chars (p := smallB) h hl fun c => ?_
  have hc : ((wipeE rho [v]).set v (some (.d (.str ⟨#[c]⟩))))[v]? = some (some (.d (.str ⟨#[c]⟩))) := List.getElem?_set_self (by rw [wipe_len]; exact hv)
  exact op_run (var_run hc) const_run l2_inS
theorem name_ok {w : Str} (hl : w.length ≤ 1000) : F_is_name [.d (.str w)] m = .ok (.d (.bool (nameB w))) m := by
  unfold F_is_name
  refine x_fun (rho := [some (.d (.str w)), none]) rfl (y := .bool (nameB w)) ?_ rfl take_len
  unfold m_is_name
  exact s_ret (name_e rfl hl (show 1 < 2 by decide))
def optD : Option Int → D
  | none => .none
  | some n => .int n
def lenOk (w : Str) : Bool := decide ((1 : Int) ≤ (w.length : Int)) && decide ((w.length : Int) ≤ 2)
def figs (w : Str) : Bool := w.cps.toList.all figB
def zeroB (w : Str) : Bool := (((w.length : Int) == 2)) && decide ((⟨#[w.cps.toList.headD 0]⟩ : Str) = "0")
def numIn (w : Str) : Option Int := if (!lenOk w || !figs w) = true then none else if zeroB w = true then none else PySem.intText? w
def strK : List Str := (List.range 100).map fun k : Nat => Str.ofString (toString (k : Int))
def numOf (w : Str) : Option Int := if strK.any (fun z => PyData.eqv (PyData.str z) (PyData.str w)) = true then PySem.intText? w else none
/-- the first sign of a text -/
theorem ix_s {i : Nat} {w : Str} (h : rho[i]? = some (some (.d (.str w)))) (hl : w.length ≤ 1000) (h0 : 0 < w.length) : mIx (mVar i) (mC (.int 0)) rho m = .ok (.d (.str ⟨#[w.cps.toList.headD 0]⟩)) m := by
  refine ix_run (var_run h) const_run ?_
  have hz : w.cps.toList.length = w.length := by rw [Array.length_toList]; rfl
  have e : atI w.cps.toList 0 = some (w.cps.toList.headD 0) := by
    unfold atI ixN
    rw [if_pos (by omega), if_pos (by omega)]
    cases q : w.cps.toList with
    | nil => rw [q] at hz; simp at hz; omega
    | cons c r => rfl
  rw [f_Ix, val_d, peek_d]
  show (match (if small w.length then (match atI w.cps.toList 0 with | some c => some (PyData.str ⟨#[c]⟩) | none => none) else none) with | some z => Rs.ok (W.d z) m | none => .no) = _
  rw [small_le (by omega), e]
  rfl
theorem numin_ok {w : Str} (hl : w.length ≤ 100) (hs : lenOk w = true → figs w = true → ∃ n, PySem.intText? w = some n) : F_number_in [.d (.str w)] m = .ok (.d (optD (numIn w))) m := by
  unfold F_number_in
  have key : m_number_in [some (.d (.str w)), none] m = .rt (.d (optD (numIn w))) m := by
    unfold m_number_in
    have t1 : mOrT (mNotT (mBool (mChain (lift2 leD) (lift2 leD) (mC (.int 1)) (mB (mCons (mVar 0) (mNil)) (fD1 lenD)) (mC (.int 2))))) (mNotT (mTru (mB (mCons (mLC (mChars (mVar 0)) [1] (gN 1) (tYesT) (mOp2 (mVar 1) (mC (.str "0123456789")) (lift2 inD))) (mNil)) (fD1 allD)))) [some (.d (.str w)), none] m = .ok (!lenOk w || !figs w) m := by
      refine x_orT (x_notT (bool_run (chain_run const_run (len_s rfl (by omega)) const_run l2_le l2_le))) fun _ => x_notT (x_tru (lc_chars (p := figB) rfl (by omega) fun c => ?_) rfl)
      exact op_run (w := .d (.str ⟨#[c]⟩)) (var_run rfl) const_run l2_inS
    cases hb : (!lenOk w || !figs w) with
    | true =>
      have e : numIn w = none := by unfold numIn; rw [if_pos hb]
      rw [e]
      exact rt_of (s_if_t t1 hb (s_ret const_run))
    | false =>
      refine s_seq (s_if_f t1 hb s_skip) ?_
      rw [Bool.or_eq_false_iff] at hb
      have h1 : lenOk w = true := by simpa using hb.1
      have h2 : figs w = true := by simpa using hb.2
      obtain ⟨n, hn⟩ := hs h1 h2
      have hlen : 0 < w.length := by
        unfold lenOk at h1
        rw [Bool.and_eq_true, decide_eq_true_eq] at h1
        omega
      have t2 : mAndT (mBool (mOp2 (mB (mCons (mVar 0) (mNil)) (fD1 lenD)) (mC (.int 2)) (lift2 eqD))) (mBool (mOp2 (mIx (mVar 0) (mC (.int 0))) (mC (.str "0")) (lift2 eqD))) [some (.d (.str w)), none] m = .ok (zeroB w) m := x_andT (bool_run (op_run (len_s rfl (by omega)) const_run l2_eq)) fun _ => bool_run (op_run (ix_s rfl (by omega) hlen) const_run l2_eqS)
      cases hz : zeroB w with
      | true =>
        have e : numIn w = none := by unfold numIn; rw [if_neg (by simp [h1, h2]), if_pos hz]
        rw [e]
        exact rt_of (s_if_t t2 hz (s_ret const_run))
      | false =>
        have e : numIn w = some n := by unfold numIn; rw [if_neg (by simp [h1, h2]), if_neg (by simp [hz]), hn]
        rw [e]
        refine s_seq (s_if_f t2 hz s_skip) (s_ret (b_run (cons_run (w := .d (.str w)) (var_run rfl) nil_run) (x_D1 rfl ?_)))
        show (match PySem.intText? w with | some n => if decide (w.length ≤ 640) = true then some (PyData.int n) else none | none => none) = _
        rw [hn]
        show (if decide (w.length ≤ 640) = true then some (PyData.int n) else none) = _
        rw [if_pos (decide_eq_true (by omega))]
        rfl
  exact x_fun rfl key rfl take_len
theorem strK_shaped : SeqAt.shaped (.list (strK.map .str)) = true := by kernel_rfl
theorem numof_ok {w : Str} (hl : w.length ≤ 100) (ho : PyData.strOk w = true) (hs : numOf w = none → strK.any (fun z => PyData.eqv (PyData.str z) (PyData.str w)) = false) : F__law_number_of [.d (.str w)] m = .ok (.d (optD (numOf w))) m := by
  unfold F__law_number_of
  have hsw : SeqAt.shaped (.str w) = true := by
    unfold SeqAt.shaped
    simp only [PyData.canLay0, ho, PyData.depth, Bool.true_and]
    rfl
  have lc : mLC (mRange1 (mC (.int 100))) [1] (gN 1) (tYesT) (mB (mCons (mVar 1) (mNil)) (fD1 strID)) [some (.d (.str w)), none] m = .ok (.n (.list (strK.map .str))) m := by
    have e : strK.map PyData.str = (List.range 100).map fun k : Nat => PyData.str (Str.ofString (toString (k : Int))) := by unfold strK; rw [List.map_map]; rfl
    rw [e]
    refine x_lc (l := List.range 100) (F := nD) (R1 := fun k => (wipeE [some (.d (.str w)), none] [1]).set 1 (some (.d (nD k)))) (wv := fun k : Nat => .d (.str (Str.ofString (toString (k : Int))))) ?_ ?_ (fun k _ => rfl) (fun k hk => ?_) fun k _ => rfl
    · exact x_rangeN (n := 100) const_run (by decide)
    · decide
    · refine b_run (cons_run (w := .d (nD k)) (var_run rfl) nil_run) (x_D1 rfl ?_)
      show (if decide ((k : Int).natAbs.log2 < 1920) = true then some (PyData.str (Str.ofString (toString (k : Int)))) else none) = _
      have hk := List.mem_range.mp hk
      rw [if_pos (decide_eq_true ?_)]
      rw [Int.natAbs_natCast]
      exact log2_lt (Nat.lt_of_lt_of_le hk (show 100 ≤ 2 ^ 1920 from Nat.le_trans (show 100 ≤ 2 ^ 7 by decide) (Nat.pow_le_pow_right (by decide) (by decide)))) (by decide)
  have t : mBool (mOp2 (mVar 0) (mLC (mRange1 (mC (.int 100))) [1] (gN 1) (tYesT) (mB (mCons (mVar 1) (mNil)) (fD1 strID))) (lift2 inD)) [some (.d (.str w)), none] m = .ok (strK.any fun z => PyData.eqv (PyData.str z) (PyData.str w)) m := by
    refine bool_run (op_run (var_run rfl) lc (lift2_run rfl rfl ?_))
    show (if SeqAt.shaped (.str w) && SeqAt.shaped (.list (strK.map .str)) then some (W.d (.bool ((strK.map PyData.str).any fun z => PyData.eqv z (.str w)))) else none) = _
    rw [hsw, strK_shaped, List.any_map]
    rfl
  refine x_fun (rho := [some (.d (.str w)), none]) rfl (y := optD (numOf w)) ?_ rfl take_len
  unfold m__law_number_of
  cases hb : strK.any fun z => PyData.eqv (PyData.str z) (PyData.str w) with
  | false =>
    rw [hb] at t
    have e : numOf w = none := by unfold numOf; rw [if_neg (by rw [hb]; exact Bool.false_ne_true)]
    rw [e]
    exact s_ret ((ifE_no t).trans const_run)
  | true =>
    rw [hb] at t
    cases hn : PySem.intText? w with
    | none =>
      have e : numOf w = none := by unfold numOf; rw [if_pos hb, hn]
      rw [hs e] at hb
      cases hb
    | some n =>
      have e : numOf w = some n := by unfold numOf; rw [if_pos hb, hn]
      rw [e]
      refine s_ret ((ifE_yes t).trans (b_run (cons_run (w := .d (.str w)) (var_run rfl) nil_run) (x_D1 rfl ?_)))
      show (match PySem.intText? w with | some n => if decide (w.length ≤ 640) = true then some (PyData.int n) else none | none => none) = _
      rw [hn]
      show (if decide (w.length ≤ 640) = true then some (PyData.int n) else none) = _
      rw [if_pos (decide_eq_true (by omega))]
      rfl
end
end Law
set_option exponentiation.threshold 10000
namespace Law
open PySem PySem.Spec PyProof.Rows L2 Den
/-! the executor: lookups (sizeOf_list_dec), calls of the program's functions (array_mem_dec, to be told more), all else (array_get_dec) -/
local macro_rules | `(tactic| sizeOf_list_dec) => `(tactic| repeat' (first
  | (with_reducible (show _ = _; assumption))
  | ((with_reducible apply set_ne'); · decide)
  | ((with_reducible apply wipe_ne'); · decide)
  | ((with_reducible apply set_eq'); · ((try simp only [List.length_set, wipe_len, List.length_cons, List.length_nil]); omega))
  | with_reducible exact look_Z
  | with_reducible apply look_S
  | rfl))
local macro_rules | `(tactic| array_get_dec) => `(tactic| repeat' (first
  | with_reducible exact const_run
  | ((with_reducible apply x_constE); rfl)
  | with_reducible (show _ = _; assumption)
  | ((with_reducible apply var_run); sizeOf_list_dec)
  | ((with_reducible apply set_ne'); · decide)
  | ((with_reducible apply wipe_ne'); · decide)
  | ((with_reducible apply set_eq'); · ((try simp only [List.length_set, wipe_len, List.length_cons, List.length_nil]); omega))
  | with_reducible exact look_Z
  | with_reducible apply look_S
  | with_reducible exact nil_run
  | with_reducible apply cons_run
  | with_reducible apply x_bool
  | with_reducible apply x_tru
  | with_reducible apply x_notT
  | with_reducible apply x_andT
  | with_reducible apply x_orT
  | with_reducible apply x_andV
  | with_reducible apply x_orV
  | with_reducible apply x_notV
  | with_reducible apply x_if
  | with_reducible apply x_chain
  | with_reducible apply x_chain3
  | with_reducible apply add_run
  | with_reducible apply x_sub
  | with_reducible apply x_mul
  | with_reducible apply x_mod
  | with_reducible apply x_neg
  | with_reducible apply ix_run
  | with_reducible apply op_run
  | with_reducible apply b_run
  | with_reducible apply x_call
  | with_reducible exact x_dnew
  | with_reducible apply x_new
  | with_reducible apply x_maxDf
  | with_reducible apply x_starL
  | with_reducible apply tup_run
  | with_reducible apply lst_run
  | with_reducible apply x_items
  | with_reducible apply x_zipR
  | with_reducible apply x_zipB
  | with_reducible apply x_enumR
  | with_reducible apply x_enum
  | with_reducible apply x_rangeN
  | with_reducible apply x_range
  | with_reducible apply x_lc
  | with_reducible apply x_lcF
  | ((with_reducible apply x_slFromS); · array_get_dec)
  | ((with_reducible apply x_slFromR); · array_get_dec)
  | ((with_reducible apply x_slFromRL); · array_get_dec)
  | ((with_reducible apply x_slToR); · array_get_dec)
  | ((with_reducible apply x_slFrom); · array_get_dec)
  | ((with_reducible apply x_slTo); · array_get_dec)
  | with_reducible apply s_ret
  | with_reducible apply s_seq
  | with_reducible apply s_asg
  | with_reducible apply s_asgR
  | with_reducible apply s_par
  | with_reducible apply s_tup
  | with_reducible apply s_aug
  | with_reducible apply s_app
  | with_reducible apply s_drop
  | with_reducible exact s_skip
  | simp only [val_d, val_n, val_r, val_s]
  | with_reducible exact set_Z
  | with_reducible apply set_S
  | with_reducible apply x_gT2
  | with_reducible apply x_gN
  | with_reducible apply x_gT
  | with_reducible exact x_gA0
  | with_reducible apply x_gA
  | array_mem_dec
  | with_reducible apply x_addL
  | with_reducible apply x_addT
  | with_reducible exact l2_add
  | with_reducible exact l2_le
  | with_reducible exact l2_lt
  | with_reducible exact l2_gt
  | with_reducible exact l2_ge
  | with_reducible exact l2_eq
  | with_reducible exact l2_ne
  | with_reducible exact l2_inN
  | with_reducible exact l2_ninN
  | with_reducible exact l2_gtP
  | with_reducible exact l2_ltP
  | with_reducible exact l2_eqS
  | with_reducible exact l2_neS
  | ((with_reducible show lift2 _ _ _ _ = _); rfl)
  | with_reducible apply x_ixT
  | with_reducible apply x_ixL
  | with_reducible apply x_ixR
  | ((with_reducible show fIx _ _ _ = _); rfl)
  | with_reducible exact x_lenRgT
  | with_reducible exact x_lenRgL
  | ((with_reducible show fD1 _ _ _ = _); exact x_D1 rfl all_map)
  | with_reducible apply x_N1
  | with_reducible apply peek_of
  | ((with_reducible show fD1 _ _ _ = _); exact x_D1 rfl any_map)
  | ((with_reducible show fD1 _ _ _ = _); exact x_D1 rfl sum_map)
  | ((with_reducible show fTup _ _ = _); exact x_tup rfl rfl)
  | with_reducible apply x_tupR
  | with_reducible apply x_lenR
  | with_reducible exact m_get0 _ _ _
  | with_reducible exact m_get1 _ _ _ _
  | with_reducible exact m_get2 _ _ _ _ _
  | with_reducible exact m_get3 _ _ _ _ _ _
  | with_reducible exact m_set0 _ _ _ _
  | with_reducible exact m_set1 _ _ _ _ _
  | with_reducible exact m_set2 _ _ _ _ _ _
  | with_reducible exact m_set3 _ _ _ _ _ _ _
  | with_reducible exact m_last _ _
  | with_reducible exact m_setL _ _ _
  | ((with_reducible show fD1 _ _ _ = _); rfl)
  | ((with_reducible show truW _ _ = _); rfl)
  | ((with_reducible show _ = PyData.tuple [_, _]); rfl)
  | ((with_reducible show frz _ _ = _); rfl)
  | ((with_reducible show frzAll _ _ = _); rfl)
  | ((with_reducible show seqOf _ = _); rfl)
  | ((with_reducible show peek _ (W.d _) = _); rfl)
  | ((with_reducible show List.length (_ :: _) = _); rfl)
  | ((with_reducible show List.length [] = _); rfl)
  | ((with_reducible show small _ = _); rfl)
  | (apply small_le; simp only [List.length_map, List.length_cons, List.length_nil, List.length_range, List.length_zip, List.length_zipIdx, List.length_drop, List.length_take, List.length_append]; omega)
  | with_reducible rfl
  | (show _ < _; assumption)
  | (show _ ≤ _; assumption)
  | (apply rg_get; first | assumption | omega | (simp only [List.mem_range] at *; omega))
  | (show ∀ x ∈ _, _; intro x hx)
  | (show _ = true → _; intro hp)
  | (show _ = false → _; intro hp)
  | (simp only [List.length_map, List.length_cons, List.length_nil, List.length_range, List.length_zip, List.length_zipIdx, List.length_drop, List.length_take, List.length_append, Nat.reduceLeDiff, Nat.reduceAdd]; done)
  | (simp only [List.length_map, List.length_cons, List.length_nil, List.length_range, List.length_zip, List.length_zipIdx, List.length_drop, List.length_take, List.length_append]; omega)
  | omega
  | (simp only [List.mem_range, List.length_map, List.length_range, List.length_cons, List.length_nil, List.length_append] at *; omega)))
/-! k21: drawn texts, spoilt terms -/
section
variable {m : Mem} {rho : Den.Env} {b n : Nat}
theorem orM {t u : EM Bool} {q : Bool} {m1 m2 : Mem} (h : t rho m = .ok false m1) (h2 : u rho m1 = .ok q m2) : mOrT t u rho m = .ok q m2 := by
  rw [e_OrT, h, ev_bind, if_neg Bool.false_ne_true, h2]
theorem S_of (y : Str) : SX.S y.cps.toList = y := SX.S_tl y
theorem joinL_nil : ∀ l : List (List Nat), TL.joinL [] l = l.flatten
  | [] => rfl
  | [p] => by show p = _; simp
  | p :: q :: r => by
    show p ++ ([] ++ TL.joinL [] (q :: r)) = _
    rw [joinL_nil (q :: r), List.nil_append, List.flatten_cons, List.flatten_cons, List.flatten_cons]
theorem join_flat (zs : List Str) : Txt.join "" zs = SX.S (zs.map TL.tl).flatten := by
  have h := SX.join_S [] (zs.map TL.tl)
  rw [joinL_nil] at h
  rw [← h]
  have e1 : (SX.S [] : Str) = "" := by decide
  have e2 : (zs.map TL.tl).map SX.S = zs := by
    rw [List.map_map]
    have : (SX.S ∘ TL.tl) = id := by funext y; exact SX.S_tl y
    rw [this, List.map_id]
  rw [e1, e2]
/-- a text put together from drawn pieces -/
theorem text_draw {k : Nat} {c : EM (List W)} {ys : List Str} (h : Dr b n m) (h1 : rho[1]? = some (some (.r n))) (hl : ∀ rho m, mLst c rho m = .ok (.n (.list (ys.map .str))) m) (h0 : ys ≠ []) (hk : 0 < k) (hk2 : k ≤ 20) (hy : ∀ y ∈ ys, y.length ≤ 2) :
    ∃ (zs : List Str) (m' : Mem), mM .str (mC (.str "")) (mCons (mLC (mRange1 (mMod (mB (mCons (mCall 1 F__law_next (mCons (mVar 1) (mNil))) (mNil)) (fD1 intD)) (mC (.int (k : Nat))))) [4] (gN 4) (tYesT) (mCall 2 F__law_pick (mCons (mVar 1) (mCons (mLst c) (mNil))))) (mNil)) (fMD joinD) rho m = .ok (.d (.str (SX.S (zs.map TL.tl).flatten))) m' ∧ zs.length < k ∧ (∀ z ∈ zs, z ∈ ys) ∧ Dr b n m' ∧ m'.length = m.length := by
  obtain ⟨v, m1, e1, v1, d1, l1, q1⟩ := drwN (k := 1) h h1
  have hv := Nat.mod_lt v hk
  have hz : (ys.map PyData.str) ≠ [] := fun z => h0 (List.map_eq_nil_iff.mp z)
  obtain ⟨l, m2, e2, hl2, q2, d2, l2, _⟩ := lc_draw (N := v % k) (m0 := m1) (vs := [4]) (g := gN 4) (a := mCall 2 F__law_pick (mCons (mVar 1) (mCons (mLst c) (mNil)))) (F := nD) (fun z => z ∈ ys.map PyData.str) (fun i => (wipeE rho [4]).set 4 (some (.d (nD i)))) (x_rangeN (x_modN (j := k) e1 const_run hk) (by omega)) (by omega) d1 (fun i hi m => rfl) fun i hi m d _ => by
    obtain ⟨x, m', e, hx, d', l', q'⟩ := pkF (rho := (wipeE rho [4]).set 4 (some (.d (nD i)))) (k := 1) d (by rw [List.getElem?_set_ne (by decide)]; exact (wipe_ne (by decide)).trans h1) (hl _ _) hz
    exact ⟨.d x, m', x, e, rfl, hx, d', l', q'⟩
  obtain ⟨zs, hzs⟩ : ∃ zs : List Str, l = zs.map PyData.str ∧ ∀ z ∈ zs, z ∈ ys := by
    clear hl2 e2
    induction l with
    | nil => exact ⟨[], rfl, fun z hz => by cases hz⟩
    | cons a r ih =>
      obtain ⟨zs, e, h⟩ := ih fun z hz => q2 z (List.mem_cons_of_mem _ hz)
      obtain ⟨y, hy, rfl⟩ := List.mem_map.mp (q2 a List.mem_cons_self)
      exact ⟨y :: zs, by rw [e]; rfl, fun z hz => by
        rcases List.mem_cons.mp hz with rfl | hz
        · exact hy
        · exact h z hz⟩
  obtain ⟨rfl, hm⟩ := hzs
  rw [List.length_map] at hl2
  refine ⟨zs, m2, ?_, by omega, hm, d2, by omega⟩
  have sum_le : ∀ zs : List Str, (∀ z ∈ zs, z ∈ ys) → (zs.map fun z : Str => z.length).sum ≤ 2 * zs.length := by
    intro zs
    induction zs with
    | nil => intro _; simp
    | cons z r ih =>
      intro h
      have h1 := hy z (h z List.mem_cons_self)
      have h2 := ih fun x hx => h x (List.mem_cons_of_mem _ hx)
      rw [List.map_cons, List.sum_cons, List.length_cons]
      omega
  have hs := sum_le zs hm
  have e3 : joinD (PyData.str "") (PyData.list (zs.map PyData.str)) = some (PyData.str (SX.S (zs.map TL.tl).flatten)) := by
    show (match strsOf (zs.map PyData.str) with | some ys => if decide ((ys.map fun z : Str => z.length).sum + ys.length * ("" : Str).length ≤ 1000000) = true then some (PyData.str (Txt.join "" ys)) else none | none => none) = _
    rw [strsOf_map]
    show (if decide ((zs.map fun z : Str => z.length).sum + zs.length * ("" : Str).length ≤ 1000000) = true then some (PyData.str (Txt.join "" zs)) else none) = _
    rw [if_pos (decide_eq_true (by show _ + _ * 0 ≤ _; omega)), join_flat]
  have ec := cons_run (r := mNil) e2 nil_run
  rw [e_M, const_run, ev_bindV, val_d, peek_d]
  show ((mCons _ mNil rho m).bind fun ws m2 => fMD joinD (W.d (PyData.str "")) ws m2) = _
  rw [ec, ev_bind]
  show (match joinD (PyData.str "") (PyData.list (zs.map PyData.str)) with | some z => Rs.ok (W.d z) m2 | none => .no) = _
  rw [e3]
theorem flat_mem {ys zs : List Str} {A : List Nat} (h : ∀ z ∈ zs, z ∈ ys) (hA : ys.all (fun y => (TL.tl y).all fun c => A.contains c) = true) : ∀ c ∈ (zs.map TL.tl).flatten, c ∈ A := by
  intro c hc
  obtain ⟨p, hp, hc⟩ := List.mem_flatten.mp hc
  obtain ⟨z, hz, rfl⟩ := List.mem_map.mp hp
  have := List.all_eq_true.mp (List.all_eq_true.mp hA z (h z hz)) c hc
  exact List.contains_iff_mem.mp this
theorem flat_len {ys zs : List Str} {k : Nat} (h : ∀ z ∈ zs, z ∈ ys) (hy : ∀ y ∈ ys, y.length ≤ k) : ((zs.map TL.tl).flatten).length ≤ k * zs.length := by
  induction zs with
  | nil => simp
  | cons z r ih =>
    have h1 := hy z (h z List.mem_cons_self)
    have h2 := ih fun x hx => h x (List.mem_cons_of_mem _ hx)
    have h3 : (TL.tl z).length = z.length := by unfold TL.tl; rw [Array.length_toList]; rfl
    rw [List.map_cons, List.flatten_cons, List.length_append, List.length_cons, Nat.mul_add]
    omega
def lineY : List Str := ["a", "b", " ", "0", "7", "~", "!", "(", "A", "\t", "-", "z", "  "]
def wordY : List Str := ["a", "k", "z", "9", "0", "1", "", "", "B"]
def wordA : List Nat := [97, 107, 122, 57, 48, 49, 66]
/-! words: the program's number and the law's -/
def smallW : List (List Nat) := [] :: (wordA.map fun a => [a]) ++ wordA.flatMap fun a => wordA.map fun c => [a, c]
theorem smallW_ok : smallW.all (fun l => decide (numIn (SX.S l) = numOf (SX.S l)) && (!(lenOk (SX.S l) && figs (SX.S l)) || (PySem.intText? (SX.S l)).isSome) && (!(strK.any (fun z => PyData.eqv (PyData.str z) (PyData.str (SX.S l)))) || (PySem.intText? (SX.S l)).isSome)) = true := by decide +kernel
theorem mem_smallW {l : List Nat} (h : ∀ c ∈ l, c ∈ wordA) (hl : l.length ≤ 2) : l ∈ smallW := by
  unfold smallW
  match l, hl with
  | [], _ => exact List.mem_append_left _ List.mem_cons_self
  | [a], _ => exact List.mem_append_left _ (List.mem_cons_of_mem _ (List.mem_map.mpr ⟨a, h a (by simp), rfl⟩))
  | [a, c], _ => exact List.mem_append_right _ (List.mem_flatMap.mpr ⟨a, h a (by simp), List.mem_map.mpr ⟨c, h c (by simp), rfl⟩⟩)
theorem strK_len : strK.all (fun z => decide (z.length ≤ 2)) = true := by decide +kernel
theorem eqv_S {x y : Str} : PyData.eqv (PyData.str x) (PyData.str y) = (x == y) := rfl
theorem big_no {w : Str} (h : 3 ≤ w.length) : lenOk w = false ∧ strK.any (fun z => PyData.eqv (PyData.str z) (PyData.str w)) = false := by
  constructor
  · unfold lenOk
    rw [Bool.and_eq_false_iff]
    exact .inr (decide_eq_false (by omega))
  · rw [List.any_eq_false]
    intro z hz he
    rw [eqv_S] at he
    have e := eq_of_beq he
    have := of_decide_eq_true (List.all_eq_true.mp strK_len z hz)
    rw [e] at this
    omega
/-- what is so of every drawn word -/
theorem word_facts {l : List Nat} (h : ∀ c ∈ l, c ∈ wordA) : numIn (SX.S l) = numOf (SX.S l) ∧ (lenOk (SX.S l) = true → figs (SX.S l) = true → ∃ n, PySem.intText? (SX.S l) = some n) ∧ (numOf (SX.S l) = none → strK.any (fun z => PyData.eqv (PyData.str z) (PyData.str (SX.S l))) = false) := by
  by_cases hl : l.length ≤ 2
  · have q := List.all_eq_true.mp smallW_ok l (mem_smallW h hl)
    rw [Bool.and_eq_true, Bool.and_eq_true] at q
    obtain ⟨⟨q1, q2⟩, q3⟩ := q
    refine ⟨of_decide_eq_true q1, fun a b => ?_, fun hn => ?_⟩
    · rw [a, b] at q2
      exact Option.isSome_iff_exists.mp (by simpa using q2)
    · cases hs : strK.any (fun z => PyData.eqv (PyData.str z) (PyData.str (SX.S l))) with
      | false => rfl
      | true =>
        rw [hs] at q3
        unfold numOf at hn
        rw [if_pos hs] at hn
        rw [hn] at q3
        cases q3
  · have hl3 : 3 ≤ (SX.S l).length := by rw [SX.S_len]; omega
    obtain ⟨h1, h2⟩ := big_no hl3
    refine ⟨?_, fun a => ?_, fun _ => h2⟩
    rotate_left
    · rw [h1] at a; cases a
    unfold numIn numOf
    rw [h1, h2]
    rfl
theorem wordA_small {l : List Nat} (h : ∀ c ∈ l, c ∈ wordA) : ∀ c ∈ l, c < 128 := fun c hc => by
  have := h c hc
  unfold wordA at this
  simp only [List.mem_cons, List.not_mem_nil, or_false] at this
  omega
theorem figs_num {w : Str} {k : Int} (h : numIn w = some k) : lenOk w = true := by
  unfold numIn at h
  cases q : lenOk w with
  | true => rfl
  | false => rw [q] at h; cases h
/-! spoilt terms -/
/-- a term of at most k levels -/
def tdB : Nat → D → Bool
  | _, .none => true
  | _, .int _ => true
  | _, .str _ => true
  | k + 1, .tuple ds => SeqAt.shaped (.tuple ds) && decide (ds.length ≤ 10) && ds.all (tdB k)
  | _, _ => false
theorem td_tm : ∀ {k : Nat} {t : D}, tdB k t = true → Tm t
  | _, .none, _ => .none
  | _, .int _, _ => .int _
  | _, .str _, _ => .str _
  | k + 1, .tuple ds, h => by
    unfold tdB at h
    rw [Bool.and_eq_true, Bool.and_eq_true] at h
    have h2 := of_decide_eq_true h.1.2
    exact .tup ds (by omega) fun d hd => td_tm (List.all_eq_true.mp h.2 d hd)
  | 0, .tuple _, h => by cases h
  | 0, .bool _, h => by cases h
  | 0, .list _, h => by cases h
  | 0, .dict _, h => by cases h
  | k + 1, .bool _, h => by cases h
  | k + 1, .list _, h => by cases h
  | k + 1, .dict _, h => by cases h
def Fs : Nat → List W → Mem → Rs W
  | 0 => F__law_spoilt_0
  | k + 1 => runF 4 (m__law_spoilt (Fs k))
theorem Fs6 : F__law_spoilt_6 = Fs 6 := rfl
def spL (t : D) : List D := [.none, .str "ada", .str "", .int 5, .tuple [], .tuple [.int 1], .tuple [.tuple []], .tuple [.str "a"], t]
def emL : List D := [.tuple [.int 0], .tuple [.str ""], .tuple [.tuple []], .none]
theorem tm1 {x : D} (h : Tm x) : Tm (.tuple [x]) := .tup _ (show 1 ≤ 100 by decide) fun d hd => by rw [List.mem_singleton.mp hd]; exact h
theorem tm0 : Tm (.tuple []) := .tup _ (show 0 ≤ 100 by decide) fun d hd => by cases hd
theorem spL_tm {t x : D} (h : Tm t) (hx : x ∈ spL t) : Tm x := by
  unfold spL at hx
  simp only [List.mem_cons, List.not_mem_nil, or_false] at hx
  rcases hx with rfl | rfl | rfl | rfl | rfl | rfl | rfl | rfl | rfl
  · exact .none
  · exact .str _
  · exact .str _
  · exact .int _
  · exact tm0
  · exact tm1 (.int _)
  · exact tm1 tm0
  · exact tm1 (.str _)
  · exact h
theorem emL_tm {x : D} (hx : x ∈ emL) : Tm x := by
  unfold emL at hx
  simp only [List.mem_cons, List.not_mem_nil, or_false] at hx
  rcases hx with rfl | rfl | rfl | rfl
  · exact tm1 (.int _)
  · exact tm1 (.str _)
  · exact tm1 tm0
  · exact .none
theorem sl_one {a c e : EM W} {xs : List D} {k : Nat} (h : a rho m = .ok (.d (.tuple xs)) m) (h2 : c rho m = .ok (.d (nD k)) m) (h3 : e rho m = .ok (.d (nD (k + 1))) m) (hk : k < xs.length) : mSl a (oSome c) (oSome e) rho m = .ok (.d (.tuple ((xs.take (k + 1)).drop k))) m := by
  rw [e_Sl, h, ev_bindV, e_oS, h2, ev_bindV, val_d, ev_bind, e_oS, h3, ev_bindV, val_d, ev_bind, val_d, f_Sl, peek_d]
  show Rs.ok (W.d (.tuple (Den.cutD xs (some ((k : Nat) : Int)) (some ((k + 1 : Nat) : Int))))) m = _
  have e1 : HT.sIx xs.length 0 (some (k : Int)) = k := by
    unfold HT.sIx
    dsimp only
    split <;> (try omega)
  have e2 : HT.sIx xs.length xs.length (some ((k + 1 : Nat) : Int)) = k + 1 := by
    unfold HT.sIx
    dsimp only
    split <;> (try omega)
  unfold Den.cutD
  rw [e1, e2, List.drop_take]
theorem tm_app {xs ys : List D} (h : ∀ d ∈ xs, Tm d) (h2 : ∀ d ∈ ys, Tm d) (hl : xs.length + ys.length ≤ 100) : Tm (.tuple (xs ++ ys)) := .tup _ (by rw [List.length_append]; omega) fun d hd => by
  rcases List.mem_append.mp hd with hd | hd
  · exact h d hd
  · exact h2 d hd
/-- it returns a term and draws -/
def RtT (b n : Nat) (L : Nat) (o : Out) : Prop := ∃ (x : D) (m' : Mem), o = .rt (.d x) m' ∧ Tm x ∧ Dr b n m' ∧ m'.length = L
theorem rtT_rt {c d : SM} {L : Nat} (h : RtT b n L (c rho m)) : RtT b n L (sSeq c d rho m) := by
  obtain ⟨x, m', e, r⟩ := h
  exact ⟨x, m', rt_of e, r⟩
theorem spoilt_run {F : List W → Mem → Rs W} {t : D} (ht : Tm t) (h : isT t = false ∨ ∃ ds, t = .tuple ds ∧ SeqAt.shaped (.tuple ds) = true ∧ ds.length ≤ 10 ∧ ∀ d ∈ ds, ∀ m, Dr b n m → ∃ (x : D) (m' : Mem), F [.r n, .d d] m = .ok (.d x) m' ∧ Tm x ∧ Dr b n m' ∧ m'.length = m.length) (hd : Dr b n m) : RtT b n m.length (m__law_spoilt F [some (.r n), some (.d t), none, none] m) := by
  unfold m__law_spoilt
  have pk : ∀ {m1 : Mem}, Dr b n m1 → m1.length = m.length → RtT b n m.length ((sSeq (sRet (mCall 2 F__law_pick (mCons (mVar 0) (mCons (mLst (mCons (mC .none) (mCons (mC (.str "ada")) (mCons (mC (.str "")) (mCons (mC (.int 5)) (mCons (mTup (mNil)) (mCons (mTup (mCons (mC (.int 1)) (mNil))) (mCons (mTup (mCons (mTup (mNil)) (mNil))) (mCons (mTup (mCons (mC (.str "a")) (mNil))) (mCons (mVar 1) (mNil))))))))))) (mNil))))) (sSkip)) [some (.r n), some (.d t), none, none] m1) := fun {m1} d1 l1 => by
    obtain ⟨x, m', e, hx, d', l', _⟩ := pkF (rho := [some (.r n), some (.d t), none, none]) (k := 0) (c := mCons (mC .none) (mCons (mC (.str "ada")) (mCons (mC (.str "")) (mCons (mC (.int 5)) (mCons (mTup (mNil)) (mCons (mTup (mCons (mC (.int 1)) (mNil))) (mCons (mTup (mCons (mTup (mNil)) (mNil))) (mCons (mTup (mCons (mC (.str "a")) (mNil))) (mCons (mVar 1) (mNil)))))))))) (xs := spL t) d1 rfl (by unfold spL; array_get_dec) (by unfold spL; simp)
    exact ⟨x, m', s_ret e, spL_tm ht hx, d', by omega⟩
  have i1 := istup_e (m := m) (rho := [some (.r n), some (.d t), none, none]) (var_run (i := 1) rfl) ht
  rcases h with h | ⟨ds, rfl, hsh, hlen, hF⟩
  · rw [h] at i1
    refine rtT_rt ?_
    rw [s_if_t (k := true) (m1 := m) (orT (ntruB i1)) rfl rfl]
    exact pk hd rfl
  obtain ⟨v, m1, e1, v1, d1, l1, _⟩ := drwN (k := 0) (rho := [some (.r n), some (.d (.tuple ds)), none, none]) hd rfl
  have c1 : mOrT (mNotT (mTru (mIsTup (mVar 1)))) (mBool (mOp2 (mMod (mB (mCons (mCall 1 F__law_next (mCons (mVar 0) (mNil))) (mNil)) (fD1 intD)) (mC (.int 6))) (mC (.int 0)) (lift2 eqD))) [some (.r n), some (.d (.tuple ds)), none, none] m = .ok (((v % 6 : Nat) : Int) == 0) m1 := orM (ntruB i1) (bool_run (op_run (x_modN (j := 6) e1 const_run (by omega)) (const_run (v := .int 0)) l2_eq))
  cases q1 : (((v % 6 : Nat) : Int) == 0) with
  | true =>
    refine rtT_rt ?_
    rw [s_if_t c1 q1 rfl]
    exact pk d1 l1
  | false =>
  rw [seq_run (s_if_f c1 q1 s_skip)]
  have c2 : mBool (mOp2 (mVar 1) (mTup (mNil)) (lift2 eqD)) [some (.r n), some (.d (.tuple ds)), none, none] m1 = .ok (PyData.eqv (.tuple ds) (.tuple [])) m1 := by
    refine bool_run (op_run (w := .d (.tuple ds)) (w2 := .d (.tuple [])) (var_run rfl) (tup_run nil_run rfl rfl) (lift2_run rfl rfl ?_))
    show (if SeqAt.shaped (.tuple ds) && SeqAt.shaped (.tuple []) then some (W.d (.bool (PyData.eqv (.tuple ds) (.tuple [])))) else none) = _
    rw [hsh]
    rfl
  cases ds with
  | nil =>
    refine rtT_rt ?_
    rw [s_if_t c2 rfl rfl]
    obtain ⟨x, m', e, hx, d', l', _⟩ := pkF (rho := [some (.r n), some (.d (.tuple [])), none, none]) (k := 0) (c := mCons (mTup (mCons (mC (.int 0)) (mNil))) (mCons (mTup (mCons (mC (.str "")) (mNil))) (mCons (mTup (mCons (mTup (mNil)) (mNil))) (mCons (mC .none) (mNil))))) (xs := emL) d1 rfl (by unfold emL; array_get_dec) (by unfold emL; simp)
    exact ⟨x, m', s_ret e, emL_tm hx, d', by omega⟩
  | cons c r =>
  generalize hds : c :: r = ds at *
  have q2 : PyData.eqv (.tuple ds) (.tuple []) = false := by rw [← hds]; rfl
  have hpos : 0 < ds.length := by rw [← hds, List.length_cons]; omega
  rw [seq_run (s_if_f c2 q2 s_skip)]
  obtain ⟨v2, m2, e2, _, d2, l2, _⟩ := drwN (k := 0) (rho := [some (.r n), some (.d (.tuple ds)), none, none]) d1 rfl
  have ha := Nat.mod_lt v2 hpos
  refine s_seqP (P := RtT b n m.length) (rho' := [some (.r n), some (.d (.tuple ds)), some (.d (nD (v2 % ds.length))), none]) (m1 := m2) (s_asg (w := .d (nD (v2 % ds.length))) (x_modN e2 (len_e rfl) hpos) rfl) ?_
  generalize v2 % ds.length = a at ha
  obtain ⟨v3, m3, e3, _, d3, l3, _⟩ := drwN (k := 0) (rho := [some (.r n), some (.d (.tuple ds)), some (.d (nD a)), none]) d2 rfl
  refine s_seqP (P := RtT b n m.length) (rho' := [some (.r n), some (.d (.tuple ds)), some (.d (nD a)), some (.d (nD (v3 % 5)))]) (m1 := m3) (s_asg (w := .d (nD (v3 % 5))) (x_modN (j := 5) e3 const_run (by omega)) rfl) ?_
  generalize v3 % 5 = kd
  have hR : ∀ {m : Mem}, (mVar 1) [some (.r n), some (.d (.tuple ds)), some (.d (nD a)), some (.d (nD kd))] m = .ok (.d (.tuple ds)) m := var_run rfl
  have hA : ∀ {m : Mem}, (mVar 2) [some (.r n), some (.d (.tuple ds)), some (.d (nD a)), some (.d (nD kd))] m = .ok (.d (nD a)) m := var_run rfl
  have hA1 : ∀ {m : Mem}, mAdd (mVar 2) (mC (.int 1)) [some (.r n), some (.d (.tuple ds)), some (.d (nD a)), some (.d (nD kd))] m = .ok (.d (nD (a + 1))) m := x_addN (j := 1) hA const_run
  have hm : ∀ d ∈ ds, Tm d := ht.mem
  have hT : ∀ k, ∀ d ∈ ds.take k, Tm d := fun k d hd => hm d (List.mem_of_mem_take hd)
  have hD : ∀ k, ∀ d ∈ ds.drop k, Tm d := fun k d hd => hm d (List.mem_of_mem_drop hd)
  have lT := List.length_take (i := a) (l := ds)
  have lD := List.length_drop (i := a + 1) (l := ds)
  have sT : ∀ {m : Mem}, mSl (mVar 1) (oNone) (oSome (mVar 2)) [some (.r n), some (.d (.tuple ds)), some (.d (nD a)), some (.d (nD kd))] m = .ok (.d (.tuple (ds.take a))) m := sl_to hR hA
  have sD : ∀ {m : Mem}, mSl (mVar 1) (oSome (mAdd (mVar 2) (mC (.int 1)))) (oNone) [some (.r n), some (.d (.tuple ds)), some (.d (nD a)), some (.d (nD kd))] m = .ok (.d (.tuple (ds.drop (a + 1)))) m := sl_from hR hA1
  have c3 : mBool (mOp2 (mVar 3) (mC (.int 0)) (lift2 eqD)) [some (.r n), some (.d (.tuple ds)), some (.d (nD a)), some (.d (nD kd))] m3 = .ok ((kd : Int) == 0) m3 := bool_run (op_run (w := .d (nD kd)) (var_run rfl) const_run l2_eq)
  cases q3 : ((kd : Int) == 0) with
  | true =>
    refine rtT_rt ?_
    rw [s_if_t c3 q3 rfl]
    exact ⟨.tuple (ds.take a ++ ds.drop (a + 1)), m3, s_ret (add_run sT sD (x_addT (by omega))), tm_app (hT _) (hD _) (by omega), d3, by omega⟩
  | false =>
  rw [seq_run (s_if_f c3 q3 s_skip)]
  have c4 : mBool (mOp2 (mVar 3) (mC (.int 1)) (lift2 eqD)) [some (.r n), some (.d (.tuple ds)), some (.d (nD a)), some (.d (nD kd))] m3 = .ok ((kd : Int) == 1) m3 := bool_run (op_run (w := .d (nD kd)) (var_run rfl) const_run l2_eq)
  cases q4 : ((kd : Int) == 1) with
  | true =>
    rw [q4] at c4
    have l1' : ((ds.take (a + 1)).drop a).length ≤ 10 := by rw [List.length_drop, List.length_take]; omega
    exact ⟨.tuple (ds ++ (ds.take (a + 1)).drop a), m3, s_ret ((ifE_yes c4).trans (add_run hR (sl_one hR hA hA1 ha) (x_addT (by omega)))), tm_app hm (fun d hd => hm d (List.mem_of_mem_take (List.mem_of_mem_drop hd))) (by omega), d3, by omega⟩
  | false =>
    rw [q4] at c4
    obtain ⟨x, m4, e4, hx, d4, l4⟩ := hF (ds.getD a .none) (by rw [List.getD_eq_getElem?_getD, List.getElem?_eq_getElem ha]; exact List.getElem_mem ha) m3 d3
    have hg : ds[a]? = some (ds.getD a .none) := by rw [List.getD_eq_getElem?_getD, List.getElem?_eq_getElem ha]; rfl
    have hI : mIx (mVar 1) (mVar 2) [some (.r n), some (.d (.tuple ds)), some (.d (nD a)), some (.d (nD kd))] m3 = .ok (.d (ds.getD a .none)) m3 := ix_run hR hA (by have := x_ixT (m := m3) (f := id) (l := ds) (k := a) hg; rw [List.map_id] at this; exact this)
    have hC : mTup (mCons (mCall 2 F (mCons (mVar 0) (mCons (mIx (mVar 1) (mVar 2)) (mNil)))) (mNil)) [some (.r n), some (.d (.tuple ds)), some (.d (nD a)), some (.d (nD kd))] m3 = .ok (.d (.tuple [x])) m4 := tup_run (cons_run (call_run (n := 2) (cons_run (w := .r n) (var_run rfl) (cons_run hI nil_run)) rfl e4) nil_run) rfl rfl
    have l2' : (ds.take a ++ [x]).length + (ds.drop (a + 1)).length ≤ 100 := by rw [List.length_append, List.length_singleton]; omega
    refine ⟨.tuple (ds.take a ++ [x] ++ ds.drop (a + 1)), m4, s_ret ((ifE_no c4).trans (add_run (add_run sT hC (x_addT ?_)) sD (x_addT ?_))), tm_app (fun d hd => ?_) (hD _) l2', d4, by omega⟩
    · rw [List.length_singleton]; omega
    · omega
    · rcases List.mem_append.mp hd with hd | hd
      · exact hT _ d hd
      · rw [List.mem_singleton.mp hd]; exact hx
theorem spoilt_ok : ∀ (k : Nat) {t : D} {m : Mem}, tdB k t = true → Dr b n m → ∃ (x : D) (m' : Mem), Fs (k + 1) [.r n, .d t] m = .ok (.d x) m' ∧ Tm x ∧ Dr b n m' ∧ m'.length = m.length := by
  intro k
  induction k with
  | zero =>
    intro t m ht hd
    have h0 : isT t = false := by
      cases t with
      | tuple ds => cases ht
      | _ => rfl
    obtain ⟨x, m', e, r⟩ := spoilt_run (F := Fs 0) (td_tm ht) (.inl h0) hd
    exact ⟨x, m', run_draw rfl e r.2.2, r⟩
  | succ k ih =>
    intro t m ht hd
    have h0 : isT t = false ∨ ∃ ds, t = .tuple ds ∧ SeqAt.shaped (.tuple ds) = true ∧ ds.length ≤ 10 ∧ ∀ d ∈ ds, ∀ m, Dr b n m → ∃ (x : D) (m' : Mem), Fs (k + 1) [.r n, .d d] m = .ok (.d x) m' ∧ Tm x ∧ Dr b n m' ∧ m'.length = m.length := by
      cases t with
      | tuple ds =>
        have h := ht
        unfold tdB at h
        rw [Bool.and_eq_true, Bool.and_eq_true] at h
        exact .inr ⟨ds, rfl, h.1.1, of_decide_eq_true h.1.2, fun d hd m hm => ih (List.all_eq_true.mp h.2 d hd) hm⟩
      | _ => exact .inl rfl
    obtain ⟨x, m', e, r⟩ := spoilt_run (F := Fs (k + 1)) (td_tm ht) h0 hd
    exact ⟨x, m', run_draw rfl e r.2.2, r⟩
end
end Law
set_option exponentiation.threshold 10000
namespace Law
open PySem PySem.Spec PyProof.Rows L2 Den
/-! the executor: lookups (sizeOf_list_dec), calls of the program's functions (array_mem_dec, to be told more), all else (array_get_dec) -/
local macro_rules | `(tactic| sizeOf_list_dec) => `(tactic| repeat' (first
  | (with_reducible (show _ = _; assumption))
  | ((with_reducible apply set_ne'); · decide)
  | ((with_reducible apply wipe_ne'); · decide)
  | ((with_reducible apply set_eq'); · ((try simp only [List.length_set, wipe_len, List.length_cons, List.length_nil]); omega))
  | with_reducible exact look_Z
  | with_reducible apply look_S
  | rfl))
local macro_rules | `(tactic| array_get_dec) => `(tactic| repeat' (first
  | with_reducible exact const_run
  | ((with_reducible apply x_constE); rfl)
  | with_reducible (show _ = _; assumption)
  | ((with_reducible apply var_run); sizeOf_list_dec)
  | ((with_reducible apply set_ne'); · decide)
  | ((with_reducible apply wipe_ne'); · decide)
  | ((with_reducible apply set_eq'); · ((try simp only [List.length_set, wipe_len, List.length_cons, List.length_nil]); omega))
  | with_reducible exact look_Z
  | with_reducible apply look_S
  | with_reducible exact nil_run
  | with_reducible apply cons_run
  | with_reducible apply x_bool
  | with_reducible apply x_tru
  | with_reducible apply x_notT
  | with_reducible apply x_andT
  | with_reducible apply x_orT
  | with_reducible apply x_andV
  | with_reducible apply x_orV
  | with_reducible apply x_notV
  | with_reducible apply x_if
  | with_reducible apply x_chain
  | with_reducible apply x_chain3
  | with_reducible apply add_run
  | with_reducible apply x_sub
  | with_reducible apply x_mul
  | with_reducible apply x_mod
  | with_reducible apply x_neg
  | with_reducible apply ix_run
  | with_reducible apply op_run
  | with_reducible apply b_run
  | with_reducible apply x_call
  | with_reducible exact x_dnew
  | with_reducible apply x_new
  | with_reducible apply x_maxDf
  | with_reducible apply x_starL
  | with_reducible apply tup_run
  | with_reducible apply lst_run
  | with_reducible apply x_items
  | with_reducible apply x_zipR
  | with_reducible apply x_zipB
  | with_reducible apply x_enumR
  | with_reducible apply x_enum
  | with_reducible apply x_rangeN
  | with_reducible apply x_range
  | with_reducible apply x_lc
  | with_reducible apply x_lcF
  | ((with_reducible apply x_slFromS); · array_get_dec)
  | ((with_reducible apply x_slFromR); · array_get_dec)
  | ((with_reducible apply x_slFromRL); · array_get_dec)
  | ((with_reducible apply x_slToR); · array_get_dec)
  | ((with_reducible apply x_slFrom); · array_get_dec)
  | ((with_reducible apply x_slTo); · array_get_dec)
  | with_reducible apply s_ret
  | with_reducible apply s_seq
  | with_reducible apply s_asg
  | with_reducible apply s_asgR
  | with_reducible apply s_par
  | with_reducible apply s_tup
  | with_reducible apply s_aug
  | with_reducible apply s_app
  | with_reducible apply s_drop
  | with_reducible exact s_skip
  | simp only [val_d, val_n, val_r, val_s]
  | with_reducible exact set_Z
  | with_reducible apply set_S
  | with_reducible apply x_gT2
  | with_reducible apply x_gN
  | with_reducible apply x_gT
  | with_reducible exact x_gA0
  | with_reducible apply x_gA
  | array_mem_dec
  | with_reducible apply x_addL
  | with_reducible apply x_addT
  | with_reducible exact l2_add
  | with_reducible exact l2_le
  | with_reducible exact l2_lt
  | with_reducible exact l2_gt
  | with_reducible exact l2_ge
  | with_reducible exact l2_eq
  | with_reducible exact l2_ne
  | with_reducible exact l2_inN
  | with_reducible exact l2_ninN
  | with_reducible exact l2_gtP
  | with_reducible exact l2_ltP
  | with_reducible exact l2_eqS
  | with_reducible exact l2_neS
  | ((with_reducible show lift2 _ _ _ _ = _); rfl)
  | with_reducible apply x_ixT
  | with_reducible apply x_ixL
  | with_reducible apply x_ixR
  | ((with_reducible show fIx _ _ _ = _); rfl)
  | with_reducible exact x_lenRgT
  | with_reducible exact x_lenRgL
  | ((with_reducible show fD1 _ _ _ = _); exact x_D1 rfl all_map)
  | with_reducible apply x_N1
  | with_reducible apply peek_of
  | ((with_reducible show fD1 _ _ _ = _); exact x_D1 rfl any_map)
  | ((with_reducible show fD1 _ _ _ = _); exact x_D1 rfl sum_map)
  | ((with_reducible show fTup _ _ = _); exact x_tup rfl rfl)
  | with_reducible apply x_tupR
  | with_reducible apply x_lenR
  | with_reducible exact m_get0 _ _ _
  | with_reducible exact m_get1 _ _ _ _
  | with_reducible exact m_get2 _ _ _ _ _
  | with_reducible exact m_get3 _ _ _ _ _ _
  | with_reducible exact m_set0 _ _ _ _
  | with_reducible exact m_set1 _ _ _ _ _
  | with_reducible exact m_set2 _ _ _ _ _ _
  | with_reducible exact m_set3 _ _ _ _ _ _ _
  | with_reducible exact m_last _ _
  | with_reducible exact m_setL _ _ _
  | ((with_reducible show fD1 _ _ _ = _); rfl)
  | ((with_reducible show truW _ _ = _); rfl)
  | ((with_reducible show _ = PyData.tuple [_, _]); rfl)
  | ((with_reducible show frz _ _ = _); rfl)
  | ((with_reducible show frzAll _ _ = _); rfl)
  | ((with_reducible show seqOf _ = _); rfl)
  | ((with_reducible show peek _ (W.d _) = _); rfl)
  | ((with_reducible show List.length (_ :: _) = _); rfl)
  | ((with_reducible show List.length [] = _); rfl)
  | ((with_reducible show small _ = _); rfl)
  | (apply small_le; simp only [List.length_map, List.length_cons, List.length_nil, List.length_range, List.length_zip, List.length_zipIdx, List.length_drop, List.length_take, List.length_append]; omega)
  | with_reducible rfl
  | (show _ < _; assumption)
  | (show _ ≤ _; assumption)
  | (apply rg_get; first | assumption | omega | (simp only [List.mem_range] at *; omega))
  | (show ∀ x ∈ _, _; intro x hx)
  | (show _ = true → _; intro hp)
  | (show _ = false → _; intro hp)
  | (simp only [List.length_map, List.length_cons, List.length_nil, List.length_range, List.length_zip, List.length_zipIdx, List.length_drop, List.length_take, List.length_append, Nat.reduceLeDiff, Nat.reduceAdd]; done)
  | (simp only [List.length_map, List.length_cons, List.length_nil, List.length_range, List.length_zip, List.length_zipIdx, List.length_drop, List.length_take, List.length_append]; omega)
  | omega
  | (simp only [List.mem_range, List.length_map, List.length_range, List.length_cons, List.length_nil, List.length_append] at *; omega)))
/-! k21: the law's statements -/
abbrev S0 : SM := sSetR 1 (mCall 1 F__law_draws (mCons (mVar 0) (mNil)))
abbrev S1 : SM := sSetR 1 (mCall 2 F__law_more (mCons (mVar 1) (mCons (mC (.int 200)) (mNil))))
abbrev S2 : SM := sIf (mBool (mOp2 (mLst (mCons (mCall 1 F_words_of (mCons (mC (.str "a b")) (mNil))) (mCons (mCall 1 F_is_name (mCons (mC (.str "abcdefghijkl")) (mNil))) (mCons (mCall 1 F_is_name (mCons (mC (.str "abcdefghijklm")) (mNil))) (mCons (mCall 1 F_number_in (mCons (mC (.str "07")) (mNil))) (mCons (mCall 1 F_number_in (mCons (mC (.str "99")) (mNil))) (mNil))))))) (mLst (mCons (mLst (mCons (mC (.str "a")) (mCons (mC (.str "b")) (mNil)))) (mCons (mC (.bool true)) (mCons (mC (.bool false)) (mCons (mC .none) (mCons (mC (.int 99)) (mNil))))))) (lift2 neD))) (sSeq (sRet (mC (.bool false))) (sSkip)) (sSkip)
abbrev S3 : SM := sFor (mRange1 (mC (.int 6))) (gN 2) (sSeq (sSet 3 (mM .str (mC (.str "")) (mCons (mLC (mRange1 (mMod (mB (mCons (mCall 1 F__law_next (mCons (mVar 1) (mNil))) (mNil)) (fD1 intD)) (mC (.int 9)))) [4] (gN 4) (tYesT) (mCall 2 F__law_pick (mCons (mVar 1) (mCons (mLst (mCons (mC (.str "a")) (mCons (mC (.str "b")) (mCons (mC (.str " ")) (mCons (mC (.str "0")) (mCons (mC (.str "7")) (mCons (mC (.str "~")) (mCons (mC (.str "!")) (mCons (mC (.str "(")) (mCons (mC (.str "A")) (mCons (mC (.str "\t")) (mCons (mC (.str "-")) (mCons (mC (.str "z")) (mCons (mC (.str "  ")) (mNil))))))))))))))) (mNil))))) (mNil)) (fMD joinD))) (sSeq (sIf (mBool (mOp2 (mB (mCons (mCall 1 F_words_of (mCons (mVar 3) (mNil))) (mNil)) (fD1 reprD)) (mB (mCons (mCall 1 F__law_line (mCons (mVar 3) (mNil))) (mNil)) (fD1 reprD)) (lift2 neD))) (sSeq (sRet (mC (.bool false))) (sSkip)) (sSkip)) (sSeq (sSet 5 (mM .str (mC (.str "")) (mCons (mLC (mRange1 (mMod (mB (mCons (mCall 1 F__law_next (mCons (mVar 1) (mNil))) (mNil)) (fD1 intD)) (mC (.int 15)))) [4] (gN 4) (tYesT) (mCall 2 F__law_pick (mCons (mVar 1) (mCons (mLst (mCons (mC (.str "a")) (mCons (mC (.str "k")) (mCons (mC (.str "z")) (mCons (mC (.str "9")) (mCons (mC (.str "0")) (mCons (mC (.str "1")) (mCons (mC (.str "")) (mCons (mC (.str "")) (mCons (mC (.str "B")) (mNil))))))))))) (mNil))))) (mNil)) (fMD joinD))) (sSeq (sSet 6 (mAndV (mChain (lift2 leD) (lift2 leD) (mC (.int 1)) (mB (mCons (mVar 5) (mNil)) (fD1 lenD)) (mC (.int 12))) (mB (mCons (mLC (mChars (mVar 5)) [7] (gN 7) (tYesT) (mOp2 (mVar 7) (mC (.str "abcdefghijklmnopqrstuvwxyz")) (lift2 inD))) (mNil)) (fD1 allD)))) (sSeq (sIf (mBool (mOp2 (mB (mCons (mLst (mCons (mCall 1 F_is_name (mCons (mVar 5) (mNil))) (mCons (mCall 1 F_number_in (mCons (mVar 5) (mNil))) (mNil)))) (mNil)) (fD1 reprD)) (mB (mCons (mLst (mCons (mVar 6) (mCons (mCall 1 F__law_number_of (mCons (mVar 5) (mNil))) (mNil)))) (mNil)) (fD1 reprD)) (lift2 neD))) (sSeq (sRet (mC (.bool false))) (sSkip)) (sSkip)) (sSkip))))))
abbrev S4 : SM := sIf (mBool (mOp2 (mLC (mItems (mLst (mCons (mC (.str "")) (mCons (mC (.str "0")) (mCons (mC (.str "00")) (mCons (mC (.str "100")) (mCons (mC (.str "-1")) (mCons (mC (.str "5")) (mCons (mC (.str "+5")) (mCons (mC (.str " 5")) (mCons (mC (.str "5 ")) (mNil)))))))))))) [5] (gN 5) (tYesT) (mB (mCons (mCall 1 F_number_in (mCons (mVar 5) (mNil))) (mNil)) (fD1 reprD))) (mLst (mCons (mC (.str "None")) (mCons (mC (.str "0")) (mCons (mC (.str "None")) (mCons (mC (.str "None")) (mCons (mC (.str "None")) (mCons (mC (.str "5")) (mCons (mC (.str "None")) (mCons (mC (.str "None")) (mCons (mC (.str "None")) (mNil))))))))))) (lift2 neD))) (sSeq (sRet (mC (.bool false))) (sSkip)) (sSkip)
abbrev S5 : SM := sSet 8 (mLst (mCons (mTup (mCons (mC (.int 2)) (mCons (mTup (mCons (mTup (mCons (mC (.int 0)) (mCons (mC (.int 1)) (mCons (mTup (mCons (mC (.int 1)) (mCons (mC (.int 2)) (mNil)))) (mNil))))) (mNil))) (mNil)))) (mCons (mTup (mCons (mTup (mCons (mTup (mCons (mC (.int 1)) (mCons (mC (.int 1)) (mNil)))) (mNil))) (mCons (mTup (mCons (mTup (mCons (mC (.int 2)) (mCons (mC (.int 1)) (mNil)))) (mNil))) (mNil)))) (mCons (mTup (mCons (mTup (mCons (mC (.int 0)) (mCons (mC (.int 1)) (mNil)))) (mCons (mTup (mCons (mC (.int 2)) (mCons (mC (.int 0)) (mNil)))) (mNil)))) (mCons (mTup (mCons (mC (.int 0)) (mCons (mC (.int 1)) (mCons (mC (.int 1)) (mNil))))) (mCons (mTup (mCons (mC (.int 2)) (mCons (mTup (mCons (mTup (mCons (mC (.int 1)) (mCons (mC (.int 1)) (mNil)))) (mNil))) (mCons (mTup (mCons (mTup (mCons (mC (.int 1)) (mCons (mC (.int 2)) (mNil)))) (mCons (mTup (mCons (mC (.int 1)) (mCons (mC (.int 2)) (mNil)))) (mNil)))) (mNil))))) (mNil)))))))
abbrev S6 : SM := sFor (mItems (mAdd (mAdd (mVar 8) (mLC (mRange1 (mC (.int 12))) [2] (gN 2) (tYesT) (mCall 2 F__law_spoilt_6 (mCons (mVar 1) (mCons (mCall 2 F__law_pick (mCons (mVar 1) (mCons (mVar 8) (mNil)))) (mNil)))))) (mLst (mCons (mTup (mNil)) (mCons (mC .none) (mCons (mC (.str "")) (mCons (mC (.int 0)) (mNil)))))))) (gN 9) (sSeq (sSet 10 (mLst (mCons (mC (.str "chain")) (mCons (mC (.str "station")) (mCons (mC (.str "fractions")) (mCons (mC (.str "steps")) (mCons (mC (.str "slots")) (mCons (mC (.str "row")) (mNil))))))))) (sSeq (sIf (mBool (mOp2 (mLC (mItems (mVar 10)) [11] (gN 11) (tYesT) (mCall 2 F_has_form (mCons (mVar 11) (mCons (mVar 9) (mNil))))) (mLC (mItems (mVar 10)) [11] (gN 11) (tYesT) (mCall 2 F__law_due (mCons (mVar 11) (mCons (mVar 9) (mNil))))) (lift2 neD))) (sSeq (sRet (mC (.bool false))) (sSkip)) (sSkip)) (sSkip)))
abbrev S7 : SM := sFor (mItems (mLst (mCons (mC (.str "")) (mCons (mC (.str "Form")) (mCons (mC (.str "term")) (mNil)))))) (gN 12) (sSeq (sTryN 13 (sSeq (sDrop (mCall 2 F_has_form (mCons (mVar 12) (mCons (mTup (mNil)) (mNil))))) (sSeq (sRet (mC (.bool false))) (sSkip))) kindF "!number") (sSkip))
abbrev S8 : SM := sRet (mC (.bool true))
abbrev B3 : SM := sSeq (sSet 3 (mM .str (mC (.str "")) (mCons (mLC (mRange1 (mMod (mB (mCons (mCall 1 F__law_next (mCons (mVar 1) (mNil))) (mNil)) (fD1 intD)) (mC (.int 9)))) [4] (gN 4) (tYesT) (mCall 2 F__law_pick (mCons (mVar 1) (mCons (mLst (mCons (mC (.str "a")) (mCons (mC (.str "b")) (mCons (mC (.str " ")) (mCons (mC (.str "0")) (mCons (mC (.str "7")) (mCons (mC (.str "~")) (mCons (mC (.str "!")) (mCons (mC (.str "(")) (mCons (mC (.str "A")) (mCons (mC (.str "\t")) (mCons (mC (.str "-")) (mCons (mC (.str "z")) (mCons (mC (.str "  ")) (mNil))))))))))))))) (mNil))))) (mNil)) (fMD joinD))) (sSeq (sIf (mBool (mOp2 (mB (mCons (mCall 1 F_words_of (mCons (mVar 3) (mNil))) (mNil)) (fD1 reprD)) (mB (mCons (mCall 1 F__law_line (mCons (mVar 3) (mNil))) (mNil)) (fD1 reprD)) (lift2 neD))) (sSeq (sRet (mC (.bool false))) (sSkip)) (sSkip)) (sSeq (sSet 5 (mM .str (mC (.str "")) (mCons (mLC (mRange1 (mMod (mB (mCons (mCall 1 F__law_next (mCons (mVar 1) (mNil))) (mNil)) (fD1 intD)) (mC (.int 15)))) [4] (gN 4) (tYesT) (mCall 2 F__law_pick (mCons (mVar 1) (mCons (mLst (mCons (mC (.str "a")) (mCons (mC (.str "k")) (mCons (mC (.str "z")) (mCons (mC (.str "9")) (mCons (mC (.str "0")) (mCons (mC (.str "1")) (mCons (mC (.str "")) (mCons (mC (.str "")) (mCons (mC (.str "B")) (mNil))))))))))) (mNil))))) (mNil)) (fMD joinD))) (sSeq (sSet 6 (mAndV (mChain (lift2 leD) (lift2 leD) (mC (.int 1)) (mB (mCons (mVar 5) (mNil)) (fD1 lenD)) (mC (.int 12))) (mB (mCons (mLC (mChars (mVar 5)) [7] (gN 7) (tYesT) (mOp2 (mVar 7) (mC (.str "abcdefghijklmnopqrstuvwxyz")) (lift2 inD))) (mNil)) (fD1 allD)))) (sSeq (sIf (mBool (mOp2 (mB (mCons (mLst (mCons (mCall 1 F_is_name (mCons (mVar 5) (mNil))) (mCons (mCall 1 F_number_in (mCons (mVar 5) (mNil))) (mNil)))) (mNil)) (fD1 reprD)) (mB (mCons (mLst (mCons (mVar 6) (mCons (mCall 1 F__law_number_of (mCons (mVar 5) (mNil))) (mNil)))) (mNil)) (fD1 reprD)) (lift2 neD))) (sSeq (sRet (mC (.bool false))) (sSkip)) (sSkip)) (sSkip)))))
abbrev B6 : SM := sSeq (sSet 10 (mLst (mCons (mC (.str "chain")) (mCons (mC (.str "station")) (mCons (mC (.str "fractions")) (mCons (mC (.str "steps")) (mCons (mC (.str "slots")) (mCons (mC (.str "row")) (mNil))))))))) (sSeq (sIf (mBool (mOp2 (mLC (mItems (mVar 10)) [11] (gN 11) (tYesT) (mCall 2 F_has_form (mCons (mVar 11) (mCons (mVar 9) (mNil))))) (mLC (mItems (mVar 10)) [11] (gN 11) (tYesT) (mCall 2 F__law_due (mCons (mVar 11) (mCons (mVar 9) (mNil))))) (lift2 neD))) (sSeq (sRet (mC (.bool false))) (sSkip)) (sSkip)) (sSkip))
abbrev B7 : SM := sSeq (sTryN 13 (sSeq (sDrop (mCall 2 F_has_form (mCons (mVar 12) (mCons (mTup (mNil)) (mNil))))) (sSeq (sRet (mC (.bool false))) (sSkip))) kindF "!number") (sSkip)
section
variable {m : Mem} {rho : Den.Env} {b : Nat}
def aL : Str := "abcdefghijkl"
def aM : Str := "abcdefghijklm"
theorem s2 : S2 rho m = .nx rho m := by
  have e1 : F_words_of [.d (.str "a b")] m = .ok (.d (.list [.str "a", .str "b"])) m := by
    have h := words_ok (m := m) (l := [97, 32, 98]) (by decide)
    have q1 : (SX.S [97, 32, 98] : Str) = "a b" := by decide
    have q2 : wordsD [97, 32, 98] = .list [.str "a", .str "b"] := by kernel_rfl
    rw [q1, q2] at h
    exact h
  have e2 : F_is_name [.d (.str "abcdefghijkl")] m = .ok (.d (.bool true)) m := by
    have h := name_ok (m := m) (w := "abcdefghijkl") (by decide)
    have q2 : nameB "abcdefghijkl" = true := by decide +kernel
    rw [q2] at h
    exact h
  have e3 : F_is_name [.d (.str "abcdefghijklm")] m = .ok (.d (.bool false)) m := by
    have h := name_ok (m := m) (w := "abcdefghijklm") (by decide)
    have q2 : nameB "abcdefghijklm" = false := by decide +kernel
    rw [q2] at h
    exact h
  have e4 : F_number_in [.d (.str "07")] m = .ok (.d .none) m := by
    have h := numin_ok (m := m) (w := "07") (by decide) fun _ _ => ⟨7, by decide +kernel⟩
    have q2 : optD (numIn "07") = .none := by kernel_rfl
    rw [q2] at h
    exact h
  have e5 : F_number_in [.d (.str "99")] m = .ok (.d (.int 99)) m := by
    have h := numin_ok (m := m) (w := "99") (by decide) fun _ _ => ⟨99, by decide +kernel⟩
    have q2 : optD (numIn "99") = .int 99 := by kernel_rfl
    rw [q2] at h
    exact h
  refine s_if_f (k := false) (m1 := m) (bool_run (op_run (w := .n (.list [.list [.str "a", .str "b"], .bool true, .bool false, .none, .int 99])) (w2 := .n (.list [.list [.str "a", .str "b"], .bool true, .bool false, .none, .int 99])) (lst_run (cons_run (call_run (cons_run const_run nil_run) rfl e1) (cons_run (call_run (cons_run const_run nil_run) rfl e2) (cons_run (call_run (cons_run const_run nil_run) rfl e3) (cons_run (call_run (cons_run const_run nil_run) rfl e4) (cons_run (call_run (cons_run const_run nil_run) rfl e5) nil_run))))) rfl rfl) (by array_get_dec) (lift2_run rfl rfl (by kernel_rfl)))) rfl s_skip
theorem smallN_ok : smallW.all (fun l => match numIn (SX.S l) with | some n => decide (n.natAbs < 1000) | none => true) = true := by decide +kernel
theorem numIn_lt {l : List Nat} (h : ∀ c ∈ l, c ∈ wordA) {k : Int} (hk : numIn (SX.S l) = some k) : k.natAbs < 10 ^ 3 := by
  by_cases hl : l.length ≤ 2
  · have q := List.all_eq_true.mp smallN_ok l (mem_smallW h hl)
    rw [hk] at q
    exact of_decide_eq_true q
  · have h3 : 3 ≤ (SX.S l).length := by rw [SX.S_len]; omega
    have := figs_num hk
    rw [(big_no h3).1] at this
    cases this
theorem line_lst : mLst (mCons (mC (.str "a")) (mCons (mC (.str "b")) (mCons (mC (.str " ")) (mCons (mC (.str "0")) (mCons (mC (.str "7")) (mCons (mC (.str "~")) (mCons (mC (.str "!")) (mCons (mC (.str "(")) (mCons (mC (.str "A")) (mCons (mC (.str "\t")) (mCons (mC (.str "-")) (mCons (mC (.str "z")) (mCons (mC (.str "  ")) (mNil)))))))))))))) rho m = .ok (.n (.list (lineY.map .str))) m := by
  unfold lineY
  array_get_dec
theorem word_lst : mLst (mCons (mC (.str "a")) (mCons (mC (.str "k")) (mCons (mC (.str "z")) (mCons (mC (.str "9")) (mCons (mC (.str "0")) (mCons (mC (.str "1")) (mCons (mC (.str "")) (mCons (mC (.str "")) (mCons (mC (.str "B")) (mNil)))))))))) rho m = .ok (.n (.list (wordY.map .str))) m := by
  unfold wordY
  array_get_dec
theorem set_nx {c : SM} {rho' : Den.Env} {m m' : Mem} {J : Den.Env → Mem → Prop} {d : SM} (h : c rho m = .nx rho' m') (h2 : NX J (d rho' m')) : NX J (sSeq c d rho m) := s_seqP (P := NX J) h h2
/-- a word is in its form -/
theorem strok_S {l : List Nat} (h : ∀ c ∈ l, c < 128) : PyData.strOk (SX.S l) = true := by
  show l.toArray.all _ = true
  rw [← Array.all_toList]
  exact List.all_eq_true.mpr fun c hc => decide_eq_true (Nat.lt_trans (h c hc) (by decide))
theorem b3 {L i : Nat} {rho : Den.Env} {m1 : Mem} (h1 : rho[1]? = some (some (.r 1))) (hl : rho.length = 14) (hd : Dr b 1 m1) (hm : m1.length = L) : Step (gN 2) B3 (nD i) rho m1 (fun r m' => r[1]? = some (some (.r 1)) ∧ r.length = 14 ∧ Dr b 1 m' ∧ m'.length = L) := by
  refine step_P (r1 := rho.set 2 (some (.d (nD i)))) rfl ?_
  have h1 : (rho.set 2 (some (.d (nD i))))[1]? = some (some (.r 1)) := by rw [List.getElem?_set_ne (by decide)]; exact h1
  have hl : (rho.set 2 (some (.d (nD i)))).length = 14 := by rw [List.length_set]; exact hl
  generalize rho.set 2 (some (.d (nD i))) = rho at h1 hl
  obtain ⟨zs, m2, e2, z2, y2, d2, l2⟩ := text_draw (k := 9) (ys := lineY) hd h1 (fun rho m => line_lst) (by decide) (by decide) (by decide) (by decide)
  refine set_nx (s_asg e2 rfl) ?_
  have h1 : (rho.set 3 (some (.d (.str (SX.S (zs.map TL.tl).flatten)))))[1]? = some (some (.r 1)) := by rw [List.getElem?_set_ne (by decide)]; exact h1
  have h3 : (rho.set 3 (some (.d (.str (SX.S (zs.map TL.tl).flatten)))))[3]? = some (some (.d (.str (SX.S (zs.map TL.tl).flatten)))) := List.getElem?_set_self (by omega)
  have hl : (rho.set 3 (some (.d (.str (SX.S (zs.map TL.tl).flatten))))).length = 14 := by rw [List.length_set]; exact hl
  have fl := flat_len (k := 2) y2 (by decide)
  have fm := flat_mem (A := [97, 98, 32, 48, 55, 126, 33, 40, 65, 9, 45, 122]) y2 (by decide)
  generalize (zs.map TL.tl).flatten = ln at h1 h3 hl fl fm
  rw [val_d]
  generalize rho.set 3 (some (.d (.str (SX.S ln)))) = rho at h1 h3 hl
  have fa : ∀ c ∈ ln, c < 128 := fun c hc => by
    have := fm c hc
    simp only [List.mem_cons, List.not_mem_nil, or_false] at this
    omega
  refine set_nx (rho' := rho) (m' := m2) (s_if_f (k := false) (m1 := m2) (repr_same (w1 := .d (wordsD ln)) (w2 := .d (wordsD ln)) (x := wordsD ln) (d := 10) (r := 10000) (x_call (cons_run (var_run h3) nil_run) (words_ok (by omega)) rfl) (x_call (cons_run (var_run h3) nil_run) (by rw [line_same]; exact words_ok (by omega)) rfl) rfl rfl (wordsD_shv (by omega) fa) (by decide) (by decide)) rfl s_skip) ?_
  clear h3 fl fm fa e2
  obtain ⟨zs, m3, e3, z3, y3, d3, l3⟩ := text_draw (k := 15) (ys := wordY) d2 h1 (fun rho m => word_lst) (by decide) (by decide) (by decide) (by decide)
  refine set_nx (s_asg e3 rfl) ?_
  have h1 : (rho.set 5 (some (.d (.str (SX.S (zs.map TL.tl).flatten)))))[1]? = some (some (.r 1)) := by rw [List.getElem?_set_ne (by decide)]; exact h1
  have h5 : (rho.set 5 (some (.d (.str (SX.S (zs.map TL.tl).flatten)))))[5]? = some (some (.d (.str (SX.S (zs.map TL.tl).flatten)))) := List.getElem?_set_self (by omega)
  have hl : (rho.set 5 (some (.d (.str (SX.S (zs.map TL.tl).flatten))))).length = 14 := by rw [List.length_set]; exact hl
  have fl := flat_len (k := 2) y3 (by decide)
  have fm := flat_mem (A := wordA) y3 (by decide)
  generalize (zs.map TL.tl).flatten = wd at h1 h5 hl fl fm
  rw [val_d]
  generalize rho.set 5 (some (.d (.str (SX.S wd)))) = rho at h1 h5 hl
  have hw : (SX.S wd).length ≤ 100 := by rw [SX.S_len]; omega
  obtain ⟨f1, f2, f3⟩ := word_facts fm
  have fn := fun {k} => numIn_lt (k := k) fm
  have fo : PyData.strOk (SX.S wd) = true := strok_S (wordA_small fm)
  generalize SX.S wd = w at *
  refine set_nx (s_asg (name_e h5 (by omega) (by omega)) rfl) ?_
  rw [val_d]
  have h1' : (rho.set 6 (some (.d (.bool (nameB w)))))[1]? = some (some (.r 1)) := by rw [List.getElem?_set_ne (by decide)]; exact h1
  have h5' : (rho.set 6 (some (.d (.bool (nameB w)))))[5]? = some (some (.d (.str w))) := by rw [List.getElem?_set_ne (by decide)]; exact h5
  have h6' : (rho.set 6 (some (.d (.bool (nameB w)))))[6]? = some (some (.d (.bool (nameB w)))) := List.getElem?_set_self (by omega)
  have hl' : (rho.set 6 (some (.d (.bool (nameB w))))).length = 14 := by rw [List.length_set]; exact hl
  generalize rho.set 6 (some (.d (.bool (nameB w)))) = rho' at *
  have n1 : F_number_in [.d (.str w)] m3 = .ok (.d (optD (numIn w))) m3 := numin_ok hw f2
  have n2 : F__law_number_of [.d (.str w)] m3 = .ok (.d (optD (numIn w))) m3 := by rw [f1]; exact numof_ok hw fo f3
  have S : Shv 10 10000 (.list [.bool (nameB w), optD (numIn w)]) := by
    refine (shv_listL (d := 5) (r := 10) (L := 2) (xs := [.bool (nameB w), optD (numIn w)]) (fun x hx => ?_) (show 2 ≤ 2 by decide)).up (by decide) (by decide)
    simp only [List.mem_cons, List.not_mem_nil, or_false] at hx
    rcases hx with rfl | rfl
    · exact (shv_bool (d := 5)).up (by decide) (by decide)
    · cases q : numIn w with
      | none => exact (shv_none (d := 5)).up (by decide) (by decide)
      | some k => exact (shv_int (d := 5) (k := 3) (fn q) (by decide) (by decide)).up (by decide) (by decide)
  have k1 : mLst (mCons (mCall 1 F_is_name (mCons (mVar 5) (mNil))) (mCons (mCall 1 F_number_in (mCons (mVar 5) (mNil))) (mNil))) rho' m3 = .ok (.n (.list [.bool (nameB w), optD (numIn w)])) m3 := lst_run (cons_run (w := .d (.bool (nameB w))) (call_run (n := 1) (cons_run (var_run h5') nil_run) rfl (name_ok (by omega))) (cons_run (w := .d (optD (numIn w))) (call_run (n := 1) (cons_run (var_run h5') nil_run) rfl n1) nil_run)) rfl rfl
  have k2 : mLst (mCons (mVar 6) (mCons (mCall 1 F__law_number_of (mCons (mVar 5) (mNil))) (mNil))) rho' m3 = .ok (.n (.list [.bool (nameB w), optD (numIn w)])) m3 := lst_run (cons_run (w := .d (.bool (nameB w))) (var_run h6') (cons_run (w := .d (optD (numIn w))) (call_run (n := 1) (cons_run (var_run h5') nil_run) rfl n2) nil_run)) rfl rfl
  refine set_nx (rho' := rho') (m' := m3) (s_if_f (k := false) (m1 := m3) (repr_same k1 k2 rfl rfl S (by decide) (by decide)) rfl s_skip) ?_
  exact ⟨rho', m3, rfl, h1', hl', d3, by omega⟩
theorem s3 (hd : Dr b 1 m) (h1 : rho[1]? = some (some (.r 1))) (hl : rho.length = 14) : ∃ r m', S3 rho m = .nx r m' ∧ r[1]? = some (some (.r 1)) ∧ r.length = 14 ∧ Dr b 1 m' ∧ m'.length = m.length := by
  obtain ⟨r, m', e, j1, j2, j3, j4⟩ := for_rg (g := gN 2) (F := nD) (n := 6) (m := m) (rho := rho) (c := B3) (fun _ r m' => r[1]? = some (some (.r 1)) ∧ r.length = 14 ∧ Dr b 1 m' ∧ m'.length = m.length) ⟨h1, hl, hd, rfl⟩ fun i hi rho m1 ⟨h1, hl, hd, hm⟩ => b3 h1 hl hd hm
  exact ⟨r, m', for_run (x_rangeN (n := 6) const_run (by decide)) e, j1, j2, j3, j4⟩
def numL : List Str := ["", "0", "00", "100", "-1", "5", "+5", " 5", "5 "]
theorem numL_ok : numL.all (fun w => decide (w.length ≤ 100) && (!(lenOk w && figs w) || (PySem.intText? w).isSome) && reprOk (optD (numIn w))) = true := by decide +kernel
theorem s4 (hl : rho.length = 14) : S4 rho m = .nx rho m := by
  have e1 : mLC (mItems (mLst (mCons (mC (.str "")) (mCons (mC (.str "0")) (mCons (mC (.str "00")) (mCons (mC (.str "100")) (mCons (mC (.str "-1")) (mCons (mC (.str "5")) (mCons (mC (.str "+5")) (mCons (mC (.str " 5")) (mCons (mC (.str "5 ")) (mNil)))))))))))) [5] (gN 5) (tYesT) (mB (mCons (mCall 1 F_number_in (mCons (mVar 5) (mNil))) (mNil)) (fD1 reprD)) rho m = .ok (.n (.list (numL.map fun w => .str (optD (numIn w)).shown))) m := by
    refine x_lc (l := numL) (F := .str) (R1 := fun w => (wipeE rho [5]).set 5 (some (.d (.str w)))) (wv := fun w => .d (.str (optD (numIn w)).shown)) (x_items (w := .n (.list (numL.map .str))) (by unfold numL; array_get_dec) rfl rfl) (by decide) (fun w _ => rfl) (fun w hw => ?_) fun w _ => rfl
    have q := List.all_eq_true.mp numL_ok w hw
    rw [Bool.and_eq_true, Bool.and_eq_true] at q
    obtain ⟨⟨q1, q2⟩, q3⟩ := q
    have h5 : ((wipeE rho [5]).set 5 (some (.d (.str w))))[5]? = some (some (.d (.str w))) := List.getElem?_set_self (by rw [wipe_len]; omega)
    refine b_run (cons_run (w := .d (optD (numIn w))) (x_call (cons_run (var_run h5) nil_run) (numin_ok (of_decide_eq_true q1) fun a b => ?_) rfl) nil_run) (D1_run ?_)
    · rw [a, b] at q2
      exact Option.isSome_iff_exists.mp (by simpa using q2)
    · show (if reprOk _ = true then _ else _) = _
      rw [if_pos q3]
  refine s_if_f (k := false) (m1 := m) (bool_run (op_run e1 (w2 := .n (.list [.str "None", .str "0", .str "None", .str "None", .str "None", .str "5", .str "None", .str "None", .str "None"])) ?_ (lift2_run rfl rfl (by kernel_rfl)))) rfl s_skip
  array_get_dec
def termL : List D := [.tuple [.int 2, .tuple [.tuple [.int 0, .int 1, .tuple [.int 1, .int 2]]]], .tuple [.tuple [.tuple [.int 1, .int 1]], .tuple [.tuple [.int 2, .int 1]]], .tuple [.tuple [.int 0, .int 1], .tuple [.int 2, .int 0]], .tuple [.int 0, .int 1, .int 1], .tuple [.int 2, .tuple [.tuple [.int 1, .int 1]], .tuple [.tuple [.int 1, .int 2], .tuple [.int 1, .int 2]]]]
theorem termL_ok : termL.all (tdB 5) = true := by kernel_rfl
theorem s5 : S5 rho m = .nx (rho.set 8 (some (.d (.list termL)))) m := by
  refine s_asg (w := .n (.list termL)) ?_ rfl
  unfold termL
  array_get_dec
def endL : List D := [.tuple [], .none, .str "", .int 0]
theorem endL_tm {x : D} (h : x ∈ endL) : Tm x := by
  unfold endL at h
  simp only [List.mem_cons, List.not_mem_nil, or_false] at h
  rcases h with rfl | rfl | rfl | rfl
  · exact tm0
  · exact .none
  · exact .str _
  · exact .int _
theorem ne_bools (a b c d e f : Bool) : neD (.list [.bool a, .bool b, .bool c, .bool d, .bool e, .bool f]) (.list [.bool a, .bool b, .bool c, .bool d, .bool e, .bool f]) = some (.d (.bool false)) := by
  cases a <;> cases b <;> cases c <;> cases d <;> cases e <;> cases f <;> kernel_rfl
theorem kinds_lst : mLst (mCons (mC (.str "chain")) (mCons (mC (.str "station")) (mCons (mC (.str "fractions")) (mCons (mC (.str "steps")) (mCons (mC (.str "slots")) (mCons (mC (.str "row")) (mNil))))))) rho m = .ok (.n (.list (kindsL.map .str))) m := by
  unfold kindsL
  array_get_dec
theorem lc_draw0 {b n : Nat} {it : EM (List D)} {vs : List Nat} {g : GM} {a : EM W} {rho : Den.Env} {m m0 : Mem} {N : Nat} {F : Nat → D} (Q : D → Prop) (R1 : Nat → Den.Env) (hit : it rho m = .ok ((List.range N).map F) m0) (hN : N ≤ 1000000) (d : Dr b n m0)
    (hg : ∀ i, i < N → ∀ m, g (.d (F i)) (wipeE rho vs) m = some (R1 i, m))
    (H : ∀ i, i < N → ∀ m, Dr b n m → m.length = m0.length → ∃ w m' z, a (R1 i) m = .ok w m' ∧ frz m' (val w) = some (z, m') ∧ Q z ∧ Dr b n m' ∧ m'.length = m.length) :
    ∃ l m', mLC it vs g tYesT a rho m = .ok (.n (.list l)) m' ∧ l.length = N ∧ (∀ z ∈ l, Q z) ∧ Dr b n m' ∧ m'.length = m0.length := by
  obtain ⟨acc, m', e, d', l', h1, h2⟩ := mLC_inv (it := it) (vs := vs) (g := g) (t := tYesT) (a := a) (rho := rho) (m := m) (m0 := m0) (items := (List.range N).map F)
    (fun i m' acc => Dr b n m' ∧ m'.length = m0.length ∧ acc.length = i ∧ ∀ z ∈ acc, Q z) hit (by rw [List.length_map, List.length_range]; exact hN) ⟨d, rfl, rfl, fun z hz => by cases hz⟩ (fun i hi m1 acc ⟨d1, l1, a1, a2⟩ => by
      have hi' : i < N := by simpa using hi
      have ei : ((List.range N).map F)[i] = F i := by simp
      rw [ei]
      obtain ⟨w, m2, z, e1, e2, e3, d2, l2⟩ := H i hi' m1 d1 l1
      exact ⟨R1 i, true, m1, hg i hi' m1, rfl, (fun z => nomatch z), fun _ => ⟨w, m2, z, m2, e1, e2, d2, by omega, by simp [a1], fun y hy => by
        rcases List.mem_append.mp hy with hy | hy
        · exact a2 y hy
        · rw [List.mem_singleton.mp hy]; exact e3⟩⟩)
  rw [List.length_map, List.length_range] at h1
  exact ⟨acc, m', e, h1, h2, d', l'⟩
theorem b6 {t : D} {rho : Den.Env} {m : Mem} (hx : Tm t) (hl : rho.length = 14) : Step (gN 9) B6 t rho m (fun r _ => r.length = 14) := by
  refine step_P (r1 := rho.set 9 (some (.d t))) rfl ?_
  have h9 : (rho.set 9 (some (.d t)))[9]? = some (some (.d t)) := List.getElem?_set_self (by omega)
  have hl : (rho.set 9 (some (.d t))).length = 14 := by rw [List.length_set]; exact hl
  generalize rho.set 9 (some (.d t)) = rho at h9 hl
  refine set_nx (s_asg kinds_lst rfl) ?_
  rw [val_n]
  have h9 : (rho.set 10 (some (.d (.list (kindsL.map .str)))))[9]? = some (some (.d t)) := by rw [List.getElem?_set_ne (by decide)]; exact h9
  have h10 : (rho.set 10 (some (.d (.list (kindsL.map .str)))))[10]? = some (some (.d (.list (kindsL.map .str)))) := List.getElem?_set_self (by omega)
  have hl : (rho.set 10 (some (.d (.list (kindsL.map .str))))).length = 14 := by rw [List.length_set]; exact hl
  generalize rho.set 10 (some (.d (.list (kindsL.map .str)))) = rho at h9 h10 hl
  have row : ∀ {F : List W → Mem → Rs W}, (∀ z ∈ kindsL, F [.d (.str z), .d t] m = .ok (.d (.bool (formB z t))) m) → mLC (mItems (mVar 10)) [11] (gN 11) (tYesT) (mCall 2 F (mCons (mVar 11) (mCons (mVar 9) (mNil)))) rho m = .ok (.n (.list (kindsL.map fun z => .bool (formB z t)))) m := fun {F} hF => by
    refine x_lc (l := kindsL) (F := .str) (R1 := fun w => (wipeE rho [11]).set 11 (some (.d (.str w)))) (wv := fun w => .d (.bool (formB w t))) (x_items (w := .d (.list (kindsL.map .str))) (var_run h10) rfl rfl) (by decide) (fun w _ => rfl) (fun w hw => ?_) fun w _ => rfl
    have h11 : ((wipeE rho [11]).set 11 (some (.d (.str w))))[11]? = some (some (.d (.str w))) := List.getElem?_set_self (by rw [wipe_len]; omega)
    have h9' : ((wipeE rho [11]).set 11 (some (.d (.str w))))[9]? = some (some (.d t)) := by rw [List.getElem?_set_ne (by decide)]; exact (wipe_ne (by decide)).trans h9
    exact call_run (n := 2) (cons_run (var_run h11) (cons_run (var_run h9') nil_run)) rfl (hF w hw)
  have rA := row fun z hz => form_ok hz hx
  have rB := row fun z hz => due_ok hz hx
  refine set_nx (rho' := rho) (m' := m) (s_if_f (k := false) (m1 := m) (bool_run (op_run rA rB (lift2_run rfl rfl ?_))) rfl s_skip) ⟨rho, m, rfl, hl⟩
  unfold kindsL
  simp only [List.map_cons, List.map_nil]
  exact ne_bools _ _ _ _ _ _
theorem s6 (hd : Dr b 1 m) (h1 : rho[1]? = some (some (.r 1))) (h8 : rho[8]? = some (some (.d (.list termL)))) (hl : rho.length = 14) : ∃ r m', S6 rho m = .nx r m' ∧ r.length = 14 := by
  obtain ⟨l, m1, e1, n1, q1, d1, l1⟩ := lc_draw0 (N := 12) (m0 := m) (it := mRange1 (mC (.int 12))) (vs := [2]) (g := gN 2) (rho := rho) (m := m) (a := mCall 2 F__law_spoilt_6 (mCons (mVar 1) (mCons (mCall 2 F__law_pick (mCons (mVar 1) (mCons (mVar 8) (mNil)))) (mNil)))) (F := nD) Tm (fun i => (wipeE rho [2]).set 2 (some (.d (nD i)))) (x_rangeN (n := 12) const_run (by decide)) (by decide) hd (fun i hi m => rfl) fun i hi m d _ => by
    have h1' : ((wipeE rho [2]).set 2 (some (.d (nD i))))[1]? = some (some (.r 1)) := by rw [List.getElem?_set_ne (by decide)]; exact (wipe_ne (by decide)).trans h1
    have h8' : ((wipeE rho [2]).set 2 (some (.d (nD i))))[8]? = some (some (.d (.list termL))) := by rw [List.getElem?_set_ne (by decide)]; exact (wipe_ne (by decide)).trans h8
    obtain ⟨x, m2, e2, hx, d2, l2, _⟩ := pickF (some_ := termL) d (by unfold termL; simp)
    obtain ⟨y, m3, e3, hy, d3, l3⟩ := spoilt_ok 5 (List.all_eq_true.mp termL_ok x hx) d2
    exact ⟨.d y, m3, y, call_run (n := 2) (cons_run (var_run h1') (cons_run (w := .d x) (call_run (n := 2) (cons_run (var_run h1') (cons_run (var_run h8') nil_run)) rfl e2) nil_run)) rfl (by rw [Fs6]; exact e3), rfl, hy, d3, by omega⟩
  have lt : termL.length = 5 := rfl
  have le : endL.length = 4 := rfl
  have hT : ∀ x ∈ termL ++ l ++ endL, Tm x := fun x hx => by
    rcases List.mem_append.mp hx with hx | hx
    · rcases List.mem_append.mp hx with hx | hx
      · exact td_tm (List.all_eq_true.mp termL_ok x hx)
      · exact q1 x hx
    · exact endL_tm hx
  have e0 : mLst (mCons (mTup (mNil)) (mCons (mC .none) (mCons (mC (.str "")) (mCons (mC (.int 0)) (mNil))))) rho m1 = .ok (.n (.list endL)) m1 := by
    unfold endL
    array_get_dec
  have hit := x_items (add_run (w := .n (.list (termL ++ l))) (w2 := .n (.list endL)) (add_run (w := .d (.list termL)) (w2 := .n (.list l)) (var_run h8) e1 (x_addL (by omega))) e0 (x_addL (by rw [List.length_append]; omega))) rfl rfl
  generalize termL ++ l ++ endL = items at hT hit
  rw [show items = (List.range items.length).map fun i => items.getD i .none from by have := list_rg (l := items) (d := PyData.none) (f := id); rw [List.map_id] at this; exact this] at hit
  obtain ⟨r, m', e, j⟩ := for_rg (g := gN 9) (F := fun i => items.getD i .none) (n := items.length) (m := m1) (rho := rho) (c := B6) (fun _ r _ => r.length = 14) hl fun i hi rho m hl => b6 (hT _ (by rw [List.getD_eq_getElem?_getD, List.getElem?_eq_getElem hi]; exact List.getElem_mem hi)) hl
  exact ⟨r, m', for_run hit e, j⟩
def wrongL : List Str := ["", "Form", "term"]
theorem b7 {z : Str} {rho : Den.Env} {m1 : Mem} (hw : z ∈ wrongL) (hl : rho.length = 14) : Step (gN 12) B7 (.str z) rho m1 (fun r m' => m' = m1 ∧ r.length = 14) := by
  refine step_P (r1 := rho.set 12 (some (.d (.str z)))) rfl ?_
  have h12 : (rho.set 12 (some (.d (.str z))))[12]? = some (some (.d (.str z))) := List.getElem?_set_self (by omega)
  have hl : (rho.set 12 (some (.d (.str z)))).length = 14 := by rw [List.length_set]; exact hl
  generalize rho.set 12 (some (.d (.str z))) = rho at h12 hl
  have hz : tabAt T_FORMS z = some none := by
    unfold wrongL at hw
    simp only [List.mem_cons, List.not_mem_nil, or_false] at hw
    rcases hw with rfl | rfl | rfl <;> rfl
  have ec : (sSeq (sDrop (mCall 2 F_has_form (mCons (mVar 12) (mCons (mTup (mNil)) (mNil))))) (sSeq (sRet (mC (.bool false))) (sSkip))) rho m1 = .ex (.own "BadNumber") rho m1 := seq_ex (drop_ex (call_ex (n := 2) (ws := [.d (.str z), .d (.tuple [])]) (cons_run (var_run h12) (cons_run (w := .d (.tuple [])) (tup_run nil_run rfl rfl) nil_run)) (form_no hz) rfl))
  refine set_nx (rho' := rho.set 13 none) (m' := m1) ?_ ⟨_, m1, rfl, rfl, by rw [List.length_set]; exact hl⟩
  unfold sTryN
  rw [ec]
  show (match kindF "BadNumber" with | some y => if 13 < rho.length then (if y = "!number" then Out.nx (rho.set 13 none) m1 else .rt (.d (.bool false)) m1) else .no | none => .no) = _
  rw [show kindF "BadNumber" = some "!number" from kind_number]
  show (if 13 < rho.length then (if ("!number" : Str) = "!number" then Out.nx (rho.set 13 none) m1 else .rt (.d (.bool false)) m1) else .no) = _
  rw [if_pos (by omega), if_pos rfl]
theorem s7 (hl : rho.length = 14) : ∃ r, S7 rho m = .nx r m := by
  have hit : mItems (mLst (mCons (mC (.str "")) (mCons (mC (.str "Form")) (mCons (mC (.str "term")) (mNil))))) rho m = .ok (wrongL.map .str) m := x_items (w := .n (.list (wrongL.map .str))) (by unfold wrongL; array_get_dec) rfl rfl
  rw [list_rg (l := wrongL) (d := "") (f := PyData.str)] at hit
  obtain ⟨r, m', e, j⟩ := for_rg (g := gN 12) (F := fun i => .str (wrongL.getD i "")) (n := wrongL.length) (m := m) (rho := rho) (c := B7) (fun _ r m' => m' = m ∧ r.length = 14) ⟨rfl, hl⟩ fun i hi rho m1 ⟨hm, hl⟩ => by
    rw [← hm]
    exact b7 (by rw [List.getD_eq_getElem?_getD, List.getElem?_eq_getElem hi]; exact List.getElem_mem hi) hl
  rw [j.1] at e
  exact ⟨r, for_run hit e⟩
end
end Law
set_option exponentiation.threshold 10000
namespace Law
open PySem PySem.Spec PyProof.Rows L2 Den
/-! the executor: lookups (sizeOf_list_dec), calls of the program's functions (array_mem_dec, to be told more), all else (array_get_dec) -/
local macro_rules | `(tactic| sizeOf_list_dec) => `(tactic| repeat' (first
  | (with_reducible (show _ = _; assumption))
  | ((with_reducible apply set_ne'); · decide)
  | ((with_reducible apply wipe_ne'); · decide)
  | ((with_reducible apply set_eq'); · ((try simp only [List.length_set, wipe_len, List.length_cons, List.length_nil]); omega))
  | with_reducible exact look_Z
  | with_reducible apply look_S
  | rfl))
local macro_rules | `(tactic| array_get_dec) => `(tactic| repeat' (first
  | with_reducible exact const_run
  | ((with_reducible apply x_constE); rfl)
  | with_reducible (show _ = _; assumption)
  | ((with_reducible apply var_run); sizeOf_list_dec)
  | ((with_reducible apply set_ne'); · decide)
  | ((with_reducible apply wipe_ne'); · decide)
  | ((with_reducible apply set_eq'); · ((try simp only [List.length_set, wipe_len, List.length_cons, List.length_nil]); omega))
  | with_reducible exact look_Z
  | with_reducible apply look_S
  | with_reducible exact nil_run
  | with_reducible apply cons_run
  | with_reducible apply x_bool
  | with_reducible apply x_tru
  | with_reducible apply x_notT
  | with_reducible apply x_andT
  | with_reducible apply x_orT
  | with_reducible apply x_andV
  | with_reducible apply x_orV
  | with_reducible apply x_notV
  | with_reducible apply x_if
  | with_reducible apply x_chain
  | with_reducible apply x_chain3
  | with_reducible apply add_run
  | with_reducible apply x_sub
  | with_reducible apply x_mul
  | with_reducible apply x_mod
  | with_reducible apply x_neg
  | with_reducible apply ix_run
  | with_reducible apply op_run
  | with_reducible apply b_run
  | with_reducible apply x_call
  | with_reducible exact x_dnew
  | with_reducible apply x_new
  | with_reducible apply x_maxDf
  | with_reducible apply x_starL
  | with_reducible apply tup_run
  | with_reducible apply lst_run
  | with_reducible apply x_items
  | with_reducible apply x_zipR
  | with_reducible apply x_zipB
  | with_reducible apply x_enumR
  | with_reducible apply x_enum
  | with_reducible apply x_rangeN
  | with_reducible apply x_range
  | with_reducible apply x_lc
  | with_reducible apply x_lcF
  | ((with_reducible apply x_slFromS); · array_get_dec)
  | ((with_reducible apply x_slFromR); · array_get_dec)
  | ((with_reducible apply x_slFromRL); · array_get_dec)
  | ((with_reducible apply x_slToR); · array_get_dec)
  | ((with_reducible apply x_slFrom); · array_get_dec)
  | ((with_reducible apply x_slTo); · array_get_dec)
  | with_reducible apply s_ret
  | with_reducible apply s_seq
  | with_reducible apply s_asg
  | with_reducible apply s_asgR
  | with_reducible apply s_par
  | with_reducible apply s_tup
  | with_reducible apply s_aug
  | with_reducible apply s_app
  | with_reducible apply s_drop
  | with_reducible exact s_skip
  | simp only [val_d, val_n, val_r, val_s]
  | with_reducible exact set_Z
  | with_reducible apply set_S
  | with_reducible apply x_gT2
  | with_reducible apply x_gN
  | with_reducible apply x_gT
  | with_reducible exact x_gA0
  | with_reducible apply x_gA
  | array_mem_dec
  | with_reducible apply x_addL
  | with_reducible apply x_addT
  | with_reducible exact l2_add
  | with_reducible exact l2_le
  | with_reducible exact l2_lt
  | with_reducible exact l2_gt
  | with_reducible exact l2_ge
  | with_reducible exact l2_eq
  | with_reducible exact l2_ne
  | with_reducible exact l2_inN
  | with_reducible exact l2_ninN
  | with_reducible exact l2_gtP
  | with_reducible exact l2_ltP
  | with_reducible exact l2_eqS
  | with_reducible exact l2_neS
  | ((with_reducible show lift2 _ _ _ _ = _); rfl)
  | with_reducible apply x_ixT
  | with_reducible apply x_ixL
  | with_reducible apply x_ixR
  | ((with_reducible show fIx _ _ _ = _); rfl)
  | with_reducible exact x_lenRgT
  | with_reducible exact x_lenRgL
  | ((with_reducible show fD1 _ _ _ = _); exact x_D1 rfl all_map)
  | with_reducible apply x_N1
  | with_reducible apply peek_of
  | ((with_reducible show fD1 _ _ _ = _); exact x_D1 rfl any_map)
  | ((with_reducible show fD1 _ _ _ = _); exact x_D1 rfl sum_map)
  | ((with_reducible show fTup _ _ = _); exact x_tup rfl rfl)
  | with_reducible apply x_tupR
  | with_reducible apply x_lenR
  | with_reducible exact m_get0 _ _ _
  | with_reducible exact m_get1 _ _ _ _
  | with_reducible exact m_get2 _ _ _ _ _
  | with_reducible exact m_get3 _ _ _ _ _ _
  | with_reducible exact m_set0 _ _ _ _
  | with_reducible exact m_set1 _ _ _ _ _
  | with_reducible exact m_set2 _ _ _ _ _ _
  | with_reducible exact m_set3 _ _ _ _ _ _ _
  | with_reducible exact m_last _ _
  | with_reducible exact m_setL _ _ _
  | ((with_reducible show fD1 _ _ _ = _); rfl)
  | ((with_reducible show truW _ _ = _); rfl)
  | ((with_reducible show _ = PyData.tuple [_, _]); rfl)
  | ((with_reducible show frz _ _ = _); rfl)
  | ((with_reducible show frzAll _ _ = _); rfl)
  | ((with_reducible show seqOf _ = _); rfl)
  | ((with_reducible show peek _ (W.d _) = _); rfl)
  | ((with_reducible show List.length (_ :: _) = _); rfl)
  | ((with_reducible show List.length [] = _); rfl)
  | ((with_reducible show small _ = _); rfl)
  | (apply small_le; simp only [List.length_map, List.length_cons, List.length_nil, List.length_range, List.length_zip, List.length_zipIdx, List.length_drop, List.length_take, List.length_append]; omega)
  | with_reducible rfl
  | (show _ < _; assumption)
  | (show _ ≤ _; assumption)
  | (apply rg_get; first | assumption | omega | (simp only [List.mem_range] at *; omega))
  | (show ∀ x ∈ _, _; intro x hx)
  | (show _ = true → _; intro hp)
  | (show _ = false → _; intro hp)
  | (simp only [List.length_map, List.length_cons, List.length_nil, List.length_range, List.length_zip, List.length_zipIdx, List.length_drop, List.length_take, List.length_append, Nat.reduceLeDiff, Nat.reduceAdd]; done)
  | (simp only [List.length_map, List.length_cons, List.length_nil, List.length_range, List.length_zip, List.length_zipIdx, List.length_drop, List.length_take, List.length_append]; omega)
  | omega
  | (simp only [List.mem_range, List.length_map, List.length_range, List.length_cons, List.length_nil, List.length_append] at *; omega)))
/-! k21: the law -/
theorem law_true (ns : List Int) (hl : ns.length ≤ 63) : F_law [.s (ns.map .int)] [] = .ok (.d (.bool true)) [] := by
  have key : Fine (m_law (startE 14 [.s (ns.map .int)]) []) := by
    obtain ⟨ds, e0, r0, l0⟩ := draws_ok ns hl
    have d0 : Dr 3780 0 [some (.list (ds.map .int))] := ⟨ds, rfl, r0, l0⟩
    obtain ⟨es, m1, e1, r1, l1, len1⟩ := more_ok (k := 200) d0 (by decide) (by decide) (by decide)
    have len1' : m1.length = 1 := len1
    have d1 : Dr 3980 1 (m1 ++ [some (.list (es.map .int))]) := ⟨es, by have := get_last m1 (some (PyData.list (es.map .int))); rw [len1'] at this; exact this, r1, l1⟩
    have s0 : S0 (startE 14 [.s (ns.map .int)]) [] = .nx ((startE 14 [.s (ns.map .int)]).set 1 (some (.r 0))) [some (.list (ds.map .int))] := by
      have c := call_run (n := 1) (fm := F__law_draws) (cons_run (var_run (i := 0) (rho := startE 14 [.s (ns.map .int)]) (m := []) (w := .s (ns.map .int)) rfl) nil_run) rfl e0
      show sSetR 1 _ _ _ = _
      rw [e_SetR, c]; rfl
    have s1 : S1 ((startE 14 [.s (ns.map .int)]).set 1 (some (.r 0))) [some (.list (ds.map .int))] = .nx (((startE 14 [.s (ns.map .int)]).set 1 (some (.r 0))).set 1 (some (.r 1))) (m1 ++ [some (.list (es.map .int))]) := by
      have c := call_run (n := 2) (fm := F__law_more) (cons_run (var_run (i := 1) (rho := (startE 14 [.s (ns.map .int)]).set 1 (some (.r 0))) (m := [some (.list (ds.map .int))]) (w := .r 0) rfl) (cons_run (const_run (v := .int 200)) nil_run)) rfl e1
      show sSetR 1 _ _ _ = _
      rw [e_SetR, c, ev_thenS]
      dsimp only
      rw [len1']
    unfold m_law
    refine seq_step s0 ?_
    refine seq_step s1 ?_
    have f1 : (((startE 14 [.s (ns.map .int)]).set 1 (some (.r 0))).set 1 (some (.r 1)))[1]? = some (some (.r 1)) := rfl
    have hl : (((startE 14 [.s (ns.map .int)]).set 1 (some (.r 0))).set 1 (some (.r 1))).length = 14 := rfl
    generalize ((startE 14 [.s (ns.map .int)]).set 1 (some (.r 0))).set 1 (some (.r 1)) = rho at f1 hl
    generalize (m1 ++ [some (PyData.list (es.map .int))] : Mem) = m at d1
    refine seq_step s2 ?_
    obtain ⟨r, m', e3, g1, gl, gd, _⟩ := s3 d1 f1 hl
    refine seq_step e3 ?_
    refine seq_step (s4 gl) ?_
    refine seq_step s5 ?_
    have h1 : (r.set 8 (some (.d (.list termL))))[1]? = some (some (.r 1)) := by rw [List.getElem?_set_ne (by decide)]; exact g1
    have h8 : (r.set 8 (some (.d (.list termL))))[8]? = some (some (.d (.list termL))) := List.getElem?_set_self (by omega)
    have hl8 : (r.set 8 (some (.d (.list termL)))).length = 14 := by rw [List.length_set]; exact gl
    obtain ⟨r6, m6, e6, l6⟩ := s6 gd h1 h8 hl8
    refine seq_step e6 ?_
    obtain ⟨r7, e7⟩ := s7 (m := m6) l6
    refine seq_step e7 ?_
    exact ⟨m6, seq_ret (by rfl)⟩
  obtain ⟨mf, h⟩ := key
  unfold F_law runF
  rw [h]; rfl
end Law
open PySem PySem.W PyProof.Rows
set_option maxHeartbeats 0 in
theorem PySem.Challenge.cw_queuenets_k21_lines_and_forms_holds : PySem.Challenge.rw_queuenets_k21_lines_and_forms.Holds := by
  w_on; o_law; k_head; (case hw => w_witness2)
  k_fill
  refine Den.walk_G (l := PySem.Challenge.rw_queuenets_k21_lines_and_forms) (n := 63) (k := 10) (x := "script") (fm := Law.F_law) rfl (by decide) rfl ⟨rfl, by decide, by decide⟩ rfl (fun w h Y => PySem.W.kIn_of Y) ?F (fun ns hl => Law.law_true ns hl)
  case F =>
    intro w mg fa h KX G hmg
    refine' Law.all_mk KX G hmg ?a_is_integer ?l_is_integer ?c_is_integer ?k_is_integer ?a_is_row ?l_is_row ?c_is_row ?k_is_row ?a_are_pairs ?l_are_pairs ?c_are_pairs ?k_are_pairs ?a_is_told_rate ?l_is_told_rate ?c_is_told_rate ?k_is_told_rate ?a_is_told_chain ?l_is_told_chain ?c_is_told_chain ?k_is_told_chain ?a_is_told_station ?l_is_told_station ?c_is_told_station ?k_is_told_station ?a_are_steps ?l_are_steps ?c_are_steps ?k_are_steps ?a_are_slots ?l_are_slots ?c_are_slots ?k_are_slots ?a_has_form ?l_has_form ?c_has_form ?k_has_form ?a_words_of ?l_words_of ?c_words_of ?k_words_of ?a_is_name ?l_is_name ?c_is_name ?k_is_name ?a_number_in ?l_number_in ?c_number_in ?k_number_in ?a__law_number ?l__law_number ?c__law_number ?k__law_number ?a__law_draws ?l__law_draws ?c__law_draws ?k__law_draws ?a__law_next ?l__law_next ?c__law_next ?k__law_next ?a__law_more ?l__law_more ?c__law_more ?k__law_more ?a__law_pick ?l__law_pick ?c__law_pick ?k__law_pick ?a__law_kind ?l__law_kind ?c__law_kind ?k__law_kind ?a__law_line ?l__law_line ?c__law_line ?k__law_line ?a__law_number_of ?l__law_number_of ?c__law_number_of ?k__law_number_of ?a__law_is_row ?l__law_is_row ?c__law_is_row ?k__law_is_row ?a__law_are_pairs ?l__law_are_pairs ?c__law_are_pairs ?k__law_are_pairs ?a__law_due ?l__law_due ?c__law_due ?k__law_due ?a__law_spoilt ?l__law_spoilt ?c__law_spoilt ?k__law_spoilt ?a_law ?l_law ?c_law ?k_law ?z_all ?z_int ?z_isinstance ?z_len ?z_range ?z_repr ?z_str ?z_tuple ?v_FIGURES ?v_SMALL ?g_NotChain ?s_NotChain ?y_NotChain ?g_NotNet ?s_NotNet ?y_NotNet ?g_NotTrace ?s_NotTrace ?y_NotTrace ?g_NotPaper ?s_NotPaper ?y_NotPaper ?g_BadNumber ?s_BadNumber ?y_BadNumber ?g_NoAnswer ?s_NoAnswer ?y_NoAnswer ?g_TooLarge ?s_TooLarge ?y_TooLarge ?g_QueueError ?s_QueueError ?y_QueueError ?a_FORMS ?l_FORMS ?k_FORMS ?s_FORMS ?n_FORMS_0 ?n_FORMS_1 ?n_FORMS_2 ?n_FORMS_3 ?n_FORMS_4 ?n_FORMS_5 ?z_FORMS_0 ?z_FORMS_1 ?z_FORMS_2 ?e_BadNumber ?p_BadNumber ?q_h ?q_n ?q_t ?u_NotChain ?n1_NotChain ?n2_NotChain ?n3_NotChain ?n4_NotChain ?n5_NotChain ?kit_NotChain_NotChain ?kit_NotChain_NotNet ?kit_NotChain_NotTrace ?kit_NotChain_NotPaper ?kit_NotChain_BadNumber ?kit_NotChain_NoAnswer ?kit_NotChain_TooLarge ?u_NotNet ?n1_NotNet ?n2_NotNet ?n3_NotNet ?n4_NotNet ?n5_NotNet ?kit_NotNet_NotChain ?kit_NotNet_NotNet ?kit_NotNet_NotTrace ?kit_NotNet_NotPaper ?kit_NotNet_BadNumber ?kit_NotNet_NoAnswer ?kit_NotNet_TooLarge ?u_NotTrace ?n1_NotTrace ?n2_NotTrace ?n3_NotTrace ?n4_NotTrace ?n5_NotTrace ?kit_NotTrace_NotChain ?kit_NotTrace_NotNet ?kit_NotTrace_NotTrace ?kit_NotTrace_NotPaper ?kit_NotTrace_BadNumber ?kit_NotTrace_NoAnswer ?kit_NotTrace_TooLarge ?u_NotPaper ?n1_NotPaper ?n2_NotPaper ?n3_NotPaper ?n4_NotPaper ?n5_NotPaper ?kit_NotPaper_NotChain ?kit_NotPaper_NotNet ?kit_NotPaper_NotTrace ?kit_NotPaper_NotPaper ?kit_NotPaper_BadNumber ?kit_NotPaper_NoAnswer ?kit_NotPaper_TooLarge ?u_BadNumber ?n1_BadNumber ?n2_BadNumber ?n3_BadNumber ?n4_BadNumber ?n5_BadNumber ?kit_BadNumber_NotChain ?kit_BadNumber_NotNet ?kit_BadNumber_NotTrace ?kit_BadNumber_NotPaper ?kit_BadNumber_BadNumber ?kit_BadNumber_NoAnswer ?kit_BadNumber_TooLarge ?u_NoAnswer ?n1_NoAnswer ?n2_NoAnswer ?n3_NoAnswer ?n4_NoAnswer ?n5_NoAnswer ?kit_NoAnswer_NotChain ?kit_NoAnswer_NotNet ?kit_NoAnswer_NotTrace ?kit_NoAnswer_NotPaper ?kit_NoAnswer_BadNumber ?kit_NoAnswer_NoAnswer ?kit_NoAnswer_TooLarge ?u_TooLarge ?n1_TooLarge ?n2_TooLarge ?n3_TooLarge ?n4_TooLarge ?n5_TooLarge ?kit_TooLarge_NotChain ?kit_TooLarge_NotNet ?kit_TooLarge_NotTrace ?kit_TooLarge_NotPaper ?kit_TooLarge_BadNumber ?kit_TooLarge_NoAnswer ?kit_TooLarge_TooLarge
    (case a_is_integer => k_is)
    (case l_is_integer => k_is)
    (case c_is_integer => k_is)
    (case k_is_integer => k_is)
    (case a_is_row => k_is)
    (case l_is_row => k_is)
    (case c_is_row => k_is)
    (case k_is_row => k_is)
    (case a_are_pairs => k_is)
    (case l_are_pairs => k_is)
    (case c_are_pairs => k_is)
    (case k_are_pairs => k_is)
    (case a_is_told_rate => k_is)
    (case l_is_told_rate => k_is)
    (case c_is_told_rate => k_is)
    (case k_is_told_rate => k_is)
    (case a_is_told_chain => k_is)
    (case l_is_told_chain => k_is)
    (case c_is_told_chain => k_is)
    (case k_is_told_chain => k_is)
    (case a_is_told_station => k_is)
    (case l_is_told_station => k_is)
    (case c_is_told_station => k_is)
    (case k_is_told_station => k_is)
    (case a_are_steps => k_is)
    (case l_are_steps => k_is)
    (case c_are_steps => k_is)
    (case k_are_steps => k_is)
    (case a_are_slots => k_is)
    (case l_are_slots => k_is)
    (case c_are_slots => k_is)
    (case k_are_slots => k_is)
    (case a_has_form => k_is)
    (case l_has_form => k_is)
    (case c_has_form => k_is)
    (case k_has_form => k_is)
    (case a_words_of => k_is)
    (case l_words_of => k_is)
    (case c_words_of => k_is)
    (case k_words_of => k_is)
    (case a_is_name => k_is)
    (case l_is_name => k_is)
    (case c_is_name => k_is)
    (case k_is_name => k_is)
    (case a_number_in => k_is)
    (case l_number_in => k_is)
    (case c_number_in => k_is)
    (case k_number_in => k_is)
    (case a__law_number => k_is)
    (case l__law_number => k_is)
    (case c__law_number => k_is)
    (case k__law_number => k_is)
    (case a__law_draws => k_is)
    (case l__law_draws => k_is)
    (case c__law_draws => k_is)
    (case k__law_draws => k_is)
    (case a__law_next => k_is)
    (case l__law_next => k_is)
    (case c__law_next => k_is)
    (case k__law_next => k_is)
    (case a__law_more => k_is)
    (case l__law_more => k_is)
    (case c__law_more => k_is)
    (case k__law_more => k_is)
    (case a__law_pick => k_is)
    (case l__law_pick => k_is)
    (case c__law_pick => k_is)
    (case k__law_pick => k_is)
    (case a__law_kind => k_is)
    (case l__law_kind => k_is)
    (case c__law_kind => k_is)
    (case k__law_kind => k_is)
    (case a__law_line => k_is)
    (case l__law_line => k_is)
    (case c__law_line => k_is)
    (case k__law_line => k_is)
    (case a__law_number_of => k_is)
    (case l__law_number_of => k_is)
    (case c__law_number_of => k_is)
    (case k__law_number_of => k_is)
    (case a__law_is_row => k_is)
    (case l__law_is_row => k_is)
    (case c__law_is_row => k_is)
    (case k__law_is_row => k_is)
    (case a__law_are_pairs => k_is)
    (case l__law_are_pairs => k_is)
    (case c__law_are_pairs => k_is)
    (case k__law_are_pairs => k_is)
    (case a__law_due => k_is)
    (case l__law_due => k_is)
    (case c__law_due => k_is)
    (case k__law_due => k_is)
    (case a__law_spoilt => k_is)
    (case l__law_spoilt => k_is)
    (case c__law_spoilt => k_is)
    (case k__law_spoilt => k_is)
    (case a_law => k_is)
    (case l_law => k_is)
    (case c_law => k_is)
    (case k_law => k_is)
    (case z_all => k_is)
    (case z_int => k_is)
    (case z_isinstance => k_is)
    (case z_len => k_is)
    (case z_range => k_is)
    (case z_repr => k_is)
    (case z_str => k_is)
    (case z_tuple => k_is)
    (case v_FIGURES => k_is)
    (case v_SMALL => k_is)
    (case g_NotChain => k_is)
    (case s_NotChain => k_is)
    (case y_NotChain => k_is)
    (case g_NotNet => k_is)
    (case s_NotNet => k_is)
    (case y_NotNet => k_is)
    (case g_NotTrace => k_is)
    (case s_NotTrace => k_is)
    (case y_NotTrace => k_is)
    (case g_NotPaper => k_is)
    (case s_NotPaper => k_is)
    (case y_NotPaper => k_is)
    (case g_BadNumber => k_is)
    (case s_BadNumber => k_is)
    (case y_BadNumber => k_is)
    (case g_NoAnswer => k_is)
    (case s_NoAnswer => k_is)
    (case y_NoAnswer => k_is)
    (case g_TooLarge => k_is)
    (case s_TooLarge => k_is)
    (case y_TooLarge => k_is)
    (case g_QueueError => k_is)
    (case s_QueueError => k_is)
    (case y_QueueError => k_is)
    (case a_FORMS => k_is)
    (case l_FORMS => k_is)
    (case k_FORMS => k_keys)
    (case s_FORMS => decide)
    (case n_FORMS_0 => k_is)
    (case n_FORMS_1 => k_is)
    (case n_FORMS_2 => k_is)
    (case n_FORMS_3 => k_is)
    (case n_FORMS_4 => k_is)
    (case n_FORMS_5 => k_is)
    (case z_FORMS_0 => k_is)
    (case z_FORMS_1 => k_is)
    (case z_FORMS_2 => k_is)
    (case e_BadNumber => k_exc)
    (case p_BadNumber => k_is)
    (case q_h => k_is)
    (case q_n => k_is)
    (case q_t => k_is)
    (case u_NotChain => k_is)
    (case n1_NotChain => k_is)
    (case n2_NotChain => k_is)
    (case n3_NotChain => k_is)
    (case n4_NotChain => k_is)
    (case n5_NotChain => k_is)
    (case kit_NotChain_NotChain => kit_is)
    (case kit_NotChain_NotNet => kit_is)
    (case kit_NotChain_NotTrace => kit_is)
    (case kit_NotChain_NotPaper => kit_is)
    (case kit_NotChain_BadNumber => kit_is)
    (case kit_NotChain_NoAnswer => kit_is)
    (case kit_NotChain_TooLarge => kit_is)
    (case u_NotNet => k_is)
    (case n1_NotNet => k_is)
    (case n2_NotNet => k_is)
    (case n3_NotNet => k_is)
    (case n4_NotNet => k_is)
    (case n5_NotNet => k_is)
    (case kit_NotNet_NotChain => kit_is)
    (case kit_NotNet_NotNet => kit_is)
    (case kit_NotNet_NotTrace => kit_is)
    (case kit_NotNet_NotPaper => kit_is)
    (case kit_NotNet_BadNumber => kit_is)
    (case kit_NotNet_NoAnswer => kit_is)
    (case kit_NotNet_TooLarge => kit_is)
    (case u_NotTrace => k_is)
    (case n1_NotTrace => k_is)
    (case n2_NotTrace => k_is)
    (case n3_NotTrace => k_is)
    (case n4_NotTrace => k_is)
    (case n5_NotTrace => k_is)
    (case kit_NotTrace_NotChain => kit_is)
    (case kit_NotTrace_NotNet => kit_is)
    (case kit_NotTrace_NotTrace => kit_is)
    (case kit_NotTrace_NotPaper => kit_is)
    (case kit_NotTrace_BadNumber => kit_is)
    (case kit_NotTrace_NoAnswer => kit_is)
    (case kit_NotTrace_TooLarge => kit_is)
    (case u_NotPaper => k_is)
    (case n1_NotPaper => k_is)
    (case n2_NotPaper => k_is)
    (case n3_NotPaper => k_is)
    (case n4_NotPaper => k_is)
    (case n5_NotPaper => k_is)
    (case kit_NotPaper_NotChain => kit_is)
    (case kit_NotPaper_NotNet => kit_is)
    (case kit_NotPaper_NotTrace => kit_is)
    (case kit_NotPaper_NotPaper => kit_is)
    (case kit_NotPaper_BadNumber => kit_is)
    (case kit_NotPaper_NoAnswer => kit_is)
    (case kit_NotPaper_TooLarge => kit_is)
    (case u_BadNumber => k_is)
    (case n1_BadNumber => k_is)
    (case n2_BadNumber => k_is)
    (case n3_BadNumber => k_is)
    (case n4_BadNumber => k_is)
    (case n5_BadNumber => k_is)
    (case kit_BadNumber_NotChain => kit_is)
    (case kit_BadNumber_NotNet => kit_is)
    (case kit_BadNumber_NotTrace => kit_is)
    (case kit_BadNumber_NotPaper => kit_is)
    (case kit_BadNumber_BadNumber => kit_is)
    (case kit_BadNumber_NoAnswer => kit_is)
    (case kit_BadNumber_TooLarge => kit_is)
    (case u_NoAnswer => k_is)
    (case n1_NoAnswer => k_is)
    (case n2_NoAnswer => k_is)
    (case n3_NoAnswer => k_is)
    (case n4_NoAnswer => k_is)
    (case n5_NoAnswer => k_is)
    (case kit_NoAnswer_NotChain => kit_is)
    (case kit_NoAnswer_NotNet => kit_is)
    (case kit_NoAnswer_NotTrace => kit_is)
    (case kit_NoAnswer_NotPaper => kit_is)
    (case kit_NoAnswer_BadNumber => kit_is)
    (case kit_NoAnswer_NoAnswer => kit_is)
    (case kit_NoAnswer_TooLarge => kit_is)
    (case u_TooLarge => k_is)
    (case n1_TooLarge => k_is)
    (case n2_TooLarge => k_is)
    (case n3_TooLarge => k_is)
    (case n4_TooLarge => k_is)
    (case n5_TooLarge => k_is)
    (case kit_TooLarge_NotChain => kit_is)
    (case kit_TooLarge_NotNet => kit_is)
    (case kit_TooLarge_NotTrace => kit_is)
    (case kit_TooLarge_NotPaper => kit_is)
    (case kit_TooLarge_BadNumber => kit_is)
    (case kit_TooLarge_NoAnswer => kit_is)
    (case kit_TooLarge_TooLarge => kit_is)
